/- Made by a program of this work out of the program: tables and plain functions, with the proof that each Go function does what its plain function says. No conditions. -/
import Derived.Test.YtafhfllnkijfhaaEe
import Derived.Test.YtafhfllnkijfhaaProg
namespace Go.Ai.G
open Go.Proofs
open Go.Ai
set_option linter.unusedVariables false
set_option maxRecDepth 100000

noncomputable def tys : List (Option Ty) := [none,
 some (.opt .unit),
 some (.int .i64),
 some (.int .i64),
 some .bool,
 some (.int .u8),
 none,
 none,
 none,
 none,
 none,
 none,
 none,
 none,
 none,
 none,
 none,
 none,
 none,
 none,
 none,
 none,
 none,
 some (.pair (.int .i64) (.pair (.int .i64) (.pair (.int .i64) .unit))),
 some (.slice (.int .u8)),
 none,
 none,
 some (.pair (.int .i64) (.pair (.int .i64) (.pair (.int .i64) .unit))),
 none,
 none,
 none,
 none,
 none,
 none,
 some (.int .u32),
 none,
 none,
 none,
 none,
 none,
 none,
 none,
 none,
 none,
 none,
 none,
 none,
 some (.slice (.slice (.int .u8))),
 none,
 none,
 none,
 none,
 none,
 none,
 none,
 none,
 none,
 none,
 none,
 some (.opt (.pair (.int .i64) (.pair (.int .i64) (.pair (.int .i64) .unit)))),
 none,
 none,
 none,
 none,
 none,
 none,
 none,
 none,
 none,
 none,
 none,
 none,
 none,
 none,
 some (.opt .unit),
 none,
 none,
 none,
 none,
 none,
 none,
 some (.opt (.pair (.arr 256 (.int .u32)) (.pair (.int .u32) .unit))),
 none,
 some (.arr 256 (.int .u32)),
 none,
 some (.pair (.arr 256 (.int .u32)) (.pair (.int .u32) .unit)),
 none,
 none,
 none,
 some (.int .u64),
 none,
 some (.arr 8 (.int .u32)),
 none,
 none,
 some (.arr 32 (.int .u8)),
 none,
 some (.int .u64),
 none,
 none,
 none,
 none,
 none,
 none,
 none,
 none,
 none,
 none,
 none,
 none,
 none,
 none,
 none,
 none,
 none,
 none]
noncomputable def tbytes : List Nat := [0, 8, 8, 8, 1, 1, 1, 24, 24, 16, 16, 16, 8, 24, 24, 8, 8, 8, 8, 8, 16, 4, 24, 24, 24, 0, 8, 24, 8, 8, 8, 8, 0, 8, 4, 56, 56, 8, 0, 8, 56, 56, 8, 8, 8, 8, 8, 24, 0, 8, 8, 8, 8, 24, 0, 8, 8, 8, 8, 8, 8, 8, 8, 8, 8, 8, 8, 8, 8, 8, 0, 8, 8, 8, 8, 0, 8, 8, 8, 8, 8, 8, 8, 1024, 1028, 1028, 8, 8, 8, 8, 8, 32, 8, 8, 32, 8, 8, 8, 8, 8, 40, 40, 0, 0, 0, 8, 1, 1, 8, 8, 4, 4, 48, 48, 8]
noncomputable def telem : List Nat := [0, 0, 0, 0, 0, 0, 0, 0, 0, 0, 0, 0, 0, 0, 0, 0, 0, 0, 0, 0, 0, 0, 0, 0, 5, 0, 0, 0, 0, 0, 0, 0, 0, 0, 0, 0, 0, 0, 0, 0, 0, 0, 0, 0, 0, 0, 0, 24, 0, 0, 0, 0, 0, 2, 0, 0, 0, 0, 0, 0, 0, 0, 0, 0, 0, 0, 0, 0, 0, 0, 0, 0, 0, 0, 0, 0, 0, 0, 0, 0, 0, 0, 0, 0, 0, 0, 0, 0, 0, 0, 0, 0, 0, 0, 0, 0, 0, 0, 0, 0, 0, 0, 0, 0, 0, 0, 0, 0, 0, 0, 0, 0, 0, 0, 0]
noncomputable def nozero : List Nat := [0, 1, 6, 7, 8, 9, 10, 11, 12, 13, 14, 15, 16, 17, 18, 19, 20, 21, 22, 25, 26, 28, 29, 30, 31, 32, 33, 35, 36, 37, 38, 39, 40, 41, 42, 43, 44, 45, 46, 48, 49, 50, 51, 52, 53, 54, 55, 56, 57, 58, 60, 61, 62, 63, 64, 65, 66, 67, 68, 69, 70, 71, 72, 73, 74, 75, 76, 77, 78, 79, 80, 82, 84, 86, 87, 88, 90, 92, 93, 95, 97, 98, 99, 100, 101, 102, 103, 104, 105, 106, 107, 108, 109, 110, 111, 112, 113, 114]
noncomputable def dps : List (Nat × DS) := [(24, (.sl 5 (.pl (.int .u8)))), (47, (.sl 24 (.sl 5 (.pl (.int .u8)))))]
theorem tabs_ok : rowsB Try.prog (mkCx tys tbytes telem nozero (fun _ => none) (fun _ => none) (fun _ => none) (fun _ => none) (fun _ _ => none) 0 []) 0 tys = true := by kernel_rfl
theorem mixed_ok : Try.prog.follows .mixedOrders = true := by kernel_rfl
noncomputable def laws_FnExactChunksOf_c : Code := (Try.f6.body).getD .skip
noncomputable def laws_FnExactChunksOf_i : Inl := { code := laws_FnExactChunksOf_c, ntmps := Try.f6.ntmps, results := Try.f6.results.toList }
theorem laws_FnExactChunksOf_ok : InlOk Try.prog 6 laws_FnExactChunksOf_i := inlOk_of Try.func6 rfl (by kernel_rfl) (by kernel_rfl)
noncomputable def laws_toCutRule_c : Code := (Try.f9.body).getD .skip
noncomputable def laws_toCutRule_i : Inl := { code := laws_toCutRule_c, ntmps := Try.f9.ntmps, results := Try.f9.results.toList }
theorem laws_toCutRule_ok : InlOk Try.prog 9 laws_toCutRule_i := inlOk_of Try.func9 rfl (by kernel_rfl) (by kernel_rfl)
noncomputable def laws_toByteS_c : Code := (Try.f10.body).getD .skip
noncomputable def laws_toByteS_i : Inl := { code := laws_toByteS_c, ntmps := Try.f10.ntmps, results := Try.f10.results.toList }
theorem laws_toByteS_ok : InlOk Try.prog 10 laws_toByteS_i := inlOk_of Try.func10 rfl (by kernel_rfl) (by kernel_rfl)
noncomputable def laws_eqByteS_c : Code := (Try.f12.body).getD .skip
noncomputable def laws_eqByteS_i : Inl := { code := laws_eqByteS_c, ntmps := Try.f12.ntmps, results := Try.f12.results.toList }
theorem laws_eqByteS_ok : InlOk Try.prog 12 laws_eqByteS_i := inlOk_of Try.func12 rfl (by kernel_rfl) (by kernel_rfl)
noncomputable def laws_markByteS_c : Code := (Try.f21.body).getD .skip
noncomputable def laws_markByteS_i : Inl := { code := laws_markByteS_c, ntmps := Try.f21.ntmps, results := Try.f21.results.toList }
theorem laws_markByteS_ok : InlOk Try.prog 21 laws_markByteS_i := inlOk_of Try.func21 rfl (by kernel_rfl) (by kernel_rfl)
noncomputable def laws_heldByteS_c : Code := (Try.f22.body).getD .skip
noncomputable def laws_heldByteS_i : Inl := { code := laws_heldByteS_c, ntmps := Try.f22.ntmps, results := Try.f22.results.toList }
theorem laws_heldByteS_ok : InlOk Try.prog 22 laws_heldByteS_i := inlOk_of Try.func22 rfl (by kernel_rfl) (by kernel_rfl)
noncomputable def spec_ChunksOf_c : Code := (Try.f23.body).getD .skip
noncomputable def spec_ChunksOf_i : Inl := { code := spec_ChunksOf_c, ntmps := Try.f23.ntmps, results := Try.f23.results.toList }
theorem spec_ChunksOf_ok : InlOk Try.prog 23 spec_ChunksOf_i := inlOk_of Try.func23 rfl (by kernel_rfl) (by kernel_rfl)
noncomputable def impl_ChunksOf_c : Code := (Try.f24.body).getD .skip
noncomputable def impl_ChunksOf_i : Inl := { code := impl_ChunksOf_c, ntmps := Try.f24.ntmps, results := Try.f24.results.toList }
theorem impl_ChunksOf_ok : InlOk Try.prog 24 impl_ChunksOf_i := inlOk_of Try.func24 rfl (by kernel_rfl) (by kernel_rfl)
noncomputable def laws_eqByteSS_c : Code := (Try.f25.body).getD .skip
noncomputable def laws_eqByteSS_i : Inl := { code := laws_eqByteSS_c, ntmps := Try.f25.ntmps, results := Try.f25.results.toList }
theorem laws_eqByteSS_ok : InlOk Try.prog 25 laws_eqByteSS_i := inlOk_of Try.func25 rfl (by kernel_rfl) (by kernel_rfl)
noncomputable def laws_markByteSS_c : Code := (Try.f26.body).getD .skip
noncomputable def laws_markByteSS_i : Inl := { code := laws_markByteSS_c, ntmps := Try.f26.ntmps, results := Try.f26.results.toList }
theorem laws_markByteSS_ok : InlOk Try.prog 26 laws_markByteSS_i := inlOk_of Try.func26 rfl (by kernel_rfl) (by kernel_rfl)
noncomputable def laws_heldByteSS_c : Code := (Try.f27.body).getD .skip
noncomputable def laws_heldByteSS_i : Inl := { code := laws_heldByteSS_c, ntmps := Try.f27.ntmps, results := Try.f27.results.toList }
theorem laws_heldByteSS_ok : InlOk Try.prog 27 laws_heldByteSS_i := inlOk_of Try.func27 rfl (by kernel_rfl) (by kernel_rfl)
noncomputable def spec_l02Given_c : Code := (Try.f33.body).getD .skip
noncomputable def spec_l02Given_i : Inl := { code := spec_l02Given_c, ntmps := Try.f33.ntmps, results := Try.f33.results.toList }
theorem spec_l02Given_ok : InlOk Try.prog 33 spec_l02Given_i := inlOk_of Try.func33 rfl (by kernel_rfl) (by kernel_rfl)
noncomputable def spec_l02Chunks_c : Code := (Try.f34.body).getD .skip
noncomputable def spec_l02Chunks_i : Inl := { code := spec_l02Chunks_c, ntmps := Try.f34.ntmps, results := Try.f34.results.toList }
theorem spec_l02Chunks_ok : InlOk Try.prog 34 spec_l02Chunks_i := inlOk_of Try.func34 rfl (by kernel_rfl) (by kernel_rfl)
noncomputable def impl_ruleCode_c : Code := (Try.f36.body).getD .skip
noncomputable def impl_ruleCode_i : Inl := { code := impl_ruleCode_c, ntmps := Try.f36.ntmps, results := Try.f36.results.toList }
theorem impl_ruleCode_ok : InlOk Try.prog 36 impl_ruleCode_i := inlOk_of Try.func36 rfl (by kernel_rfl) (by kernel_rfl)
noncomputable def impl_CutRule_chunks_c : Code := (Try.f37.body).getD .skip
noncomputable def impl_CutRule_chunks_i : Inl := { code := impl_CutRule_chunks_c, ntmps := Try.f37.ntmps, results := Try.f37.results.toList }
theorem impl_CutRule_chunks_ok : InlOk Try.prog 37 impl_CutRule_chunks_i := inlOk_of Try.func37 rfl (by kernel_rfl) (by kernel_rfl)
noncomputable def slices_Clone_byte_byte_c : Code := (Try.f43.body).getD .skip
noncomputable def slices_Clone_byte_byte_i : Inl := { code := slices_Clone_byte_byte_c, ntmps := Try.f43.ntmps, results := Try.f43.results.toList }
theorem slices_Clone_byte_byte_ok : InlOk Try.prog 43 slices_Clone_byte_byte_i := inlOk_of Try.func43 rfl (by kernel_rfl) (by kernel_rfl)
noncomputable def spec_l02Ok_c : Code := (Try.f45.body).getD .skip
noncomputable def spec_l02Ok_i : Inl := { code := spec_l02Ok_c, ntmps := Try.f45.ntmps, results := Try.f45.results.toList }
theorem spec_l02Ok_ok : InlOk Try.prog 45 spec_l02Ok_i := inlOk_of Try.func45 rfl (by kernel_rfl) (by kernel_rfl)
noncomputable def spec_l02Feed_c : Code := (Try.f46.body).getD .skip
noncomputable def spec_l02Feed_i : Inl := { code := spec_l02Feed_c, ntmps := Try.f46.ntmps, results := Try.f46.results.toList }
theorem spec_l02Feed_ok : InlOk Try.prog 46 spec_l02Feed_i := inlOk_of Try.func46 rfl (by kernel_rfl) (by kernel_rfl)
noncomputable def impl_ValidRule_c : Code := (Try.f47.body).getD .skip
noncomputable def impl_ValidRule_i : Inl := { code := impl_ValidRule_c, ntmps := Try.f47.ntmps, results := Try.f47.results.toList }
theorem impl_ValidRule_ok : InlOk Try.prog 47 impl_ValidRule_i := inlOk_of Try.func47 rfl (by kernel_rfl) (by kernel_rfl)
noncomputable def slices_ContainsFunc_byte_byte_c : Code := (Try.f48.body).getD .skip
noncomputable def slices_ContainsFunc_byte_byte_i : Inl := { code := slices_ContainsFunc_byte_byte_c, ntmps := Try.f48.ntmps, results := Try.f48.results.toList }
theorem slices_ContainsFunc_byte_byte_ok : InlOk Try.prog 48 slices_ContainsFunc_byte_byte_i := inlOk_of Try.func48 rfl (by kernel_rfl) (by kernel_rfl)
noncomputable def impl_ruleCode_1_c : Code := (Try.f49.body).getD .skip
noncomputable def impl_ruleCode_1_i : Inl := { code := impl_ruleCode_1_c, ntmps := Try.f49.ntmps, results := Try.f49.results.toList }
theorem impl_ruleCode_1_ok : InlOk Try.prog 49 impl_ruleCode_1_i := inlOk_of Try.func49 rfl (by kernel_rfl) (by kernel_rfl)
noncomputable def impl_CutRule_cut_c : Code := (Try.f50.body).getD .skip
noncomputable def impl_CutRule_cut_i : Inl := { code := impl_CutRule_cut_c, ntmps := Try.f50.ntmps, results := Try.f50.results.toList }
theorem impl_CutRule_cut_ok : InlOk Try.prog 50 impl_CutRule_cut_i := inlOk_of Try.func50 rfl (by kernel_rfl) (by kernel_rfl)
noncomputable def spec_l00In_c : Code := (Try.f51.body).getD .skip
noncomputable def spec_l00In_i : Inl := { code := spec_l00In_c, ntmps := Try.f51.ntmps, results := Try.f51.results.toList }
theorem spec_l00In_ok : InlOk Try.prog 51 spec_l00In_i := inlOk_of Try.func51 rfl (by kernel_rfl) (by kernel_rfl)
noncomputable def spec_l02Roll_c : Code := (Try.f52.body).getD .skip
noncomputable def spec_l02Roll_i : Inl := { code := spec_l02Roll_c, ntmps := Try.f52.ntmps, results := Try.f52.results.toList }
theorem spec_l02Roll_ok : InlOk Try.prog 52 spec_l02Roll_i := inlOk_of Try.func52 rfl (by kernel_rfl) (by kernel_rfl)
noncomputable def spec_l02Ends_c : Code := (Try.f53.body).getD .skip
noncomputable def spec_l02Ends_i : Inl := { code := spec_l02Ends_c, ntmps := Try.f53.ntmps, results := Try.f53.results.toList }
theorem spec_l02Ends_ok : InlOk Try.prog 53 spec_l02Ends_i := inlOk_of Try.func53 rfl (by kernel_rfl) (by kernel_rfl)
noncomputable def impl_within_c : Code := (Try.f54.body).getD .skip
noncomputable def impl_within_i : Inl := { code := impl_within_c, ntmps := Try.f54.ntmps, results := Try.f54.results.toList }
theorem impl_within_ok : InlOk Try.prog 54 impl_within_i := inlOk_of Try.func54 rfl (by kernel_rfl) (by kernel_rfl)
noncomputable def slices_IndexFunc_byte_byte_c : Code := (Try.f55.body).getD .skip
noncomputable def slices_IndexFunc_byte_byte_i : Inl := { code := slices_IndexFunc_byte_byte_c, ntmps := Try.f55.ntmps, results := Try.f55.results.toList }
theorem slices_IndexFunc_byte_byte_ok : InlOk Try.prog 55 slices_IndexFunc_byte_byte_i := inlOk_of Try.func55 rfl (by kernel_rfl) (by kernel_rfl)
noncomputable def impl_newRoller_c : Code := (Try.f56.body).getD .skip
noncomputable def impl_newRoller_i : Inl := { code := impl_newRoller_c, ntmps := Try.f56.ntmps, results := Try.f56.results.toList }
theorem impl_newRoller_ok : InlOk Try.prog 56 impl_newRoller_i := inlOk_of Try.func56 rfl (by kernel_rfl) (by kernel_rfl)
noncomputable def impl_roller_add_c : Code := (Try.f57.body).getD .skip
noncomputable def impl_roller_add_i : Inl := { code := impl_roller_add_c, ntmps := Try.f57.ntmps, results := Try.f57.results.toList }
theorem impl_roller_add_ok : InlOk Try.prog 57 impl_roller_add_i := inlOk_of Try.func57 rfl (by kernel_rfl) (by kernel_rfl)
noncomputable def impl_CutRule_ends_c : Code := (Try.f58.body).getD .skip
noncomputable def impl_CutRule_ends_i : Inl := { code := impl_CutRule_ends_c, ntmps := Try.f58.ntmps, results := Try.f58.results.toList }
theorem impl_CutRule_ends_ok : InlOk Try.prog 58 impl_CutRule_ends_i := inlOk_of Try.func58 rfl (by kernel_rfl) (by kernel_rfl)
noncomputable def spec_l02Word_c : Code := (Try.f59.body).getD .skip
noncomputable def spec_l02Word_i : Inl := { code := spec_l02Word_c, ntmps := Try.f59.ntmps, results := Try.f59.results.toList }
theorem spec_l02Word_ok : InlOk Try.prog 59 spec_l02Word_i := inlOk_of Try.func59 rfl (by kernel_rfl) (by kernel_rfl)
noncomputable def impl_RollTable_c : Code := (Try.f60.body).getD .skip
noncomputable def impl_RollTable_i : Inl := { code := impl_RollTable_c, ntmps := Try.f60.ntmps, results := Try.f60.results.toList }
theorem impl_RollTable_ok : InlOk Try.prog 60 impl_RollTable_i := inlOk_of Try.func60 rfl (by kernel_rfl) (by kernel_rfl)
noncomputable def spec_l01Mix_c : Code := (Try.f61.body).getD .skip
noncomputable def spec_l01Mix_i : Inl := { code := spec_l01Mix_c, ntmps := Try.f61.ntmps, results := Try.f61.results.toList }
theorem spec_l01Mix_ok : InlOk Try.prog 61 spec_l01Mix_i := inlOk_of Try.func61 rfl (by kernel_rfl) (by kernel_rfl)
noncomputable def spec_l01Start_c : Code := (Try.f62.body).getD .skip
noncomputable def spec_l01Start_i : Inl := { code := spec_l01Start_c, ntmps := Try.f62.ntmps, results := Try.f62.results.toList }
theorem spec_l01Start_ok : InlOk Try.prog 62 spec_l01Start_i := inlOk_of Try.func62 rfl (by kernel_rfl) (by kernel_rfl)
noncomputable def impl_StartState_c : Code := (Try.f63.body).getD .skip
noncomputable def impl_StartState_i : Inl := { code := impl_StartState_c, ntmps := Try.f63.ntmps, results := Try.f63.results.toList }
theorem impl_StartState_ok : InlOk Try.prog 63 impl_StartState_i := inlOk_of Try.func63 rfl (by kernel_rfl) (by kernel_rfl)
noncomputable def impl_MixBlock_c : Code := (Try.f64.body).getD .skip
noncomputable def impl_MixBlock_i : Inl := { code := impl_MixBlock_c, ntmps := Try.f64.ntmps, results := Try.f64.results.toList }
theorem impl_MixBlock_ok : InlOk Try.prog 64 impl_MixBlock_i := inlOk_of Try.func64 rfl (by kernel_rfl) (by kernel_rfl)
noncomputable def spec_l01Turn_c : Code := (Try.f65.body).getD .skip
noncomputable def spec_l01Turn_i : Inl := { code := spec_l01Turn_c, ntmps := Try.f65.ntmps, results := Try.f65.results.toList }
theorem spec_l01Turn_ok : InlOk Try.prog 65 spec_l01Turn_i := inlOk_of Try.func65 rfl (by kernel_rfl) (by kernel_rfl)
noncomputable def impl_littleNumber_c : Code := (Try.f66.body).getD .skip
noncomputable def impl_littleNumber_i : Inl := { code := impl_littleNumber_c, ntmps := Try.f66.ntmps, results := Try.f66.results.toList }
theorem impl_littleNumber_ok : InlOk Try.prog 66 impl_littleNumber_i := inlOk_of Try.func66 rfl (by kernel_rfl) (by kernel_rfl)
noncomputable def math_bits_RotateLeft32_c : Code := (Try.f67.body).getD .skip
noncomputable def math_bits_RotateLeft32_i : Inl := { code := math_bits_RotateLeft32_c, ntmps := Try.f67.ntmps, results := Try.f67.results.toList }
theorem math_bits_RotateLeft32_ok : InlOk Try.prog 67 math_bits_RotateLeft32_i := inlOk_of Try.func67 rfl (by kernel_rfl) (by kernel_rfl)
end Go.Ai.G
