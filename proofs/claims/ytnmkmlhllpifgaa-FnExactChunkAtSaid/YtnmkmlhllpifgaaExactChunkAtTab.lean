/- Made by a program of this work out of the program: tables and plain functions, with the proof that each Go function does what its plain function says. No conditions. -/
import Derived.Test.YtnmkmlhllpifgaaEd
import Derived.Test.YtnmkmlhllpifgaaProg
namespace Go.Ai.G
open Go.Proofs
open Go.Ai
set_option linter.unusedVariables false
set_option maxRecDepth 100000

noncomputable def tys : List (Option Ty) := [none,
 some (.opt .unit),
 some (.int .i64),
 some (.int .i64),
 some .bool,
 some (.int .u8),
 none,
 none,
 none,
 none,
 none,
 none,
 none,
 none,
 none,
 none,
 none,
 none,
 none,
 none,
 none,
 none,
 none,
 none,
 none,
 none,
 none,
 none,
 some (.slice (.int .u8)),
 some (.int .u32),
 none,
 none,
 none,
 some (.opt .unit),
 none,
 none,
 none,
 none,
 none,
 none,
 none,
 none,
 none,
 none,
 none,
 none,
 some (.pair (.int .i64) (.pair (.int .i64) (.pair (.int .i64) .unit))),
 none,
 none,
 none,
 none,
 some (.pair (.int .i64) (.pair (.int .i64) (.pair (.int .i64) .unit))),
 none,
 none,
 none,
 none,
 none,
 none,
 none,
 none,
 none,
 none,
 none,
 none,
 none,
 none,
 some (.opt (.pair (.arr 256 (.int .u32)) (.pair (.int .u32) .unit))),
 none,
 none,
 some (.arr 256 (.int .u32)),
 none,
 some (.pair (.arr 256 (.int .u32)) (.pair (.int .u32) .unit)),
 none,
 none,
 none,
 none,
 none,
 none,
 none,
 none,
 none,
 none,
 none,
 none,
 none,
 none,
 none,
 none,
 none,
 some (.slice (.slice (.int .u8))),
 none,
 none,
 none,
 none,
 some (.opt (.pair (.int .i64) (.pair (.int .i64) (.pair (.int .i64) .unit)))),
 none,
 some (.slice (.int .i64)),
 none,
 none,
 none,
 none,
 none,
 none,
 none,
 none,
 none,
 none,
 none,
 none,
 none,
 none,
 none,
 none,
 none,
 none,
 none,
 none,
 none,
 none,
 some (.arr 8 (.int .u32)),
 none,
 none,
 some (.arr 32 (.int .u8)),
 none,
 none,
 none,
 none,
 none,
 none,
 none,
 some (.int .u64),
 none,
 some (.int .u64),
 none,
 none,
 none,
 none,
 none,
 none,
 none,
 none,
 none,
 none,
 none,
 none,
 none,
 none,
 none,
 none,
 none,
 none,
 none]
noncomputable def tbytes : List Nat := [0, 8, 8, 8, 1, 1, 1, 24, 24, 16, 16, 16, 8, 24, 24, 8, 8, 8, 8, 8, 16, 4, 32, 32, 8, 32, 8, 8, 24, 4, 8, 8, 8, 8, 24, 32, 32, 8, 8, 24, 32, 32, 8, 8, 8, 24, 24, 56, 56, 8, 8, 24, 56, 56, 8, 8, 8, 0, 8, 8, 8, 0, 8, 8, 8, 8, 8, 8, 8, 1024, 1028, 1028, 8, 8, 8, 8, 8, 32, 32, 48, 48, 8, 8, 8, 8, 8, 8, 8, 8, 24, 0, 8, 8, 8, 8, 8, 24, 0, 8, 24, 24, 0, 8, 8, 8, 8, 32, 48, 48, 8, 8, 8, 8, 8, 0, 8, 8, 8, 8, 32, 8, 8, 32, 8, 8, 8, 8, 8, 8, 8, 8, 8, 8, 8, 8, 8, 8, 40, 40, 0, 0, 0, 8, 1, 1, 8, 8, 4, 4, 48, 48, 8]
noncomputable def telem : List Nat := [0, 0, 0, 0, 0, 0, 0, 0, 0, 0, 0, 0, 0, 0, 0, 0, 0, 0, 0, 0, 0, 0, 0, 0, 0, 0, 0, 0, 5, 0, 0, 0, 0, 0, 108, 0, 0, 0, 0, 80, 0, 0, 0, 0, 0, 0, 0, 0, 0, 0, 0, 0, 0, 0, 0, 0, 0, 0, 0, 0, 0, 0, 0, 0, 0, 0, 0, 0, 0, 0, 0, 0, 0, 0, 0, 0, 0, 0, 0, 0, 0, 0, 0, 0, 0, 0, 0, 0, 0, 28, 0, 0, 0, 0, 0, 0, 2, 0, 0, 9, 3, 0, 0, 0, 0, 0, 0, 0, 0, 0, 0, 0, 0, 0, 0, 0, 0, 0, 0, 0, 0, 0, 0, 0, 0, 0, 0, 0, 0, 0, 0, 0, 0, 0, 0, 0, 0, 0, 0, 0, 0, 0, 0, 0, 0, 0, 0, 0, 0, 0, 0, 0]
noncomputable def nozero : List Nat := [0, 1, 6, 7, 8, 9, 10, 11, 12, 13, 14, 15, 16, 17, 18, 19, 20, 21, 22, 23, 24, 25, 26, 27, 30, 31, 32, 33, 34, 35, 36, 37, 38, 39, 40, 41, 42, 43, 44, 45, 47, 48, 49, 50, 52, 53, 54, 55, 56, 57, 58, 59, 60, 61, 62, 63, 64, 65, 67, 68, 70, 72, 73, 74, 75, 76, 77, 78, 79, 80, 81, 82, 83, 84, 85, 86, 87, 88, 90, 91, 92, 93, 95, 97, 98, 99, 100, 101, 102, 103, 104, 105, 106, 107, 108, 109, 110, 111, 112, 113, 114, 115, 116, 117, 118, 120, 121, 123, 124, 125, 126, 127, 128, 129, 131, 133, 134, 135, 136, 137, 138, 139, 140, 141, 142, 143, 144, 145, 146, 147, 148, 149, 150, 151]
theorem tabs_ok : rowsB Try.prog (mkCx tys tbytes telem nozero (fun _ => none) (fun _ => none) (fun _ _ => none) 0) 0 tys = true := by kernel_rfl
theorem mixed_ok : Try.prog.follows .mixedOrders = true := by kernel_rfl
noncomputable def laws_FnExactChunkAt_c : Code := (Try.f7.body).getD .skip
noncomputable def laws_FnExactChunkAt_i : Inl := { code := laws_FnExactChunkAt_c, ntmps := Try.f7.ntmps, results := Try.f7.results.toList }
theorem laws_FnExactChunkAt_ok : InlOk Try.prog 7 laws_FnExactChunkAt_i := inlOk_of Try.func7 rfl (by kernel_rfl) (by kernel_rfl)
noncomputable def laws_toByteS_c : Code := (Try.f12.body).getD .skip
noncomputable def laws_toByteS_i : Inl := { code := laws_toByteS_c, ntmps := Try.f12.ntmps, results := Try.f12.results.toList }
theorem laws_toByteS_ok : InlOk Try.prog 12 laws_toByteS_i := inlOk_of Try.func12 rfl (by kernel_rfl) (by kernel_rfl)
noncomputable def laws_eqByteS_c : Code := (Try.f14.body).getD .skip
noncomputable def laws_eqByteS_i : Inl := { code := laws_eqByteS_c, ntmps := Try.f14.ntmps, results := Try.f14.results.toList }
theorem laws_eqByteS_ok : InlOk Try.prog 14 laws_eqByteS_i := inlOk_of Try.func14 rfl (by kernel_rfl) (by kernel_rfl)
noncomputable def spec_ChunkAt_c : Code := (Try.f25.body).getD .skip
noncomputable def spec_ChunkAt_i : Inl := { code := spec_ChunkAt_c, ntmps := Try.f25.ntmps, results := Try.f25.results.toList }
theorem spec_ChunkAt_ok : InlOk Try.prog 25 spec_ChunkAt_i := inlOk_of Try.func25 rfl (by kernel_rfl) (by kernel_rfl)
noncomputable def laws_toCutRule_c : Code := (Try.f26.body).getD .skip
noncomputable def laws_toCutRule_i : Inl := { code := laws_toCutRule_c, ntmps := Try.f26.ntmps, results := Try.f26.results.toList }
theorem laws_toCutRule_ok : InlOk Try.prog 26 laws_toCutRule_i := inlOk_of Try.func26 rfl (by kernel_rfl) (by kernel_rfl)
noncomputable def impl_ChunkAt_c : Code := (Try.f27.body).getD .skip
noncomputable def impl_ChunkAt_i : Inl := { code := impl_ChunkAt_c, ntmps := Try.f27.ntmps, results := Try.f27.results.toList }
theorem impl_ChunkAt_ok : InlOk Try.prog 27 impl_ChunkAt_i := inlOk_of Try.func27 rfl (by kernel_rfl) (by kernel_rfl)
noncomputable def impl_within_c : Code := (Try.f30.body).getD .skip
noncomputable def impl_within_i : Inl := { code := impl_within_c, ntmps := Try.f30.ntmps, results := Try.f30.results.toList }
theorem impl_within_ok : InlOk Try.prog 30 impl_within_i := inlOk_of Try.func30 rfl (by kernel_rfl) (by kernel_rfl)
noncomputable def spec_l02Roll_c : Code := (Try.f32.body).getD .skip
noncomputable def spec_l02Roll_i : Inl := { code := spec_l02Roll_c, ntmps := Try.f32.ntmps, results := Try.f32.results.toList }
theorem spec_l02Roll_ok : InlOk Try.prog 32 spec_l02Roll_i := inlOk_of Try.func32 rfl (by kernel_rfl) (by kernel_rfl)
noncomputable def impl_newRoller_c : Code := (Try.f33.body).getD .skip
noncomputable def impl_newRoller_i : Inl := { code := impl_newRoller_c, ntmps := Try.f33.ntmps, results := Try.f33.results.toList }
theorem impl_newRoller_ok : InlOk Try.prog 33 impl_newRoller_i := inlOk_of Try.func33 rfl (by kernel_rfl) (by kernel_rfl)
noncomputable def impl_roller_add_c : Code := (Try.f34.body).getD .skip
noncomputable def impl_roller_add_i : Inl := { code := impl_roller_add_c, ntmps := Try.f34.ntmps, results := Try.f34.results.toList }
theorem impl_roller_add_ok : InlOk Try.prog 34 impl_roller_add_i := inlOk_of Try.func34 rfl (by kernel_rfl) (by kernel_rfl)
noncomputable def impl_ValidRule_c : Code := (Try.f44.body).getD .skip
noncomputable def impl_ValidRule_i : Inl := { code := impl_ValidRule_c, ntmps := Try.f44.ntmps, results := Try.f44.results.toList }
theorem impl_ValidRule_ok : InlOk Try.prog 44 impl_ValidRule_i := inlOk_of Try.func44 rfl (by kernel_rfl) (by kernel_rfl)
noncomputable def impl_size_byte_c : Code := (Try.f45.body).getD .skip
noncomputable def impl_size_byte_i : Inl := { code := impl_size_byte_c, ntmps := Try.f45.ntmps, results := Try.f45.results.toList }
theorem impl_size_byte_ok : InlOk Try.prog 45 impl_size_byte_i := inlOk_of Try.func45 rfl (by kernel_rfl) (by kernel_rfl)
noncomputable def impl_CutRule_cut_c : Code := (Try.f46.body).getD .skip
noncomputable def impl_CutRule_cut_i : Inl := { code := impl_CutRule_cut_c, ntmps := Try.f46.ntmps, results := Try.f46.results.toList }
theorem impl_CutRule_cut_ok : InlOk Try.prog 46 impl_CutRule_cut_i := inlOk_of Try.func46 rfl (by kernel_rfl) (by kernel_rfl)
noncomputable def spec_l02Given_c : Code := (Try.f48.body).getD .skip
noncomputable def spec_l02Given_i : Inl := { code := spec_l02Given_c, ntmps := Try.f48.ntmps, results := Try.f48.results.toList }
theorem spec_l02Given_ok : InlOk Try.prog 48 spec_l02Given_i := inlOk_of Try.func48 rfl (by kernel_rfl) (by kernel_rfl)
noncomputable def spec_l00In_c : Code := (Try.f49.body).getD .skip
noncomputable def spec_l00In_i : Inl := { code := spec_l00In_c, ntmps := Try.f49.ntmps, results := Try.f49.results.toList }
theorem spec_l00In_ok : InlOk Try.prog 49 spec_l00In_i := inlOk_of Try.func49 rfl (by kernel_rfl) (by kernel_rfl)
noncomputable def spec_l02Chunks_c : Code := (Try.f50.body).getD .skip
noncomputable def spec_l02Chunks_i : Inl := { code := spec_l02Chunks_c, ntmps := Try.f50.ntmps, results := Try.f50.results.toList }
theorem spec_l02Chunks_ok : InlOk Try.prog 50 spec_l02Chunks_i := inlOk_of Try.func50 rfl (by kernel_rfl) (by kernel_rfl)
noncomputable def impl_CutPlaces_c : Code := (Try.f51.body).getD .skip
noncomputable def impl_CutPlaces_i : Inl := { code := impl_CutPlaces_c, ntmps := Try.f51.ntmps, results := Try.f51.results.toList }
theorem impl_CutPlaces_ok : InlOk Try.prog 51 impl_CutPlaces_i := inlOk_of Try.func51 rfl (by kernel_rfl) (by kernel_rfl)
noncomputable def spec_l02Word_c : Code := (Try.f53.body).getD .skip
noncomputable def spec_l02Word_i : Inl := { code := spec_l02Word_c, ntmps := Try.f53.ntmps, results := Try.f53.results.toList }
theorem spec_l02Word_ok : InlOk Try.prog 53 spec_l02Word_i := inlOk_of Try.func53 rfl (by kernel_rfl) (by kernel_rfl)
noncomputable def impl_RollTable_c : Code := (Try.f54.body).getD .skip
noncomputable def impl_RollTable_i : Inl := { code := impl_RollTable_c, ntmps := Try.f54.ntmps, results := Try.f54.results.toList }
theorem impl_RollTable_ok : InlOk Try.prog 54 impl_RollTable_i := inlOk_of Try.func54 rfl (by kernel_rfl) (by kernel_rfl)
noncomputable def spec_l02Ok_c : Code := (Try.f61.body).getD .skip
noncomputable def spec_l02Ok_i : Inl := { code := spec_l02Ok_c, ntmps := Try.f61.ntmps, results := Try.f61.results.toList }
theorem spec_l02Ok_ok : InlOk Try.prog 61 spec_l02Ok_i := inlOk_of Try.func61 rfl (by kernel_rfl) (by kernel_rfl)
noncomputable def spec_l02Feed_c : Code := (Try.f62.body).getD .skip
noncomputable def spec_l02Feed_i : Inl := { code := spec_l02Feed_c, ntmps := Try.f62.ntmps, results := Try.f62.results.toList }
theorem spec_l02Feed_ok : InlOk Try.prog 62 spec_l02Feed_i := inlOk_of Try.func62 rfl (by kernel_rfl) (by kernel_rfl)
noncomputable def impl_CutRule_ends_c : Code := (Try.f63.body).getD .skip
noncomputable def impl_CutRule_ends_i : Inl := { code := impl_CutRule_ends_c, ntmps := Try.f63.ntmps, results := Try.f63.results.toList }
theorem impl_CutRule_ends_ok : InlOk Try.prog 63 impl_CutRule_ends_i := inlOk_of Try.func63 rfl (by kernel_rfl) (by kernel_rfl)
noncomputable def slices_Clone_byte_byte_c : Code := (Try.f64.body).getD .skip
noncomputable def slices_Clone_byte_byte_i : Inl := { code := slices_Clone_byte_byte_c, ntmps := Try.f64.ntmps, results := Try.f64.results.toList }
theorem slices_Clone_byte_byte_ok : InlOk Try.prog 64 slices_Clone_byte_byte_i := inlOk_of Try.func64 rfl (by kernel_rfl) (by kernel_rfl)
noncomputable def impl_ruleCode_c : Code := (Try.f65.body).getD .skip
noncomputable def impl_ruleCode_i : Inl := { code := impl_ruleCode_c, ntmps := Try.f65.ntmps, results := Try.f65.results.toList }
theorem impl_ruleCode_ok : InlOk Try.prog 65 impl_ruleCode_i := inlOk_of Try.func65 rfl (by kernel_rfl) (by kernel_rfl)
noncomputable def impl_CutRule_chunks_c : Code := (Try.f66.body).getD .skip
noncomputable def impl_CutRule_chunks_i : Inl := { code := impl_CutRule_chunks_c, ntmps := Try.f66.ntmps, results := Try.f66.results.toList }
theorem impl_CutRule_chunks_ok : InlOk Try.prog 66 impl_CutRule_chunks_i := inlOk_of Try.func66 rfl (by kernel_rfl) (by kernel_rfl)
noncomputable def spec_l01Mix_c : Code := (Try.f67.body).getD .skip
noncomputable def spec_l01Mix_i : Inl := { code := spec_l01Mix_c, ntmps := Try.f67.ntmps, results := Try.f67.results.toList }
theorem spec_l01Mix_ok : InlOk Try.prog 67 spec_l01Mix_i := inlOk_of Try.func67 rfl (by kernel_rfl) (by kernel_rfl)
noncomputable def spec_l01Start_c : Code := (Try.f68.body).getD .skip
noncomputable def spec_l01Start_i : Inl := { code := spec_l01Start_c, ntmps := Try.f68.ntmps, results := Try.f68.results.toList }
theorem spec_l01Start_ok : InlOk Try.prog 68 spec_l01Start_i := inlOk_of Try.func68 rfl (by kernel_rfl) (by kernel_rfl)
noncomputable def impl_StartState_c : Code := (Try.f69.body).getD .skip
noncomputable def impl_StartState_i : Inl := { code := impl_StartState_c, ntmps := Try.f69.ntmps, results := Try.f69.results.toList }
theorem impl_StartState_ok : InlOk Try.prog 69 impl_StartState_i := inlOk_of Try.func69 rfl (by kernel_rfl) (by kernel_rfl)
noncomputable def impl_MixBlock_c : Code := (Try.f70.body).getD .skip
noncomputable def impl_MixBlock_i : Inl := { code := impl_MixBlock_c, ntmps := Try.f70.ntmps, results := Try.f70.results.toList }
theorem impl_MixBlock_ok : InlOk Try.prog 70 impl_MixBlock_i := inlOk_of Try.func70 rfl (by kernel_rfl) (by kernel_rfl)
noncomputable def spec_l02Ends_c : Code := (Try.f75.body).getD .skip
noncomputable def spec_l02Ends_i : Inl := { code := spec_l02Ends_c, ntmps := Try.f75.ntmps, results := Try.f75.results.toList }
theorem spec_l02Ends_ok : InlOk Try.prog 75 spec_l02Ends_i := inlOk_of Try.func75 rfl (by kernel_rfl) (by kernel_rfl)
noncomputable def slices_ContainsFunc_byte_byte_c : Code := (Try.f76.body).getD .skip
noncomputable def slices_ContainsFunc_byte_byte_i : Inl := { code := slices_ContainsFunc_byte_byte_c, ntmps := Try.f76.ntmps, results := Try.f76.results.toList }
theorem slices_ContainsFunc_byte_byte_ok : InlOk Try.prog 76 slices_ContainsFunc_byte_byte_i := inlOk_of Try.func76 rfl (by kernel_rfl) (by kernel_rfl)
noncomputable def impl_ruleCode_1_c : Code := (Try.f77.body).getD .skip
noncomputable def impl_ruleCode_1_i : Inl := { code := impl_ruleCode_1_c, ntmps := Try.f77.ntmps, results := Try.f77.results.toList }
theorem impl_ruleCode_1_ok : InlOk Try.prog 77 impl_ruleCode_1_i := inlOk_of Try.func77 rfl (by kernel_rfl) (by kernel_rfl)
noncomputable def spec_l01Turn_c : Code := (Try.f78.body).getD .skip
noncomputable def spec_l01Turn_i : Inl := { code := spec_l01Turn_c, ntmps := Try.f78.ntmps, results := Try.f78.results.toList }
theorem spec_l01Turn_ok : InlOk Try.prog 78 spec_l01Turn_i := inlOk_of Try.func78 rfl (by kernel_rfl) (by kernel_rfl)
noncomputable def impl_littleNumber_c : Code := (Try.f79.body).getD .skip
noncomputable def impl_littleNumber_i : Inl := { code := impl_littleNumber_c, ntmps := Try.f79.ntmps, results := Try.f79.results.toList }
theorem impl_littleNumber_ok : InlOk Try.prog 79 impl_littleNumber_i := inlOk_of Try.func79 rfl (by kernel_rfl) (by kernel_rfl)
noncomputable def math_bits_RotateLeft32_c : Code := (Try.f80.body).getD .skip
noncomputable def math_bits_RotateLeft32_i : Inl := { code := math_bits_RotateLeft32_c, ntmps := Try.f80.ntmps, results := Try.f80.results.toList }
theorem math_bits_RotateLeft32_ok : InlOk Try.prog 80 math_bits_RotateLeft32_i := inlOk_of Try.func80 rfl (by kernel_rfl) (by kernel_rfl)
noncomputable def slices_IndexFunc_byte_byte_c : Code := (Try.f82.body).getD .skip
noncomputable def slices_IndexFunc_byte_byte_i : Inl := { code := slices_IndexFunc_byte_byte_c, ntmps := Try.f82.ntmps, results := Try.f82.results.toList }
theorem slices_IndexFunc_byte_byte_ok : InlOk Try.prog 82 slices_IndexFunc_byte_byte_i := inlOk_of Try.func82 rfl (by kernel_rfl) (by kernel_rfl)
end Go.Ai.G
