/- Made by a program of this work out of the program: tables and plain functions, with the proof that each Go function does what its plain function says. No conditions. -/
import Derived.Test.YthbjgkcgjehjkaaEd
import Derived.Test.YthbjgkcgjehjkaaProg
namespace Go.Ai.G
open Go.Proofs
open Go.Ai
set_option linter.unusedVariables false
set_option maxRecDepth 100000

noncomputable def tys : List (Option Ty) := [none,
 some (.opt .unit),
 some (.int .i64),
 some (.int .i64),
 some .bool,
 some (.int .u8),
 none,
 none,
 none,
 none,
 none,
 none,
 none,
 none,
 none,
 none,
 none,
 none,
 none,
 none,
 none,
 none,
 none,
 some (.pair (.int .i64) (.pair (.int .i64) (.pair (.int .i64) .unit))),
 some (.slice (.int .u8)),
 none,
 none,
 some (.pair (.int .i64) (.pair (.int .i64) (.pair (.int .i64) .unit))),
 none,
 none,
 none,
 none,
 none,
 none,
 some (.int .u32),
 none,
 some (.pair (.pair (.int .i64) (.pair (.int .i64) (.pair (.int .i64) .unit))) (.pair (.int .u32) (.pair (.slice (.int .u8)) .unit))),
 none,
 none,
 none,
 none,
 some (.pair (.pair (.int .i64) (.pair (.int .i64) (.pair (.int .i64) .unit))) (.pair (.int .u32) (.pair (.slice (.int .u8)) .unit))),
 none,
 none,
 none,
 none,
 none,
 some (.slice (.slice (.int .u8))),
 none,
 none,
 none,
 none,
 none,
 none,
 none,
 none,
 none,
 none,
 none,
 none,
 none,
 none,
 none,
 none,
 none,
 none,
 none,
 none,
 none,
 none,
 none,
 none,
 none,
 none,
 none,
 none,
 none,
 none,
 none,
 none,
 none,
 none,
 none,
 none,
 none,
 some (.int .u64),
 none,
 none,
 none,
 none,
 none,
 none,
 some (.opt (.pair (.int .i64) (.pair (.int .i64) (.pair (.int .i64) .unit)))),
 none,
 none,
 none,
 none,
 none,
 none,
 some (.opt (.pair (.pair (.int .i64) (.pair (.int .i64) (.pair (.int .i64) .unit))) (.pair (.int .u32) (.pair (.slice (.int .u8)) .unit)))),
 none,
 none,
 none,
 none,
 none,
 none,
 some (.arr 32 (.int .u8)),
 none,
 none,
 none,
 none,
 none,
 none,
 none,
 none,
 none,
 none,
 none,
 none,
 none,
 none,
 none,
 none,
 none,
 none,
 none,
 none,
 none,
 none,
 none,
 none,
 some (.opt (.pair (.arr 256 (.int .u32)) (.pair (.int .u32) .unit))),
 none,
 none,
 some (.arr 256 (.int .u32)),
 none,
 some (.pair (.arr 256 (.int .u32)) (.pair (.int .u32) .unit)),
 none,
 none,
 none,
 none,
 none,
 none,
 none,
 none,
 none,
 some (.arr 8 (.int .u32)),
 none,
 none,
 none,
 none,
 none,
 none,
 none,
 none,
 none,
 none,
 none,
 none,
 none,
 none,
 none,
 none,
 none,
 some (.int .u64),
 none,
 none,
 none,
 none,
 none,
 none,
 none,
 none,
 none,
 none,
 none,
 none,
 none,
 none,
 none,
 none,
 none,
 none,
 none,
 none,
 none,
 none,
 none,
 none,
 none,
 none,
 none,
 none,
 none,
 none,
 none,
 none,
 none,
 none,
 none,
 none,
 none,
 none,
 none,
 none,
 none,
 none,
 none,
 none,
 none,
 none,
 none,
 none,
 none,
 none,
 none,
 none,
 none,
 none,
 none,
 none,
 none,
 none,
 none,
 none,
 none,
 none,
 none,
 none]
noncomputable def tbytes : List Nat := [0, 8, 8, 8, 1, 1, 1, 24, 24, 16, 16, 16, 8, 24, 24, 8, 8, 8, 8, 8, 16, 4, 24, 24, 24, 0, 8, 24, 8, 8, 8, 8, 0, 8, 4, 56, 56, 8, 0, 8, 56, 56, 8, 8, 8, 8, 8, 24, 0, 8, 8, 8, 8, 24, 0, 8, 8, 8, 0, 8, 8, 24, 0, 8, 8, 8, 24, 8, 24, 0, 8, 8, 8, 8, 8, 24, 0, 8, 8, 8, 8, 8, 8, 8, 8, 8, 8, 0, 8, 8, 8, 8, 8, 8, 8, 8, 8, 8, 8, 8, 8, 0, 8, 0, 8, 8, 32, 32, 8, 40, 40, 8, 8, 32, 32, 8, 32, 8, 8, 8, 8, 64, 64, 208, 208, 8, 8, 8, 8, 8, 8, 8, 8, 8, 1024, 1028, 1028, 8, 8, 8, 8, 8, 8, 8, 8, 8, 32, 8, 24, 0, 8, 8, 8, 8, 8, 24, 8, 8, 8, 8, 24, 8, 8, 8, 8, 40, 40, 8, 8, 8, 8, 8, 8, 8, 8, 8, 8, 8, 8, 8, 8, 8, 0, 8, 8, 8, 8, 24, 8, 8, 8, 8, 8, 8, 8, 8, 0, 8, 8, 8, 8, 8, 8, 8, 8, 8, 8, 8, 8, 8, 8, 0, 8, 8, 40, 40, 0, 0, 0, 8, 1, 1, 8, 8, 4, 4, 48, 48, 8]
noncomputable def telem : List Nat := [0, 0, 0, 0, 0, 0, 0, 0, 0, 0, 0, 0, 0, 0, 0, 0, 0, 0, 0, 0, 0, 0, 0, 0, 5, 0, 0, 0, 0, 0, 0, 0, 0, 0, 0, 0, 0, 0, 0, 0, 0, 0, 0, 0, 0, 0, 0, 24, 0, 0, 0, 0, 0, 2, 0, 0, 0, 0, 0, 0, 0, 110, 0, 0, 0, 0, 114, 0, 116, 0, 0, 0, 0, 0, 0, 124, 0, 0, 0, 0, 0, 0, 0, 0, 0, 0, 0, 0, 0, 0, 0, 0, 0, 0, 0, 0, 0, 0, 0, 0, 0, 0, 0, 0, 0, 0, 0, 0, 0, 0, 0, 0, 0, 0, 0, 0, 0, 0, 0, 0, 0, 0, 0, 0, 0, 0, 0, 0, 0, 0, 0, 0, 0, 0, 0, 0, 0, 0, 0, 0, 0, 0, 0, 0, 0, 0, 0, 0, 106, 0, 0, 0, 0, 0, 0, 122, 0, 0, 0, 0, 9, 0, 0, 0, 0, 0, 0, 0, 0, 0, 0, 0, 0, 0, 0, 0, 0, 0, 0, 0, 0, 0, 0, 0, 0, 0, 0, 68, 0, 0, 0, 0, 0, 0, 0, 0, 0, 0, 0, 0, 0, 0, 0, 0, 0, 0, 0, 0, 0, 0, 0, 0, 0, 0, 0, 0, 0, 0, 0, 0, 0, 0, 0, 0, 0, 0, 0, 0, 0]
noncomputable def nozero : List Nat := [0, 1, 6, 7, 8, 9, 10, 11, 12, 13, 14, 15, 16, 17, 18, 19, 20, 21, 22, 25, 26, 28, 29, 30, 31, 32, 33, 35, 37, 38, 39, 40, 42, 43, 44, 45, 46, 48, 49, 50, 51, 52, 53, 54, 55, 56, 57, 58, 59, 60, 61, 62, 63, 64, 65, 66, 67, 68, 69, 70, 71, 72, 73, 74, 75, 76, 77, 78, 79, 80, 81, 82, 83, 84, 86, 87, 88, 89, 90, 91, 93, 94, 95, 96, 97, 98, 100, 101, 102, 103, 104, 105, 107, 108, 109, 110, 111, 112, 113, 114, 115, 116, 117, 118, 119, 120, 121, 122, 123, 124, 125, 126, 127, 128, 129, 130, 132, 133, 135, 137, 138, 139, 140, 141, 142, 143, 144, 145, 147, 148, 149, 150, 151, 152, 153, 154, 155, 156, 157, 158, 159, 160, 161, 162, 163, 165, 166, 167, 168, 169, 170, 171, 172, 173, 174, 175, 176, 177, 178, 179, 180, 181, 182, 183, 184, 185, 186, 187, 188, 189, 190, 191, 192, 193, 194, 195, 196, 197, 198, 199, 200, 201, 202, 203, 204, 205, 206, 207, 208, 209, 210, 211, 212, 213, 214, 215, 216, 217, 218, 219, 220, 221, 222, 223, 224, 225, 226, 227, 228]
theorem tabs_ok : rowsB Try.prog (mkCx tys tbytes telem nozero (fun _ => none) (fun _ => none) (fun _ _ => none) 0) 0 tys = true := by kernel_rfl
theorem mixed_ok : Try.prog.follows .mixedOrders = true := by kernel_rfl
noncomputable def laws_FnExactEndCutter_c : Code := (Try.f5.body).getD .skip
noncomputable def laws_FnExactEndCutter_i : Inl := { code := laws_FnExactEndCutter_c, ntmps := Try.f5.ntmps, results := Try.f5.results.toList }
theorem laws_FnExactEndCutter_ok : InlOk Try.prog 5 laws_FnExactEndCutter_i := inlOk_of Try.func5 rfl (by kernel_rfl) (by kernel_rfl)
noncomputable def laws_toCutRule_c : Code := (Try.f14.body).getD .skip
noncomputable def laws_toCutRule_i : Inl := { code := laws_toCutRule_c, ntmps := Try.f14.ntmps, results := Try.f14.results.toList }
theorem laws_toCutRule_ok : InlOk Try.prog 14 laws_toCutRule_i := inlOk_of Try.func14 rfl (by kernel_rfl) (by kernel_rfl)
noncomputable def laws_toByteS_c : Code := (Try.f15.body).getD .skip
noncomputable def laws_toByteS_i : Inl := { code := laws_toByteS_c, ntmps := Try.f15.ntmps, results := Try.f15.results.toList }
theorem laws_toByteS_ok : InlOk Try.prog 15 laws_toByteS_i := inlOk_of Try.func15 rfl (by kernel_rfl) (by kernel_rfl)
noncomputable def laws_eqByteS_c : Code := (Try.f17.body).getD .skip
noncomputable def laws_eqByteS_i : Inl := { code := laws_eqByteS_c, ntmps := Try.f17.ntmps, results := Try.f17.results.toList }
theorem laws_eqByteS_ok : InlOk Try.prog 17 laws_eqByteS_i := inlOk_of Try.func17 rfl (by kernel_rfl) (by kernel_rfl)
noncomputable def laws_szCutter_c : Code := (Try.f20.body).getD .skip
noncomputable def laws_szCutter_i : Inl := { code := laws_szCutter_c, ntmps := Try.f20.ntmps, results := Try.f20.results.toList }
theorem laws_szCutter_ok : InlOk Try.prog 20 laws_szCutter_i := inlOk_of Try.func20 rfl (by kernel_rfl) (by kernel_rfl)
noncomputable def spec_EndCutter_c : Code := (Try.f21.body).getD .skip
noncomputable def spec_EndCutter_i : Inl := { code := spec_EndCutter_c, ntmps := Try.f21.ntmps, results := Try.f21.results.toList }
theorem spec_EndCutter_ok : InlOk Try.prog 21 spec_EndCutter_i := inlOk_of Try.func21 rfl (by kernel_rfl) (by kernel_rfl)
noncomputable def laws_toCutter_c : Code := (Try.f22.body).getD .skip
noncomputable def laws_toCutter_i : Inl := { code := laws_toCutter_c, ntmps := Try.f22.ntmps, results := Try.f22.results.toList }
theorem laws_toCutter_ok : InlOk Try.prog 22 laws_toCutter_i := inlOk_of Try.func22 rfl (by kernel_rfl) (by kernel_rfl)
noncomputable def impl_EndCutter_c : Code := (Try.f23.body).getD .skip
noncomputable def impl_EndCutter_i : Inl := { code := impl_EndCutter_c, ntmps := Try.f23.ntmps, results := Try.f23.results.toList }
theorem impl_EndCutter_ok : InlOk Try.prog 23 impl_EndCutter_i := inlOk_of Try.func23 rfl (by kernel_rfl) (by kernel_rfl)
noncomputable def laws_eqCutter_c : Code := (Try.f24.body).getD .skip
noncomputable def laws_eqCutter_i : Inl := { code := laws_eqCutter_c, ntmps := Try.f24.ntmps, results := Try.f24.results.toList }
theorem laws_eqCutter_ok : InlOk Try.prog 24 laws_eqCutter_i := inlOk_of Try.func24 rfl (by kernel_rfl) (by kernel_rfl)
noncomputable def laws_markCutter_c : Code := (Try.f25.body).getD .skip
noncomputable def laws_markCutter_i : Inl := { code := laws_markCutter_c, ntmps := Try.f25.ntmps, results := Try.f25.results.toList }
theorem laws_markCutter_ok : InlOk Try.prog 25 laws_markCutter_i := inlOk_of Try.func25 rfl (by kernel_rfl) (by kernel_rfl)
noncomputable def laws_markByteS_c : Code := (Try.f26.body).getD .skip
noncomputable def laws_markByteS_i : Inl := { code := laws_markByteS_c, ntmps := Try.f26.ntmps, results := Try.f26.results.toList }
theorem laws_markByteS_ok : InlOk Try.prog 26 laws_markByteS_i := inlOk_of Try.func26 rfl (by kernel_rfl) (by kernel_rfl)
noncomputable def laws_heldByteS_c : Code := (Try.f27.body).getD .skip
noncomputable def laws_heldByteS_i : Inl := { code := laws_heldByteS_c, ntmps := Try.f27.ntmps, results := Try.f27.results.toList }
theorem laws_heldByteS_ok : InlOk Try.prog 27 laws_heldByteS_i := inlOk_of Try.func27 rfl (by kernel_rfl) (by kernel_rfl)
noncomputable def impl_ValidRule_c : Code := (Try.f63.body).getD .skip
noncomputable def impl_ValidRule_i : Inl := { code := impl_ValidRule_c, ntmps := Try.f63.ntmps, results := Try.f63.results.toList }
theorem impl_ValidRule_ok : InlOk Try.prog 63 impl_ValidRule_i := inlOk_of Try.func63 rfl (by kernel_rfl) (by kernel_rfl)
noncomputable def impl_ValidCutter_c : Code := (Try.f69.body).getD .skip
noncomputable def impl_ValidCutter_i : Inl := { code := impl_ValidCutter_c, ntmps := Try.f69.ntmps, results := Try.f69.results.toList }
theorem impl_ValidCutter_ok : InlOk Try.prog 69 impl_ValidCutter_i := inlOk_of Try.func69 rfl (by kernel_rfl) (by kernel_rfl)
noncomputable def impl_size_byte_c : Code := (Try.f77.body).getD .skip
noncomputable def impl_size_byte_i : Inl := { code := impl_size_byte_c, ntmps := Try.f77.ntmps, results := Try.f77.results.toList }
theorem impl_size_byte_ok : InlOk Try.prog 77 impl_size_byte_i := inlOk_of Try.func77 rfl (by kernel_rfl) (by kernel_rfl)
noncomputable def laws_szByteS_c : Code := (Try.f78.body).getD .skip
noncomputable def laws_szByteS_i : Inl := { code := laws_szByteS_c, ntmps := Try.f78.ntmps, results := Try.f78.results.toList }
theorem laws_szByteS_ok : InlOk Try.prog 78 laws_szByteS_i := inlOk_of Try.func78 rfl (by kernel_rfl) (by kernel_rfl)
noncomputable def spec_l02Cutter_c : Code := (Try.f79.body).getD .skip
noncomputable def spec_l02Cutter_i : Inl := { code := spec_l02Cutter_c, ntmps := Try.f79.ntmps, results := Try.f79.results.toList }
theorem spec_l02Cutter_ok : InlOk Try.prog 79 spec_l02Cutter_i := inlOk_of Try.func79 rfl (by kernel_rfl) (by kernel_rfl)
noncomputable def slices_Clone_byte_byte_c : Code := (Try.f80.body).getD .skip
noncomputable def slices_Clone_byte_byte_i : Inl := { code := slices_Clone_byte_byte_c, ntmps := Try.f80.ntmps, results := Try.f80.results.toList }
theorem slices_Clone_byte_byte_ok : InlOk Try.prog 80 slices_Clone_byte_byte_i := inlOk_of Try.func80 rfl (by kernel_rfl) (by kernel_rfl)
noncomputable def laws_eqCutRule_c : Code := (Try.f81.body).getD .skip
noncomputable def laws_eqCutRule_i : Inl := { code := laws_eqCutRule_c, ntmps := Try.f81.ntmps, results := Try.f81.results.toList }
theorem laws_eqCutRule_ok : InlOk Try.prog 81 laws_eqCutRule_i := inlOk_of Try.func81 rfl (by kernel_rfl) (by kernel_rfl)
noncomputable def spec_l02Feed_c : Code := (Try.f82.body).getD .skip
noncomputable def spec_l02Feed_i : Inl := { code := spec_l02Feed_c, ntmps := Try.f82.ntmps, results := Try.f82.results.toList }
theorem spec_l02Feed_ok : InlOk Try.prog 82 spec_l02Feed_i := inlOk_of Try.func82 rfl (by kernel_rfl) (by kernel_rfl)
noncomputable def impl_CutRule_cut_c : Code := (Try.f83.body).getD .skip
noncomputable def impl_CutRule_cut_i : Inl := { code := impl_CutRule_cut_c, ntmps := Try.f83.ntmps, results := Try.f83.results.toList }
theorem impl_CutRule_cut_ok : InlOk Try.prog 83 impl_CutRule_cut_i := inlOk_of Try.func83 rfl (by kernel_rfl) (by kernel_rfl)
noncomputable def impl_within_c : Code := (Try.f103.body).getD .skip
noncomputable def impl_within_i : Inl := { code := impl_within_c, ntmps := Try.f103.ntmps, results := Try.f103.results.toList }
theorem impl_within_ok : InlOk Try.prog 103 impl_within_i := inlOk_of Try.func103 rfl (by kernel_rfl) (by kernel_rfl)
noncomputable def impl_newRoller_c : Code := (Try.f104.body).getD .skip
noncomputable def impl_newRoller_i : Inl := { code := impl_newRoller_c, ntmps := Try.f104.ntmps, results := Try.f104.results.toList }
theorem impl_newRoller_ok : InlOk Try.prog 104 impl_newRoller_i := inlOk_of Try.func104 rfl (by kernel_rfl) (by kernel_rfl)
noncomputable def impl_roller_add_c : Code := (Try.f105.body).getD .skip
noncomputable def impl_roller_add_i : Inl := { code := impl_roller_add_c, ntmps := Try.f105.ntmps, results := Try.f105.results.toList }
theorem impl_roller_add_ok : InlOk Try.prog 105 impl_roller_add_i := inlOk_of Try.func105 rfl (by kernel_rfl) (by kernel_rfl)
noncomputable def spec_l02Roll_c : Code := (Try.f107.body).getD .skip
noncomputable def spec_l02Roll_i : Inl := { code := spec_l02Roll_c, ntmps := Try.f107.ntmps, results := Try.f107.results.toList }
theorem spec_l02Roll_ok : InlOk Try.prog 107 spec_l02Roll_i := inlOk_of Try.func107 rfl (by kernel_rfl) (by kernel_rfl)
noncomputable def spec_l02Ok_c : Code := (Try.f108.body).getD .skip
noncomputable def spec_l02Ok_i : Inl := { code := spec_l02Ok_c, ntmps := Try.f108.ntmps, results := Try.f108.results.toList }
theorem spec_l02Ok_ok : InlOk Try.prog 108 spec_l02Ok_i := inlOk_of Try.func108 rfl (by kernel_rfl) (by kernel_rfl)
noncomputable def spec_l02Ends_c : Code := (Try.f111.body).getD .skip
noncomputable def spec_l02Ends_i : Inl := { code := spec_l02Ends_c, ntmps := Try.f111.ntmps, results := Try.f111.results.toList }
theorem spec_l02Ends_ok : InlOk Try.prog 111 spec_l02Ends_i := inlOk_of Try.func111 rfl (by kernel_rfl) (by kernel_rfl)
noncomputable def impl_CutRule_ends_c : Code := (Try.f112.body).getD .skip
noncomputable def impl_CutRule_ends_i : Inl := { code := impl_CutRule_ends_c, ntmps := Try.f112.ntmps, results := Try.f112.results.toList }
theorem impl_CutRule_ends_ok : InlOk Try.prog 112 impl_CutRule_ends_i := inlOk_of Try.func112 rfl (by kernel_rfl) (by kernel_rfl)
noncomputable def spec_l01Start_c : Code := (Try.f115.body).getD .skip
noncomputable def spec_l01Start_i : Inl := { code := spec_l01Start_c, ntmps := Try.f115.ntmps, results := Try.f115.results.toList }
theorem spec_l01Start_ok : InlOk Try.prog 115 spec_l01Start_i := inlOk_of Try.func115 rfl (by kernel_rfl) (by kernel_rfl)
noncomputable def impl_StartState_c : Code := (Try.f120.body).getD .skip
noncomputable def impl_StartState_i : Inl := { code := impl_StartState_c, ntmps := Try.f120.ntmps, results := Try.f120.results.toList }
theorem impl_StartState_ok : InlOk Try.prog 120 impl_StartState_i := inlOk_of Try.func120 rfl (by kernel_rfl) (by kernel_rfl)
noncomputable def impl_RollTable_c : Code := (Try.f133.body).getD .skip
noncomputable def impl_RollTable_i : Inl := { code := impl_RollTable_c, ntmps := Try.f133.ntmps, results := Try.f133.results.toList }
theorem impl_RollTable_ok : InlOk Try.prog 133 impl_RollTable_i := inlOk_of Try.func133 rfl (by kernel_rfl) (by kernel_rfl)
noncomputable def spec_l02Word_c : Code := (Try.f134.body).getD .skip
noncomputable def spec_l02Word_i : Inl := { code := spec_l02Word_c, ntmps := Try.f134.ntmps, results := Try.f134.results.toList }
theorem spec_l02Word_ok : InlOk Try.prog 134 spec_l02Word_i := inlOk_of Try.func134 rfl (by kernel_rfl) (by kernel_rfl)
noncomputable def spec_l00In_c : Code := (Try.f135.body).getD .skip
noncomputable def spec_l00In_i : Inl := { code := spec_l00In_c, ntmps := Try.f135.ntmps, results := Try.f135.results.toList }
theorem spec_l00In_ok : InlOk Try.prog 135 spec_l00In_i := inlOk_of Try.func135 rfl (by kernel_rfl) (by kernel_rfl)
noncomputable def spec_l01Mix_c : Code := (Try.f138.body).getD .skip
noncomputable def spec_l01Mix_i : Inl := { code := spec_l01Mix_c, ntmps := Try.f138.ntmps, results := Try.f138.results.toList }
theorem spec_l01Mix_ok : InlOk Try.prog 138 spec_l01Mix_i := inlOk_of Try.func138 rfl (by kernel_rfl) (by kernel_rfl)
noncomputable def impl_MixBlock_c : Code := (Try.f141.body).getD .skip
noncomputable def impl_MixBlock_i : Inl := { code := impl_MixBlock_c, ntmps := Try.f141.ntmps, results := Try.f141.results.toList }
theorem impl_MixBlock_ok : InlOk Try.prog 141 impl_MixBlock_i := inlOk_of Try.func141 rfl (by kernel_rfl) (by kernel_rfl)
noncomputable def spec_l01Turn_c : Code := (Try.f150.body).getD .skip
noncomputable def spec_l01Turn_i : Inl := { code := spec_l01Turn_c, ntmps := Try.f150.ntmps, results := Try.f150.results.toList }
theorem spec_l01Turn_ok : InlOk Try.prog 150 spec_l01Turn_i := inlOk_of Try.func150 rfl (by kernel_rfl) (by kernel_rfl)
noncomputable def impl_littleNumber_c : Code := (Try.f151.body).getD .skip
noncomputable def impl_littleNumber_i : Inl := { code := impl_littleNumber_c, ntmps := Try.f151.ntmps, results := Try.f151.results.toList }
theorem impl_littleNumber_ok : InlOk Try.prog 151 impl_littleNumber_i := inlOk_of Try.func151 rfl (by kernel_rfl) (by kernel_rfl)
noncomputable def math_bits_RotateLeft32_c : Code := (Try.f152.body).getD .skip
noncomputable def math_bits_RotateLeft32_i : Inl := { code := math_bits_RotateLeft32_c, ntmps := Try.f152.ntmps, results := Try.f152.results.toList }
theorem math_bits_RotateLeft32_ok : InlOk Try.prog 152 math_bits_RotateLeft32_i := inlOk_of Try.func152 rfl (by kernel_rfl) (by kernel_rfl)
end Go.Ai.G
