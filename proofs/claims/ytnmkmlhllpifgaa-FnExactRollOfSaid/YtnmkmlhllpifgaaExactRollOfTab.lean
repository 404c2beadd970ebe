/- Made by a program of this work out of the program: tables and plain functions, with the proof that each Go function does what its plain function says. No conditions. -/
import Derived.Test.YtnmkmlhllpifgaaEd
import Derived.Test.YtnmkmlhllpifgaaProg
namespace Go.Ai.G
open Go.Proofs
open Go.Ai
set_option linter.unusedVariables false
set_option maxRecDepth 100000

noncomputable def tys : List (Option Ty) := [none,
 none,
 some (.int .i64),
 some (.int .i64),
 some .bool,
 some (.int .u8),
 none,
 none,
 none,
 none,
 none,
 none,
 none,
 none,
 none,
 none,
 none,
 none,
 none,
 none,
 none,
 none,
 none,
 none,
 none,
 none,
 none,
 none,
 some (.slice (.int .u8)),
 some (.int .u32),
 none,
 none,
 none,
 none,
 none,
 none,
 none,
 none,
 none,
 none,
 none,
 none,
 none,
 none,
 none,
 none,
 none,
 none,
 none,
 none,
 none,
 none,
 none,
 none,
 none,
 none,
 none,
 none,
 none,
 none,
 none,
 none,
 none,
 none,
 none,
 none,
 some (.opt (.pair (.arr 256 (.int .u32)) (.pair (.int .u32) .unit))),
 none,
 none,
 some (.arr 256 (.int .u32)),
 none,
 some (.pair (.arr 256 (.int .u32)) (.pair (.int .u32) .unit)),
 none,
 none,
 none,
 none,
 none,
 none,
 none,
 none,
 none,
 none,
 none,
 none,
 none,
 none,
 none,
 none,
 none,
 none,
 none,
 none,
 none,
 none,
 none,
 none,
 none,
 none,
 none,
 none,
 none,
 none,
 none,
 none,
 none,
 none,
 none,
 none,
 none,
 none,
 none,
 none,
 none,
 none,
 none,
 none,
 none,
 none,
 none,
 some (.arr 8 (.int .u32)),
 none,
 none,
 some (.arr 32 (.int .u8)),
 none,
 none,
 none,
 none,
 none,
 none,
 none,
 some (.int .u64),
 none,
 some (.int .u64),
 none,
 none,
 none,
 none,
 none,
 none,
 none,
 none,
 none,
 none,
 none,
 none,
 none,
 none,
 none,
 none,
 none,
 none,
 none]
noncomputable def tbytes : List Nat := [0, 8, 8, 8, 1, 1, 1, 24, 24, 16, 16, 16, 8, 24, 24, 8, 8, 8, 8, 8, 16, 4, 32, 32, 8, 32, 8, 8, 24, 4, 8, 8, 8, 8, 24, 32, 32, 8, 8, 24, 32, 32, 8, 8, 8, 24, 24, 56, 56, 8, 8, 24, 56, 56, 8, 8, 8, 0, 8, 8, 8, 0, 8, 8, 8, 8, 8, 8, 8, 1024, 1028, 1028, 8, 8, 8, 8, 8, 32, 32, 48, 48, 8, 8, 8, 8, 8, 8, 8, 8, 24, 0, 8, 8, 8, 8, 8, 24, 0, 8, 24, 24, 0, 8, 8, 8, 8, 32, 48, 48, 8, 8, 8, 8, 8, 0, 8, 8, 8, 8, 32, 8, 8, 32, 8, 8, 8, 8, 8, 8, 8, 8, 8, 8, 8, 8, 8, 8, 40, 40, 0, 0, 0, 8, 1, 1, 8, 8, 4, 4, 48, 48, 8]
noncomputable def telem : List Nat := [0, 0, 0, 0, 0, 0, 0, 0, 0, 0, 0, 0, 0, 0, 0, 0, 0, 0, 0, 0, 0, 0, 0, 0, 0, 0, 0, 0, 5, 0, 0, 0, 0, 0, 108, 0, 0, 0, 0, 80, 0, 0, 0, 0, 0, 0, 0, 0, 0, 0, 0, 0, 0, 0, 0, 0, 0, 0, 0, 0, 0, 0, 0, 0, 0, 0, 0, 0, 0, 0, 0, 0, 0, 0, 0, 0, 0, 0, 0, 0, 0, 0, 0, 0, 0, 0, 0, 0, 0, 28, 0, 0, 0, 0, 0, 0, 2, 0, 0, 9, 3, 0, 0, 0, 0, 0, 0, 0, 0, 0, 0, 0, 0, 0, 0, 0, 0, 0, 0, 0, 0, 0, 0, 0, 0, 0, 0, 0, 0, 0, 0, 0, 0, 0, 0, 0, 0, 0, 0, 0, 0, 0, 0, 0, 0, 0, 0, 0, 0, 0, 0, 0]
noncomputable def nozero : List Nat := [0, 1, 6, 7, 8, 9, 10, 11, 12, 13, 14, 15, 16, 17, 18, 19, 20, 21, 22, 23, 24, 25, 26, 27, 30, 31, 32, 33, 34, 35, 36, 37, 38, 39, 40, 41, 42, 43, 44, 45, 46, 47, 48, 49, 50, 51, 52, 53, 54, 55, 56, 57, 58, 59, 60, 61, 62, 63, 64, 65, 67, 68, 70, 72, 73, 74, 75, 76, 77, 78, 79, 80, 81, 82, 83, 84, 85, 86, 87, 88, 89, 90, 91, 92, 93, 94, 95, 96, 97, 98, 99, 100, 101, 102, 103, 104, 105, 106, 107, 108, 109, 110, 111, 112, 113, 114, 115, 116, 117, 118, 120, 121, 123, 124, 125, 126, 127, 128, 129, 131, 133, 134, 135, 136, 137, 138, 139, 140, 141, 142, 143, 144, 145, 146, 147, 148, 149, 150, 151]
theorem tabs_ok : rowsB Try.prog (mkCx tys tbytes telem nozero (fun _ => none) (fun _ => none) (fun _ _ => none) 0) 0 tys = true := by kernel_rfl
theorem mixed_ok : Try.prog.follows .mixedOrders = true := by kernel_rfl
noncomputable def laws_FnExactRollOf_c : Code := (Try.f4.body).getD .skip
noncomputable def laws_FnExactRollOf_i : Inl := { code := laws_FnExactRollOf_c, ntmps := Try.f4.ntmps, results := Try.f4.results.toList }
theorem laws_FnExactRollOf_ok : InlOk Try.prog 4 laws_FnExactRollOf_i := inlOk_of Try.func4 rfl (by kernel_rfl) (by kernel_rfl)
noncomputable def spec_RollOf_c : Code := (Try.f11.body).getD .skip
noncomputable def spec_RollOf_i : Inl := { code := spec_RollOf_c, ntmps := Try.f11.ntmps, results := Try.f11.results.toList }
theorem spec_RollOf_ok : InlOk Try.prog 11 spec_RollOf_i := inlOk_of Try.func11 rfl (by kernel_rfl) (by kernel_rfl)
noncomputable def laws_toByteS_c : Code := (Try.f12.body).getD .skip
noncomputable def laws_toByteS_i : Inl := { code := laws_toByteS_c, ntmps := Try.f12.ntmps, results := Try.f12.results.toList }
theorem laws_toByteS_ok : InlOk Try.prog 12 laws_toByteS_i := inlOk_of Try.func12 rfl (by kernel_rfl) (by kernel_rfl)
noncomputable def impl_RollOf_c : Code := (Try.f13.body).getD .skip
noncomputable def impl_RollOf_i : Inl := { code := impl_RollOf_c, ntmps := Try.f13.ntmps, results := Try.f13.results.toList }
theorem impl_RollOf_ok : InlOk Try.prog 13 impl_RollOf_i := inlOk_of Try.func13 rfl (by kernel_rfl) (by kernel_rfl)
noncomputable def laws_eqByteS_c : Code := (Try.f14.body).getD .skip
noncomputable def laws_eqByteS_i : Inl := { code := laws_eqByteS_c, ntmps := Try.f14.ntmps, results := Try.f14.results.toList }
theorem laws_eqByteS_ok : InlOk Try.prog 14 laws_eqByteS_i := inlOk_of Try.func14 rfl (by kernel_rfl) (by kernel_rfl)
noncomputable def spec_l00Max_c : Code := (Try.f31.body).getD .skip
noncomputable def spec_l00Max_i : Inl := { code := spec_l00Max_c, ntmps := Try.f31.ntmps, results := Try.f31.results.toList }
theorem spec_l00Max_ok : InlOk Try.prog 31 spec_l00Max_i := inlOk_of Try.func31 rfl (by kernel_rfl) (by kernel_rfl)
noncomputable def spec_l02Roll_c : Code := (Try.f32.body).getD .skip
noncomputable def spec_l02Roll_i : Inl := { code := spec_l02Roll_c, ntmps := Try.f32.ntmps, results := Try.f32.results.toList }
theorem spec_l02Roll_ok : InlOk Try.prog 32 spec_l02Roll_i := inlOk_of Try.func32 rfl (by kernel_rfl) (by kernel_rfl)
noncomputable def impl_newRoller_c : Code := (Try.f33.body).getD .skip
noncomputable def impl_newRoller_i : Inl := { code := impl_newRoller_c, ntmps := Try.f33.ntmps, results := Try.f33.results.toList }
theorem impl_newRoller_ok : InlOk Try.prog 33 impl_newRoller_i := inlOk_of Try.func33 rfl (by kernel_rfl) (by kernel_rfl)
noncomputable def impl_roller_add_c : Code := (Try.f34.body).getD .skip
noncomputable def impl_roller_add_i : Inl := { code := impl_roller_add_c, ntmps := Try.f34.ntmps, results := Try.f34.results.toList }
theorem impl_roller_add_ok : InlOk Try.prog 34 impl_roller_add_i := inlOk_of Try.func34 rfl (by kernel_rfl) (by kernel_rfl)
noncomputable def spec_l02Word_c : Code := (Try.f53.body).getD .skip
noncomputable def spec_l02Word_i : Inl := { code := spec_l02Word_c, ntmps := Try.f53.ntmps, results := Try.f53.results.toList }
theorem spec_l02Word_ok : InlOk Try.prog 53 spec_l02Word_i := inlOk_of Try.func53 rfl (by kernel_rfl) (by kernel_rfl)
noncomputable def impl_RollTable_c : Code := (Try.f54.body).getD .skip
noncomputable def impl_RollTable_i : Inl := { code := impl_RollTable_c, ntmps := Try.f54.ntmps, results := Try.f54.results.toList }
theorem impl_RollTable_ok : InlOk Try.prog 54 impl_RollTable_i := inlOk_of Try.func54 rfl (by kernel_rfl) (by kernel_rfl)
noncomputable def spec_l01Mix_c : Code := (Try.f67.body).getD .skip
noncomputable def spec_l01Mix_i : Inl := { code := spec_l01Mix_c, ntmps := Try.f67.ntmps, results := Try.f67.results.toList }
theorem spec_l01Mix_ok : InlOk Try.prog 67 spec_l01Mix_i := inlOk_of Try.func67 rfl (by kernel_rfl) (by kernel_rfl)
noncomputable def spec_l01Start_c : Code := (Try.f68.body).getD .skip
noncomputable def spec_l01Start_i : Inl := { code := spec_l01Start_c, ntmps := Try.f68.ntmps, results := Try.f68.results.toList }
theorem spec_l01Start_ok : InlOk Try.prog 68 spec_l01Start_i := inlOk_of Try.func68 rfl (by kernel_rfl) (by kernel_rfl)
noncomputable def impl_StartState_c : Code := (Try.f69.body).getD .skip
noncomputable def impl_StartState_i : Inl := { code := impl_StartState_c, ntmps := Try.f69.ntmps, results := Try.f69.results.toList }
theorem impl_StartState_ok : InlOk Try.prog 69 impl_StartState_i := inlOk_of Try.func69 rfl (by kernel_rfl) (by kernel_rfl)
noncomputable def impl_MixBlock_c : Code := (Try.f70.body).getD .skip
noncomputable def impl_MixBlock_i : Inl := { code := impl_MixBlock_c, ntmps := Try.f70.ntmps, results := Try.f70.results.toList }
theorem impl_MixBlock_ok : InlOk Try.prog 70 impl_MixBlock_i := inlOk_of Try.func70 rfl (by kernel_rfl) (by kernel_rfl)
noncomputable def spec_l01Turn_c : Code := (Try.f78.body).getD .skip
noncomputable def spec_l01Turn_i : Inl := { code := spec_l01Turn_c, ntmps := Try.f78.ntmps, results := Try.f78.results.toList }
theorem spec_l01Turn_ok : InlOk Try.prog 78 spec_l01Turn_i := inlOk_of Try.func78 rfl (by kernel_rfl) (by kernel_rfl)
noncomputable def impl_littleNumber_c : Code := (Try.f79.body).getD .skip
noncomputable def impl_littleNumber_i : Inl := { code := impl_littleNumber_c, ntmps := Try.f79.ntmps, results := Try.f79.results.toList }
theorem impl_littleNumber_ok : InlOk Try.prog 79 impl_littleNumber_i := inlOk_of Try.func79 rfl (by kernel_rfl) (by kernel_rfl)
noncomputable def math_bits_RotateLeft32_c : Code := (Try.f80.body).getD .skip
noncomputable def math_bits_RotateLeft32_i : Inl := { code := math_bits_RotateLeft32_c, ntmps := Try.f80.ntmps, results := Try.f80.results.toList }
theorem math_bits_RotateLeft32_ok : InlOk Try.prog 80 math_bits_RotateLeft32_i := inlOk_of Try.func80 rfl (by kernel_rfl) (by kernel_rfl)
end Go.Ai.G
