/- Made by a program of this work out of the program: tables and plain functions, with the proof that each Go function does what its plain function says. No conditions. -/
import Derived.Test.YtnmkmlhllpifgaaEd
import Derived.Test.YtnmkmlhllpifgaaProg
namespace Go.Ai.G
open Go.Proofs
open Go.Ai
set_option linter.unusedVariables false
set_option maxRecDepth 100000

noncomputable def tys : List (Option Ty) := [none,
 none,
 some (.int .i64),
 some (.int .i64),
 some .bool,
 none,
 none,
 none,
 none,
 some .str,
 none,
 none,
 none,
 none,
 none,
 none,
 none,
 none,
 none,
 none,
 none,
 none,
 none,
 some (.pair (.int .i64) (.pair (.int .i64) (.pair (.int .i64) (.pair (.int .i64) .unit)))),
 none,
 some (.pair (.int .i64) (.pair (.int .i64) (.pair (.int .i64) (.pair (.int .i64) .unit)))),
 none,
 none,
 none,
 none,
 none,
 none,
 none,
 none,
 none,
 none,
 none,
 none,
 none,
 none,
 none,
 none,
 none,
 none,
 none,
 none,
 none,
 none,
 none,
 none,
 none,
 none,
 none,
 none,
 none,
 none,
 none,
 none,
 none,
 none,
 none,
 none,
 none,
 none,
 none,
 none,
 none,
 none,
 none,
 none,
 none,
 none,
 none,
 none,
 none,
 none,
 none,
 none,
 none,
 none,
 none,
 none,
 none,
 none,
 none,
 none,
 none,
 none,
 none,
 none,
 none,
 none,
 none,
 none,
 none,
 none,
 none,
 none,
 none,
 some (.slice .str),
 some (.slice (.int .i64)),
 none,
 none,
 none,
 none,
 none,
 none,
 none,
 none,
 none,
 none,
 none,
 none,
 none,
 none,
 none,
 none,
 none,
 none,
 none,
 none,
 none,
 none,
 none,
 none,
 none,
 none,
 none,
 none,
 none,
 none,
 none,
 none,
 none,
 none,
 none,
 none,
 none,
 none,
 none,
 none,
 none,
 none,
 none,
 none,
 none,
 none,
 none,
 none,
 none,
 none,
 none]
noncomputable def tbytes : List Nat := [0, 8, 8, 8, 1, 1, 1, 24, 24, 16, 16, 16, 8, 24, 24, 8, 8, 8, 8, 8, 16, 4, 32, 32, 8, 32, 8, 8, 24, 4, 8, 8, 8, 8, 24, 32, 32, 8, 8, 24, 32, 32, 8, 8, 8, 24, 24, 56, 56, 8, 8, 24, 56, 56, 8, 8, 8, 0, 8, 8, 8, 0, 8, 8, 8, 8, 8, 8, 8, 1024, 1028, 1028, 8, 8, 8, 8, 8, 32, 32, 48, 48, 8, 8, 8, 8, 8, 8, 8, 8, 24, 0, 8, 8, 8, 8, 8, 24, 0, 8, 24, 24, 0, 8, 8, 8, 8, 32, 48, 48, 8, 8, 8, 8, 8, 0, 8, 8, 8, 8, 32, 8, 8, 32, 8, 8, 8, 8, 8, 8, 8, 8, 8, 8, 8, 8, 8, 8, 40, 40, 0, 0, 0, 8, 1, 1, 8, 8, 4, 4, 48, 48, 8]
noncomputable def telem : List Nat := [0, 0, 0, 0, 0, 0, 0, 0, 0, 0, 0, 0, 0, 0, 0, 0, 0, 0, 0, 0, 0, 0, 0, 0, 0, 0, 0, 0, 5, 0, 0, 0, 0, 0, 108, 0, 0, 0, 0, 80, 0, 0, 0, 0, 0, 0, 0, 0, 0, 0, 0, 0, 0, 0, 0, 0, 0, 0, 0, 0, 0, 0, 0, 0, 0, 0, 0, 0, 0, 0, 0, 0, 0, 0, 0, 0, 0, 0, 0, 0, 0, 0, 0, 0, 0, 0, 0, 0, 0, 28, 0, 0, 0, 0, 0, 0, 2, 0, 0, 9, 3, 0, 0, 0, 0, 0, 0, 0, 0, 0, 0, 0, 0, 0, 0, 0, 0, 0, 0, 0, 0, 0, 0, 0, 0, 0, 0, 0, 0, 0, 0, 0, 0, 0, 0, 0, 0, 0, 0, 0, 0, 0, 0, 0, 0, 0, 0, 0, 0, 0, 0, 0]
noncomputable def nozero : List Nat := [0, 1, 5, 6, 7, 8, 10, 11, 12, 13, 14, 15, 16, 17, 18, 19, 20, 21, 22, 24, 26, 27, 28, 29, 30, 31, 32, 33, 34, 35, 36, 37, 38, 39, 40, 41, 42, 43, 44, 45, 46, 47, 48, 49, 50, 51, 52, 53, 54, 55, 56, 57, 58, 59, 60, 61, 62, 63, 64, 65, 66, 67, 68, 69, 70, 71, 72, 73, 74, 75, 76, 77, 78, 79, 80, 81, 82, 83, 84, 85, 86, 87, 88, 89, 90, 91, 92, 93, 94, 95, 96, 97, 98, 101, 102, 103, 104, 105, 106, 107, 108, 109, 110, 111, 112, 113, 114, 115, 116, 117, 118, 119, 120, 121, 122, 123, 124, 125, 126, 127, 128, 129, 130, 131, 132, 133, 134, 135, 136, 137, 138, 139, 140, 141, 142, 143, 144, 145, 146, 147, 148, 149, 150, 151]
theorem tabs_ok : rowsB Try.prog (mkCx tys tbytes telem nozero (fun _ => none) (fun _ => none) (fun _ _ => none) 0) 0 tys = true := by kernel_rfl
theorem mixed_ok : Try.prog.follows .mixedOrders = true := by kernel_rfl
noncomputable def laws_FnExactValidDeed_c : Code := (Try.f3.body).getD .skip
noncomputable def laws_FnExactValidDeed_i : Inl := { code := laws_FnExactValidDeed_c, ntmps := Try.f3.ntmps, results := Try.f3.results.toList }
theorem laws_FnExactValidDeed_ok : InlOk Try.prog 3 laws_FnExactValidDeed_i := inlOk_of Try.func3 rfl (by kernel_rfl) (by kernel_rfl)
noncomputable def spec_ValidDeed_c : Code := (Try.f8.body).getD .skip
noncomputable def spec_ValidDeed_i : Inl := { code := spec_ValidDeed_c, ntmps := Try.f8.ntmps, results := Try.f8.results.toList }
theorem spec_ValidDeed_ok : InlOk Try.prog 8 spec_ValidDeed_i := inlOk_of Try.func8 rfl (by kernel_rfl) (by kernel_rfl)
noncomputable def laws_toDeed_c : Code := (Try.f9.body).getD .skip
noncomputable def laws_toDeed_i : Inl := { code := laws_toDeed_c, ntmps := Try.f9.ntmps, results := Try.f9.results.toList }
theorem laws_toDeed_ok : InlOk Try.prog 9 laws_toDeed_i := inlOk_of Try.func9 rfl (by kernel_rfl) (by kernel_rfl)
noncomputable def impl_ValidDeed_c : Code := (Try.f10.body).getD .skip
noncomputable def impl_ValidDeed_i : Inl := { code := impl_ValidDeed_c, ntmps := Try.f10.ntmps, results := Try.f10.results.toList }
theorem impl_ValidDeed_ok : InlOk Try.prog 10 impl_ValidDeed_i := inlOk_of Try.func10 rfl (by kernel_rfl) (by kernel_rfl)
noncomputable def spec_l09Deed_c : Code := (Try.f28.body).getD .skip
noncomputable def spec_l09Deed_i : Inl := { code := spec_l09Deed_c, ntmps := Try.f28.ntmps, results := Try.f28.results.toList }
theorem spec_l09Deed_ok : InlOk Try.prog 28 spec_l09Deed_i := inlOk_of Try.func28 rfl (by kernel_rfl) (by kernel_rfl)
noncomputable def impl_deedWord_c : Code := (Try.f29.body).getD .skip
noncomputable def impl_deedWord_i : Inl := { code := impl_deedWord_c, ntmps := Try.f29.ntmps, results := Try.f29.results.toList }
theorem impl_deedWord_ok : InlOk Try.prog 29 impl_deedWord_i := inlOk_of Try.func29 rfl (by kernel_rfl) (by kernel_rfl)
noncomputable def impl_within_c : Code := (Try.f30.body).getD .skip
noncomputable def impl_within_i : Inl := { code := impl_within_c, ntmps := Try.f30.ntmps, results := Try.f30.results.toList }
theorem impl_within_ok : InlOk Try.prog 30 impl_within_i := inlOk_of Try.func30 rfl (by kernel_rfl) (by kernel_rfl)
noncomputable def spec_l00In_c : Code := (Try.f49.body).getD .skip
noncomputable def spec_l00In_i : Inl := { code := spec_l00In_c, ntmps := Try.f49.ntmps, results := Try.f49.results.toList }
theorem spec_l00In_ok : InlOk Try.prog 49 spec_l00In_i := inlOk_of Try.func49 rfl (by kernel_rfl) (by kernel_rfl)
noncomputable def spec_l09Words_c : Code := (Try.f52.body).getD .skip
noncomputable def spec_l09Words_i : Inl := { code := spec_l09Words_c, ntmps := Try.f52.ntmps, results := Try.f52.results.toList }
theorem spec_l09Words_ok : InlOk Try.prog 52 spec_l09Words_i := inlOk_of Try.func52 rfl (by kernel_rfl) (by kernel_rfl)
end Go.Ai.G
