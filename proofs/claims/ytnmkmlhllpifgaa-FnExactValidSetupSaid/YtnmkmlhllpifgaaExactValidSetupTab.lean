/- Made by a program of this work out of the program: tables and plain functions, with the proof that each Go function does what its plain function says. No conditions. -/
import Derived.Test.YtnmkmlhllpifgaaEd
import Derived.Test.YtnmkmlhllpifgaaProg
namespace Go.Ai.G
open Go.Proofs
open Go.Ai
set_option linter.unusedVariables false
set_option maxRecDepth 100000

noncomputable def tys : List (Option Ty) := [none,
 none,
 some (.int .i64),
 some (.int .i64),
 some .bool,
 none,
 none,
 none,
 none,
 some .str,
 none,
 none,
 none,
 none,
 none,
 none,
 none,
 none,
 none,
 none,
 none,
 none,
 none,
 none,
 none,
 none,
 none,
 none,
 none,
 none,
 none,
 none,
 none,
 none,
 some (.slice (.pair (.int .i64) (.pair (.pair .str (.pair .str .unit)) (.pair .bool .unit)))),
 none,
 some (.pair (.int .i64) (.pair (.slice (.pair (.int .i64) (.pair (.pair .str (.pair .str .unit)) (.pair .bool .unit)))) .unit)),
 none,
 none,
 some (.slice (.pair (.int .i64) (.pair (.pair .str (.pair .str .unit)) (.pair .bool .unit)))),
 none,
 some (.pair (.int .i64) (.pair (.slice (.pair (.int .i64) (.pair (.pair .str (.pair .str .unit)) (.pair .bool .unit)))) .unit)),
 none,
 none,
 none,
 none,
 none,
 none,
 none,
 none,
 none,
 none,
 none,
 none,
 none,
 none,
 none,
 none,
 none,
 none,
 none,
 none,
 none,
 none,
 none,
 none,
 none,
 none,
 none,
 none,
 none,
 none,
 none,
 none,
 some (.opt (.pair (.int .i64) (.pair (.slice (.pair (.int .i64) (.pair (.pair .str (.pair .str .unit)) (.pair .bool .unit)))) .unit))),
 none,
 none,
 none,
 some (.pair .str (.pair .str .unit)),
 none,
 some (.pair (.int .i64) (.pair (.pair .str (.pair .str .unit)) (.pair .bool .unit))),
 none,
 some (.opt .unit),
 none,
 none,
 none,
 none,
 none,
 none,
 none,
 none,
 none,
 none,
 none,
 none,
 none,
 none,
 none,
 none,
 none,
 none,
 none,
 none,
 none,
 none,
 none,
 some (.pair .str (.pair .str .unit)),
 none,
 some (.pair (.int .i64) (.pair (.pair .str (.pair .str .unit)) (.pair .bool .unit))),
 none,
 none,
 none,
 none,
 none,
 none,
 none,
 none,
 none,
 none,
 none,
 none,
 none,
 none,
 none,
 none,
 some (.opt (.pair .str (.pair .str .unit))),
 none,
 none,
 none,
 none,
 none,
 none,
 none,
 none,
 none,
 none,
 none,
 none,
 none,
 none,
 none,
 none,
 none,
 none,
 none,
 none,
 none,
 none,
 none,
 none,
 none,
 none]
noncomputable def tbytes : List Nat := [0, 8, 8, 8, 1, 1, 1, 24, 24, 16, 16, 16, 8, 24, 24, 8, 8, 8, 8, 8, 16, 4, 32, 32, 8, 32, 8, 8, 24, 4, 8, 8, 8, 8, 24, 32, 32, 8, 8, 24, 32, 32, 8, 8, 8, 24, 24, 56, 56, 8, 8, 24, 56, 56, 8, 8, 8, 0, 8, 8, 8, 0, 8, 8, 8, 8, 8, 8, 8, 1024, 1028, 1028, 8, 8, 8, 8, 8, 32, 32, 48, 48, 8, 8, 8, 8, 8, 8, 8, 8, 24, 0, 8, 8, 8, 8, 8, 24, 0, 8, 24, 24, 0, 8, 8, 8, 8, 32, 48, 48, 8, 8, 8, 8, 8, 0, 8, 8, 8, 8, 32, 8, 8, 32, 8, 8, 8, 8, 8, 8, 8, 8, 8, 8, 8, 8, 8, 8, 40, 40, 0, 0, 0, 8, 1, 1, 8, 8, 4, 4, 48, 48, 8]
noncomputable def telem : List Nat := [0, 0, 0, 0, 0, 0, 0, 0, 0, 0, 0, 0, 0, 0, 0, 0, 0, 0, 0, 0, 0, 0, 0, 0, 0, 0, 0, 0, 5, 0, 0, 0, 0, 0, 108, 0, 0, 0, 0, 80, 0, 0, 0, 0, 0, 0, 0, 0, 0, 0, 0, 0, 0, 0, 0, 0, 0, 0, 0, 0, 0, 0, 0, 0, 0, 0, 0, 0, 0, 0, 0, 0, 0, 0, 0, 0, 0, 0, 0, 0, 0, 0, 0, 0, 0, 0, 0, 0, 0, 28, 0, 0, 0, 0, 0, 0, 2, 0, 0, 9, 3, 0, 0, 0, 0, 0, 0, 0, 0, 0, 0, 0, 0, 0, 0, 0, 0, 0, 0, 0, 0, 0, 0, 0, 0, 0, 0, 0, 0, 0, 0, 0, 0, 0, 0, 0, 0, 0, 0, 0, 0, 0, 0, 0, 0, 0, 0, 0, 0, 0, 0, 0]
noncomputable def nozero : List Nat := [0, 1, 5, 6, 7, 8, 10, 11, 12, 13, 14, 15, 16, 17, 18, 19, 20, 21, 22, 23, 24, 25, 26, 27, 28, 29, 30, 31, 32, 33, 35, 37, 38, 40, 42, 43, 44, 45, 46, 47, 48, 49, 50, 51, 52, 53, 54, 55, 56, 57, 58, 59, 60, 61, 62, 63, 64, 65, 66, 67, 68, 69, 70, 71, 72, 73, 75, 76, 77, 79, 81, 82, 83, 84, 85, 86, 87, 88, 89, 90, 91, 92, 93, 94, 95, 96, 97, 98, 99, 100, 101, 102, 103, 104, 105, 107, 109, 110, 111, 112, 113, 114, 115, 116, 117, 118, 119, 120, 121, 122, 123, 124, 126, 127, 128, 129, 130, 131, 132, 133, 134, 135, 136, 137, 138, 139, 140, 141, 142, 143, 144, 145, 146, 147, 148, 149, 150, 151]
theorem tabs_ok : rowsB Try.prog (mkCx tys tbytes telem nozero (fun _ => none) (fun _ => none) (fun _ _ => none) 0) 0 tys = true := by kernel_rfl
theorem mixed_ok : Try.prog.follows .mixedOrders = true := by kernel_rfl
noncomputable def laws_FnExactValidSetup_c : Code := (Try.f5.body).getD .skip
noncomputable def laws_FnExactValidSetup_i : Inl := { code := laws_FnExactValidSetup_c, ntmps := Try.f5.ntmps, results := Try.f5.results.toList }
theorem laws_FnExactValidSetup_ok : InlOk Try.prog 5 laws_FnExactValidSetup_i := inlOk_of Try.func5 rfl (by kernel_rfl) (by kernel_rfl)
noncomputable def laws_szSetup_c : Code := (Try.f15.body).getD .skip
noncomputable def laws_szSetup_i : Inl := { code := laws_szSetup_c, ntmps := Try.f15.ntmps, results := Try.f15.results.toList }
theorem laws_szSetup_ok : InlOk Try.prog 15 laws_szSetup_i := inlOk_of Try.func15 rfl (by kernel_rfl) (by kernel_rfl)
noncomputable def spec_ValidSetup_c : Code := (Try.f16.body).getD .skip
noncomputable def spec_ValidSetup_i : Inl := { code := spec_ValidSetup_c, ntmps := Try.f16.ntmps, results := Try.f16.results.toList }
theorem spec_ValidSetup_ok : InlOk Try.prog 16 spec_ValidSetup_i := inlOk_of Try.func16 rfl (by kernel_rfl) (by kernel_rfl)
noncomputable def laws_toSetup_c : Code := (Try.f17.body).getD .skip
noncomputable def laws_toSetup_i : Inl := { code := laws_toSetup_c, ntmps := Try.f17.ntmps, results := Try.f17.results.toList }
theorem laws_toSetup_ok : InlOk Try.prog 17 laws_toSetup_i := inlOk_of Try.func17 rfl (by kernel_rfl) (by kernel_rfl)
noncomputable def impl_ValidSetup_c : Code := (Try.f18.body).getD .skip
noncomputable def impl_ValidSetup_i : Inl := { code := impl_ValidSetup_c, ntmps := Try.f18.ntmps, results := Try.f18.results.toList }
theorem impl_ValidSetup_ok : InlOk Try.prog 18 impl_ValidSetup_i := inlOk_of Try.func18 rfl (by kernel_rfl) (by kernel_rfl)
noncomputable def laws_eqSetup_c : Code := (Try.f19.body).getD .skip
noncomputable def laws_eqSetup_i : Inl := { code := laws_eqSetup_c, ntmps := Try.f19.ntmps, results := Try.f19.results.toList }
theorem laws_eqSetup_ok : InlOk Try.prog 19 laws_eqSetup_i := inlOk_of Try.func19 rfl (by kernel_rfl) (by kernel_rfl)
noncomputable def impl_within_c : Code := (Try.f30.body).getD .skip
noncomputable def impl_within_i : Inl := { code := impl_within_c, ntmps := Try.f30.ntmps, results := Try.f30.results.toList }
theorem impl_within_ok : InlOk Try.prog 30 impl_within_i := inlOk_of Try.func30 rfl (by kernel_rfl) (by kernel_rfl)
noncomputable def laws_szEditS_c : Code := (Try.f35.body).getD .skip
noncomputable def laws_szEditS_i : Inl := { code := laws_szEditS_c, ntmps := Try.f35.ntmps, results := Try.f35.results.toList }
theorem laws_szEditS_ok : InlOk Try.prog 35 laws_szEditS_i := inlOk_of Try.func35 rfl (by kernel_rfl) (by kernel_rfl)
noncomputable def spec_l09Ok_c : Code := (Try.f36.body).getD .skip
noncomputable def spec_l09Ok_i : Inl := { code := spec_l09Ok_c, ntmps := Try.f36.ntmps, results := Try.f36.results.toList }
theorem spec_l09Ok_ok : InlOk Try.prog 36 spec_l09Ok_i := inlOk_of Try.func36 rfl (by kernel_rfl) (by kernel_rfl)
noncomputable def laws_toEditS_c : Code := (Try.f37.body).getD .skip
noncomputable def laws_toEditS_i : Inl := { code := laws_toEditS_c, ntmps := Try.f37.ntmps, results := Try.f37.results.toList }
theorem laws_toEditS_ok : InlOk Try.prog 37 laws_toEditS_i := inlOk_of Try.func37 rfl (by kernel_rfl) (by kernel_rfl)
noncomputable def slices_ContainsFunc_impl_Edit_impl_Edit_c : Code := (Try.f38.body).getD .skip
noncomputable def slices_ContainsFunc_impl_Edit_impl_Edit_i : Inl := { code := slices_ContainsFunc_impl_Edit_impl_Edit_c, ntmps := Try.f38.ntmps, results := Try.f38.results.toList }
theorem slices_ContainsFunc_impl_Edit_impl_Edit_ok : InlOk Try.prog 38 slices_ContainsFunc_impl_Edit_impl_Edit_i := inlOk_of Try.func38 rfl (by kernel_rfl) (by kernel_rfl)
noncomputable def impl_ValidSetup_1_c : Code := (Try.f39.body).getD .skip
noncomputable def impl_ValidSetup_1_i : Inl := { code := impl_ValidSetup_1_c, ntmps := Try.f39.ntmps, results := Try.f39.results.toList }
theorem impl_ValidSetup_1_ok : InlOk Try.prog 39 impl_ValidSetup_1_i := inlOk_of Try.func39 rfl (by kernel_rfl) (by kernel_rfl)
noncomputable def impl_ValidEntry_c : Code := (Try.f40.body).getD .skip
noncomputable def impl_ValidEntry_i : Inl := { code := impl_ValidEntry_c, ntmps := Try.f40.ntmps, results := Try.f40.results.toList }
theorem impl_ValidEntry_ok : InlOk Try.prog 40 impl_ValidEntry_i := inlOk_of Try.func40 rfl (by kernel_rfl) (by kernel_rfl)
noncomputable def laws_eqEditS_c : Code := (Try.f41.body).getD .skip
noncomputable def laws_eqEditS_i : Inl := { code := laws_eqEditS_c, ntmps := Try.f41.ntmps, results := Try.f41.results.toList }
theorem laws_eqEditS_ok : InlOk Try.prog 41 laws_eqEditS_i := inlOk_of Try.func41 rfl (by kernel_rfl) (by kernel_rfl)
noncomputable def spec_l00In_c : Code := (Try.f49.body).getD .skip
noncomputable def spec_l00In_i : Inl := { code := spec_l00In_c, ntmps := Try.f49.ntmps, results := Try.f49.results.toList }
theorem spec_l00In_ok : InlOk Try.prog 49 spec_l00In_i := inlOk_of Try.func49 rfl (by kernel_rfl) (by kernel_rfl)
noncomputable def laws_szEdit_c : Code := (Try.f55.body).getD .skip
noncomputable def laws_szEdit_i : Inl := { code := laws_szEdit_c, ntmps := Try.f55.ntmps, results := Try.f55.results.toList }
theorem laws_szEdit_ok : InlOk Try.prog 55 laws_szEdit_i := inlOk_of Try.func55 rfl (by kernel_rfl) (by kernel_rfl)
noncomputable def spec_ValidEntry_c : Code := (Try.f56.body).getD .skip
noncomputable def spec_ValidEntry_i : Inl := { code := spec_ValidEntry_c, ntmps := Try.f56.ntmps, results := Try.f56.results.toList }
theorem spec_ValidEntry_ok : InlOk Try.prog 56 spec_ValidEntry_i := inlOk_of Try.func56 rfl (by kernel_rfl) (by kernel_rfl)
noncomputable def laws_toEdit_c : Code := (Try.f57.body).getD .skip
noncomputable def laws_toEdit_i : Inl := { code := laws_toEdit_c, ntmps := Try.f57.ntmps, results := Try.f57.results.toList }
theorem laws_toEdit_ok : InlOk Try.prog 57 laws_toEdit_i := inlOk_of Try.func57 rfl (by kernel_rfl) (by kernel_rfl)
noncomputable def slices_IndexFunc_impl_Edit_impl_Edit_c : Code := (Try.f58.body).getD .skip
noncomputable def slices_IndexFunc_impl_Edit_impl_Edit_i : Inl := { code := slices_IndexFunc_impl_Edit_impl_Edit_c, ntmps := Try.f58.ntmps, results := Try.f58.results.toList }
theorem slices_IndexFunc_impl_Edit_impl_Edit_ok : InlOk Try.prog 58 slices_IndexFunc_impl_Edit_impl_Edit_i := inlOk_of Try.func58 rfl (by kernel_rfl) (by kernel_rfl)
noncomputable def impl_isName_c : Code := (Try.f59.body).getD .skip
noncomputable def impl_isName_i : Inl := { code := impl_isName_c, ntmps := Try.f59.ntmps, results := Try.f59.results.toList }
theorem impl_isName_ok : InlOk Try.prog 59 impl_isName_i := inlOk_of Try.func59 rfl (by kernel_rfl) (by kernel_rfl)
noncomputable def laws_eqEdit_c : Code := (Try.f60.body).getD .skip
noncomputable def laws_eqEdit_i : Inl := { code := laws_eqEdit_c, ntmps := Try.f60.ntmps, results := Try.f60.results.toList }
theorem laws_eqEdit_ok : InlOk Try.prog 60 laws_eqEdit_i := inlOk_of Try.func60 rfl (by kernel_rfl) (by kernel_rfl)
noncomputable def laws_szEntry_c : Code := (Try.f71.body).getD .skip
noncomputable def laws_szEntry_i : Inl := { code := laws_szEntry_c, ntmps := Try.f71.ntmps, results := Try.f71.results.toList }
theorem laws_szEntry_ok : InlOk Try.prog 71 laws_szEntry_i := inlOk_of Try.func71 rfl (by kernel_rfl) (by kernel_rfl)
noncomputable def spec_l04Entry_c : Code := (Try.f72.body).getD .skip
noncomputable def spec_l04Entry_i : Inl := { code := spec_l04Entry_c, ntmps := Try.f72.ntmps, results := Try.f72.results.toList }
theorem spec_l04Entry_ok : InlOk Try.prog 72 spec_l04Entry_i := inlOk_of Try.func72 rfl (by kernel_rfl) (by kernel_rfl)
noncomputable def laws_toEntry_c : Code := (Try.f73.body).getD .skip
noncomputable def laws_toEntry_i : Inl := { code := laws_toEntry_c, ntmps := Try.f73.ntmps, results := Try.f73.results.toList }
theorem laws_toEntry_ok : InlOk Try.prog 73 laws_toEntry_i := inlOk_of Try.func73 rfl (by kernel_rfl) (by kernel_rfl)
noncomputable def laws_eqEntry_c : Code := (Try.f74.body).getD .skip
noncomputable def laws_eqEntry_i : Inl := { code := laws_eqEntry_c, ntmps := Try.f74.ntmps, results := Try.f74.results.toList }
theorem laws_eqEntry_ok : InlOk Try.prog 74 laws_eqEntry_i := inlOk_of Try.func74 rfl (by kernel_rfl) (by kernel_rfl)
noncomputable def spec_l04Name_c : Code := (Try.f81.body).getD .skip
noncomputable def spec_l04Name_i : Inl := { code := spec_l04Name_c, ntmps := Try.f81.ntmps, results := Try.f81.results.toList }
theorem spec_l04Name_ok : InlOk Try.prog 81 spec_l04Name_i := inlOk_of Try.func81 rfl (by kernel_rfl) (by kernel_rfl)
end Go.Ai.G
