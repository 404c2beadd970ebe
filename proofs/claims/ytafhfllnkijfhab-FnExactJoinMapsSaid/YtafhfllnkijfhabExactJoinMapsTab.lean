/- Made by a program of this work out of the program: tables and plain functions, with the proof that each Go function does what its plain function says. No conditions. -/
import Derived.Test.YtafhfllnkijfhabEg
import Derived.Test.YtafhfllnkijfhabEy
import Derived.Test.YtafhfllnkijfhabEz
import Derived.Test.YtafhfllnkijfhabProg
namespace Go.Ai.G
open Go.Proofs
open Go.Ai
set_option linter.unusedVariables false
set_option maxRecDepth 100000

noncomputable def tys : List (Option Ty) := [none,
 some (.opt .unit),
 some (.int .i64),
 some (.int .i64),
 some .bool,
 some (.int .u8),
 none,
 none,
 none,
 some .str,
 none,
 none,
 none,
 none,
 none,
 none,
 none,
 none,
 none,
 none,
 none,
 none,
 none,
 none,
 none,
 some (.slice (.int .u8)),
 none,
 none,
 none,
 none,
 none,
 none,
 none,
 none,
 none,
 none,
 none,
 none,
 none,
 none,
 none,
 none,
 none,
 none,
 none,
 none,
 none,
 none,
 none,
 none,
 none,
 some (.slice (.pair .str (.pair .str .unit))),
 none,
 some (.slice (.pair .str (.pair .str .unit))),
 none,
 none,
 none,
 none,
 none,
 none,
 some (.slice (.pair .str (.pair (.pair .str (.pair .bool (.pair .str (.pair .bool (.pair .str .unit))))) (.pair (.pair .str (.pair .bool (.pair .str (.pair .bool (.pair .str .unit))))) (.pair (.pair .str (.pair .bool (.pair .str (.pair .bool (.pair .str .unit))))) .unit))))),
 none,
 none,
 none,
 none,
 none,
 none,
 none,
 none,
 none,
 none,
 none,
 none,
 none,
 none,
 none,
 some (.int .u64),
 none,
 none,
 none,
 none,
 none,
 none,
 none,
 none,
 none,
 none,
 none,
 none,
 none,
 none,
 none,
 none,
 none,
 none,
 none,
 none,
 none,
 none,
 none,
 none,
 none,
 none,
 none,
 none,
 none,
 some (.pair .str (.pair .str .unit)),
 none,
 some (.pair .str (.pair .str .unit)),
 none,
 none,
 none,
 none,
 none,
 some (.pair .str (.pair .bool (.pair .str (.pair .bool (.pair .str .unit))))),
 none,
 some (.pair .str (.pair (.pair .str (.pair .bool (.pair .str (.pair .bool (.pair .str .unit))))) (.pair (.pair .str (.pair .bool (.pair .str (.pair .bool (.pair .str .unit))))) (.pair (.pair .str (.pair .bool (.pair .str (.pair .bool (.pair .str .unit))))) .unit)))),
 none,
 none,
 none,
 none,
 none,
 none,
 none,
 none,
 none,
 none,
 none,
 none,
 none,
 none,
 none,
 none,
 none,
 none,
 none,
 none,
 none,
 none,
 none,
 none,
 none,
 none,
 none,
 none,
 none,
 none,
 some (.slice (.pair .str (.pair .bool (.pair .str (.pair .bool (.pair .str .unit)))))),
 none,
 none,
 none,
 some (.opt .unit),
 some (.slice .str),
 none,
 none,
 none,
 none,
 none,
 none,
 none,
 none,
 none,
 none,
 none,
 none,
 none,
 none,
 none,
 some (.opt (.pair .str (.pair .str .unit))),
 none,
 none,
 none,
 none,
 none,
 none,
 none,
 none,
 none,
 none,
 some (.slice (.slice (.pair .str (.pair .str .unit)))),
 none,
 none,
 none,
 none,
 none,
 some (.opt .unit),
 none,
 none,
 none,
 none,
 none,
 none,
 none,
 none,
 none,
 none,
 none,
 none,
 none,
 none,
 none,
 none,
 none,
 none,
 none,
 none,
 none,
 none,
 none,
 none,
 none,
 none,
 none,
 none,
 none,
 none,
 none,
 none,
 none,
 none,
 none]
noncomputable def tbytes : List Nat := [0, 8, 8, 8, 1, 1, 1, 24, 24, 16, 16, 16, 8, 24, 24, 8, 8, 8, 8, 8, 16, 4, 24, 24, 4, 24, 56, 56, 8, 24, 56, 56, 24, 0, 8, 8, 8, 8, 8, 8, 8, 8, 8, 8, 24, 0, 8, 8, 8, 8, 8, 24, 8, 24, 0, 8, 8, 8, 8, 8, 24, 0, 8, 8, 8, 8, 8, 0, 8, 0, 8, 24, 0, 8, 8, 8, 8, 0, 8, 0, 8, 8, 8, 8, 8, 8, 0, 8, 8, 0, 8, 8, 8, 8, 8, 32, 32, 8, 40, 40, 8, 8, 8, 8, 8, 32, 32, 8, 32, 8, 8, 8, 8, 64, 64, 208, 208, 8, 8, 8, 8, 8, 8, 8, 8, 8, 1024, 1028, 1028, 8, 8, 8, 8, 8, 8, 8, 32, 8, 8, 8, 24, 0, 8, 8, 8, 8, 8, 24, 8, 8, 8, 8, 24, 8, 8, 8, 8, 40, 40, 8, 8, 8, 8, 8, 8, 8, 8, 8, 8, 8, 8, 8, 8, 8, 0, 8, 8, 8, 8, 24, 8, 8, 8, 8, 8, 8, 8, 8, 0, 8, 8, 8, 8, 8, 8, 8, 8, 8, 8, 8, 8, 8, 8, 0, 8, 8, 40, 40, 0, 0, 0, 8, 1, 1, 8, 8, 4, 4, 48, 48, 8]
noncomputable def telem : List Nat := [0, 0, 0, 0, 0, 0, 0, 0, 0, 0, 0, 0, 0, 0, 0, 0, 0, 0, 0, 0, 0, 0, 0, 0, 0, 5, 0, 0, 0, 0, 0, 0, 25, 0, 0, 0, 0, 0, 0, 0, 0, 0, 0, 0, 99, 0, 0, 0, 0, 0, 0, 106, 0, 108, 0, 0, 0, 0, 0, 0, 116, 0, 0, 0, 0, 0, 0, 0, 0, 0, 0, 2, 0, 0, 0, 0, 0, 0, 0, 0, 0, 0, 0, 0, 0, 0, 0, 0, 0, 0, 0, 0, 0, 0, 0, 0, 0, 0, 0, 0, 0, 0, 0, 0, 0, 0, 0, 0, 0, 0, 0, 0, 0, 0, 0, 0, 0, 0, 0, 0, 0, 0, 0, 0, 0, 0, 0, 0, 0, 0, 0, 0, 0, 0, 0, 0, 0, 0, 0, 0, 95, 0, 0, 0, 0, 0, 0, 114, 0, 0, 0, 0, 9, 0, 0, 0, 0, 0, 0, 0, 0, 0, 0, 0, 0, 0, 0, 0, 0, 0, 0, 0, 0, 0, 0, 0, 0, 0, 0, 53, 0, 0, 0, 0, 0, 0, 0, 0, 0, 0, 0, 0, 0, 0, 0, 0, 0, 0, 0, 0, 0, 0, 0, 0, 0, 0, 0, 0, 0, 0, 0, 0, 0, 0, 0, 0, 0, 0, 0, 0, 0]
noncomputable def nozero : List Nat := [0, 1, 6, 7, 8, 10, 11, 12, 13, 14, 15, 16, 17, 18, 19, 20, 21, 22, 23, 24, 26, 27, 28, 29, 30, 31, 32, 33, 34, 35, 36, 37, 38, 39, 40, 41, 42, 43, 44, 45, 46, 47, 48, 49, 50, 52, 54, 55, 56, 57, 58, 59, 61, 62, 63, 64, 65, 66, 67, 68, 69, 70, 71, 72, 73, 74, 75, 77, 78, 79, 80, 81, 82, 83, 84, 85, 86, 87, 88, 89, 90, 91, 92, 93, 94, 95, 96, 97, 98, 99, 100, 101, 102, 103, 104, 105, 107, 109, 110, 111, 112, 113, 115, 117, 118, 119, 120, 121, 122, 123, 124, 125, 126, 127, 128, 129, 130, 131, 132, 133, 134, 135, 136, 137, 138, 139, 140, 141, 142, 143, 144, 145, 146, 148, 149, 150, 151, 153, 154, 155, 156, 157, 158, 159, 160, 161, 162, 163, 164, 165, 166, 167, 169, 170, 171, 172, 173, 174, 175, 176, 177, 178, 180, 181, 182, 183, 184, 185, 186, 187, 188, 189, 190, 191, 192, 193, 194, 195, 196, 197, 198, 199, 200, 201, 202, 203, 204, 205, 206, 207, 208, 209, 210, 211, 212, 213, 214, 215, 216, 217, 218, 219, 220]
noncomputable def dps : List (Nat × DS) := [(25, (.sl 5 (.pl (.int .u8)))), (51, (.sl 106 (.pl (.pair .str (.pair .str .unit))))), (53, (.sl 108 (.pl (.pair .str (.pair .str .unit))))), (60, (.sl 116 (.pl (.pair .str (.pair (.pair .str (.pair .bool (.pair .str (.pair .bool (.pair .str .unit))))) (.pair (.pair .str (.pair .bool (.pair .str (.pair .bool (.pair .str .unit))))) (.pair (.pair .str (.pair .bool (.pair .str (.pair .bool (.pair .str .unit))))) .unit))))))), (147, (.sl 114 (.pl (.pair .str (.pair .bool (.pair .str (.pair .bool (.pair .str .unit)))))))), (152, (.sl 9 (.pl .str))), (179, (.sl 53 (.sl 108 (.pl (.pair .str (.pair .str .unit))))))]
theorem tabs_ok : rowsB Try.prog (mkCx tys tbytes telem nozero (fun _ => none) (fun _ => none) (fun _ => none) (fun _ => none) (fun _ _ => none) 0 []) 0 tys = true := by kernel_rfl
theorem mixed_ok : Try.prog.follows .mixedOrders = true := by kernel_rfl
noncomputable def laws_FnExactJoinMaps_c : Code := (Try.f5.body).getD .skip
noncomputable def laws_FnExactJoinMaps_i : Inl := { code := laws_FnExactJoinMaps_c, ntmps := Try.f5.ntmps, results := Try.f5.results.toList }
theorem laws_FnExactJoinMaps_ok : InlOk Try.prog 5 laws_FnExactJoinMaps_i := inlOk_of Try.func5 rfl (by kernel_rfl) (by kernel_rfl)
noncomputable def laws_szEntryS_c : Code := (Try.f27.body).getD .skip
noncomputable def laws_szEntryS_i : Inl := { code := laws_szEntryS_c, ntmps := Try.f27.ntmps, results := Try.f27.results.toList }
theorem laws_szEntryS_ok : InlOk Try.prog 27 laws_szEntryS_i := inlOk_of Try.func27 rfl (by kernel_rfl) (by kernel_rfl)
noncomputable def spec_JoinMaps_c : Code := (Try.f28.body).getD .skip
noncomputable def spec_JoinMaps_i : Inl := { code := spec_JoinMaps_c, ntmps := Try.f28.ntmps, results := Try.f28.results.toList }
theorem spec_JoinMaps_ok : InlOk Try.prog 28 spec_JoinMaps_i := inlOk_of Try.func28 rfl (by kernel_rfl) (by kernel_rfl)
noncomputable def laws_toEntryS_c : Code := (Try.f29.body).getD .skip
noncomputable def laws_toEntryS_i : Inl := { code := laws_toEntryS_c, ntmps := Try.f29.ntmps, results := Try.f29.results.toList }
theorem laws_toEntryS_ok : InlOk Try.prog 29 laws_toEntryS_i := inlOk_of Try.func29 rfl (by kernel_rfl) (by kernel_rfl)
noncomputable def impl_JoinMaps_c : Code := (Try.f30.body).getD .skip
noncomputable def impl_JoinMaps_i : Inl := { code := impl_JoinMaps_c, ntmps := Try.f30.ntmps, results := Try.f30.results.toList }
theorem impl_JoinMaps_ok : InlOk Try.prog 30 impl_JoinMaps_i := inlOk_of Try.func30 rfl (by kernel_rfl) (by kernel_rfl)
noncomputable def laws_eqEntryS_c : Code := (Try.f31.body).getD .skip
noncomputable def laws_eqEntryS_i : Inl := { code := laws_eqEntryS_c, ntmps := Try.f31.ntmps, results := Try.f31.results.toList }
theorem laws_eqEntryS_ok : InlOk Try.prog 31 laws_eqEntryS_i := inlOk_of Try.func31 rfl (by kernel_rfl) (by kernel_rfl)
noncomputable def laws_markEntryS_c : Code := (Try.f32.body).getD .skip
noncomputable def laws_markEntryS_i : Inl := { code := laws_markEntryS_c, ntmps := Try.f32.ntmps, results := Try.f32.results.toList }
theorem laws_markEntryS_ok : InlOk Try.prog 32 laws_markEntryS_i := inlOk_of Try.func32 rfl (by kernel_rfl) (by kernel_rfl)
noncomputable def laws_heldEntryS_c : Code := (Try.f33.body).getD .skip
noncomputable def laws_heldEntryS_i : Inl := { code := laws_heldEntryS_c, ntmps := Try.f33.ntmps, results := Try.f33.results.toList }
theorem laws_heldEntryS_ok : InlOk Try.prog 33 laws_heldEntryS_i := inlOk_of Try.func33 rfl (by kernel_rfl) (by kernel_rfl)
noncomputable def laws_szEntry_c : Code := (Try.f70.body).getD .skip
noncomputable def laws_szEntry_i : Inl := { code := laws_szEntry_c, ntmps := Try.f70.ntmps, results := Try.f70.results.toList }
theorem laws_szEntry_ok : InlOk Try.prog 70 laws_szEntry_i := inlOk_of Try.func70 rfl (by kernel_rfl) (by kernel_rfl)
noncomputable def spec_ValidEntries_c : Code := (Try.f71.body).getD .skip
noncomputable def spec_ValidEntries_i : Inl := { code := spec_ValidEntries_c, ntmps := Try.f71.ntmps, results := Try.f71.results.toList }
theorem spec_ValidEntries_ok : InlOk Try.prog 71 spec_ValidEntries_i := inlOk_of Try.func71 rfl (by kernel_rfl) (by kernel_rfl)
noncomputable def spec_l09Join_c : Code := (Try.f72.body).getD .skip
noncomputable def spec_l09Join_i : Inl := { code := spec_l09Join_c, ntmps := Try.f72.ntmps, results := Try.f72.results.toList }
theorem spec_l09Join_ok : InlOk Try.prog 72 spec_l09Join_i := inlOk_of Try.func72 rfl (by kernel_rfl) (by kernel_rfl)
noncomputable def laws_toEntry_c : Code := (Try.f73.body).getD .skip
noncomputable def laws_toEntry_i : Inl := { code := laws_toEntry_c, ntmps := Try.f73.ntmps, results := Try.f73.results.toList }
theorem laws_toEntry_ok : InlOk Try.prog 73 laws_toEntry_i := inlOk_of Try.func73 rfl (by kernel_rfl) (by kernel_rfl)
noncomputable def impl_ValidEntries_c : Code := (Try.f74.body).getD .skip
noncomputable def impl_ValidEntries_i : Inl := { code := impl_ValidEntries_c, ntmps := Try.f74.ntmps, results := Try.f74.results.toList }
theorem impl_ValidEntries_ok : InlOk Try.prog 74 impl_ValidEntries_i := inlOk_of Try.func74 rfl (by kernel_rfl) (by kernel_rfl)
noncomputable def impl_joined_c : Code := (Try.f75.body).getD .skip
noncomputable def impl_joined_i : Inl := { code := impl_joined_c, ntmps := Try.f75.ntmps, results := Try.f75.results.toList }
theorem impl_joined_ok : InlOk Try.prog 75 impl_joined_i := inlOk_of Try.func75 rfl (by kernel_rfl) (by kernel_rfl)
noncomputable def laws_eqEntry_c : Code := (Try.f76.body).getD .skip
noncomputable def laws_eqEntry_i : Inl := { code := laws_eqEntry_c, ntmps := Try.f76.ntmps, results := Try.f76.results.toList }
theorem laws_eqEntry_ok : InlOk Try.prog 76 laws_eqEntry_i := inlOk_of Try.func76 rfl (by kernel_rfl) (by kernel_rfl)
noncomputable def laws_markText_c : Code := (Try.f77.body).getD .skip
noncomputable def laws_markText_i : Inl := { code := laws_markText_c, ntmps := Try.f77.ntmps, results := Try.f77.results.toList }
theorem laws_markText_ok : InlOk Try.prog 77 laws_markText_i := inlOk_of Try.func77 rfl (by kernel_rfl) (by kernel_rfl)
noncomputable def spec_l07Merge_c : Code := (Try.f78.body).getD .skip
noncomputable def spec_l07Merge_i : Inl := { code := spec_l07Merge_c, ntmps := Try.f78.ntmps, results := Try.f78.results.toList }
theorem spec_l07Merge_ok : InlOk Try.prog 78 spec_l07Merge_i := inlOk_of Try.func78 rfl (by kernel_rfl) (by kernel_rfl)
noncomputable def impl_within_c : Code := (Try.f86.body).getD .skip
noncomputable def impl_within_i : Inl := { code := impl_within_c, ntmps := Try.f86.ntmps, results := Try.f86.results.toList }
theorem impl_within_ok : InlOk Try.prog 86 impl_within_i := inlOk_of Try.func86 rfl (by kernel_rfl) (by kernel_rfl)
noncomputable def spec_l04Ok_c : Code := (Try.f107.body).getD .skip
noncomputable def spec_l04Ok_i : Inl := { code := spec_l04Ok_c, ntmps := Try.f107.ntmps, results := Try.f107.results.toList }
theorem spec_l04Ok_ok : InlOk Try.prog 107 spec_l04Ok_i := inlOk_of Try.func107 rfl (by kernel_rfl) (by kernel_rfl)
noncomputable def spec_l07Undone_c : Code := (Try.f108.body).getD .skip
noncomputable def spec_l07Undone_i : Inl := { code := spec_l07Undone_c, ntmps := Try.f108.ntmps, results := Try.f108.results.toList }
theorem spec_l07Undone_ok : InlOk Try.prog 108 spec_l07Undone_i := inlOk_of Try.func108 rfl (by kernel_rfl) (by kernel_rfl)
noncomputable def impl_ValidEntry_c : Code := (Try.f109.body).getD .skip
noncomputable def impl_ValidEntry_i : Inl := { code := impl_ValidEntry_c, ntmps := Try.f109.ntmps, results := Try.f109.results.toList }
theorem impl_ValidEntry_ok : InlOk Try.prog 109 impl_ValidEntry_i := inlOk_of Try.func109 rfl (by kernel_rfl) (by kernel_rfl)
noncomputable def impl_mergeBy_c : Code := (Try.f110.body).getD .skip
noncomputable def impl_mergeBy_i : Inl := { code := impl_mergeBy_c, ntmps := Try.f110.ntmps, results := Try.f110.results.toList }
theorem impl_mergeBy_ok : InlOk Try.prog 110 impl_mergeBy_i := inlOk_of Try.func110 rfl (by kernel_rfl) (by kernel_rfl)
noncomputable def impl_joined_1_c : Code := (Try.f111.body).getD .skip
noncomputable def impl_joined_1_i : Inl := { code := impl_joined_1_c, ntmps := Try.f111.ntmps, results := Try.f111.results.toList }
theorem impl_joined_1_ok : InlOk Try.prog 111 impl_joined_1_i := inlOk_of Try.func111 rfl (by kernel_rfl) (by kernel_rfl)
noncomputable def spec_l07Names_c : Code := (Try.f112.body).getD .skip
noncomputable def spec_l07Names_i : Inl := { code := spec_l07Names_c, ntmps := Try.f112.ntmps, results := Try.f112.results.toList }
theorem spec_l07Names_ok : InlOk Try.prog 112 spec_l07Names_i := inlOk_of Try.func112 rfl (by kernel_rfl) (by kernel_rfl)
noncomputable def spec_l07Has_c : Code := (Try.f113.body).getD .skip
noncomputable def spec_l07Has_i : Inl := { code := spec_l07Has_c, ntmps := Try.f113.ntmps, results := Try.f113.results.toList }
theorem spec_l07Has_ok : InlOk Try.prog 113 spec_l07Has_i := inlOk_of Try.func113 rfl (by kernel_rfl) (by kernel_rfl)
noncomputable def spec_l00In_c : Code := (Try.f120.body).getD .skip
noncomputable def spec_l00In_i : Inl := { code := spec_l00In_c, ntmps := Try.f120.ntmps, results := Try.f120.results.toList }
theorem spec_l00In_ok : InlOk Try.prog 120 spec_l00In_i := inlOk_of Try.func120 rfl (by kernel_rfl) (by kernel_rfl)
noncomputable def spec_l04Entry_c : Code := (Try.f127.body).getD .skip
noncomputable def spec_l04Entry_i : Inl := { code := spec_l04Entry_c, ntmps := Try.f127.ntmps, results := Try.f127.results.toList }
theorem spec_l04Entry_ok : InlOk Try.prog 127 spec_l04Entry_i := inlOk_of Try.func127 rfl (by kernel_rfl) (by kernel_rfl)
noncomputable def impl_isName_c : Code := (Try.f128.body).getD .skip
noncomputable def impl_isName_i : Inl := { code := impl_isName_c, ntmps := Try.f128.ntmps, results := Try.f128.results.toList }
theorem impl_isName_ok : InlOk Try.prog 128 impl_isName_i := inlOk_of Try.func128 rfl (by kernel_rfl) (by kernel_rfl)
noncomputable def slices_Concat_impl_Entry_impl_Entry_c : Code := (Try.f129.body).getD .skip
noncomputable def slices_Concat_impl_Entry_impl_Entry_i : Inl := { code := slices_Concat_impl_Entry_impl_Entry_c, ntmps := Try.f129.ntmps, results := Try.f129.results.toList }
theorem slices_Concat_impl_Entry_impl_Entry_ok : InlOk Try.prog 129 slices_Concat_impl_Entry_impl_Entry_i := inlOk_of Try.func129 rfl (by kernel_rfl) (by kernel_rfl)
noncomputable def slices_Sort_string_string_c : Code := (Try.f130.body).getD .skip
noncomputable def slices_Sort_string_string_i : Inl := { code := slices_Sort_string_string_c, ntmps := Try.f130.ntmps, results := Try.f130.results.toList }
theorem slices_Sort_string_string_ok : InlOk Try.prog 130 slices_Sort_string_string_i := inlOk_of Try.func130 rfl (by kernel_rfl) (by kernel_rfl)
noncomputable def slices_Compact_string_string_c : Code := (Try.f131.body).getD .skip
noncomputable def slices_Compact_string_string_i : Inl := { code := slices_Compact_string_string_c, ntmps := Try.f131.ntmps, results := Try.f131.results.toList }
theorem slices_Compact_string_string_ok : InlOk Try.prog 131 slices_Compact_string_string_i := inlOk_of Try.func131 rfl (by kernel_rfl) (by kernel_rfl)
noncomputable def impl_same_c : Code := (Try.f132.body).getD .skip
noncomputable def impl_same_i : Inl := { code := impl_same_c, ntmps := Try.f132.ntmps, results := Try.f132.results.toList }
theorem impl_same_ok : InlOk Try.prog 132 impl_same_i := inlOk_of Try.func132 rfl (by kernel_rfl) (by kernel_rfl)
noncomputable def impl_told_c : Code := (Try.f133.body).getD .skip
noncomputable def impl_told_i : Inl := { code := impl_told_c, ntmps := Try.f133.ntmps, results := Try.f133.results.toList }
theorem impl_told_ok : InlOk Try.prog 133 impl_told_i := inlOk_of Try.func133 rfl (by kernel_rfl) (by kernel_rfl)
noncomputable def impl_find_c : Code := (Try.f134.body).getD .skip
noncomputable def impl_find_i : Inl := { code := impl_find_c, ntmps := Try.f134.ntmps, results := Try.f134.results.toList }
theorem impl_find_ok : InlOk Try.prog 134 impl_find_i := inlOk_of Try.func134 rfl (by kernel_rfl) (by kernel_rfl)
noncomputable def spec_l04Name_c : Code := (Try.f138.body).getD .skip
noncomputable def spec_l04Name_i : Inl := { code := spec_l04Name_c, ntmps := Try.f138.ntmps, results := Try.f138.results.toList }
theorem spec_l04Name_ok : InlOk Try.prog 138 spec_l04Name_i := inlOk_of Try.func138 rfl (by kernel_rfl) (by kernel_rfl)
noncomputable def slices_Grow_impl_Entry_impl_Entry_c : Code := (Try.f139.body).getD .skip
noncomputable def slices_Grow_impl_Entry_impl_Entry_i : Inl := { code := slices_Grow_impl_Entry_impl_Entry_c, ntmps := Try.f139.ntmps, results := Try.f139.results.toList }
theorem slices_Grow_impl_Entry_impl_Entry_ok : InlOk Try.prog 139 slices_Grow_impl_Entry_impl_Entry_i := inlOk_of Try.func139 rfl (by kernel_rfl) (by kernel_rfl)
noncomputable def slices_BinarySearchFunc_impl_Entry_impl_Entry_string_c : Code := (Try.f142.body).getD .skip
noncomputable def slices_BinarySearchFunc_impl_Entry_impl_Entry_string_i : Inl := { code := slices_BinarySearchFunc_impl_Entry_impl_Entry_string_c, ntmps := Try.f142.ntmps, results := Try.f142.results.toList }
theorem slices_BinarySearchFunc_impl_Entry_impl_Entry_string_ok : InlOk Try.prog 142 slices_BinarySearchFunc_impl_Entry_impl_Entry_string_i := inlOk_of Try.func142 rfl (by kernel_rfl) (by kernel_rfl)
noncomputable def impl_find_1_c : Code := (Try.f143.body).getD .skip
noncomputable def impl_find_1_i : Inl := { code := impl_find_1_c, ntmps := Try.f143.ntmps, results := Try.f143.results.toList }
theorem impl_find_1_ok : InlOk Try.prog 143 impl_find_1_i := inlOk_of Try.func143 rfl (by kernel_rfl) (by kernel_rfl)
noncomputable def cmp_Compare_string_c : Code := (Try.f144.body).getD .skip
noncomputable def cmp_Compare_string_i : Inl := { code := cmp_Compare_string_c, ntmps := Try.f144.ntmps, results := Try.f144.results.toList }
theorem cmp_Compare_string_ok : InlOk Try.prog 144 cmp_Compare_string_i := inlOk_of Try.func144 rfl (by kernel_rfl) (by kernel_rfl)
noncomputable def cmp_isNaN_string_c : Code := (Try.f156.body).getD .skip
noncomputable def cmp_isNaN_string_i : Inl := { code := cmp_isNaN_string_c, ntmps := Try.f156.ntmps, results := Try.f156.results.toList }
theorem cmp_isNaN_string_ok : InlOk Try.prog 156 cmp_isNaN_string_i := inlOk_of Try.func156 rfl (by kernel_rfl) (by kernel_rfl)
end Go.Ai.G
namespace Go.Proofs
open Go.Shelf
def Try.laysGrow139_ren : Go.Shelf.Ren := ⟨fun | 4 => 139 | n => n, fun | 22 => 53 | 25 => 108 | 3 => 3 | 4 => 4 | 9 => 9 | 20 => 20 | 0 => 0 | n => n, fun | n => n⟩
theorem Try.laysGrow139 : Go.Proofs.Lays8.n4 Try.prog Try.laysGrow139_ren := {
  mixed := by kernel_rfl
  f4 := ⟨Try.f139.name, by decide, Try.func139.trans (congrArg some (by kernel_rfl))⟩
  t0 := Try.underlying0
  a0 := Try.isAgg0
  z0 := Try.sizeOf0
  v0 := Try.zeroValue0
  t3 := Try.underlying3
  a3 := Try.isAgg3
  z3 := Try.sizeOf3
  v3 := Try.zeroValue3
  t4 := Try.underlying4
  a4 := Try.isAgg4
  z4 := Try.sizeOf4
  v4 := Try.zeroValue4
  t9 := Try.underlying9
  a9 := Try.isAgg9
  z9 := Try.sizeOf9
  v9 := Try.zeroValue9
  t20 := Try.underlying20
  a20 := Try.isAgg20
  z20 := Try.sizeOf20
  v20 := Try.zeroValue20
  t22 := Try.underlying53
  a22 := Try.isAgg53
  z22 := Try.sizeOf53
  v22 := Try.zeroValue53 }

def Try.laysSort130_ren : Go.Shelf.Ren := ⟨fun | 190 => 130 | 125 => 141 | 258 => 140 | 128 => 154 | 129 => 155 | 302 => 145 | 303 => 146 | 304 => 147 | 305 => 148 | 306 => 149 | 307 => 150 | 308 => 151 | 309 => 152 | 310 => 153 | 333 => 157 | 329 => 158 | 330 => 159 | 334 => 160 | 335 => 161 | 336 => 156 | 344 => 162 | n => n, fun | 31 => 152 | 9 => 9 | 3 => 3 | 46 => 76 | 0 => 0 | 51 => 24 | 53 => 156 | 4 => 4 | 183 => 188 | 182 => 187 | 131 => 174 | 5 => 5 | 218 => 196 | 222 => 200 | 228 => 202 | 229 => 203 | n => n, fun | n => n⟩
theorem Try.laysSort130 : Go.Proofs.Lays.n190 Try.prog Try.laysSort130_ren := {
  mixed := by kernel_rfl
  f125 := Try.func141.trans (congrArg some (by kernel_rfl))
  f128 := Try.func154.trans (congrArg some (by kernel_rfl))
  f129 := Try.func155.trans (congrArg some (by kernel_rfl))
  f190 := Try.func130.trans (congrArg some (by kernel_rfl))
  f258 := Try.func140.trans (congrArg some (by kernel_rfl))
  f302 := Try.func145.trans (congrArg some (by kernel_rfl))
  f303 := Try.func146.trans (congrArg some (by kernel_rfl))
  f304 := Try.func147.trans (congrArg some (by kernel_rfl))
  f305 := Try.func148.trans (congrArg some (by kernel_rfl))
  f306 := Try.func149.trans (congrArg some (by kernel_rfl))
  f307 := Try.func150.trans (congrArg some (by kernel_rfl))
  f308 := Try.func151.trans (congrArg some (by kernel_rfl))
  f309 := Try.func152.trans (congrArg some (by kernel_rfl))
  f310 := Try.func153.trans (congrArg some (by kernel_rfl))
  f329 := Try.func158.trans (congrArg some (by kernel_rfl))
  f330 := Try.func159.trans (congrArg some (by kernel_rfl))
  f333 := Try.func157.trans (congrArg some (by kernel_rfl))
  f334 := Try.func160.trans (congrArg some (by kernel_rfl))
  f335 := Try.func161.trans (congrArg some (by kernel_rfl))
  f336 := Try.func156.trans (congrArg some (by kernel_rfl))
  f344 := Try.func162.trans (congrArg some (by kernel_rfl))
  t0 := Try.underlying0
  a0 := Try.isAgg0
  z0 := Try.sizeOf0
  v0 := Try.zeroValue0
  t3 := Try.underlying3
  a3 := Try.isAgg3
  z3 := Try.sizeOf3
  v3 := Try.zeroValue3
  t4 := Try.underlying4
  a4 := Try.isAgg4
  z4 := Try.sizeOf4
  v4 := Try.zeroValue4
  t5 := Try.underlying5
  a5 := Try.isAgg5
  z5 := Try.sizeOf5
  v5 := Try.zeroValue5
  t9 := Try.underlying9
  a9 := Try.isAgg9
  z9 := Try.sizeOf9
  v9 := Try.zeroValue9
  t31 := Try.underlying152
  a31 := Try.isAgg152
  z31 := Try.sizeOf152
  v31 := Try.zeroValue152
  t46 := Try.underlying76
  a46 := Try.isAgg76
  z46 := Try.sizeOf76
  v46 := Try.zeroValue76
  t51 := Try.underlying24
  a51 := Try.isAgg24
  z51 := Try.sizeOf24
  v51 := Try.zeroValue24
  t53 := Try.underlying156
  a53 := Try.isAgg156
  z53 := Try.sizeOf156
  v53 := Try.zeroValue156
  t131 := Try.underlying174
  a131 := Try.isAgg174
  z131 := Try.sizeOf174
  v131 := Try.zeroValue174
  t182 := Try.underlying187
  a182 := Try.isAgg187
  z182 := Try.sizeOf187
  v182 := Try.zeroValue187
  t183 := Try.underlying188
  a183 := Try.isAgg188
  z183 := Try.sizeOf188
  v183 := Try.zeroValue188
  t218 := Try.underlying196
  a218 := Try.isAgg196
  z218 := Try.sizeOf196
  v218 := Try.zeroValue196
  t222 := Try.underlying200
  a222 := Try.isAgg200
  z222 := Try.sizeOf200
  v222 := Try.zeroValue200
  t228 := Try.underlying202
  a228 := Try.isAgg202
  z228 := Try.sizeOf202
  v228 := Try.zeroValue202
  t229 := Try.underlying203
  a229 := Try.isAgg203
  z229 := Try.sizeOf203
  v229 := Try.zeroValue203 }

end Go.Proofs
namespace Go.Ai.G
open Go.Proofs
open Go.Ai
noncomputable def slices_Grow_impl_Entry_impl_Entry_tr (a0 : (List (List Int × (List Int × Unit)))) (a1 : Int) : Option (List (List Int × (List Int × Unit))) :=
 cond (decide (0 ≤ a1) && (decide (((a0.length : Int) + a1) * ((32 : Nat) : Int) ≤ 140737488355328) && decide ((a0.length : Int) + a1 ≤ 4611686018427387904))) (some a0) none
noncomputable def slices_Grow_impl_Entry_impl_Entry_tak : ConT := growC 108 (.pair .str (.pair .str .unit)) 32
theorem slices_Grow_impl_Entry_impl_Entry_takOk : TakOk Try.prog 139 slices_Grow_impl_Entry_impl_Entry_tak := grow_takB Try.laysGrow139 (.pair .str (.pair .str .unit)) rfl rfl slices_Grow_impl_Entry_impl_Entry_ok 32 (by kernel_rfl)
noncomputable def slices_Sort_string_string_r (a0 : List (List Int)) : Option (List (List Int) × Unit) := cond (Nat.blt a0.length 4611686018427387904) (some (sortT a0, ())) none
noncomputable def slices_Sort_string_string_inp : ConI := sortC 9
theorem slices_Sort_string_string_inpOk : InpOk Try.prog 130 slices_Sort_string_string_inp := sort_inp Try.laysSort130 rfl slices_Sort_string_string_ok
end Go.Ai.G
