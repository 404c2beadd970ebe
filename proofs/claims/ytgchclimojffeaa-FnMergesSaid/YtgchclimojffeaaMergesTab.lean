/- Made by a program of this work out of the program: tables and plain functions, with the proof that each Go function does what its plain function says. No conditions. -/
import Derived.Test.YtgchclimojffeaaEg
import Derived.Test.YtgchclimojffeaaEy
import Derived.Test.YtgchclimojffeaaEz
import Derived.Test.YtgchclimojffeaaProg
namespace Go.Ai.G
open Go.Proofs
open Go.Ai
set_option linter.unusedVariables false
set_option maxRecDepth 100000

noncomputable def tys : List (Option Ty) := [none,
 some (.opt .unit),
 some (.int .i64),
 some (.int .i64),
 some .bool,
 some (.int .u8),
 none,
 none,
 none,
 some .str,
 none,
 none,
 none,
 none,
 none,
 none,
 none,
 none,
 none,
 none,
 none,
 none,
 some (.slice (.int .u8)),
 none,
 some (.slice (.pair .str (.pair .str .unit))),
 none,
 some (.slice (.pair .str (.pair (.pair .str (.pair .bool (.pair .str (.pair .bool (.pair .str .unit))))) (.pair (.pair .str (.pair .bool (.pair .str (.pair .bool (.pair .str .unit))))) (.pair (.pair .str (.pair .bool (.pair .str (.pair .bool (.pair .str .unit))))) .unit))))),
 none,
 none,
 none,
 none,
 none,
 none,
 none,
 none,
 none,
 some (.pair .str (.pair .bool (.pair .str (.pair .bool (.pair .str .unit))))),
 none,
 some (.pair .str (.pair (.pair .str (.pair .bool (.pair .str (.pair .bool (.pair .str .unit))))) (.pair (.pair .str (.pair .bool (.pair .str (.pair .bool (.pair .str .unit))))) (.pair (.pair .str (.pair .bool (.pair .str (.pair .bool (.pair .str .unit))))) .unit)))),
 none,
 some (.opt (.pair (.slice (.int .u8)) (.pair (.int .i64) (.pair (.int .u64) .unit)))),
 none,
 none,
 some (.pair .str (.pair .str .unit)),
 none,
 none,
 some (.slice .str),
 some (.int .u64),
 none,
 some (.pair (.slice (.int .u8)) (.pair (.int .i64) (.pair (.int .u64) .unit))),
 none,
 none,
 some (.opt .unit),
 none,
 some (.opt (.pair .str (.pair .str .unit))),
 none,
 none,
 none,
 none,
 none,
 none,
 none,
 none,
 none,
 none,
 none,
 some (.slice (.slice (.pair .str (.pair .str .unit)))),
 none,
 none,
 none,
 some (.int .u64),
 none,
 none,
 some (.opt .unit),
 none,
 none,
 none,
 none,
 none,
 none,
 none,
 none,
 none,
 none,
 none,
 none,
 none,
 none,
 none,
 none,
 none,
 none,
 none,
 none,
 none,
 none,
 none,
 none,
 none,
 none,
 none,
 none,
 none,
 none,
 none,
 none,
 none,
 none,
 none,
 none]
noncomputable def tbytes : List Nat := [0, 8, 8, 8, 1, 1, 1, 24, 24, 16, 16, 16, 8, 24, 24, 8, 8, 8, 8, 8, 16, 4, 24, 8, 24, 8, 24, 0, 8, 0, 8, 8, 8, 0, 8, 64, 64, 208, 208, 8, 8, 8, 32, 32, 8, 8, 24, 8, 40, 40, 8, 8, 8, 8, 8, 8, 8, 8, 8, 8, 8, 8, 0, 8, 8, 8, 24, 8, 8, 8, 8, 8, 8, 8, 8, 8, 0, 8, 8, 8, 8, 8, 8, 4, 8, 8, 8, 8, 8, 8, 8, 8, 0, 8, 8, 40, 40, 0, 0, 0, 8, 1, 1, 8, 8, 4, 4, 48, 48, 8]
noncomputable def telem : List Nat := [0, 0, 0, 0, 0, 0, 0, 0, 0, 0, 0, 0, 0, 0, 0, 0, 0, 0, 0, 0, 0, 0, 5, 0, 43, 0, 38, 0, 0, 0, 0, 0, 0, 0, 0, 0, 0, 0, 0, 0, 0, 0, 0, 0, 0, 0, 9, 0, 0, 0, 0, 0, 0, 0, 0, 0, 0, 0, 0, 0, 0, 0, 0, 0, 0, 0, 24, 0, 0, 0, 0, 0, 0, 0, 0, 0, 0, 0, 0, 0, 0, 0, 0, 0, 0, 0, 0, 0, 0, 0, 0, 0, 0, 0, 0, 0, 0, 0, 0, 0, 0, 0, 0, 0, 0, 0, 0, 0, 0, 0]
noncomputable def nozero : List Nat := [0, 1, 6, 7, 8, 10, 11, 12, 13, 14, 15, 16, 17, 18, 19, 20, 21, 23, 25, 27, 28, 29, 30, 31, 32, 33, 34, 35, 37, 39, 41, 42, 44, 45, 48, 50, 51, 52, 53, 55, 56, 57, 58, 59, 60, 61, 62, 63, 64, 65, 67, 68, 69, 71, 72, 73, 74, 75, 76, 77, 78, 79, 80, 81, 82, 83, 84, 85, 86, 87, 88, 89, 90, 91, 92, 93, 94, 95, 96, 97, 98, 99, 100, 101, 102, 103, 104, 105, 106, 107, 108, 109]
noncomputable def dps : List (Nat × DS) := [(22, (.sl 5 (.pl (.int .u8)))), (24, (.sl 43 (.pl (.pair .str (.pair .str .unit))))), (26, (.sl 38 (.pl (.pair .str (.pair (.pair .str (.pair .bool (.pair .str (.pair .bool (.pair .str .unit))))) (.pair (.pair .str (.pair .bool (.pair .str (.pair .bool (.pair .str .unit))))) (.pair (.pair .str (.pair .bool (.pair .str (.pair .bool (.pair .str .unit))))) .unit))))))), (46, (.sl 9 (.pl .str))), (49, (.pr (.sl 5 (.pl (.int .u8))) (.pr (.pl (.int .i64)) (.pr (.pl (.int .u64)) (.pl .unit))))), (66, (.sl 24 (.sl 43 (.pl (.pair .str (.pair .str .unit))))))]
theorem tabs_ok : rowsB Try.prog (mkCx tys tbytes telem nozero (fun _ => none) (fun _ => none) (fun _ => none) (fun _ => none) (fun _ _ => none) 0 [] false) 0 tys = true := by kernel_rfl
theorem mixed_ok : Try.prog.follows .mixedOrders = true := by kernel_rfl
noncomputable def laws_FnMerges_c : Code := (Try.f3.body).getD .skip
noncomputable def laws_FnMerges_i : Inl := { code := laws_FnMerges_c, ntmps := Try.f3.ntmps, results := Try.f3.results.toList }
theorem laws_FnMerges_ok : InlOk Try.prog 3 laws_FnMerges_i := inlOk_of Try.func3 rfl (by kernel_rfl) (by kernel_rfl)
noncomputable def laws_a2Long_c : Code := (Try.f4.body).getD .skip
noncomputable def laws_a2Long_i : Inl := { code := laws_a2Long_c, ntmps := Try.f4.ntmps, results := Try.f4.results.toList }
theorem laws_a2Long_ok : InlOk Try.prog 4 laws_a2Long_i := inlOk_of Try.func4 rfl (by kernel_rfl) (by kernel_rfl)
noncomputable def spec_A2Map_c : Code := (Try.f5.body).getD .skip
noncomputable def spec_A2Map_i : Inl := { code := spec_A2Map_c, ntmps := Try.f5.ntmps, results := Try.f5.results.toList }
theorem spec_A2Map_ok : InlOk Try.prog 5 spec_A2Map_i := inlOk_of Try.func5 rfl (by kernel_rfl) (by kernel_rfl)
noncomputable def impl_MergeMaps_c : Code := (Try.f6.body).getD .skip
noncomputable def impl_MergeMaps_i : Inl := { code := impl_MergeMaps_c, ntmps := Try.f6.ntmps, results := Try.f6.results.toList }
theorem impl_MergeMaps_ok : InlOk Try.prog 6 impl_MergeMaps_i := inlOk_of Try.func6 rfl (by kernel_rfl) (by kernel_rfl)
noncomputable def impl_JoinMaps_c : Code := (Try.f7.body).getD .skip
noncomputable def impl_JoinMaps_i : Inl := { code := impl_JoinMaps_c, ntmps := Try.f7.ntmps, results := Try.f7.results.toList }
theorem impl_JoinMaps_ok : InlOk Try.prog 7 impl_JoinMaps_i := inlOk_of Try.func7 rfl (by kernel_rfl) (by kernel_rfl)
noncomputable def spec_SameMap_c : Code := (Try.f8.body).getD .skip
noncomputable def spec_SameMap_i : Inl := { code := spec_SameMap_c, ntmps := Try.f8.ntmps, results := Try.f8.results.toList }
theorem spec_SameMap_ok : InlOk Try.prog 8 spec_SameMap_i := inlOk_of Try.func8 rfl (by kernel_rfl) (by kernel_rfl)
noncomputable def spec_ValidEntries_c : Code := (Try.f9.body).getD .skip
noncomputable def spec_ValidEntries_i : Inl := { code := spec_ValidEntries_c, ntmps := Try.f9.ntmps, results := Try.f9.results.toList }
theorem spec_ValidEntries_ok : InlOk Try.prog 9 spec_ValidEntries_i := inlOk_of Try.func9 rfl (by kernel_rfl) (by kernel_rfl)
noncomputable def laws_a2Get_c : Code := (Try.f10.body).getD .skip
noncomputable def laws_a2Get_i : Inl := { code := laws_a2Get_c, ntmps := Try.f10.ntmps, results := Try.f10.results.toList }
theorem laws_a2Get_ok : InlOk Try.prog 10 laws_a2Get_i := inlOk_of Try.func10 rfl (by kernel_rfl) (by kernel_rfl)
noncomputable def spec_l07Map_c : Code := (Try.f11.body).getD .skip
noncomputable def spec_l07Map_i : Inl := { code := spec_l07Map_c, ntmps := Try.f11.ntmps, results := Try.f11.results.toList }
theorem spec_l07Map_ok : InlOk Try.prog 11 spec_l07Map_i := inlOk_of Try.func11 rfl (by kernel_rfl) (by kernel_rfl)
noncomputable def spec_l00From_c : Code := (Try.f12.body).getD .skip
noncomputable def spec_l00From_i : Inl := { code := spec_l00From_c, ntmps := Try.f12.ntmps, results := Try.f12.results.toList }
theorem spec_l00From_ok : InlOk Try.prog 12 spec_l00From_i := inlOk_of Try.func12 rfl (by kernel_rfl) (by kernel_rfl)
noncomputable def impl_ValidEntries_c : Code := (Try.f13.body).getD .skip
noncomputable def impl_ValidEntries_i : Inl := { code := impl_ValidEntries_c, ntmps := Try.f13.ntmps, results := Try.f13.results.toList }
theorem impl_ValidEntries_ok : InlOk Try.prog 13 impl_ValidEntries_i := inlOk_of Try.func13 rfl (by kernel_rfl) (by kernel_rfl)
noncomputable def impl_merge_c : Code := (Try.f14.body).getD .skip
noncomputable def impl_merge_i : Inl := { code := impl_merge_c, ntmps := Try.f14.ntmps, results := Try.f14.results.toList }
theorem impl_merge_ok : InlOk Try.prog 14 impl_merge_i := inlOk_of Try.func14 rfl (by kernel_rfl) (by kernel_rfl)
noncomputable def impl_joined_c : Code := (Try.f15.body).getD .skip
noncomputable def impl_joined_i : Inl := { code := impl_joined_c, ntmps := Try.f15.ntmps, results := Try.f15.results.toList }
theorem impl_joined_ok : InlOk Try.prog 15 impl_joined_i := inlOk_of Try.func15 rfl (by kernel_rfl) (by kernel_rfl)
noncomputable def spec_l07SameMaps_c : Code := (Try.f16.body).getD .skip
noncomputable def spec_l07SameMaps_i : Inl := { code := spec_l07SameMaps_c, ntmps := Try.f16.ntmps, results := Try.f16.results.toList }
theorem spec_l07SameMaps_ok : InlOk Try.prog 16 spec_l07SameMaps_i := inlOk_of Try.func16 rfl (by kernel_rfl) (by kernel_rfl)
noncomputable def spec_l04Ok_c : Code := (Try.f17.body).getD .skip
noncomputable def spec_l04Ok_i : Inl := { code := spec_l04Ok_c, ntmps := Try.f17.ntmps, results := Try.f17.results.toList }
theorem spec_l04Ok_ok : InlOk Try.prog 17 spec_l04Ok_i := inlOk_of Try.func17 rfl (by kernel_rfl) (by kernel_rfl)
noncomputable def spec_l00Src_one_c : Code := (Try.f18.body).getD .skip
noncomputable def spec_l00Src_one_i : Inl := { code := spec_l00Src_one_c, ntmps := Try.f18.ntmps, results := Try.f18.results.toList }
theorem spec_l00Src_one_ok : InlOk Try.prog 18 spec_l00Src_one_i := inlOk_of Try.func18 rfl (by kernel_rfl) (by kernel_rfl)
noncomputable def spec_l00Src_text_c : Code := (Try.f19.body).getD .skip
noncomputable def spec_l00Src_text_i : Inl := { code := spec_l00Src_text_c, ntmps := Try.f19.ntmps, results := Try.f19.results.toList }
theorem spec_l00Src_text_ok : InlOk Try.prog 19 spec_l00Src_text_i := inlOk_of Try.func19 rfl (by kernel_rfl) (by kernel_rfl)
noncomputable def impl_ValidEntry_c : Code := (Try.f20.body).getD .skip
noncomputable def impl_ValidEntry_i : Inl := { code := impl_ValidEntry_c, ntmps := Try.f20.ntmps, results := Try.f20.results.toList }
theorem impl_ValidEntry_ok : InlOk Try.prog 20 impl_ValidEntry_i := inlOk_of Try.func20 rfl (by kernel_rfl) (by kernel_rfl)
noncomputable def impl_mergeBy_c : Code := (Try.f21.body).getD .skip
noncomputable def impl_mergeBy_i : Inl := { code := impl_mergeBy_c, ntmps := Try.f21.ntmps, results := Try.f21.results.toList }
theorem impl_mergeBy_ok : InlOk Try.prog 21 impl_mergeBy_i := inlOk_of Try.func21 rfl (by kernel_rfl) (by kernel_rfl)
noncomputable def impl_merge_1_c : Code := (Try.f22.body).getD .skip
noncomputable def impl_merge_1_i : Inl := { code := impl_merge_1_c, ntmps := Try.f22.ntmps, results := Try.f22.results.toList }
theorem impl_merge_1_ok : InlOk Try.prog 22 impl_merge_1_i := inlOk_of Try.func22 rfl (by kernel_rfl) (by kernel_rfl)
noncomputable def impl_joined_1_c : Code := (Try.f23.body).getD .skip
noncomputable def impl_joined_1_i : Inl := { code := impl_joined_1_c, ntmps := Try.f23.ntmps, results := Try.f23.results.toList }
theorem impl_joined_1_ok : InlOk Try.prog 23 impl_joined_1_i := inlOk_of Try.func23 rfl (by kernel_rfl) (by kernel_rfl)
noncomputable def spec_l04Entry_c : Code := (Try.f24.body).getD .skip
noncomputable def spec_l04Entry_i : Inl := { code := spec_l04Entry_c, ntmps := Try.f24.ntmps, results := Try.f24.results.toList }
theorem spec_l04Entry_ok : InlOk Try.prog 24 spec_l04Entry_i := inlOk_of Try.func24 rfl (by kernel_rfl) (by kernel_rfl)
noncomputable def spec_l00Src_pick_c : Code := (Try.f25.body).getD .skip
noncomputable def spec_l00Src_pick_i : Inl := { code := spec_l00Src_pick_c, ntmps := Try.f25.ntmps, results := Try.f25.results.toList }
theorem spec_l00Src_pick_ok : InlOk Try.prog 25 spec_l00Src_pick_i := inlOk_of Try.func25 rfl (by kernel_rfl) (by kernel_rfl)
noncomputable def impl_isName_c : Code := (Try.f26.body).getD .skip
noncomputable def impl_isName_i : Inl := { code := impl_isName_c, ntmps := Try.f26.ntmps, results := Try.f26.results.toList }
theorem impl_isName_ok : InlOk Try.prog 26 impl_isName_i := inlOk_of Try.func26 rfl (by kernel_rfl) (by kernel_rfl)
noncomputable def slices_Concat_impl_Entry_impl_Entry_c : Code := (Try.f27.body).getD .skip
noncomputable def slices_Concat_impl_Entry_impl_Entry_i : Inl := { code := slices_Concat_impl_Entry_impl_Entry_c, ntmps := Try.f27.ntmps, results := Try.f27.results.toList }
theorem slices_Concat_impl_Entry_impl_Entry_ok : InlOk Try.prog 27 slices_Concat_impl_Entry_impl_Entry_i := inlOk_of Try.func27 rfl (by kernel_rfl) (by kernel_rfl)
noncomputable def slices_Sort_string_string_c : Code := (Try.f28.body).getD .skip
noncomputable def slices_Sort_string_string_i : Inl := { code := slices_Sort_string_string_c, ntmps := Try.f28.ntmps, results := Try.f28.results.toList }
theorem slices_Sort_string_string_ok : InlOk Try.prog 28 slices_Sort_string_string_i := inlOk_of Try.func28 rfl (by kernel_rfl) (by kernel_rfl)
noncomputable def slices_Compact_string_string_c : Code := (Try.f29.body).getD .skip
noncomputable def slices_Compact_string_string_i : Inl := { code := slices_Compact_string_string_c, ntmps := Try.f29.ntmps, results := Try.f29.results.toList }
theorem slices_Compact_string_string_ok : InlOk Try.prog 29 slices_Compact_string_string_i := inlOk_of Try.func29 rfl (by kernel_rfl) (by kernel_rfl)
noncomputable def impl_same_c : Code := (Try.f30.body).getD .skip
noncomputable def impl_same_i : Inl := { code := impl_same_c, ntmps := Try.f30.ntmps, results := Try.f30.results.toList }
theorem impl_same_ok : InlOk Try.prog 30 impl_same_i := inlOk_of Try.func30 rfl (by kernel_rfl) (by kernel_rfl)
noncomputable def impl_told_c : Code := (Try.f31.body).getD .skip
noncomputable def impl_told_i : Inl := { code := impl_told_c, ntmps := Try.f31.ntmps, results := Try.f31.results.toList }
theorem impl_told_ok : InlOk Try.prog 31 impl_told_i := inlOk_of Try.func31 rfl (by kernel_rfl) (by kernel_rfl)
noncomputable def impl_find_c : Code := (Try.f32.body).getD .skip
noncomputable def impl_find_i : Inl := { code := impl_find_c, ntmps := Try.f32.ntmps, results := Try.f32.results.toList }
theorem impl_find_ok : InlOk Try.prog 32 impl_find_i := inlOk_of Try.func32 rfl (by kernel_rfl) (by kernel_rfl)
noncomputable def spec_l04Name_c : Code := (Try.f33.body).getD .skip
noncomputable def spec_l04Name_i : Inl := { code := spec_l04Name_c, ntmps := Try.f33.ntmps, results := Try.f33.results.toList }
theorem spec_l04Name_ok : InlOk Try.prog 33 spec_l04Name_i := inlOk_of Try.func33 rfl (by kernel_rfl) (by kernel_rfl)
noncomputable def spec_l00Src_next_c : Code := (Try.f34.body).getD .skip
noncomputable def spec_l00Src_next_i : Inl := { code := spec_l00Src_next_c, ntmps := Try.f34.ntmps, results := Try.f34.results.toList }
theorem spec_l00Src_next_ok : InlOk Try.prog 34 spec_l00Src_next_i := inlOk_of Try.func34 rfl (by kernel_rfl) (by kernel_rfl)
noncomputable def impl_within_c : Code := (Try.f35.body).getD .skip
noncomputable def impl_within_i : Inl := { code := impl_within_c, ntmps := Try.f35.ntmps, results := Try.f35.results.toList }
theorem impl_within_ok : InlOk Try.prog 35 impl_within_i := inlOk_of Try.func35 rfl (by kernel_rfl) (by kernel_rfl)
noncomputable def slices_Grow_impl_Entry_impl_Entry_c : Code := (Try.f36.body).getD .skip
noncomputable def slices_Grow_impl_Entry_impl_Entry_i : Inl := { code := slices_Grow_impl_Entry_impl_Entry_c, ntmps := Try.f36.ntmps, results := Try.f36.results.toList }
theorem slices_Grow_impl_Entry_impl_Entry_ok : InlOk Try.prog 36 slices_Grow_impl_Entry_impl_Entry_i := inlOk_of Try.func36 rfl (by kernel_rfl) (by kernel_rfl)
noncomputable def slices_BinarySearchFunc_impl_Entry_impl_Entry_string_c : Code := (Try.f39.body).getD .skip
noncomputable def slices_BinarySearchFunc_impl_Entry_impl_Entry_string_i : Inl := { code := slices_BinarySearchFunc_impl_Entry_impl_Entry_string_c, ntmps := Try.f39.ntmps, results := Try.f39.results.toList }
theorem slices_BinarySearchFunc_impl_Entry_impl_Entry_string_ok : InlOk Try.prog 39 slices_BinarySearchFunc_impl_Entry_impl_Entry_string_i := inlOk_of Try.func39 rfl (by kernel_rfl) (by kernel_rfl)
noncomputable def impl_find_1_c : Code := (Try.f40.body).getD .skip
noncomputable def impl_find_1_i : Inl := { code := impl_find_1_c, ntmps := Try.f40.ntmps, results := Try.f40.results.toList }
theorem impl_find_1_ok : InlOk Try.prog 40 impl_find_1_i := inlOk_of Try.func40 rfl (by kernel_rfl) (by kernel_rfl)
noncomputable def cmp_Compare_string_c : Code := (Try.f41.body).getD .skip
noncomputable def cmp_Compare_string_i : Inl := { code := cmp_Compare_string_c, ntmps := Try.f41.ntmps, results := Try.f41.results.toList }
theorem cmp_Compare_string_ok : InlOk Try.prog 41 cmp_Compare_string_i := inlOk_of Try.func41 rfl (by kernel_rfl) (by kernel_rfl)
noncomputable def spec_l00In_c : Code := (Try.f42.body).getD .skip
noncomputable def spec_l00In_i : Inl := { code := spec_l00In_c, ntmps := Try.f42.ntmps, results := Try.f42.results.toList }
theorem spec_l00In_ok : InlOk Try.prog 42 spec_l00In_i := inlOk_of Try.func42 rfl (by kernel_rfl) (by kernel_rfl)
noncomputable def cmp_isNaN_string_c : Code := (Try.f54.body).getD .skip
noncomputable def cmp_isNaN_string_i : Inl := { code := cmp_isNaN_string_c, ntmps := Try.f54.ntmps, results := Try.f54.results.toList }
theorem cmp_isNaN_string_ok : InlOk Try.prog 54 cmp_isNaN_string_i := inlOk_of Try.func54 rfl (by kernel_rfl) (by kernel_rfl)
end Go.Ai.G
namespace Go.Proofs
open Go.Shelf
def Try.laysGrow36_ren : Go.Shelf.Ren := ⟨fun | 4 => 36 | n => n, fun | 22 => 24 | 25 => 43 | 3 => 3 | 4 => 4 | 9 => 9 | 20 => 20 | 0 => 0 | n => n, fun | n => n⟩
theorem Try.laysGrow36 : Go.Proofs.Lays8.n4 Try.prog Try.laysGrow36_ren := {
  mixed := by kernel_rfl
  f4 := ⟨Try.f36.name, by decide, Try.func36.trans (congrArg some (by kernel_rfl))⟩
  t0 := Try.underlying0
  a0 := Try.isAgg0
  z0 := Try.sizeOf0
  v0 := Try.zeroValue0
  t3 := Try.underlying3
  a3 := Try.isAgg3
  z3 := Try.sizeOf3
  v3 := Try.zeroValue3
  t4 := Try.underlying4
  a4 := Try.isAgg4
  z4 := Try.sizeOf4
  v4 := Try.zeroValue4
  t9 := Try.underlying9
  a9 := Try.isAgg9
  z9 := Try.sizeOf9
  v9 := Try.zeroValue9
  t20 := Try.underlying20
  a20 := Try.isAgg20
  z20 := Try.sizeOf20
  v20 := Try.zeroValue20
  t22 := Try.underlying24
  a22 := Try.isAgg24
  z22 := Try.sizeOf24
  v22 := Try.zeroValue24 }

def Try.laysSort28_ren : Go.Shelf.Ren := ⟨fun | 190 => 28 | 125 => 38 | 258 => 37 | 128 => 52 | 129 => 53 | 302 => 43 | 303 => 44 | 304 => 45 | 305 => 46 | 306 => 47 | 307 => 48 | 308 => 49 | 309 => 50 | 310 => 51 | 333 => 55 | 329 => 56 | 330 => 57 | 334 => 58 | 335 => 59 | 336 => 54 | 344 => 60 | n => n, fun | 31 => 46 | 9 => 9 | 3 => 3 | 46 => 70 | 0 => 0 | 51 => 83 | 53 => 47 | 4 => 4 | 183 => 76 | 182 => 75 | 131 => 62 | 5 => 5 | 218 => 85 | 222 => 89 | 228 => 91 | 229 => 92 | n => n, fun | n => n⟩
theorem Try.laysSort28 : Go.Proofs.Lays.n190 Try.prog Try.laysSort28_ren := {
  mixed := by kernel_rfl
  f125 := Try.func38.trans (congrArg some (by kernel_rfl))
  f128 := Try.func52.trans (congrArg some (by kernel_rfl))
  f129 := Try.func53.trans (congrArg some (by kernel_rfl))
  f190 := Try.func28.trans (congrArg some (by kernel_rfl))
  f258 := Try.func37.trans (congrArg some (by kernel_rfl))
  f302 := Try.func43.trans (congrArg some (by kernel_rfl))
  f303 := Try.func44.trans (congrArg some (by kernel_rfl))
  f304 := Try.func45.trans (congrArg some (by kernel_rfl))
  f305 := Try.func46.trans (congrArg some (by kernel_rfl))
  f306 := Try.func47.trans (congrArg some (by kernel_rfl))
  f307 := Try.func48.trans (congrArg some (by kernel_rfl))
  f308 := Try.func49.trans (congrArg some (by kernel_rfl))
  f309 := Try.func50.trans (congrArg some (by kernel_rfl))
  f310 := Try.func51.trans (congrArg some (by kernel_rfl))
  f329 := Try.func56.trans (congrArg some (by kernel_rfl))
  f330 := Try.func57.trans (congrArg some (by kernel_rfl))
  f333 := Try.func55.trans (congrArg some (by kernel_rfl))
  f334 := Try.func58.trans (congrArg some (by kernel_rfl))
  f335 := Try.func59.trans (congrArg some (by kernel_rfl))
  f336 := Try.func54.trans (congrArg some (by kernel_rfl))
  f344 := Try.func60.trans (congrArg some (by kernel_rfl))
  t0 := Try.underlying0
  a0 := Try.isAgg0
  z0 := Try.sizeOf0
  v0 := Try.zeroValue0
  t3 := Try.underlying3
  a3 := Try.isAgg3
  z3 := Try.sizeOf3
  v3 := Try.zeroValue3
  t4 := Try.underlying4
  a4 := Try.isAgg4
  z4 := Try.sizeOf4
  v4 := Try.zeroValue4
  t5 := Try.underlying5
  a5 := Try.isAgg5
  z5 := Try.sizeOf5
  v5 := Try.zeroValue5
  t9 := Try.underlying9
  a9 := Try.isAgg9
  z9 := Try.sizeOf9
  v9 := Try.zeroValue9
  t31 := Try.underlying46
  a31 := Try.isAgg46
  z31 := Try.sizeOf46
  v31 := Try.zeroValue46
  t46 := Try.underlying70
  a46 := Try.isAgg70
  z46 := Try.sizeOf70
  v46 := Try.zeroValue70
  t51 := Try.underlying83
  a51 := Try.isAgg83
  z51 := Try.sizeOf83
  v51 := Try.zeroValue83
  t53 := Try.underlying47
  a53 := Try.isAgg47
  z53 := Try.sizeOf47
  v53 := Try.zeroValue47
  t131 := Try.underlying62
  a131 := Try.isAgg62
  z131 := Try.sizeOf62
  v131 := Try.zeroValue62
  t182 := Try.underlying75
  a182 := Try.isAgg75
  z182 := Try.sizeOf75
  v182 := Try.zeroValue75
  t183 := Try.underlying76
  a183 := Try.isAgg76
  z183 := Try.sizeOf76
  v183 := Try.zeroValue76
  t218 := Try.underlying85
  a218 := Try.isAgg85
  z218 := Try.sizeOf85
  v218 := Try.zeroValue85
  t222 := Try.underlying89
  a222 := Try.isAgg89
  z222 := Try.sizeOf89
  v222 := Try.zeroValue89
  t228 := Try.underlying91
  a228 := Try.isAgg91
  z228 := Try.sizeOf91
  v228 := Try.zeroValue91
  t229 := Try.underlying92
  a229 := Try.isAgg92
  z229 := Try.sizeOf92
  v229 := Try.zeroValue92 }

end Go.Proofs
namespace Go.Ai.G
open Go.Proofs
open Go.Ai
noncomputable def slices_Grow_impl_Entry_impl_Entry_tr (a0 : (List (List Int × (List Int × Unit)))) (a1 : Int) : Option (List (List Int × (List Int × Unit))) :=
 cond (decide (0 ≤ a1) && (decide (((a0.length : Int) + a1) * ((32 : Nat) : Int) ≤ 140737488355328) && decide ((a0.length : Int) + a1 ≤ 4611686018427387904))) (some a0) none
noncomputable def slices_Grow_impl_Entry_impl_Entry_tak : ConT := growC 43 (.pair .str (.pair .str .unit)) 32
theorem slices_Grow_impl_Entry_impl_Entry_takOk : TakOk Try.prog 36 slices_Grow_impl_Entry_impl_Entry_tak := grow_takB Try.laysGrow36 (.pair .str (.pair .str .unit)) rfl rfl slices_Grow_impl_Entry_impl_Entry_ok 32 (by kernel_rfl)
noncomputable def slices_Sort_string_string_r (a0 : List (List Int)) : Option (List (List Int) × Unit) := cond (Nat.blt a0.length 4611686018427387904) (some (sortT a0, ())) none
noncomputable def slices_Sort_string_string_inp : ConI := sortC 9
theorem slices_Sort_string_string_inpOk : InpOk Try.prog 28 slices_Sort_string_string_inp := sort_inp Try.laysSort28 rfl slices_Sort_string_string_ok
end Go.Ai.G
