/- Made by a program of this work out of the program: tables and plain functions, with the proof that each Go function does what its plain function says. No conditions. -/
import Derived.Test.YtafhfllnkijfhaaDoorEg
import Derived.Test.YtafhfllnkijfhaaDoorEx
import Derived.Test.YtafhfllnkijfhaaDoorProg
namespace Go.Ai.G
open Go.Proofs
open Go.Ai
set_option linter.unusedVariables false
set_option maxRecDepth 100000

noncomputable def tys : List (Option Ty) := [none,
 some (.opt .unit),
 some (.int .i64),
 some (.int .i64),
 some .bool,
 some (.int .u8),
 none,
 none,
 none,
 some .str,
 none,
 none,
 none,
 none,
 none,
 none,
 none,
 none,
 none,
 none,
 none,
 none,
 none,
 some (.pair (.int .i64) (.pair (.int .i64) (.pair (.int .i64) (.pair (.int .i64) .unit)))),
 none,
 some (.pair (.int .i64) (.pair (.int .i64) (.pair (.int .i64) (.pair (.int .i64) .unit)))),
 none,
 none,
 none,
 some (.slice .str),
 some (.slice (.int .i64)),
 none,
 none,
 some (.slice (.int .i64)),
 none,
 none,
 none,
 none,
 some (.slice (.int .u8)),
 none,
 none,
 none,
 none,
 none,
 none,
 none,
 none,
 none,
 none,
 none,
 none,
 none,
 none,
 none,
 none,
 none,
 none,
 none,
 none,
 none,
 none,
 none,
 none,
 none,
 none,
 none,
 none,
 none,
 none,
 none,
 none,
 none,
 none,
 none]
noncomputable def tbytes : List Nat := [0, 8, 8, 8, 1, 1, 1, 24, 24, 16, 16, 16, 8, 24, 24, 8, 8, 8, 8, 8, 16, 4, 32, 32, 8, 32, 8, 8, 8, 24, 24, 0, 8, 24, 8, 0, 8, 8, 24, 8, 8, 24, 8, 8, 8, 0, 8, 8, 8, 160, 4, 65, 8, 8, 8, 8, 32, 64, 8, 40, 40, 0, 0, 0, 8, 1, 1, 8, 8, 4, 4, 48, 48, 8]
noncomputable def telem : List Nat := [0, 0, 0, 0, 0, 0, 0, 0, 0, 0, 0, 0, 0, 0, 0, 0, 0, 0, 0, 0, 0, 0, 0, 0, 0, 0, 0, 0, 0, 9, 3, 0, 0, 2, 0, 0, 0, 0, 5, 0, 0, 0, 0, 0, 0, 0, 0, 0, 0, 0, 0, 0, 0, 0, 0, 0, 0, 0, 0, 0, 0, 0, 0, 0, 0, 0, 0, 0, 0, 0, 0, 0, 0, 0]
noncomputable def nozero : List Nat := [0, 1, 6, 7, 8, 10, 11, 12, 13, 14, 15, 16, 17, 18, 19, 20, 21, 22, 24, 26, 27, 28, 31, 32, 34, 35, 36, 37, 39, 40, 41, 42, 43, 44, 45, 46, 47, 48, 49, 50, 51, 52, 53, 54, 55, 56, 57, 58, 59, 60, 61, 62, 63, 64, 65, 66, 67, 68, 69, 70, 71, 72, 73]
noncomputable def dps : List (Nat × DS) := [(29, (.sl 9 (.pl .str))), (30, (.sl 3 (.pl (.int .i64)))), (33, (.sl 2 (.pl (.int .i64)))), (38, (.sl 5 (.pl (.int .u8))))]
theorem tabs_ok : rowsB Tryd.prog (mkCx tys tbytes telem nozero (fun _ => none) (fun _ => none) (fun _ => none) (fun _ => none) (fun _ _ => none) 0 [] false) 0 tys = true := by kernel_rfl
theorem mixed_ok : Tryd.prog.follows .mixedOrders = true := by kernel_rfl
noncomputable def laws_FnExactDeedText_c : Code := (Tryd.f3.body).getD .skip
noncomputable def laws_FnExactDeedText_i : Inl := { code := laws_FnExactDeedText_c, ntmps := Tryd.f3.ntmps, results := Tryd.f3.results.toList }
theorem laws_FnExactDeedText_ok : InlOk Tryd.prog 3 laws_FnExactDeedText_i := inlOk_of Tryd.func3 rfl (by kernel_rfl) (by kernel_rfl)
noncomputable def spec_DeedText_c : Code := (Tryd.f4.body).getD .skip
noncomputable def spec_DeedText_i : Inl := { code := spec_DeedText_c, ntmps := Tryd.f4.ntmps, results := Tryd.f4.results.toList }
theorem spec_DeedText_ok : InlOk Tryd.prog 4 spec_DeedText_i := inlOk_of Tryd.func4 rfl (by kernel_rfl) (by kernel_rfl)
noncomputable def laws_toDeed_c : Code := (Tryd.f5.body).getD .skip
noncomputable def laws_toDeed_i : Inl := { code := laws_toDeed_c, ntmps := Tryd.f5.ntmps, results := Tryd.f5.results.toList }
theorem laws_toDeed_ok : InlOk Tryd.prog 5 laws_toDeed_i := inlOk_of Tryd.func5 rfl (by kernel_rfl) (by kernel_rfl)
noncomputable def impl_DeedText_c : Code := (Tryd.f6.body).getD .skip
noncomputable def impl_DeedText_i : Inl := { code := impl_DeedText_c, ntmps := Tryd.f6.ntmps, results := Tryd.f6.results.toList }
theorem impl_DeedText_ok : InlOk Tryd.prog 6 impl_DeedText_i := inlOk_of Tryd.func6 rfl (by kernel_rfl) (by kernel_rfl)
noncomputable def spec_l09Deed_c : Code := (Tryd.f7.body).getD .skip
noncomputable def spec_l09Deed_i : Inl := { code := spec_l09Deed_c, ntmps := Tryd.f7.ntmps, results := Tryd.f7.results.toList }
theorem spec_l09Deed_ok : InlOk Tryd.prog 7 spec_l09Deed_i := inlOk_of Tryd.func7 rfl (by kernel_rfl) (by kernel_rfl)
noncomputable def spec_l09Words_c : Code := (Tryd.f8.body).getD .skip
noncomputable def spec_l09Words_i : Inl := { code := spec_l09Words_c, ntmps := Tryd.f8.ntmps, results := Tryd.f8.results.toList }
theorem spec_l09Words_ok : InlOk Tryd.prog 8 spec_l09Words_i := inlOk_of Tryd.func8 rfl (by kernel_rfl) (by kernel_rfl)
noncomputable def spec_Decimal_c : Code := (Tryd.f9.body).getD .skip
noncomputable def spec_Decimal_i : Inl := { code := spec_Decimal_c, ntmps := Tryd.f9.ntmps, results := Tryd.f9.results.toList }
theorem spec_Decimal_ok : InlOk Tryd.prog 9 spec_Decimal_i := inlOk_of Tryd.func9 rfl (by kernel_rfl) (by kernel_rfl)
noncomputable def impl_ValidDeed_c : Code := (Tryd.f10.body).getD .skip
noncomputable def impl_ValidDeed_i : Inl := { code := impl_ValidDeed_c, ntmps := Tryd.f10.ntmps, results := Tryd.f10.results.toList }
theorem impl_ValidDeed_ok : InlOk Tryd.prog 10 impl_ValidDeed_i := inlOk_of Tryd.func10 rfl (by kernel_rfl) (by kernel_rfl)
noncomputable def impl_deedWord_c : Code := (Tryd.f11.body).getD .skip
noncomputable def impl_deedWord_i : Inl := { code := impl_deedWord_c, ntmps := Tryd.f11.ntmps, results := Tryd.f11.results.toList }
theorem impl_deedWord_ok : InlOk Tryd.prog 11 impl_deedWord_i := inlOk_of Tryd.func11 rfl (by kernel_rfl) (by kernel_rfl)
noncomputable def impl_decimal_c : Code := (Tryd.f12.body).getD .skip
noncomputable def impl_decimal_i : Inl := { code := impl_decimal_c, ntmps := Tryd.f12.ntmps, results := Tryd.f12.results.toList }
theorem impl_decimal_ok : InlOk Tryd.prog 12 impl_decimal_i := inlOk_of Tryd.func12 rfl (by kernel_rfl) (by kernel_rfl)
noncomputable def spec_l00In_c : Code := (Tryd.f13.body).getD .skip
noncomputable def spec_l00In_i : Inl := { code := spec_l00In_c, ntmps := Tryd.f13.ntmps, results := Tryd.f13.results.toList }
theorem spec_l00In_ok : InlOk Tryd.prog 13 spec_l00In_i := inlOk_of Tryd.func13 rfl (by kernel_rfl) (by kernel_rfl)
noncomputable def impl_within_c : Code := (Tryd.f14.body).getD .skip
noncomputable def impl_within_i : Inl := { code := impl_within_c, ntmps := Tryd.f14.ntmps, results := Tryd.f14.results.toList }
theorem impl_within_ok : InlOk Tryd.prog 14 impl_within_i := inlOk_of Tryd.func14 rfl (by kernel_rfl) (by kernel_rfl)
noncomputable def strconv_FormatInt_c : Code := (Tryd.f15.body).getD .skip
noncomputable def strconv_FormatInt_i : Inl := { code := strconv_FormatInt_c, ntmps := Tryd.f15.ntmps, results := Tryd.f15.results.toList }
theorem strconv_FormatInt_ok : InlOk Tryd.prog 15 strconv_FormatInt_i := inlOk_of Tryd.func15 rfl (by kernel_rfl) (by kernel_rfl)
end Go.Ai.G
namespace Go.Proofs
open Go.Shelf
def Tryd.laysItoa15_ren : Go.Shelf.Ren := ⟨fun | 173 => 15 | 246 => 16 | 283 => 17 | 284 => 18 | 285 => 19 | 286 => 20 | 129 => 22 | 317 => 21 | 318 => 23 | 319 => 24 | 320 => 25 | 337 => 26 | 338 => 27 | n => n, fun | 2 => 2 | 3 => 3 | 9 => 9 | 4 => 4 | 171 => 41 | 0 => 0 | 53 => 42 | 37 => 38 | 5 => 5 | 173 => 45 | 212 => 49 | 51 => 50 | 20 => 20 | 213 => 51 | 46 => 53 | 232 => 56 | 233 => 57 | n => n, fun | 17 => 0 | 18 => 1 | 19 => 2 | n => n⟩
theorem Tryd.laysItoa15 : Go.Proofs.LaysM.n173 Tryd.prog Tryd.laysItoa15_ren := {
  mixed := by kernel_rfl
  f129 := Tryd.func22.trans (congrArg some (by kernel_rfl))
  f173 := Tryd.func15.trans (congrArg some (by kernel_rfl))
  f246 := Tryd.func16.trans (congrArg some (by kernel_rfl))
  f283 := Tryd.func17.trans (congrArg some (by kernel_rfl))
  f284 := Tryd.func18.trans (congrArg some (by kernel_rfl))
  f285 := Tryd.func19.trans (congrArg some (by kernel_rfl))
  f286 := Tryd.func20.trans (congrArg some (by kernel_rfl))
  f317 := Tryd.func21.trans (congrArg some (by kernel_rfl))
  f318 := Tryd.func23.trans (congrArg some (by kernel_rfl))
  f319 := Tryd.func24.trans (congrArg some (by kernel_rfl))
  f320 := Tryd.func25.trans (congrArg some (by kernel_rfl))
  f337 := Tryd.func26.trans (congrArg some (by kernel_rfl))
  f338 := Tryd.func27.trans (congrArg some (by kernel_rfl))
  t0 := Tryd.underlying0
  a0 := Tryd.isAgg0
  z0 := Tryd.sizeOf0
  v0 := Tryd.zeroValue0
  t2 := Tryd.underlying2
  a2 := Tryd.isAgg2
  z2 := Tryd.sizeOf2
  v2 := Tryd.zeroValue2
  t3 := Tryd.underlying3
  a3 := Tryd.isAgg3
  z3 := Tryd.sizeOf3
  v3 := Tryd.zeroValue3
  t4 := Tryd.underlying4
  a4 := Tryd.isAgg4
  z4 := Tryd.sizeOf4
  v4 := Tryd.zeroValue4
  t5 := Tryd.underlying5
  a5 := Tryd.isAgg5
  z5 := Tryd.sizeOf5
  v5 := Tryd.zeroValue5
  t9 := Tryd.underlying9
  a9 := Tryd.isAgg9
  z9 := Tryd.sizeOf9
  v9 := Tryd.zeroValue9
  t20 := Tryd.underlying20
  a20 := Tryd.isAgg20
  z20 := Tryd.sizeOf20
  v20 := Tryd.zeroValue20
  t37 := Tryd.underlying38
  a37 := Tryd.isAgg38
  z37 := Tryd.sizeOf38
  v37 := Tryd.zeroValue38
  t46 := Tryd.underlying53
  a46 := Tryd.isAgg53
  z46 := Tryd.sizeOf53
  v46 := Tryd.zeroValue53
  t51 := Tryd.underlying50
  a51 := Tryd.isAgg50
  z51 := Tryd.sizeOf50
  v51 := Tryd.zeroValue50
  t53 := Tryd.underlying42
  a53 := Tryd.isAgg42
  z53 := Tryd.sizeOf42
  v53 := Tryd.zeroValue42
  t171 := Tryd.underlying41
  a171 := Tryd.isAgg41
  z171 := Tryd.sizeOf41
  v171 := Tryd.zeroValue41
  t173 := Tryd.underlying45
  a173 := Tryd.isAgg45
  z173 := Tryd.sizeOf45
  v173 := Tryd.zeroValue45
  t212 := Tryd.underlying49
  a212 := Tryd.isAgg49
  z212 := Tryd.sizeOf49
  v212 := Tryd.zeroValue49
  t213 := Tryd.underlying51
  a213 := Tryd.isAgg51
  z213 := Tryd.sizeOf51
  t232 := Tryd.underlying56
  a232 := Tryd.isAgg56
  z232 := Tryd.sizeOf56
  v232 := Tryd.zeroValue56
  t233 := Tryd.underlying57
  a233 := Tryd.isAgg57
  z233 := Tryd.sizeOf57
  v233 := Tryd.zeroValue57
  g17 := by kernel_rfl
  g18 := by kernel_rfl
  g19 := by kernel_rfl
  i0 := by kernel_rfl
  i2 := by kernel_rfl
  i3 := by kernel_rfl
  i4 := by kernel_rfl
  i5 := by kernel_rfl
  i9 := by kernel_rfl
  i20 := by kernel_rfl
  i37 := by kernel_rfl
  i46 := by kernel_rfl
  i51 := by kernel_rfl
  i53 := by kernel_rfl
  i171 := by kernel_rfl
  i173 := by kernel_rfl
  i212 := by kernel_rfl
  i232 := by kernel_rfl
  i233 := by kernel_rfl
  m17 := by kernel_rfl
  m18 := by kernel_rfl
  m19 := by kernel_rfl }

end Go.Proofs
namespace Go.Ai.G
open Go.Proofs
open Go.Ai
noncomputable def strconv_FormatInt_r (a0 a1 : Int) : Option (List Int) := itoaR a0 a1
noncomputable def strconv_FormatInt_con : Con := itoaC
theorem strconv_FormatInt_conOk : ConOk Tryd.prog 15 strconv_FormatInt_con := itoa_con Tryd.laysItoa15 rfl strconv_FormatInt_ok
end Go.Ai.G
