/- Made by a program of this work out of the program: tables and plain functions, with the proof that each Go function does what its plain function says. No conditions. -/
import Derived.Test.YtafhfllnkijfhaaEg
import Derived.Test.YtafhfllnkijfhaaProg
namespace Go.Ai.G
open Go.Proofs
open Go.Ai
set_option linter.unusedVariables false
set_option maxRecDepth 100000

abbrev K0 : Ty := (.pair (.int .i64) (.pair (.int .i64) (.pair (.int .i64) .unit)))
abbrev K1 : Ty := (.pair (.slice (.int .u8)) (.pair (.slice (.int .u8)) .unit))
abbrev K2 : Ty := (.pair (.arr 256 (.int .u32)) (.pair (.int .u32) .unit))
abbrev K3 : Ty := (.pair (.int .i64) (.pair (.int .i64) .unit))
abbrev K4 : Ty := (.pair (.slice (.int .u8)) .unit)
abbrev T0 : Type := (Int × (Int × (Int × Unit)))
abbrev K5 : Ty := (.slice (.slice (.int .u8)))
abbrev T1 : Type := ((List Int) × (Int × Unit))
abbrev K6 : Ty := (.pair (.int .i64) .unit)
abbrev K7 : Ty := (.pair (.int .u32) .unit)
abbrev K8 : Ty := (.pair (.int .u8) .unit)
abbrev T2 : Type := (List (List Int × Bool))
abbrev T3 : Type := (Int × (Int × Unit))
abbrev K9 : Ty := (.slice (.int .u8))
abbrev T4 : Type := (List (List Int))
abbrev T5 : Type := (List Int × Bool)
abbrev T6 : Type := (Int × Unit)
noncomputable def tys : List (Option Ty) := [none,
 some (.opt .unit),
 some (.int .i64),
 some (.int .i64),
 some .bool,
 some (.int .u8),
 none,
 none,
 none,
 some .str,
 none,
 none,
 none,
 none,
 none,
 none,
 none,
 none,
 none,
 none,
 none,
 none,
 none,
 some (.pair (.int .i64) (.pair (.int .i64) (.pair (.int .i64) .unit))),
 some (.slice (.int .u8)),
 none,
 none,
 some (.pair (.int .i64) (.pair (.int .i64) (.pair (.int .i64) .unit))),
 none,
 none,
 none,
 none,
 none,
 none,
 some (.int .u32),
 none,
 none,
 none,
 none,
 none,
 none,
 none,
 none,
 none,
 none,
 none,
 none,
 some (.slice (.slice (.int .u8))),
 none,
 none,
 none,
 none,
 none,
 none,
 none,
 none,
 none,
 none,
 none,
 some (.opt (.pair (.int .i64) (.pair (.int .i64) (.pair (.int .i64) .unit)))),
 none,
 none,
 none,
 none,
 none,
 none,
 none,
 none,
 none,
 none,
 none,
 none,
 none,
 none,
 some (.opt .unit),
 none,
 none,
 none,
 none,
 none,
 none,
 some (.opt (.pair (.arr 256 (.int .u32)) (.pair (.int .u32) .unit))),
 none,
 some (.arr 256 (.int .u32)),
 none,
 some (.pair (.arr 256 (.int .u32)) (.pair (.int .u32) .unit)),
 none,
 none,
 none,
 some (.int .u64),
 none,
 some (.arr 8 (.int .u32)),
 none,
 none,
 some (.arr 32 (.int .u8)),
 none,
 some (.int .u64),
 none,
 none,
 none,
 none,
 none,
 none,
 none,
 none,
 none,
 none,
 none,
 none,
 none,
 none,
 none,
 none,
 none,
 none]
noncomputable def tbytes : List Nat := [0, 8, 8, 8, 1, 1, 1, 24, 24, 16, 16, 16, 8, 24, 24, 8, 8, 8, 8, 8, 16, 4, 24, 24, 24, 0, 8, 24, 8, 8, 8, 8, 0, 8, 4, 56, 56, 8, 0, 8, 56, 56, 8, 8, 8, 8, 8, 24, 0, 8, 8, 8, 8, 24, 0, 8, 8, 8, 8, 8, 8, 8, 8, 8, 8, 8, 8, 8, 8, 8, 0, 8, 8, 8, 8, 0, 8, 8, 8, 8, 8, 8, 8, 1024, 1028, 1028, 8, 8, 8, 8, 8, 32, 8, 8, 32, 8, 8, 8, 8, 8, 40, 40, 0, 0, 0, 8, 1, 1, 8, 8, 4, 4, 48, 48, 8]
noncomputable def telem : List Nat := [0, 0, 0, 0, 0, 0, 0, 0, 0, 0, 0, 0, 0, 0, 0, 0, 0, 0, 0, 0, 0, 0, 0, 0, 5, 0, 0, 0, 0, 0, 0, 0, 0, 0, 0, 0, 0, 0, 0, 0, 0, 0, 0, 0, 0, 0, 0, 24, 0, 0, 0, 0, 0, 2, 0, 0, 0, 0, 0, 0, 0, 0, 0, 0, 0, 0, 0, 0, 0, 0, 0, 0, 0, 0, 0, 0, 0, 0, 0, 0, 0, 0, 0, 0, 0, 0, 0, 0, 0, 0, 0, 0, 0, 0, 0, 0, 0, 0, 0, 0, 0, 0, 0, 0, 0, 0, 0, 0, 0, 0, 0, 0, 0, 0, 0]
noncomputable def nozero : List Nat := [0, 1, 6, 7, 8, 10, 11, 12, 13, 14, 15, 16, 17, 18, 19, 20, 21, 22, 25, 26, 28, 29, 30, 31, 32, 33, 35, 36, 37, 38, 39, 40, 41, 42, 43, 44, 45, 46, 48, 49, 50, 51, 52, 53, 54, 55, 56, 57, 58, 60, 61, 62, 63, 64, 65, 66, 67, 68, 69, 70, 71, 72, 73, 74, 75, 76, 77, 78, 79, 80, 82, 84, 86, 87, 88, 90, 92, 93, 95, 97, 98, 99, 100, 101, 102, 103, 104, 105, 106, 107, 108, 109, 110, 111, 112, 113, 114]
noncomputable def dps : List (Nat × DS) := [(24, (.sl 5 (.pl (.int .u8)))), (47, (.sl 24 (.sl 5 (.pl (.int .u8)))))]
theorem tabs_ok : rowsB Try.prog (mkCx tys tbytes telem nozero (fun _ => none) (fun _ => none) (fun _ => none) (fun _ => none) (fun _ _ => none) 0 [] false []) 0 tys = true := by kernel_rfl
noncomputable def tmaps : List (Nat × Nat × Nat) := [(63, 9, 4)]
theorem maps_ok : mapsB Try.prog tmaps = true := by kernel_rfl
theorem mixed_ok : Try.prog.follows .mixedOrders = true := by kernel_rfl
noncomputable def mkC (inls : List (Nat × Inl)) (cons : List (Nat × Con)) (taks : List (Nat × ConT)) (inps : List (Nat × ConI)) (cuts : List (Nat × List (Nat × Cut))) (k : Nat) (d : List (Nat × DS)) (m : Bool) : Cx := mkCx tys tbytes telem nozero (Ai.look inls) (Ai.look cons) (Ai.look taks) (Ai.look inps) (fun f id => match Ai.look cuts f with | some l => Ai.look l id | none => none) k d m tmaps
theorem mkC_ok {inls cons taks inps cuts k d m} (h1 : AllQ (ConOk Try.prog) cons) (h2 : AllQ (TakOk Try.prog) taks) (h3 : AllQ (InpOk Try.prog) inps) (h4 : AllQ (InlOk Try.prog) inls) : TabsOk Try.prog (mkC inls cons taks inps cuts k d m) := ⟨tab_mk tabs_ok maps_ok _ _ _ _ _ _ _ _, look_all _ h1, look_all _ h2, look_all _ h3, look_all _ h4, mixed_ok⟩
noncomputable def laws_FnExactSpareBytes_c : Code := (Try.f4.body).getD .skip
noncomputable def laws_FnExactSpareBytes_i : Inl := mkI laws_FnExactSpareBytes_c Try.f4
theorem laws_FnExactSpareBytes_ok : InlOk Try.prog 4 laws_FnExactSpareBytes_i := inlOk_of Try.func4 rfl (by kernel_rfl) (by kernel_rfl)
noncomputable def f9_c : Code := (Try.f9.body).getD .skip
noncomputable def f9_i : Inl := mkI f9_c Try.f9
theorem f9_ok : InlOk Try.prog 9 f9_i := inlOk_of Try.func9 rfl (by kernel_rfl) (by kernel_rfl)
noncomputable def f10_c : Code := (Try.f10.body).getD .skip
noncomputable def f10_i : Inl := mkI f10_c Try.f10
theorem f10_ok : InlOk Try.prog 10 f10_i := inlOk_of Try.func10 rfl (by kernel_rfl) (by kernel_rfl)
noncomputable def f12_c : Code := (Try.f12.body).getD .skip
noncomputable def f12_i : Inl := mkI f12_c Try.f12
theorem f12_ok : InlOk Try.prog 12 f12_i := inlOk_of Try.func12 rfl (by kernel_rfl) (by kernel_rfl)
noncomputable def f13_c : Code := (Try.f13.body).getD .skip
noncomputable def f13_i : Inl := mkI f13_c Try.f13
theorem f13_ok : InlOk Try.prog 13 f13_i := inlOk_of Try.func13 rfl (by kernel_rfl) (by kernel_rfl)
noncomputable def f14_c : Code := (Try.f14.body).getD .skip
noncomputable def f14_i : Inl := mkI f14_c Try.f14
theorem f14_ok : InlOk Try.prog 14 f14_i := inlOk_of Try.func14 rfl (by kernel_rfl) (by kernel_rfl)
noncomputable def f33_c : Code := (Try.f33.body).getD .skip
noncomputable def f33_i : Inl := mkI f33_c Try.f33
theorem f33_ok : InlOk Try.prog 33 f33_i := inlOk_of Try.func33 rfl (by kernel_rfl) (by kernel_rfl)
noncomputable def f34_c : Code := (Try.f34.body).getD .skip
noncomputable def f34_i : Inl := mkI f34_c Try.f34
theorem f34_ok : InlOk Try.prog 34 f34_i := inlOk_of Try.func34 rfl (by kernel_rfl) (by kernel_rfl)
noncomputable def f35_c : Code := (Try.f35.body).getD .skip
noncomputable def f35_i : Inl := mkI f35_c Try.f35
theorem f35_ok : InlOk Try.prog 35 f35_i := inlOk_of Try.func35 rfl (by kernel_rfl) (by kernel_rfl)
noncomputable def f36_c : Code := (Try.f36.body).getD .skip
noncomputable def f36_i : Inl := mkI f36_c Try.f36
theorem f36_ok : InlOk Try.prog 36 f36_i := inlOk_of Try.func36 rfl (by kernel_rfl) (by kernel_rfl)
noncomputable def f37_c : Code := (Try.f37.body).getD .skip
noncomputable def f37_i : Inl := mkI f37_c Try.f37
theorem f37_ok : InlOk Try.prog 37 f37_i := inlOk_of Try.func37 rfl (by kernel_rfl) (by kernel_rfl)
noncomputable def f39_c : Code := (Try.f39.body).getD .skip
noncomputable def f39_i : Inl := mkI f39_c Try.f39
theorem f39_ok : InlOk Try.prog 39 f39_i := inlOk_of Try.func39 rfl (by kernel_rfl) (by kernel_rfl)
noncomputable def f43_c : Code := (Try.f43.body).getD .skip
noncomputable def f43_i : Inl := mkI f43_c Try.f43
theorem f43_ok : InlOk Try.prog 43 f43_i := inlOk_of Try.func43 rfl (by kernel_rfl) (by kernel_rfl)
noncomputable def f45_c : Code := (Try.f45.body).getD .skip
noncomputable def f45_i : Inl := mkI f45_c Try.f45
theorem f45_ok : InlOk Try.prog 45 f45_i := inlOk_of Try.func45 rfl (by kernel_rfl) (by kernel_rfl)
noncomputable def f46_c : Code := (Try.f46.body).getD .skip
noncomputable def f46_i : Inl := mkI f46_c Try.f46
theorem f46_ok : InlOk Try.prog 46 f46_i := inlOk_of Try.func46 rfl (by kernel_rfl) (by kernel_rfl)
noncomputable def f47_c : Code := (Try.f47.body).getD .skip
noncomputable def f47_i : Inl := mkI f47_c Try.f47
theorem f47_ok : InlOk Try.prog 47 f47_i := inlOk_of Try.func47 rfl (by kernel_rfl) (by kernel_rfl)
noncomputable def f48_c : Code := (Try.f48.body).getD .skip
noncomputable def f48_i : Inl := mkI f48_c Try.f48
theorem f48_ok : InlOk Try.prog 48 f48_i := inlOk_of Try.func48 rfl (by kernel_rfl) (by kernel_rfl)
noncomputable def f49_c : Code := (Try.f49.body).getD .skip
noncomputable def f49_i : Inl := mkI f49_c Try.f49
theorem f49_ok : InlOk Try.prog 49 f49_i := inlOk_of Try.func49 rfl (by kernel_rfl) (by kernel_rfl)
noncomputable def f50_c : Code := (Try.f50.body).getD .skip
noncomputable def f50_i : Inl := mkI f50_c Try.f50
theorem f50_ok : InlOk Try.prog 50 f50_i := inlOk_of Try.func50 rfl (by kernel_rfl) (by kernel_rfl)
noncomputable def f51_c : Code := (Try.f51.body).getD .skip
noncomputable def f51_i : Inl := mkI f51_c Try.f51
theorem f51_ok : InlOk Try.prog 51 f51_i := inlOk_of Try.func51 rfl (by kernel_rfl) (by kernel_rfl)
noncomputable def f52_c : Code := (Try.f52.body).getD .skip
noncomputable def f52_i : Inl := mkI f52_c Try.f52
theorem f52_ok : InlOk Try.prog 52 f52_i := inlOk_of Try.func52 rfl (by kernel_rfl) (by kernel_rfl)
noncomputable def f53_c : Code := (Try.f53.body).getD .skip
noncomputable def f53_i : Inl := mkI f53_c Try.f53
theorem f53_ok : InlOk Try.prog 53 f53_i := inlOk_of Try.func53 rfl (by kernel_rfl) (by kernel_rfl)
noncomputable def f54_c : Code := (Try.f54.body).getD .skip
noncomputable def f54_i : Inl := mkI f54_c Try.f54
theorem f54_ok : InlOk Try.prog 54 f54_i := inlOk_of Try.func54 rfl (by kernel_rfl) (by kernel_rfl)
noncomputable def f55_c : Code := (Try.f55.body).getD .skip
noncomputable def f55_i : Inl := mkI f55_c Try.f55
theorem f55_ok : InlOk Try.prog 55 f55_i := inlOk_of Try.func55 rfl (by kernel_rfl) (by kernel_rfl)
noncomputable def f56_c : Code := (Try.f56.body).getD .skip
noncomputable def f56_i : Inl := mkI f56_c Try.f56
theorem f56_ok : InlOk Try.prog 56 f56_i := inlOk_of Try.func56 rfl (by kernel_rfl) (by kernel_rfl)
noncomputable def f57_c : Code := (Try.f57.body).getD .skip
noncomputable def f57_i : Inl := mkI f57_c Try.f57
theorem f57_ok : InlOk Try.prog 57 f57_i := inlOk_of Try.func57 rfl (by kernel_rfl) (by kernel_rfl)
noncomputable def f58_c : Code := (Try.f58.body).getD .skip
noncomputable def f58_i : Inl := mkI f58_c Try.f58
theorem f58_ok : InlOk Try.prog 58 f58_i := inlOk_of Try.func58 rfl (by kernel_rfl) (by kernel_rfl)
noncomputable def f59_c : Code := (Try.f59.body).getD .skip
noncomputable def f59_i : Inl := mkI f59_c Try.f59
theorem f59_ok : InlOk Try.prog 59 f59_i := inlOk_of Try.func59 rfl (by kernel_rfl) (by kernel_rfl)
noncomputable def f60_c : Code := (Try.f60.body).getD .skip
noncomputable def f60_i : Inl := mkI f60_c Try.f60
theorem f60_ok : InlOk Try.prog 60 f60_i := inlOk_of Try.func60 rfl (by kernel_rfl) (by kernel_rfl)
noncomputable def f61_c : Code := (Try.f61.body).getD .skip
noncomputable def f61_i : Inl := mkI f61_c Try.f61
theorem f61_ok : InlOk Try.prog 61 f61_i := inlOk_of Try.func61 rfl (by kernel_rfl) (by kernel_rfl)
noncomputable def f62_c : Code := (Try.f62.body).getD .skip
noncomputable def f62_i : Inl := mkI f62_c Try.f62
theorem f62_ok : InlOk Try.prog 62 f62_i := inlOk_of Try.func62 rfl (by kernel_rfl) (by kernel_rfl)
noncomputable def f63_c : Code := (Try.f63.body).getD .skip
noncomputable def f63_i : Inl := mkI f63_c Try.f63
theorem f63_ok : InlOk Try.prog 63 f63_i := inlOk_of Try.func63 rfl (by kernel_rfl) (by kernel_rfl)
noncomputable def f64_c : Code := (Try.f64.body).getD .skip
noncomputable def f64_i : Inl := mkI f64_c Try.f64
theorem f64_ok : InlOk Try.prog 64 f64_i := inlOk_of Try.func64 rfl (by kernel_rfl) (by kernel_rfl)
noncomputable def f65_c : Code := (Try.f65.body).getD .skip
noncomputable def f65_i : Inl := mkI f65_c Try.f65
theorem f65_ok : InlOk Try.prog 65 f65_i := inlOk_of Try.func65 rfl (by kernel_rfl) (by kernel_rfl)
noncomputable def f66_c : Code := (Try.f66.body).getD .skip
noncomputable def f66_i : Inl := mkI f66_c Try.f66
theorem f66_ok : InlOk Try.prog 66 f66_i := inlOk_of Try.func66 rfl (by kernel_rfl) (by kernel_rfl)
noncomputable def f67_c : Code := (Try.f67.body).getD .skip
noncomputable def f67_i : Inl := mkI f67_c Try.f67
theorem f67_ok : InlOk Try.prog 67 f67_i := inlOk_of Try.func67 rfl (by kernel_rfl) (by kernel_rfl)
end Go.Ai.G
