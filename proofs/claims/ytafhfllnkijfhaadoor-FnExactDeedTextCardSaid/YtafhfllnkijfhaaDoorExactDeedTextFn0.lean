/- Made by a program of this work out of the program: tables and plain functions, with the proof that each Go function does what its plain function says. No conditions. -/
import Derived.Test.YtafhfllnkijfhaaDoorExactDeedTextTab
namespace Go.Ai.G
open Go.Proofs
open Go.Ai
set_option linter.unusedVariables false
set_option linter.unusedSimpArgs false
set_option maxRecDepth 100000

noncomputable def laws_toDeed_inls : List (Nat × Inl) := []
noncomputable def laws_toDeed_cons : List (Nat × Con) := []
noncomputable def laws_toDeed_taks : List (Nat × ConT) := []
noncomputable def laws_toDeed_inps : List (Nat × ConI) := []
noncomputable def laws_toDeed_cuts : List (Nat × List (Nat × Cut)) := []
noncomputable def laws_toDeed_cx (k : Nat) : Cx := mkCx tys tbytes telem nozero (Ai.look laws_toDeed_inls) (Ai.look laws_toDeed_cons) (Ai.look laws_toDeed_taks) (Ai.look laws_toDeed_inps) (fun f id => match Ai.look laws_toDeed_cuts f with | some l => Ai.look l id | none => none) k [] false
theorem laws_toDeed_tabs (k : Nat) : TabsOk Tryd.prog (laws_toDeed_cx k) := ⟨tab_mk tabs_ok _ _ _ _ _ _ _ _, look_all (Q := ConOk Tryd.prog) _ trivial, look_all (Q := TakOk Tryd.prog) _ trivial, look_all (Q := InpOk Tryd.prog) _ trivial, look_all (Q := InlOk Tryd.prog) _ trivial, mixed_ok⟩
abbrev laws_toDeed_sh : List Sh := [.pl (.pair (.int .i64) (.pair (.int .i64) (.pair (.int .i64) (.pair (.int .i64) .unit))))]
noncomputable def laws_toDeed_r (a0 : (Int × (Int × (Int × (Int × Unit))))) : Option (shDen laws_toDeed_sh) :=
 (some (a0.1, (a0.2.1, (a0.2.2.1, (a0.2.2.2.1, ())))))
theorem laws_toDeed_start (k : Nat) (a0 : (Int × (Int × (Int × (Int × Unit))))) : fnK (laws_toDeed_cx k) 8 5 laws_toDeed_i laws_toDeed_sh [.pv (.pair (.int .i64) (.pair (.int .i64) (.pair (.int .i64) (.pair (.int .i64) .unit)))) a0] =
 ((some (a0.1, (a0.2.1, (a0.2.2.1, (a0.2.2.2.1, ()))))) : Option (shDen laws_toDeed_sh)) := by kernel_rfl

theorem laws_toDeed_run (a0 : (Int × (Int × (Int × (Int × Unit))))) : fnK (laws_toDeed_cx FUEL) 8 5 laws_toDeed_i laws_toDeed_sh [.pv (.pair (.int .i64) (.pair (.int .i64) (.pair (.int .i64) (.pair (.int .i64) .unit)))) a0] = laws_toDeed_r a0 :=
 (laws_toDeed_start FUEL a0).trans (rfl)

noncomputable def laws_toDeed_con : Con := { ps := (.pair (.pair (.int .i64) (.pair (.int .i64) (.pair (.int .i64) (.pair (.int .i64) .unit)))) .unit), sh := laws_toDeed_sh, raw := fun x => laws_toDeed_r x.1 }
theorem laws_toDeed_conOk : ConOk Tryd.prog 5 laws_toDeed_con := con_of_fn (laws_toDeed_tabs FUEL) (depth := 8) laws_toDeed_ok fun x y h => (laws_toDeed_run x.1).trans h

noncomputable def spec_l00In_inls : List (Nat × Inl) := []
noncomputable def spec_l00In_cons : List (Nat × Con) := []
noncomputable def spec_l00In_taks : List (Nat × ConT) := []
noncomputable def spec_l00In_inps : List (Nat × ConI) := []
noncomputable def spec_l00In_cuts : List (Nat × List (Nat × Cut)) := []
noncomputable def spec_l00In_cx (k : Nat) : Cx := mkCx tys tbytes telem nozero (Ai.look spec_l00In_inls) (Ai.look spec_l00In_cons) (Ai.look spec_l00In_taks) (Ai.look spec_l00In_inps) (fun f id => match Ai.look spec_l00In_cuts f with | some l => Ai.look l id | none => none) k [] false
theorem spec_l00In_tabs (k : Nat) : TabsOk Tryd.prog (spec_l00In_cx k) := ⟨tab_mk tabs_ok _ _ _ _ _ _ _ _, look_all (Q := ConOk Tryd.prog) _ trivial, look_all (Q := TakOk Tryd.prog) _ trivial, look_all (Q := InpOk Tryd.prog) _ trivial, look_all (Q := InlOk Tryd.prog) _ trivial, mixed_ok⟩
abbrev spec_l00In_sh : List Sh := [.pl .bool]
noncomputable def spec_l00In_r (a0 : Int) (a1 : Int) (a2 : Int) : Option (shDen spec_l00In_sh) :=
 (cond (decide (a1 ≤ a0))
 (some (decide (a0 ≤ a2)))
 (some false))
theorem spec_l00In_start (k : Nat) (a0 : Int) (a1 : Int) (a2 : Int) : fnK (spec_l00In_cx k) 8 13 spec_l00In_i spec_l00In_sh [.pv (.int .i64) a0, .pv (.int .i64) a1, .pv (.int .i64) a2] =
 ((cond (decide (a1 ≤ a0))
 (some (decide (a0 ≤ a2)))
 (some false)) : Option (shDen spec_l00In_sh)) := by kernel_rfl

theorem spec_l00In_run (a0 : Int) (a1 : Int) (a2 : Int) : fnK (spec_l00In_cx FUEL) 8 13 spec_l00In_i spec_l00In_sh [.pv (.int .i64) a0, .pv (.int .i64) a1, .pv (.int .i64) a2] = spec_l00In_r a0 a1 a2 :=
 (spec_l00In_start FUEL a0 a1 a2).trans (rfl)

noncomputable def spec_l00In_con : Con := { ps := (.pair (.int .i64) (.pair (.int .i64) (.pair (.int .i64) .unit))), sh := spec_l00In_sh, raw := fun x => spec_l00In_r x.1 x.2.1 x.2.2.1 }
theorem spec_l00In_conOk : ConOk Tryd.prog 13 spec_l00In_con := con_of_fn (spec_l00In_tabs FUEL) (depth := 8) spec_l00In_ok fun x y h => (spec_l00In_run x.1 x.2.1 x.2.2.1).trans h

noncomputable def spec_l09Words_inls : List (Nat × Inl) := []
noncomputable def spec_l09Words_cons : List (Nat × Con) := []
noncomputable def spec_l09Words_taks : List (Nat × ConT) := []
noncomputable def spec_l09Words_inps : List (Nat × ConI) := []
noncomputable def spec_l09Words_cuts : List (Nat × List (Nat × Cut)) := []
noncomputable def spec_l09Words_cx (k : Nat) : Cx := mkCx tys tbytes telem nozero (Ai.look spec_l09Words_inls) (Ai.look spec_l09Words_cons) (Ai.look spec_l09Words_taks) (Ai.look spec_l09Words_inps) (fun f id => match Ai.look spec_l09Words_cuts f with | some l => Ai.look l id | none => none) k [] false
theorem spec_l09Words_tabs (k : Nat) : TabsOk Tryd.prog (spec_l09Words_cx k) := ⟨tab_mk tabs_ok _ _ _ _ _ _ _ _, look_all (Q := ConOk Tryd.prog) _ trivial, look_all (Q := TakOk Tryd.prog) _ trivial, look_all (Q := InpOk Tryd.prog) _ trivial, look_all (Q := InlOk Tryd.prog) _ trivial, mixed_ok⟩
abbrev spec_l09Words_sh : List Sh := [.own 9 .str, .own 3 (.int .i64)]
noncomputable def spec_l09Words_r  : Option (shDen spec_l09Words_sh) :=
 (some ([[], [(119 : Int), (114 : Int), (105 : Int), (116 : Int), (101 : Int)], [(115 : Int), (101 : Int), (110 : Int), (100 : Int)], [(100 : Int), (101 : Int), (108 : Int), (105 : Int), (118 : Int), (101 : Int), (114 : Int)], [(99 : Int), (111 : Int), (112 : Int), (121 : Int)], [(100 : Int), (114 : Int), (111 : Int), (112 : Int)], [(109 : Int), (101 : Int), (114 : Int), (103 : Int), (101 : Int)], [(115 : Int), (97 : Int), (118 : Int), (101 : Int)], [(99 : Int), (114 : Int), (97 : Int), (115 : Int), (104 : Int)]], [(0 : Int), (1 : Int), (3 : Int), (1 : Int), (1 : Int), (1 : Int), (2 : Int), (1 : Int), (1 : Int)]))
theorem spec_l09Words_start (k : Nat)  : fnK (spec_l09Words_cx k) 8 8 spec_l09Words_i spec_l09Words_sh [] =
 ((some ([[], [(119 : Int), (114 : Int), (105 : Int), (116 : Int), (101 : Int)], [(115 : Int), (101 : Int), (110 : Int), (100 : Int)], [(100 : Int), (101 : Int), (108 : Int), (105 : Int), (118 : Int), (101 : Int), (114 : Int)], [(99 : Int), (111 : Int), (112 : Int), (121 : Int)], [(100 : Int), (114 : Int), (111 : Int), (112 : Int)], [(109 : Int), (101 : Int), (114 : Int), (103 : Int), (101 : Int)], [(115 : Int), (97 : Int), (118 : Int), (101 : Int)], [(99 : Int), (114 : Int), (97 : Int), (115 : Int), (104 : Int)]], [(0 : Int), (1 : Int), (3 : Int), (1 : Int), (1 : Int), (1 : Int), (2 : Int), (1 : Int), (1 : Int)])) : Option (shDen spec_l09Words_sh)) := by kernel_rfl

theorem spec_l09Words_run  : fnK (spec_l09Words_cx FUEL) 8 8 spec_l09Words_i spec_l09Words_sh [] = spec_l09Words_r  :=
 (spec_l09Words_start FUEL ).trans (rfl)

noncomputable def spec_l09Words_con : Con := { ps := .unit, sh := spec_l09Words_sh, raw := fun x => spec_l09Words_r  }
theorem spec_l09Words_conOk : ConOk Tryd.prog 8 spec_l09Words_con := con_of_fn (spec_l09Words_tabs FUEL) (depth := 8) spec_l09Words_ok fun x y h => (spec_l09Words_run ).trans h

noncomputable def spec_l09Deed_inls : List (Nat × Inl) := []
noncomputable def spec_l09Deed_cons : List (Nat × Con) := [(8, spec_l09Words_con), (13, spec_l00In_con)]
noncomputable def spec_l09Deed_taks : List (Nat × ConT) := []
noncomputable def spec_l09Deed_inps : List (Nat × ConI) := []
noncomputable def spec_l09Deed_cuts : List (Nat × List (Nat × Cut)) := []
noncomputable def spec_l09Deed_cx (k : Nat) : Cx := mkCx tys tbytes telem nozero (Ai.look spec_l09Deed_inls) (Ai.look spec_l09Deed_cons) (Ai.look spec_l09Deed_taks) (Ai.look spec_l09Deed_inps) (fun f id => match Ai.look spec_l09Deed_cuts f with | some l => Ai.look l id | none => none) k [] false
theorem spec_l09Deed_tabs (k : Nat) : TabsOk Tryd.prog (spec_l09Deed_cx k) := ⟨tab_mk tabs_ok _ _ _ _ _ _ _ _, look_all (Q := ConOk Tryd.prog) _ ⟨spec_l09Words_conOk, spec_l00In_conOk, trivial⟩, look_all (Q := TakOk Tryd.prog) _ trivial, look_all (Q := InpOk Tryd.prog) _ trivial, look_all (Q := InlOk Tryd.prog) _ trivial, mixed_ok⟩
abbrev spec_l09Deed_sh : List Sh := [.pl .bool]
noncomputable def spec_l09Deed_r (a0 : (Int × (Int × (Int × (Int × Unit))))) : Option (shDen spec_l09Deed_sh) :=
 (bindO (spec_l00In_r a0.1 (1 : Int) (8 : Int)) fun (b1 : Bool) => (cond (!b1)
 (some false)
 (bindO (spec_l00In_r a0.2.1 (0 : Int) (999 : Int)) fun (b2 : Bool) => (cond (!b2)
 (some false)
 (bindO (spec_l00In_r a0.2.2.1 (0 : Int) (999 : Int)) fun (b3 : Bool) => (cond (!b3)
 (some false)
 (bindO (spec_l00In_r a0.2.2.2.1 (0 : Int) (999 : Int)) fun (b4 : Bool) => (cond (!b4)
 (some false)
 (bindO (spec_l09Words_r) fun (b5 : ((List (List Int)) × (List Int))) => (cond ((decide ((0 : Int) ≤ a0.1)) && (decide (a0.1 < (b5.2.length : Int))))
 (cond (decide ((1 : Int) < (b5.2.getD (a0.1.toNat) (0 : Int))))
 (cond ((decide ((0 : Int) ≤ a0.1)) && (decide (a0.1 < (b5.2.length : Int))))
 (cond (decide ((2 : Int) < (b5.2.getD (a0.1.toNat) (0 : Int))))
 (some true)
 (some (decide (a0.2.2.2.1 = (0 : Int)))))
 none)
 (cond (decide (a0.2.2.1 = (0 : Int)))
 (cond ((decide ((0 : Int) ≤ a0.1)) && (decide (a0.1 < (b5.2.length : Int))))
 (cond (decide ((2 : Int) < (b5.2.getD (a0.1.toNat) (0 : Int))))
 (some true)
 (some (decide (a0.2.2.2.1 = (0 : Int)))))
 none)
 (some false)))
 none))))))))))
theorem spec_l09Deed_start (k : Nat) (a0 : (Int × (Int × (Int × (Int × Unit))))) : fnK (spec_l09Deed_cx k) 8 7 spec_l09Deed_i spec_l09Deed_sh [.pv (.pair (.int .i64) (.pair (.int .i64) (.pair (.int .i64) (.pair (.int .i64) .unit)))) a0] =
 ((bindO (spec_l00In_r a0.1 (1 : Int) (8 : Int)) fun (b1 : Bool) => (cond (!b1)
 (some false)
 (bindO (spec_l00In_r a0.2.1 (0 : Int) (999 : Int)) fun (b2 : Bool) => (cond (!b2)
 (some false)
 (bindO (spec_l00In_r a0.2.2.1 (0 : Int) (999 : Int)) fun (b3 : Bool) => (cond (!b3)
 (some false)
 (bindO (spec_l00In_r a0.2.2.2.1 (0 : Int) (999 : Int)) fun (b4 : Bool) => (cond (!b4)
 (some false)
 (bindO (spec_l09Words_r) fun (b5 : ((List (List Int)) × (List Int))) => (cond ((decide ((0 : Int) ≤ a0.1)) && (decide (a0.1 < (b5.2.length : Int))))
 (cond (decide ((1 : Int) < (b5.2.getD (a0.1.toNat) (0 : Int))))
 (cond ((decide ((0 : Int) ≤ a0.1)) && (decide (a0.1 < (b5.2.length : Int))))
 (cond (decide ((2 : Int) < (b5.2.getD (a0.1.toNat) (0 : Int))))
 (some true)
 (some (decide (a0.2.2.2.1 = (0 : Int)))))
 none)
 (cond (decide (a0.2.2.1 = (0 : Int)))
 (cond ((decide ((0 : Int) ≤ a0.1)) && (decide (a0.1 < (b5.2.length : Int))))
 (cond (decide ((2 : Int) < (b5.2.getD (a0.1.toNat) (0 : Int))))
 (some true)
 (some (decide (a0.2.2.2.1 = (0 : Int)))))
 none)
 (some false)))
 none)))))))))) : Option (shDen spec_l09Deed_sh)) := by kernel_rfl

theorem spec_l09Deed_run (a0 : (Int × (Int × (Int × (Int × Unit))))) : fnK (spec_l09Deed_cx FUEL) 8 7 spec_l09Deed_i spec_l09Deed_sh [.pv (.pair (.int .i64) (.pair (.int .i64) (.pair (.int .i64) (.pair (.int .i64) .unit)))) a0] = spec_l09Deed_r a0 :=
 (spec_l09Deed_start FUEL a0).trans (rfl)

noncomputable def spec_l09Deed_con : Con := { ps := (.pair (.pair (.int .i64) (.pair (.int .i64) (.pair (.int .i64) (.pair (.int .i64) .unit)))) .unit), sh := spec_l09Deed_sh, raw := fun x => spec_l09Deed_r x.1 }
theorem spec_l09Deed_conOk : ConOk Tryd.prog 7 spec_l09Deed_con := con_of_fn (spec_l09Deed_tabs FUEL) (depth := 8) spec_l09Deed_ok fun x y h => (spec_l09Deed_run x.1).trans h

noncomputable def spec_Decimal_R0_con : Con := { ps := (.pair (.int .i64) .unit), sh := [.pl .str], raw := fun _ => none }
theorem spec_Decimal_R0_conOk : ConOk Tryd.prog 9 spec_Decimal_R0_con := fun _ _ _ _ _ _ _ h => by cases h
noncomputable def spec_Decimal_R0_r (_ : Int) : Option (shDen [.pl .str]) := none
noncomputable def spec_Decimal_R1_inls : List (Nat × Inl) := []
noncomputable def spec_Decimal_R1_cons : List (Nat × Con) := [(9, spec_Decimal_R0_con)]
noncomputable def spec_Decimal_R1_taks : List (Nat × ConT) := []
noncomputable def spec_Decimal_R1_inps : List (Nat × ConI) := []
noncomputable def spec_Decimal_R1_cuts : List (Nat × List (Nat × Cut)) := []
noncomputable def spec_Decimal_R1_cx (k : Nat) : Cx := mkCx tys tbytes telem nozero (Ai.look spec_Decimal_R1_inls) (Ai.look spec_Decimal_R1_cons) (Ai.look spec_Decimal_R1_taks) (Ai.look spec_Decimal_R1_inps) (fun f id => match Ai.look spec_Decimal_R1_cuts f with | some l => Ai.look l id | none => none) k [] false
theorem spec_Decimal_R1_tabs (k : Nat) : TabsOk Tryd.prog (spec_Decimal_R1_cx k) := ⟨tab_mk tabs_ok _ _ _ _ _ _ _ _, look_all (Q := ConOk Tryd.prog) _ ⟨spec_Decimal_R0_conOk, trivial⟩, look_all (Q := TakOk Tryd.prog) _ trivial, look_all (Q := InpOk Tryd.prog) _ trivial, look_all (Q := InlOk Tryd.prog) _ trivial, mixed_ok⟩
abbrev spec_Decimal_R1_sh : List Sh := [.pl .str]
noncomputable def spec_Decimal_R1_r (a0 : Int) : Option (shDen spec_Decimal_R1_sh) :=
 (cond (decide ((10 : Int) ≤ a0))
 (bindO (spec_Decimal_R0_r (IntKind.wrap .i64 (Int.tdiv a0 (10 : Int)))) fun (b1 : List Int) => (cond (decide (b1.length + [(IntKind.wrap .u8 (IntKind.wrap .i64 ((48 : Int) + (Int.tmod a0 (10 : Int)))))].length ≤ 9223372036854775807))
 (some (b1 ++ [(IntKind.wrap .u8 (IntKind.wrap .i64 ((48 : Int) + (Int.tmod a0 (10 : Int)))))]))
 none))
 (some [(IntKind.wrap .u8 (IntKind.wrap .i64 ((48 : Int) + a0)))]))
theorem spec_Decimal_R1_start (k : Nat) (a0 : Int) : fnK (spec_Decimal_R1_cx k) 8 9 spec_Decimal_i spec_Decimal_R1_sh [.pv (.int .i64) a0] =
 ((cond (decide ((10 : Int) ≤ a0))
 (bindO (spec_Decimal_R0_r (IntKind.wrap .i64 (Int.tdiv a0 (10 : Int)))) fun (b1 : List Int) => (cond (decide (b1.length + [(IntKind.wrap .u8 (IntKind.wrap .i64 ((48 : Int) + (Int.tmod a0 (10 : Int)))))].length ≤ 9223372036854775807))
 (some (b1 ++ [(IntKind.wrap .u8 (IntKind.wrap .i64 ((48 : Int) + (Int.tmod a0 (10 : Int)))))]))
 none))
 (some [(IntKind.wrap .u8 (IntKind.wrap .i64 ((48 : Int) + a0)))])) : Option (shDen spec_Decimal_R1_sh)) := by kernel_rfl

theorem spec_Decimal_R1_run (a0 : Int) : fnK (spec_Decimal_R1_cx FUEL) 8 9 spec_Decimal_i spec_Decimal_R1_sh [.pv (.int .i64) a0] = spec_Decimal_R1_r a0 :=
 (spec_Decimal_R1_start FUEL a0).trans (rfl)

noncomputable def spec_Decimal_R1_con : Con := { ps := (.pair (.int .i64) .unit), sh := spec_Decimal_R1_sh, raw := fun x => spec_Decimal_R1_r x.1 }
theorem spec_Decimal_R1_conOk : ConOk Tryd.prog 9 spec_Decimal_R1_con := con_of_fn (spec_Decimal_R1_tabs FUEL) (depth := 8) spec_Decimal_ok fun x y h => (spec_Decimal_R1_run x.1).trans h
noncomputable def spec_Decimal_R2_inls : List (Nat × Inl) := []
noncomputable def spec_Decimal_R2_cons : List (Nat × Con) := [(9, spec_Decimal_R1_con)]
noncomputable def spec_Decimal_R2_taks : List (Nat × ConT) := []
noncomputable def spec_Decimal_R2_inps : List (Nat × ConI) := []
noncomputable def spec_Decimal_R2_cuts : List (Nat × List (Nat × Cut)) := []
noncomputable def spec_Decimal_R2_cx (k : Nat) : Cx := mkCx tys tbytes telem nozero (Ai.look spec_Decimal_R2_inls) (Ai.look spec_Decimal_R2_cons) (Ai.look spec_Decimal_R2_taks) (Ai.look spec_Decimal_R2_inps) (fun f id => match Ai.look spec_Decimal_R2_cuts f with | some l => Ai.look l id | none => none) k [] false
theorem spec_Decimal_R2_tabs (k : Nat) : TabsOk Tryd.prog (spec_Decimal_R2_cx k) := ⟨tab_mk tabs_ok _ _ _ _ _ _ _ _, look_all (Q := ConOk Tryd.prog) _ ⟨spec_Decimal_R1_conOk, trivial⟩, look_all (Q := TakOk Tryd.prog) _ trivial, look_all (Q := InpOk Tryd.prog) _ trivial, look_all (Q := InlOk Tryd.prog) _ trivial, mixed_ok⟩
abbrev spec_Decimal_R2_sh : List Sh := [.pl .str]
noncomputable def spec_Decimal_R2_r (a0 : Int) : Option (shDen spec_Decimal_R2_sh) :=
 (cond (decide ((10 : Int) ≤ a0))
 (bindO (spec_Decimal_R1_r (IntKind.wrap .i64 (Int.tdiv a0 (10 : Int)))) fun (b1 : List Int) => (cond (decide (b1.length + [(IntKind.wrap .u8 (IntKind.wrap .i64 ((48 : Int) + (Int.tmod a0 (10 : Int)))))].length ≤ 9223372036854775807))
 (some (b1 ++ [(IntKind.wrap .u8 (IntKind.wrap .i64 ((48 : Int) + (Int.tmod a0 (10 : Int)))))]))
 none))
 (some [(IntKind.wrap .u8 (IntKind.wrap .i64 ((48 : Int) + a0)))]))
theorem spec_Decimal_R2_start (k : Nat) (a0 : Int) : fnK (spec_Decimal_R2_cx k) 8 9 spec_Decimal_i spec_Decimal_R2_sh [.pv (.int .i64) a0] =
 ((cond (decide ((10 : Int) ≤ a0))
 (bindO (spec_Decimal_R1_r (IntKind.wrap .i64 (Int.tdiv a0 (10 : Int)))) fun (b1 : List Int) => (cond (decide (b1.length + [(IntKind.wrap .u8 (IntKind.wrap .i64 ((48 : Int) + (Int.tmod a0 (10 : Int)))))].length ≤ 9223372036854775807))
 (some (b1 ++ [(IntKind.wrap .u8 (IntKind.wrap .i64 ((48 : Int) + (Int.tmod a0 (10 : Int)))))]))
 none))
 (some [(IntKind.wrap .u8 (IntKind.wrap .i64 ((48 : Int) + a0)))])) : Option (shDen spec_Decimal_R2_sh)) := by kernel_rfl

theorem spec_Decimal_R2_run (a0 : Int) : fnK (spec_Decimal_R2_cx FUEL) 8 9 spec_Decimal_i spec_Decimal_R2_sh [.pv (.int .i64) a0] = spec_Decimal_R2_r a0 :=
 (spec_Decimal_R2_start FUEL a0).trans (rfl)

noncomputable def spec_Decimal_R2_con : Con := { ps := (.pair (.int .i64) .unit), sh := spec_Decimal_R2_sh, raw := fun x => spec_Decimal_R2_r x.1 }
theorem spec_Decimal_R2_conOk : ConOk Tryd.prog 9 spec_Decimal_R2_con := con_of_fn (spec_Decimal_R2_tabs FUEL) (depth := 8) spec_Decimal_ok fun x y h => (spec_Decimal_R2_run x.1).trans h
noncomputable def spec_Decimal_R3_inls : List (Nat × Inl) := []
noncomputable def spec_Decimal_R3_cons : List (Nat × Con) := [(9, spec_Decimal_R2_con)]
noncomputable def spec_Decimal_R3_taks : List (Nat × ConT) := []
noncomputable def spec_Decimal_R3_inps : List (Nat × ConI) := []
noncomputable def spec_Decimal_R3_cuts : List (Nat × List (Nat × Cut)) := []
noncomputable def spec_Decimal_R3_cx (k : Nat) : Cx := mkCx tys tbytes telem nozero (Ai.look spec_Decimal_R3_inls) (Ai.look spec_Decimal_R3_cons) (Ai.look spec_Decimal_R3_taks) (Ai.look spec_Decimal_R3_inps) (fun f id => match Ai.look spec_Decimal_R3_cuts f with | some l => Ai.look l id | none => none) k [] false
theorem spec_Decimal_R3_tabs (k : Nat) : TabsOk Tryd.prog (spec_Decimal_R3_cx k) := ⟨tab_mk tabs_ok _ _ _ _ _ _ _ _, look_all (Q := ConOk Tryd.prog) _ ⟨spec_Decimal_R2_conOk, trivial⟩, look_all (Q := TakOk Tryd.prog) _ trivial, look_all (Q := InpOk Tryd.prog) _ trivial, look_all (Q := InlOk Tryd.prog) _ trivial, mixed_ok⟩
abbrev spec_Decimal_R3_sh : List Sh := [.pl .str]
noncomputable def spec_Decimal_R3_r (a0 : Int) : Option (shDen spec_Decimal_R3_sh) :=
 (cond (decide ((10 : Int) ≤ a0))
 (bindO (spec_Decimal_R2_r (IntKind.wrap .i64 (Int.tdiv a0 (10 : Int)))) fun (b1 : List Int) => (cond (decide (b1.length + [(IntKind.wrap .u8 (IntKind.wrap .i64 ((48 : Int) + (Int.tmod a0 (10 : Int)))))].length ≤ 9223372036854775807))
 (some (b1 ++ [(IntKind.wrap .u8 (IntKind.wrap .i64 ((48 : Int) + (Int.tmod a0 (10 : Int)))))]))
 none))
 (some [(IntKind.wrap .u8 (IntKind.wrap .i64 ((48 : Int) + a0)))]))
theorem spec_Decimal_R3_start (k : Nat) (a0 : Int) : fnK (spec_Decimal_R3_cx k) 8 9 spec_Decimal_i spec_Decimal_R3_sh [.pv (.int .i64) a0] =
 ((cond (decide ((10 : Int) ≤ a0))
 (bindO (spec_Decimal_R2_r (IntKind.wrap .i64 (Int.tdiv a0 (10 : Int)))) fun (b1 : List Int) => (cond (decide (b1.length + [(IntKind.wrap .u8 (IntKind.wrap .i64 ((48 : Int) + (Int.tmod a0 (10 : Int)))))].length ≤ 9223372036854775807))
 (some (b1 ++ [(IntKind.wrap .u8 (IntKind.wrap .i64 ((48 : Int) + (Int.tmod a0 (10 : Int)))))]))
 none))
 (some [(IntKind.wrap .u8 (IntKind.wrap .i64 ((48 : Int) + a0)))])) : Option (shDen spec_Decimal_R3_sh)) := by kernel_rfl

theorem spec_Decimal_R3_run (a0 : Int) : fnK (spec_Decimal_R3_cx FUEL) 8 9 spec_Decimal_i spec_Decimal_R3_sh [.pv (.int .i64) a0] = spec_Decimal_R3_r a0 :=
 (spec_Decimal_R3_start FUEL a0).trans (rfl)

noncomputable def spec_Decimal_R3_con : Con := { ps := (.pair (.int .i64) .unit), sh := spec_Decimal_R3_sh, raw := fun x => spec_Decimal_R3_r x.1 }
theorem spec_Decimal_R3_conOk : ConOk Tryd.prog 9 spec_Decimal_R3_con := con_of_fn (spec_Decimal_R3_tabs FUEL) (depth := 8) spec_Decimal_ok fun x y h => (spec_Decimal_R3_run x.1).trans h
noncomputable def spec_Decimal_inls : List (Nat × Inl) := []
noncomputable def spec_Decimal_cons : List (Nat × Con) := [(9, spec_Decimal_R3_con)]
noncomputable def spec_Decimal_taks : List (Nat × ConT) := []
noncomputable def spec_Decimal_inps : List (Nat × ConI) := []
noncomputable def spec_Decimal_cuts : List (Nat × List (Nat × Cut)) := []
noncomputable def spec_Decimal_cx (k : Nat) : Cx := mkCx tys tbytes telem nozero (Ai.look spec_Decimal_inls) (Ai.look spec_Decimal_cons) (Ai.look spec_Decimal_taks) (Ai.look spec_Decimal_inps) (fun f id => match Ai.look spec_Decimal_cuts f with | some l => Ai.look l id | none => none) k [] false
theorem spec_Decimal_tabs (k : Nat) : TabsOk Tryd.prog (spec_Decimal_cx k) := ⟨tab_mk tabs_ok _ _ _ _ _ _ _ _, look_all (Q := ConOk Tryd.prog) _ ⟨spec_Decimal_R3_conOk, trivial⟩, look_all (Q := TakOk Tryd.prog) _ trivial, look_all (Q := InpOk Tryd.prog) _ trivial, look_all (Q := InlOk Tryd.prog) _ trivial, mixed_ok⟩
abbrev spec_Decimal_sh : List Sh := [.pl .str]
noncomputable def spec_Decimal_r (a0 : Int) : Option (shDen spec_Decimal_sh) :=
 (cond (decide ((10 : Int) ≤ a0))
 (bindO (spec_Decimal_R3_r (IntKind.wrap .i64 (Int.tdiv a0 (10 : Int)))) fun (b1 : List Int) => (cond (decide (b1.length + [(IntKind.wrap .u8 (IntKind.wrap .i64 ((48 : Int) + (Int.tmod a0 (10 : Int)))))].length ≤ 9223372036854775807))
 (some (b1 ++ [(IntKind.wrap .u8 (IntKind.wrap .i64 ((48 : Int) + (Int.tmod a0 (10 : Int)))))]))
 none))
 (some [(IntKind.wrap .u8 (IntKind.wrap .i64 ((48 : Int) + a0)))]))
theorem spec_Decimal_start (k : Nat) (a0 : Int) : fnK (spec_Decimal_cx k) 8 9 spec_Decimal_i spec_Decimal_sh [.pv (.int .i64) a0] =
 ((cond (decide ((10 : Int) ≤ a0))
 (bindO (spec_Decimal_R3_r (IntKind.wrap .i64 (Int.tdiv a0 (10 : Int)))) fun (b1 : List Int) => (cond (decide (b1.length + [(IntKind.wrap .u8 (IntKind.wrap .i64 ((48 : Int) + (Int.tmod a0 (10 : Int)))))].length ≤ 9223372036854775807))
 (some (b1 ++ [(IntKind.wrap .u8 (IntKind.wrap .i64 ((48 : Int) + (Int.tmod a0 (10 : Int)))))]))
 none))
 (some [(IntKind.wrap .u8 (IntKind.wrap .i64 ((48 : Int) + a0)))])) : Option (shDen spec_Decimal_sh)) := by kernel_rfl

theorem spec_Decimal_run (a0 : Int) : fnK (spec_Decimal_cx FUEL) 8 9 spec_Decimal_i spec_Decimal_sh [.pv (.int .i64) a0] = spec_Decimal_r a0 :=
 (spec_Decimal_start FUEL a0).trans (rfl)

noncomputable def spec_Decimal_con : Con := { ps := (.pair (.int .i64) .unit), sh := spec_Decimal_sh, raw := fun x => spec_Decimal_r x.1 }
theorem spec_Decimal_conOk : ConOk Tryd.prog 9 spec_Decimal_con := con_of_fn (spec_Decimal_tabs FUEL) (depth := 8) spec_Decimal_ok fun x y h => (spec_Decimal_run x.1).trans h

noncomputable def spec_DeedText_l0_cut : Cut := { keep := [1, 4, 5, 6, 7], stk := [], ids := [10, 121, 260], own := [], outs := [(1, [5], [])] }
noncomputable def spec_DeedText_inls : List (Nat × Inl) := []
noncomputable def spec_DeedText_cons : List (Nat × Con) := [(7, spec_l09Deed_con), (8, spec_l09Words_con), (9, spec_Decimal_con)]
noncomputable def spec_DeedText_taks : List (Nat × ConT) := []
noncomputable def spec_DeedText_inps : List (Nat × ConI) := []
noncomputable def spec_DeedText_cuts : List (Nat × List (Nat × Cut)) := [(4, [(0, spec_DeedText_l0_cut)])]
noncomputable def spec_DeedText_cx (k : Nat) : Cx := mkCx tys tbytes telem nozero (Ai.look spec_DeedText_inls) (Ai.look spec_DeedText_cons) (Ai.look spec_DeedText_taks) (Ai.look spec_DeedText_inps) (fun f id => match Ai.look spec_DeedText_cuts f with | some l => Ai.look l id | none => none) k [] false
theorem spec_DeedText_tabs (k : Nat) : TabsOk Tryd.prog (spec_DeedText_cx k) := ⟨tab_mk tabs_ok _ _ _ _ _ _ _ _, look_all (Q := ConOk Tryd.prog) _ ⟨spec_l09Deed_conOk, spec_l09Words_conOk, spec_Decimal_conOk, trivial⟩, look_all (Q := TakOk Tryd.prog) _ trivial, look_all (Q := InpOk Tryd.prog) _ trivial, look_all (Q := InlOk Tryd.prog) _ trivial, mixed_ok⟩
abbrev spec_DeedText_sh : List Sh := [.pl .str]
noncomputable def spec_DeedText_l0_s (a0 : (Int × (Int × (Int × (Int × Unit))))) (x5 : List Int) (z121 : (List Int)) (x7 : Int) : St := { env := [.dead, .ptr 10 (.pair (.int .i64) (.pair (.int .i64) (.pair (.int .i64) (.pair (.int .i64) .unit)))) [], .dead, .dead, .sl 121 (.int .i64), .pv .str x5, .sl 260 (.int .i64), .pv (.int .i64) x7, .dead, .dead, .dead, .dead, .dead, .dead, .dead, .dead, .dead, .dead, .dead, .dead, .dead, .dead, .dead, .dead, .dead, .dead, .dead, .dead, .dead, .dead, .dead, .dead, .dead, .dead, .dead, .dead, .dead, .dead, .dead, .dead, .dead, .dead, .dead, .dead, .dead], stk := [], heap := [(10, .var (.pair (.int .i64) (.pair (.int .i64) (.pair (.int .i64) (.pair (.int .i64) .unit)))) (.pv (.pair (.int .i64) (.pair (.int .i64) (.pair (.int .i64) (.pair (.int .i64) .unit)))) a0)), (121, .arr 3 (.int .i64) z121), (260, .arr 2 (.int .i64) [a0.2.1, a0.2.2.1, a0.2.2.2.1])] }
noncomputable def spec_DeedText_l0_o0 (x5 : List Int) : St := { env := [.dead, .dead, .dead, .dead, .dead, .pv .str x5, .dead, .dead, .dead, .dead, .dead, .dead, .dead, .dead, .dead, .dead, .dead, .dead, .dead, .dead, .dead, .dead, .dead, .dead, .dead, .dead, .dead, .dead, .dead, .dead, .dead, .dead, .dead, .dead, .dead, .dead, .dead, .dead, .dead, .dead, .dead, .dead, .dead, .dead, .dead], stk := [], heap := [] }
noncomputable def spec_DeedText_l0_b (rec : (List Int) → (List Int) → Int → Option (shDen spec_DeedText_sh)) (ke0 : (List Int) → Option (shDen spec_DeedText_sh)) (a0 : (Int × (Int × (Int × (Int × Unit))))) (x5 : List Int) (z121 : (List Int)) (x7 : Int) : Option (shDen spec_DeedText_sh) :=
 (cond ((decide ((0 : Int) ≤ a0.1)) && (decide (a0.1 < (z121.length : Int))))
 (cond (decide (x7 < (z121.getD (a0.1.toNat) (0 : Int))))
 (cond ((decide ((0 : Int) ≤ x7)) && (decide (x7 < (3 : Int))))
 (bindO (spec_Decimal_r ([a0.2.1, a0.2.2.1, a0.2.2.2.1].getD (x7.toNat) (0 : Int))) fun (b4 : List Int) => (cond (decide ([(32 : Int)].length + b4.length ≤ 9223372036854775807))
 (cond (decide (x5.length + ([(32 : Int)] ++ b4).length ≤ 9223372036854775807))
 (rec (x5 ++ ([(32 : Int)] ++ b4)) z121 (IntKind.wrap .i64 (x7 + (1 : Int))))
 none)
 none))
 none)
 (ke0 x5))
 none)
noncomputable def spec_DeedText_l0_L (ke0 : (List Int) → Option (shDen spec_DeedText_sh)) (a0 : (Int × (Int × (Int × (Int × Unit))))) : Nat → (List Int) → (List Int) → Int → Option (shDen spec_DeedText_sh)
 | 0 => fun _ _ _ => none
 | n + 1 => spec_DeedText_l0_b (spec_DeedText_l0_L ke0 a0 n) ke0 a0
noncomputable def spec_DeedText_r (a0 : (Int × (Int × (Int × (Int × Unit))))) : Option (shDen spec_DeedText_sh) :=
 (bindO (spec_l09Deed_r a0) fun (b1 : Bool) => (cond (!b1)
 (some [])
 (bindO (spec_l09Words_r) fun (b2 : ((List (List Int)) × (List Int))) => (cond ((decide ((0 : Int) ≤ a0.1)) && (decide (a0.1 < (b2.1.length : Int))))
 (spec_DeedText_l0_L (fun x5 => (some x5)) a0 FUEL (b2.1.getD (a0.1.toNat) []) b2.2 (0 : Int))
 none))))
theorem spec_DeedText_l0_round (k : Nat) (K : Ex → St → Option (shDen spec_DeedText_sh)) (n : Nat) (a0 : (Int × (Int × (Int × (Int × Unit))))) (x5 : List Int) (z121 : (List Int)) (x7 : Int) : (loopK (spec_DeedText_cx k) 0 (execK (spec_DeedText_cx k) (callK (spec_DeedText_cx k) 8) 0 4 (sub spec_DeedText_c [1, 1, 1, 1, 1, 0, 1, 0, 0])) spec_DeedText_l0_cut K (n + 1) (spec_DeedText_l0_s a0 x5 z121 x7) : Option (shDen spec_DeedText_sh)) =
 ((cond ((decide ((0 : Int) ≤ a0.1)) && (decide (a0.1 < (z121.length : Int))))
 (cond (decide (x7 < (z121.getD (a0.1.toNat) (0 : Int))))
 (cond ((decide ((0 : Int) ≤ x7)) && (decide (x7 < (3 : Int))))
 (bindO (spec_Decimal_r ([a0.2.1, a0.2.2.1, a0.2.2.2.1].getD (x7.toNat) (0 : Int))) fun (b4 : List Int) => (cond (decide ([(32 : Int)].length + b4.length ≤ 9223372036854775807))
 (cond (decide (x5.length + ([(32 : Int)] ++ b4).length ≤ 9223372036854775807))
 (loopK (spec_DeedText_cx k) 0 (execK (spec_DeedText_cx k) (callK (spec_DeedText_cx k) 8) 0 4 (sub spec_DeedText_c [1, 1, 1, 1, 1, 0, 1, 0, 0])) spec_DeedText_l0_cut K n (spec_DeedText_l0_s a0 (x5 ++ ([(32 : Int)] ++ b4)) z121 (IntKind.wrap .i64 (x7 + (1 : Int)))))
 none)
 none))
 none)
 (K (.exit 0) (spec_DeedText_l0_o0 x5)))
 none) : Option (shDen spec_DeedText_sh)) := by kernel_rfl

theorem spec_DeedText_l0_exit0 (k : Nat)  (x5 : List Int) : ((blkK 0 (seqK (execK (spec_DeedText_cx k) (callK (spec_DeedText_cx k) 8) 0 4 (sub spec_DeedText_c [1, 1, 1, 1, 1, 1])) (finK (spec_DeedText_cx k) spec_DeedText_i spec_DeedText_sh))) (.exit 0) (spec_DeedText_l0_o0 x5) : Option (shDen spec_DeedText_sh)) =
 ((some x5) : Option (shDen spec_DeedText_sh)) := by kernel_rfl

theorem spec_DeedText_l0_congr (ke0 : (List Int) → Option (shDen spec_DeedText_sh)) (ke0' : (List Int) → Option (shDen spec_DeedText_sh)) (a0 : (Int × (Int × (Int × (Int × Unit))))) (n : Nat) (x5 : List Int) (z121 : (List Int)) (x7 : Int) (hke0 : ∀ x5, ke0 x5 = ke0' x5) : spec_DeedText_l0_L ke0 a0 n x5 z121 x7 = spec_DeedText_l0_L ke0' a0 n x5 z121 x7 := by
 have : ke0 = ke0' := (by funext x5; exact hke0 x5); subst this; rfl

theorem spec_DeedText_l0_L_eq (K : Ex → St → Option (shDen spec_DeedText_sh)) (a0 : (Int × (Int × (Int × (Int × Unit))))) : ∀ (n : Nat) (x5 : List Int) (z121 : (List Int)) (x7 : Int), (loopK (spec_DeedText_cx FUEL) 0 (execK (spec_DeedText_cx FUEL) (callK (spec_DeedText_cx FUEL) 8) 0 4 (sub spec_DeedText_c [1, 1, 1, 1, 1, 0, 1, 0, 0])) spec_DeedText_l0_cut K n (spec_DeedText_l0_s a0 x5 z121 x7) : Option (shDen spec_DeedText_sh)) = spec_DeedText_l0_L (fun x5 => K (.exit 0) (spec_DeedText_l0_o0 x5)) a0 n x5 z121 x7 := by
 intro n
 induction n with
 | zero => intros; rfl
 | succ n ih =>
  intro x5 z121 x7
  exact (spec_DeedText_l0_round FUEL K n a0 x5 z121 x7).trans (condC (condC (condC (bindC (fun b4 => condC (condC (ih (x5 ++ ([(32 : Int)] ++ b4)) z121 (IntKind.wrap .i64 (x7 + (1 : Int)))) (rfl)) (rfl))) (rfl)) (rfl)) (rfl))

theorem spec_DeedText_start (k : Nat) (a0 : (Int × (Int × (Int × (Int × Unit))))) : fnK (spec_DeedText_cx k) 8 4 spec_DeedText_i spec_DeedText_sh [.pv (.pair (.int .i64) (.pair (.int .i64) (.pair (.int .i64) (.pair (.int .i64) .unit)))) a0] =
 ((bindO (spec_l09Deed_r a0) fun (b1 : Bool) => (cond (!b1)
 (some [])
 (bindO (spec_l09Words_r) fun (b2 : ((List (List Int)) × (List Int))) => (cond ((decide ((0 : Int) ≤ a0.1)) && (decide (a0.1 < (b2.1.length : Int))))
 (loopK (spec_DeedText_cx k) 0 (execK (spec_DeedText_cx k) (callK (spec_DeedText_cx k) 8) 0 4 (sub spec_DeedText_c [1, 1, 1, 1, 1, 0, 1, 0, 0])) spec_DeedText_l0_cut (blkK 0 (seqK (execK (spec_DeedText_cx k) (callK (spec_DeedText_cx k) 8) 0 4 (sub spec_DeedText_c [1, 1, 1, 1, 1, 1])) (finK (spec_DeedText_cx k) spec_DeedText_i spec_DeedText_sh))) k (spec_DeedText_l0_s a0 (b2.1.getD (a0.1.toNat) []) b2.2 (0 : Int)))
 none)))) : Option (shDen spec_DeedText_sh)) := by kernel_rfl

theorem spec_DeedText_run (a0 : (Int × (Int × (Int × (Int × Unit))))) : fnK (spec_DeedText_cx FUEL) 8 4 spec_DeedText_i spec_DeedText_sh [.pv (.pair (.int .i64) (.pair (.int .i64) (.pair (.int .i64) (.pair (.int .i64) .unit)))) a0] = spec_DeedText_r a0 :=
 (spec_DeedText_start FUEL a0).trans (bindC (fun b1 => condC (rfl) (bindC (fun b2 => condC ((spec_DeedText_l0_L_eq _ a0 FUEL (b2.1.getD (a0.1.toNat) []) b2.2 (0 : Int)).trans (spec_DeedText_l0_congr _ _ a0 FUEL (b2.1.getD (a0.1.toNat) []) b2.2 (0 : Int) (fun x5 => (spec_DeedText_l0_exit0 FUEL  x5).trans (rfl)))) (rfl)))))

noncomputable def spec_DeedText_con : Con := { ps := (.pair (.pair (.int .i64) (.pair (.int .i64) (.pair (.int .i64) (.pair (.int .i64) .unit)))) .unit), sh := spec_DeedText_sh, raw := fun x => spec_DeedText_r x.1 }
theorem spec_DeedText_conOk : ConOk Tryd.prog 4 spec_DeedText_con := con_of_fn (spec_DeedText_tabs FUEL) (depth := 8) spec_DeedText_ok fun x y h => (spec_DeedText_run x.1).trans h

noncomputable def impl_deedWord_inls : List (Nat × Inl) := []
noncomputable def impl_deedWord_cons : List (Nat × Con) := []
noncomputable def impl_deedWord_taks : List (Nat × ConT) := []
noncomputable def impl_deedWord_inps : List (Nat × ConI) := []
noncomputable def impl_deedWord_cuts : List (Nat × List (Nat × Cut)) := []
noncomputable def impl_deedWord_cx (k : Nat) : Cx := mkCx tys tbytes telem nozero (Ai.look impl_deedWord_inls) (Ai.look impl_deedWord_cons) (Ai.look impl_deedWord_taks) (Ai.look impl_deedWord_inps) (fun f id => match Ai.look impl_deedWord_cuts f with | some l => Ai.look l id | none => none) k [] false
theorem impl_deedWord_tabs (k : Nat) : TabsOk Tryd.prog (impl_deedWord_cx k) := ⟨tab_mk tabs_ok _ _ _ _ _ _ _ _, look_all (Q := ConOk Tryd.prog) _ trivial, look_all (Q := TakOk Tryd.prog) _ trivial, look_all (Q := InpOk Tryd.prog) _ trivial, look_all (Q := InlOk Tryd.prog) _ trivial, mixed_ok⟩
abbrev impl_deedWord_sh : List Sh := [.pl .str, .pl (.int .i64)]
noncomputable def impl_deedWord_r (a0 : Int) : Option (shDen impl_deedWord_sh) :=
 (cond (decide (a0 = (1 : Int)))
 (some ([(119 : Int), (114 : Int), (105 : Int), (116 : Int), (101 : Int)], (1 : Int)))
 (cond (decide (a0 = (2 : Int)))
 (some ([(115 : Int), (101 : Int), (110 : Int), (100 : Int)], (3 : Int)))
 (cond (decide (a0 = (3 : Int)))
 (some ([(100 : Int), (101 : Int), (108 : Int), (105 : Int), (118 : Int), (101 : Int), (114 : Int)], (1 : Int)))
 (cond (decide (a0 = (4 : Int)))
 (some ([(99 : Int), (111 : Int), (112 : Int), (121 : Int)], (1 : Int)))
 (cond (decide (a0 = (5 : Int)))
 (some ([(100 : Int), (114 : Int), (111 : Int), (112 : Int)], (1 : Int)))
 (cond (decide (a0 = (6 : Int)))
 (some ([(109 : Int), (101 : Int), (114 : Int), (103 : Int), (101 : Int)], (2 : Int)))
 (cond (decide (a0 = (7 : Int)))
 (some ([(115 : Int), (97 : Int), (118 : Int), (101 : Int)], (1 : Int)))
 (cond (decide (a0 = (8 : Int)))
 (some ([(99 : Int), (114 : Int), (97 : Int), (115 : Int), (104 : Int)], (1 : Int)))
 (some ([], (0 : Int)))))))))))
theorem impl_deedWord_start (k : Nat) (a0 : Int) : fnK (impl_deedWord_cx k) 8 11 impl_deedWord_i impl_deedWord_sh [.pv (.int .i64) a0] =
 ((cond (decide (a0 = (1 : Int)))
 (some ([(119 : Int), (114 : Int), (105 : Int), (116 : Int), (101 : Int)], (1 : Int)))
 (cond (decide (a0 = (2 : Int)))
 (some ([(115 : Int), (101 : Int), (110 : Int), (100 : Int)], (3 : Int)))
 (cond (decide (a0 = (3 : Int)))
 (some ([(100 : Int), (101 : Int), (108 : Int), (105 : Int), (118 : Int), (101 : Int), (114 : Int)], (1 : Int)))
 (cond (decide (a0 = (4 : Int)))
 (some ([(99 : Int), (111 : Int), (112 : Int), (121 : Int)], (1 : Int)))
 (cond (decide (a0 = (5 : Int)))
 (some ([(100 : Int), (114 : Int), (111 : Int), (112 : Int)], (1 : Int)))
 (cond (decide (a0 = (6 : Int)))
 (some ([(109 : Int), (101 : Int), (114 : Int), (103 : Int), (101 : Int)], (2 : Int)))
 (cond (decide (a0 = (7 : Int)))
 (some ([(115 : Int), (97 : Int), (118 : Int), (101 : Int)], (1 : Int)))
 (cond (decide (a0 = (8 : Int)))
 (some ([(99 : Int), (114 : Int), (97 : Int), (115 : Int), (104 : Int)], (1 : Int)))
 (some ([], (0 : Int))))))))))) : Option (shDen impl_deedWord_sh)) := by kernel_rfl

theorem impl_deedWord_run (a0 : Int) : fnK (impl_deedWord_cx FUEL) 8 11 impl_deedWord_i impl_deedWord_sh [.pv (.int .i64) a0] = impl_deedWord_r a0 :=
 (impl_deedWord_start FUEL a0).trans (rfl)

noncomputable def impl_deedWord_con : Con := { ps := (.pair (.int .i64) .unit), sh := impl_deedWord_sh, raw := fun x => impl_deedWord_r x.1 }
theorem impl_deedWord_conOk : ConOk Tryd.prog 11 impl_deedWord_con := con_of_fn (impl_deedWord_tabs FUEL) (depth := 8) impl_deedWord_ok fun x y h => (impl_deedWord_run x.1).trans h

noncomputable def impl_within_inls : List (Nat × Inl) := []
noncomputable def impl_within_cons : List (Nat × Con) := []
noncomputable def impl_within_taks : List (Nat × ConT) := []
noncomputable def impl_within_inps : List (Nat × ConI) := []
noncomputable def impl_within_cuts : List (Nat × List (Nat × Cut)) := []
noncomputable def impl_within_cx (k : Nat) : Cx := mkCx tys tbytes telem nozero (Ai.look impl_within_inls) (Ai.look impl_within_cons) (Ai.look impl_within_taks) (Ai.look impl_within_inps) (fun f id => match Ai.look impl_within_cuts f with | some l => Ai.look l id | none => none) k [] false
theorem impl_within_tabs (k : Nat) : TabsOk Tryd.prog (impl_within_cx k) := ⟨tab_mk tabs_ok _ _ _ _ _ _ _ _, look_all (Q := ConOk Tryd.prog) _ trivial, look_all (Q := TakOk Tryd.prog) _ trivial, look_all (Q := InpOk Tryd.prog) _ trivial, look_all (Q := InlOk Tryd.prog) _ trivial, mixed_ok⟩
abbrev impl_within_sh : List Sh := [.pl .bool]
noncomputable def impl_within_r (a0 : Int) (a1 : Int) (a2 : Int) : Option (shDen impl_within_sh) :=
 (cond (decide (a1 ≤ a0))
 (some (decide (a0 ≤ a2)))
 (some false))
theorem impl_within_start (k : Nat) (a0 : Int) (a1 : Int) (a2 : Int) : fnK (impl_within_cx k) 8 14 impl_within_i impl_within_sh [.pv (.int .i64) a0, .pv (.int .i64) a1, .pv (.int .i64) a2] =
 ((cond (decide (a1 ≤ a0))
 (some (decide (a0 ≤ a2)))
 (some false)) : Option (shDen impl_within_sh)) := by kernel_rfl

theorem impl_within_run (a0 : Int) (a1 : Int) (a2 : Int) : fnK (impl_within_cx FUEL) 8 14 impl_within_i impl_within_sh [.pv (.int .i64) a0, .pv (.int .i64) a1, .pv (.int .i64) a2] = impl_within_r a0 a1 a2 :=
 (impl_within_start FUEL a0 a1 a2).trans (rfl)

noncomputable def impl_within_con : Con := { ps := (.pair (.int .i64) (.pair (.int .i64) (.pair (.int .i64) .unit))), sh := impl_within_sh, raw := fun x => impl_within_r x.1 x.2.1 x.2.2.1 }
theorem impl_within_conOk : ConOk Tryd.prog 14 impl_within_con := con_of_fn (impl_within_tabs FUEL) (depth := 8) impl_within_ok fun x y h => (impl_within_run x.1 x.2.1 x.2.2.1).trans h

noncomputable def impl_ValidDeed_inls : List (Nat × Inl) := []
noncomputable def impl_ValidDeed_cons : List (Nat × Con) := [(11, impl_deedWord_con), (14, impl_within_con)]
noncomputable def impl_ValidDeed_taks : List (Nat × ConT) := []
noncomputable def impl_ValidDeed_inps : List (Nat × ConI) := []
noncomputable def impl_ValidDeed_cuts : List (Nat × List (Nat × Cut)) := []
noncomputable def impl_ValidDeed_cx (k : Nat) : Cx := mkCx tys tbytes telem nozero (Ai.look impl_ValidDeed_inls) (Ai.look impl_ValidDeed_cons) (Ai.look impl_ValidDeed_taks) (Ai.look impl_ValidDeed_inps) (fun f id => match Ai.look impl_ValidDeed_cuts f with | some l => Ai.look l id | none => none) k [] false
theorem impl_ValidDeed_tabs (k : Nat) : TabsOk Tryd.prog (impl_ValidDeed_cx k) := ⟨tab_mk tabs_ok _ _ _ _ _ _ _ _, look_all (Q := ConOk Tryd.prog) _ ⟨impl_deedWord_conOk, impl_within_conOk, trivial⟩, look_all (Q := TakOk Tryd.prog) _ trivial, look_all (Q := InpOk Tryd.prog) _ trivial, look_all (Q := InlOk Tryd.prog) _ trivial, mixed_ok⟩
abbrev impl_ValidDeed_sh : List Sh := [.pl .bool]
noncomputable def impl_ValidDeed_r (a0 : (Int × (Int × (Int × (Int × Unit))))) : Option (shDen impl_ValidDeed_sh) :=
 (bindO (impl_deedWord_r a0.1) fun (b1 : (List Int × Int)) => (cond (!(decide (b1.1 = [])))
 (bindO (impl_within_r a0.2.1 (0 : Int) (999 : Int)) fun (b2 : Bool) => (cond b2
 (bindO (impl_within_r a0.2.2.1 (0 : Int) (999 : Int)) fun (b3 : Bool) => (cond b3
 (bindO (impl_within_r a0.2.2.2.1 (0 : Int) (999 : Int)) fun (b4 : Bool) => (cond b4
 (cond (decide ((1 : Int) < b1.2))
 (cond (decide ((2 : Int) < b1.2))
 (some true)
 (some (decide (a0.2.2.2.1 = (0 : Int)))))
 (cond (decide (a0.2.2.1 = (0 : Int)))
 (cond (decide ((2 : Int) < b1.2))
 (some true)
 (some (decide (a0.2.2.2.1 = (0 : Int)))))
 (some false)))
 (some false)))
 (some false)))
 (some false)))
 (some false)))
theorem impl_ValidDeed_start (k : Nat) (a0 : (Int × (Int × (Int × (Int × Unit))))) : fnK (impl_ValidDeed_cx k) 8 10 impl_ValidDeed_i impl_ValidDeed_sh [.pv (.pair (.int .i64) (.pair (.int .i64) (.pair (.int .i64) (.pair (.int .i64) .unit)))) a0] =
 ((bindO (impl_deedWord_r a0.1) fun (b1 : (List Int × Int)) => (cond (!(decide (b1.1 = [])))
 (bindO (impl_within_r a0.2.1 (0 : Int) (999 : Int)) fun (b2 : Bool) => (cond b2
 (bindO (impl_within_r a0.2.2.1 (0 : Int) (999 : Int)) fun (b3 : Bool) => (cond b3
 (bindO (impl_within_r a0.2.2.2.1 (0 : Int) (999 : Int)) fun (b4 : Bool) => (cond b4
 (cond (decide ((1 : Int) < b1.2))
 (cond (decide ((2 : Int) < b1.2))
 (some true)
 (some (decide (a0.2.2.2.1 = (0 : Int)))))
 (cond (decide (a0.2.2.1 = (0 : Int)))
 (cond (decide ((2 : Int) < b1.2))
 (some true)
 (some (decide (a0.2.2.2.1 = (0 : Int)))))
 (some false)))
 (some false)))
 (some false)))
 (some false)))
 (some false))) : Option (shDen impl_ValidDeed_sh)) := by kernel_rfl

theorem impl_ValidDeed_run (a0 : (Int × (Int × (Int × (Int × Unit))))) : fnK (impl_ValidDeed_cx FUEL) 8 10 impl_ValidDeed_i impl_ValidDeed_sh [.pv (.pair (.int .i64) (.pair (.int .i64) (.pair (.int .i64) (.pair (.int .i64) .unit)))) a0] = impl_ValidDeed_r a0 :=
 (impl_ValidDeed_start FUEL a0).trans (rfl)

noncomputable def impl_ValidDeed_con : Con := { ps := (.pair (.pair (.int .i64) (.pair (.int .i64) (.pair (.int .i64) (.pair (.int .i64) .unit)))) .unit), sh := impl_ValidDeed_sh, raw := fun x => impl_ValidDeed_r x.1 }
theorem impl_ValidDeed_conOk : ConOk Tryd.prog 10 impl_ValidDeed_con := con_of_fn (impl_ValidDeed_tabs FUEL) (depth := 8) impl_ValidDeed_ok fun x y h => (impl_ValidDeed_run x.1).trans h

noncomputable def impl_decimal_inls : List (Nat × Inl) := []
noncomputable def impl_decimal_cons : List (Nat × Con) := [(15, strconv_FormatInt_con)]
noncomputable def impl_decimal_taks : List (Nat × ConT) := []
noncomputable def impl_decimal_inps : List (Nat × ConI) := []
noncomputable def impl_decimal_cuts : List (Nat × List (Nat × Cut)) := []
noncomputable def impl_decimal_cx (k : Nat) : Cx := mkCx tys tbytes telem nozero (Ai.look impl_decimal_inls) (Ai.look impl_decimal_cons) (Ai.look impl_decimal_taks) (Ai.look impl_decimal_inps) (fun f id => match Ai.look impl_decimal_cuts f with | some l => Ai.look l id | none => none) k [] false
theorem impl_decimal_tabs (k : Nat) : TabsOk Tryd.prog (impl_decimal_cx k) := ⟨tab_mk tabs_ok _ _ _ _ _ _ _ _, look_all (Q := ConOk Tryd.prog) _ ⟨strconv_FormatInt_conOk, trivial⟩, look_all (Q := TakOk Tryd.prog) _ trivial, look_all (Q := InpOk Tryd.prog) _ trivial, look_all (Q := InlOk Tryd.prog) _ trivial, mixed_ok⟩
abbrev impl_decimal_sh : List Sh := [.pl .str]
noncomputable def impl_decimal_r (a0 : Int) : Option (shDen impl_decimal_sh) :=
 (bindO (strconv_FormatInt_r a0 (10 : Int)) fun (b1 : List Int) => (some b1))
theorem impl_decimal_start (k : Nat) (a0 : Int) : fnK (impl_decimal_cx k) 8 12 impl_decimal_i impl_decimal_sh [.pv (.int .i64) a0] =
 ((bindO (strconv_FormatInt_r a0 (10 : Int)) fun (b1 : List Int) => (some b1)) : Option (shDen impl_decimal_sh)) := by kernel_rfl

theorem impl_decimal_run (a0 : Int) : fnK (impl_decimal_cx FUEL) 8 12 impl_decimal_i impl_decimal_sh [.pv (.int .i64) a0] = impl_decimal_r a0 :=
 (impl_decimal_start FUEL a0).trans (rfl)

noncomputable def impl_decimal_con : Con := { ps := (.pair (.int .i64) .unit), sh := impl_decimal_sh, raw := fun x => impl_decimal_r x.1 }
theorem impl_decimal_conOk : ConOk Tryd.prog 12 impl_decimal_con := con_of_fn (impl_decimal_tabs FUEL) (depth := 8) impl_decimal_ok fun x y h => (impl_decimal_run x.1).trans h

noncomputable def impl_DeedText_l0_cut : Cut := { keep := [3, 24, 25, 26], stk := [], ids := [220], own := [], outs := [(1, [3], [])] }
noncomputable def impl_DeedText_inls : List (Nat × Inl) := []
noncomputable def impl_DeedText_cons : List (Nat × Con) := [(10, impl_ValidDeed_con), (11, impl_deedWord_con), (12, impl_decimal_con)]
noncomputable def impl_DeedText_taks : List (Nat × ConT) := []
noncomputable def impl_DeedText_inps : List (Nat × ConI) := []
noncomputable def impl_DeedText_cuts : List (Nat × List (Nat × Cut)) := [(6, [(0, impl_DeedText_l0_cut)])]
noncomputable def impl_DeedText_cx (k : Nat) : Cx := mkCx tys tbytes telem nozero (Ai.look impl_DeedText_inls) (Ai.look impl_DeedText_cons) (Ai.look impl_DeedText_taks) (Ai.look impl_DeedText_inps) (fun f id => match Ai.look impl_DeedText_cuts f with | some l => Ai.look l id | none => none) k [] false
theorem impl_DeedText_tabs (k : Nat) : TabsOk Tryd.prog (impl_DeedText_cx k) := ⟨tab_mk tabs_ok _ _ _ _ _ _ _ _, look_all (Q := ConOk Tryd.prog) _ ⟨impl_ValidDeed_conOk, impl_deedWord_conOk, impl_decimal_conOk, trivial⟩, look_all (Q := TakOk Tryd.prog) _ trivial, look_all (Q := InpOk Tryd.prog) _ trivial, look_all (Q := InlOk Tryd.prog) _ trivial, mixed_ok⟩
abbrev impl_DeedText_sh : List Sh := [.pl .str]
noncomputable def impl_DeedText_l0_s (a0 : (Int × (Int × (Int × (Int × Unit))))) (x3 : List Int) (x24v : Nat) (x25 : Int) (x26 : Int) : St := { env := [.dead, .dead, .dead, .pv .str x3, .dead, .dead, .dead, .dead, .dead, .dead, .dead, .dead, .dead, .dead, .dead, .dead, .dead, .dead, .dead, .dead, .dead, .dead, .dead, .dead, .vw 220 (.slice (.int .i64)) [] (.int .i64) 0 x24v, .pv (.int .i64) x25, .pv (.int .i64) x26, .dead, .dead, .dead, .dead, .dead, .dead, .dead, .dead, .dead, .dead], stk := [], heap := [(220, .arr 2 (.int .i64) [a0.2.1, a0.2.2.1, a0.2.2.2.1])] }
noncomputable def impl_DeedText_l0_o0 (x3 : List Int) : St := { env := [.dead, .dead, .dead, .pv .str x3, .dead, .dead, .dead, .dead, .dead, .dead, .dead, .dead, .dead, .dead, .dead, .dead, .dead, .dead, .dead, .dead, .dead, .dead, .dead, .dead, .dead, .dead, .dead, .dead, .dead, .dead, .dead, .dead, .dead, .dead, .dead, .dead, .dead], stk := [], heap := [] }
noncomputable def impl_DeedText_l0_b (rec : (List Int) → Nat → Int → Int → Option (shDen impl_DeedText_sh)) (ke0 : (List Int) → Option (shDen impl_DeedText_sh)) (a0 : (Int × (Int × (Int × (Int × Unit))))) (x3 : List Int) (x24v : Nat) (x25 : Int) (x26 : Int) : Option (shDen impl_DeedText_sh) :=
 (cond (decide (x26 < x25))
 (cond ((decide ((0 : Int) ≤ x26)) && (decide (x26 < ((x24v - 0 : Nat) : Int))))
 (bindO (impl_decimal_r ([a0.2.1, a0.2.2.1, a0.2.2.2.1].getD (0 + (x26.toNat)) (0 : Int))) fun (b4 : List Int) => (cond (decide ([(32 : Int)].length + b4.length ≤ 9223372036854775807))
 (cond (decide (x3.length + ([(32 : Int)] ++ b4).length ≤ 9223372036854775807))
 (rec (x3 ++ ([(32 : Int)] ++ b4)) x24v x25 (IntKind.wrap .i64 (x26 + (1 : Int))))
 none)
 none))
 none)
 (ke0 x3))
noncomputable def impl_DeedText_l0_L (ke0 : (List Int) → Option (shDen impl_DeedText_sh)) (a0 : (Int × (Int × (Int × (Int × Unit))))) : Nat → (List Int) → Nat → Int → Int → Option (shDen impl_DeedText_sh)
 | 0 => fun _ _ _ _ => none
 | n + 1 => impl_DeedText_l0_b (impl_DeedText_l0_L ke0 a0 n) ke0 a0
noncomputable def impl_DeedText_r (a0 : (Int × (Int × (Int × (Int × Unit))))) : Option (shDen impl_DeedText_sh) :=
 (bindO (impl_ValidDeed_r a0) fun (b1 : Bool) => (cond (!b1)
 (some [])
 (bindO (impl_deedWord_r a0.1) fun (b2 : (List Int × Int)) => (cond ((decide ((0 : Int) ≤ b2.2)) && (decide (b2.2 ≤ (3 : Int))))
 (impl_DeedText_l0_L (fun x3 => (some x3)) a0 FUEL b2.1 (b2.2.toNat) (((b2.2.toNat) - 0 : Nat) : Int) (0 : Int))
 none))))
theorem impl_DeedText_l0_round (k : Nat) (K : Ex → St → Option (shDen impl_DeedText_sh)) (n : Nat) (a0 : (Int × (Int × (Int × (Int × Unit))))) (x3 : List Int) (x24v : Nat) (x25 : Int) (x26 : Int) : (loopK (impl_DeedText_cx k) 0 (execK (impl_DeedText_cx k) (callK (impl_DeedText_cx k) 8) 0 6 (sub impl_DeedText_c [1, 1, 1, 0, 1, 0, 0])) impl_DeedText_l0_cut K (n + 1) (impl_DeedText_l0_s a0 x3 x24v x25 x26) : Option (shDen impl_DeedText_sh)) =
 ((cond (decide (x26 < x25))
 (cond ((decide ((0 : Int) ≤ x26)) && (decide (x26 < ((x24v - 0 : Nat) : Int))))
 (bindO (impl_decimal_r ([a0.2.1, a0.2.2.1, a0.2.2.2.1].getD (0 + (x26.toNat)) (0 : Int))) fun (b4 : List Int) => (cond (decide ([(32 : Int)].length + b4.length ≤ 9223372036854775807))
 (cond (decide (x3.length + ([(32 : Int)] ++ b4).length ≤ 9223372036854775807))
 (loopK (impl_DeedText_cx k) 0 (execK (impl_DeedText_cx k) (callK (impl_DeedText_cx k) 8) 0 6 (sub impl_DeedText_c [1, 1, 1, 0, 1, 0, 0])) impl_DeedText_l0_cut K n (impl_DeedText_l0_s a0 (x3 ++ ([(32 : Int)] ++ b4)) x24v x25 (IntKind.wrap .i64 (x26 + (1 : Int)))))
 none)
 none))
 none)
 (K (.exit 0) (impl_DeedText_l0_o0 x3))) : Option (shDen impl_DeedText_sh)) := by kernel_rfl

theorem impl_DeedText_l0_exit0 (k : Nat)  (x3 : List Int) : ((blkK 0 (seqK (execK (impl_DeedText_cx k) (callK (impl_DeedText_cx k) 8) 0 6 (sub impl_DeedText_c [1, 1, 1, 1])) (finK (impl_DeedText_cx k) impl_DeedText_i impl_DeedText_sh))) (.exit 0) (impl_DeedText_l0_o0 x3) : Option (shDen impl_DeedText_sh)) =
 ((some x3) : Option (shDen impl_DeedText_sh)) := by kernel_rfl

theorem impl_DeedText_l0_congr (ke0 : (List Int) → Option (shDen impl_DeedText_sh)) (ke0' : (List Int) → Option (shDen impl_DeedText_sh)) (a0 : (Int × (Int × (Int × (Int × Unit))))) (n : Nat) (x3 : List Int) (x24v : Nat) (x25 : Int) (x26 : Int) (hke0 : ∀ x3, ke0 x3 = ke0' x3) : impl_DeedText_l0_L ke0 a0 n x3 x24v x25 x26 = impl_DeedText_l0_L ke0' a0 n x3 x24v x25 x26 := by
 have : ke0 = ke0' := (by funext x3; exact hke0 x3); subst this; rfl

theorem impl_DeedText_l0_L_eq (K : Ex → St → Option (shDen impl_DeedText_sh)) (a0 : (Int × (Int × (Int × (Int × Unit))))) : ∀ (n : Nat) (x3 : List Int) (x24v : Nat) (x25 : Int) (x26 : Int), (loopK (impl_DeedText_cx FUEL) 0 (execK (impl_DeedText_cx FUEL) (callK (impl_DeedText_cx FUEL) 8) 0 6 (sub impl_DeedText_c [1, 1, 1, 0, 1, 0, 0])) impl_DeedText_l0_cut K n (impl_DeedText_l0_s a0 x3 x24v x25 x26) : Option (shDen impl_DeedText_sh)) = impl_DeedText_l0_L (fun x3 => K (.exit 0) (impl_DeedText_l0_o0 x3)) a0 n x3 x24v x25 x26 := by
 intro n
 induction n with
 | zero => intros; rfl
 | succ n ih =>
  intro x3 x24v x25 x26
  exact (impl_DeedText_l0_round FUEL K n a0 x3 x24v x25 x26).trans (condC (condC (bindC (fun b4 => condC (condC (ih (x3 ++ ([(32 : Int)] ++ b4)) x24v x25 (IntKind.wrap .i64 (x26 + (1 : Int)))) (rfl)) (rfl))) (rfl)) (rfl))

theorem impl_DeedText_start (k : Nat) (a0 : (Int × (Int × (Int × (Int × Unit))))) : fnK (impl_DeedText_cx k) 8 6 impl_DeedText_i impl_DeedText_sh [.pv (.pair (.int .i64) (.pair (.int .i64) (.pair (.int .i64) (.pair (.int .i64) .unit)))) a0] =
 ((bindO (impl_ValidDeed_r a0) fun (b1 : Bool) => (cond (!b1)
 (some [])
 (bindO (impl_deedWord_r a0.1) fun (b2 : (List Int × Int)) => (cond ((decide ((0 : Int) ≤ b2.2)) && (decide (b2.2 ≤ (3 : Int))))
 (loopK (impl_DeedText_cx k) 0 (execK (impl_DeedText_cx k) (callK (impl_DeedText_cx k) 8) 0 6 (sub impl_DeedText_c [1, 1, 1, 0, 1, 0, 0])) impl_DeedText_l0_cut (blkK 0 (seqK (execK (impl_DeedText_cx k) (callK (impl_DeedText_cx k) 8) 0 6 (sub impl_DeedText_c [1, 1, 1, 1])) (finK (impl_DeedText_cx k) impl_DeedText_i impl_DeedText_sh))) k (impl_DeedText_l0_s a0 b2.1 (b2.2.toNat) (((b2.2.toNat) - 0 : Nat) : Int) (0 : Int)))
 none)))) : Option (shDen impl_DeedText_sh)) := by kernel_rfl

theorem impl_DeedText_run (a0 : (Int × (Int × (Int × (Int × Unit))))) : fnK (impl_DeedText_cx FUEL) 8 6 impl_DeedText_i impl_DeedText_sh [.pv (.pair (.int .i64) (.pair (.int .i64) (.pair (.int .i64) (.pair (.int .i64) .unit)))) a0] = impl_DeedText_r a0 :=
 (impl_DeedText_start FUEL a0).trans (bindC (fun b1 => condC (rfl) (bindC (fun b2 => condC ((impl_DeedText_l0_L_eq _ a0 FUEL b2.1 (b2.2.toNat) (((b2.2.toNat) - 0 : Nat) : Int) (0 : Int)).trans (impl_DeedText_l0_congr _ _ a0 FUEL b2.1 (b2.2.toNat) (((b2.2.toNat) - 0 : Nat) : Int) (0 : Int) (fun x3 => (impl_DeedText_l0_exit0 FUEL  x3).trans (rfl)))) (rfl)))))

noncomputable def impl_DeedText_con : Con := { ps := (.pair (.pair (.int .i64) (.pair (.int .i64) (.pair (.int .i64) (.pair (.int .i64) .unit)))) .unit), sh := impl_DeedText_sh, raw := fun x => impl_DeedText_r x.1 }
theorem impl_DeedText_conOk : ConOk Tryd.prog 6 impl_DeedText_con := con_of_fn (impl_DeedText_tabs FUEL) (depth := 8) impl_DeedText_ok fun x y h => (impl_DeedText_run x.1).trans h

noncomputable def laws_FnExactDeedText_inls : List (Nat × Inl) := []
noncomputable def laws_FnExactDeedText_cons : List (Nat × Con) := [(4, spec_DeedText_con), (5, laws_toDeed_con), (6, impl_DeedText_con)]
noncomputable def laws_FnExactDeedText_taks : List (Nat × ConT) := []
noncomputable def laws_FnExactDeedText_inps : List (Nat × ConI) := []
noncomputable def laws_FnExactDeedText_cuts : List (Nat × List (Nat × Cut)) := []
noncomputable def laws_FnExactDeedText_cx (k : Nat) : Cx := mkCx tys tbytes telem nozero (Ai.look laws_FnExactDeedText_inls) (Ai.look laws_FnExactDeedText_cons) (Ai.look laws_FnExactDeedText_taks) (Ai.look laws_FnExactDeedText_inps) (fun f id => match Ai.look laws_FnExactDeedText_cuts f with | some l => Ai.look l id | none => none) k [] false
theorem laws_FnExactDeedText_tabs (k : Nat) : TabsOk Tryd.prog (laws_FnExactDeedText_cx k) := ⟨tab_mk tabs_ok _ _ _ _ _ _ _ _, look_all (Q := ConOk Tryd.prog) _ ⟨spec_DeedText_conOk, laws_toDeed_conOk, impl_DeedText_conOk, trivial⟩, look_all (Q := TakOk Tryd.prog) _ trivial, look_all (Q := InpOk Tryd.prog) _ trivial, look_all (Q := InlOk Tryd.prog) _ trivial, mixed_ok⟩
abbrev laws_FnExactDeedText_sh : List Sh := [.pl .bool]
noncomputable def laws_FnExactDeedText_r (a0 : (Int × (Int × (Int × (Int × Unit))))) : Option (shDen laws_FnExactDeedText_sh) :=
 (bindO (laws_toDeed_r a0) fun (b1 : (Int × (Int × (Int × (Int × Unit))))) => (bindO (spec_DeedText_r b1) fun (b2 : List Int) => (bindO (laws_toDeed_r a0) fun (b3 : (Int × (Int × (Int × (Int × Unit))))) => (bindO (impl_DeedText_r b3) fun (b4 : List Int) => (cond (!(decide (b4 = b2)))
 (some false)
 (some true))))))
theorem laws_FnExactDeedText_start (k : Nat) (a0 : (Int × (Int × (Int × (Int × Unit))))) : fnK (laws_FnExactDeedText_cx k) 8 3 laws_FnExactDeedText_i laws_FnExactDeedText_sh [.pv (.pair (.int .i64) (.pair (.int .i64) (.pair (.int .i64) (.pair (.int .i64) .unit)))) a0] =
 ((bindO (laws_toDeed_r a0) fun (b1 : (Int × (Int × (Int × (Int × Unit))))) => (bindO (spec_DeedText_r b1) fun (b2 : List Int) => (bindO (laws_toDeed_r a0) fun (b3 : (Int × (Int × (Int × (Int × Unit))))) => (bindO (impl_DeedText_r b3) fun (b4 : List Int) => (cond (!(decide (b4 = b2)))
 (some false)
 (some true)))))) : Option (shDen laws_FnExactDeedText_sh)) := by kernel_rfl

theorem laws_FnExactDeedText_run (a0 : (Int × (Int × (Int × (Int × Unit))))) : fnK (laws_FnExactDeedText_cx FUEL) 8 3 laws_FnExactDeedText_i laws_FnExactDeedText_sh [.pv (.pair (.int .i64) (.pair (.int .i64) (.pair (.int .i64) (.pair (.int .i64) .unit)))) a0] = laws_FnExactDeedText_r a0 :=
 (laws_FnExactDeedText_start FUEL a0).trans (rfl)

noncomputable def laws_FnExactDeedText_con : Con := { ps := (.pair (.pair (.int .i64) (.pair (.int .i64) (.pair (.int .i64) (.pair (.int .i64) .unit)))) .unit), sh := laws_FnExactDeedText_sh, raw := fun x => laws_FnExactDeedText_r x.1 }
theorem laws_FnExactDeedText_conOk : ConOk Tryd.prog 3 laws_FnExactDeedText_con := con_of_fn (laws_FnExactDeedText_tabs FUEL) (depth := 8) laws_FnExactDeedText_ok fun x y h => (laws_FnExactDeedText_run x.1).trans h

end Go.Ai.G
