/- Made by a program of this work out of the program: tables and plain functions, with the proof that each Go function does what its plain function says. No conditions. -/
import Derived.Test.YtnmkmlhllpifgaaExactValidDeedTab
namespace Go.Ai.G
open Go.Proofs
open Go.Ai
set_option linter.unusedVariables false
set_option linter.unusedSimpArgs false
set_option maxRecDepth 100000

noncomputable def laws_toDeed_inls : List (Nat × Inl) := []
noncomputable def laws_toDeed_cons : List (Nat × Con) := []
noncomputable def laws_toDeed_cuts : List (Nat × List (Nat × Cut)) := []
noncomputable def laws_toDeed_cx (k : Nat) : Cx := mkCx tys tbytes telem nozero (Ai.look laws_toDeed_inls) (Ai.look laws_toDeed_cons) (fun f id => match Ai.look laws_toDeed_cuts f with | some l => Ai.look l id | none => none) k
theorem laws_toDeed_tabs (k : Nat) : TabsOk Try.prog (laws_toDeed_cx k) := ⟨tab_mk tabs_ok _ _ _ _, look_all (Q := ConOk Try.prog) _ trivial, look_all (Q := InlOk Try.prog) _ trivial, mixed_ok⟩
abbrev laws_toDeed_sh : List Sh := [.pl (.pair (.int .i64) (.pair (.int .i64) (.pair (.int .i64) (.pair (.int .i64) .unit))))]
noncomputable def laws_toDeed_r (a0 : (Int × (Int × (Int × (Int × Unit))))) : Option (shDen laws_toDeed_sh) :=
 (some (a0.1, (a0.2.1, (a0.2.2.1, (a0.2.2.2.1, ())))))
theorem laws_toDeed_start (k : Nat) (a0 : (Int × (Int × (Int × (Int × Unit))))) : fnK (laws_toDeed_cx k) 8 9 laws_toDeed_i laws_toDeed_sh [.pv (.pair (.int .i64) (.pair (.int .i64) (.pair (.int .i64) (.pair (.int .i64) .unit)))) a0] =
 ((some (a0.1, (a0.2.1, (a0.2.2.1, (a0.2.2.2.1, ()))))) : Option (shDen laws_toDeed_sh)) := by kernel_rfl

theorem laws_toDeed_run (a0 : (Int × (Int × (Int × (Int × Unit))))) : fnK (laws_toDeed_cx FUEL) 8 9 laws_toDeed_i laws_toDeed_sh [.pv (.pair (.int .i64) (.pair (.int .i64) (.pair (.int .i64) (.pair (.int .i64) .unit)))) a0] = laws_toDeed_r a0 :=
 (laws_toDeed_start FUEL a0).trans (rfl)

noncomputable def laws_toDeed_con : Con := { ps := (.pair (.pair (.int .i64) (.pair (.int .i64) (.pair (.int .i64) (.pair (.int .i64) .unit)))) .unit), sh := laws_toDeed_sh, raw := fun x => laws_toDeed_r x.1 }
theorem laws_toDeed_conOk : ConOk Try.prog 9 laws_toDeed_con := con_of_fn (laws_toDeed_tabs FUEL) (depth := 8) laws_toDeed_ok fun x y h => (laws_toDeed_run x.1).trans h

noncomputable def spec_l00In_inls : List (Nat × Inl) := []
noncomputable def spec_l00In_cons : List (Nat × Con) := []
noncomputable def spec_l00In_cuts : List (Nat × List (Nat × Cut)) := []
noncomputable def spec_l00In_cx (k : Nat) : Cx := mkCx tys tbytes telem nozero (Ai.look spec_l00In_inls) (Ai.look spec_l00In_cons) (fun f id => match Ai.look spec_l00In_cuts f with | some l => Ai.look l id | none => none) k
theorem spec_l00In_tabs (k : Nat) : TabsOk Try.prog (spec_l00In_cx k) := ⟨tab_mk tabs_ok _ _ _ _, look_all (Q := ConOk Try.prog) _ trivial, look_all (Q := InlOk Try.prog) _ trivial, mixed_ok⟩
abbrev spec_l00In_sh : List Sh := [.pl .bool]
noncomputable def spec_l00In_r (a0 : Int) (a1 : Int) (a2 : Int) : Option (shDen spec_l00In_sh) :=
 (cond (decide (a1 ≤ a0))
 (some (decide (a0 ≤ a2)))
 (some false))
theorem spec_l00In_start (k : Nat) (a0 : Int) (a1 : Int) (a2 : Int) : fnK (spec_l00In_cx k) 8 49 spec_l00In_i spec_l00In_sh [.pv (.int .i64) a0, .pv (.int .i64) a1, .pv (.int .i64) a2] =
 ((cond (decide (a1 ≤ a0))
 (some (decide (a0 ≤ a2)))
 (some false)) : Option (shDen spec_l00In_sh)) := by kernel_rfl

theorem spec_l00In_run (a0 : Int) (a1 : Int) (a2 : Int) : fnK (spec_l00In_cx FUEL) 8 49 spec_l00In_i spec_l00In_sh [.pv (.int .i64) a0, .pv (.int .i64) a1, .pv (.int .i64) a2] = spec_l00In_r a0 a1 a2 :=
 (spec_l00In_start FUEL a0 a1 a2).trans (rfl)

noncomputable def spec_l00In_con : Con := { ps := (.pair (.int .i64) (.pair (.int .i64) (.pair (.int .i64) .unit))), sh := spec_l00In_sh, raw := fun x => spec_l00In_r x.1 x.2.1 x.2.2.1 }
theorem spec_l00In_conOk : ConOk Try.prog 49 spec_l00In_con := con_of_fn (spec_l00In_tabs FUEL) (depth := 8) spec_l00In_ok fun x y h => (spec_l00In_run x.1 x.2.1 x.2.2.1).trans h

noncomputable def spec_l09Words_inls : List (Nat × Inl) := []
noncomputable def spec_l09Words_cons : List (Nat × Con) := []
noncomputable def spec_l09Words_cuts : List (Nat × List (Nat × Cut)) := []
noncomputable def spec_l09Words_cx (k : Nat) : Cx := mkCx tys tbytes telem nozero (Ai.look spec_l09Words_inls) (Ai.look spec_l09Words_cons) (fun f id => match Ai.look spec_l09Words_cuts f with | some l => Ai.look l id | none => none) k
theorem spec_l09Words_tabs (k : Nat) : TabsOk Try.prog (spec_l09Words_cx k) := ⟨tab_mk tabs_ok _ _ _ _, look_all (Q := ConOk Try.prog) _ trivial, look_all (Q := InlOk Try.prog) _ trivial, mixed_ok⟩
abbrev spec_l09Words_sh : List Sh := [.own 9 .str, .pl (.slice (.int .i64))]
noncomputable def spec_l09Words_r  : Option (shDen spec_l09Words_sh) :=
 (some ([[], [(119 : Int), (114 : Int), (105 : Int), (116 : Int), (101 : Int)], [(115 : Int), (101 : Int), (110 : Int), (100 : Int)], [(100 : Int), (101 : Int), (108 : Int), (105 : Int), (118 : Int), (101 : Int), (114 : Int)], [(99 : Int), (111 : Int), (112 : Int), (121 : Int)], [(100 : Int), (114 : Int), (111 : Int), (112 : Int)], [(109 : Int), (101 : Int), (114 : Int), (103 : Int), (101 : Int)], [(115 : Int), (97 : Int), (118 : Int), (101 : Int)], [(99 : Int), (114 : Int), (97 : Int), (115 : Int), (104 : Int)]], [(0 : Int), (1 : Int), (3 : Int), (1 : Int), (1 : Int), (1 : Int), (2 : Int), (1 : Int), (1 : Int)]))
theorem spec_l09Words_start (k : Nat)  : fnK (spec_l09Words_cx k) 8 52 spec_l09Words_i spec_l09Words_sh [] =
 ((some ([[], [(119 : Int), (114 : Int), (105 : Int), (116 : Int), (101 : Int)], [(115 : Int), (101 : Int), (110 : Int), (100 : Int)], [(100 : Int), (101 : Int), (108 : Int), (105 : Int), (118 : Int), (101 : Int), (114 : Int)], [(99 : Int), (111 : Int), (112 : Int), (121 : Int)], [(100 : Int), (114 : Int), (111 : Int), (112 : Int)], [(109 : Int), (101 : Int), (114 : Int), (103 : Int), (101 : Int)], [(115 : Int), (97 : Int), (118 : Int), (101 : Int)], [(99 : Int), (114 : Int), (97 : Int), (115 : Int), (104 : Int)]], [(0 : Int), (1 : Int), (3 : Int), (1 : Int), (1 : Int), (1 : Int), (2 : Int), (1 : Int), (1 : Int)])) : Option (shDen spec_l09Words_sh)) := by kernel_rfl

theorem spec_l09Words_run  : fnK (spec_l09Words_cx FUEL) 8 52 spec_l09Words_i spec_l09Words_sh [] = spec_l09Words_r  :=
 (spec_l09Words_start FUEL ).trans (rfl)

noncomputable def spec_l09Words_con : Con := { ps := .unit, sh := spec_l09Words_sh, raw := fun x => spec_l09Words_r  }
theorem spec_l09Words_conOk : ConOk Try.prog 52 spec_l09Words_con := con_of_fn (spec_l09Words_tabs FUEL) (depth := 8) spec_l09Words_ok fun x y h => (spec_l09Words_run ).trans h

noncomputable def spec_l09Deed_inls : List (Nat × Inl) := []
noncomputable def spec_l09Deed_cons : List (Nat × Con) := [(49, spec_l00In_con), (52, spec_l09Words_con)]
noncomputable def spec_l09Deed_cuts : List (Nat × List (Nat × Cut)) := []
noncomputable def spec_l09Deed_cx (k : Nat) : Cx := mkCx tys tbytes telem nozero (Ai.look spec_l09Deed_inls) (Ai.look spec_l09Deed_cons) (fun f id => match Ai.look spec_l09Deed_cuts f with | some l => Ai.look l id | none => none) k
theorem spec_l09Deed_tabs (k : Nat) : TabsOk Try.prog (spec_l09Deed_cx k) := ⟨tab_mk tabs_ok _ _ _ _, look_all (Q := ConOk Try.prog) _ ⟨spec_l00In_conOk, spec_l09Words_conOk, trivial⟩, look_all (Q := InlOk Try.prog) _ trivial, mixed_ok⟩
abbrev spec_l09Deed_sh : List Sh := [.pl .bool]
noncomputable def spec_l09Deed_r (a0 : (Int × (Int × (Int × (Int × Unit))))) : Option (shDen spec_l09Deed_sh) :=
 (bindO (spec_l00In_r a0.1 (1 : Int) (8 : Int)) fun (b1 : Bool) => (cond (!b1)
 (some false)
 (bindO (spec_l00In_r a0.2.1 (0 : Int) (999 : Int)) fun (b2 : Bool) => (cond (!b2)
 (some false)
 (bindO (spec_l00In_r a0.2.2.1 (0 : Int) (999 : Int)) fun (b3 : Bool) => (cond (!b3)
 (some false)
 (bindO (spec_l00In_r a0.2.2.2.1 (0 : Int) (999 : Int)) fun (b4 : Bool) => (cond (!b4)
 (some false)
 (bindO (spec_l09Words_r) fun (b5 : ((List (List Int)) × (List Int))) => (cond ((decide ((0 : Int) ≤ a0.1)) && (decide (a0.1 < (b5.2.length : Int))))
 (cond (decide ((1 : Int) < (b5.2.getD (a0.1.toNat) (0 : Int))))
 (cond ((decide ((0 : Int) ≤ a0.1)) && (decide (a0.1 < (b5.2.length : Int))))
 (cond (decide ((2 : Int) < (b5.2.getD (a0.1.toNat) (0 : Int))))
 (some true)
 (some (decide (a0.2.2.2.1 = (0 : Int)))))
 none)
 (cond (decide (a0.2.2.1 = (0 : Int)))
 (cond ((decide ((0 : Int) ≤ a0.1)) && (decide (a0.1 < (b5.2.length : Int))))
 (cond (decide ((2 : Int) < (b5.2.getD (a0.1.toNat) (0 : Int))))
 (some true)
 (some (decide (a0.2.2.2.1 = (0 : Int)))))
 none)
 (some false)))
 none))))))))))
theorem spec_l09Deed_start (k : Nat) (a0 : (Int × (Int × (Int × (Int × Unit))))) : fnK (spec_l09Deed_cx k) 8 28 spec_l09Deed_i spec_l09Deed_sh [.pv (.pair (.int .i64) (.pair (.int .i64) (.pair (.int .i64) (.pair (.int .i64) .unit)))) a0] =
 ((bindO (spec_l00In_r a0.1 (1 : Int) (8 : Int)) fun (b1 : Bool) => (cond (!b1)
 (some false)
 (bindO (spec_l00In_r a0.2.1 (0 : Int) (999 : Int)) fun (b2 : Bool) => (cond (!b2)
 (some false)
 (bindO (spec_l00In_r a0.2.2.1 (0 : Int) (999 : Int)) fun (b3 : Bool) => (cond (!b3)
 (some false)
 (bindO (spec_l00In_r a0.2.2.2.1 (0 : Int) (999 : Int)) fun (b4 : Bool) => (cond (!b4)
 (some false)
 (bindO (spec_l09Words_r) fun (b5 : ((List (List Int)) × (List Int))) => (cond ((decide ((0 : Int) ≤ a0.1)) && (decide (a0.1 < (b5.2.length : Int))))
 (cond (decide ((1 : Int) < (b5.2.getD (a0.1.toNat) (0 : Int))))
 (cond ((decide ((0 : Int) ≤ a0.1)) && (decide (a0.1 < (b5.2.length : Int))))
 (cond (decide ((2 : Int) < (b5.2.getD (a0.1.toNat) (0 : Int))))
 (some true)
 (some (decide (a0.2.2.2.1 = (0 : Int)))))
 none)
 (cond (decide (a0.2.2.1 = (0 : Int)))
 (cond ((decide ((0 : Int) ≤ a0.1)) && (decide (a0.1 < (b5.2.length : Int))))
 (cond (decide ((2 : Int) < (b5.2.getD (a0.1.toNat) (0 : Int))))
 (some true)
 (some (decide (a0.2.2.2.1 = (0 : Int)))))
 none)
 (some false)))
 none)))))))))) : Option (shDen spec_l09Deed_sh)) := by kernel_rfl

theorem spec_l09Deed_run (a0 : (Int × (Int × (Int × (Int × Unit))))) : fnK (spec_l09Deed_cx FUEL) 8 28 spec_l09Deed_i spec_l09Deed_sh [.pv (.pair (.int .i64) (.pair (.int .i64) (.pair (.int .i64) (.pair (.int .i64) .unit)))) a0] = spec_l09Deed_r a0 :=
 (spec_l09Deed_start FUEL a0).trans (rfl)

noncomputable def spec_l09Deed_con : Con := { ps := (.pair (.pair (.int .i64) (.pair (.int .i64) (.pair (.int .i64) (.pair (.int .i64) .unit)))) .unit), sh := spec_l09Deed_sh, raw := fun x => spec_l09Deed_r x.1 }
theorem spec_l09Deed_conOk : ConOk Try.prog 28 spec_l09Deed_con := con_of_fn (spec_l09Deed_tabs FUEL) (depth := 8) spec_l09Deed_ok fun x y h => (spec_l09Deed_run x.1).trans h

noncomputable def spec_ValidDeed_inls : List (Nat × Inl) := []
noncomputable def spec_ValidDeed_cons : List (Nat × Con) := [(28, spec_l09Deed_con)]
noncomputable def spec_ValidDeed_cuts : List (Nat × List (Nat × Cut)) := []
noncomputable def spec_ValidDeed_cx (k : Nat) : Cx := mkCx tys tbytes telem nozero (Ai.look spec_ValidDeed_inls) (Ai.look spec_ValidDeed_cons) (fun f id => match Ai.look spec_ValidDeed_cuts f with | some l => Ai.look l id | none => none) k
theorem spec_ValidDeed_tabs (k : Nat) : TabsOk Try.prog (spec_ValidDeed_cx k) := ⟨tab_mk tabs_ok _ _ _ _, look_all (Q := ConOk Try.prog) _ ⟨spec_l09Deed_conOk, trivial⟩, look_all (Q := InlOk Try.prog) _ trivial, mixed_ok⟩
abbrev spec_ValidDeed_sh : List Sh := [.pl .bool]
noncomputable def spec_ValidDeed_r (a0 : (Int × (Int × (Int × (Int × Unit))))) : Option (shDen spec_ValidDeed_sh) :=
 (bindO (spec_l09Deed_r a0) fun (b1 : Bool) => (some b1))
theorem spec_ValidDeed_start (k : Nat) (a0 : (Int × (Int × (Int × (Int × Unit))))) : fnK (spec_ValidDeed_cx k) 8 8 spec_ValidDeed_i spec_ValidDeed_sh [.pv (.pair (.int .i64) (.pair (.int .i64) (.pair (.int .i64) (.pair (.int .i64) .unit)))) a0] =
 ((bindO (spec_l09Deed_r a0) fun (b1 : Bool) => (some b1)) : Option (shDen spec_ValidDeed_sh)) := by kernel_rfl

theorem spec_ValidDeed_run (a0 : (Int × (Int × (Int × (Int × Unit))))) : fnK (spec_ValidDeed_cx FUEL) 8 8 spec_ValidDeed_i spec_ValidDeed_sh [.pv (.pair (.int .i64) (.pair (.int .i64) (.pair (.int .i64) (.pair (.int .i64) .unit)))) a0] = spec_ValidDeed_r a0 :=
 (spec_ValidDeed_start FUEL a0).trans (rfl)

noncomputable def spec_ValidDeed_con : Con := { ps := (.pair (.pair (.int .i64) (.pair (.int .i64) (.pair (.int .i64) (.pair (.int .i64) .unit)))) .unit), sh := spec_ValidDeed_sh, raw := fun x => spec_ValidDeed_r x.1 }
theorem spec_ValidDeed_conOk : ConOk Try.prog 8 spec_ValidDeed_con := con_of_fn (spec_ValidDeed_tabs FUEL) (depth := 8) spec_ValidDeed_ok fun x y h => (spec_ValidDeed_run x.1).trans h

noncomputable def impl_deedWord_inls : List (Nat × Inl) := []
noncomputable def impl_deedWord_cons : List (Nat × Con) := []
noncomputable def impl_deedWord_cuts : List (Nat × List (Nat × Cut)) := []
noncomputable def impl_deedWord_cx (k : Nat) : Cx := mkCx tys tbytes telem nozero (Ai.look impl_deedWord_inls) (Ai.look impl_deedWord_cons) (fun f id => match Ai.look impl_deedWord_cuts f with | some l => Ai.look l id | none => none) k
theorem impl_deedWord_tabs (k : Nat) : TabsOk Try.prog (impl_deedWord_cx k) := ⟨tab_mk tabs_ok _ _ _ _, look_all (Q := ConOk Try.prog) _ trivial, look_all (Q := InlOk Try.prog) _ trivial, mixed_ok⟩
abbrev impl_deedWord_sh : List Sh := [.pl .str, .pl (.int .i64)]
noncomputable def impl_deedWord_r (a0 : Int) : Option (shDen impl_deedWord_sh) :=
 (cond (decide (a0 = (1 : Int)))
 (some ([(119 : Int), (114 : Int), (105 : Int), (116 : Int), (101 : Int)], (1 : Int)))
 (cond (decide (a0 = (2 : Int)))
 (some ([(115 : Int), (101 : Int), (110 : Int), (100 : Int)], (3 : Int)))
 (cond (decide (a0 = (3 : Int)))
 (some ([(100 : Int), (101 : Int), (108 : Int), (105 : Int), (118 : Int), (101 : Int), (114 : Int)], (1 : Int)))
 (cond (decide (a0 = (4 : Int)))
 (some ([(99 : Int), (111 : Int), (112 : Int), (121 : Int)], (1 : Int)))
 (cond (decide (a0 = (5 : Int)))
 (some ([(100 : Int), (114 : Int), (111 : Int), (112 : Int)], (1 : Int)))
 (cond (decide (a0 = (6 : Int)))
 (some ([(109 : Int), (101 : Int), (114 : Int), (103 : Int), (101 : Int)], (2 : Int)))
 (cond (decide (a0 = (7 : Int)))
 (some ([(115 : Int), (97 : Int), (118 : Int), (101 : Int)], (1 : Int)))
 (cond (decide (a0 = (8 : Int)))
 (some ([(99 : Int), (114 : Int), (97 : Int), (115 : Int), (104 : Int)], (1 : Int)))
 (some ([], (0 : Int)))))))))))
theorem impl_deedWord_start (k : Nat) (a0 : Int) : fnK (impl_deedWord_cx k) 8 29 impl_deedWord_i impl_deedWord_sh [.pv (.int .i64) a0] =
 ((cond (decide (a0 = (1 : Int)))
 (some ([(119 : Int), (114 : Int), (105 : Int), (116 : Int), (101 : Int)], (1 : Int)))
 (cond (decide (a0 = (2 : Int)))
 (some ([(115 : Int), (101 : Int), (110 : Int), (100 : Int)], (3 : Int)))
 (cond (decide (a0 = (3 : Int)))
 (some ([(100 : Int), (101 : Int), (108 : Int), (105 : Int), (118 : Int), (101 : Int), (114 : Int)], (1 : Int)))
 (cond (decide (a0 = (4 : Int)))
 (some ([(99 : Int), (111 : Int), (112 : Int), (121 : Int)], (1 : Int)))
 (cond (decide (a0 = (5 : Int)))
 (some ([(100 : Int), (114 : Int), (111 : Int), (112 : Int)], (1 : Int)))
 (cond (decide (a0 = (6 : Int)))
 (some ([(109 : Int), (101 : Int), (114 : Int), (103 : Int), (101 : Int)], (2 : Int)))
 (cond (decide (a0 = (7 : Int)))
 (some ([(115 : Int), (97 : Int), (118 : Int), (101 : Int)], (1 : Int)))
 (cond (decide (a0 = (8 : Int)))
 (some ([(99 : Int), (114 : Int), (97 : Int), (115 : Int), (104 : Int)], (1 : Int)))
 (some ([], (0 : Int))))))))))) : Option (shDen impl_deedWord_sh)) := by kernel_rfl

theorem impl_deedWord_run (a0 : Int) : fnK (impl_deedWord_cx FUEL) 8 29 impl_deedWord_i impl_deedWord_sh [.pv (.int .i64) a0] = impl_deedWord_r a0 :=
 (impl_deedWord_start FUEL a0).trans (rfl)

noncomputable def impl_deedWord_con : Con := { ps := (.pair (.int .i64) .unit), sh := impl_deedWord_sh, raw := fun x => impl_deedWord_r x.1 }
theorem impl_deedWord_conOk : ConOk Try.prog 29 impl_deedWord_con := con_of_fn (impl_deedWord_tabs FUEL) (depth := 8) impl_deedWord_ok fun x y h => (impl_deedWord_run x.1).trans h

noncomputable def impl_within_inls : List (Nat × Inl) := []
noncomputable def impl_within_cons : List (Nat × Con) := []
noncomputable def impl_within_cuts : List (Nat × List (Nat × Cut)) := []
noncomputable def impl_within_cx (k : Nat) : Cx := mkCx tys tbytes telem nozero (Ai.look impl_within_inls) (Ai.look impl_within_cons) (fun f id => match Ai.look impl_within_cuts f with | some l => Ai.look l id | none => none) k
theorem impl_within_tabs (k : Nat) : TabsOk Try.prog (impl_within_cx k) := ⟨tab_mk tabs_ok _ _ _ _, look_all (Q := ConOk Try.prog) _ trivial, look_all (Q := InlOk Try.prog) _ trivial, mixed_ok⟩
abbrev impl_within_sh : List Sh := [.pl .bool]
noncomputable def impl_within_r (a0 : Int) (a1 : Int) (a2 : Int) : Option (shDen impl_within_sh) :=
 (cond (decide (a1 ≤ a0))
 (some (decide (a0 ≤ a2)))
 (some false))
theorem impl_within_start (k : Nat) (a0 : Int) (a1 : Int) (a2 : Int) : fnK (impl_within_cx k) 8 30 impl_within_i impl_within_sh [.pv (.int .i64) a0, .pv (.int .i64) a1, .pv (.int .i64) a2] =
 ((cond (decide (a1 ≤ a0))
 (some (decide (a0 ≤ a2)))
 (some false)) : Option (shDen impl_within_sh)) := by kernel_rfl

theorem impl_within_run (a0 : Int) (a1 : Int) (a2 : Int) : fnK (impl_within_cx FUEL) 8 30 impl_within_i impl_within_sh [.pv (.int .i64) a0, .pv (.int .i64) a1, .pv (.int .i64) a2] = impl_within_r a0 a1 a2 :=
 (impl_within_start FUEL a0 a1 a2).trans (rfl)

noncomputable def impl_within_con : Con := { ps := (.pair (.int .i64) (.pair (.int .i64) (.pair (.int .i64) .unit))), sh := impl_within_sh, raw := fun x => impl_within_r x.1 x.2.1 x.2.2.1 }
theorem impl_within_conOk : ConOk Try.prog 30 impl_within_con := con_of_fn (impl_within_tabs FUEL) (depth := 8) impl_within_ok fun x y h => (impl_within_run x.1 x.2.1 x.2.2.1).trans h

noncomputable def impl_ValidDeed_inls : List (Nat × Inl) := []
noncomputable def impl_ValidDeed_cons : List (Nat × Con) := [(29, impl_deedWord_con), (30, impl_within_con)]
noncomputable def impl_ValidDeed_cuts : List (Nat × List (Nat × Cut)) := []
noncomputable def impl_ValidDeed_cx (k : Nat) : Cx := mkCx tys tbytes telem nozero (Ai.look impl_ValidDeed_inls) (Ai.look impl_ValidDeed_cons) (fun f id => match Ai.look impl_ValidDeed_cuts f with | some l => Ai.look l id | none => none) k
theorem impl_ValidDeed_tabs (k : Nat) : TabsOk Try.prog (impl_ValidDeed_cx k) := ⟨tab_mk tabs_ok _ _ _ _, look_all (Q := ConOk Try.prog) _ ⟨impl_deedWord_conOk, impl_within_conOk, trivial⟩, look_all (Q := InlOk Try.prog) _ trivial, mixed_ok⟩
abbrev impl_ValidDeed_sh : List Sh := [.pl .bool]
noncomputable def impl_ValidDeed_r (a0 : (Int × (Int × (Int × (Int × Unit))))) : Option (shDen impl_ValidDeed_sh) :=
 (bindO (impl_deedWord_r a0.1) fun (b1 : (List Int × Int)) => (cond (!(decide (b1.1 = [])))
 (bindO (impl_within_r a0.2.1 (0 : Int) (999 : Int)) fun (b2 : Bool) => (cond b2
 (bindO (impl_within_r a0.2.2.1 (0 : Int) (999 : Int)) fun (b3 : Bool) => (cond b3
 (bindO (impl_within_r a0.2.2.2.1 (0 : Int) (999 : Int)) fun (b4 : Bool) => (cond b4
 (cond (decide ((1 : Int) < b1.2))
 (cond (decide ((2 : Int) < b1.2))
 (some true)
 (some (decide (a0.2.2.2.1 = (0 : Int)))))
 (cond (decide (a0.2.2.1 = (0 : Int)))
 (cond (decide ((2 : Int) < b1.2))
 (some true)
 (some (decide (a0.2.2.2.1 = (0 : Int)))))
 (some false)))
 (some false)))
 (some false)))
 (some false)))
 (some false)))
theorem impl_ValidDeed_start (k : Nat) (a0 : (Int × (Int × (Int × (Int × Unit))))) : fnK (impl_ValidDeed_cx k) 8 10 impl_ValidDeed_i impl_ValidDeed_sh [.pv (.pair (.int .i64) (.pair (.int .i64) (.pair (.int .i64) (.pair (.int .i64) .unit)))) a0] =
 ((bindO (impl_deedWord_r a0.1) fun (b1 : (List Int × Int)) => (cond (!(decide (b1.1 = [])))
 (bindO (impl_within_r a0.2.1 (0 : Int) (999 : Int)) fun (b2 : Bool) => (cond b2
 (bindO (impl_within_r a0.2.2.1 (0 : Int) (999 : Int)) fun (b3 : Bool) => (cond b3
 (bindO (impl_within_r a0.2.2.2.1 (0 : Int) (999 : Int)) fun (b4 : Bool) => (cond b4
 (cond (decide ((1 : Int) < b1.2))
 (cond (decide ((2 : Int) < b1.2))
 (some true)
 (some (decide (a0.2.2.2.1 = (0 : Int)))))
 (cond (decide (a0.2.2.1 = (0 : Int)))
 (cond (decide ((2 : Int) < b1.2))
 (some true)
 (some (decide (a0.2.2.2.1 = (0 : Int)))))
 (some false)))
 (some false)))
 (some false)))
 (some false)))
 (some false))) : Option (shDen impl_ValidDeed_sh)) := by kernel_rfl

theorem impl_ValidDeed_run (a0 : (Int × (Int × (Int × (Int × Unit))))) : fnK (impl_ValidDeed_cx FUEL) 8 10 impl_ValidDeed_i impl_ValidDeed_sh [.pv (.pair (.int .i64) (.pair (.int .i64) (.pair (.int .i64) (.pair (.int .i64) .unit)))) a0] = impl_ValidDeed_r a0 :=
 (impl_ValidDeed_start FUEL a0).trans (rfl)

noncomputable def impl_ValidDeed_con : Con := { ps := (.pair (.pair (.int .i64) (.pair (.int .i64) (.pair (.int .i64) (.pair (.int .i64) .unit)))) .unit), sh := impl_ValidDeed_sh, raw := fun x => impl_ValidDeed_r x.1 }
theorem impl_ValidDeed_conOk : ConOk Try.prog 10 impl_ValidDeed_con := con_of_fn (impl_ValidDeed_tabs FUEL) (depth := 8) impl_ValidDeed_ok fun x y h => (impl_ValidDeed_run x.1).trans h

noncomputable def laws_FnExactValidDeed_inls : List (Nat × Inl) := []
noncomputable def laws_FnExactValidDeed_cons : List (Nat × Con) := [(8, spec_ValidDeed_con), (9, laws_toDeed_con), (10, impl_ValidDeed_con)]
noncomputable def laws_FnExactValidDeed_cuts : List (Nat × List (Nat × Cut)) := []
noncomputable def laws_FnExactValidDeed_cx (k : Nat) : Cx := mkCx tys tbytes telem nozero (Ai.look laws_FnExactValidDeed_inls) (Ai.look laws_FnExactValidDeed_cons) (fun f id => match Ai.look laws_FnExactValidDeed_cuts f with | some l => Ai.look l id | none => none) k
theorem laws_FnExactValidDeed_tabs (k : Nat) : TabsOk Try.prog (laws_FnExactValidDeed_cx k) := ⟨tab_mk tabs_ok _ _ _ _, look_all (Q := ConOk Try.prog) _ ⟨spec_ValidDeed_conOk, laws_toDeed_conOk, impl_ValidDeed_conOk, trivial⟩, look_all (Q := InlOk Try.prog) _ trivial, mixed_ok⟩
abbrev laws_FnExactValidDeed_sh : List Sh := [.pl .bool]
noncomputable def laws_FnExactValidDeed_r (a0 : (Int × (Int × (Int × (Int × Unit))))) : Option (shDen laws_FnExactValidDeed_sh) :=
 (bindO (laws_toDeed_r a0) fun (b1 : (Int × (Int × (Int × (Int × Unit))))) => (bindO (spec_ValidDeed_r b1) fun (b2 : Bool) => (bindO (laws_toDeed_r a0) fun (b3 : (Int × (Int × (Int × (Int × Unit))))) => (bindO (impl_ValidDeed_r b3) fun (b4 : Bool) => (cond (!(decide (b4 = b2)))
 (some false)
 (some true))))))
theorem laws_FnExactValidDeed_start (k : Nat) (a0 : (Int × (Int × (Int × (Int × Unit))))) : fnK (laws_FnExactValidDeed_cx k) 8 3 laws_FnExactValidDeed_i laws_FnExactValidDeed_sh [.pv (.pair (.int .i64) (.pair (.int .i64) (.pair (.int .i64) (.pair (.int .i64) .unit)))) a0] =
 ((bindO (laws_toDeed_r a0) fun (b1 : (Int × (Int × (Int × (Int × Unit))))) => (bindO (spec_ValidDeed_r b1) fun (b2 : Bool) => (bindO (laws_toDeed_r a0) fun (b3 : (Int × (Int × (Int × (Int × Unit))))) => (bindO (impl_ValidDeed_r b3) fun (b4 : Bool) => (cond (!(decide (b4 = b2)))
 (some false)
 (some true)))))) : Option (shDen laws_FnExactValidDeed_sh)) := by kernel_rfl

theorem laws_FnExactValidDeed_run (a0 : (Int × (Int × (Int × (Int × Unit))))) : fnK (laws_FnExactValidDeed_cx FUEL) 8 3 laws_FnExactValidDeed_i laws_FnExactValidDeed_sh [.pv (.pair (.int .i64) (.pair (.int .i64) (.pair (.int .i64) (.pair (.int .i64) .unit)))) a0] = laws_FnExactValidDeed_r a0 :=
 (laws_FnExactValidDeed_start FUEL a0).trans (rfl)

noncomputable def laws_FnExactValidDeed_con : Con := { ps := (.pair (.pair (.int .i64) (.pair (.int .i64) (.pair (.int .i64) (.pair (.int .i64) .unit)))) .unit), sh := laws_FnExactValidDeed_sh, raw := fun x => laws_FnExactValidDeed_r x.1 }
theorem laws_FnExactValidDeed_conOk : ConOk Try.prog 3 laws_FnExactValidDeed_con := con_of_fn (laws_FnExactValidDeed_tabs FUEL) (depth := 8) laws_FnExactValidDeed_ok fun x y h => (laws_FnExactValidDeed_run x.1).trans h

end Go.Ai.G
