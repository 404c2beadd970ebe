/- Made by a program of this work out of the program: tables and plain functions, with the proof that each Go function does what its plain function says. No conditions. -/
import Derived.Test.YtafhfllnkijfhabExactRecipeOfTab
namespace Go.Ai.G
open Go.Proofs
open Go.Ai
set_option linter.unusedVariables false
set_option linter.unusedSimpArgs false
set_option maxRecDepth 100000

noncomputable def laws_toCutRule_inls : List (Nat × Inl) := []
noncomputable def laws_toCutRule_cons : List (Nat × Con) := []
noncomputable def laws_toCutRule_taks : List (Nat × ConT) := []
noncomputable def laws_toCutRule_inps : List (Nat × ConI) := []
noncomputable def laws_toCutRule_cuts : List (Nat × List (Nat × Cut)) := []
noncomputable def laws_toCutRule_cx (k : Nat) : Cx := mkCx tys tbytes telem nozero (Ai.look laws_toCutRule_inls) (Ai.look laws_toCutRule_cons) (Ai.look laws_toCutRule_taks) (Ai.look laws_toCutRule_inps) (fun f id => match Ai.look laws_toCutRule_cuts f with | some l => Ai.look l id | none => none) k []
theorem laws_toCutRule_tabs (k : Nat) : TabsOk Try.prog (laws_toCutRule_cx k) := ⟨tab_mk tabs_ok _ _ _ _ _ _ _, look_all (Q := ConOk Try.prog) _ trivial, look_all (Q := TakOk Try.prog) _ trivial, look_all (Q := InpOk Try.prog) _ trivial, look_all (Q := InlOk Try.prog) _ trivial, mixed_ok⟩
abbrev laws_toCutRule_sh : List Sh := [.pl (.pair (.int .i64) (.pair (.int .i64) (.pair (.int .i64) .unit)))]
noncomputable def laws_toCutRule_r (a0 : (Int × (Int × (Int × Unit)))) : Option (shDen laws_toCutRule_sh) :=
 (some (a0.1, (a0.2.1, (a0.2.2.1, ()))))
theorem laws_toCutRule_start (k : Nat) (a0 : (Int × (Int × (Int × Unit)))) : fnK (laws_toCutRule_cx k) 8 22 laws_toCutRule_i laws_toCutRule_sh [.pv (.pair (.int .i64) (.pair (.int .i64) (.pair (.int .i64) .unit))) a0] =
 ((some (a0.1, (a0.2.1, (a0.2.2.1, ())))) : Option (shDen laws_toCutRule_sh)) := by kernel_rfl

theorem laws_toCutRule_run (a0 : (Int × (Int × (Int × Unit)))) : fnK (laws_toCutRule_cx FUEL) 8 22 laws_toCutRule_i laws_toCutRule_sh [.pv (.pair (.int .i64) (.pair (.int .i64) (.pair (.int .i64) .unit))) a0] = laws_toCutRule_r a0 :=
 (laws_toCutRule_start FUEL a0).trans (rfl)

noncomputable def laws_toCutRule_con : Con := { ps := (.pair (.pair (.int .i64) (.pair (.int .i64) (.pair (.int .i64) .unit))) .unit), sh := laws_toCutRule_sh, raw := fun x => laws_toCutRule_r x.1 }
theorem laws_toCutRule_conOk : ConOk Try.prog 22 laws_toCutRule_con := con_of_fn (laws_toCutRule_tabs FUEL) (depth := 8) laws_toCutRule_ok fun x y h => (laws_toCutRule_run x.1).trans h

noncomputable def laws_toByteS_l0_cut : Cut := { keep := [0, 3, 4], stk := [], ids := [70], own := [], outs := [(1, [3], [70])] }
noncomputable def laws_toByteS_inls : List (Nat × Inl) := []
noncomputable def laws_toByteS_cons : List (Nat × Con) := []
noncomputable def laws_toByteS_taks : List (Nat × ConT) := []
noncomputable def laws_toByteS_inps : List (Nat × ConI) := []
noncomputable def laws_toByteS_cuts : List (Nat × List (Nat × Cut)) := [(11, [(0, laws_toByteS_l0_cut)])]
noncomputable def laws_toByteS_cx (k : Nat) : Cx := mkCx tys tbytes telem nozero (Ai.look laws_toByteS_inls) (Ai.look laws_toByteS_cons) (Ai.look laws_toByteS_taks) (Ai.look laws_toByteS_inps) (fun f id => match Ai.look laws_toByteS_cuts f with | some l => Ai.look l id | none => none) k []
theorem laws_toByteS_tabs (k : Nat) : TabsOk Try.prog (laws_toByteS_cx k) := ⟨tab_mk tabs_ok _ _ _ _ _ _ _, look_all (Q := ConOk Try.prog) _ trivial, look_all (Q := TakOk Try.prog) _ trivial, look_all (Q := InpOk Try.prog) _ trivial, look_all (Q := InlOk Try.prog) _ trivial, mixed_ok⟩
abbrev laws_toByteS_sh : List Sh := [.own 5 (.int .u8)]
noncomputable def laws_toByteS_l0_s (a0 : (List Int)) (x4 : Int) (z70 : (List Int)) : St := { env := [.pv (.slice (.int .u8)) a0, .dead, .dead, .sl 70 (.int .u8), .pv (.int .i64) x4, .dead, .dead, .dead, .dead, .dead, .dead, .dead, .dead, .dead, .dead, .dead, .dead, .dead, .dead, .dead, .dead, .dead], stk := [], heap := [(70, .arr 5 (.int .u8) z70)] }
noncomputable def laws_toByteS_l0_o0 (z70 : (List Int)) : St := { env := [.dead, .dead, .dead, .sl 70 (.int .u8), .dead, .dead, .dead, .dead, .dead, .dead, .dead, .dead, .dead, .dead, .dead, .dead, .dead, .dead, .dead, .dead, .dead, .dead], stk := [], heap := [(70, .arr 5 (.int .u8) z70)] }
noncomputable def laws_toByteS_l0_b (rec : Int → (List Int) → Option (shDen laws_toByteS_sh)) (ke0 : (List Int) → Option (shDen laws_toByteS_sh)) (a0 : (List Int)) (x4 : Int) (z70 : (List Int)) : Option (shDen laws_toByteS_sh) :=
 (cond (decide (x4 < (a0.length : Int)))
 (cond ((decide ((0 : Int) ≤ x4)) && (decide (x4 < (a0.length : Int))))
 (cond ((decide ((0 : Int) ≤ x4)) && (decide (x4 < (z70.length : Int))))
 (rec (IntKind.wrap .i64 (x4 + (1 : Int))) (z70.set (x4.toNat) (a0.getD (x4.toNat) (0 : Int))))
 none)
 none)
 (ke0 z70))
noncomputable def laws_toByteS_l0_L (ke0 : (List Int) → Option (shDen laws_toByteS_sh)) (a0 : (List Int)) : Nat → Int → (List Int) → Option (shDen laws_toByteS_sh)
 | 0 => fun _ _ => none
 | n + 1 => laws_toByteS_l0_b (laws_toByteS_l0_L ke0 a0 n) ke0 a0
noncomputable def laws_toByteS_r (a0 : (List Int)) : Option (shDen laws_toByteS_sh) :=
 (cond (((decide ((0 : Int) ≤ (a0.length : Int))) && (decide (((a0.length : Int) * (1 : Int)) ≤ (140737488355328 : Int)))) && (decide ((a0.length : Int) ≤ (9223372036854775807 : Int))))
 (laws_toByteS_l0_L (fun z70 => (some z70)) a0 FUEL (0 : Int) (List.replicate ((a0.length : Int).toNat) (0 : Int)))
 none)
theorem laws_toByteS_l0_round (k : Nat) (K : Ex → St → Option (shDen laws_toByteS_sh)) (n : Nat) (a0 : (List Int)) (x4 : Int) (z70 : (List Int)) : (loopK (laws_toByteS_cx k) 0 (execK (laws_toByteS_cx k) (callK (laws_toByteS_cx k) 8) 0 11 (sub laws_toByteS_c [1, 1, 0, 1, 0, 0])) laws_toByteS_l0_cut K (n + 1) (laws_toByteS_l0_s a0 x4 z70) : Option (shDen laws_toByteS_sh)) =
 ((cond (decide (x4 < (a0.length : Int)))
 (cond ((decide ((0 : Int) ≤ x4)) && (decide (x4 < (a0.length : Int))))
 (cond ((decide ((0 : Int) ≤ x4)) && (decide (x4 < (z70.length : Int))))
 (loopK (laws_toByteS_cx k) 0 (execK (laws_toByteS_cx k) (callK (laws_toByteS_cx k) 8) 0 11 (sub laws_toByteS_c [1, 1, 0, 1, 0, 0])) laws_toByteS_l0_cut K n (laws_toByteS_l0_s a0 (IntKind.wrap .i64 (x4 + (1 : Int))) (z70.set (x4.toNat) (a0.getD (x4.toNat) (0 : Int)))))
 none)
 none)
 (K (.exit 0) (laws_toByteS_l0_o0 z70))) : Option (shDen laws_toByteS_sh)) := by kernel_rfl

theorem laws_toByteS_l0_exit0 (k : Nat)  (z70 : (List Int)) : ((blkK 0 (seqK (execK (laws_toByteS_cx k) (callK (laws_toByteS_cx k) 8) 0 11 (sub laws_toByteS_c [1, 1, 1])) (finK (laws_toByteS_cx k) laws_toByteS_i laws_toByteS_sh))) (.exit 0) (laws_toByteS_l0_o0 z70) : Option (shDen laws_toByteS_sh)) =
 ((some z70) : Option (shDen laws_toByteS_sh)) := by kernel_rfl

theorem laws_toByteS_l0_congr (ke0 : (List Int) → Option (shDen laws_toByteS_sh)) (ke0' : (List Int) → Option (shDen laws_toByteS_sh)) (a0 : (List Int)) (n : Nat) (x4 : Int) (z70 : (List Int)) (hke0 : ∀ z70, ke0 z70 = ke0' z70) : laws_toByteS_l0_L ke0 a0 n x4 z70 = laws_toByteS_l0_L ke0' a0 n x4 z70 := by
 have : ke0 = ke0' := (by funext z70; exact hke0 z70); subst this; rfl

theorem laws_toByteS_l0_L_eq (K : Ex → St → Option (shDen laws_toByteS_sh)) (a0 : (List Int)) : ∀ (n : Nat) (x4 : Int) (z70 : (List Int)), (loopK (laws_toByteS_cx FUEL) 0 (execK (laws_toByteS_cx FUEL) (callK (laws_toByteS_cx FUEL) 8) 0 11 (sub laws_toByteS_c [1, 1, 0, 1, 0, 0])) laws_toByteS_l0_cut K n (laws_toByteS_l0_s a0 x4 z70) : Option (shDen laws_toByteS_sh)) = laws_toByteS_l0_L (fun z70 => K (.exit 0) (laws_toByteS_l0_o0 z70)) a0 n x4 z70 := by
 intro n
 induction n with
 | zero => intros; rfl
 | succ n ih =>
  intro x4 z70
  exact (laws_toByteS_l0_round FUEL K n a0 x4 z70).trans (condC (condC (condC (ih (IntKind.wrap .i64 (x4 + (1 : Int))) (z70.set (x4.toNat) (a0.getD (x4.toNat) (0 : Int)))) (rfl)) (rfl)) (rfl))

theorem laws_toByteS_start (k : Nat) (a0 : (List Int)) : fnK (laws_toByteS_cx k) 8 11 laws_toByteS_i laws_toByteS_sh [.pv (.slice (.int .u8)) a0] =
 ((cond (((decide ((0 : Int) ≤ (a0.length : Int))) && (decide (((a0.length : Int) * (1 : Int)) ≤ (140737488355328 : Int)))) && (decide ((a0.length : Int) ≤ (9223372036854775807 : Int))))
 (loopK (laws_toByteS_cx k) 0 (execK (laws_toByteS_cx k) (callK (laws_toByteS_cx k) 8) 0 11 (sub laws_toByteS_c [1, 1, 0, 1, 0, 0])) laws_toByteS_l0_cut (blkK 0 (seqK (execK (laws_toByteS_cx k) (callK (laws_toByteS_cx k) 8) 0 11 (sub laws_toByteS_c [1, 1, 1])) (finK (laws_toByteS_cx k) laws_toByteS_i laws_toByteS_sh))) k (laws_toByteS_l0_s a0 (0 : Int) (List.replicate ((a0.length : Int).toNat) (0 : Int))))
 none) : Option (shDen laws_toByteS_sh)) := by kernel_rfl

theorem laws_toByteS_run (a0 : (List Int)) : fnK (laws_toByteS_cx FUEL) 8 11 laws_toByteS_i laws_toByteS_sh [.pv (.slice (.int .u8)) a0] = laws_toByteS_r a0 :=
 (laws_toByteS_start FUEL a0).trans (condC ((laws_toByteS_l0_L_eq _ a0 FUEL (0 : Int) (List.replicate ((a0.length : Int).toNat) (0 : Int))).trans (laws_toByteS_l0_congr _ _ a0 FUEL (0 : Int) (List.replicate ((a0.length : Int).toNat) (0 : Int)) (fun z70 => (laws_toByteS_l0_exit0 FUEL  z70).trans (rfl)))) (rfl))

noncomputable def laws_toByteS_con : Con := { ps := (.pair (.slice (.int .u8)) .unit), sh := laws_toByteS_sh, raw := fun x => laws_toByteS_r x.1 }
theorem laws_toByteS_conOk : ConOk Try.prog 11 laws_toByteS_con := con_of_fn (laws_toByteS_tabs FUEL) (depth := 8) laws_toByteS_ok fun x y h => (laws_toByteS_run x.1).trans h

noncomputable def spec_l00In_inls : List (Nat × Inl) := []
noncomputable def spec_l00In_cons : List (Nat × Con) := []
noncomputable def spec_l00In_taks : List (Nat × ConT) := []
noncomputable def spec_l00In_inps : List (Nat × ConI) := []
noncomputable def spec_l00In_cuts : List (Nat × List (Nat × Cut)) := []
noncomputable def spec_l00In_cx (k : Nat) : Cx := mkCx tys tbytes telem nozero (Ai.look spec_l00In_inls) (Ai.look spec_l00In_cons) (Ai.look spec_l00In_taks) (Ai.look spec_l00In_inps) (fun f id => match Ai.look spec_l00In_cuts f with | some l => Ai.look l id | none => none) k []
theorem spec_l00In_tabs (k : Nat) : TabsOk Try.prog (spec_l00In_cx k) := ⟨tab_mk tabs_ok _ _ _ _ _ _ _, look_all (Q := ConOk Try.prog) _ trivial, look_all (Q := TakOk Try.prog) _ trivial, look_all (Q := InpOk Try.prog) _ trivial, look_all (Q := InlOk Try.prog) _ trivial, mixed_ok⟩
abbrev spec_l00In_sh : List Sh := [.pl .bool]
noncomputable def spec_l00In_r (a0 : Int) (a1 : Int) (a2 : Int) : Option (shDen spec_l00In_sh) :=
 (cond (decide (a1 ≤ a0))
 (some (decide (a0 ≤ a2)))
 (some false))
theorem spec_l00In_start (k : Nat) (a0 : Int) (a1 : Int) (a2 : Int) : fnK (spec_l00In_cx k) 8 120 spec_l00In_i spec_l00In_sh [.pv (.int .i64) a0, .pv (.int .i64) a1, .pv (.int .i64) a2] =
 ((cond (decide (a1 ≤ a0))
 (some (decide (a0 ≤ a2)))
 (some false)) : Option (shDen spec_l00In_sh)) := by kernel_rfl

theorem spec_l00In_run (a0 : Int) (a1 : Int) (a2 : Int) : fnK (spec_l00In_cx FUEL) 8 120 spec_l00In_i spec_l00In_sh [.pv (.int .i64) a0, .pv (.int .i64) a1, .pv (.int .i64) a2] = spec_l00In_r a0 a1 a2 :=
 (spec_l00In_start FUEL a0 a1 a2).trans (rfl)

noncomputable def spec_l00In_con : Con := { ps := (.pair (.int .i64) (.pair (.int .i64) (.pair (.int .i64) .unit))), sh := spec_l00In_sh, raw := fun x => spec_l00In_r x.1 x.2.1 x.2.2.1 }
theorem spec_l00In_conOk : ConOk Try.prog 120 spec_l00In_con := con_of_fn (spec_l00In_tabs FUEL) (depth := 8) spec_l00In_ok fun x y h => (spec_l00In_run x.1 x.2.1 x.2.2.1).trans h

noncomputable def spec_l02Ok_inls : List (Nat × Inl) := []
noncomputable def spec_l02Ok_cons : List (Nat × Con) := [(120, spec_l00In_con)]
noncomputable def spec_l02Ok_taks : List (Nat × ConT) := []
noncomputable def spec_l02Ok_inps : List (Nat × ConI) := []
noncomputable def spec_l02Ok_cuts : List (Nat × List (Nat × Cut)) := []
noncomputable def spec_l02Ok_cx (k : Nat) : Cx := mkCx tys tbytes telem nozero (Ai.look spec_l02Ok_inls) (Ai.look spec_l02Ok_cons) (Ai.look spec_l02Ok_taks) (Ai.look spec_l02Ok_inps) (fun f id => match Ai.look spec_l02Ok_cuts f with | some l => Ai.look l id | none => none) k []
theorem spec_l02Ok_tabs (k : Nat) : TabsOk Try.prog (spec_l02Ok_cx k) := ⟨tab_mk tabs_ok _ _ _ _ _ _ _, look_all (Q := ConOk Try.prog) _ ⟨spec_l00In_conOk, trivial⟩, look_all (Q := TakOk Try.prog) _ trivial, look_all (Q := InpOk Try.prog) _ trivial, look_all (Q := InlOk Try.prog) _ trivial, mixed_ok⟩
abbrev spec_l02Ok_sh : List Sh := [.pl .bool]
noncomputable def spec_l02Ok_r (a0 : (Int × (Int × (Int × Unit)))) : Option (shDen spec_l02Ok_sh) :=
 (bindO (spec_l00In_r a0.1 (1 : Int) (64 : Int)) fun (b1 : Bool) => (cond b1
 (bindO (spec_l00In_r a0.2.1 a0.1 (256 : Int)) fun (b2 : Bool) => (cond b2
 (bindO (spec_l00In_r a0.2.2.1 (0 : Int) (8 : Int)) fun (b3 : Bool) => (some b3))
 (some false)))
 (some false)))
theorem spec_l02Ok_start (k : Nat) (a0 : (Int × (Int × (Int × Unit)))) : fnK (spec_l02Ok_cx k) 8 93 spec_l02Ok_i spec_l02Ok_sh [.pv (.ref (.pair (.int .i64) (.pair (.int .i64) (.pair (.int .i64) .unit)))) a0] =
 ((bindO (spec_l00In_r a0.1 (1 : Int) (64 : Int)) fun (b1 : Bool) => (cond b1
 (bindO (spec_l00In_r a0.2.1 a0.1 (256 : Int)) fun (b2 : Bool) => (cond b2
 (bindO (spec_l00In_r a0.2.2.1 (0 : Int) (8 : Int)) fun (b3 : Bool) => (some b3))
 (some false)))
 (some false))) : Option (shDen spec_l02Ok_sh)) := by kernel_rfl

theorem spec_l02Ok_run (a0 : (Int × (Int × (Int × Unit)))) : fnK (spec_l02Ok_cx FUEL) 8 93 spec_l02Ok_i spec_l02Ok_sh [.pv (.ref (.pair (.int .i64) (.pair (.int .i64) (.pair (.int .i64) .unit)))) a0] = spec_l02Ok_r a0 :=
 (spec_l02Ok_start FUEL a0).trans (rfl)

noncomputable def spec_l02Ok_con : Con := { ps := (.pair (.ref (.pair (.int .i64) (.pair (.int .i64) (.pair (.int .i64) .unit)))) .unit), sh := spec_l02Ok_sh, raw := fun x => spec_l02Ok_r x.1 }
theorem spec_l02Ok_conOk : ConOk Try.prog 93 spec_l02Ok_con := con_of_fn (spec_l02Ok_tabs FUEL) (depth := 8) spec_l02Ok_ok fun x y h => (spec_l02Ok_run x.1).trans h

noncomputable def spec_l02Given_inls : List (Nat × Inl) := []
noncomputable def spec_l02Given_cons : List (Nat × Con) := [(93, spec_l02Ok_con)]
noncomputable def spec_l02Given_taks : List (Nat × ConT) := []
noncomputable def spec_l02Given_inps : List (Nat × ConI) := []
noncomputable def spec_l02Given_cuts : List (Nat × List (Nat × Cut)) := []
noncomputable def spec_l02Given_cx (k : Nat) : Cx := mkCx tys tbytes telem nozero (Ai.look spec_l02Given_inls) (Ai.look spec_l02Given_cons) (Ai.look spec_l02Given_taks) (Ai.look spec_l02Given_inps) (fun f id => match Ai.look spec_l02Given_cuts f with | some l => Ai.look l id | none => none) k []
theorem spec_l02Given_tabs (k : Nat) : TabsOk Try.prog (spec_l02Given_cx k) := ⟨tab_mk tabs_ok _ _ _ _ _ _ _, look_all (Q := ConOk Try.prog) _ ⟨spec_l02Ok_conOk, trivial⟩, look_all (Q := TakOk Try.prog) _ trivial, look_all (Q := InpOk Try.prog) _ trivial, look_all (Q := InlOk Try.prog) _ trivial, mixed_ok⟩
abbrev spec_l02Given_sh : List Sh := [.pl (.int .i64)]
noncomputable def spec_l02Given_r (a0 : (Int × (Int × (Int × Unit)))) (a1 : (List Int)) : Option (shDen spec_l02Given_sh) :=
 (bindO (spec_l02Ok_r a0) fun (b1 : Bool) => (cond (!b1)
 (some (1 : Int))
 (cond (decide ((4096 : Int) < (a1.length : Int)))
 (some (3 : Int))
 (some (0 : Int)))))
theorem spec_l02Given_start (k : Nat) (a0 : (Int × (Int × (Int × Unit)))) (a1 : (List Int)) : fnK (spec_l02Given_cx k) 8 62 spec_l02Given_i spec_l02Given_sh [.pv (.ref (.pair (.int .i64) (.pair (.int .i64) (.pair (.int .i64) .unit)))) a0, .pv (.slice (.int .u8)) a1] =
 ((bindO (spec_l02Ok_r a0) fun (b1 : Bool) => (cond (!b1)
 (some (1 : Int))
 (cond (decide ((4096 : Int) < (a1.length : Int)))
 (some (3 : Int))
 (some (0 : Int))))) : Option (shDen spec_l02Given_sh)) := by kernel_rfl

theorem spec_l02Given_run (a0 : (Int × (Int × (Int × Unit)))) (a1 : (List Int)) : fnK (spec_l02Given_cx FUEL) 8 62 spec_l02Given_i spec_l02Given_sh [.pv (.ref (.pair (.int .i64) (.pair (.int .i64) (.pair (.int .i64) .unit)))) a0, .pv (.slice (.int .u8)) a1] = spec_l02Given_r a0 a1 :=
 (spec_l02Given_start FUEL a0 a1).trans (rfl)

noncomputable def spec_l02Given_con : Con := { ps := (.pair (.ref (.pair (.int .i64) (.pair (.int .i64) (.pair (.int .i64) .unit)))) (.pair (.slice (.int .u8)) .unit)), sh := spec_l02Given_sh, raw := fun x => spec_l02Given_r x.1 x.2.1 }
theorem spec_l02Given_conOk : ConOk Try.prog 62 spec_l02Given_con := con_of_fn (spec_l02Given_tabs FUEL) (depth := 8) spec_l02Given_ok fun x y h => (spec_l02Given_run x.1 x.2.1).trans h

noncomputable def spec_l01Start_l0_cut : Cut := { keep := [0, 2, 3, 4], stk := [], ids := [20, 30], own := [], outs := [(1, [2, 3], [20, 30])] }
noncomputable def spec_l01Start_inls : List (Nat × Inl) := []
noncomputable def spec_l01Start_cons : List (Nat × Con) := []
noncomputable def spec_l01Start_taks : List (Nat × ConT) := []
noncomputable def spec_l01Start_inps : List (Nat × ConI) := []
noncomputable def spec_l01Start_cuts : List (Nat × List (Nat × Cut)) := [(98, [(0, spec_l01Start_l0_cut)])]
noncomputable def spec_l01Start_cx (k : Nat) : Cx := mkCx tys tbytes telem nozero (Ai.look spec_l01Start_inls) (Ai.look spec_l01Start_cons) (Ai.look spec_l01Start_taks) (Ai.look spec_l01Start_inps) (fun f id => match Ai.look spec_l01Start_cuts f with | some l => Ai.look l id | none => none) k []
theorem spec_l01Start_tabs (k : Nat) : TabsOk Try.prog (spec_l01Start_cx k) := ⟨tab_mk tabs_ok _ _ _ _ _ _ _, look_all (Q := ConOk Try.prog) _ trivial, look_all (Q := TakOk Try.prog) _ trivial, look_all (Q := InpOk Try.prog) _ trivial, look_all (Q := InlOk Try.prog) _ trivial, mixed_ok⟩
abbrev spec_l01Start_sh : List Sh := [.pl (.arr 8 (.int .u32))]
noncomputable def spec_l01Start_l0_s (a0 : Int) (x4 : Int) (y30 : (List Int)) : St := { env := [.pv (.int .u8) a0, .dead, .ptr 20 (.arr 8 (.int .u32)) [], .ptr 30 (.arr 8 (.int .u32)) [], .pv (.int .i64) x4, .dead, .dead, .dead, .dead, .dead, .dead, .dead, .dead, .dead, .dead, .dead, .dead, .dead, .dead, .dead], stk := [], heap := [(30, .var (.arr 8 (.int .u32)) (.pv (.arr 8 (.int .u32)) y30)), (20, .var (.arr 8 (.int .u32)) (.pv (.arr 8 (.int .u32)) (List.replicate 8 (0 : Int))))] }
noncomputable def spec_l01Start_l0_o0 (y30 : (List Int)) : St := { env := [.dead, .dead, .ptr 20 (.arr 8 (.int .u32)) [], .ptr 30 (.arr 8 (.int .u32)) [], .dead, .dead, .dead, .dead, .dead, .dead, .dead, .dead, .dead, .dead, .dead, .dead, .dead, .dead, .dead, .dead], stk := [], heap := [(30, .var (.arr 8 (.int .u32)) (.pv (.arr 8 (.int .u32)) y30)), (20, .var (.arr 8 (.int .u32)) (.pv (.arr 8 (.int .u32)) (List.replicate 8 (0 : Int))))] }
noncomputable def spec_l01Start_l0_b (rec : Int → (List Int) → Option (shDen spec_l01Start_sh)) (ke0 : (List Int) → Option (shDen spec_l01Start_sh)) (a0 : Int) (x4 : Int) (y30 : (List Int)) : Option (shDen spec_l01Start_sh) :=
 (cond (decide (x4 < (8 : Int)))
 (cond ((decide ((0 : Int) ≤ x4)) && (decide (x4 < (8 : Int))))
 (rec (IntKind.wrap .i64 (x4 + (1 : Int))) (y30.set (x4.toNat) (IntKind.wrap .u32 ((IntKind.wrap .u32 ((16777619 : Int) * (IntKind.wrap .u32 (IntKind.wrap .i64 (x4 + (1 : Int)))))) + (IntKind.wrap .u32 a0)))))
 none)
 (ke0 y30))
noncomputable def spec_l01Start_l0_L (ke0 : (List Int) → Option (shDen spec_l01Start_sh)) (a0 : Int) : Nat → Int → (List Int) → Option (shDen spec_l01Start_sh)
 | 0 => fun _ _ => none
 | n + 1 => spec_l01Start_l0_b (spec_l01Start_l0_L ke0 a0 n) ke0 a0
noncomputable def spec_l01Start_r (a0 : Int) : Option (shDen spec_l01Start_sh) :=
 (spec_l01Start_l0_L (fun y30 => (some y30)) a0 FUEL (0 : Int) (List.replicate 8 (0 : Int)))
theorem spec_l01Start_l0_round (k : Nat) (K : Ex → St → Option (shDen spec_l01Start_sh)) (n : Nat) (a0 : Int) (x4 : Int) (y30 : (List Int)) : (loopK (spec_l01Start_cx k) 0 (execK (spec_l01Start_cx k) (callK (spec_l01Start_cx k) 8) 0 98 (sub spec_l01Start_c [1, 1, 0, 1, 0, 0])) spec_l01Start_l0_cut K (n + 1) (spec_l01Start_l0_s a0 x4 y30) : Option (shDen spec_l01Start_sh)) =
 ((cond (decide (x4 < (8 : Int)))
 (cond ((decide ((0 : Int) ≤ x4)) && (decide (x4 < (8 : Int))))
 (loopK (spec_l01Start_cx k) 0 (execK (spec_l01Start_cx k) (callK (spec_l01Start_cx k) 8) 0 98 (sub spec_l01Start_c [1, 1, 0, 1, 0, 0])) spec_l01Start_l0_cut K n (spec_l01Start_l0_s a0 (IntKind.wrap .i64 (x4 + (1 : Int))) (y30.set (x4.toNat) (IntKind.wrap .u32 ((IntKind.wrap .u32 ((16777619 : Int) * (IntKind.wrap .u32 (IntKind.wrap .i64 (x4 + (1 : Int)))))) + (IntKind.wrap .u32 a0))))))
 none)
 (K (.exit 0) (spec_l01Start_l0_o0 y30))) : Option (shDen spec_l01Start_sh)) := by kernel_rfl

theorem spec_l01Start_l0_exit0 (k : Nat)  (y30 : (List Int)) : ((blkK 0 (seqK (execK (spec_l01Start_cx k) (callK (spec_l01Start_cx k) 8) 0 98 (sub spec_l01Start_c [1, 1, 1])) (finK (spec_l01Start_cx k) spec_l01Start_i spec_l01Start_sh))) (.exit 0) (spec_l01Start_l0_o0 y30) : Option (shDen spec_l01Start_sh)) =
 ((some y30) : Option (shDen spec_l01Start_sh)) := by kernel_rfl

theorem spec_l01Start_l0_congr (ke0 : (List Int) → Option (shDen spec_l01Start_sh)) (ke0' : (List Int) → Option (shDen spec_l01Start_sh)) (a0 : Int) (n : Nat) (x4 : Int) (y30 : (List Int)) (hke0 : ∀ y30, ke0 y30 = ke0' y30) : spec_l01Start_l0_L ke0 a0 n x4 y30 = spec_l01Start_l0_L ke0' a0 n x4 y30 := by
 have : ke0 = ke0' := (by funext y30; exact hke0 y30); subst this; rfl

theorem spec_l01Start_l0_L_eq (K : Ex → St → Option (shDen spec_l01Start_sh)) (a0 : Int) : ∀ (n : Nat) (x4 : Int) (y30 : (List Int)), (loopK (spec_l01Start_cx FUEL) 0 (execK (spec_l01Start_cx FUEL) (callK (spec_l01Start_cx FUEL) 8) 0 98 (sub spec_l01Start_c [1, 1, 0, 1, 0, 0])) spec_l01Start_l0_cut K n (spec_l01Start_l0_s a0 x4 y30) : Option (shDen spec_l01Start_sh)) = spec_l01Start_l0_L (fun y30 => K (.exit 0) (spec_l01Start_l0_o0 y30)) a0 n x4 y30 := by
 intro n
 induction n with
 | zero => intros; rfl
 | succ n ih =>
  intro x4 y30
  exact (spec_l01Start_l0_round FUEL K n a0 x4 y30).trans (condC (condC (ih (IntKind.wrap .i64 (x4 + (1 : Int))) (y30.set (x4.toNat) (IntKind.wrap .u32 ((IntKind.wrap .u32 ((16777619 : Int) * (IntKind.wrap .u32 (IntKind.wrap .i64 (x4 + (1 : Int)))))) + (IntKind.wrap .u32 a0))))) (rfl)) (rfl))

theorem spec_l01Start_start (k : Nat) (a0 : Int) : fnK (spec_l01Start_cx k) 8 98 spec_l01Start_i spec_l01Start_sh [.pv (.int .u8) a0] =
 ((loopK (spec_l01Start_cx k) 0 (execK (spec_l01Start_cx k) (callK (spec_l01Start_cx k) 8) 0 98 (sub spec_l01Start_c [1, 1, 0, 1, 0, 0])) spec_l01Start_l0_cut (blkK 0 (seqK (execK (spec_l01Start_cx k) (callK (spec_l01Start_cx k) 8) 0 98 (sub spec_l01Start_c [1, 1, 1])) (finK (spec_l01Start_cx k) spec_l01Start_i spec_l01Start_sh))) k (spec_l01Start_l0_s a0 (0 : Int) (List.replicate 8 (0 : Int)))) : Option (shDen spec_l01Start_sh)) := by kernel_rfl

theorem spec_l01Start_run (a0 : Int) : fnK (spec_l01Start_cx FUEL) 8 98 spec_l01Start_i spec_l01Start_sh [.pv (.int .u8) a0] = spec_l01Start_r a0 :=
 (spec_l01Start_start FUEL a0).trans ((spec_l01Start_l0_L_eq _ a0 FUEL (0 : Int) (List.replicate 8 (0 : Int))).trans (spec_l01Start_l0_congr _ _ a0 FUEL (0 : Int) (List.replicate 8 (0 : Int)) (fun y30 => (spec_l01Start_l0_exit0 FUEL  y30).trans (rfl))))

noncomputable def spec_l01Start_con : Con := { ps := (.pair (.int .u8) .unit), sh := spec_l01Start_sh, raw := fun x => spec_l01Start_r x.1 }
theorem spec_l01Start_conOk : ConOk Try.prog 98 spec_l01Start_con := con_of_fn (spec_l01Start_tabs FUEL) (depth := 8) spec_l01Start_ok fun x y h => (spec_l01Start_run x.1).trans h

noncomputable def spec_l01Turn_inls : List (Nat × Inl) := []
noncomputable def spec_l01Turn_cons : List (Nat × Con) := []
noncomputable def spec_l01Turn_taks : List (Nat × ConT) := []
noncomputable def spec_l01Turn_inps : List (Nat × ConI) := []
noncomputable def spec_l01Turn_cuts : List (Nat × List (Nat × Cut)) := []
noncomputable def spec_l01Turn_cx (k : Nat) : Cx := mkCx tys tbytes telem nozero (Ai.look spec_l01Turn_inls) (Ai.look spec_l01Turn_cons) (Ai.look spec_l01Turn_taks) (Ai.look spec_l01Turn_inps) (fun f id => match Ai.look spec_l01Turn_cuts f with | some l => Ai.look l id | none => none) k []
theorem spec_l01Turn_tabs (k : Nat) : TabsOk Try.prog (spec_l01Turn_cx k) := ⟨tab_mk tabs_ok _ _ _ _ _ _ _, look_all (Q := ConOk Try.prog) _ trivial, look_all (Q := TakOk Try.prog) _ trivial, look_all (Q := InpOk Try.prog) _ trivial, look_all (Q := InlOk Try.prog) _ trivial, mixed_ok⟩
abbrev spec_l01Turn_sh : List Sh := [.pl (.int .u32)]
noncomputable def spec_l01Turn_r (a0 : Int) (a1 : Int) : Option (shDen spec_l01Turn_sh) :=
 (cond (decide (a1 < (0 : Int)))
 none
 (cond (decide ((IntKind.wrap .u64 ((32 : Int) - a1)) < (0 : Int)))
 none
 (some (bitI .or .u32 (shlI .u32 a0 a1) (shrI .u32 a0 (IntKind.wrap .u64 ((32 : Int) - a1)))))))
theorem spec_l01Turn_start (k : Nat) (a0 : Int) (a1 : Int) : fnK (spec_l01Turn_cx k) 8 135 spec_l01Turn_i spec_l01Turn_sh [.pv (.int .u32) a0, .pv (.int .u64) a1] =
 ((cond (decide (a1 < (0 : Int)))
 none
 (cond (decide ((IntKind.wrap .u64 ((32 : Int) - a1)) < (0 : Int)))
 none
 (some (bitI .or .u32 (shlI .u32 a0 a1) (shrI .u32 a0 (IntKind.wrap .u64 ((32 : Int) - a1))))))) : Option (shDen spec_l01Turn_sh)) := by kernel_rfl

theorem spec_l01Turn_run (a0 : Int) (a1 : Int) : fnK (spec_l01Turn_cx FUEL) 8 135 spec_l01Turn_i spec_l01Turn_sh [.pv (.int .u32) a0, .pv (.int .u64) a1] = spec_l01Turn_r a0 a1 :=
 (spec_l01Turn_start FUEL a0 a1).trans (rfl)

noncomputable def spec_l01Turn_con : Con := { ps := (.pair (.int .u32) (.pair (.int .u64) .unit)), sh := spec_l01Turn_sh, raw := fun x => spec_l01Turn_r x.1 x.2.1 }
theorem spec_l01Turn_conOk : ConOk Try.prog 135 spec_l01Turn_con := con_of_fn (spec_l01Turn_tabs FUEL) (depth := 8) spec_l01Turn_ok fun x y h => (spec_l01Turn_run x.1 x.2.1).trans h

noncomputable def spec_l01Mix_l0_cut : Cut := { keep := [2, 3, 4, 5, 6], stk := [], ids := [20, 30, 40, 50], own := [], outs := [(1, [2, 4, 5], [20, 40, 50])] }
noncomputable def spec_l01Mix_l1_cut : Cut := { keep := [2, 3, 4, 5, 6, 7], stk := [], ids := [20, 30, 40, 50], own := [], outs := [(3, [2, 3, 4, 5, 6], [20, 30, 40, 50])] }
noncomputable def spec_l01Mix_l2_cut : Cut := { keep := [2, 4, 5, 8, 9], stk := [], ids := [20, 40, 50, 80], own := [], outs := [(5, [2, 4, 8], [20, 40, 80])] }
noncomputable def spec_l01Mix_l3_cut : Cut := { keep := [2, 4, 5, 8, 9, 10], stk := [], ids := [20, 40, 50, 80], own := [], outs := [(7, [2, 4, 5, 8, 9], [20, 40, 50, 80])] }
noncomputable def spec_l01Mix_l4_cut : Cut := { keep := [2, 4, 8, 13], stk := [], ids := [20, 40, 80], own := [], outs := [(9, [4, 8], [40, 80])] }
noncomputable def spec_l01Mix_inls : List (Nat × Inl) := []
noncomputable def spec_l01Mix_cons : List (Nat × Con) := [(135, spec_l01Turn_con)]
noncomputable def spec_l01Mix_taks : List (Nat × ConT) := []
noncomputable def spec_l01Mix_inps : List (Nat × ConI) := []
noncomputable def spec_l01Mix_cuts : List (Nat × List (Nat × Cut)) := [(122, [(0, spec_l01Mix_l0_cut), (2, spec_l01Mix_l1_cut), (4, spec_l01Mix_l2_cut), (6, spec_l01Mix_l3_cut), (8, spec_l01Mix_l4_cut)])]
noncomputable def spec_l01Mix_cx (k : Nat) : Cx := mkCx tys tbytes telem nozero (Ai.look spec_l01Mix_inls) (Ai.look spec_l01Mix_cons) (Ai.look spec_l01Mix_taks) (Ai.look spec_l01Mix_inps) (fun f id => match Ai.look spec_l01Mix_cuts f with | some l => Ai.look l id | none => none) k []
theorem spec_l01Mix_tabs (k : Nat) : TabsOk Try.prog (spec_l01Mix_cx k) := ⟨tab_mk tabs_ok _ _ _ _ _ _ _, look_all (Q := ConOk Try.prog) _ ⟨spec_l01Turn_conOk, trivial⟩, look_all (Q := TakOk Try.prog) _ trivial, look_all (Q := InpOk Try.prog) _ trivial, look_all (Q := InlOk Try.prog) _ trivial, mixed_ok⟩
abbrev spec_l01Mix_sh : List Sh := [.pl (.arr 8 (.int .u32))]
noncomputable def spec_l01Mix_l0_s (a0 : (List Int)) (a1 : (List Int)) (x6 : Int) (y50 : (List Int)) : St := { env := [.dead, .dead, .ptr 20 (.arr 8 (.int .u32)) [], .ptr 30 (.arr 32 (.int .u8)) [], .ptr 40 (.arr 8 (.int .u32)) [], .ptr 50 (.arr 8 (.int .u32)) [], .pv (.int .i64) x6, .dead, .dead, .dead, .dead, .dead, .dead, .dead, .dead, .dead, .dead, .dead, .dead, .dead, .dead, .dead, .dead, .dead, .dead, .dead, .dead, .dead, .dead, .dead, .dead, .dead, .dead, .dead, .dead, .dead, .dead, .dead, .dead, .dead, .dead, .dead, .dead, .dead, .dead, .dead, .dead, .dead, .dead, .dead, .dead, .dead, .dead, .dead, .dead, .dead, .dead, .dead, .dead, .dead, .dead, .dead, .dead, .dead, .dead, .dead, .dead, .dead, .dead, .dead, .dead, .dead, .dead, .dead, .dead, .dead, .dead, .dead, .dead, .dead, .dead, .dead, .dead, .dead, .dead, .dead, .dead, .dead, .dead, .dead, .dead, .dead, .dead, .dead, .dead, .dead], stk := [], heap := [(50, .var (.arr 8 (.int .u32)) (.pv (.arr 8 (.int .u32)) y50)), (40, .var (.arr 8 (.int .u32)) (.pv (.arr 8 (.int .u32)) (List.replicate 8 (0 : Int)))), (30, .var (.arr 32 (.int .u8)) (.pv (.arr 32 (.int .u8)) a1)), (20, .var (.arr 8 (.int .u32)) (.pv (.arr 8 (.int .u32)) a0))] }
noncomputable def spec_l01Mix_l0_o0 (a0 : (List Int)) (y50 : (List Int)) : St := { env := [.dead, .dead, .ptr 20 (.arr 8 (.int .u32)) [], .dead, .ptr 40 (.arr 8 (.int .u32)) [], .ptr 50 (.arr 8 (.int .u32)) [], .dead, .dead, .dead, .dead, .dead, .dead, .dead, .dead, .dead, .dead, .dead, .dead, .dead, .dead, .dead, .dead, .dead, .dead, .dead, .dead, .dead, .dead, .dead, .dead, .dead, .dead, .dead, .dead, .dead, .dead, .dead, .dead, .dead, .dead, .dead, .dead, .dead, .dead, .dead, .dead, .dead, .dead, .dead, .dead, .dead, .dead, .dead, .dead, .dead, .dead, .dead, .dead, .dead, .dead, .dead, .dead, .dead, .dead, .dead, .dead, .dead, .dead, .dead, .dead, .dead, .dead, .dead, .dead, .dead, .dead, .dead, .dead, .dead, .dead, .dead, .dead, .dead, .dead, .dead, .dead, .dead, .dead, .dead, .dead, .dead, .dead, .dead, .dead, .dead, .dead], stk := [], heap := [(50, .var (.arr 8 (.int .u32)) (.pv (.arr 8 (.int .u32)) y50)), (40, .var (.arr 8 (.int .u32)) (.pv (.arr 8 (.int .u32)) (List.replicate 8 (0 : Int)))), (20, .var (.arr 8 (.int .u32)) (.pv (.arr 8 (.int .u32)) a0))] }
noncomputable def spec_l01Mix_l1_s (a0 : (List Int)) (a1 : (List Int)) (x6 : Int) (x7 : Int) (y50 : (List Int)) : St := { env := [.dead, .dead, .ptr 20 (.arr 8 (.int .u32)) [], .ptr 30 (.arr 32 (.int .u8)) [], .ptr 40 (.arr 8 (.int .u32)) [], .ptr 50 (.arr 8 (.int .u32)) [], .pv (.int .i64) x6, .pv (.int .i64) x7, .dead, .dead, .dead, .dead, .dead, .dead, .dead, .dead, .dead, .dead, .dead, .dead, .dead, .dead, .dead, .dead, .dead, .dead, .dead, .dead, .dead, .dead, .dead, .dead, .dead, .dead, .dead, .dead, .dead, .dead, .dead, .dead, .dead, .dead, .dead, .dead, .dead, .dead, .dead, .dead, .dead, .dead, .dead, .dead, .dead, .dead, .dead, .dead, .dead, .dead, .dead, .dead, .dead, .dead, .dead, .dead, .dead, .dead, .dead, .dead, .dead, .dead, .dead, .dead, .dead, .dead, .dead, .dead, .dead, .dead, .dead, .dead, .dead, .dead, .dead, .dead, .dead, .dead, .dead, .dead, .dead, .dead, .dead, .dead, .dead, .dead, .dead, .dead], stk := [], heap := [(50, .var (.arr 8 (.int .u32)) (.pv (.arr 8 (.int .u32)) y50)), (40, .var (.arr 8 (.int .u32)) (.pv (.arr 8 (.int .u32)) (List.replicate 8 (0 : Int)))), (30, .var (.arr 32 (.int .u8)) (.pv (.arr 32 (.int .u8)) a1)), (20, .var (.arr 8 (.int .u32)) (.pv (.arr 8 (.int .u32)) a0))] }
noncomputable def spec_l01Mix_l1_o2 (a0 : (List Int)) (a1 : (List Int)) (x6 : Int) (y50 : (List Int)) : St := { env := [.dead, .dead, .ptr 20 (.arr 8 (.int .u32)) [], .ptr 30 (.arr 32 (.int .u8)) [], .ptr 40 (.arr 8 (.int .u32)) [], .ptr 50 (.arr 8 (.int .u32)) [], .pv (.int .i64) x6, .dead, .dead, .dead, .dead, .dead, .dead, .dead, .dead, .dead, .dead, .dead, .dead, .dead, .dead, .dead, .dead, .dead, .dead, .dead, .dead, .dead, .dead, .dead, .dead, .dead, .dead, .dead, .dead, .dead, .dead, .dead, .dead, .dead, .dead, .dead, .dead, .dead, .dead, .dead, .dead, .dead, .dead, .dead, .dead, .dead, .dead, .dead, .dead, .dead, .dead, .dead, .dead, .dead, .dead, .dead, .dead, .dead, .dead, .dead, .dead, .dead, .dead, .dead, .dead, .dead, .dead, .dead, .dead, .dead, .dead, .dead, .dead, .dead, .dead, .dead, .dead, .dead, .dead, .dead, .dead, .dead, .dead, .dead, .dead, .dead, .dead, .dead, .dead, .dead], stk := [], heap := [(50, .var (.arr 8 (.int .u32)) (.pv (.arr 8 (.int .u32)) y50)), (40, .var (.arr 8 (.int .u32)) (.pv (.arr 8 (.int .u32)) (List.replicate 8 (0 : Int)))), (30, .var (.arr 32 (.int .u8)) (.pv (.arr 32 (.int .u8)) a1)), (20, .var (.arr 8 (.int .u32)) (.pv (.arr 8 (.int .u32)) a0))] }
noncomputable def spec_l01Mix_l2_s (a0 : (List Int)) (y50 : (List Int)) (x9 : Int) (y80 : (List Int)) : St := { env := [.dead, .dead, .ptr 20 (.arr 8 (.int .u32)) [], .dead, .ptr 40 (.arr 8 (.int .u32)) [], .ptr 50 (.arr 8 (.int .u32)) [], .dead, .dead, .ptr 80 (.arr 8 (.int .u32)) [], .pv (.int .i64) x9, .dead, .dead, .dead, .dead, .dead, .dead, .dead, .dead, .dead, .dead, .dead, .dead, .dead, .dead, .dead, .dead, .dead, .dead, .dead, .dead, .dead, .dead, .dead, .dead, .dead, .dead, .dead, .dead, .dead, .dead, .dead, .dead, .dead, .dead, .dead, .dead, .dead, .dead, .dead, .dead, .dead, .dead, .dead, .dead, .dead, .dead, .dead, .dead, .dead, .dead, .dead, .dead, .dead, .dead, .dead, .dead, .dead, .dead, .dead, .dead, .dead, .dead, .dead, .dead, .dead, .dead, .dead, .dead, .dead, .dead, .dead, .dead, .dead, .dead, .dead, .dead, .dead, .dead, .dead, .dead, .dead, .dead, .dead, .dead, .dead, .dead], stk := [], heap := [(80, .var (.arr 8 (.int .u32)) (.pv (.arr 8 (.int .u32)) y80)), (50, .var (.arr 8 (.int .u32)) (.pv (.arr 8 (.int .u32)) y50)), (40, .var (.arr 8 (.int .u32)) (.pv (.arr 8 (.int .u32)) (List.replicate 8 (0 : Int)))), (20, .var (.arr 8 (.int .u32)) (.pv (.arr 8 (.int .u32)) a0))] }
noncomputable def spec_l01Mix_l2_o4 (a0 : (List Int)) (y80 : (List Int)) : St := { env := [.dead, .dead, .ptr 20 (.arr 8 (.int .u32)) [], .dead, .ptr 40 (.arr 8 (.int .u32)) [], .dead, .dead, .dead, .ptr 80 (.arr 8 (.int .u32)) [], .dead, .dead, .dead, .dead, .dead, .dead, .dead, .dead, .dead, .dead, .dead, .dead, .dead, .dead, .dead, .dead, .dead, .dead, .dead, .dead, .dead, .dead, .dead, .dead, .dead, .dead, .dead, .dead, .dead, .dead, .dead, .dead, .dead, .dead, .dead, .dead, .dead, .dead, .dead, .dead, .dead, .dead, .dead, .dead, .dead, .dead, .dead, .dead, .dead, .dead, .dead, .dead, .dead, .dead, .dead, .dead, .dead, .dead, .dead, .dead, .dead, .dead, .dead, .dead, .dead, .dead, .dead, .dead, .dead, .dead, .dead, .dead, .dead, .dead, .dead, .dead, .dead, .dead, .dead, .dead, .dead, .dead, .dead, .dead, .dead, .dead, .dead], stk := [], heap := [(80, .var (.arr 8 (.int .u32)) (.pv (.arr 8 (.int .u32)) y80)), (40, .var (.arr 8 (.int .u32)) (.pv (.arr 8 (.int .u32)) (List.replicate 8 (0 : Int)))), (20, .var (.arr 8 (.int .u32)) (.pv (.arr 8 (.int .u32)) a0))] }
noncomputable def spec_l01Mix_l3_s (a0 : (List Int)) (y50 : (List Int)) (x9 : Int) (x10 : Int) (y80 : (List Int)) : St := { env := [.dead, .dead, .ptr 20 (.arr 8 (.int .u32)) [], .dead, .ptr 40 (.arr 8 (.int .u32)) [], .ptr 50 (.arr 8 (.int .u32)) [], .dead, .dead, .ptr 80 (.arr 8 (.int .u32)) [], .pv (.int .i64) x9, .pv (.int .i64) x10, .dead, .dead, .dead, .dead, .dead, .dead, .dead, .dead, .dead, .dead, .dead, .dead, .dead, .dead, .dead, .dead, .dead, .dead, .dead, .dead, .dead, .dead, .dead, .dead, .dead, .dead, .dead, .dead, .dead, .dead, .dead, .dead, .dead, .dead, .dead, .dead, .dead, .dead, .dead, .dead, .dead, .dead, .dead, .dead, .dead, .dead, .dead, .dead, .dead, .dead, .dead, .dead, .dead, .dead, .dead, .dead, .dead, .dead, .dead, .dead, .dead, .dead, .dead, .dead, .dead, .dead, .dead, .dead, .dead, .dead, .dead, .dead, .dead, .dead, .dead, .dead, .dead, .dead, .dead, .dead, .dead, .dead, .dead, .dead, .dead], stk := [], heap := [(80, .var (.arr 8 (.int .u32)) (.pv (.arr 8 (.int .u32)) y80)), (50, .var (.arr 8 (.int .u32)) (.pv (.arr 8 (.int .u32)) y50)), (40, .var (.arr 8 (.int .u32)) (.pv (.arr 8 (.int .u32)) (List.replicate 8 (0 : Int)))), (20, .var (.arr 8 (.int .u32)) (.pv (.arr 8 (.int .u32)) a0))] }
noncomputable def spec_l01Mix_l3_o6 (a0 : (List Int)) (y50 : (List Int)) (x9 : Int) (y80 : (List Int)) : St := { env := [.dead, .dead, .ptr 20 (.arr 8 (.int .u32)) [], .dead, .ptr 40 (.arr 8 (.int .u32)) [], .ptr 50 (.arr 8 (.int .u32)) [], .dead, .dead, .ptr 80 (.arr 8 (.int .u32)) [], .pv (.int .i64) x9, .dead, .dead, .dead, .dead, .dead, .dead, .dead, .dead, .dead, .dead, .dead, .dead, .dead, .dead, .dead, .dead, .dead, .dead, .dead, .dead, .dead, .dead, .dead, .dead, .dead, .dead, .dead, .dead, .dead, .dead, .dead, .dead, .dead, .dead, .dead, .dead, .dead, .dead, .dead, .dead, .dead, .dead, .dead, .dead, .dead, .dead, .dead, .dead, .dead, .dead, .dead, .dead, .dead, .dead, .dead, .dead, .dead, .dead, .dead, .dead, .dead, .dead, .dead, .dead, .dead, .dead, .dead, .dead, .dead, .dead, .dead, .dead, .dead, .dead, .dead, .dead, .dead, .dead, .dead, .dead, .dead, .dead, .dead, .dead, .dead, .dead], stk := [], heap := [(80, .var (.arr 8 (.int .u32)) (.pv (.arr 8 (.int .u32)) y80)), (50, .var (.arr 8 (.int .u32)) (.pv (.arr 8 (.int .u32)) y50)), (40, .var (.arr 8 (.int .u32)) (.pv (.arr 8 (.int .u32)) (List.replicate 8 (0 : Int)))), (20, .var (.arr 8 (.int .u32)) (.pv (.arr 8 (.int .u32)) a0))] }
noncomputable def spec_l01Mix_l4_s (a0 : (List Int)) (y80 : (List Int)) (x13 : Int) : St := { env := [.dead, .dead, .ptr 20 (.arr 8 (.int .u32)) [], .dead, .ptr 40 (.arr 8 (.int .u32)) [], .dead, .dead, .dead, .ptr 80 (.arr 8 (.int .u32)) [], .dead, .dead, .dead, .dead, .pv (.int .i64) x13, .dead, .dead, .dead, .dead, .dead, .dead, .dead, .dead, .dead, .dead, .dead, .dead, .dead, .dead, .dead, .dead, .dead, .dead, .dead, .dead, .dead, .dead, .dead, .dead, .dead, .dead, .dead, .dead, .dead, .dead, .dead, .dead, .dead, .dead, .dead, .dead, .dead, .dead, .dead, .dead, .dead, .dead, .dead, .dead, .dead, .dead, .dead, .dead, .dead, .dead, .dead, .dead, .dead, .dead, .dead, .dead, .dead, .dead, .dead, .dead, .dead, .dead, .dead, .dead, .dead, .dead, .dead, .dead, .dead, .dead, .dead, .dead, .dead, .dead, .dead, .dead, .dead, .dead, .dead, .dead, .dead, .dead], stk := [], heap := [(80, .var (.arr 8 (.int .u32)) (.pv (.arr 8 (.int .u32)) y80)), (40, .var (.arr 8 (.int .u32)) (.pv (.arr 8 (.int .u32)) (List.replicate 8 (0 : Int)))), (20, .var (.arr 8 (.int .u32)) (.pv (.arr 8 (.int .u32)) a0))] }
noncomputable def spec_l01Mix_l4_o8 (y80 : (List Int)) : St := { env := [.dead, .dead, .dead, .dead, .ptr 40 (.arr 8 (.int .u32)) [], .dead, .dead, .dead, .ptr 80 (.arr 8 (.int .u32)) [], .dead, .dead, .dead, .dead, .dead, .dead, .dead, .dead, .dead, .dead, .dead, .dead, .dead, .dead, .dead, .dead, .dead, .dead, .dead, .dead, .dead, .dead, .dead, .dead, .dead, .dead, .dead, .dead, .dead, .dead, .dead, .dead, .dead, .dead, .dead, .dead, .dead, .dead, .dead, .dead, .dead, .dead, .dead, .dead, .dead, .dead, .dead, .dead, .dead, .dead, .dead, .dead, .dead, .dead, .dead, .dead, .dead, .dead, .dead, .dead, .dead, .dead, .dead, .dead, .dead, .dead, .dead, .dead, .dead, .dead, .dead, .dead, .dead, .dead, .dead, .dead, .dead, .dead, .dead, .dead, .dead, .dead, .dead, .dead, .dead, .dead, .dead], stk := [], heap := [(80, .var (.arr 8 (.int .u32)) (.pv (.arr 8 (.int .u32)) y80)), (40, .var (.arr 8 (.int .u32)) (.pv (.arr 8 (.int .u32)) (List.replicate 8 (0 : Int))))] }
noncomputable def spec_l01Mix_l4_b (rec : (List Int) → Int → Option (shDen spec_l01Mix_sh)) (ke8 : (List Int) → Option (shDen spec_l01Mix_sh)) (a0 : (List Int)) (y80 : (List Int)) (x13 : Int) : Option (shDen spec_l01Mix_sh) :=
 (cond (decide (x13 < (8 : Int)))
 (cond ((decide ((0 : Int) ≤ x13)) && (decide (x13 < (8 : Int))))
 (cond ((decide ((0 : Int) ≤ x13)) && (decide (x13 < (8 : Int))))
 (cond ((decide ((0 : Int) ≤ x13)) && (decide (x13 < (8 : Int))))
 (rec (y80.set (x13.toNat) (bitI .xor .u32 (y80.getD (x13.toNat) (0 : Int)) (a0.getD (x13.toNat) (0 : Int)))) (IntKind.wrap .i64 (x13 + (1 : Int))))
 none)
 none)
 none)
 (ke8 y80))
noncomputable def spec_l01Mix_l4_L (ke8 : (List Int) → Option (shDen spec_l01Mix_sh)) (a0 : (List Int)) : Nat → (List Int) → Int → Option (shDen spec_l01Mix_sh)
 | 0 => fun _ _ => none
 | n + 1 => spec_l01Mix_l4_b (spec_l01Mix_l4_L ke8 a0 n) ke8 a0
noncomputable def spec_l01Mix_l3_b (rec : Int → (List Int) → Option (shDen spec_l01Mix_sh)) (ke6 : (List Int) → Option (shDen spec_l01Mix_sh)) (a0 : (List Int)) (y50 : (List Int)) (x9 : Int) (x10 : Int) (y80 : (List Int)) : Option (shDen spec_l01Mix_sh) :=
 (cond (decide (x10 < (8 : Int)))
 (cond ((decide ((0 : Int) ≤ x10)) && (decide (x10 < (8 : Int))))
 (cond ((decide ((0 : Int) ≤ (Int.tmod (IntKind.wrap .i64 (x10 + (IntKind.wrap .i64 ((3 : Int) * x9)))) (8 : Int)))) && (decide ((Int.tmod (IntKind.wrap .i64 (x10 + (IntKind.wrap .i64 ((3 : Int) * x9)))) (8 : Int)) < (8 : Int))))
 (bindO (spec_l01Turn_r (IntKind.wrap .u32 ((IntKind.wrap .u32 ((y80.getD (x10.toNat) (0 : Int)) + (y50.getD ((Int.tmod (IntKind.wrap .i64 (x10 + (IntKind.wrap .i64 ((3 : Int) * x9)))) (8 : Int)).toNat) (0 : Int)))) + (IntKind.wrap .u32 ((2654435769 : Int) * (IntKind.wrap .u32 (IntKind.wrap .i64 ((IntKind.wrap .i64 ((IntKind.wrap .i64 ((8 : Int) * x9)) + x10)) + (1 : Int)))))))) (7 : Int)) fun (b7 : Int) => (cond ((decide ((0 : Int) ≤ (Int.tmod (IntKind.wrap .i64 (x10 + (1 : Int))) (8 : Int)))) && (decide ((Int.tmod (IntKind.wrap .i64 (x10 + (1 : Int))) (8 : Int)) < (8 : Int))))
 (cond ((decide ((0 : Int) ≤ (Int.tmod (IntKind.wrap .i64 (x10 + (5 : Int))) (8 : Int)))) && (decide ((Int.tmod (IntKind.wrap .i64 (x10 + (5 : Int))) (8 : Int)) < (8 : Int))))
 (bindO (spec_l01Turn_r (y80.getD ((Int.tmod (IntKind.wrap .i64 (x10 + (5 : Int))) (8 : Int)).toNat) (0 : Int)) (13 : Int)) fun (b8 : Int) => (cond ((decide ((0 : Int) ≤ x10)) && (decide (x10 < (8 : Int))))
 (rec (IntKind.wrap .i64 (x10 + (1 : Int))) (y80.set (x10.toNat) (IntKind.wrap .u32 ((bitI .xor .u32 b7 (y80.getD ((Int.tmod (IntKind.wrap .i64 (x10 + (1 : Int))) (8 : Int)).toNat) (0 : Int))) + b8))))
 none))
 none)
 none))
 none)
 none)
 (ke6 y80))
noncomputable def spec_l01Mix_l3_L (ke6 : (List Int) → Option (shDen spec_l01Mix_sh)) (a0 : (List Int)) (y50 : (List Int)) (x9 : Int) : Nat → Int → (List Int) → Option (shDen spec_l01Mix_sh)
 | 0 => fun _ _ => none
 | n + 1 => spec_l01Mix_l3_b (spec_l01Mix_l3_L ke6 a0 y50 x9 n) ke6 a0 y50 x9
noncomputable def spec_l01Mix_l2_b (rec : (List Int) → Int → (List Int) → Option (shDen spec_l01Mix_sh)) (ke4 : (List Int) → Option (shDen spec_l01Mix_sh)) (a0 : (List Int)) (y50 : (List Int)) (x9 : Int) (y80 : (List Int)) : Option (shDen spec_l01Mix_sh) :=
 (cond (decide (x9 < (12 : Int)))
 (spec_l01Mix_l3_L (fun y80 => (rec y50 (IntKind.wrap .i64 (x9 + (1 : Int))) y80)) a0 y50 x9 FUEL (0 : Int) y80)
 (ke4 y80))
noncomputable def spec_l01Mix_l2_L (ke4 : (List Int) → Option (shDen spec_l01Mix_sh)) (a0 : (List Int)) : Nat → (List Int) → Int → (List Int) → Option (shDen spec_l01Mix_sh)
 | 0 => fun _ _ _ => none
 | n + 1 => spec_l01Mix_l2_b (spec_l01Mix_l2_L ke4 a0 n) ke4 a0
noncomputable def spec_l01Mix_l1_b (rec : Int → (List Int) → Option (shDen spec_l01Mix_sh)) (ke2 : (List Int) → Option (shDen spec_l01Mix_sh)) (a0 : (List Int)) (a1 : (List Int)) (x6 : Int) (x7 : Int) (y50 : (List Int)) : Option (shDen spec_l01Mix_sh) :=
 (cond (decide ((0 : Int) ≤ x7))
 (cond ((decide ((0 : Int) ≤ x6)) && (decide (x6 < (8 : Int))))
 (cond ((decide ((0 : Int) ≤ (IntKind.wrap .i64 ((IntKind.wrap .i64 ((4 : Int) * x6)) + x7)))) && (decide ((IntKind.wrap .i64 ((IntKind.wrap .i64 ((4 : Int) * x6)) + x7)) < (32 : Int))))
 (cond ((decide ((0 : Int) ≤ x6)) && (decide (x6 < (8 : Int))))
 (rec (IntKind.wrap .i64 (x7 - (1 : Int))) (y50.set (x6.toNat) (bitI .or .u32 (shlI .u32 (y50.getD (x6.toNat) (0 : Int)) (8 : Int)) (IntKind.wrap .u32 (a1.getD ((IntKind.wrap .i64 ((IntKind.wrap .i64 ((4 : Int) * x6)) + x7)).toNat) (0 : Int))))))
 none)
 none)
 none)
 (ke2 y50))
noncomputable def spec_l01Mix_l1_L (ke2 : (List Int) → Option (shDen spec_l01Mix_sh)) (a0 : (List Int)) (a1 : (List Int)) (x6 : Int) : Nat → Int → (List Int) → Option (shDen spec_l01Mix_sh)
 | 0 => fun _ _ => none
 | n + 1 => spec_l01Mix_l1_b (spec_l01Mix_l1_L ke2 a0 a1 x6 n) ke2 a0 a1 x6
noncomputable def spec_l01Mix_l0_b (rec : Int → (List Int) → Option (shDen spec_l01Mix_sh)) (ke0 : (List Int) → Option (shDen spec_l01Mix_sh)) (a0 : (List Int)) (a1 : (List Int)) (x6 : Int) (y50 : (List Int)) : Option (shDen spec_l01Mix_sh) :=
 (cond (decide (x6 < (8 : Int)))
 (spec_l01Mix_l1_L (fun y50 => (rec (IntKind.wrap .i64 (x6 + (1 : Int))) y50)) a0 a1 x6 FUEL (3 : Int) y50)
 (ke0 y50))
noncomputable def spec_l01Mix_l0_L (ke0 : (List Int) → Option (shDen spec_l01Mix_sh)) (a0 : (List Int)) (a1 : (List Int)) : Nat → Int → (List Int) → Option (shDen spec_l01Mix_sh)
 | 0 => fun _ _ => none
 | n + 1 => spec_l01Mix_l0_b (spec_l01Mix_l0_L ke0 a0 a1 n) ke0 a0 a1
noncomputable def spec_l01Mix_r (a0 : (List Int)) (a1 : (List Int)) : Option (shDen spec_l01Mix_sh) :=
 (spec_l01Mix_l0_L (fun y50 => (spec_l01Mix_l2_L (fun y80 => (spec_l01Mix_l4_L (fun y80 => (some y80)) a0 FUEL y80 (0 : Int))) a0 FUEL y50 (0 : Int) a0)) a0 a1 FUEL (0 : Int) (List.replicate 8 (0 : Int)))
theorem spec_l01Mix_l4_round (k : Nat) (K : Ex → St → Option (shDen spec_l01Mix_sh)) (n : Nat) (a0 : (List Int)) (y80 : (List Int)) (x13 : Int) : (loopK (spec_l01Mix_cx k) 0 (execK (spec_l01Mix_cx k) (callK (spec_l01Mix_cx k) 8) 0 122 (sub spec_l01Mix_c [1, 1, 1, 1, 1, 0, 1, 0, 0])) spec_l01Mix_l4_cut K (n + 1) (spec_l01Mix_l4_s a0 y80 x13) : Option (shDen spec_l01Mix_sh)) =
 ((cond (decide (x13 < (8 : Int)))
 (cond ((decide ((0 : Int) ≤ x13)) && (decide (x13 < (8 : Int))))
 (cond ((decide ((0 : Int) ≤ x13)) && (decide (x13 < (8 : Int))))
 (cond ((decide ((0 : Int) ≤ x13)) && (decide (x13 < (8 : Int))))
 (loopK (spec_l01Mix_cx k) 0 (execK (spec_l01Mix_cx k) (callK (spec_l01Mix_cx k) 8) 0 122 (sub spec_l01Mix_c [1, 1, 1, 1, 1, 0, 1, 0, 0])) spec_l01Mix_l4_cut K n (spec_l01Mix_l4_s a0 (y80.set (x13.toNat) (bitI .xor .u32 (y80.getD (x13.toNat) (0 : Int)) (a0.getD (x13.toNat) (0 : Int)))) (IntKind.wrap .i64 (x13 + (1 : Int)))))
 none)
 none)
 none)
 (K (.exit 8) (spec_l01Mix_l4_o8 y80))) : Option (shDen spec_l01Mix_sh)) := by kernel_rfl

theorem spec_l01Mix_l4_exit8 (k : Nat)  (y80 : (List Int)) : ((blkK 8 (seqK (execK (spec_l01Mix_cx k) (callK (spec_l01Mix_cx k) 8) 0 122 (sub spec_l01Mix_c [1, 1, 1, 1, 1, 1])) (finK (spec_l01Mix_cx k) spec_l01Mix_i spec_l01Mix_sh))) (.exit 8) (spec_l01Mix_l4_o8 y80) : Option (shDen spec_l01Mix_sh)) =
 ((some y80) : Option (shDen spec_l01Mix_sh)) := by kernel_rfl

theorem spec_l01Mix_l4_congr (ke8 : (List Int) → Option (shDen spec_l01Mix_sh)) (ke8' : (List Int) → Option (shDen spec_l01Mix_sh)) (a0 : (List Int)) (n : Nat) (y80 : (List Int)) (x13 : Int) (hke8 : ∀ y80, ke8 y80 = ke8' y80) : spec_l01Mix_l4_L ke8 a0 n y80 x13 = spec_l01Mix_l4_L ke8' a0 n y80 x13 := by
 have : ke8 = ke8' := (by funext y80; exact hke8 y80); subst this; rfl

theorem spec_l01Mix_l4_L_eq (K : Ex → St → Option (shDen spec_l01Mix_sh)) (a0 : (List Int)) : ∀ (n : Nat) (y80 : (List Int)) (x13 : Int), (loopK (spec_l01Mix_cx FUEL) 0 (execK (spec_l01Mix_cx FUEL) (callK (spec_l01Mix_cx FUEL) 8) 0 122 (sub spec_l01Mix_c [1, 1, 1, 1, 1, 0, 1, 0, 0])) spec_l01Mix_l4_cut K n (spec_l01Mix_l4_s a0 y80 x13) : Option (shDen spec_l01Mix_sh)) = spec_l01Mix_l4_L (fun y80 => K (.exit 8) (spec_l01Mix_l4_o8 y80)) a0 n y80 x13 := by
 intro n
 induction n with
 | zero => intros; rfl
 | succ n ih =>
  intro y80 x13
  exact (spec_l01Mix_l4_round FUEL K n a0 y80 x13).trans (condC (condC (condC (condC (ih (y80.set (x13.toNat) (bitI .xor .u32 (y80.getD (x13.toNat) (0 : Int)) (a0.getD (x13.toNat) (0 : Int)))) (IntKind.wrap .i64 (x13 + (1 : Int)))) (rfl)) (rfl)) (rfl)) (rfl))

theorem spec_l01Mix_l3_round (k : Nat) (K : Ex → St → Option (shDen spec_l01Mix_sh)) (n : Nat) (a0 : (List Int)) (y50 : (List Int)) (x9 : Int) (x10 : Int) (y80 : (List Int)) : (loopK (spec_l01Mix_cx k) 0 (execK (spec_l01Mix_cx k) (callK (spec_l01Mix_cx k) 8) 0 122 (sub spec_l01Mix_c [1, 1, 1, 1, 0, 1, 0, 0, 1, 0, 0, 1, 0, 0])) spec_l01Mix_l3_cut K (n + 1) (spec_l01Mix_l3_s a0 y50 x9 x10 y80) : Option (shDen spec_l01Mix_sh)) =
 ((cond (decide (x10 < (8 : Int)))
 (cond ((decide ((0 : Int) ≤ x10)) && (decide (x10 < (8 : Int))))
 (cond ((decide ((0 : Int) ≤ (Int.tmod (IntKind.wrap .i64 (x10 + (IntKind.wrap .i64 ((3 : Int) * x9)))) (8 : Int)))) && (decide ((Int.tmod (IntKind.wrap .i64 (x10 + (IntKind.wrap .i64 ((3 : Int) * x9)))) (8 : Int)) < (8 : Int))))
 (bindO (spec_l01Turn_r (IntKind.wrap .u32 ((IntKind.wrap .u32 ((y80.getD (x10.toNat) (0 : Int)) + (y50.getD ((Int.tmod (IntKind.wrap .i64 (x10 + (IntKind.wrap .i64 ((3 : Int) * x9)))) (8 : Int)).toNat) (0 : Int)))) + (IntKind.wrap .u32 ((2654435769 : Int) * (IntKind.wrap .u32 (IntKind.wrap .i64 ((IntKind.wrap .i64 ((IntKind.wrap .i64 ((8 : Int) * x9)) + x10)) + (1 : Int)))))))) (7 : Int)) fun (b7 : Int) => (cond ((decide ((0 : Int) ≤ (Int.tmod (IntKind.wrap .i64 (x10 + (1 : Int))) (8 : Int)))) && (decide ((Int.tmod (IntKind.wrap .i64 (x10 + (1 : Int))) (8 : Int)) < (8 : Int))))
 (cond ((decide ((0 : Int) ≤ (Int.tmod (IntKind.wrap .i64 (x10 + (5 : Int))) (8 : Int)))) && (decide ((Int.tmod (IntKind.wrap .i64 (x10 + (5 : Int))) (8 : Int)) < (8 : Int))))
 (bindO (spec_l01Turn_r (y80.getD ((Int.tmod (IntKind.wrap .i64 (x10 + (5 : Int))) (8 : Int)).toNat) (0 : Int)) (13 : Int)) fun (b8 : Int) => (cond ((decide ((0 : Int) ≤ x10)) && (decide (x10 < (8 : Int))))
 (loopK (spec_l01Mix_cx k) 0 (execK (spec_l01Mix_cx k) (callK (spec_l01Mix_cx k) 8) 0 122 (sub spec_l01Mix_c [1, 1, 1, 1, 0, 1, 0, 0, 1, 0, 0, 1, 0, 0])) spec_l01Mix_l3_cut K n (spec_l01Mix_l3_s a0 y50 x9 (IntKind.wrap .i64 (x10 + (1 : Int))) (y80.set (x10.toNat) (IntKind.wrap .u32 ((bitI .xor .u32 b7 (y80.getD ((Int.tmod (IntKind.wrap .i64 (x10 + (1 : Int))) (8 : Int)).toNat) (0 : Int))) + b8)))))
 none))
 none)
 none))
 none)
 none)
 (K (.exit 6) (spec_l01Mix_l3_o6 a0 y50 x9 y80))) : Option (shDen spec_l01Mix_sh)) := by kernel_rfl

theorem spec_l01Mix_l3_exit6 (k : Nat) (K : Ex → St → Option (shDen spec_l01Mix_sh)) (n : Nat) (a0 : (List Int)) (y50 : (List Int)) (x9 : Int) (y80 : (List Int)) : ((blkK 6 (blkK 5 (seqK (execK (spec_l01Mix_cx k) (callK (spec_l01Mix_cx k) 8) 0 122 (sub spec_l01Mix_c [1, 1, 1, 1, 0, 1, 0, 0, 1, 1])) (iterK (spec_l01Mix_cx k) 0 spec_l01Mix_l2_cut (loopK (spec_l01Mix_cx k) 0 (execK (spec_l01Mix_cx k) (callK (spec_l01Mix_cx k) 8) 0 122 (sub spec_l01Mix_c [1, 1, 1, 1, 0, 1, 0, 0])) spec_l01Mix_l2_cut K n) K)))) (.exit 6) (spec_l01Mix_l3_o6 a0 y50 x9 y80) : Option (shDen spec_l01Mix_sh)) =
 ((loopK (spec_l01Mix_cx k) 0 (execK (spec_l01Mix_cx k) (callK (spec_l01Mix_cx k) 8) 0 122 (sub spec_l01Mix_c [1, 1, 1, 1, 0, 1, 0, 0])) spec_l01Mix_l2_cut K n (spec_l01Mix_l2_s a0 y50 (IntKind.wrap .i64 (x9 + (1 : Int))) y80)) : Option (shDen spec_l01Mix_sh)) := by kernel_rfl

theorem spec_l01Mix_l3_congr (ke6 : (List Int) → Option (shDen spec_l01Mix_sh)) (ke6' : (List Int) → Option (shDen spec_l01Mix_sh)) (a0 : (List Int)) (y50 : (List Int)) (x9 : Int) (n : Nat) (x10 : Int) (y80 : (List Int)) (hke6 : ∀ y80, ke6 y80 = ke6' y80) : spec_l01Mix_l3_L ke6 a0 y50 x9 n x10 y80 = spec_l01Mix_l3_L ke6' a0 y50 x9 n x10 y80 := by
 have : ke6 = ke6' := (by funext y80; exact hke6 y80); subst this; rfl

theorem spec_l01Mix_l3_L_eq (K : Ex → St → Option (shDen spec_l01Mix_sh)) (a0 : (List Int)) (y50 : (List Int)) (x9 : Int) : ∀ (n : Nat) (x10 : Int) (y80 : (List Int)), (loopK (spec_l01Mix_cx FUEL) 0 (execK (spec_l01Mix_cx FUEL) (callK (spec_l01Mix_cx FUEL) 8) 0 122 (sub spec_l01Mix_c [1, 1, 1, 1, 0, 1, 0, 0, 1, 0, 0, 1, 0, 0])) spec_l01Mix_l3_cut K n (spec_l01Mix_l3_s a0 y50 x9 x10 y80) : Option (shDen spec_l01Mix_sh)) = spec_l01Mix_l3_L (fun y80 => K (.exit 6) (spec_l01Mix_l3_o6 a0 y50 x9 y80)) a0 y50 x9 n x10 y80 := by
 intro n
 induction n with
 | zero => intros; rfl
 | succ n ih =>
  intro x10 y80
  exact (spec_l01Mix_l3_round FUEL K n a0 y50 x9 x10 y80).trans (condC (condC (condC (bindC (fun b7 => condC (condC (bindC (fun b8 => condC (ih (IntKind.wrap .i64 (x10 + (1 : Int))) (y80.set (x10.toNat) (IntKind.wrap .u32 ((bitI .xor .u32 b7 (y80.getD ((Int.tmod (IntKind.wrap .i64 (x10 + (1 : Int))) (8 : Int)).toNat) (0 : Int))) + b8)))) (rfl))) (rfl)) (rfl))) (rfl)) (rfl)) (rfl))

theorem spec_l01Mix_l2_round (k : Nat) (K : Ex → St → Option (shDen spec_l01Mix_sh)) (n : Nat) (a0 : (List Int)) (y50 : (List Int)) (x9 : Int) (y80 : (List Int)) : (loopK (spec_l01Mix_cx k) 0 (execK (spec_l01Mix_cx k) (callK (spec_l01Mix_cx k) 8) 0 122 (sub spec_l01Mix_c [1, 1, 1, 1, 0, 1, 0, 0])) spec_l01Mix_l2_cut K (n + 1) (spec_l01Mix_l2_s a0 y50 x9 y80) : Option (shDen spec_l01Mix_sh)) =
 ((cond (decide (x9 < (12 : Int)))
 (loopK (spec_l01Mix_cx k) 0 (execK (spec_l01Mix_cx k) (callK (spec_l01Mix_cx k) 8) 0 122 (sub spec_l01Mix_c [1, 1, 1, 1, 0, 1, 0, 0, 1, 0, 0, 1, 0, 0])) spec_l01Mix_l3_cut (blkK 6 (blkK 5 (seqK (execK (spec_l01Mix_cx k) (callK (spec_l01Mix_cx k) 8) 0 122 (sub spec_l01Mix_c [1, 1, 1, 1, 0, 1, 0, 0, 1, 1])) (iterK (spec_l01Mix_cx k) 0 spec_l01Mix_l2_cut (loopK (spec_l01Mix_cx k) 0 (execK (spec_l01Mix_cx k) (callK (spec_l01Mix_cx k) 8) 0 122 (sub spec_l01Mix_c [1, 1, 1, 1, 0, 1, 0, 0])) spec_l01Mix_l2_cut K n) K)))) k (spec_l01Mix_l3_s a0 y50 x9 (0 : Int) y80))
 (K (.exit 4) (spec_l01Mix_l2_o4 a0 y80))) : Option (shDen spec_l01Mix_sh)) := by kernel_rfl

theorem spec_l01Mix_l2_exit4 (k : Nat)  (a0 : (List Int)) (y80 : (List Int)) : ((blkK 4 (seqK (execK (spec_l01Mix_cx k) (callK (spec_l01Mix_cx k) 8) 0 122 (sub spec_l01Mix_c [1, 1, 1, 1, 1])) (finK (spec_l01Mix_cx k) spec_l01Mix_i spec_l01Mix_sh))) (.exit 4) (spec_l01Mix_l2_o4 a0 y80) : Option (shDen spec_l01Mix_sh)) =
 ((loopK (spec_l01Mix_cx k) 0 (execK (spec_l01Mix_cx k) (callK (spec_l01Mix_cx k) 8) 0 122 (sub spec_l01Mix_c [1, 1, 1, 1, 1, 0, 1, 0, 0])) spec_l01Mix_l4_cut (blkK 8 (seqK (execK (spec_l01Mix_cx k) (callK (spec_l01Mix_cx k) 8) 0 122 (sub spec_l01Mix_c [1, 1, 1, 1, 1, 1])) (finK (spec_l01Mix_cx k) spec_l01Mix_i spec_l01Mix_sh))) k (spec_l01Mix_l4_s a0 y80 (0 : Int))) : Option (shDen spec_l01Mix_sh)) := by kernel_rfl

theorem spec_l01Mix_l2_congr (ke4 : (List Int) → Option (shDen spec_l01Mix_sh)) (ke4' : (List Int) → Option (shDen spec_l01Mix_sh)) (a0 : (List Int)) (n : Nat) (y50 : (List Int)) (x9 : Int) (y80 : (List Int)) (hke4 : ∀ y80, ke4 y80 = ke4' y80) : spec_l01Mix_l2_L ke4 a0 n y50 x9 y80 = spec_l01Mix_l2_L ke4' a0 n y50 x9 y80 := by
 have : ke4 = ke4' := (by funext y80; exact hke4 y80); subst this; rfl

theorem spec_l01Mix_l2_L_eq (K : Ex → St → Option (shDen spec_l01Mix_sh)) (a0 : (List Int)) : ∀ (n : Nat) (y50 : (List Int)) (x9 : Int) (y80 : (List Int)), (loopK (spec_l01Mix_cx FUEL) 0 (execK (spec_l01Mix_cx FUEL) (callK (spec_l01Mix_cx FUEL) 8) 0 122 (sub spec_l01Mix_c [1, 1, 1, 1, 0, 1, 0, 0])) spec_l01Mix_l2_cut K n (spec_l01Mix_l2_s a0 y50 x9 y80) : Option (shDen spec_l01Mix_sh)) = spec_l01Mix_l2_L (fun y80 => K (.exit 4) (spec_l01Mix_l2_o4 a0 y80)) a0 n y50 x9 y80 := by
 intro n
 induction n with
 | zero => intros; rfl
 | succ n ih =>
  intro y50 x9 y80
  exact (spec_l01Mix_l2_round FUEL K n a0 y50 x9 y80).trans (condC ((spec_l01Mix_l3_L_eq _ a0 y50 x9 FUEL (0 : Int) y80).trans (spec_l01Mix_l3_congr _ _ a0 y50 x9 FUEL (0 : Int) y80 (fun y80 => (spec_l01Mix_l3_exit6 FUEL K n a0 y50 x9 y80).trans (ih y50 (IntKind.wrap .i64 (x9 + (1 : Int))) y80)))) (rfl))

theorem spec_l01Mix_l1_round (k : Nat) (K : Ex → St → Option (shDen spec_l01Mix_sh)) (n : Nat) (a0 : (List Int)) (a1 : (List Int)) (x6 : Int) (x7 : Int) (y50 : (List Int)) : (loopK (spec_l01Mix_cx k) 0 (execK (spec_l01Mix_cx k) (callK (spec_l01Mix_cx k) 8) 0 122 (sub spec_l01Mix_c [1, 1, 0, 1, 0, 0, 1, 0, 0, 1, 0, 0])) spec_l01Mix_l1_cut K (n + 1) (spec_l01Mix_l1_s a0 a1 x6 x7 y50) : Option (shDen spec_l01Mix_sh)) =
 ((cond (decide ((0 : Int) ≤ x7))
 (cond ((decide ((0 : Int) ≤ x6)) && (decide (x6 < (8 : Int))))
 (cond ((decide ((0 : Int) ≤ (IntKind.wrap .i64 ((IntKind.wrap .i64 ((4 : Int) * x6)) + x7)))) && (decide ((IntKind.wrap .i64 ((IntKind.wrap .i64 ((4 : Int) * x6)) + x7)) < (32 : Int))))
 (cond ((decide ((0 : Int) ≤ x6)) && (decide (x6 < (8 : Int))))
 (loopK (spec_l01Mix_cx k) 0 (execK (spec_l01Mix_cx k) (callK (spec_l01Mix_cx k) 8) 0 122 (sub spec_l01Mix_c [1, 1, 0, 1, 0, 0, 1, 0, 0, 1, 0, 0])) spec_l01Mix_l1_cut K n (spec_l01Mix_l1_s a0 a1 x6 (IntKind.wrap .i64 (x7 - (1 : Int))) (y50.set (x6.toNat) (bitI .or .u32 (shlI .u32 (y50.getD (x6.toNat) (0 : Int)) (8 : Int)) (IntKind.wrap .u32 (a1.getD ((IntKind.wrap .i64 ((IntKind.wrap .i64 ((4 : Int) * x6)) + x7)).toNat) (0 : Int)))))))
 none)
 none)
 none)
 (K (.exit 2) (spec_l01Mix_l1_o2 a0 a1 x6 y50))) : Option (shDen spec_l01Mix_sh)) := by kernel_rfl

theorem spec_l01Mix_l1_exit2 (k : Nat) (K : Ex → St → Option (shDen spec_l01Mix_sh)) (n : Nat) (a0 : (List Int)) (a1 : (List Int)) (x6 : Int) (y50 : (List Int)) : ((blkK 2 (blkK 1 (seqK (execK (spec_l01Mix_cx k) (callK (spec_l01Mix_cx k) 8) 0 122 (sub spec_l01Mix_c [1, 1, 0, 1, 0, 0, 1, 1])) (iterK (spec_l01Mix_cx k) 0 spec_l01Mix_l0_cut (loopK (spec_l01Mix_cx k) 0 (execK (spec_l01Mix_cx k) (callK (spec_l01Mix_cx k) 8) 0 122 (sub spec_l01Mix_c [1, 1, 0, 1, 0, 0])) spec_l01Mix_l0_cut K n) K)))) (.exit 2) (spec_l01Mix_l1_o2 a0 a1 x6 y50) : Option (shDen spec_l01Mix_sh)) =
 ((loopK (spec_l01Mix_cx k) 0 (execK (spec_l01Mix_cx k) (callK (spec_l01Mix_cx k) 8) 0 122 (sub spec_l01Mix_c [1, 1, 0, 1, 0, 0])) spec_l01Mix_l0_cut K n (spec_l01Mix_l0_s a0 a1 (IntKind.wrap .i64 (x6 + (1 : Int))) y50)) : Option (shDen spec_l01Mix_sh)) := by kernel_rfl

theorem spec_l01Mix_l1_congr (ke2 : (List Int) → Option (shDen spec_l01Mix_sh)) (ke2' : (List Int) → Option (shDen spec_l01Mix_sh)) (a0 : (List Int)) (a1 : (List Int)) (x6 : Int) (n : Nat) (x7 : Int) (y50 : (List Int)) (hke2 : ∀ y50, ke2 y50 = ke2' y50) : spec_l01Mix_l1_L ke2 a0 a1 x6 n x7 y50 = spec_l01Mix_l1_L ke2' a0 a1 x6 n x7 y50 := by
 have : ke2 = ke2' := (by funext y50; exact hke2 y50); subst this; rfl

theorem spec_l01Mix_l1_L_eq (K : Ex → St → Option (shDen spec_l01Mix_sh)) (a0 : (List Int)) (a1 : (List Int)) (x6 : Int) : ∀ (n : Nat) (x7 : Int) (y50 : (List Int)), (loopK (spec_l01Mix_cx FUEL) 0 (execK (spec_l01Mix_cx FUEL) (callK (spec_l01Mix_cx FUEL) 8) 0 122 (sub spec_l01Mix_c [1, 1, 0, 1, 0, 0, 1, 0, 0, 1, 0, 0])) spec_l01Mix_l1_cut K n (spec_l01Mix_l1_s a0 a1 x6 x7 y50) : Option (shDen spec_l01Mix_sh)) = spec_l01Mix_l1_L (fun y50 => K (.exit 2) (spec_l01Mix_l1_o2 a0 a1 x6 y50)) a0 a1 x6 n x7 y50 := by
 intro n
 induction n with
 | zero => intros; rfl
 | succ n ih =>
  intro x7 y50
  exact (spec_l01Mix_l1_round FUEL K n a0 a1 x6 x7 y50).trans (condC (condC (condC (condC (ih (IntKind.wrap .i64 (x7 - (1 : Int))) (y50.set (x6.toNat) (bitI .or .u32 (shlI .u32 (y50.getD (x6.toNat) (0 : Int)) (8 : Int)) (IntKind.wrap .u32 (a1.getD ((IntKind.wrap .i64 ((IntKind.wrap .i64 ((4 : Int) * x6)) + x7)).toNat) (0 : Int)))))) (rfl)) (rfl)) (rfl)) (rfl))

theorem spec_l01Mix_l0_round (k : Nat) (K : Ex → St → Option (shDen spec_l01Mix_sh)) (n : Nat) (a0 : (List Int)) (a1 : (List Int)) (x6 : Int) (y50 : (List Int)) : (loopK (spec_l01Mix_cx k) 0 (execK (spec_l01Mix_cx k) (callK (spec_l01Mix_cx k) 8) 0 122 (sub spec_l01Mix_c [1, 1, 0, 1, 0, 0])) spec_l01Mix_l0_cut K (n + 1) (spec_l01Mix_l0_s a0 a1 x6 y50) : Option (shDen spec_l01Mix_sh)) =
 ((cond (decide (x6 < (8 : Int)))
 (loopK (spec_l01Mix_cx k) 0 (execK (spec_l01Mix_cx k) (callK (spec_l01Mix_cx k) 8) 0 122 (sub spec_l01Mix_c [1, 1, 0, 1, 0, 0, 1, 0, 0, 1, 0, 0])) spec_l01Mix_l1_cut (blkK 2 (blkK 1 (seqK (execK (spec_l01Mix_cx k) (callK (spec_l01Mix_cx k) 8) 0 122 (sub spec_l01Mix_c [1, 1, 0, 1, 0, 0, 1, 1])) (iterK (spec_l01Mix_cx k) 0 spec_l01Mix_l0_cut (loopK (spec_l01Mix_cx k) 0 (execK (spec_l01Mix_cx k) (callK (spec_l01Mix_cx k) 8) 0 122 (sub spec_l01Mix_c [1, 1, 0, 1, 0, 0])) spec_l01Mix_l0_cut K n) K)))) k (spec_l01Mix_l1_s a0 a1 x6 (3 : Int) y50))
 (K (.exit 0) (spec_l01Mix_l0_o0 a0 y50))) : Option (shDen spec_l01Mix_sh)) := by kernel_rfl

theorem spec_l01Mix_l0_exit0 (k : Nat)  (a0 : (List Int)) (y50 : (List Int)) : ((blkK 0 (seqK (execK (spec_l01Mix_cx k) (callK (spec_l01Mix_cx k) 8) 0 122 (sub spec_l01Mix_c [1, 1, 1])) (finK (spec_l01Mix_cx k) spec_l01Mix_i spec_l01Mix_sh))) (.exit 0) (spec_l01Mix_l0_o0 a0 y50) : Option (shDen spec_l01Mix_sh)) =
 ((loopK (spec_l01Mix_cx k) 0 (execK (spec_l01Mix_cx k) (callK (spec_l01Mix_cx k) 8) 0 122 (sub spec_l01Mix_c [1, 1, 1, 1, 0, 1, 0, 0])) spec_l01Mix_l2_cut (blkK 4 (seqK (execK (spec_l01Mix_cx k) (callK (spec_l01Mix_cx k) 8) 0 122 (sub spec_l01Mix_c [1, 1, 1, 1, 1])) (finK (spec_l01Mix_cx k) spec_l01Mix_i spec_l01Mix_sh))) k (spec_l01Mix_l2_s a0 y50 (0 : Int) a0)) : Option (shDen spec_l01Mix_sh)) := by kernel_rfl

theorem spec_l01Mix_l0_congr (ke0 : (List Int) → Option (shDen spec_l01Mix_sh)) (ke0' : (List Int) → Option (shDen spec_l01Mix_sh)) (a0 : (List Int)) (a1 : (List Int)) (n : Nat) (x6 : Int) (y50 : (List Int)) (hke0 : ∀ y50, ke0 y50 = ke0' y50) : spec_l01Mix_l0_L ke0 a0 a1 n x6 y50 = spec_l01Mix_l0_L ke0' a0 a1 n x6 y50 := by
 have : ke0 = ke0' := (by funext y50; exact hke0 y50); subst this; rfl

theorem spec_l01Mix_l0_L_eq (K : Ex → St → Option (shDen spec_l01Mix_sh)) (a0 : (List Int)) (a1 : (List Int)) : ∀ (n : Nat) (x6 : Int) (y50 : (List Int)), (loopK (spec_l01Mix_cx FUEL) 0 (execK (spec_l01Mix_cx FUEL) (callK (spec_l01Mix_cx FUEL) 8) 0 122 (sub spec_l01Mix_c [1, 1, 0, 1, 0, 0])) spec_l01Mix_l0_cut K n (spec_l01Mix_l0_s a0 a1 x6 y50) : Option (shDen spec_l01Mix_sh)) = spec_l01Mix_l0_L (fun y50 => K (.exit 0) (spec_l01Mix_l0_o0 a0 y50)) a0 a1 n x6 y50 := by
 intro n
 induction n with
 | zero => intros; rfl
 | succ n ih =>
  intro x6 y50
  exact (spec_l01Mix_l0_round FUEL K n a0 a1 x6 y50).trans (condC ((spec_l01Mix_l1_L_eq _ a0 a1 x6 FUEL (3 : Int) y50).trans (spec_l01Mix_l1_congr _ _ a0 a1 x6 FUEL (3 : Int) y50 (fun y50 => (spec_l01Mix_l1_exit2 FUEL K n a0 a1 x6 y50).trans (ih (IntKind.wrap .i64 (x6 + (1 : Int))) y50)))) (rfl))

theorem spec_l01Mix_start (k : Nat) (a0 : (List Int)) (a1 : (List Int)) : fnK (spec_l01Mix_cx k) 8 122 spec_l01Mix_i spec_l01Mix_sh [.pv (.arr 8 (.int .u32)) a0, .pv (.arr 32 (.int .u8)) a1] =
 ((loopK (spec_l01Mix_cx k) 0 (execK (spec_l01Mix_cx k) (callK (spec_l01Mix_cx k) 8) 0 122 (sub spec_l01Mix_c [1, 1, 0, 1, 0, 0])) spec_l01Mix_l0_cut (blkK 0 (seqK (execK (spec_l01Mix_cx k) (callK (spec_l01Mix_cx k) 8) 0 122 (sub spec_l01Mix_c [1, 1, 1])) (finK (spec_l01Mix_cx k) spec_l01Mix_i spec_l01Mix_sh))) k (spec_l01Mix_l0_s a0 a1 (0 : Int) (List.replicate 8 (0 : Int)))) : Option (shDen spec_l01Mix_sh)) := by kernel_rfl

theorem spec_l01Mix_run (a0 : (List Int)) (a1 : (List Int)) : fnK (spec_l01Mix_cx FUEL) 8 122 spec_l01Mix_i spec_l01Mix_sh [.pv (.arr 8 (.int .u32)) a0, .pv (.arr 32 (.int .u8)) a1] = spec_l01Mix_r a0 a1 :=
 (spec_l01Mix_start FUEL a0 a1).trans ((spec_l01Mix_l0_L_eq _ a0 a1 FUEL (0 : Int) (List.replicate 8 (0 : Int))).trans (spec_l01Mix_l0_congr _ _ a0 a1 FUEL (0 : Int) (List.replicate 8 (0 : Int)) (fun y50 => (spec_l01Mix_l0_exit0 FUEL  a0 y50).trans ((spec_l01Mix_l2_L_eq _ a0 FUEL y50 (0 : Int) a0).trans (spec_l01Mix_l2_congr _ _ a0 FUEL y50 (0 : Int) a0 (fun y80 => (spec_l01Mix_l2_exit4 FUEL  a0 y80).trans ((spec_l01Mix_l4_L_eq _ a0 FUEL y80 (0 : Int)).trans (spec_l01Mix_l4_congr _ _ a0 FUEL y80 (0 : Int) (fun y80 => (spec_l01Mix_l4_exit8 FUEL  y80).trans (rfl))))))))))

noncomputable def spec_l01Mix_con : Con := { ps := (.pair (.arr 8 (.int .u32)) (.pair (.arr 32 (.int .u8)) .unit)), sh := spec_l01Mix_sh, raw := fun x => spec_l01Mix_r x.1 x.2.1 }
theorem spec_l01Mix_conOk : ConOk Try.prog 122 spec_l01Mix_con := con_of_fn (spec_l01Mix_tabs FUEL) (depth := 8) spec_l01Mix_ok fun x y h => (spec_l01Mix_run x.1 x.2.1).trans h

noncomputable def spec_l02Word_inls : List (Nat × Inl) := []
noncomputable def spec_l02Word_cons : List (Nat × Con) := [(98, spec_l01Start_con), (122, spec_l01Mix_con)]
noncomputable def spec_l02Word_taks : List (Nat × ConT) := []
noncomputable def spec_l02Word_inps : List (Nat × ConI) := []
noncomputable def spec_l02Word_cuts : List (Nat × List (Nat × Cut)) := []
noncomputable def spec_l02Word_cx (k : Nat) : Cx := mkCx tys tbytes telem nozero (Ai.look spec_l02Word_inls) (Ai.look spec_l02Word_cons) (Ai.look spec_l02Word_taks) (Ai.look spec_l02Word_inps) (fun f id => match Ai.look spec_l02Word_cuts f with | some l => Ai.look l id | none => none) k []
theorem spec_l02Word_tabs (k : Nat) : TabsOk Try.prog (spec_l02Word_cx k) := ⟨tab_mk tabs_ok _ _ _ _ _ _ _, look_all (Q := ConOk Try.prog) _ ⟨spec_l01Start_conOk, spec_l01Mix_conOk, trivial⟩, look_all (Q := TakOk Try.prog) _ trivial, look_all (Q := InpOk Try.prog) _ trivial, look_all (Q := InlOk Try.prog) _ trivial, mixed_ok⟩
abbrev spec_l02Word_sh : List Sh := [.pl (.int .u32)]
noncomputable def spec_l02Word_r (a0 : Int) : Option (shDen spec_l02Word_sh) :=
 (bindO (spec_l01Start_r (7 : Int)) fun (b1 : (List Int)) => (bindO (spec_l01Mix_r b1 ((List.replicate 32 (0 : Int)).set 0 a0)) fun (b2 : (List Int)) => (some (b2.getD 0 (0 : Int)))))
theorem spec_l02Word_start (k : Nat) (a0 : Int) : fnK (spec_l02Word_cx k) 8 119 spec_l02Word_i spec_l02Word_sh [.pv (.int .u8) a0] =
 ((bindO (spec_l01Start_r (7 : Int)) fun (b1 : (List Int)) => (bindO (spec_l01Mix_r b1 ((List.replicate 32 (0 : Int)).set 0 a0)) fun (b2 : (List Int)) => (some (b2.getD 0 (0 : Int))))) : Option (shDen spec_l02Word_sh)) := by kernel_rfl

theorem spec_l02Word_run (a0 : Int) : fnK (spec_l02Word_cx FUEL) 8 119 spec_l02Word_i spec_l02Word_sh [.pv (.int .u8) a0] = spec_l02Word_r a0 :=
 (spec_l02Word_start FUEL a0).trans (rfl)

noncomputable def spec_l02Word_con : Con := { ps := (.pair (.int .u8) .unit), sh := spec_l02Word_sh, raw := fun x => spec_l02Word_r x.1 }
theorem spec_l02Word_conOk : ConOk Try.prog 119 spec_l02Word_con := con_of_fn (spec_l02Word_tabs FUEL) (depth := 8) spec_l02Word_ok fun x y h => (spec_l02Word_run x.1).trans h

noncomputable def spec_l02Roll_inls : List (Nat × Inl) := []
noncomputable def spec_l02Roll_cons : List (Nat × Con) := [(119, spec_l02Word_con)]
noncomputable def spec_l02Roll_taks : List (Nat × ConT) := []
noncomputable def spec_l02Roll_inps : List (Nat × ConI) := []
noncomputable def spec_l02Roll_cuts : List (Nat × List (Nat × Cut)) := []
noncomputable def spec_l02Roll_cx (k : Nat) : Cx := mkCx tys tbytes telem nozero (Ai.look spec_l02Roll_inls) (Ai.look spec_l02Roll_cons) (Ai.look spec_l02Roll_taks) (Ai.look spec_l02Roll_inps) (fun f id => match Ai.look spec_l02Roll_cuts f with | some l => Ai.look l id | none => none) k []
theorem spec_l02Roll_tabs (k : Nat) : TabsOk Try.prog (spec_l02Roll_cx k) := ⟨tab_mk tabs_ok _ _ _ _ _ _ _, look_all (Q := ConOk Try.prog) _ ⟨spec_l02Word_conOk, trivial⟩, look_all (Q := TakOk Try.prog) _ trivial, look_all (Q := InpOk Try.prog) _ trivial, look_all (Q := InlOk Try.prog) _ trivial, mixed_ok⟩
abbrev spec_l02Roll_sh : List Sh := [.pl (.int .u32)]
noncomputable def spec_l02Roll_r (a0 : Int) (a1 : Int) : Option (shDen spec_l02Roll_sh) :=
 (bindO (spec_l02Word_r a1) fun (b1 : Int) => (some (IntKind.wrap .u32 ((IntKind.wrap .u32 ((2 : Int) * a0)) + b1))))
theorem spec_l02Roll_start (k : Nat) (a0 : Int) (a1 : Int) : fnK (spec_l02Roll_cx k) 8 90 spec_l02Roll_i spec_l02Roll_sh [.pv (.int .u32) a0, .pv (.int .u8) a1] =
 ((bindO (spec_l02Word_r a1) fun (b1 : Int) => (some (IntKind.wrap .u32 ((IntKind.wrap .u32 ((2 : Int) * a0)) + b1)))) : Option (shDen spec_l02Roll_sh)) := by kernel_rfl

theorem spec_l02Roll_run (a0 : Int) (a1 : Int) : fnK (spec_l02Roll_cx FUEL) 8 90 spec_l02Roll_i spec_l02Roll_sh [.pv (.int .u32) a0, .pv (.int .u8) a1] = spec_l02Roll_r a0 a1 :=
 (spec_l02Roll_start FUEL a0 a1).trans (rfl)

noncomputable def spec_l02Roll_con : Con := { ps := (.pair (.int .u32) (.pair (.int .u8) .unit)), sh := spec_l02Roll_sh, raw := fun x => spec_l02Roll_r x.1 x.2.1 }
theorem spec_l02Roll_conOk : ConOk Try.prog 90 spec_l02Roll_con := con_of_fn (spec_l02Roll_tabs FUEL) (depth := 8) spec_l02Roll_ok fun x y h => (spec_l02Roll_run x.1 x.2.1).trans h

noncomputable def spec_l02Ends_inls : List (Nat × Inl) := []
noncomputable def spec_l02Ends_cons : List (Nat × Con) := []
noncomputable def spec_l02Ends_taks : List (Nat × ConT) := []
noncomputable def spec_l02Ends_inps : List (Nat × ConI) := []
noncomputable def spec_l02Ends_cuts : List (Nat × List (Nat × Cut)) := []
noncomputable def spec_l02Ends_cx (k : Nat) : Cx := mkCx tys tbytes telem nozero (Ai.look spec_l02Ends_inls) (Ai.look spec_l02Ends_cons) (Ai.look spec_l02Ends_taks) (Ai.look spec_l02Ends_inps) (fun f id => match Ai.look spec_l02Ends_cuts f with | some l => Ai.look l id | none => none) k []
theorem spec_l02Ends_tabs (k : Nat) : TabsOk Try.prog (spec_l02Ends_cx k) := ⟨tab_mk tabs_ok _ _ _ _ _ _ _, look_all (Q := ConOk Try.prog) _ trivial, look_all (Q := TakOk Try.prog) _ trivial, look_all (Q := InpOk Try.prog) _ trivial, look_all (Q := InlOk Try.prog) _ trivial, mixed_ok⟩
abbrev spec_l02Ends_sh : List Sh := [.pl .bool]
noncomputable def spec_l02Ends_r (a0 : (Int × (Int × (Int × Unit)))) (a1 : Int) (a2 : Int) : Option (shDen spec_l02Ends_sh) :=
 (cond (decide (a1 = a0.2.1))
 (some true)
 (cond (decide (a0.1 ≤ a1))
 (cond (decide ((IntKind.wrap .u64 a0.2.2.1) < (0 : Int)))
 none
 (some (decide ((bitI .and .u32 a2 (IntKind.wrap .u32 ((shlI .u32 (1 : Int) (IntKind.wrap .u64 a0.2.2.1)) - (1 : Int)))) = (0 : Int)))))
 (some false)))
theorem spec_l02Ends_start (k : Nat) (a0 : (Int × (Int × (Int × Unit)))) (a1 : Int) (a2 : Int) : fnK (spec_l02Ends_cx k) 8 94 spec_l02Ends_i spec_l02Ends_sh [.pv (.ref (.pair (.int .i64) (.pair (.int .i64) (.pair (.int .i64) .unit)))) a0, .pv (.int .i64) a1, .pv (.int .u32) a2] =
 ((cond (decide (a1 = a0.2.1))
 (some true)
 (cond (decide (a0.1 ≤ a1))
 (cond (decide ((IntKind.wrap .u64 a0.2.2.1) < (0 : Int)))
 none
 (some (decide ((bitI .and .u32 a2 (IntKind.wrap .u32 ((shlI .u32 (1 : Int) (IntKind.wrap .u64 a0.2.2.1)) - (1 : Int)))) = (0 : Int)))))
 (some false))) : Option (shDen spec_l02Ends_sh)) := by kernel_rfl

theorem spec_l02Ends_run (a0 : (Int × (Int × (Int × Unit)))) (a1 : Int) (a2 : Int) : fnK (spec_l02Ends_cx FUEL) 8 94 spec_l02Ends_i spec_l02Ends_sh [.pv (.ref (.pair (.int .i64) (.pair (.int .i64) (.pair (.int .i64) .unit)))) a0, .pv (.int .i64) a1, .pv (.int .u32) a2] = spec_l02Ends_r a0 a1 a2 :=
 (spec_l02Ends_start FUEL a0 a1 a2).trans (rfl)

noncomputable def spec_l02Ends_con : Con := { ps := (.pair (.ref (.pair (.int .i64) (.pair (.int .i64) (.pair (.int .i64) .unit)))) (.pair (.int .i64) (.pair (.int .u32) .unit))), sh := spec_l02Ends_sh, raw := fun x => spec_l02Ends_r x.1 x.2.1 x.2.2.1 }
theorem spec_l02Ends_conOk : ConOk Try.prog 94 spec_l02Ends_con := con_of_fn (spec_l02Ends_tabs FUEL) (depth := 8) spec_l02Ends_ok fun x y h => (spec_l02Ends_run x.1 x.2.1 x.2.2.1).trans h

noncomputable def spec_l02Feed_l0_cut : Cut := { keep := [0, 1, 3, 11, 12, 13], stk := [], ids := [90110, 90120], own := [(11, 90110, 32), (12, 90120, 25)], outs := [(1, [1, 11, 12], [90110, 90120])] }
noncomputable def spec_l02Feed_inls : List (Nat × Inl) := []
noncomputable def spec_l02Feed_cons : List (Nat × Con) := [(90, spec_l02Roll_con), (94, spec_l02Ends_con)]
noncomputable def spec_l02Feed_taks : List (Nat × ConT) := []
noncomputable def spec_l02Feed_inps : List (Nat × ConI) := []
noncomputable def spec_l02Feed_cuts : List (Nat × List (Nat × Cut)) := [(57, [(0, spec_l02Feed_l0_cut)])]
noncomputable def spec_l02Feed_cx (k : Nat) : Cx := mkCx tys tbytes telem nozero (Ai.look spec_l02Feed_inls) (Ai.look spec_l02Feed_cons) (Ai.look spec_l02Feed_taks) (Ai.look spec_l02Feed_inps) (fun f id => match Ai.look spec_l02Feed_cuts f with | some l => Ai.look l id | none => none) k []
theorem spec_l02Feed_tabs (k : Nat) : TabsOk Try.prog (spec_l02Feed_cx k) := ⟨tab_mk tabs_ok _ _ _ _ _ _ _, look_all (Q := ConOk Try.prog) _ ⟨spec_l02Roll_conOk, spec_l02Ends_conOk, trivial⟩, look_all (Q := TakOk Try.prog) _ trivial, look_all (Q := InpOk Try.prog) _ trivial, look_all (Q := InlOk Try.prog) _ trivial, mixed_ok⟩
abbrev spec_l02Feed_sh : List Sh := [.own 25 (.slice (.int .u8)), .pl (.int .u32), .own 5 (.int .u8)]
noncomputable def spec_l02Feed_l0_s (a0 : (Int × (Int × (Int × Unit)))) (a3 : (List Int)) (x1 : Int) (x13 : Int) (z90120 : (List Int)) (z90110 : (List (List Int))) : St := { env := [.pv (.ref (.pair (.int .i64) (.pair (.int .i64) (.pair (.int .i64) .unit)))) a0, .pv (.int .u32) x1, .dead, .pv (.slice (.int .u8)) a3, .dead, .dead, .dead, .dead, .dead, .dead, .dead, .sl 90110 (.slice (.int .u8)), .sl 90120 (.int .u8), .pv (.int .i64) x13, .dead, .dead, .dead, .dead, .dead, .dead, .dead, .dead, .dead, .dead, .dead, .dead, .dead, .dead, .dead, .dead, .dead, .dead, .dead, .dead, .dead, .dead, .dead, .dead, .dead, .dead, .dead, .dead, .dead, .dead, .dead, .dead, .dead, .dead, .dead, .dead], stk := [], heap := [(90120, .arr 5 (.int .u8) z90120), (90110, .arr 25 (.slice (.int .u8)) z90110)] }
noncomputable def spec_l02Feed_l0_o0 (x1 : Int) (z90120 : (List Int)) (z90110 : (List (List Int))) : St := { env := [.dead, .pv (.int .u32) x1, .dead, .dead, .dead, .dead, .dead, .dead, .dead, .dead, .dead, .sl 90110 (.slice (.int .u8)), .sl 90120 (.int .u8), .dead, .dead, .dead, .dead, .dead, .dead, .dead, .dead, .dead, .dead, .dead, .dead, .dead, .dead, .dead, .dead, .dead, .dead, .dead, .dead, .dead, .dead, .dead, .dead, .dead, .dead, .dead, .dead, .dead, .dead, .dead, .dead, .dead, .dead, .dead, .dead, .dead], stk := [], heap := [(90120, .arr 5 (.int .u8) z90120), (90110, .arr 25 (.slice (.int .u8)) z90110)] }
noncomputable def spec_l02Feed_l0_b (rec : Int → Int → (List Int) → (List (List Int)) → Option (shDen spec_l02Feed_sh)) (ke0 : Int → (List Int) → (List (List Int)) → Option (shDen spec_l02Feed_sh)) (a0 : (Int × (Int × (Int × Unit)))) (a3 : (List Int)) (x1 : Int) (x13 : Int) (z90120 : (List Int)) (z90110 : (List (List Int))) : Option (shDen spec_l02Feed_sh) :=
 (cond (decide (x13 < (a3.length : Int)))
 (cond ((decide ((0 : Int) ≤ x13)) && (decide (x13 < (a3.length : Int))))
 (cond (decide ((z90120.length + 1) * 1 ≤ 140737488355328) && decide (z90120.length + 1 ≤ 9223372036854775807))
 (cond ((decide ((0 : Int) ≤ x13)) && (decide (x13 < (a3.length : Int))))
 (bindO (spec_l02Roll_r x1 (a3.getD (x13.toNat) (0 : Int))) fun (b3 : Int) => (bindO (spec_l02Ends_r a0 ((z90120 ++ [(a3.getD (x13.toNat) (0 : Int))]).length : Int) b3) fun (b4 : Bool) => (cond b4
 (cond (decide ((z90110.length + 1) * 24 ≤ 140737488355328) && decide (z90110.length + 1 ≤ 9223372036854775807))
 (rec (0 : Int) (IntKind.wrap .i64 (x13 + (1 : Int))) [] (z90110 ++ [(z90120 ++ [(a3.getD (x13.toNat) (0 : Int))])]))
 none)
 (rec b3 (IntKind.wrap .i64 (x13 + (1 : Int))) (z90120 ++ [(a3.getD (x13.toNat) (0 : Int))]) z90110))))
 none)
 none)
 none)
 (ke0 x1 z90120 z90110))
noncomputable def spec_l02Feed_l0_L (ke0 : Int → (List Int) → (List (List Int)) → Option (shDen spec_l02Feed_sh)) (a0 : (Int × (Int × (Int × Unit)))) (a3 : (List Int)) : Nat → Int → Int → (List Int) → (List (List Int)) → Option (shDen spec_l02Feed_sh)
 | 0 => fun _ _ _ _ => none
 | n + 1 => spec_l02Feed_l0_b (spec_l02Feed_l0_L ke0 a0 a3 n) ke0 a0 a3
noncomputable def spec_l02Feed_r (a0 : (Int × (Int × (Int × Unit)))) (a1 : Int) (a2 : (List Int)) (a3 : (List Int)) : Option (shDen spec_l02Feed_sh) :=
 (cond (decide ((0 + a2.length) * 1 ≤ 140737488355328) && decide (0 + a2.length ≤ 9223372036854775807))
 (spec_l02Feed_l0_L (fun x1 z90120 z90110 => (some (z90110, (x1, z90120)))) a0 a3 FUEL a1 (0 : Int) ([] ++ a2) [])
 none)
theorem spec_l02Feed_l0_round (k : Nat) (K : Ex → St → Option (shDen spec_l02Feed_sh)) (n : Nat) (a0 : (Int × (Int × (Int × Unit)))) (a3 : (List Int)) (x1 : Int) (x13 : Int) (z90120 : (List Int)) (z90110 : (List (List Int))) : (loopK (spec_l02Feed_cx k) 0 (execK (spec_l02Feed_cx k) (callK (spec_l02Feed_cx k) 8) 0 57 (sub spec_l02Feed_c [1, 1, 1, 0, 1, 0, 0])) spec_l02Feed_l0_cut K (n + 1) (spec_l02Feed_l0_s a0 a3 x1 x13 z90120 z90110) : Option (shDen spec_l02Feed_sh)) =
 ((cond (decide (x13 < (a3.length : Int)))
 (cond ((decide ((0 : Int) ≤ x13)) && (decide (x13 < (a3.length : Int))))
 (cond (decide ((z90120.length + 1) * 1 ≤ 140737488355328) && decide (z90120.length + 1 ≤ 9223372036854775807))
 (cond ((decide ((0 : Int) ≤ x13)) && (decide (x13 < (a3.length : Int))))
 (bindO (spec_l02Roll_r x1 (a3.getD (x13.toNat) (0 : Int))) fun (b3 : Int) => (bindO (spec_l02Ends_r a0 ((z90120 ++ [(a3.getD (x13.toNat) (0 : Int))]).length : Int) b3) fun (b4 : Bool) => (cond b4
 (cond (decide ((z90110.length + 1) * 24 ≤ 140737488355328) && decide (z90110.length + 1 ≤ 9223372036854775807))
 (loopK (spec_l02Feed_cx k) 0 (execK (spec_l02Feed_cx k) (callK (spec_l02Feed_cx k) 8) 0 57 (sub spec_l02Feed_c [1, 1, 1, 0, 1, 0, 0])) spec_l02Feed_l0_cut K n (spec_l02Feed_l0_s a0 a3 (0 : Int) (IntKind.wrap .i64 (x13 + (1 : Int))) [] (z90110 ++ [(z90120 ++ [(a3.getD (x13.toNat) (0 : Int))])])))
 none)
 (loopK (spec_l02Feed_cx k) 0 (execK (spec_l02Feed_cx k) (callK (spec_l02Feed_cx k) 8) 0 57 (sub spec_l02Feed_c [1, 1, 1, 0, 1, 0, 0])) spec_l02Feed_l0_cut K n (spec_l02Feed_l0_s a0 a3 b3 (IntKind.wrap .i64 (x13 + (1 : Int))) (z90120 ++ [(a3.getD (x13.toNat) (0 : Int))]) z90110)))))
 none)
 none)
 none)
 (K (.exit 0) (spec_l02Feed_l0_o0 x1 z90120 z90110))) : Option (shDen spec_l02Feed_sh)) := by kernel_rfl

theorem spec_l02Feed_l0_exit0 (k : Nat)  (x1 : Int) (z90120 : (List Int)) (z90110 : (List (List Int))) : ((blkK 0 (seqK (execK (spec_l02Feed_cx k) (callK (spec_l02Feed_cx k) 8) 0 57 (sub spec_l02Feed_c [1, 1, 1, 1])) (finK (spec_l02Feed_cx k) spec_l02Feed_i spec_l02Feed_sh))) (.exit 0) (spec_l02Feed_l0_o0 x1 z90120 z90110) : Option (shDen spec_l02Feed_sh)) =
 ((some (z90110, (x1, z90120))) : Option (shDen spec_l02Feed_sh)) := by kernel_rfl

theorem spec_l02Feed_l0_congr (ke0 : Int → (List Int) → (List (List Int)) → Option (shDen spec_l02Feed_sh)) (ke0' : Int → (List Int) → (List (List Int)) → Option (shDen spec_l02Feed_sh)) (a0 : (Int × (Int × (Int × Unit)))) (a3 : (List Int)) (n : Nat) (x1 : Int) (x13 : Int) (z90120 : (List Int)) (z90110 : (List (List Int))) (hke0 : ∀ x1 z90120 z90110, ke0 x1 z90120 z90110 = ke0' x1 z90120 z90110) : spec_l02Feed_l0_L ke0 a0 a3 n x1 x13 z90120 z90110 = spec_l02Feed_l0_L ke0' a0 a3 n x1 x13 z90120 z90110 := by
 have : ke0 = ke0' := (by funext x1 z90120 z90110; exact hke0 x1 z90120 z90110); subst this; rfl

theorem spec_l02Feed_l0_L_eq (K : Ex → St → Option (shDen spec_l02Feed_sh)) (a0 : (Int × (Int × (Int × Unit)))) (a3 : (List Int)) : ∀ (n : Nat) (x1 : Int) (x13 : Int) (z90120 : (List Int)) (z90110 : (List (List Int))), (loopK (spec_l02Feed_cx FUEL) 0 (execK (spec_l02Feed_cx FUEL) (callK (spec_l02Feed_cx FUEL) 8) 0 57 (sub spec_l02Feed_c [1, 1, 1, 0, 1, 0, 0])) spec_l02Feed_l0_cut K n (spec_l02Feed_l0_s a0 a3 x1 x13 z90120 z90110) : Option (shDen spec_l02Feed_sh)) = spec_l02Feed_l0_L (fun x1 z90120 z90110 => K (.exit 0) (spec_l02Feed_l0_o0 x1 z90120 z90110)) a0 a3 n x1 x13 z90120 z90110 := by
 intro n
 induction n with
 | zero => intros; rfl
 | succ n ih =>
  intro x1 x13 z90120 z90110
  exact (spec_l02Feed_l0_round FUEL K n a0 a3 x1 x13 z90120 z90110).trans (condC (condC (condC (condC (bindC (fun b3 => bindC (fun b4 => condC (condC (ih (0 : Int) (IntKind.wrap .i64 (x13 + (1 : Int))) [] (z90110 ++ [(z90120 ++ [(a3.getD (x13.toNat) (0 : Int))])])) (rfl)) (ih b3 (IntKind.wrap .i64 (x13 + (1 : Int))) (z90120 ++ [(a3.getD (x13.toNat) (0 : Int))]) z90110)))) (rfl)) (rfl)) (rfl)) (rfl))

theorem spec_l02Feed_start (k : Nat) (a0 : (Int × (Int × (Int × Unit)))) (a1 : Int) (a2 : (List Int)) (a3 : (List Int)) : fnK (spec_l02Feed_cx k) 8 57 spec_l02Feed_i spec_l02Feed_sh [.pv (.ref (.pair (.int .i64) (.pair (.int .i64) (.pair (.int .i64) .unit)))) a0, .pv (.int .u32) a1, .pv (.slice (.int .u8)) a2, .pv (.slice (.int .u8)) a3] =
 ((cond (decide ((0 + a2.length) * 1 ≤ 140737488355328) && decide (0 + a2.length ≤ 9223372036854775807))
 (loopK (spec_l02Feed_cx k) 0 (execK (spec_l02Feed_cx k) (callK (spec_l02Feed_cx k) 8) 0 57 (sub spec_l02Feed_c [1, 1, 1, 0, 1, 0, 0])) spec_l02Feed_l0_cut (blkK 0 (seqK (execK (spec_l02Feed_cx k) (callK (spec_l02Feed_cx k) 8) 0 57 (sub spec_l02Feed_c [1, 1, 1, 1])) (finK (spec_l02Feed_cx k) spec_l02Feed_i spec_l02Feed_sh))) k (spec_l02Feed_l0_s a0 a3 a1 (0 : Int) ([] ++ a2) []))
 none) : Option (shDen spec_l02Feed_sh)) := by kernel_rfl

theorem spec_l02Feed_run (a0 : (Int × (Int × (Int × Unit)))) (a1 : Int) (a2 : (List Int)) (a3 : (List Int)) : fnK (spec_l02Feed_cx FUEL) 8 57 spec_l02Feed_i spec_l02Feed_sh [.pv (.ref (.pair (.int .i64) (.pair (.int .i64) (.pair (.int .i64) .unit)))) a0, .pv (.int .u32) a1, .pv (.slice (.int .u8)) a2, .pv (.slice (.int .u8)) a3] = spec_l02Feed_r a0 a1 a2 a3 :=
 (spec_l02Feed_start FUEL a0 a1 a2 a3).trans (condC ((spec_l02Feed_l0_L_eq _ a0 a3 FUEL a1 (0 : Int) ([] ++ a2) []).trans (spec_l02Feed_l0_congr _ _ a0 a3 FUEL a1 (0 : Int) ([] ++ a2) [] (fun x1 z90120 z90110 => (spec_l02Feed_l0_exit0 FUEL  x1 z90120 z90110).trans (rfl)))) (rfl))

noncomputable def spec_l02Feed_con : Con := { ps := (.pair (.ref (.pair (.int .i64) (.pair (.int .i64) (.pair (.int .i64) .unit)))) (.pair (.int .u32) (.pair (.slice (.int .u8)) (.pair (.slice (.int .u8)) .unit)))), sh := spec_l02Feed_sh, raw := fun x => spec_l02Feed_r x.1 x.2.1 x.2.2.1 x.2.2.2.1 }
theorem spec_l02Feed_conOk : ConOk Try.prog 57 spec_l02Feed_con := con_of_fn (spec_l02Feed_tabs FUEL) (depth := 8) spec_l02Feed_ok fun x y h => (spec_l02Feed_run x.1 x.2.1 x.2.2.1 x.2.2.2.1).trans h

noncomputable def spec_l02Chunks_inls : List (Nat × Inl) := []
noncomputable def spec_l02Chunks_cons : List (Nat × Con) := [(57, spec_l02Feed_con)]
noncomputable def spec_l02Chunks_taks : List (Nat × ConT) := []
noncomputable def spec_l02Chunks_inps : List (Nat × ConI) := []
noncomputable def spec_l02Chunks_cuts : List (Nat × List (Nat × Cut)) := []
noncomputable def spec_l02Chunks_cx (k : Nat) : Cx := mkCx tys tbytes telem nozero (Ai.look spec_l02Chunks_inls) (Ai.look spec_l02Chunks_cons) (Ai.look spec_l02Chunks_taks) (Ai.look spec_l02Chunks_inps) (fun f id => match Ai.look spec_l02Chunks_cuts f with | some l => Ai.look l id | none => none) k []
theorem spec_l02Chunks_tabs (k : Nat) : TabsOk Try.prog (spec_l02Chunks_cx k) := ⟨tab_mk tabs_ok _ _ _ _ _ _ _, look_all (Q := ConOk Try.prog) _ ⟨spec_l02Feed_conOk, trivial⟩, look_all (Q := TakOk Try.prog) _ trivial, look_all (Q := InpOk Try.prog) _ trivial, look_all (Q := InlOk Try.prog) _ trivial, mixed_ok⟩
abbrev spec_l02Chunks_sh : List Sh := [.own 25 (.slice (.int .u8))]
noncomputable def spec_l02Chunks_r (a0 : (Int × (Int × (Int × Unit)))) (a1 : (List Int)) : Option (shDen spec_l02Chunks_sh) :=
 (bindO (spec_l02Feed_r a0 (0 : Int) [] a1) fun (b1 : ((List (List Int)) × (Int × (List Int)))) => (cond (decide ((0 : Int) < (b1.2.2.length : Int)))
 (cond (decide ((b1.1.length + 1) * 24 ≤ 140737488355328) && decide (b1.1.length + 1 ≤ 9223372036854775807))
 (some (b1.1 ++ [b1.2.2]))
 none)
 (some b1.1)))
theorem spec_l02Chunks_start (k : Nat) (a0 : (Int × (Int × (Int × Unit)))) (a1 : (List Int)) : fnK (spec_l02Chunks_cx k) 8 63 spec_l02Chunks_i spec_l02Chunks_sh [.pv (.ref (.pair (.int .i64) (.pair (.int .i64) (.pair (.int .i64) .unit)))) a0, .pv (.slice (.int .u8)) a1] =
 ((bindO (spec_l02Feed_r a0 (0 : Int) [] a1) fun (b1 : ((List (List Int)) × (Int × (List Int)))) => (cond (decide ((0 : Int) < (b1.2.2.length : Int)))
 (cond (decide ((b1.1.length + 1) * 24 ≤ 140737488355328) && decide (b1.1.length + 1 ≤ 9223372036854775807))
 (some (b1.1 ++ [b1.2.2]))
 none)
 (some b1.1))) : Option (shDen spec_l02Chunks_sh)) := by kernel_rfl

theorem spec_l02Chunks_run (a0 : (Int × (Int × (Int × Unit)))) (a1 : (List Int)) : fnK (spec_l02Chunks_cx FUEL) 8 63 spec_l02Chunks_i spec_l02Chunks_sh [.pv (.ref (.pair (.int .i64) (.pair (.int .i64) (.pair (.int .i64) .unit)))) a0, .pv (.slice (.int .u8)) a1] = spec_l02Chunks_r a0 a1 :=
 (spec_l02Chunks_start FUEL a0 a1).trans (rfl)

noncomputable def spec_l02Chunks_con : Con := { ps := (.pair (.ref (.pair (.int .i64) (.pair (.int .i64) (.pair (.int .i64) .unit)))) (.pair (.slice (.int .u8)) .unit)), sh := spec_l02Chunks_sh, raw := fun x => spec_l02Chunks_r x.1 x.2.1 }
theorem spec_l02Chunks_conOk : ConOk Try.prog 63 spec_l02Chunks_con := con_of_fn (spec_l02Chunks_tabs FUEL) (depth := 8) spec_l02Chunks_ok fun x y h => (spec_l02Chunks_run x.1 x.2.1).trans h

noncomputable def spec_l01Padded_l0_cut : Cut := { keep := [1, 5], stk := [], ids := [90050], own := [(5, 90050, 25)], outs := [(1, [1, 5], [90050])] }
noncomputable def spec_l01Padded_l1_cut : Cut := { keep := [1, 5, 6], stk := [], ids := [90050], own := [(5, 90050, 25)], outs := [(3, [5], [90050])] }
noncomputable def spec_l01Padded_inls : List (Nat × Inl) := []
noncomputable def spec_l01Padded_cons : List (Nat × Con) := []
noncomputable def spec_l01Padded_taks : List (Nat × ConT) := []
noncomputable def spec_l01Padded_inps : List (Nat × ConI) := []
noncomputable def spec_l01Padded_cuts : List (Nat × List (Nat × Cut)) := [(121, [(0, spec_l01Padded_l0_cut), (2, spec_l01Padded_l1_cut)])]
noncomputable def spec_l01Padded_cx (k : Nat) : Cx := mkCx tys tbytes telem nozero (Ai.look spec_l01Padded_inls) (Ai.look spec_l01Padded_cons) (Ai.look spec_l01Padded_taks) (Ai.look spec_l01Padded_inps) (fun f id => match Ai.look spec_l01Padded_cuts f with | some l => Ai.look l id | none => none) k []
theorem spec_l01Padded_tabs (k : Nat) : TabsOk Try.prog (spec_l01Padded_cx k) := ⟨tab_mk tabs_ok _ _ _ _ _ _ _, look_all (Q := ConOk Try.prog) _ trivial, look_all (Q := TakOk Try.prog) _ trivial, look_all (Q := InpOk Try.prog) _ trivial, look_all (Q := InlOk Try.prog) _ trivial, mixed_ok⟩
abbrev spec_l01Padded_sh : List Sh := [.own 5 (.int .u8)]
noncomputable def spec_l01Padded_l0_s (a1 : Int) (z90050 : (List Int)) : St := { env := [.dead, .pv (.int .i64) a1, .dead, .dead, .dead, .sl 90050 (.int .u8), .dead, .dead, .dead, .dead, .dead, .dead, .dead, .dead, .dead, .dead, .dead, .dead, .dead, .dead, .dead, .dead, .dead, .dead, .dead, .dead, .dead, .dead, .dead, .dead, .dead, .dead], stk := [], heap := [(90050, .arr 5 (.int .u8) z90050)] }
noncomputable def spec_l01Padded_l0_o0 (a1 : Int) (z90050 : (List Int)) : St := { env := [.dead, .pv (.int .i64) a1, .dead, .dead, .dead, .sl 90050 (.int .u8), .dead, .dead, .dead, .dead, .dead, .dead, .dead, .dead, .dead, .dead, .dead, .dead, .dead, .dead, .dead, .dead, .dead, .dead, .dead, .dead, .dead, .dead, .dead, .dead, .dead, .dead], stk := [], heap := [(90050, .arr 5 (.int .u8) z90050)] }
noncomputable def spec_l01Padded_l1_s (z90050 : (List Int)) (x1 : Int) (x6 : Int) : St := { env := [.dead, .pv (.int .i64) x1, .dead, .dead, .dead, .sl 90050 (.int .u8), .pv (.int .i64) x6, .dead, .dead, .dead, .dead, .dead, .dead, .dead, .dead, .dead, .dead, .dead, .dead, .dead, .dead, .dead, .dead, .dead, .dead, .dead, .dead, .dead, .dead, .dead, .dead, .dead], stk := [], heap := [(90050, .arr 5 (.int .u8) z90050)] }
noncomputable def spec_l01Padded_l1_o2 (z90050 : (List Int)) : St := { env := [.dead, .dead, .dead, .dead, .dead, .sl 90050 (.int .u8), .dead, .dead, .dead, .dead, .dead, .dead, .dead, .dead, .dead, .dead, .dead, .dead, .dead, .dead, .dead, .dead, .dead, .dead, .dead, .dead, .dead, .dead, .dead, .dead, .dead, .dead], stk := [], heap := [(90050, .arr 5 (.int .u8) z90050)] }
noncomputable def spec_l01Padded_l1_b (rec : (List Int) → Int → Int → Option (shDen spec_l01Padded_sh)) (ke2 : (List Int) → Option (shDen spec_l01Padded_sh)) (z90050 : (List Int)) (x1 : Int) (x6 : Int) : Option (shDen spec_l01Padded_sh) :=
 (cond (decide (x6 < (8 : Int)))
 (cond (decide ((z90050.length + 1) * 1 ≤ 140737488355328) && decide (z90050.length + 1 ≤ 9223372036854775807))
 (rec (z90050 ++ [(IntKind.wrap .u8 (Int.tmod x1 (256 : Int)))]) (IntKind.wrap .i64 (Int.tdiv x1 (256 : Int))) (IntKind.wrap .i64 (x6 + (1 : Int))))
 none)
 (ke2 z90050))
noncomputable def spec_l01Padded_l1_L (ke2 : (List Int) → Option (shDen spec_l01Padded_sh))  : Nat → (List Int) → Int → Int → Option (shDen spec_l01Padded_sh)
 | 0 => fun _ _ _ => none
 | n + 1 => spec_l01Padded_l1_b (spec_l01Padded_l1_L ke2  n) ke2 
noncomputable def spec_l01Padded_l0_b (rec : (List Int) → Option (shDen spec_l01Padded_sh)) (ke0 : (List Int) → Option (shDen spec_l01Padded_sh)) (a1 : Int) (z90050 : (List Int)) : Option (shDen spec_l01Padded_sh) :=
 (cond (!(decide ((Int.tmod (z90050.length : Int) (32 : Int)) = (24 : Int))))
 (cond (decide ((z90050.length + 1) * 1 ≤ 140737488355328) && decide (z90050.length + 1 ≤ 9223372036854775807))
 (rec (z90050 ++ [(0 : Int)]))
 none)
 (ke0 z90050))
noncomputable def spec_l01Padded_l0_L (ke0 : (List Int) → Option (shDen spec_l01Padded_sh)) (a1 : Int) : Nat → (List Int) → Option (shDen spec_l01Padded_sh)
 | 0 => fun _ => none
 | n + 1 => spec_l01Padded_l0_b (spec_l01Padded_l0_L ke0 a1 n) ke0 a1
noncomputable def spec_l01Padded_r (a0 : (List Int)) (a1 : Int) : Option (shDen spec_l01Padded_sh) :=
 (cond (decide ((0 + a0.length) * 1 ≤ 140737488355328) && decide (0 + a0.length ≤ 9223372036854775807))
 (cond (decide ((([] ++ a0).length + 1) * 1 ≤ 140737488355328) && decide (([] ++ a0).length + 1 ≤ 9223372036854775807))
 (spec_l01Padded_l0_L (fun z90050 => (spec_l01Padded_l1_L (fun z90050 => (some z90050)) FUEL z90050 a1 (0 : Int))) a1 FUEL (([] ++ a0) ++ [(128 : Int)]))
 none)
 none)
theorem spec_l01Padded_l1_round (k : Nat) (K : Ex → St → Option (shDen spec_l01Padded_sh)) (n : Nat) (z90050 : (List Int)) (x1 : Int) (x6 : Int) : (loopK (spec_l01Padded_cx k) 0 (execK (spec_l01Padded_cx k) (callK (spec_l01Padded_cx k) 8) 0 121 (sub spec_l01Padded_c [1, 1, 1, 0, 1, 0, 0])) spec_l01Padded_l1_cut K (n + 1) (spec_l01Padded_l1_s z90050 x1 x6) : Option (shDen spec_l01Padded_sh)) =
 ((cond (decide (x6 < (8 : Int)))
 (cond (decide ((z90050.length + 1) * 1 ≤ 140737488355328) && decide (z90050.length + 1 ≤ 9223372036854775807))
 (loopK (spec_l01Padded_cx k) 0 (execK (spec_l01Padded_cx k) (callK (spec_l01Padded_cx k) 8) 0 121 (sub spec_l01Padded_c [1, 1, 1, 0, 1, 0, 0])) spec_l01Padded_l1_cut K n (spec_l01Padded_l1_s (z90050 ++ [(IntKind.wrap .u8 (Int.tmod x1 (256 : Int)))]) (IntKind.wrap .i64 (Int.tdiv x1 (256 : Int))) (IntKind.wrap .i64 (x6 + (1 : Int)))))
 none)
 (K (.exit 2) (spec_l01Padded_l1_o2 z90050))) : Option (shDen spec_l01Padded_sh)) := by kernel_rfl

theorem spec_l01Padded_l1_exit2 (k : Nat)  (z90050 : (List Int)) : ((blkK 2 (seqK (execK (spec_l01Padded_cx k) (callK (spec_l01Padded_cx k) 8) 0 121 (sub spec_l01Padded_c [1, 1, 1, 1])) (finK (spec_l01Padded_cx k) spec_l01Padded_i spec_l01Padded_sh))) (.exit 2) (spec_l01Padded_l1_o2 z90050) : Option (shDen spec_l01Padded_sh)) =
 ((some z90050) : Option (shDen spec_l01Padded_sh)) := by kernel_rfl

theorem spec_l01Padded_l1_congr (ke2 : (List Int) → Option (shDen spec_l01Padded_sh)) (ke2' : (List Int) → Option (shDen spec_l01Padded_sh))  (n : Nat) (z90050 : (List Int)) (x1 : Int) (x6 : Int) (hke2 : ∀ z90050, ke2 z90050 = ke2' z90050) : spec_l01Padded_l1_L ke2  n z90050 x1 x6 = spec_l01Padded_l1_L ke2'  n z90050 x1 x6 := by
 have : ke2 = ke2' := (by funext z90050; exact hke2 z90050); subst this; rfl

theorem spec_l01Padded_l1_L_eq (K : Ex → St → Option (shDen spec_l01Padded_sh))  : ∀ (n : Nat) (z90050 : (List Int)) (x1 : Int) (x6 : Int), (loopK (spec_l01Padded_cx FUEL) 0 (execK (spec_l01Padded_cx FUEL) (callK (spec_l01Padded_cx FUEL) 8) 0 121 (sub spec_l01Padded_c [1, 1, 1, 0, 1, 0, 0])) spec_l01Padded_l1_cut K n (spec_l01Padded_l1_s z90050 x1 x6) : Option (shDen spec_l01Padded_sh)) = spec_l01Padded_l1_L (fun z90050 => K (.exit 2) (spec_l01Padded_l1_o2 z90050))  n z90050 x1 x6 := by
 intro n
 induction n with
 | zero => intros; rfl
 | succ n ih =>
  intro z90050 x1 x6
  exact (spec_l01Padded_l1_round FUEL K n  z90050 x1 x6).trans (condC (condC (ih (z90050 ++ [(IntKind.wrap .u8 (Int.tmod x1 (256 : Int)))]) (IntKind.wrap .i64 (Int.tdiv x1 (256 : Int))) (IntKind.wrap .i64 (x6 + (1 : Int)))) (rfl)) (rfl))

theorem spec_l01Padded_l0_round (k : Nat) (K : Ex → St → Option (shDen spec_l01Padded_sh)) (n : Nat) (a1 : Int) (z90050 : (List Int)) : (loopK (spec_l01Padded_cx k) 0 (execK (spec_l01Padded_cx k) (callK (spec_l01Padded_cx k) 8) 0 121 (sub spec_l01Padded_c [1, 1, 0, 0, 0])) spec_l01Padded_l0_cut K (n + 1) (spec_l01Padded_l0_s a1 z90050) : Option (shDen spec_l01Padded_sh)) =
 ((cond (!(decide ((Int.tmod (z90050.length : Int) (32 : Int)) = (24 : Int))))
 (cond (decide ((z90050.length + 1) * 1 ≤ 140737488355328) && decide (z90050.length + 1 ≤ 9223372036854775807))
 (loopK (spec_l01Padded_cx k) 0 (execK (spec_l01Padded_cx k) (callK (spec_l01Padded_cx k) 8) 0 121 (sub spec_l01Padded_c [1, 1, 0, 0, 0])) spec_l01Padded_l0_cut K n (spec_l01Padded_l0_s a1 (z90050 ++ [(0 : Int)])))
 none)
 (K (.exit 0) (spec_l01Padded_l0_o0 a1 z90050))) : Option (shDen spec_l01Padded_sh)) := by kernel_rfl

theorem spec_l01Padded_l0_exit0 (k : Nat)  (a1 : Int) (z90050 : (List Int)) : ((blkK 0 (seqK (execK (spec_l01Padded_cx k) (callK (spec_l01Padded_cx k) 8) 0 121 (sub spec_l01Padded_c [1, 1, 1])) (finK (spec_l01Padded_cx k) spec_l01Padded_i spec_l01Padded_sh))) (.exit 0) (spec_l01Padded_l0_o0 a1 z90050) : Option (shDen spec_l01Padded_sh)) =
 ((loopK (spec_l01Padded_cx k) 0 (execK (spec_l01Padded_cx k) (callK (spec_l01Padded_cx k) 8) 0 121 (sub spec_l01Padded_c [1, 1, 1, 0, 1, 0, 0])) spec_l01Padded_l1_cut (blkK 2 (seqK (execK (spec_l01Padded_cx k) (callK (spec_l01Padded_cx k) 8) 0 121 (sub spec_l01Padded_c [1, 1, 1, 1])) (finK (spec_l01Padded_cx k) spec_l01Padded_i spec_l01Padded_sh))) k (spec_l01Padded_l1_s z90050 a1 (0 : Int))) : Option (shDen spec_l01Padded_sh)) := by kernel_rfl

theorem spec_l01Padded_l0_congr (ke0 : (List Int) → Option (shDen spec_l01Padded_sh)) (ke0' : (List Int) → Option (shDen spec_l01Padded_sh)) (a1 : Int) (n : Nat) (z90050 : (List Int)) (hke0 : ∀ z90050, ke0 z90050 = ke0' z90050) : spec_l01Padded_l0_L ke0 a1 n z90050 = spec_l01Padded_l0_L ke0' a1 n z90050 := by
 have : ke0 = ke0' := (by funext z90050; exact hke0 z90050); subst this; rfl

theorem spec_l01Padded_l0_L_eq (K : Ex → St → Option (shDen spec_l01Padded_sh)) (a1 : Int) : ∀ (n : Nat) (z90050 : (List Int)), (loopK (spec_l01Padded_cx FUEL) 0 (execK (spec_l01Padded_cx FUEL) (callK (spec_l01Padded_cx FUEL) 8) 0 121 (sub spec_l01Padded_c [1, 1, 0, 0, 0])) spec_l01Padded_l0_cut K n (spec_l01Padded_l0_s a1 z90050) : Option (shDen spec_l01Padded_sh)) = spec_l01Padded_l0_L (fun z90050 => K (.exit 0) (spec_l01Padded_l0_o0 a1 z90050)) a1 n z90050 := by
 intro n
 induction n with
 | zero => intros; rfl
 | succ n ih =>
  intro z90050
  exact (spec_l01Padded_l0_round FUEL K n a1 z90050).trans (condC (condC (ih (z90050 ++ [(0 : Int)])) (rfl)) (rfl))

theorem spec_l01Padded_start (k : Nat) (a0 : (List Int)) (a1 : Int) : fnK (spec_l01Padded_cx k) 8 121 spec_l01Padded_i spec_l01Padded_sh [.pv (.slice (.int .u8)) a0, .pv (.int .i64) a1] =
 ((cond (decide ((0 + a0.length) * 1 ≤ 140737488355328) && decide (0 + a0.length ≤ 9223372036854775807))
 (cond (decide ((([] ++ a0).length + 1) * 1 ≤ 140737488355328) && decide (([] ++ a0).length + 1 ≤ 9223372036854775807))
 (loopK (spec_l01Padded_cx k) 0 (execK (spec_l01Padded_cx k) (callK (spec_l01Padded_cx k) 8) 0 121 (sub spec_l01Padded_c [1, 1, 0, 0, 0])) spec_l01Padded_l0_cut (blkK 0 (seqK (execK (spec_l01Padded_cx k) (callK (spec_l01Padded_cx k) 8) 0 121 (sub spec_l01Padded_c [1, 1, 1])) (finK (spec_l01Padded_cx k) spec_l01Padded_i spec_l01Padded_sh))) k (spec_l01Padded_l0_s a1 (([] ++ a0) ++ [(128 : Int)])))
 none)
 none) : Option (shDen spec_l01Padded_sh)) := by kernel_rfl

theorem spec_l01Padded_run (a0 : (List Int)) (a1 : Int) : fnK (spec_l01Padded_cx FUEL) 8 121 spec_l01Padded_i spec_l01Padded_sh [.pv (.slice (.int .u8)) a0, .pv (.int .i64) a1] = spec_l01Padded_r a0 a1 :=
 (spec_l01Padded_start FUEL a0 a1).trans (condC (condC ((spec_l01Padded_l0_L_eq _ a1 FUEL (([] ++ a0) ++ [(128 : Int)])).trans (spec_l01Padded_l0_congr _ _ a1 FUEL (([] ++ a0) ++ [(128 : Int)]) (fun z90050 => (spec_l01Padded_l0_exit0 FUEL  a1 z90050).trans ((spec_l01Padded_l1_L_eq _  FUEL z90050 a1 (0 : Int)).trans (spec_l01Padded_l1_congr _ _  FUEL z90050 a1 (0 : Int) (fun z90050 => (spec_l01Padded_l1_exit2 FUEL  z90050).trans (rfl))))))) (rfl)) (rfl))

noncomputable def spec_l01Padded_con : Con := { ps := (.pair (.slice (.int .u8)) (.pair (.int .i64) .unit)), sh := spec_l01Padded_sh, raw := fun x => spec_l01Padded_r x.1 x.2.1 }
theorem spec_l01Padded_conOk : ConOk Try.prog 121 spec_l01Padded_con := con_of_fn (spec_l01Padded_tabs FUEL) (depth := 8) spec_l01Padded_ok fun x y h => (spec_l01Padded_run x.1 x.2.1).trans h

noncomputable def spec_l01Block_l0_cut : Cut := { keep := [0, 1, 4, 5, 6], stk := [], ids := [40, 50], own := [], outs := [(1, [4, 5], [40, 50])] }
noncomputable def spec_l01Block_inls : List (Nat × Inl) := []
noncomputable def spec_l01Block_cons : List (Nat × Con) := []
noncomputable def spec_l01Block_taks : List (Nat × ConT) := []
noncomputable def spec_l01Block_inps : List (Nat × ConI) := []
noncomputable def spec_l01Block_cuts : List (Nat × List (Nat × Cut)) := [(123, [(0, spec_l01Block_l0_cut)])]
noncomputable def spec_l01Block_cx (k : Nat) : Cx := mkCx tys tbytes telem nozero (Ai.look spec_l01Block_inls) (Ai.look spec_l01Block_cons) (Ai.look spec_l01Block_taks) (Ai.look spec_l01Block_inps) (fun f id => match Ai.look spec_l01Block_cuts f with | some l => Ai.look l id | none => none) k []
theorem spec_l01Block_tabs (k : Nat) : TabsOk Try.prog (spec_l01Block_cx k) := ⟨tab_mk tabs_ok _ _ _ _ _ _ _, look_all (Q := ConOk Try.prog) _ trivial, look_all (Q := TakOk Try.prog) _ trivial, look_all (Q := InpOk Try.prog) _ trivial, look_all (Q := InlOk Try.prog) _ trivial, mixed_ok⟩
abbrev spec_l01Block_sh : List Sh := [.pl (.arr 32 (.int .u8))]
noncomputable def spec_l01Block_l0_s (a0 : (List Int)) (a1 : Int) (x6 : Int) (y50 : (List Int)) : St := { env := [.pv (.slice (.int .u8)) a0, .pv (.int .i64) a1, .dead, .dead, .ptr 40 (.arr 32 (.int .u8)) [], .ptr 50 (.arr 32 (.int .u8)) [], .pv (.int .i64) x6, .dead, .dead, .dead, .dead, .dead, .dead, .dead, .dead, .dead, .dead, .dead, .dead, .dead, .dead], stk := [], heap := [(50, .var (.arr 32 (.int .u8)) (.pv (.arr 32 (.int .u8)) y50)), (40, .var (.arr 32 (.int .u8)) (.pv (.arr 32 (.int .u8)) (List.replicate 32 (0 : Int))))] }
noncomputable def spec_l01Block_l0_o0 (y50 : (List Int)) : St := { env := [.dead, .dead, .dead, .dead, .ptr 40 (.arr 32 (.int .u8)) [], .ptr 50 (.arr 32 (.int .u8)) [], .dead, .dead, .dead, .dead, .dead, .dead, .dead, .dead, .dead, .dead, .dead, .dead, .dead, .dead, .dead], stk := [], heap := [(50, .var (.arr 32 (.int .u8)) (.pv (.arr 32 (.int .u8)) y50)), (40, .var (.arr 32 (.int .u8)) (.pv (.arr 32 (.int .u8)) (List.replicate 32 (0 : Int))))] }
noncomputable def spec_l01Block_l0_b (rec : Int → (List Int) → Option (shDen spec_l01Block_sh)) (ke0 : (List Int) → Option (shDen spec_l01Block_sh)) (a0 : (List Int)) (a1 : Int) (x6 : Int) (y50 : (List Int)) : Option (shDen spec_l01Block_sh) :=
 (cond (decide (x6 < (32 : Int)))
 (cond ((decide ((0 : Int) ≤ (IntKind.wrap .i64 (a1 + x6)))) && (decide ((IntKind.wrap .i64 (a1 + x6)) < (a0.length : Int))))
 (cond ((decide ((0 : Int) ≤ x6)) && (decide (x6 < (32 : Int))))
 (rec (IntKind.wrap .i64 (x6 + (1 : Int))) (y50.set (x6.toNat) (a0.getD ((IntKind.wrap .i64 (a1 + x6)).toNat) (0 : Int))))
 none)
 none)
 (ke0 y50))
noncomputable def spec_l01Block_l0_L (ke0 : (List Int) → Option (shDen spec_l01Block_sh)) (a0 : (List Int)) (a1 : Int) : Nat → Int → (List Int) → Option (shDen spec_l01Block_sh)
 | 0 => fun _ _ => none
 | n + 1 => spec_l01Block_l0_b (spec_l01Block_l0_L ke0 a0 a1 n) ke0 a0 a1
noncomputable def spec_l01Block_r (a0 : (List Int)) (a1 : Int) : Option (shDen spec_l01Block_sh) :=
 (spec_l01Block_l0_L (fun y50 => (some y50)) a0 a1 FUEL (0 : Int) (List.replicate 32 (0 : Int)))
theorem spec_l01Block_l0_round (k : Nat) (K : Ex → St → Option (shDen spec_l01Block_sh)) (n : Nat) (a0 : (List Int)) (a1 : Int) (x6 : Int) (y50 : (List Int)) : (loopK (spec_l01Block_cx k) 0 (execK (spec_l01Block_cx k) (callK (spec_l01Block_cx k) 8) 0 123 (sub spec_l01Block_c [1, 1, 0, 1, 0, 0])) spec_l01Block_l0_cut K (n + 1) (spec_l01Block_l0_s a0 a1 x6 y50) : Option (shDen spec_l01Block_sh)) =
 ((cond (decide (x6 < (32 : Int)))
 (cond ((decide ((0 : Int) ≤ (IntKind.wrap .i64 (a1 + x6)))) && (decide ((IntKind.wrap .i64 (a1 + x6)) < (a0.length : Int))))
 (cond ((decide ((0 : Int) ≤ x6)) && (decide (x6 < (32 : Int))))
 (loopK (spec_l01Block_cx k) 0 (execK (spec_l01Block_cx k) (callK (spec_l01Block_cx k) 8) 0 123 (sub spec_l01Block_c [1, 1, 0, 1, 0, 0])) spec_l01Block_l0_cut K n (spec_l01Block_l0_s a0 a1 (IntKind.wrap .i64 (x6 + (1 : Int))) (y50.set (x6.toNat) (a0.getD ((IntKind.wrap .i64 (a1 + x6)).toNat) (0 : Int)))))
 none)
 none)
 (K (.exit 0) (spec_l01Block_l0_o0 y50))) : Option (shDen spec_l01Block_sh)) := by kernel_rfl

theorem spec_l01Block_l0_exit0 (k : Nat)  (y50 : (List Int)) : ((blkK 0 (seqK (execK (spec_l01Block_cx k) (callK (spec_l01Block_cx k) 8) 0 123 (sub spec_l01Block_c [1, 1, 1])) (finK (spec_l01Block_cx k) spec_l01Block_i spec_l01Block_sh))) (.exit 0) (spec_l01Block_l0_o0 y50) : Option (shDen spec_l01Block_sh)) =
 ((some y50) : Option (shDen spec_l01Block_sh)) := by kernel_rfl

theorem spec_l01Block_l0_congr (ke0 : (List Int) → Option (shDen spec_l01Block_sh)) (ke0' : (List Int) → Option (shDen spec_l01Block_sh)) (a0 : (List Int)) (a1 : Int) (n : Nat) (x6 : Int) (y50 : (List Int)) (hke0 : ∀ y50, ke0 y50 = ke0' y50) : spec_l01Block_l0_L ke0 a0 a1 n x6 y50 = spec_l01Block_l0_L ke0' a0 a1 n x6 y50 := by
 have : ke0 = ke0' := (by funext y50; exact hke0 y50); subst this; rfl

theorem spec_l01Block_l0_L_eq (K : Ex → St → Option (shDen spec_l01Block_sh)) (a0 : (List Int)) (a1 : Int) : ∀ (n : Nat) (x6 : Int) (y50 : (List Int)), (loopK (spec_l01Block_cx FUEL) 0 (execK (spec_l01Block_cx FUEL) (callK (spec_l01Block_cx FUEL) 8) 0 123 (sub spec_l01Block_c [1, 1, 0, 1, 0, 0])) spec_l01Block_l0_cut K n (spec_l01Block_l0_s a0 a1 x6 y50) : Option (shDen spec_l01Block_sh)) = spec_l01Block_l0_L (fun y50 => K (.exit 0) (spec_l01Block_l0_o0 y50)) a0 a1 n x6 y50 := by
 intro n
 induction n with
 | zero => intros; rfl
 | succ n ih =>
  intro x6 y50
  exact (spec_l01Block_l0_round FUEL K n a0 a1 x6 y50).trans (condC (condC (condC (ih (IntKind.wrap .i64 (x6 + (1 : Int))) (y50.set (x6.toNat) (a0.getD ((IntKind.wrap .i64 (a1 + x6)).toNat) (0 : Int)))) (rfl)) (rfl)) (rfl))

theorem spec_l01Block_start (k : Nat) (a0 : (List Int)) (a1 : Int) : fnK (spec_l01Block_cx k) 8 123 spec_l01Block_i spec_l01Block_sh [.pv (.slice (.int .u8)) a0, .pv (.int .i64) a1] =
 ((loopK (spec_l01Block_cx k) 0 (execK (spec_l01Block_cx k) (callK (spec_l01Block_cx k) 8) 0 123 (sub spec_l01Block_c [1, 1, 0, 1, 0, 0])) spec_l01Block_l0_cut (blkK 0 (seqK (execK (spec_l01Block_cx k) (callK (spec_l01Block_cx k) 8) 0 123 (sub spec_l01Block_c [1, 1, 1])) (finK (spec_l01Block_cx k) spec_l01Block_i spec_l01Block_sh))) k (spec_l01Block_l0_s a0 a1 (0 : Int) (List.replicate 32 (0 : Int)))) : Option (shDen spec_l01Block_sh)) := by kernel_rfl

theorem spec_l01Block_run (a0 : (List Int)) (a1 : Int) : fnK (spec_l01Block_cx FUEL) 8 123 spec_l01Block_i spec_l01Block_sh [.pv (.slice (.int .u8)) a0, .pv (.int .i64) a1] = spec_l01Block_r a0 a1 :=
 (spec_l01Block_start FUEL a0 a1).trans ((spec_l01Block_l0_L_eq _ a0 a1 FUEL (0 : Int) (List.replicate 32 (0 : Int))).trans (spec_l01Block_l0_congr _ _ a0 a1 FUEL (0 : Int) (List.replicate 32 (0 : Int)) (fun y50 => (spec_l01Block_l0_exit0 FUEL  y50).trans (rfl))))

noncomputable def spec_l01Block_con : Con := { ps := (.pair (.slice (.int .u8)) (.pair (.int .i64) .unit)), sh := spec_l01Block_sh, raw := fun x => spec_l01Block_r x.1 x.2.1 }
theorem spec_l01Block_conOk : ConOk Try.prog 123 spec_l01Block_con := con_of_fn (spec_l01Block_tabs FUEL) (depth := 8) spec_l01Block_ok fun x y h => (spec_l01Block_run x.1 x.2.1).trans h

noncomputable def spec_l01End_l0_cut : Cut := { keep := [3, 6, 7, 8], stk := [], ids := [30, 60, 130], own := [], outs := [(1, [3, 6], [30, 60])] }
noncomputable def spec_l01End_l1_cut : Cut := { keep := [3, 6, 9, 10], stk := [], ids := [30, 60, 90], own := [], outs := [(3, [6, 9], [60, 90])] }
noncomputable def spec_l01End_inls : List (Nat × Inl) := []
noncomputable def spec_l01End_cons : List (Nat × Con) := [(121, spec_l01Padded_con), (122, spec_l01Mix_con), (123, spec_l01Block_con)]
noncomputable def spec_l01End_taks : List (Nat × ConT) := []
noncomputable def spec_l01End_inps : List (Nat × ConI) := []
noncomputable def spec_l01End_cuts : List (Nat × List (Nat × Cut)) := [(97, [(0, spec_l01End_l0_cut), (2, spec_l01End_l1_cut)])]
noncomputable def spec_l01End_cx (k : Nat) : Cx := mkCx tys tbytes telem nozero (Ai.look spec_l01End_inls) (Ai.look spec_l01End_cons) (Ai.look spec_l01End_taks) (Ai.look spec_l01End_inps) (fun f id => match Ai.look spec_l01End_cuts f with | some l => Ai.look l id | none => none) k []
theorem spec_l01End_tabs (k : Nat) : TabsOk Try.prog (spec_l01End_cx k) := ⟨tab_mk tabs_ok _ _ _ _ _ _ _, look_all (Q := ConOk Try.prog) _ ⟨spec_l01Padded_conOk, spec_l01Mix_conOk, spec_l01Block_conOk, trivial⟩, look_all (Q := TakOk Try.prog) _ trivial, look_all (Q := InpOk Try.prog) _ trivial, look_all (Q := InlOk Try.prog) _ trivial, mixed_ok⟩
abbrev spec_l01End_sh : List Sh := [.pl (.arr 32 (.int .u8))]
noncomputable def spec_l01End_l0_s (z130 : (List Int)) (x8 : Int) (y30 : (List Int)) : St := { env := [.dead, .dead, .dead, .ptr 30 (.arr 8 (.int .u32)) [], .dead, .dead, .ptr 60 (.arr 32 (.int .u8)) [], .sl 130 (.int .u8), .pv (.int .i64) x8, .dead, .dead, .dead, .dead, .dead, .dead, .dead, .dead, .dead, .dead, .dead, .dead, .dead, .dead, .dead, .dead, .dead, .dead, .dead, .dead, .dead, .dead, .dead, .dead, .dead, .dead, .dead, .dead, .dead, .dead, .dead, .dead, .dead, .dead], stk := [], heap := [(130, .arr 5 (.int .u8) z130), (60, .var (.arr 32 (.int .u8)) (.pv (.arr 32 (.int .u8)) (List.replicate 32 (0 : Int)))), (30, .var (.arr 8 (.int .u32)) (.pv (.arr 8 (.int .u32)) y30))] }
noncomputable def spec_l01End_l0_o0 (y30 : (List Int)) : St := { env := [.dead, .dead, .dead, .ptr 30 (.arr 8 (.int .u32)) [], .dead, .dead, .ptr 60 (.arr 32 (.int .u8)) [], .dead, .dead, .dead, .dead, .dead, .dead, .dead, .dead, .dead, .dead, .dead, .dead, .dead, .dead, .dead, .dead, .dead, .dead, .dead, .dead, .dead, .dead, .dead, .dead, .dead, .dead, .dead, .dead, .dead, .dead, .dead, .dead, .dead, .dead, .dead, .dead], stk := [], heap := [(60, .var (.arr 32 (.int .u8)) (.pv (.arr 32 (.int .u8)) (List.replicate 32 (0 : Int)))), (30, .var (.arr 8 (.int .u32)) (.pv (.arr 8 (.int .u32)) y30))] }
noncomputable def spec_l01End_l1_s (y30 : (List Int)) (x10 : Int) (y90 : (List Int)) : St := { env := [.dead, .dead, .dead, .ptr 30 (.arr 8 (.int .u32)) [], .dead, .dead, .ptr 60 (.arr 32 (.int .u8)) [], .dead, .dead, .ptr 90 (.arr 32 (.int .u8)) [], .pv (.int .i64) x10, .dead, .dead, .dead, .dead, .dead, .dead, .dead, .dead, .dead, .dead, .dead, .dead, .dead, .dead, .dead, .dead, .dead, .dead, .dead, .dead, .dead, .dead, .dead, .dead, .dead, .dead, .dead, .dead, .dead, .dead, .dead, .dead], stk := [], heap := [(90, .var (.arr 32 (.int .u8)) (.pv (.arr 32 (.int .u8)) y90)), (60, .var (.arr 32 (.int .u8)) (.pv (.arr 32 (.int .u8)) (List.replicate 32 (0 : Int)))), (30, .var (.arr 8 (.int .u32)) (.pv (.arr 8 (.int .u32)) y30))] }
noncomputable def spec_l01End_l1_o2 (y90 : (List Int)) : St := { env := [.dead, .dead, .dead, .dead, .dead, .dead, .ptr 60 (.arr 32 (.int .u8)) [], .dead, .dead, .ptr 90 (.arr 32 (.int .u8)) [], .dead, .dead, .dead, .dead, .dead, .dead, .dead, .dead, .dead, .dead, .dead, .dead, .dead, .dead, .dead, .dead, .dead, .dead, .dead, .dead, .dead, .dead, .dead, .dead, .dead, .dead, .dead, .dead, .dead, .dead, .dead, .dead, .dead], stk := [], heap := [(90, .var (.arr 32 (.int .u8)) (.pv (.arr 32 (.int .u8)) y90)), (60, .var (.arr 32 (.int .u8)) (.pv (.arr 32 (.int .u8)) (List.replicate 32 (0 : Int))))] }
noncomputable def spec_l01End_l1_b (rec : (List Int) → Int → (List Int) → Option (shDen spec_l01End_sh)) (ke2 : (List Int) → Option (shDen spec_l01End_sh)) (y30 : (List Int)) (x10 : Int) (y90 : (List Int)) : Option (shDen spec_l01End_sh) :=
 (cond (decide (x10 < (32 : Int)))
 (cond ((decide ((0 : Int) ≤ (IntKind.wrap .i64 (Int.tdiv x10 (4 : Int))))) && (decide ((IntKind.wrap .i64 (Int.tdiv x10 (4 : Int))) < (8 : Int))))
 (cond (decide ((IntKind.wrap .u64 (IntKind.wrap .i64 ((8 : Int) * (Int.tmod x10 (4 : Int))))) < (0 : Int)))
 none
 (cond ((decide ((0 : Int) ≤ x10)) && (decide (x10 < (32 : Int))))
 (rec y30 (IntKind.wrap .i64 (x10 + (1 : Int))) (y90.set (x10.toNat) (IntKind.wrap .u8 (shrI .u32 (y30.getD ((IntKind.wrap .i64 (Int.tdiv x10 (4 : Int))).toNat) (0 : Int)) (IntKind.wrap .u64 (IntKind.wrap .i64 ((8 : Int) * (Int.tmod x10 (4 : Int)))))))))
 none))
 none)
 (ke2 y90))
noncomputable def spec_l01End_l1_L (ke2 : (List Int) → Option (shDen spec_l01End_sh))  : Nat → (List Int) → Int → (List Int) → Option (shDen spec_l01End_sh)
 | 0 => fun _ _ _ => none
 | n + 1 => spec_l01End_l1_b (spec_l01End_l1_L ke2  n) ke2 
noncomputable def spec_l01End_l0_b (rec : (List Int) → Int → (List Int) → Option (shDen spec_l01End_sh)) (ke0 : (List Int) → Option (shDen spec_l01End_sh)) (z130 : (List Int)) (x8 : Int) (y30 : (List Int)) : Option (shDen spec_l01End_sh) :=
 (cond (decide (x8 < (z130.length : Int)))
 (bindO (spec_l01Block_r z130 x8) fun (b4 : (List Int)) => (bindO (spec_l01Mix_r y30 b4) fun (b5 : (List Int)) => (rec z130 (IntKind.wrap .i64 (x8 + (32 : Int))) b5)))
 (ke0 y30))
noncomputable def spec_l01End_l0_L (ke0 : (List Int) → Option (shDen spec_l01End_sh))  : Nat → (List Int) → Int → (List Int) → Option (shDen spec_l01End_sh)
 | 0 => fun _ _ _ => none
 | n + 1 => spec_l01End_l0_b (spec_l01End_l0_L ke0  n) ke0 
noncomputable def spec_l01End_r (a0 : (List Int)) (a1 : (List Int)) (a2 : Int) : Option (shDen spec_l01End_sh) :=
 (bindO (spec_l01Padded_r a1 a2) fun (b1 : (List Int)) => (spec_l01End_l0_L (fun y30 => (spec_l01End_l1_L (fun y90 => (some y90)) FUEL y30 (0 : Int) (List.replicate 32 (0 : Int)))) FUEL b1 (0 : Int) a0))
theorem spec_l01End_l1_round (k : Nat) (K : Ex → St → Option (shDen spec_l01End_sh)) (n : Nat) (y30 : (List Int)) (x10 : Int) (y90 : (List Int)) : (loopK (spec_l01End_cx k) 0 (execK (spec_l01End_cx k) (callK (spec_l01End_cx k) 8) 0 97 (sub spec_l01End_c [1, 1, 1, 1, 0, 1, 0, 0])) spec_l01End_l1_cut K (n + 1) (spec_l01End_l1_s y30 x10 y90) : Option (shDen spec_l01End_sh)) =
 ((cond (decide (x10 < (32 : Int)))
 (cond ((decide ((0 : Int) ≤ (IntKind.wrap .i64 (Int.tdiv x10 (4 : Int))))) && (decide ((IntKind.wrap .i64 (Int.tdiv x10 (4 : Int))) < (8 : Int))))
 (cond (decide ((IntKind.wrap .u64 (IntKind.wrap .i64 ((8 : Int) * (Int.tmod x10 (4 : Int))))) < (0 : Int)))
 none
 (cond ((decide ((0 : Int) ≤ x10)) && (decide (x10 < (32 : Int))))
 (loopK (spec_l01End_cx k) 0 (execK (spec_l01End_cx k) (callK (spec_l01End_cx k) 8) 0 97 (sub spec_l01End_c [1, 1, 1, 1, 0, 1, 0, 0])) spec_l01End_l1_cut K n (spec_l01End_l1_s y30 (IntKind.wrap .i64 (x10 + (1 : Int))) (y90.set (x10.toNat) (IntKind.wrap .u8 (shrI .u32 (y30.getD ((IntKind.wrap .i64 (Int.tdiv x10 (4 : Int))).toNat) (0 : Int)) (IntKind.wrap .u64 (IntKind.wrap .i64 ((8 : Int) * (Int.tmod x10 (4 : Int))))))))))
 none))
 none)
 (K (.exit 2) (spec_l01End_l1_o2 y90))) : Option (shDen spec_l01End_sh)) := by kernel_rfl

theorem spec_l01End_l1_exit2 (k : Nat)  (y90 : (List Int)) : ((blkK 2 (seqK (execK (spec_l01End_cx k) (callK (spec_l01End_cx k) 8) 0 97 (sub spec_l01End_c [1, 1, 1, 1, 1])) (finK (spec_l01End_cx k) spec_l01End_i spec_l01End_sh))) (.exit 2) (spec_l01End_l1_o2 y90) : Option (shDen spec_l01End_sh)) =
 ((some y90) : Option (shDen spec_l01End_sh)) := by kernel_rfl

theorem spec_l01End_l1_congr (ke2 : (List Int) → Option (shDen spec_l01End_sh)) (ke2' : (List Int) → Option (shDen spec_l01End_sh))  (n : Nat) (y30 : (List Int)) (x10 : Int) (y90 : (List Int)) (hke2 : ∀ y90, ke2 y90 = ke2' y90) : spec_l01End_l1_L ke2  n y30 x10 y90 = spec_l01End_l1_L ke2'  n y30 x10 y90 := by
 have : ke2 = ke2' := (by funext y90; exact hke2 y90); subst this; rfl

theorem spec_l01End_l1_L_eq (K : Ex → St → Option (shDen spec_l01End_sh))  : ∀ (n : Nat) (y30 : (List Int)) (x10 : Int) (y90 : (List Int)), (loopK (spec_l01End_cx FUEL) 0 (execK (spec_l01End_cx FUEL) (callK (spec_l01End_cx FUEL) 8) 0 97 (sub spec_l01End_c [1, 1, 1, 1, 0, 1, 0, 0])) spec_l01End_l1_cut K n (spec_l01End_l1_s y30 x10 y90) : Option (shDen spec_l01End_sh)) = spec_l01End_l1_L (fun y90 => K (.exit 2) (spec_l01End_l1_o2 y90))  n y30 x10 y90 := by
 intro n
 induction n with
 | zero => intros; rfl
 | succ n ih =>
  intro y30 x10 y90
  exact (spec_l01End_l1_round FUEL K n  y30 x10 y90).trans (condC (condC (condC (rfl) (condC (ih y30 (IntKind.wrap .i64 (x10 + (1 : Int))) (y90.set (x10.toNat) (IntKind.wrap .u8 (shrI .u32 (y30.getD ((IntKind.wrap .i64 (Int.tdiv x10 (4 : Int))).toNat) (0 : Int)) (IntKind.wrap .u64 (IntKind.wrap .i64 ((8 : Int) * (Int.tmod x10 (4 : Int))))))))) (rfl))) (rfl)) (rfl))

theorem spec_l01End_l0_round (k : Nat) (K : Ex → St → Option (shDen spec_l01End_sh)) (n : Nat) (z130 : (List Int)) (x8 : Int) (y30 : (List Int)) : (loopK (spec_l01End_cx k) 0 (execK (spec_l01End_cx k) (callK (spec_l01End_cx k) 8) 0 97 (sub spec_l01End_c [1, 1, 0, 1, 0, 0])) spec_l01End_l0_cut K (n + 1) (spec_l01End_l0_s z130 x8 y30) : Option (shDen spec_l01End_sh)) =
 ((cond (decide (x8 < (z130.length : Int)))
 (bindO (spec_l01Block_r z130 x8) fun (b4 : (List Int)) => (bindO (spec_l01Mix_r y30 b4) fun (b5 : (List Int)) => (loopK (spec_l01End_cx k) 0 (execK (spec_l01End_cx k) (callK (spec_l01End_cx k) 8) 0 97 (sub spec_l01End_c [1, 1, 0, 1, 0, 0])) spec_l01End_l0_cut K n (spec_l01End_l0_s z130 (IntKind.wrap .i64 (x8 + (32 : Int))) b5))))
 (K (.exit 0) (spec_l01End_l0_o0 y30))) : Option (shDen spec_l01End_sh)) := by kernel_rfl

theorem spec_l01End_l0_exit0 (k : Nat)  (y30 : (List Int)) : ((blkK 0 (seqK (execK (spec_l01End_cx k) (callK (spec_l01End_cx k) 8) 0 97 (sub spec_l01End_c [1, 1, 1])) (finK (spec_l01End_cx k) spec_l01End_i spec_l01End_sh))) (.exit 0) (spec_l01End_l0_o0 y30) : Option (shDen spec_l01End_sh)) =
 ((loopK (spec_l01End_cx k) 0 (execK (spec_l01End_cx k) (callK (spec_l01End_cx k) 8) 0 97 (sub spec_l01End_c [1, 1, 1, 1, 0, 1, 0, 0])) spec_l01End_l1_cut (blkK 2 (seqK (execK (spec_l01End_cx k) (callK (spec_l01End_cx k) 8) 0 97 (sub spec_l01End_c [1, 1, 1, 1, 1])) (finK (spec_l01End_cx k) spec_l01End_i spec_l01End_sh))) k (spec_l01End_l1_s y30 (0 : Int) (List.replicate 32 (0 : Int)))) : Option (shDen spec_l01End_sh)) := by kernel_rfl

theorem spec_l01End_l0_congr (ke0 : (List Int) → Option (shDen spec_l01End_sh)) (ke0' : (List Int) → Option (shDen spec_l01End_sh))  (n : Nat) (z130 : (List Int)) (x8 : Int) (y30 : (List Int)) (hke0 : ∀ y30, ke0 y30 = ke0' y30) : spec_l01End_l0_L ke0  n z130 x8 y30 = spec_l01End_l0_L ke0'  n z130 x8 y30 := by
 have : ke0 = ke0' := (by funext y30; exact hke0 y30); subst this; rfl

theorem spec_l01End_l0_L_eq (K : Ex → St → Option (shDen spec_l01End_sh))  : ∀ (n : Nat) (z130 : (List Int)) (x8 : Int) (y30 : (List Int)), (loopK (spec_l01End_cx FUEL) 0 (execK (spec_l01End_cx FUEL) (callK (spec_l01End_cx FUEL) 8) 0 97 (sub spec_l01End_c [1, 1, 0, 1, 0, 0])) spec_l01End_l0_cut K n (spec_l01End_l0_s z130 x8 y30) : Option (shDen spec_l01End_sh)) = spec_l01End_l0_L (fun y30 => K (.exit 0) (spec_l01End_l0_o0 y30))  n z130 x8 y30 := by
 intro n
 induction n with
 | zero => intros; rfl
 | succ n ih =>
  intro z130 x8 y30
  exact (spec_l01End_l0_round FUEL K n  z130 x8 y30).trans (condC (bindC (fun b4 => bindC (fun b5 => ih z130 (IntKind.wrap .i64 (x8 + (32 : Int))) b5))) (rfl))

theorem spec_l01End_start (k : Nat) (a0 : (List Int)) (a1 : (List Int)) (a2 : Int) : fnK (spec_l01End_cx k) 8 97 spec_l01End_i spec_l01End_sh [.pv (.arr 8 (.int .u32)) a0, .pv (.slice (.int .u8)) a1, .pv (.int .i64) a2] =
 ((bindO (spec_l01Padded_r a1 a2) fun (b1 : (List Int)) => (loopK (spec_l01End_cx k) 0 (execK (spec_l01End_cx k) (callK (spec_l01End_cx k) 8) 0 97 (sub spec_l01End_c [1, 1, 0, 1, 0, 0])) spec_l01End_l0_cut (blkK 0 (seqK (execK (spec_l01End_cx k) (callK (spec_l01End_cx k) 8) 0 97 (sub spec_l01End_c [1, 1, 1])) (finK (spec_l01End_cx k) spec_l01End_i spec_l01End_sh))) k (spec_l01End_l0_s b1 (0 : Int) a0))) : Option (shDen spec_l01End_sh)) := by kernel_rfl

theorem spec_l01End_run (a0 : (List Int)) (a1 : (List Int)) (a2 : Int) : fnK (spec_l01End_cx FUEL) 8 97 spec_l01End_i spec_l01End_sh [.pv (.arr 8 (.int .u32)) a0, .pv (.slice (.int .u8)) a1, .pv (.int .i64) a2] = spec_l01End_r a0 a1 a2 :=
 (spec_l01End_start FUEL a0 a1 a2).trans (bindC (fun b1 => (spec_l01End_l0_L_eq _  FUEL b1 (0 : Int) a0).trans (spec_l01End_l0_congr _ _  FUEL b1 (0 : Int) a0 (fun y30 => (spec_l01End_l0_exit0 FUEL  y30).trans ((spec_l01End_l1_L_eq _  FUEL y30 (0 : Int) (List.replicate 32 (0 : Int))).trans (spec_l01End_l1_congr _ _  FUEL y30 (0 : Int) (List.replicate 32 (0 : Int)) (fun y90 => (spec_l01End_l1_exit2 FUEL  y90).trans (rfl))))))))

noncomputable def spec_l01End_con : Con := { ps := (.pair (.arr 8 (.int .u32)) (.pair (.slice (.int .u8)) (.pair (.int .i64) .unit))), sh := spec_l01End_sh, raw := fun x => spec_l01End_r x.1 x.2.1 x.2.2.1 }
theorem spec_l01End_conOk : ConOk Try.prog 97 spec_l01End_con := con_of_fn (spec_l01End_tabs FUEL) (depth := 8) spec_l01End_ok fun x y h => (spec_l01End_run x.1 x.2.1 x.2.2.1).trans h

noncomputable def spec_l01Hash_inls : List (Nat × Inl) := []
noncomputable def spec_l01Hash_cons : List (Nat × Con) := [(97, spec_l01End_con), (98, spec_l01Start_con)]
noncomputable def spec_l01Hash_taks : List (Nat × ConT) := []
noncomputable def spec_l01Hash_inps : List (Nat × ConI) := []
noncomputable def spec_l01Hash_cuts : List (Nat × List (Nat × Cut)) := []
noncomputable def spec_l01Hash_cx (k : Nat) : Cx := mkCx tys tbytes telem nozero (Ai.look spec_l01Hash_inls) (Ai.look spec_l01Hash_cons) (Ai.look spec_l01Hash_taks) (Ai.look spec_l01Hash_inps) (fun f id => match Ai.look spec_l01Hash_cuts f with | some l => Ai.look l id | none => none) k []
theorem spec_l01Hash_tabs (k : Nat) : TabsOk Try.prog (spec_l01Hash_cx k) := ⟨tab_mk tabs_ok _ _ _ _ _ _ _, look_all (Q := ConOk Try.prog) _ ⟨spec_l01End_conOk, spec_l01Start_conOk, trivial⟩, look_all (Q := TakOk Try.prog) _ trivial, look_all (Q := InpOk Try.prog) _ trivial, look_all (Q := InlOk Try.prog) _ trivial, mixed_ok⟩
abbrev spec_l01Hash_sh : List Sh := [.pl (.arr 32 (.int .u8))]
noncomputable def spec_l01Hash_r (a0 : Int) (a1 : (List Int)) : Option (shDen spec_l01Hash_sh) :=
 (bindO (spec_l01Start_r a0) fun (b1 : (List Int)) => (bindO (spec_l01End_r b1 a1 (a1.length : Int)) fun (b2 : (List Int)) => (some b2)))
theorem spec_l01Hash_start (k : Nat) (a0 : Int) (a1 : (List Int)) : fnK (spec_l01Hash_cx k) 8 64 spec_l01Hash_i spec_l01Hash_sh [.pv (.int .u8) a0, .pv (.slice (.int .u8)) a1] =
 ((bindO (spec_l01Start_r a0) fun (b1 : (List Int)) => (bindO (spec_l01End_r b1 a1 (a1.length : Int)) fun (b2 : (List Int)) => (some b2))) : Option (shDen spec_l01Hash_sh)) := by kernel_rfl

theorem spec_l01Hash_run (a0 : Int) (a1 : (List Int)) : fnK (spec_l01Hash_cx FUEL) 8 64 spec_l01Hash_i spec_l01Hash_sh [.pv (.int .u8) a0, .pv (.slice (.int .u8)) a1] = spec_l01Hash_r a0 a1 :=
 (spec_l01Hash_start FUEL a0 a1).trans (rfl)

noncomputable def spec_l01Hash_con : Con := { ps := (.pair (.int .u8) (.pair (.slice (.int .u8)) .unit)), sh := spec_l01Hash_sh, raw := fun x => spec_l01Hash_r x.1 x.2.1 }
theorem spec_l01Hash_conOk : ConOk Try.prog 64 spec_l01Hash_con := con_of_fn (spec_l01Hash_tabs FUEL) (depth := 8) spec_l01Hash_ok fun x y h => (spec_l01Hash_run x.1 x.2.1).trans h

noncomputable def spec_RecipeOf_l0_cut : Cut := { keep := [7, 8, 9], stk := [], ids := [170, 90080], own := [(8, 90080, 44)], outs := [(1, [8], [90080])] }
noncomputable def spec_RecipeOf_inls : List (Nat × Inl) := []
noncomputable def spec_RecipeOf_cons : List (Nat × Con) := [(62, spec_l02Given_con), (63, spec_l02Chunks_con), (64, spec_l01Hash_con)]
noncomputable def spec_RecipeOf_taks : List (Nat × ConT) := []
noncomputable def spec_RecipeOf_inps : List (Nat × ConI) := []
noncomputable def spec_RecipeOf_cuts : List (Nat × List (Nat × Cut)) := [(21, [(0, spec_RecipeOf_l0_cut)])]
noncomputable def spec_RecipeOf_cx (k : Nat) : Cx := mkCx tys tbytes telem nozero (Ai.look spec_RecipeOf_inls) (Ai.look spec_RecipeOf_cons) (Ai.look spec_RecipeOf_taks) (Ai.look spec_RecipeOf_inps) (fun f id => match Ai.look spec_RecipeOf_cuts f with | some l => Ai.look l id | none => none) k []
theorem spec_RecipeOf_tabs (k : Nat) : TabsOk Try.prog (spec_RecipeOf_cx k) := ⟨tab_mk tabs_ok _ _ _ _ _ _ _, look_all (Q := ConOk Try.prog) _ ⟨spec_l02Given_conOk, spec_l02Chunks_conOk, spec_l01Hash_conOk, trivial⟩, look_all (Q := TakOk Try.prog) _ trivial, look_all (Q := InpOk Try.prog) _ trivial, look_all (Q := InlOk Try.prog) _ trivial, mixed_ok⟩
abbrev spec_RecipeOf_sh : List Sh := [.own 99 (.pair (.arr 32 (.int .u8)) (.pair (.int .i64) .unit)), .pl (.int .i64)]
noncomputable def spec_RecipeOf_l0_s (z170 : (List (List Int))) (x9 : Int) (z90080 : (List ((List Int) × (Int × Unit)))) : St := { env := [.dead, .dead, .dead, .dead, .dead, .dead, .dead, .sl 170 (.slice (.int .u8)), .sl 90080 (.pair (.arr 32 (.int .u8)) (.pair (.int .i64) .unit)), .pv (.int .i64) x9, .dead, .dead, .dead, .dead, .dead, .dead, .dead, .dead, .dead, .dead, .dead, .dead, .dead, .dead, .dead, .dead, .dead, .dead, .dead, .dead, .dead, .dead, .dead, .dead, .dead, .dead, .dead, .dead, .dead, .dead], stk := [], heap := [(90080, .arr 99 (.pair (.arr 32 (.int .u8)) (.pair (.int .i64) .unit)) z90080), (170, .arr 25 (.slice (.int .u8)) z170)] }
noncomputable def spec_RecipeOf_l0_o0 (z90080 : (List ((List Int) × (Int × Unit)))) : St := { env := [.dead, .dead, .dead, .dead, .dead, .dead, .dead, .dead, .sl 90080 (.pair (.arr 32 (.int .u8)) (.pair (.int .i64) .unit)), .dead, .dead, .dead, .dead, .dead, .dead, .dead, .dead, .dead, .dead, .dead, .dead, .dead, .dead, .dead, .dead, .dead, .dead, .dead, .dead, .dead, .dead, .dead, .dead, .dead, .dead, .dead, .dead, .dead, .dead, .dead], stk := [], heap := [(90080, .arr 99 (.pair (.arr 32 (.int .u8)) (.pair (.int .i64) .unit)) z90080)] }
noncomputable def spec_RecipeOf_l0_b (rec : (List (List Int)) → Int → (List ((List Int) × (Int × Unit))) → Option (shDen spec_RecipeOf_sh)) (ke0 : (List ((List Int) × (Int × Unit))) → Option (shDen spec_RecipeOf_sh)) (z170 : (List (List Int))) (x9 : Int) (z90080 : (List ((List Int) × (Int × Unit)))) : Option (shDen spec_RecipeOf_sh) :=
 (cond (decide (x9 < (z170.length : Int)))
 (cond ((decide ((0 : Int) ≤ x9)) && (decide (x9 < (z170.length : Int))))
 (bindO (spec_l01Hash_r (1 : Int) (z170.getD (x9.toNat) [])) fun (b4 : (List Int)) => (cond ((decide ((0 : Int) ≤ x9)) && (decide (x9 < (z170.length : Int))))
 (cond (decide ((z90080.length + 1) * 40 ≤ 140737488355328) && decide (z90080.length + 1 ≤ 9223372036854775807))
 (rec z170 (IntKind.wrap .i64 (x9 + (1 : Int))) (z90080 ++ [(b4, (((z170.getD (x9.toNat) []).length : Int), ()))]))
 none)
 none))
 none)
 (ke0 z90080))
noncomputable def spec_RecipeOf_l0_L (ke0 : (List ((List Int) × (Int × Unit))) → Option (shDen spec_RecipeOf_sh))  : Nat → (List (List Int)) → Int → (List ((List Int) × (Int × Unit))) → Option (shDen spec_RecipeOf_sh)
 | 0 => fun _ _ _ => none
 | n + 1 => spec_RecipeOf_l0_b (spec_RecipeOf_l0_L ke0  n) ke0 
noncomputable def spec_RecipeOf_r (a0 : (Int × (Int × (Int × Unit)))) (a1 : (List Int)) : Option (shDen spec_RecipeOf_sh) :=
 (bindO (spec_l02Given_r a0 a1) fun (b1 : Int) => (cond (!(decide (b1 = (0 : Int))))
 (some ([], b1))
 (bindO (spec_l02Chunks_r a0 a1) fun (b2 : (List (List Int))) => (spec_RecipeOf_l0_L (fun z90080 => (some (z90080, (0 : Int)))) FUEL b2 (0 : Int) []))))
theorem spec_RecipeOf_l0_round (k : Nat) (K : Ex → St → Option (shDen spec_RecipeOf_sh)) (n : Nat) (z170 : (List (List Int))) (x9 : Int) (z90080 : (List ((List Int) × (Int × Unit)))) : (loopK (spec_RecipeOf_cx k) 0 (execK (spec_RecipeOf_cx k) (callK (spec_RecipeOf_cx k) 8) 0 21 (sub spec_RecipeOf_c [1, 1, 1, 1, 0, 1, 0, 0])) spec_RecipeOf_l0_cut K (n + 1) (spec_RecipeOf_l0_s z170 x9 z90080) : Option (shDen spec_RecipeOf_sh)) =
 ((cond (decide (x9 < (z170.length : Int)))
 (cond ((decide ((0 : Int) ≤ x9)) && (decide (x9 < (z170.length : Int))))
 (bindO (spec_l01Hash_r (1 : Int) (z170.getD (x9.toNat) [])) fun (b4 : (List Int)) => (cond ((decide ((0 : Int) ≤ x9)) && (decide (x9 < (z170.length : Int))))
 (cond (decide ((z90080.length + 1) * 40 ≤ 140737488355328) && decide (z90080.length + 1 ≤ 9223372036854775807))
 (loopK (spec_RecipeOf_cx k) 0 (execK (spec_RecipeOf_cx k) (callK (spec_RecipeOf_cx k) 8) 0 21 (sub spec_RecipeOf_c [1, 1, 1, 1, 0, 1, 0, 0])) spec_RecipeOf_l0_cut K n (spec_RecipeOf_l0_s z170 (IntKind.wrap .i64 (x9 + (1 : Int))) (z90080 ++ [(b4, (((z170.getD (x9.toNat) []).length : Int), ()))])))
 none)
 none))
 none)
 (K (.exit 0) (spec_RecipeOf_l0_o0 z90080))) : Option (shDen spec_RecipeOf_sh)) := by kernel_rfl

theorem spec_RecipeOf_l0_exit0 (k : Nat)  (z90080 : (List ((List Int) × (Int × Unit)))) : ((blkK 0 (seqK (execK (spec_RecipeOf_cx k) (callK (spec_RecipeOf_cx k) 8) 0 21 (sub spec_RecipeOf_c [1, 1, 1, 1, 1])) (finK (spec_RecipeOf_cx k) spec_RecipeOf_i spec_RecipeOf_sh))) (.exit 0) (spec_RecipeOf_l0_o0 z90080) : Option (shDen spec_RecipeOf_sh)) =
 ((some (z90080, (0 : Int))) : Option (shDen spec_RecipeOf_sh)) := by kernel_rfl

theorem spec_RecipeOf_l0_congr (ke0 : (List ((List Int) × (Int × Unit))) → Option (shDen spec_RecipeOf_sh)) (ke0' : (List ((List Int) × (Int × Unit))) → Option (shDen spec_RecipeOf_sh))  (n : Nat) (z170 : (List (List Int))) (x9 : Int) (z90080 : (List ((List Int) × (Int × Unit)))) (hke0 : ∀ z90080, ke0 z90080 = ke0' z90080) : spec_RecipeOf_l0_L ke0  n z170 x9 z90080 = spec_RecipeOf_l0_L ke0'  n z170 x9 z90080 := by
 have : ke0 = ke0' := (by funext z90080; exact hke0 z90080); subst this; rfl

theorem spec_RecipeOf_l0_L_eq (K : Ex → St → Option (shDen spec_RecipeOf_sh))  : ∀ (n : Nat) (z170 : (List (List Int))) (x9 : Int) (z90080 : (List ((List Int) × (Int × Unit)))), (loopK (spec_RecipeOf_cx FUEL) 0 (execK (spec_RecipeOf_cx FUEL) (callK (spec_RecipeOf_cx FUEL) 8) 0 21 (sub spec_RecipeOf_c [1, 1, 1, 1, 0, 1, 0, 0])) spec_RecipeOf_l0_cut K n (spec_RecipeOf_l0_s z170 x9 z90080) : Option (shDen spec_RecipeOf_sh)) = spec_RecipeOf_l0_L (fun z90080 => K (.exit 0) (spec_RecipeOf_l0_o0 z90080))  n z170 x9 z90080 := by
 intro n
 induction n with
 | zero => intros; rfl
 | succ n ih =>
  intro z170 x9 z90080
  exact (spec_RecipeOf_l0_round FUEL K n  z170 x9 z90080).trans (condC (condC (bindC (fun b4 => condC (condC (ih z170 (IntKind.wrap .i64 (x9 + (1 : Int))) (z90080 ++ [(b4, (((z170.getD (x9.toNat) []).length : Int), ()))])) (rfl)) (rfl))) (rfl)) (rfl))

theorem spec_RecipeOf_start (k : Nat) (a0 : (Int × (Int × (Int × Unit)))) (a1 : (List Int)) : fnK (spec_RecipeOf_cx k) 8 21 spec_RecipeOf_i spec_RecipeOf_sh [.pv (.pair (.int .i64) (.pair (.int .i64) (.pair (.int .i64) .unit))) a0, .pv (.slice (.int .u8)) a1] =
 ((bindO (spec_l02Given_r a0 a1) fun (b1 : Int) => (cond (!(decide (b1 = (0 : Int))))
 (some ([], b1))
 (bindO (spec_l02Chunks_r a0 a1) fun (b2 : (List (List Int))) => (loopK (spec_RecipeOf_cx k) 0 (execK (spec_RecipeOf_cx k) (callK (spec_RecipeOf_cx k) 8) 0 21 (sub spec_RecipeOf_c [1, 1, 1, 1, 0, 1, 0, 0])) spec_RecipeOf_l0_cut (blkK 0 (seqK (execK (spec_RecipeOf_cx k) (callK (spec_RecipeOf_cx k) 8) 0 21 (sub spec_RecipeOf_c [1, 1, 1, 1, 1])) (finK (spec_RecipeOf_cx k) spec_RecipeOf_i spec_RecipeOf_sh))) k (spec_RecipeOf_l0_s b2 (0 : Int) []))))) : Option (shDen spec_RecipeOf_sh)) := by kernel_rfl

theorem spec_RecipeOf_run (a0 : (Int × (Int × (Int × Unit)))) (a1 : (List Int)) : fnK (spec_RecipeOf_cx FUEL) 8 21 spec_RecipeOf_i spec_RecipeOf_sh [.pv (.pair (.int .i64) (.pair (.int .i64) (.pair (.int .i64) .unit))) a0, .pv (.slice (.int .u8)) a1] = spec_RecipeOf_r a0 a1 :=
 (spec_RecipeOf_start FUEL a0 a1).trans (bindC (fun b1 => condC (rfl) (bindC (fun b2 => (spec_RecipeOf_l0_L_eq _  FUEL b2 (0 : Int) []).trans (spec_RecipeOf_l0_congr _ _  FUEL b2 (0 : Int) [] (fun z90080 => (spec_RecipeOf_l0_exit0 FUEL  z90080).trans (rfl)))))))

noncomputable def spec_RecipeOf_con : Con := { ps := (.pair (.pair (.int .i64) (.pair (.int .i64) (.pair (.int .i64) .unit))) (.pair (.slice (.int .u8)) .unit)), sh := spec_RecipeOf_sh, raw := fun x => spec_RecipeOf_r x.1 x.2.1 }
theorem spec_RecipeOf_conOk : ConOk Try.prog 21 spec_RecipeOf_con := con_of_fn (spec_RecipeOf_tabs FUEL) (depth := 8) spec_RecipeOf_ok fun x y h => (spec_RecipeOf_run x.1 x.2.1).trans h

noncomputable def impl_within_inls : List (Nat × Inl) := []
noncomputable def impl_within_cons : List (Nat × Con) := []
noncomputable def impl_within_taks : List (Nat × ConT) := []
noncomputable def impl_within_inps : List (Nat × ConI) := []
noncomputable def impl_within_cuts : List (Nat × List (Nat × Cut)) := []
noncomputable def impl_within_cx (k : Nat) : Cx := mkCx tys tbytes telem nozero (Ai.look impl_within_inls) (Ai.look impl_within_cons) (Ai.look impl_within_taks) (Ai.look impl_within_inps) (fun f id => match Ai.look impl_within_cuts f with | some l => Ai.look l id | none => none) k []
theorem impl_within_tabs (k : Nat) : TabsOk Try.prog (impl_within_cx k) := ⟨tab_mk tabs_ok _ _ _ _ _ _ _, look_all (Q := ConOk Try.prog) _ trivial, look_all (Q := TakOk Try.prog) _ trivial, look_all (Q := InpOk Try.prog) _ trivial, look_all (Q := InlOk Try.prog) _ trivial, mixed_ok⟩
abbrev impl_within_sh : List Sh := [.pl .bool]
noncomputable def impl_within_r (a0 : Int) (a1 : Int) (a2 : Int) : Option (shDen impl_within_sh) :=
 (cond (decide (a1 ≤ a0))
 (some (decide (a0 ≤ a2)))
 (some false))
theorem impl_within_start (k : Nat) (a0 : Int) (a1 : Int) (a2 : Int) : fnK (impl_within_cx k) 8 86 impl_within_i impl_within_sh [.pv (.int .i64) a0, .pv (.int .i64) a1, .pv (.int .i64) a2] =
 ((cond (decide (a1 ≤ a0))
 (some (decide (a0 ≤ a2)))
 (some false)) : Option (shDen impl_within_sh)) := by kernel_rfl

theorem impl_within_run (a0 : Int) (a1 : Int) (a2 : Int) : fnK (impl_within_cx FUEL) 8 86 impl_within_i impl_within_sh [.pv (.int .i64) a0, .pv (.int .i64) a1, .pv (.int .i64) a2] = impl_within_r a0 a1 a2 :=
 (impl_within_start FUEL a0 a1 a2).trans (rfl)

noncomputable def impl_within_con : Con := { ps := (.pair (.int .i64) (.pair (.int .i64) (.pair (.int .i64) .unit))), sh := impl_within_sh, raw := fun x => impl_within_r x.1 x.2.1 x.2.2.1 }
theorem impl_within_conOk : ConOk Try.prog 86 impl_within_con := con_of_fn (impl_within_tabs FUEL) (depth := 8) impl_within_ok fun x y h => (impl_within_run x.1 x.2.1 x.2.2.1).trans h

noncomputable def impl_ValidRule_inls : List (Nat × Inl) := []
noncomputable def impl_ValidRule_cons : List (Nat × Con) := [(86, impl_within_con)]
noncomputable def impl_ValidRule_taks : List (Nat × ConT) := []
noncomputable def impl_ValidRule_inps : List (Nat × ConI) := []
noncomputable def impl_ValidRule_cuts : List (Nat × List (Nat × Cut)) := []
noncomputable def impl_ValidRule_cx (k : Nat) : Cx := mkCx tys tbytes telem nozero (Ai.look impl_ValidRule_inls) (Ai.look impl_ValidRule_cons) (Ai.look impl_ValidRule_taks) (Ai.look impl_ValidRule_inps) (fun f id => match Ai.look impl_ValidRule_cuts f with | some l => Ai.look l id | none => none) k []
theorem impl_ValidRule_tabs (k : Nat) : TabsOk Try.prog (impl_ValidRule_cx k) := ⟨tab_mk tabs_ok _ _ _ _ _ _ _, look_all (Q := ConOk Try.prog) _ ⟨impl_within_conOk, trivial⟩, look_all (Q := TakOk Try.prog) _ trivial, look_all (Q := InpOk Try.prog) _ trivial, look_all (Q := InlOk Try.prog) _ trivial, mixed_ok⟩
abbrev impl_ValidRule_sh : List Sh := [.pl .bool]
noncomputable def impl_ValidRule_r (a0 : (Int × (Int × (Int × Unit)))) : Option (shDen impl_ValidRule_sh) :=
 (bindO (impl_within_r a0.1 (1 : Int) (64 : Int)) fun (b1 : Bool) => (cond b1
 (bindO (impl_within_r a0.2.1 a0.1 (256 : Int)) fun (b2 : Bool) => (cond b2
 (bindO (impl_within_r a0.2.2.1 (0 : Int) (8 : Int)) fun (b3 : Bool) => (some b3))
 (some false)))
 (some false)))
theorem impl_ValidRule_start (k : Nat) (a0 : (Int × (Int × (Int × Unit)))) : fnK (impl_ValidRule_cx k) 8 46 impl_ValidRule_i impl_ValidRule_sh [.pv (.pair (.int .i64) (.pair (.int .i64) (.pair (.int .i64) .unit))) a0] =
 ((bindO (impl_within_r a0.1 (1 : Int) (64 : Int)) fun (b1 : Bool) => (cond b1
 (bindO (impl_within_r a0.2.1 a0.1 (256 : Int)) fun (b2 : Bool) => (cond b2
 (bindO (impl_within_r a0.2.2.1 (0 : Int) (8 : Int)) fun (b3 : Bool) => (some b3))
 (some false)))
 (some false))) : Option (shDen impl_ValidRule_sh)) := by kernel_rfl

theorem impl_ValidRule_run (a0 : (Int × (Int × (Int × Unit)))) : fnK (impl_ValidRule_cx FUEL) 8 46 impl_ValidRule_i impl_ValidRule_sh [.pv (.pair (.int .i64) (.pair (.int .i64) (.pair (.int .i64) .unit))) a0] = impl_ValidRule_r a0 :=
 (impl_ValidRule_start FUEL a0).trans (rfl)

noncomputable def impl_ValidRule_con : Con := { ps := (.pair (.pair (.int .i64) (.pair (.int .i64) (.pair (.int .i64) .unit))) .unit), sh := impl_ValidRule_sh, raw := fun x => impl_ValidRule_r x.1 }
theorem impl_ValidRule_conOk : ConOk Try.prog 46 impl_ValidRule_con := con_of_fn (impl_ValidRule_tabs FUEL) (depth := 8) impl_ValidRule_ok fun x y h => (impl_ValidRule_run x.1).trans h

noncomputable def impl_ruleCode_1_inls : List (Nat × Inl) := []
noncomputable def impl_ruleCode_1_cons : List (Nat × Con) := []
noncomputable def impl_ruleCode_1_taks : List (Nat × ConT) := []
noncomputable def impl_ruleCode_1_inps : List (Nat × ConI) := []
noncomputable def impl_ruleCode_1_cuts : List (Nat × List (Nat × Cut)) := []
noncomputable def impl_ruleCode_1_cx (k : Nat) : Cx := mkCx tys tbytes telem nozero (Ai.look impl_ruleCode_1_inls) (Ai.look impl_ruleCode_1_cons) (Ai.look impl_ruleCode_1_taks) (Ai.look impl_ruleCode_1_inps) (fun f id => match Ai.look impl_ruleCode_1_cuts f with | some l => Ai.look l id | none => none) k []
theorem impl_ruleCode_1_tabs (k : Nat) : TabsOk Try.prog (impl_ruleCode_1_cx k) := ⟨tab_mk tabs_ok _ _ _ _ _ _ _, look_all (Q := ConOk Try.prog) _ trivial, look_all (Q := TakOk Try.prog) _ trivial, look_all (Q := InpOk Try.prog) _ trivial, look_all (Q := InlOk Try.prog) _ trivial, mixed_ok⟩
abbrev impl_ruleCode_1_sh : List Sh := [.pl .bool]
noncomputable def impl_ruleCode_1_r (a0 : (List Int)) : Option (shDen impl_ruleCode_1_sh) :=
 (some (decide ((4096 : Int) < (a0.length : Int))))
theorem impl_ruleCode_1_start (k : Nat) (a0 : (List Int)) : fnK (impl_ruleCode_1_cx k) 8 100 impl_ruleCode_1_i impl_ruleCode_1_sh [.pv (.slice (.int .u8)) a0] =
 ((some (decide ((4096 : Int) < (a0.length : Int)))) : Option (shDen impl_ruleCode_1_sh)) := by kernel_rfl

theorem impl_ruleCode_1_run (a0 : (List Int)) : fnK (impl_ruleCode_1_cx FUEL) 8 100 impl_ruleCode_1_i impl_ruleCode_1_sh [.pv (.slice (.int .u8)) a0] = impl_ruleCode_1_r a0 :=
 (impl_ruleCode_1_start FUEL a0).trans (rfl)

noncomputable def impl_ruleCode_1_con : Con := { ps := (.pair (.slice (.int .u8)) .unit), sh := impl_ruleCode_1_sh, raw := fun x => impl_ruleCode_1_r x.1 }
theorem impl_ruleCode_1_conOk : ConOk Try.prog 100 impl_ruleCode_1_con := con_of_fn (impl_ruleCode_1_tabs FUEL) (depth := 8) impl_ruleCode_1_ok fun x y h => (impl_ruleCode_1_run x.1).trans h

noncomputable def impl_ruleCode_l0_cut : Cut := { keep := [0, 1, 7, 8], stk := [[], []], ids := [], own := [], outs := [(0, [4], []), (1, [], [])] }
noncomputable def impl_ruleCode_inls : List (Nat × Inl) := [(99, slices_ContainsFunc_byte_byte_i), (124, slices_IndexFunc_byte_byte_i)]
noncomputable def impl_ruleCode_cons : List (Nat × Con) := [(46, impl_ValidRule_con), (100, impl_ruleCode_1_con)]
noncomputable def impl_ruleCode_taks : List (Nat × ConT) := []
noncomputable def impl_ruleCode_inps : List (Nat × ConI) := []
noncomputable def impl_ruleCode_cuts : List (Nat × List (Nat × Cut)) := [(650011009900070124, [(0, impl_ruleCode_l0_cut)])]
noncomputable def impl_ruleCode_cx (k : Nat) : Cx := mkCx tys tbytes telem nozero (Ai.look impl_ruleCode_inls) (Ai.look impl_ruleCode_cons) (Ai.look impl_ruleCode_taks) (Ai.look impl_ruleCode_inps) (fun f id => match Ai.look impl_ruleCode_cuts f with | some l => Ai.look l id | none => none) k []
theorem impl_ruleCode_tabs (k : Nat) : TabsOk Try.prog (impl_ruleCode_cx k) := ⟨tab_mk tabs_ok _ _ _ _ _ _ _, look_all (Q := ConOk Try.prog) _ ⟨impl_ValidRule_conOk, impl_ruleCode_1_conOk, trivial⟩, look_all (Q := TakOk Try.prog) _ trivial, look_all (Q := InpOk Try.prog) _ trivial, look_all (Q := InlOk Try.prog) _ ⟨slices_ContainsFunc_byte_byte_ok, slices_IndexFunc_byte_byte_ok, trivial⟩, mixed_ok⟩
abbrev impl_ruleCode_sh : List Sh := [.pl (.int .i64)]
noncomputable def impl_ruleCode_l0_s (a0 : (Int × (Int × (Int × Unit)))) (a1 : (List (List Int))) (x8 : Int) : St := { env := [.pv (.slice (.slice (.int .u8))) a1, .fn 100 (.pv .unit ()), .dead, .dead, .dead, .dead, .dead, .pv (.int .i64) (a1.length : Int), .pv (.int .i64) x8, .dead, .dead, .dead, .dead, .dead, .dead, .dead, .dead, .dead, .dead], stk := [[.dead, .dead, .dead, .dead, .dead, .dead, .dead, .dead, .dead], [.dead, .dead, .dead, .dead, .dead, .dead, .dead, .dead, .dead, .dead, .dead, .dead]], heap := [(20, .var (.pair (.int .i64) (.pair (.int .i64) (.pair (.int .i64) .unit))) (.pv (.pair (.int .i64) (.pair (.int .i64) (.pair (.int .i64) .unit))) a0))] }
noncomputable def impl_ruleCode_l0_o (a0 : (Int × (Int × (Int × Unit)))) (x4 : Int) : St := { env := [.dead, .dead, .dead, .dead, .pv (.int .i64) x4, .dead, .dead, .dead, .dead, .dead, .dead, .dead, .dead, .dead, .dead, .dead, .dead, .dead, .dead], stk := [[.dead, .dead, .dead, .dead, .dead, .dead, .dead, .dead, .dead], [.dead, .dead, .dead, .dead, .dead, .dead, .dead, .dead, .dead, .dead, .dead, .dead]], heap := [(20, .var (.pair (.int .i64) (.pair (.int .i64) (.pair (.int .i64) .unit))) (.pv (.pair (.int .i64) (.pair (.int .i64) (.pair (.int .i64) .unit))) a0))] }
noncomputable def impl_ruleCode_l0_o0 (a0 : (Int × (Int × (Int × Unit)))) : St := { env := [.dead, .dead, .dead, .dead, .dead, .dead, .dead, .dead, .dead, .dead, .dead, .dead, .dead, .dead, .dead, .dead, .dead, .dead, .dead], stk := [[.dead, .dead, .dead, .dead, .dead, .dead, .dead, .dead, .dead], [.dead, .dead, .dead, .dead, .dead, .dead, .dead, .dead, .dead, .dead, .dead, .dead]], heap := [(20, .var (.pair (.int .i64) (.pair (.int .i64) (.pair (.int .i64) .unit))) (.pv (.pair (.int .i64) (.pair (.int .i64) (.pair (.int .i64) .unit))) a0))] }
noncomputable def impl_ruleCode_l0_b (rec : Int → Option (shDen impl_ruleCode_sh)) (kr : Int → Option (shDen impl_ruleCode_sh)) (ke0 : Option (shDen impl_ruleCode_sh)) (a0 : (Int × (Int × (Int × Unit)))) (a1 : (List (List Int))) (x8 : Int) : Option (shDen impl_ruleCode_sh) :=
 (cond (decide (x8 < (a1.length : Int)))
 (cond ((decide ((0 : Int) ≤ x8)) && (decide (x8 < (a1.length : Int))))
 (bindO (impl_ruleCode_1_r (a1.getD (x8.toNat) [])) fun (b3 : Bool) => (cond b3
 (kr x8)
 (rec (IntKind.wrap .i64 (x8 + (1 : Int))))))
 none)
 (ke0))
noncomputable def impl_ruleCode_l0_L (kr : Int → Option (shDen impl_ruleCode_sh)) (ke0 : Option (shDen impl_ruleCode_sh)) (a0 : (Int × (Int × (Int × Unit)))) (a1 : (List (List Int))) : Nat → Int → Option (shDen impl_ruleCode_sh)
 | 0 => fun _ => none
 | n + 1 => impl_ruleCode_l0_b (impl_ruleCode_l0_L kr ke0 a0 a1 n) kr ke0 a0 a1
noncomputable def impl_ruleCode_r (a0 : (Int × (Int × (Int × Unit)))) (a1 : (List (List Int))) : Option (shDen impl_ruleCode_sh) :=
 (bindO (impl_ValidRule_r a0) fun (b1 : Bool) => (cond (!b1)
 (some (1 : Int))
 (impl_ruleCode_l0_L (fun x4 => (cond (decide ((0 : Int) ≤ x4))
 (some (3 : Int))
 (some (0 : Int)))) (some (0 : Int)) a0 a1 FUEL (0 : Int))))
theorem impl_ruleCode_l0_round (k : Nat) (K : Ex → St → Option (shDen impl_ruleCode_sh)) (n : Nat) (a0 : (Int × (Int × (Int × Unit)))) (a1 : (List (List Int))) (x8 : Int) : (loopK (impl_ruleCode_cx k) 2 (execK (impl_ruleCode_cx k) (callK (impl_ruleCode_cx k) 6) 2 650011009900070124 (sub slices_IndexFunc_byte_byte_c [1, 0, 1, 0, 0])) impl_ruleCode_l0_cut K (n + 1) (impl_ruleCode_l0_s a0 a1 x8) : Option (shDen impl_ruleCode_sh)) =
 ((cond (decide (x8 < (a1.length : Int)))
 (cond ((decide ((0 : Int) ≤ x8)) && (decide (x8 < (a1.length : Int))))
 (bindO (impl_ruleCode_1_r (a1.getD (x8.toNat) [])) fun (b3 : Bool) => (cond b3
 (K .ret (impl_ruleCode_l0_o a0 x8))
 (loopK (impl_ruleCode_cx k) 2 (execK (impl_ruleCode_cx k) (callK (impl_ruleCode_cx k) 6) 2 650011009900070124 (sub slices_IndexFunc_byte_byte_c [1, 0, 1, 0, 0])) impl_ruleCode_l0_cut K n (impl_ruleCode_l0_s a0 a1 (IntKind.wrap .i64 (x8 + (1 : Int)))))))
 none)
 (K (.exit 0) (impl_ruleCode_l0_o0 a0))) : Option (shDen impl_ruleCode_sh)) := by kernel_rfl

theorem impl_ruleCode_l0_ret (k : Nat)  (a0 : (Int × (Int × (Int × Unit)))) (x4 : Int) : ((blkK 0 (seqK (execK (impl_ruleCode_cx k) (callK (impl_ruleCode_cx k) 6) 2 650011009900070124 (sub slices_IndexFunc_byte_byte_c [1, 1])) (retK (impl_ruleCode_cx k) slices_IndexFunc_byte_byte_i (some 7) 1 (opsRest (impl_ruleCode_cx k) (callK (impl_ruleCode_cx k) 7) 1 6500110099 false (regOps (sub slices_ContainsFunc_byte_byte_c [1, 0])) 2 (seqK (execK (impl_ruleCode_cx k) (callK (impl_ruleCode_cx k) 7) 1 6500110099 (sub slices_ContainsFunc_byte_byte_c [1, 1])) (retK (impl_ruleCode_cx k) slices_ContainsFunc_byte_byte_i (some 11) 0 (opsRest (impl_ruleCode_cx k) (callK (impl_ruleCode_cx k) 8) 0 65 false (regOps (sub impl_ruleCode_c [1, 0, 0, 1, 1, 0])) 1 (seqK (execK (impl_ruleCode_cx k) (callK (impl_ruleCode_cx k) 8) 0 65 (sub impl_ruleCode_c [1, 0, 0, 1, 1, 1])) (blkK 0 (seqK (execK (impl_ruleCode_cx k) (callK (impl_ruleCode_cx k) 8) 0 65 (sub impl_ruleCode_c [1, 1])) (finK (impl_ruleCode_cx k) impl_ruleCode_i impl_ruleCode_sh))))))))))) .ret (impl_ruleCode_l0_o a0 x4) : Option (shDen impl_ruleCode_sh)) =
 ((cond (decide ((0 : Int) ≤ x4))
 (some (3 : Int))
 (some (0 : Int))) : Option (shDen impl_ruleCode_sh)) := by kernel_rfl

theorem impl_ruleCode_l0_exit0 (k : Nat)  (a0 : (Int × (Int × (Int × Unit)))) : ((blkK 0 (seqK (execK (impl_ruleCode_cx k) (callK (impl_ruleCode_cx k) 6) 2 650011009900070124 (sub slices_IndexFunc_byte_byte_c [1, 1])) (retK (impl_ruleCode_cx k) slices_IndexFunc_byte_byte_i (some 7) 1 (opsRest (impl_ruleCode_cx k) (callK (impl_ruleCode_cx k) 7) 1 6500110099 false (regOps (sub slices_ContainsFunc_byte_byte_c [1, 0])) 2 (seqK (execK (impl_ruleCode_cx k) (callK (impl_ruleCode_cx k) 7) 1 6500110099 (sub slices_ContainsFunc_byte_byte_c [1, 1])) (retK (impl_ruleCode_cx k) slices_ContainsFunc_byte_byte_i (some 11) 0 (opsRest (impl_ruleCode_cx k) (callK (impl_ruleCode_cx k) 8) 0 65 false (regOps (sub impl_ruleCode_c [1, 0, 0, 1, 1, 0])) 1 (seqK (execK (impl_ruleCode_cx k) (callK (impl_ruleCode_cx k) 8) 0 65 (sub impl_ruleCode_c [1, 0, 0, 1, 1, 1])) (blkK 0 (seqK (execK (impl_ruleCode_cx k) (callK (impl_ruleCode_cx k) 8) 0 65 (sub impl_ruleCode_c [1, 1])) (finK (impl_ruleCode_cx k) impl_ruleCode_i impl_ruleCode_sh))))))))))) (.exit 0) (impl_ruleCode_l0_o0 a0) : Option (shDen impl_ruleCode_sh)) =
 ((some (0 : Int)) : Option (shDen impl_ruleCode_sh)) := by kernel_rfl

theorem impl_ruleCode_l0_congr (kr : Int → Option (shDen impl_ruleCode_sh)) (ke0 : Option (shDen impl_ruleCode_sh)) (kr' : Int → Option (shDen impl_ruleCode_sh)) (ke0' : Option (shDen impl_ruleCode_sh)) (a0 : (Int × (Int × (Int × Unit)))) (a1 : (List (List Int))) (n : Nat) (x8 : Int) (hkr : ∀ x4, kr x4 = kr' x4) (hke0 : ∀ (_ : Unit), ke0  = ke0' ) : impl_ruleCode_l0_L kr ke0 a0 a1 n x8 = impl_ruleCode_l0_L kr' ke0' a0 a1 n x8 := by
 have : kr = kr' := (by funext x4; exact hkr x4); subst this; have : ke0 = ke0' := hke0 (); subst this; rfl

theorem impl_ruleCode_l0_L_eq (K : Ex → St → Option (shDen impl_ruleCode_sh)) (a0 : (Int × (Int × (Int × Unit)))) (a1 : (List (List Int))) : ∀ (n : Nat) (x8 : Int), (loopK (impl_ruleCode_cx FUEL) 2 (execK (impl_ruleCode_cx FUEL) (callK (impl_ruleCode_cx FUEL) 6) 2 650011009900070124 (sub slices_IndexFunc_byte_byte_c [1, 0, 1, 0, 0])) impl_ruleCode_l0_cut K n (impl_ruleCode_l0_s a0 a1 x8) : Option (shDen impl_ruleCode_sh)) = impl_ruleCode_l0_L (fun x4 => K .ret (impl_ruleCode_l0_o a0 x4)) (K (.exit 0) (impl_ruleCode_l0_o0 a0)) a0 a1 n x8 := by
 intro n
 induction n with
 | zero => intros; rfl
 | succ n ih =>
  intro x8
  exact (impl_ruleCode_l0_round FUEL K n a0 a1 x8).trans (condC (condC (bindC (fun b3 => condC (rfl) (ih (IntKind.wrap .i64 (x8 + (1 : Int)))))) (rfl)) (rfl))

theorem impl_ruleCode_start (k : Nat) (a0 : (Int × (Int × (Int × Unit)))) (a1 : (List (List Int))) : fnK (impl_ruleCode_cx k) 8 65 impl_ruleCode_i impl_ruleCode_sh [.pv (.pair (.int .i64) (.pair (.int .i64) (.pair (.int .i64) .unit))) a0, .pv (.slice (.slice (.int .u8))) a1] =
 ((bindO (impl_ValidRule_r a0) fun (b1 : Bool) => (cond (!b1)
 (some (1 : Int))
 (loopK (impl_ruleCode_cx k) 2 (execK (impl_ruleCode_cx k) (callK (impl_ruleCode_cx k) 6) 2 650011009900070124 (sub slices_IndexFunc_byte_byte_c [1, 0, 1, 0, 0])) impl_ruleCode_l0_cut (blkK 0 (seqK (execK (impl_ruleCode_cx k) (callK (impl_ruleCode_cx k) 6) 2 650011009900070124 (sub slices_IndexFunc_byte_byte_c [1, 1])) (retK (impl_ruleCode_cx k) slices_IndexFunc_byte_byte_i (some 7) 1 (opsRest (impl_ruleCode_cx k) (callK (impl_ruleCode_cx k) 7) 1 6500110099 false (regOps (sub slices_ContainsFunc_byte_byte_c [1, 0])) 2 (seqK (execK (impl_ruleCode_cx k) (callK (impl_ruleCode_cx k) 7) 1 6500110099 (sub slices_ContainsFunc_byte_byte_c [1, 1])) (retK (impl_ruleCode_cx k) slices_ContainsFunc_byte_byte_i (some 11) 0 (opsRest (impl_ruleCode_cx k) (callK (impl_ruleCode_cx k) 8) 0 65 false (regOps (sub impl_ruleCode_c [1, 0, 0, 1, 1, 0])) 1 (seqK (execK (impl_ruleCode_cx k) (callK (impl_ruleCode_cx k) 8) 0 65 (sub impl_ruleCode_c [1, 0, 0, 1, 1, 1])) (blkK 0 (seqK (execK (impl_ruleCode_cx k) (callK (impl_ruleCode_cx k) 8) 0 65 (sub impl_ruleCode_c [1, 1])) (finK (impl_ruleCode_cx k) impl_ruleCode_i impl_ruleCode_sh))))))))))) k (impl_ruleCode_l0_s a0 a1 (0 : Int))))) : Option (shDen impl_ruleCode_sh)) := by kernel_rfl

theorem impl_ruleCode_run (a0 : (Int × (Int × (Int × Unit)))) (a1 : (List (List Int))) : fnK (impl_ruleCode_cx FUEL) 8 65 impl_ruleCode_i impl_ruleCode_sh [.pv (.pair (.int .i64) (.pair (.int .i64) (.pair (.int .i64) .unit))) a0, .pv (.slice (.slice (.int .u8))) a1] = impl_ruleCode_r a0 a1 :=
 (impl_ruleCode_start FUEL a0 a1).trans (bindC (fun b1 => condC (rfl) ((impl_ruleCode_l0_L_eq _ a0 a1 FUEL (0 : Int)).trans (impl_ruleCode_l0_congr _ _ _ _ a0 a1 FUEL (0 : Int) (fun x4 => (impl_ruleCode_l0_ret FUEL  a0 x4).trans (rfl)) (fun _ => (impl_ruleCode_l0_exit0 FUEL  a0).trans (rfl))))))

noncomputable def impl_ruleCode_con : Con := { ps := (.pair (.pair (.int .i64) (.pair (.int .i64) (.pair (.int .i64) .unit))) (.pair (.slice (.slice (.int .u8))) .unit)), sh := impl_ruleCode_sh, raw := fun x => impl_ruleCode_r x.1 x.2.1 }
theorem impl_ruleCode_conOk : ConOk Try.prog 65 impl_ruleCode_con := con_of_fn (impl_ruleCode_tabs FUEL) (depth := 8) impl_ruleCode_ok fun x y h => (impl_ruleCode_run x.1 x.2.1).trans h

noncomputable def impl_StartState_l0_cut : Cut := { keep := [0, 2, 3, 6], stk := [], ids := [20, 30], own := [], outs := [(1, [2, 3], [20, 30])] }
noncomputable def impl_StartState_inls : List (Nat × Inl) := []
noncomputable def impl_StartState_cons : List (Nat × Con) := []
noncomputable def impl_StartState_taks : List (Nat × ConT) := []
noncomputable def impl_StartState_inps : List (Nat × ConI) := []
noncomputable def impl_StartState_cuts : List (Nat × List (Nat × Cut)) := [(105, [(0, impl_StartState_l0_cut)])]
noncomputable def impl_StartState_cx (k : Nat) : Cx := mkCx tys tbytes telem nozero (Ai.look impl_StartState_inls) (Ai.look impl_StartState_cons) (Ai.look impl_StartState_taks) (Ai.look impl_StartState_inps) (fun f id => match Ai.look impl_StartState_cuts f with | some l => Ai.look l id | none => none) k []
theorem impl_StartState_tabs (k : Nat) : TabsOk Try.prog (impl_StartState_cx k) := ⟨tab_mk tabs_ok _ _ _ _ _ _ _, look_all (Q := ConOk Try.prog) _ trivial, look_all (Q := TakOk Try.prog) _ trivial, look_all (Q := InpOk Try.prog) _ trivial, look_all (Q := InlOk Try.prog) _ trivial, mixed_ok⟩
abbrev impl_StartState_sh : List Sh := [.pl (.arr 8 (.int .u32))]
noncomputable def impl_StartState_l0_s (a0 : Int) (x6 : Int) (y30 : (List Int)) : St := { env := [.pv (.int .u8) a0, .dead, .ptr 20 (.arr 8 (.int .u32)) [], .ptr 30 (.arr 8 (.int .u32)) [], .dead, .dead, .pv (.int .i64) x6, .dead, .dead, .dead, .dead, .dead, .dead, .dead, .dead, .dead, .dead, .dead, .dead, .dead], stk := [], heap := [(30, .var (.arr 8 (.int .u32)) (.pv (.arr 8 (.int .u32)) y30)), (20, .var (.arr 8 (.int .u32)) (.pv (.arr 8 (.int .u32)) (List.replicate 8 (0 : Int))))] }
noncomputable def impl_StartState_l0_o0 (y30 : (List Int)) : St := { env := [.dead, .dead, .ptr 20 (.arr 8 (.int .u32)) [], .ptr 30 (.arr 8 (.int .u32)) [], .dead, .dead, .dead, .dead, .dead, .dead, .dead, .dead, .dead, .dead, .dead, .dead, .dead, .dead, .dead, .dead], stk := [], heap := [(30, .var (.arr 8 (.int .u32)) (.pv (.arr 8 (.int .u32)) y30)), (20, .var (.arr 8 (.int .u32)) (.pv (.arr 8 (.int .u32)) (List.replicate 8 (0 : Int))))] }
noncomputable def impl_StartState_l0_b (rec : Int → (List Int) → Option (shDen impl_StartState_sh)) (ke0 : (List Int) → Option (shDen impl_StartState_sh)) (a0 : Int) (x6 : Int) (y30 : (List Int)) : Option (shDen impl_StartState_sh) :=
 (cond (decide (x6 < (8 : Int)))
 (cond ((decide ((0 : Int) ≤ x6)) && (decide (x6 < (8 : Int))))
 (rec (IntKind.wrap .i64 (x6 + (1 : Int))) (y30.set (x6.toNat) (IntKind.wrap .u32 ((IntKind.wrap .u32 ((16777619 : Int) * (IntKind.wrap .u32 (IntKind.wrap .i64 (x6 + (1 : Int)))))) + (IntKind.wrap .u32 a0)))))
 none)
 (ke0 y30))
noncomputable def impl_StartState_l0_L (ke0 : (List Int) → Option (shDen impl_StartState_sh)) (a0 : Int) : Nat → Int → (List Int) → Option (shDen impl_StartState_sh)
 | 0 => fun _ _ => none
 | n + 1 => impl_StartState_l0_b (impl_StartState_l0_L ke0 a0 n) ke0 a0
noncomputable def impl_StartState_r (a0 : Int) : Option (shDen impl_StartState_sh) :=
 (impl_StartState_l0_L (fun y30 => (some y30)) a0 FUEL (0 : Int) (List.replicate 8 (0 : Int)))
theorem impl_StartState_l0_round (k : Nat) (K : Ex → St → Option (shDen impl_StartState_sh)) (n : Nat) (a0 : Int) (x6 : Int) (y30 : (List Int)) : (loopK (impl_StartState_cx k) 0 (execK (impl_StartState_cx k) (callK (impl_StartState_cx k) 8) 0 105 (sub impl_StartState_c [1, 1, 0, 1, 0, 0])) impl_StartState_l0_cut K (n + 1) (impl_StartState_l0_s a0 x6 y30) : Option (shDen impl_StartState_sh)) =
 ((cond (decide (x6 < (8 : Int)))
 (cond ((decide ((0 : Int) ≤ x6)) && (decide (x6 < (8 : Int))))
 (loopK (impl_StartState_cx k) 0 (execK (impl_StartState_cx k) (callK (impl_StartState_cx k) 8) 0 105 (sub impl_StartState_c [1, 1, 0, 1, 0, 0])) impl_StartState_l0_cut K n (impl_StartState_l0_s a0 (IntKind.wrap .i64 (x6 + (1 : Int))) (y30.set (x6.toNat) (IntKind.wrap .u32 ((IntKind.wrap .u32 ((16777619 : Int) * (IntKind.wrap .u32 (IntKind.wrap .i64 (x6 + (1 : Int)))))) + (IntKind.wrap .u32 a0))))))
 none)
 (K (.exit 0) (impl_StartState_l0_o0 y30))) : Option (shDen impl_StartState_sh)) := by kernel_rfl

theorem impl_StartState_l0_exit0 (k : Nat)  (y30 : (List Int)) : ((blkK 0 (seqK (execK (impl_StartState_cx k) (callK (impl_StartState_cx k) 8) 0 105 (sub impl_StartState_c [1, 1, 1])) (finK (impl_StartState_cx k) impl_StartState_i impl_StartState_sh))) (.exit 0) (impl_StartState_l0_o0 y30) : Option (shDen impl_StartState_sh)) =
 ((some y30) : Option (shDen impl_StartState_sh)) := by kernel_rfl

theorem impl_StartState_l0_congr (ke0 : (List Int) → Option (shDen impl_StartState_sh)) (ke0' : (List Int) → Option (shDen impl_StartState_sh)) (a0 : Int) (n : Nat) (x6 : Int) (y30 : (List Int)) (hke0 : ∀ y30, ke0 y30 = ke0' y30) : impl_StartState_l0_L ke0 a0 n x6 y30 = impl_StartState_l0_L ke0' a0 n x6 y30 := by
 have : ke0 = ke0' := (by funext y30; exact hke0 y30); subst this; rfl

theorem impl_StartState_l0_L_eq (K : Ex → St → Option (shDen impl_StartState_sh)) (a0 : Int) : ∀ (n : Nat) (x6 : Int) (y30 : (List Int)), (loopK (impl_StartState_cx FUEL) 0 (execK (impl_StartState_cx FUEL) (callK (impl_StartState_cx FUEL) 8) 0 105 (sub impl_StartState_c [1, 1, 0, 1, 0, 0])) impl_StartState_l0_cut K n (impl_StartState_l0_s a0 x6 y30) : Option (shDen impl_StartState_sh)) = impl_StartState_l0_L (fun y30 => K (.exit 0) (impl_StartState_l0_o0 y30)) a0 n x6 y30 := by
 intro n
 induction n with
 | zero => intros; rfl
 | succ n ih =>
  intro x6 y30
  exact (impl_StartState_l0_round FUEL K n a0 x6 y30).trans (condC (condC (ih (IntKind.wrap .i64 (x6 + (1 : Int))) (y30.set (x6.toNat) (IntKind.wrap .u32 ((IntKind.wrap .u32 ((16777619 : Int) * (IntKind.wrap .u32 (IntKind.wrap .i64 (x6 + (1 : Int)))))) + (IntKind.wrap .u32 a0))))) (rfl)) (rfl))

theorem impl_StartState_start (k : Nat) (a0 : Int) : fnK (impl_StartState_cx k) 8 105 impl_StartState_i impl_StartState_sh [.pv (.int .u8) a0] =
 ((loopK (impl_StartState_cx k) 0 (execK (impl_StartState_cx k) (callK (impl_StartState_cx k) 8) 0 105 (sub impl_StartState_c [1, 1, 0, 1, 0, 0])) impl_StartState_l0_cut (blkK 0 (seqK (execK (impl_StartState_cx k) (callK (impl_StartState_cx k) 8) 0 105 (sub impl_StartState_c [1, 1, 1])) (finK (impl_StartState_cx k) impl_StartState_i impl_StartState_sh))) k (impl_StartState_l0_s a0 (0 : Int) (List.replicate 8 (0 : Int)))) : Option (shDen impl_StartState_sh)) := by kernel_rfl

theorem impl_StartState_run (a0 : Int) : fnK (impl_StartState_cx FUEL) 8 105 impl_StartState_i impl_StartState_sh [.pv (.int .u8) a0] = impl_StartState_r a0 :=
 (impl_StartState_start FUEL a0).trans ((impl_StartState_l0_L_eq _ a0 FUEL (0 : Int) (List.replicate 8 (0 : Int))).trans (impl_StartState_l0_congr _ _ a0 FUEL (0 : Int) (List.replicate 8 (0 : Int)) (fun y30 => (impl_StartState_l0_exit0 FUEL  y30).trans (rfl))))

noncomputable def impl_StartState_con : Con := { ps := (.pair (.int .u8) .unit), sh := impl_StartState_sh, raw := fun x => impl_StartState_r x.1 }
theorem impl_StartState_conOk : ConOk Try.prog 105 impl_StartState_con := con_of_fn (impl_StartState_tabs FUEL) (depth := 8) impl_StartState_ok fun x y h => (impl_StartState_run x.1).trans h

noncomputable def impl_littleNumber_l0_cut : Cut := { keep := [3, 6, 7, 8], stk := [], ids := [], own := [], outs := [(1, [3], [])] }
noncomputable def impl_littleNumber_inls : List (Nat × Inl) := []
noncomputable def impl_littleNumber_cons : List (Nat × Con) := []
noncomputable def impl_littleNumber_taks : List (Nat × ConT) := []
noncomputable def impl_littleNumber_inps : List (Nat × ConI) := []
noncomputable def impl_littleNumber_cuts : List (Nat × List (Nat × Cut)) := [(136, [(0, impl_littleNumber_l0_cut)])]
noncomputable def impl_littleNumber_cx (k : Nat) : Cx := mkCx tys tbytes telem nozero (Ai.look impl_littleNumber_inls) (Ai.look impl_littleNumber_cons) (Ai.look impl_littleNumber_taks) (Ai.look impl_littleNumber_inps) (fun f id => match Ai.look impl_littleNumber_cuts f with | some l => Ai.look l id | none => none) k []
theorem impl_littleNumber_tabs (k : Nat) : TabsOk Try.prog (impl_littleNumber_cx k) := ⟨tab_mk tabs_ok _ _ _ _ _ _ _, look_all (Q := ConOk Try.prog) _ trivial, look_all (Q := TakOk Try.prog) _ trivial, look_all (Q := InpOk Try.prog) _ trivial, look_all (Q := InlOk Try.prog) _ trivial, mixed_ok⟩
abbrev impl_littleNumber_sh : List Sh := [.pl (.int .u64)]
noncomputable def impl_littleNumber_l0_s (a0 : (List Int)) (x3 : Int) (x8 : Int) : St := { env := [.dead, .dead, .dead, .pv (.int .u64) x3, .dead, .dead, .pv (.slice (.int .u8)) a0, .pv (.int .i64) (a0.length : Int), .pv (.int .i64) x8, .dead, .dead, .dead, .dead, .dead, .dead, .dead, .dead, .dead, .dead, .dead, .dead, .dead], stk := [], heap := [] }
noncomputable def impl_littleNumber_l0_o0 (x3 : Int) : St := { env := [.dead, .dead, .dead, .pv (.int .u64) x3, .dead, .dead, .dead, .dead, .dead, .dead, .dead, .dead, .dead, .dead, .dead, .dead, .dead, .dead, .dead, .dead, .dead, .dead], stk := [], heap := [] }
noncomputable def impl_littleNumber_l0_b (rec : Int → Int → Option (shDen impl_littleNumber_sh)) (ke0 : Int → Option (shDen impl_littleNumber_sh)) (a0 : (List Int)) (x3 : Int) (x8 : Int) : Option (shDen impl_littleNumber_sh) :=
 (cond (decide (x8 < (a0.length : Int)))
 (cond ((decide ((0 : Int) ≤ x8)) && (decide (x8 < (a0.length : Int))))
 (cond (decide ((IntKind.wrap .i64 ((8 : Int) * x8)) < (0 : Int)))
 none
 (rec (bitI .or .u64 x3 (shlI .u64 (IntKind.wrap .u64 (a0.getD (x8.toNat) (0 : Int))) (IntKind.wrap .i64 ((8 : Int) * x8)))) (IntKind.wrap .i64 (x8 + (1 : Int)))))
 none)
 (ke0 x3))
noncomputable def impl_littleNumber_l0_L (ke0 : Int → Option (shDen impl_littleNumber_sh)) (a0 : (List Int)) : Nat → Int → Int → Option (shDen impl_littleNumber_sh)
 | 0 => fun _ _ => none
 | n + 1 => impl_littleNumber_l0_b (impl_littleNumber_l0_L ke0 a0 n) ke0 a0
noncomputable def impl_littleNumber_r (a0 : (List Int)) : Option (shDen impl_littleNumber_sh) :=
 (impl_littleNumber_l0_L (fun x3 => (some x3)) a0 FUEL (0 : Int) (0 : Int))
theorem impl_littleNumber_l0_round (k : Nat) (K : Ex → St → Option (shDen impl_littleNumber_sh)) (n : Nat) (a0 : (List Int)) (x3 : Int) (x8 : Int) : (loopK (impl_littleNumber_cx k) 0 (execK (impl_littleNumber_cx k) (callK (impl_littleNumber_cx k) 8) 0 136 (sub impl_littleNumber_c [1, 1, 0, 1, 0, 0])) impl_littleNumber_l0_cut K (n + 1) (impl_littleNumber_l0_s a0 x3 x8) : Option (shDen impl_littleNumber_sh)) =
 ((cond (decide (x8 < (a0.length : Int)))
 (cond ((decide ((0 : Int) ≤ x8)) && (decide (x8 < (a0.length : Int))))
 (cond (decide ((IntKind.wrap .i64 ((8 : Int) * x8)) < (0 : Int)))
 none
 (loopK (impl_littleNumber_cx k) 0 (execK (impl_littleNumber_cx k) (callK (impl_littleNumber_cx k) 8) 0 136 (sub impl_littleNumber_c [1, 1, 0, 1, 0, 0])) impl_littleNumber_l0_cut K n (impl_littleNumber_l0_s a0 (bitI .or .u64 x3 (shlI .u64 (IntKind.wrap .u64 (a0.getD (x8.toNat) (0 : Int))) (IntKind.wrap .i64 ((8 : Int) * x8)))) (IntKind.wrap .i64 (x8 + (1 : Int))))))
 none)
 (K (.exit 0) (impl_littleNumber_l0_o0 x3))) : Option (shDen impl_littleNumber_sh)) := by kernel_rfl

theorem impl_littleNumber_l0_exit0 (k : Nat)  (x3 : Int) : ((blkK 0 (seqK (execK (impl_littleNumber_cx k) (callK (impl_littleNumber_cx k) 8) 0 136 (sub impl_littleNumber_c [1, 1, 1])) (finK (impl_littleNumber_cx k) impl_littleNumber_i impl_littleNumber_sh))) (.exit 0) (impl_littleNumber_l0_o0 x3) : Option (shDen impl_littleNumber_sh)) =
 ((some x3) : Option (shDen impl_littleNumber_sh)) := by kernel_rfl

theorem impl_littleNumber_l0_congr (ke0 : Int → Option (shDen impl_littleNumber_sh)) (ke0' : Int → Option (shDen impl_littleNumber_sh)) (a0 : (List Int)) (n : Nat) (x3 : Int) (x8 : Int) (hke0 : ∀ x3, ke0 x3 = ke0' x3) : impl_littleNumber_l0_L ke0 a0 n x3 x8 = impl_littleNumber_l0_L ke0' a0 n x3 x8 := by
 have : ke0 = ke0' := (by funext x3; exact hke0 x3); subst this; rfl

theorem impl_littleNumber_l0_L_eq (K : Ex → St → Option (shDen impl_littleNumber_sh)) (a0 : (List Int)) : ∀ (n : Nat) (x3 : Int) (x8 : Int), (loopK (impl_littleNumber_cx FUEL) 0 (execK (impl_littleNumber_cx FUEL) (callK (impl_littleNumber_cx FUEL) 8) 0 136 (sub impl_littleNumber_c [1, 1, 0, 1, 0, 0])) impl_littleNumber_l0_cut K n (impl_littleNumber_l0_s a0 x3 x8) : Option (shDen impl_littleNumber_sh)) = impl_littleNumber_l0_L (fun x3 => K (.exit 0) (impl_littleNumber_l0_o0 x3)) a0 n x3 x8 := by
 intro n
 induction n with
 | zero => intros; rfl
 | succ n ih =>
  intro x3 x8
  exact (impl_littleNumber_l0_round FUEL K n a0 x3 x8).trans (condC (condC (condC (rfl) (ih (bitI .or .u64 x3 (shlI .u64 (IntKind.wrap .u64 (a0.getD (x8.toNat) (0 : Int))) (IntKind.wrap .i64 ((8 : Int) * x8)))) (IntKind.wrap .i64 (x8 + (1 : Int))))) (rfl)) (rfl))

theorem impl_littleNumber_start (k : Nat) (a0 : (List Int)) : fnK (impl_littleNumber_cx k) 8 136 impl_littleNumber_i impl_littleNumber_sh [.pv (.slice (.int .u8)) a0] =
 ((loopK (impl_littleNumber_cx k) 0 (execK (impl_littleNumber_cx k) (callK (impl_littleNumber_cx k) 8) 0 136 (sub impl_littleNumber_c [1, 1, 0, 1, 0, 0])) impl_littleNumber_l0_cut (blkK 0 (seqK (execK (impl_littleNumber_cx k) (callK (impl_littleNumber_cx k) 8) 0 136 (sub impl_littleNumber_c [1, 1, 1])) (finK (impl_littleNumber_cx k) impl_littleNumber_i impl_littleNumber_sh))) k (impl_littleNumber_l0_s a0 (0 : Int) (0 : Int))) : Option (shDen impl_littleNumber_sh)) := by kernel_rfl

theorem impl_littleNumber_run (a0 : (List Int)) : fnK (impl_littleNumber_cx FUEL) 8 136 impl_littleNumber_i impl_littleNumber_sh [.pv (.slice (.int .u8)) a0] = impl_littleNumber_r a0 :=
 (impl_littleNumber_start FUEL a0).trans ((impl_littleNumber_l0_L_eq _ a0 FUEL (0 : Int) (0 : Int)).trans (impl_littleNumber_l0_congr _ _ a0 FUEL (0 : Int) (0 : Int) (fun x3 => (impl_littleNumber_l0_exit0 FUEL  x3).trans (rfl))))

noncomputable def impl_littleNumber_con : Con := { ps := (.pair (.slice (.int .u8)) .unit), sh := impl_littleNumber_sh, raw := fun x => impl_littleNumber_r x.1 }
theorem impl_littleNumber_conOk : ConOk Try.prog 136 impl_littleNumber_con := con_of_fn (impl_littleNumber_tabs FUEL) (depth := 8) impl_littleNumber_ok fun x y h => (impl_littleNumber_run x.1).trans h

noncomputable def math_bits_RotateLeft32_inls : List (Nat × Inl) := []
noncomputable def math_bits_RotateLeft32_cons : List (Nat × Con) := []
noncomputable def math_bits_RotateLeft32_taks : List (Nat × ConT) := []
noncomputable def math_bits_RotateLeft32_inps : List (Nat × ConI) := []
noncomputable def math_bits_RotateLeft32_cuts : List (Nat × List (Nat × Cut)) := []
noncomputable def math_bits_RotateLeft32_cx (k : Nat) : Cx := mkCx tys tbytes telem nozero (Ai.look math_bits_RotateLeft32_inls) (Ai.look math_bits_RotateLeft32_cons) (Ai.look math_bits_RotateLeft32_taks) (Ai.look math_bits_RotateLeft32_inps) (fun f id => match Ai.look math_bits_RotateLeft32_cuts f with | some l => Ai.look l id | none => none) k []
theorem math_bits_RotateLeft32_tabs (k : Nat) : TabsOk Try.prog (math_bits_RotateLeft32_cx k) := ⟨tab_mk tabs_ok _ _ _ _ _ _ _, look_all (Q := ConOk Try.prog) _ trivial, look_all (Q := TakOk Try.prog) _ trivial, look_all (Q := InpOk Try.prog) _ trivial, look_all (Q := InlOk Try.prog) _ trivial, mixed_ok⟩
abbrev math_bits_RotateLeft32_sh : List Sh := [.pl (.int .u32)]
noncomputable def math_bits_RotateLeft32_r (a0 : Int) (a1 : Int) : Option (shDen math_bits_RotateLeft32_sh) :=
 (cond (decide ((bitI .and .u64 (IntKind.wrap .u64 a1) (31 : Int)) < (0 : Int)))
 none
 (cond (decide ((IntKind.wrap .u64 ((32 : Int) - (bitI .and .u64 (IntKind.wrap .u64 a1) (31 : Int)))) < (0 : Int)))
 none
 (some (bitI .or .u32 (shlI .u32 a0 (bitI .and .u64 (IntKind.wrap .u64 a1) (31 : Int))) (shrI .u32 a0 (IntKind.wrap .u64 ((32 : Int) - (bitI .and .u64 (IntKind.wrap .u64 a1) (31 : Int)))))))))
theorem math_bits_RotateLeft32_start (k : Nat) (a0 : Int) (a1 : Int) : fnK (math_bits_RotateLeft32_cx k) 8 137 math_bits_RotateLeft32_i math_bits_RotateLeft32_sh [.pv (.int .u32) a0, .pv (.int .i64) a1] =
 ((cond (decide ((bitI .and .u64 (IntKind.wrap .u64 a1) (31 : Int)) < (0 : Int)))
 none
 (cond (decide ((IntKind.wrap .u64 ((32 : Int) - (bitI .and .u64 (IntKind.wrap .u64 a1) (31 : Int)))) < (0 : Int)))
 none
 (some (bitI .or .u32 (shlI .u32 a0 (bitI .and .u64 (IntKind.wrap .u64 a1) (31 : Int))) (shrI .u32 a0 (IntKind.wrap .u64 ((32 : Int) - (bitI .and .u64 (IntKind.wrap .u64 a1) (31 : Int))))))))) : Option (shDen math_bits_RotateLeft32_sh)) := by kernel_rfl

theorem math_bits_RotateLeft32_run (a0 : Int) (a1 : Int) : fnK (math_bits_RotateLeft32_cx FUEL) 8 137 math_bits_RotateLeft32_i math_bits_RotateLeft32_sh [.pv (.int .u32) a0, .pv (.int .i64) a1] = math_bits_RotateLeft32_r a0 a1 :=
 (math_bits_RotateLeft32_start FUEL a0 a1).trans (rfl)

noncomputable def math_bits_RotateLeft32_con : Con := { ps := (.pair (.int .u32) (.pair (.int .i64) .unit)), sh := math_bits_RotateLeft32_sh, raw := fun x => math_bits_RotateLeft32_r x.1 x.2.1 }
theorem math_bits_RotateLeft32_conOk : ConOk Try.prog 137 math_bits_RotateLeft32_con := con_of_fn (math_bits_RotateLeft32_tabs FUEL) (depth := 8) math_bits_RotateLeft32_ok fun x y h => (math_bits_RotateLeft32_run x.1 x.2.1).trans h

noncomputable def impl_MixBlock_l0_cut : Cut := { keep := [2, 3, 4, 5, 14], stk := [], ids := [20, 30, 40, 50], own := [], outs := [(1, [2, 4, 5], [20, 40, 50])] }
noncomputable def impl_MixBlock_l1_cut : Cut := { keep := [2, 4, 5, 7, 29], stk := [], ids := [20, 40, 50, 70], own := [], outs := [(3, [2, 4, 7], [20, 40, 70])] }
noncomputable def impl_MixBlock_l2_cut : Cut := { keep := [2, 4, 5, 7, 8, 29, 32], stk := [], ids := [20, 40, 50, 70], own := [], outs := [(5, [2, 4, 5, 7, 29], [20, 40, 50, 70])] }
noncomputable def impl_MixBlock_l3_cut : Cut := { keep := [2, 4, 7, 74], stk := [], ids := [20, 40, 70], own := [], outs := [(7, [4, 7], [40, 70])] }
noncomputable def impl_MixBlock_inls : List (Nat × Inl) := []
noncomputable def impl_MixBlock_cons : List (Nat × Con) := [(136, impl_littleNumber_con), (137, math_bits_RotateLeft32_con)]
noncomputable def impl_MixBlock_taks : List (Nat × ConT) := []
noncomputable def impl_MixBlock_inps : List (Nat × ConI) := []
noncomputable def impl_MixBlock_cuts : List (Nat × List (Nat × Cut)) := [(126, [(0, impl_MixBlock_l0_cut), (2, impl_MixBlock_l1_cut), (4, impl_MixBlock_l2_cut), (6, impl_MixBlock_l3_cut)])]
noncomputable def impl_MixBlock_cx (k : Nat) : Cx := mkCx tys tbytes telem nozero (Ai.look impl_MixBlock_inls) (Ai.look impl_MixBlock_cons) (Ai.look impl_MixBlock_taks) (Ai.look impl_MixBlock_inps) (fun f id => match Ai.look impl_MixBlock_cuts f with | some l => Ai.look l id | none => none) k []
theorem impl_MixBlock_tabs (k : Nat) : TabsOk Try.prog (impl_MixBlock_cx k) := ⟨tab_mk tabs_ok _ _ _ _ _ _ _, look_all (Q := ConOk Try.prog) _ ⟨impl_littleNumber_conOk, math_bits_RotateLeft32_conOk, trivial⟩, look_all (Q := TakOk Try.prog) _ trivial, look_all (Q := InpOk Try.prog) _ trivial, look_all (Q := InlOk Try.prog) _ trivial, mixed_ok⟩
abbrev impl_MixBlock_sh : List Sh := [.pl (.arr 8 (.int .u32))]
noncomputable def impl_MixBlock_l0_s (a0 : (List Int)) (a1 : (List Int)) (x14 : Int) (y50 : (List Int)) : St := { env := [.dead, .dead, .ptr 20 (.arr 8 (.int .u32)) [], .ptr 30 (.arr 32 (.int .u8)) [], .ptr 40 (.arr 8 (.int .u32)) [], .ptr 50 (.arr 8 (.int .u32)) [], .dead, .dead, .dead, .dead, .dead, .dead, .dead, .dead, .pv (.int .i64) x14, .dead, .dead, .dead, .dead, .dead, .dead, .dead, .dead, .dead, .dead, .dead, .dead, .dead, .dead, .dead, .dead, .dead, .dead, .dead, .dead, .dead, .dead, .dead, .dead, .dead, .dead, .dead, .dead, .dead, .dead, .dead, .dead, .dead, .dead, .dead, .dead, .dead, .dead, .dead, .dead, .dead, .dead, .dead, .dead, .dead, .dead, .dead, .dead, .dead, .dead, .dead, .dead, .dead, .dead, .dead, .dead, .dead, .dead, .dead, .dead, .dead, .dead, .dead, .dead, .dead, .dead, .dead, .dead, .dead, .dead, .dead, .dead], stk := [], heap := [(50, .var (.arr 8 (.int .u32)) (.pv (.arr 8 (.int .u32)) y50)), (40, .var (.arr 8 (.int .u32)) (.pv (.arr 8 (.int .u32)) (List.replicate 8 (0 : Int)))), (30, .var (.arr 32 (.int .u8)) (.pv (.arr 32 (.int .u8)) a1)), (20, .var (.arr 8 (.int .u32)) (.pv (.arr 8 (.int .u32)) a0))] }
noncomputable def impl_MixBlock_l0_o0 (a0 : (List Int)) (y50 : (List Int)) : St := { env := [.dead, .dead, .ptr 20 (.arr 8 (.int .u32)) [], .dead, .ptr 40 (.arr 8 (.int .u32)) [], .ptr 50 (.arr 8 (.int .u32)) [], .dead, .dead, .dead, .dead, .dead, .dead, .dead, .dead, .dead, .dead, .dead, .dead, .dead, .dead, .dead, .dead, .dead, .dead, .dead, .dead, .dead, .dead, .dead, .dead, .dead, .dead, .dead, .dead, .dead, .dead, .dead, .dead, .dead, .dead, .dead, .dead, .dead, .dead, .dead, .dead, .dead, .dead, .dead, .dead, .dead, .dead, .dead, .dead, .dead, .dead, .dead, .dead, .dead, .dead, .dead, .dead, .dead, .dead, .dead, .dead, .dead, .dead, .dead, .dead, .dead, .dead, .dead, .dead, .dead, .dead, .dead, .dead, .dead, .dead, .dead, .dead, .dead, .dead, .dead, .dead, .dead], stk := [], heap := [(50, .var (.arr 8 (.int .u32)) (.pv (.arr 8 (.int .u32)) y50)), (40, .var (.arr 8 (.int .u32)) (.pv (.arr 8 (.int .u32)) (List.replicate 8 (0 : Int)))), (20, .var (.arr 8 (.int .u32)) (.pv (.arr 8 (.int .u32)) a0))] }
noncomputable def impl_MixBlock_l1_s (a0 : (List Int)) (y50 : (List Int)) (x29 : Int) (y70 : (List Int)) : St := { env := [.dead, .dead, .ptr 20 (.arr 8 (.int .u32)) [], .dead, .ptr 40 (.arr 8 (.int .u32)) [], .ptr 50 (.arr 8 (.int .u32)) [], .dead, .ptr 70 (.arr 8 (.int .u32)) [], .dead, .dead, .dead, .dead, .dead, .dead, .dead, .dead, .dead, .dead, .dead, .dead, .dead, .dead, .dead, .dead, .dead, .dead, .dead, .dead, .dead, .pv (.int .i64) x29, .dead, .dead, .dead, .dead, .dead, .dead, .dead, .dead, .dead, .dead, .dead, .dead, .dead, .dead, .dead, .dead, .dead, .dead, .dead, .dead, .dead, .dead, .dead, .dead, .dead, .dead, .dead, .dead, .dead, .dead, .dead, .dead, .dead, .dead, .dead, .dead, .dead, .dead, .dead, .dead, .dead, .dead, .dead, .dead, .dead, .dead, .dead, .dead, .dead, .dead, .dead, .dead, .dead, .dead, .dead, .dead, .dead], stk := [], heap := [(70, .var (.arr 8 (.int .u32)) (.pv (.arr 8 (.int .u32)) y70)), (50, .var (.arr 8 (.int .u32)) (.pv (.arr 8 (.int .u32)) y50)), (40, .var (.arr 8 (.int .u32)) (.pv (.arr 8 (.int .u32)) (List.replicate 8 (0 : Int)))), (20, .var (.arr 8 (.int .u32)) (.pv (.arr 8 (.int .u32)) a0))] }
noncomputable def impl_MixBlock_l1_o2 (a0 : (List Int)) (y70 : (List Int)) : St := { env := [.dead, .dead, .ptr 20 (.arr 8 (.int .u32)) [], .dead, .ptr 40 (.arr 8 (.int .u32)) [], .dead, .dead, .ptr 70 (.arr 8 (.int .u32)) [], .dead, .dead, .dead, .dead, .dead, .dead, .dead, .dead, .dead, .dead, .dead, .dead, .dead, .dead, .dead, .dead, .dead, .dead, .dead, .dead, .dead, .dead, .dead, .dead, .dead, .dead, .dead, .dead, .dead, .dead, .dead, .dead, .dead, .dead, .dead, .dead, .dead, .dead, .dead, .dead, .dead, .dead, .dead, .dead, .dead, .dead, .dead, .dead, .dead, .dead, .dead, .dead, .dead, .dead, .dead, .dead, .dead, .dead, .dead, .dead, .dead, .dead, .dead, .dead, .dead, .dead, .dead, .dead, .dead, .dead, .dead, .dead, .dead, .dead, .dead, .dead, .dead, .dead, .dead], stk := [], heap := [(70, .var (.arr 8 (.int .u32)) (.pv (.arr 8 (.int .u32)) y70)), (40, .var (.arr 8 (.int .u32)) (.pv (.arr 8 (.int .u32)) (List.replicate 8 (0 : Int)))), (20, .var (.arr 8 (.int .u32)) (.pv (.arr 8 (.int .u32)) a0))] }
noncomputable def impl_MixBlock_l2_s (a0 : (List Int)) (y50 : (List Int)) (x29 : Int) (x32 : Int) (y70 : (List Int)) : St := { env := [.dead, .dead, .ptr 20 (.arr 8 (.int .u32)) [], .dead, .ptr 40 (.arr 8 (.int .u32)) [], .ptr 50 (.arr 8 (.int .u32)) [], .dead, .ptr 70 (.arr 8 (.int .u32)) [], .pv (.int .i64) x29, .dead, .dead, .dead, .dead, .dead, .dead, .dead, .dead, .dead, .dead, .dead, .dead, .dead, .dead, .dead, .dead, .dead, .dead, .dead, .dead, .pv (.int .i64) x29, .dead, .dead, .pv (.int .i64) x32, .dead, .dead, .dead, .dead, .dead, .dead, .dead, .dead, .dead, .dead, .dead, .dead, .dead, .dead, .dead, .dead, .dead, .dead, .dead, .dead, .dead, .dead, .dead, .dead, .dead, .dead, .dead, .dead, .dead, .dead, .dead, .dead, .dead, .dead, .dead, .dead, .dead, .dead, .dead, .dead, .dead, .dead, .dead, .dead, .dead, .dead, .dead, .dead, .dead, .dead, .dead, .dead, .dead, .dead], stk := [], heap := [(70, .var (.arr 8 (.int .u32)) (.pv (.arr 8 (.int .u32)) y70)), (50, .var (.arr 8 (.int .u32)) (.pv (.arr 8 (.int .u32)) y50)), (40, .var (.arr 8 (.int .u32)) (.pv (.arr 8 (.int .u32)) (List.replicate 8 (0 : Int)))), (20, .var (.arr 8 (.int .u32)) (.pv (.arr 8 (.int .u32)) a0))] }
noncomputable def impl_MixBlock_l2_o4 (a0 : (List Int)) (y50 : (List Int)) (x29 : Int) (y70 : (List Int)) : St := { env := [.dead, .dead, .ptr 20 (.arr 8 (.int .u32)) [], .dead, .ptr 40 (.arr 8 (.int .u32)) [], .ptr 50 (.arr 8 (.int .u32)) [], .dead, .ptr 70 (.arr 8 (.int .u32)) [], .dead, .dead, .dead, .dead, .dead, .dead, .dead, .dead, .dead, .dead, .dead, .dead, .dead, .dead, .dead, .dead, .dead, .dead, .dead, .dead, .dead, .pv (.int .i64) x29, .dead, .dead, .dead, .dead, .dead, .dead, .dead, .dead, .dead, .dead, .dead, .dead, .dead, .dead, .dead, .dead, .dead, .dead, .dead, .dead, .dead, .dead, .dead, .dead, .dead, .dead, .dead, .dead, .dead, .dead, .dead, .dead, .dead, .dead, .dead, .dead, .dead, .dead, .dead, .dead, .dead, .dead, .dead, .dead, .dead, .dead, .dead, .dead, .dead, .dead, .dead, .dead, .dead, .dead, .dead, .dead, .dead], stk := [], heap := [(70, .var (.arr 8 (.int .u32)) (.pv (.arr 8 (.int .u32)) y70)), (50, .var (.arr 8 (.int .u32)) (.pv (.arr 8 (.int .u32)) y50)), (40, .var (.arr 8 (.int .u32)) (.pv (.arr 8 (.int .u32)) (List.replicate 8 (0 : Int)))), (20, .var (.arr 8 (.int .u32)) (.pv (.arr 8 (.int .u32)) a0))] }
noncomputable def impl_MixBlock_l3_s (a0 : (List Int)) (y70 : (List Int)) (x74 : Int) : St := { env := [.dead, .dead, .ptr 20 (.arr 8 (.int .u32)) [], .dead, .ptr 40 (.arr 8 (.int .u32)) [], .dead, .dead, .ptr 70 (.arr 8 (.int .u32)) [], .dead, .dead, .dead, .dead, .dead, .dead, .dead, .dead, .dead, .dead, .dead, .dead, .dead, .dead, .dead, .dead, .dead, .dead, .dead, .dead, .dead, .dead, .dead, .dead, .dead, .dead, .dead, .dead, .dead, .dead, .dead, .dead, .dead, .dead, .dead, .dead, .dead, .dead, .dead, .dead, .dead, .dead, .dead, .dead, .dead, .dead, .dead, .dead, .dead, .dead, .dead, .dead, .dead, .dead, .dead, .dead, .dead, .dead, .dead, .dead, .dead, .dead, .dead, .dead, .dead, .dead, .pv (.int .i64) x74, .dead, .dead, .dead, .dead, .dead, .dead, .dead, .dead, .dead, .dead, .dead, .dead], stk := [], heap := [(70, .var (.arr 8 (.int .u32)) (.pv (.arr 8 (.int .u32)) y70)), (40, .var (.arr 8 (.int .u32)) (.pv (.arr 8 (.int .u32)) (List.replicate 8 (0 : Int)))), (20, .var (.arr 8 (.int .u32)) (.pv (.arr 8 (.int .u32)) a0))] }
noncomputable def impl_MixBlock_l3_o6 (y70 : (List Int)) : St := { env := [.dead, .dead, .dead, .dead, .ptr 40 (.arr 8 (.int .u32)) [], .dead, .dead, .ptr 70 (.arr 8 (.int .u32)) [], .dead, .dead, .dead, .dead, .dead, .dead, .dead, .dead, .dead, .dead, .dead, .dead, .dead, .dead, .dead, .dead, .dead, .dead, .dead, .dead, .dead, .dead, .dead, .dead, .dead, .dead, .dead, .dead, .dead, .dead, .dead, .dead, .dead, .dead, .dead, .dead, .dead, .dead, .dead, .dead, .dead, .dead, .dead, .dead, .dead, .dead, .dead, .dead, .dead, .dead, .dead, .dead, .dead, .dead, .dead, .dead, .dead, .dead, .dead, .dead, .dead, .dead, .dead, .dead, .dead, .dead, .dead, .dead, .dead, .dead, .dead, .dead, .dead, .dead, .dead, .dead, .dead, .dead, .dead], stk := [], heap := [(70, .var (.arr 8 (.int .u32)) (.pv (.arr 8 (.int .u32)) y70)), (40, .var (.arr 8 (.int .u32)) (.pv (.arr 8 (.int .u32)) (List.replicate 8 (0 : Int))))] }
noncomputable def impl_MixBlock_l3_b (rec : (List Int) → Int → Option (shDen impl_MixBlock_sh)) (ke6 : (List Int) → Option (shDen impl_MixBlock_sh)) (a0 : (List Int)) (y70 : (List Int)) (x74 : Int) : Option (shDen impl_MixBlock_sh) :=
 (cond (decide (x74 < (8 : Int)))
 (cond ((decide ((0 : Int) ≤ x74)) && (decide (x74 < (8 : Int))))
 (cond ((decide ((0 : Int) ≤ x74)) && (decide (x74 < (8 : Int))))
 (cond ((decide ((0 : Int) ≤ x74)) && (decide (x74 < (8 : Int))))
 (rec (y70.set (x74.toNat) (bitI .xor .u32 (y70.getD (x74.toNat) (0 : Int)) (a0.getD (x74.toNat) (0 : Int)))) (IntKind.wrap .i64 (x74 + (1 : Int))))
 none)
 none)
 none)
 (ke6 y70))
noncomputable def impl_MixBlock_l3_L (ke6 : (List Int) → Option (shDen impl_MixBlock_sh)) (a0 : (List Int)) : Nat → (List Int) → Int → Option (shDen impl_MixBlock_sh)
 | 0 => fun _ _ => none
 | n + 1 => impl_MixBlock_l3_b (impl_MixBlock_l3_L ke6 a0 n) ke6 a0
noncomputable def impl_MixBlock_l2_b (rec : Int → (List Int) → Option (shDen impl_MixBlock_sh)) (ke4 : (List Int) → Option (shDen impl_MixBlock_sh)) (a0 : (List Int)) (y50 : (List Int)) (x29 : Int) (x32 : Int) (y70 : (List Int)) : Option (shDen impl_MixBlock_sh) :=
 (cond (decide (x32 < (8 : Int)))
 (cond ((decide ((0 : Int) ≤ x32)) && (decide (x32 < (8 : Int))))
 (cond ((decide ((0 : Int) ≤ (Int.tmod (IntKind.wrap .i64 (x32 + (IntKind.wrap .i64 ((3 : Int) * x29)))) (8 : Int)))) && (decide ((Int.tmod (IntKind.wrap .i64 (x32 + (IntKind.wrap .i64 ((3 : Int) * x29)))) (8 : Int)) < (8 : Int))))
 (bindO (math_bits_RotateLeft32_r (IntKind.wrap .u32 ((IntKind.wrap .u32 ((y70.getD (x32.toNat) (0 : Int)) + (y50.getD ((Int.tmod (IntKind.wrap .i64 (x32 + (IntKind.wrap .i64 ((3 : Int) * x29)))) (8 : Int)).toNat) (0 : Int)))) + (IntKind.wrap .u32 ((2654435769 : Int) * (IntKind.wrap .u32 (IntKind.wrap .i64 ((IntKind.wrap .i64 ((IntKind.wrap .i64 ((8 : Int) * x29)) + x32)) + (1 : Int)))))))) (7 : Int)) fun (b9 : Int) => (cond ((decide ((0 : Int) ≤ (Int.tmod (IntKind.wrap .i64 (x32 + (1 : Int))) (8 : Int)))) && (decide ((Int.tmod (IntKind.wrap .i64 (x32 + (1 : Int))) (8 : Int)) < (8 : Int))))
 (cond ((decide ((0 : Int) ≤ (Int.tmod (IntKind.wrap .i64 (x32 + (5 : Int))) (8 : Int)))) && (decide ((Int.tmod (IntKind.wrap .i64 (x32 + (5 : Int))) (8 : Int)) < (8 : Int))))
 (bindO (math_bits_RotateLeft32_r (y70.getD ((Int.tmod (IntKind.wrap .i64 (x32 + (5 : Int))) (8 : Int)).toNat) (0 : Int)) (13 : Int)) fun (b10 : Int) => (cond ((decide ((0 : Int) ≤ x32)) && (decide (x32 < (8 : Int))))
 (rec (IntKind.wrap .i64 (x32 + (1 : Int))) (y70.set (x32.toNat) (IntKind.wrap .u32 ((bitI .xor .u32 b9 (y70.getD ((Int.tmod (IntKind.wrap .i64 (x32 + (1 : Int))) (8 : Int)).toNat) (0 : Int))) + b10))))
 none))
 none)
 none))
 none)
 none)
 (ke4 y70))
noncomputable def impl_MixBlock_l2_L (ke4 : (List Int) → Option (shDen impl_MixBlock_sh)) (a0 : (List Int)) (y50 : (List Int)) (x29 : Int) : Nat → Int → (List Int) → Option (shDen impl_MixBlock_sh)
 | 0 => fun _ _ => none
 | n + 1 => impl_MixBlock_l2_b (impl_MixBlock_l2_L ke4 a0 y50 x29 n) ke4 a0 y50 x29
noncomputable def impl_MixBlock_l1_b (rec : (List Int) → Int → (List Int) → Option (shDen impl_MixBlock_sh)) (ke2 : (List Int) → Option (shDen impl_MixBlock_sh)) (a0 : (List Int)) (y50 : (List Int)) (x29 : Int) (y70 : (List Int)) : Option (shDen impl_MixBlock_sh) :=
 (cond (decide (x29 < (12 : Int)))
 (impl_MixBlock_l2_L (fun y70 => (rec y50 (IntKind.wrap .i64 (x29 + (1 : Int))) y70)) a0 y50 x29 FUEL (0 : Int) y70)
 (ke2 y70))
noncomputable def impl_MixBlock_l1_L (ke2 : (List Int) → Option (shDen impl_MixBlock_sh)) (a0 : (List Int)) : Nat → (List Int) → Int → (List Int) → Option (shDen impl_MixBlock_sh)
 | 0 => fun _ _ _ => none
 | n + 1 => impl_MixBlock_l1_b (impl_MixBlock_l1_L ke2 a0 n) ke2 a0
noncomputable def impl_MixBlock_l0_b (rec : Int → (List Int) → Option (shDen impl_MixBlock_sh)) (ke0 : (List Int) → Option (shDen impl_MixBlock_sh)) (a0 : (List Int)) (a1 : (List Int)) (x14 : Int) (y50 : (List Int)) : Option (shDen impl_MixBlock_sh) :=
 (cond (decide (x14 < (8 : Int)))
 (cond ((decide ((0 : Int) ≤ (IntKind.wrap .i64 ((IntKind.wrap .i64 ((4 : Int) * x14)) + (4 : Int))))) && (decide ((IntKind.wrap .i64 ((IntKind.wrap .i64 ((4 : Int) * x14)) + (4 : Int))) ≤ (32 : Int))))
 (cond ((decide ((0 : Int) ≤ (IntKind.wrap .i64 ((4 : Int) * x14)))) && (decide ((IntKind.wrap .i64 ((4 : Int) * x14)) ≤ (IntKind.wrap .i64 ((IntKind.wrap .i64 ((4 : Int) * x14)) + (4 : Int))))))
 (bindO (impl_littleNumber_r (cutL a1 ((IntKind.wrap .i64 ((4 : Int) * x14)).toNat) ((IntKind.wrap .i64 ((IntKind.wrap .i64 ((4 : Int) * x14)) + (4 : Int))).toNat))) fun (b2 : Int) => (cond ((decide ((0 : Int) ≤ x14)) && (decide (x14 < (8 : Int))))
 (rec (IntKind.wrap .i64 (x14 + (1 : Int))) (y50.set (x14.toNat) (IntKind.wrap .u32 b2)))
 none))
 none)
 none)
 (ke0 y50))
noncomputable def impl_MixBlock_l0_L (ke0 : (List Int) → Option (shDen impl_MixBlock_sh)) (a0 : (List Int)) (a1 : (List Int)) : Nat → Int → (List Int) → Option (shDen impl_MixBlock_sh)
 | 0 => fun _ _ => none
 | n + 1 => impl_MixBlock_l0_b (impl_MixBlock_l0_L ke0 a0 a1 n) ke0 a0 a1
noncomputable def impl_MixBlock_r (a0 : (List Int)) (a1 : (List Int)) : Option (shDen impl_MixBlock_sh) :=
 (impl_MixBlock_l0_L (fun y50 => (impl_MixBlock_l1_L (fun y70 => (impl_MixBlock_l3_L (fun y70 => (some y70)) a0 FUEL y70 (0 : Int))) a0 FUEL y50 (0 : Int) a0)) a0 a1 FUEL (0 : Int) (List.replicate 8 (0 : Int)))
theorem impl_MixBlock_l3_round (k : Nat) (K : Ex → St → Option (shDen impl_MixBlock_sh)) (n : Nat) (a0 : (List Int)) (y70 : (List Int)) (x74 : Int) : (loopK (impl_MixBlock_cx k) 0 (execK (impl_MixBlock_cx k) (callK (impl_MixBlock_cx k) 8) 0 126 (sub impl_MixBlock_c [1, 1, 1, 1, 1, 0, 1, 0, 0])) impl_MixBlock_l3_cut K (n + 1) (impl_MixBlock_l3_s a0 y70 x74) : Option (shDen impl_MixBlock_sh)) =
 ((cond (decide (x74 < (8 : Int)))
 (cond ((decide ((0 : Int) ≤ x74)) && (decide (x74 < (8 : Int))))
 (cond ((decide ((0 : Int) ≤ x74)) && (decide (x74 < (8 : Int))))
 (cond ((decide ((0 : Int) ≤ x74)) && (decide (x74 < (8 : Int))))
 (loopK (impl_MixBlock_cx k) 0 (execK (impl_MixBlock_cx k) (callK (impl_MixBlock_cx k) 8) 0 126 (sub impl_MixBlock_c [1, 1, 1, 1, 1, 0, 1, 0, 0])) impl_MixBlock_l3_cut K n (impl_MixBlock_l3_s a0 (y70.set (x74.toNat) (bitI .xor .u32 (y70.getD (x74.toNat) (0 : Int)) (a0.getD (x74.toNat) (0 : Int)))) (IntKind.wrap .i64 (x74 + (1 : Int)))))
 none)
 none)
 none)
 (K (.exit 6) (impl_MixBlock_l3_o6 y70))) : Option (shDen impl_MixBlock_sh)) := by kernel_rfl

theorem impl_MixBlock_l3_exit6 (k : Nat)  (y70 : (List Int)) : ((blkK 6 (seqK (execK (impl_MixBlock_cx k) (callK (impl_MixBlock_cx k) 8) 0 126 (sub impl_MixBlock_c [1, 1, 1, 1, 1, 1])) (finK (impl_MixBlock_cx k) impl_MixBlock_i impl_MixBlock_sh))) (.exit 6) (impl_MixBlock_l3_o6 y70) : Option (shDen impl_MixBlock_sh)) =
 ((some y70) : Option (shDen impl_MixBlock_sh)) := by kernel_rfl

theorem impl_MixBlock_l3_congr (ke6 : (List Int) → Option (shDen impl_MixBlock_sh)) (ke6' : (List Int) → Option (shDen impl_MixBlock_sh)) (a0 : (List Int)) (n : Nat) (y70 : (List Int)) (x74 : Int) (hke6 : ∀ y70, ke6 y70 = ke6' y70) : impl_MixBlock_l3_L ke6 a0 n y70 x74 = impl_MixBlock_l3_L ke6' a0 n y70 x74 := by
 have : ke6 = ke6' := (by funext y70; exact hke6 y70); subst this; rfl

theorem impl_MixBlock_l3_L_eq (K : Ex → St → Option (shDen impl_MixBlock_sh)) (a0 : (List Int)) : ∀ (n : Nat) (y70 : (List Int)) (x74 : Int), (loopK (impl_MixBlock_cx FUEL) 0 (execK (impl_MixBlock_cx FUEL) (callK (impl_MixBlock_cx FUEL) 8) 0 126 (sub impl_MixBlock_c [1, 1, 1, 1, 1, 0, 1, 0, 0])) impl_MixBlock_l3_cut K n (impl_MixBlock_l3_s a0 y70 x74) : Option (shDen impl_MixBlock_sh)) = impl_MixBlock_l3_L (fun y70 => K (.exit 6) (impl_MixBlock_l3_o6 y70)) a0 n y70 x74 := by
 intro n
 induction n with
 | zero => intros; rfl
 | succ n ih =>
  intro y70 x74
  exact (impl_MixBlock_l3_round FUEL K n a0 y70 x74).trans (condC (condC (condC (condC (ih (y70.set (x74.toNat) (bitI .xor .u32 (y70.getD (x74.toNat) (0 : Int)) (a0.getD (x74.toNat) (0 : Int)))) (IntKind.wrap .i64 (x74 + (1 : Int)))) (rfl)) (rfl)) (rfl)) (rfl))

theorem impl_MixBlock_l2_round (k : Nat) (K : Ex → St → Option (shDen impl_MixBlock_sh)) (n : Nat) (a0 : (List Int)) (y50 : (List Int)) (x29 : Int) (x32 : Int) (y70 : (List Int)) : (loopK (impl_MixBlock_cx k) 0 (execK (impl_MixBlock_cx k) (callK (impl_MixBlock_cx k) 8) 0 126 (sub impl_MixBlock_c [1, 1, 1, 1, 0, 1, 0, 0, 1, 1, 0, 0, 1, 1, 0, 0])) impl_MixBlock_l2_cut K (n + 1) (impl_MixBlock_l2_s a0 y50 x29 x32 y70) : Option (shDen impl_MixBlock_sh)) =
 ((cond (decide (x32 < (8 : Int)))
 (cond ((decide ((0 : Int) ≤ x32)) && (decide (x32 < (8 : Int))))
 (cond ((decide ((0 : Int) ≤ (Int.tmod (IntKind.wrap .i64 (x32 + (IntKind.wrap .i64 ((3 : Int) * x29)))) (8 : Int)))) && (decide ((Int.tmod (IntKind.wrap .i64 (x32 + (IntKind.wrap .i64 ((3 : Int) * x29)))) (8 : Int)) < (8 : Int))))
 (bindO (math_bits_RotateLeft32_r (IntKind.wrap .u32 ((IntKind.wrap .u32 ((y70.getD (x32.toNat) (0 : Int)) + (y50.getD ((Int.tmod (IntKind.wrap .i64 (x32 + (IntKind.wrap .i64 ((3 : Int) * x29)))) (8 : Int)).toNat) (0 : Int)))) + (IntKind.wrap .u32 ((2654435769 : Int) * (IntKind.wrap .u32 (IntKind.wrap .i64 ((IntKind.wrap .i64 ((IntKind.wrap .i64 ((8 : Int) * x29)) + x32)) + (1 : Int)))))))) (7 : Int)) fun (b9 : Int) => (cond ((decide ((0 : Int) ≤ (Int.tmod (IntKind.wrap .i64 (x32 + (1 : Int))) (8 : Int)))) && (decide ((Int.tmod (IntKind.wrap .i64 (x32 + (1 : Int))) (8 : Int)) < (8 : Int))))
 (cond ((decide ((0 : Int) ≤ (Int.tmod (IntKind.wrap .i64 (x32 + (5 : Int))) (8 : Int)))) && (decide ((Int.tmod (IntKind.wrap .i64 (x32 + (5 : Int))) (8 : Int)) < (8 : Int))))
 (bindO (math_bits_RotateLeft32_r (y70.getD ((Int.tmod (IntKind.wrap .i64 (x32 + (5 : Int))) (8 : Int)).toNat) (0 : Int)) (13 : Int)) fun (b10 : Int) => (cond ((decide ((0 : Int) ≤ x32)) && (decide (x32 < (8 : Int))))
 (loopK (impl_MixBlock_cx k) 0 (execK (impl_MixBlock_cx k) (callK (impl_MixBlock_cx k) 8) 0 126 (sub impl_MixBlock_c [1, 1, 1, 1, 0, 1, 0, 0, 1, 1, 0, 0, 1, 1, 0, 0])) impl_MixBlock_l2_cut K n (impl_MixBlock_l2_s a0 y50 x29 (IntKind.wrap .i64 (x32 + (1 : Int))) (y70.set (x32.toNat) (IntKind.wrap .u32 ((bitI .xor .u32 b9 (y70.getD ((Int.tmod (IntKind.wrap .i64 (x32 + (1 : Int))) (8 : Int)).toNat) (0 : Int))) + b10)))))
 none))
 none)
 none))
 none)
 none)
 (K (.exit 4) (impl_MixBlock_l2_o4 a0 y50 x29 y70))) : Option (shDen impl_MixBlock_sh)) := by kernel_rfl

theorem impl_MixBlock_l2_exit4 (k : Nat) (K : Ex → St → Option (shDen impl_MixBlock_sh)) (n : Nat) (a0 : (List Int)) (y50 : (List Int)) (x29 : Int) (y70 : (List Int)) : ((blkK 4 (blkK 3 (seqK (execK (impl_MixBlock_cx k) (callK (impl_MixBlock_cx k) 8) 0 126 (sub impl_MixBlock_c [1, 1, 1, 1, 0, 1, 0, 0, 1, 1, 1])) (iterK (impl_MixBlock_cx k) 0 impl_MixBlock_l1_cut (loopK (impl_MixBlock_cx k) 0 (execK (impl_MixBlock_cx k) (callK (impl_MixBlock_cx k) 8) 0 126 (sub impl_MixBlock_c [1, 1, 1, 1, 0, 1, 0, 0])) impl_MixBlock_l1_cut K n) K)))) (.exit 4) (impl_MixBlock_l2_o4 a0 y50 x29 y70) : Option (shDen impl_MixBlock_sh)) =
 ((loopK (impl_MixBlock_cx k) 0 (execK (impl_MixBlock_cx k) (callK (impl_MixBlock_cx k) 8) 0 126 (sub impl_MixBlock_c [1, 1, 1, 1, 0, 1, 0, 0])) impl_MixBlock_l1_cut K n (impl_MixBlock_l1_s a0 y50 (IntKind.wrap .i64 (x29 + (1 : Int))) y70)) : Option (shDen impl_MixBlock_sh)) := by kernel_rfl

theorem impl_MixBlock_l2_congr (ke4 : (List Int) → Option (shDen impl_MixBlock_sh)) (ke4' : (List Int) → Option (shDen impl_MixBlock_sh)) (a0 : (List Int)) (y50 : (List Int)) (x29 : Int) (n : Nat) (x32 : Int) (y70 : (List Int)) (hke4 : ∀ y70, ke4 y70 = ke4' y70) : impl_MixBlock_l2_L ke4 a0 y50 x29 n x32 y70 = impl_MixBlock_l2_L ke4' a0 y50 x29 n x32 y70 := by
 have : ke4 = ke4' := (by funext y70; exact hke4 y70); subst this; rfl

theorem impl_MixBlock_l2_L_eq (K : Ex → St → Option (shDen impl_MixBlock_sh)) (a0 : (List Int)) (y50 : (List Int)) (x29 : Int) : ∀ (n : Nat) (x32 : Int) (y70 : (List Int)), (loopK (impl_MixBlock_cx FUEL) 0 (execK (impl_MixBlock_cx FUEL) (callK (impl_MixBlock_cx FUEL) 8) 0 126 (sub impl_MixBlock_c [1, 1, 1, 1, 0, 1, 0, 0, 1, 1, 0, 0, 1, 1, 0, 0])) impl_MixBlock_l2_cut K n (impl_MixBlock_l2_s a0 y50 x29 x32 y70) : Option (shDen impl_MixBlock_sh)) = impl_MixBlock_l2_L (fun y70 => K (.exit 4) (impl_MixBlock_l2_o4 a0 y50 x29 y70)) a0 y50 x29 n x32 y70 := by
 intro n
 induction n with
 | zero => intros; rfl
 | succ n ih =>
  intro x32 y70
  exact (impl_MixBlock_l2_round FUEL K n a0 y50 x29 x32 y70).trans (condC (condC (condC (bindC (fun b9 => condC (condC (bindC (fun b10 => condC (ih (IntKind.wrap .i64 (x32 + (1 : Int))) (y70.set (x32.toNat) (IntKind.wrap .u32 ((bitI .xor .u32 b9 (y70.getD ((Int.tmod (IntKind.wrap .i64 (x32 + (1 : Int))) (8 : Int)).toNat) (0 : Int))) + b10)))) (rfl))) (rfl)) (rfl))) (rfl)) (rfl)) (rfl))

theorem impl_MixBlock_l1_round (k : Nat) (K : Ex → St → Option (shDen impl_MixBlock_sh)) (n : Nat) (a0 : (List Int)) (y50 : (List Int)) (x29 : Int) (y70 : (List Int)) : (loopK (impl_MixBlock_cx k) 0 (execK (impl_MixBlock_cx k) (callK (impl_MixBlock_cx k) 8) 0 126 (sub impl_MixBlock_c [1, 1, 1, 1, 0, 1, 0, 0])) impl_MixBlock_l1_cut K (n + 1) (impl_MixBlock_l1_s a0 y50 x29 y70) : Option (shDen impl_MixBlock_sh)) =
 ((cond (decide (x29 < (12 : Int)))
 (loopK (impl_MixBlock_cx k) 0 (execK (impl_MixBlock_cx k) (callK (impl_MixBlock_cx k) 8) 0 126 (sub impl_MixBlock_c [1, 1, 1, 1, 0, 1, 0, 0, 1, 1, 0, 0, 1, 1, 0, 0])) impl_MixBlock_l2_cut (blkK 4 (blkK 3 (seqK (execK (impl_MixBlock_cx k) (callK (impl_MixBlock_cx k) 8) 0 126 (sub impl_MixBlock_c [1, 1, 1, 1, 0, 1, 0, 0, 1, 1, 1])) (iterK (impl_MixBlock_cx k) 0 impl_MixBlock_l1_cut (loopK (impl_MixBlock_cx k) 0 (execK (impl_MixBlock_cx k) (callK (impl_MixBlock_cx k) 8) 0 126 (sub impl_MixBlock_c [1, 1, 1, 1, 0, 1, 0, 0])) impl_MixBlock_l1_cut K n) K)))) k (impl_MixBlock_l2_s a0 y50 x29 (0 : Int) y70))
 (K (.exit 2) (impl_MixBlock_l1_o2 a0 y70))) : Option (shDen impl_MixBlock_sh)) := by kernel_rfl

theorem impl_MixBlock_l1_exit2 (k : Nat)  (a0 : (List Int)) (y70 : (List Int)) : ((blkK 2 (seqK (execK (impl_MixBlock_cx k) (callK (impl_MixBlock_cx k) 8) 0 126 (sub impl_MixBlock_c [1, 1, 1, 1, 1])) (finK (impl_MixBlock_cx k) impl_MixBlock_i impl_MixBlock_sh))) (.exit 2) (impl_MixBlock_l1_o2 a0 y70) : Option (shDen impl_MixBlock_sh)) =
 ((loopK (impl_MixBlock_cx k) 0 (execK (impl_MixBlock_cx k) (callK (impl_MixBlock_cx k) 8) 0 126 (sub impl_MixBlock_c [1, 1, 1, 1, 1, 0, 1, 0, 0])) impl_MixBlock_l3_cut (blkK 6 (seqK (execK (impl_MixBlock_cx k) (callK (impl_MixBlock_cx k) 8) 0 126 (sub impl_MixBlock_c [1, 1, 1, 1, 1, 1])) (finK (impl_MixBlock_cx k) impl_MixBlock_i impl_MixBlock_sh))) k (impl_MixBlock_l3_s a0 y70 (0 : Int))) : Option (shDen impl_MixBlock_sh)) := by kernel_rfl

theorem impl_MixBlock_l1_congr (ke2 : (List Int) → Option (shDen impl_MixBlock_sh)) (ke2' : (List Int) → Option (shDen impl_MixBlock_sh)) (a0 : (List Int)) (n : Nat) (y50 : (List Int)) (x29 : Int) (y70 : (List Int)) (hke2 : ∀ y70, ke2 y70 = ke2' y70) : impl_MixBlock_l1_L ke2 a0 n y50 x29 y70 = impl_MixBlock_l1_L ke2' a0 n y50 x29 y70 := by
 have : ke2 = ke2' := (by funext y70; exact hke2 y70); subst this; rfl

theorem impl_MixBlock_l1_L_eq (K : Ex → St → Option (shDen impl_MixBlock_sh)) (a0 : (List Int)) : ∀ (n : Nat) (y50 : (List Int)) (x29 : Int) (y70 : (List Int)), (loopK (impl_MixBlock_cx FUEL) 0 (execK (impl_MixBlock_cx FUEL) (callK (impl_MixBlock_cx FUEL) 8) 0 126 (sub impl_MixBlock_c [1, 1, 1, 1, 0, 1, 0, 0])) impl_MixBlock_l1_cut K n (impl_MixBlock_l1_s a0 y50 x29 y70) : Option (shDen impl_MixBlock_sh)) = impl_MixBlock_l1_L (fun y70 => K (.exit 2) (impl_MixBlock_l1_o2 a0 y70)) a0 n y50 x29 y70 := by
 intro n
 induction n with
 | zero => intros; rfl
 | succ n ih =>
  intro y50 x29 y70
  exact (impl_MixBlock_l1_round FUEL K n a0 y50 x29 y70).trans (condC ((impl_MixBlock_l2_L_eq _ a0 y50 x29 FUEL (0 : Int) y70).trans (impl_MixBlock_l2_congr _ _ a0 y50 x29 FUEL (0 : Int) y70 (fun y70 => (impl_MixBlock_l2_exit4 FUEL K n a0 y50 x29 y70).trans (ih y50 (IntKind.wrap .i64 (x29 + (1 : Int))) y70)))) (rfl))

theorem impl_MixBlock_l0_round (k : Nat) (K : Ex → St → Option (shDen impl_MixBlock_sh)) (n : Nat) (a0 : (List Int)) (a1 : (List Int)) (x14 : Int) (y50 : (List Int)) : (loopK (impl_MixBlock_cx k) 0 (execK (impl_MixBlock_cx k) (callK (impl_MixBlock_cx k) 8) 0 126 (sub impl_MixBlock_c [1, 1, 0, 1, 0, 0])) impl_MixBlock_l0_cut K (n + 1) (impl_MixBlock_l0_s a0 a1 x14 y50) : Option (shDen impl_MixBlock_sh)) =
 ((cond (decide (x14 < (8 : Int)))
 (cond ((decide ((0 : Int) ≤ (IntKind.wrap .i64 ((IntKind.wrap .i64 ((4 : Int) * x14)) + (4 : Int))))) && (decide ((IntKind.wrap .i64 ((IntKind.wrap .i64 ((4 : Int) * x14)) + (4 : Int))) ≤ (32 : Int))))
 (cond ((decide ((0 : Int) ≤ (IntKind.wrap .i64 ((4 : Int) * x14)))) && (decide ((IntKind.wrap .i64 ((4 : Int) * x14)) ≤ (IntKind.wrap .i64 ((IntKind.wrap .i64 ((4 : Int) * x14)) + (4 : Int))))))
 (bindO (impl_littleNumber_r (cutL a1 ((IntKind.wrap .i64 ((4 : Int) * x14)).toNat) ((IntKind.wrap .i64 ((IntKind.wrap .i64 ((4 : Int) * x14)) + (4 : Int))).toNat))) fun (b2 : Int) => (cond ((decide ((0 : Int) ≤ x14)) && (decide (x14 < (8 : Int))))
 (loopK (impl_MixBlock_cx k) 0 (execK (impl_MixBlock_cx k) (callK (impl_MixBlock_cx k) 8) 0 126 (sub impl_MixBlock_c [1, 1, 0, 1, 0, 0])) impl_MixBlock_l0_cut K n (impl_MixBlock_l0_s a0 a1 (IntKind.wrap .i64 (x14 + (1 : Int))) (y50.set (x14.toNat) (IntKind.wrap .u32 b2))))
 none))
 none)
 none)
 (K (.exit 0) (impl_MixBlock_l0_o0 a0 y50))) : Option (shDen impl_MixBlock_sh)) := by kernel_rfl

theorem impl_MixBlock_l0_exit0 (k : Nat)  (a0 : (List Int)) (y50 : (List Int)) : ((blkK 0 (seqK (execK (impl_MixBlock_cx k) (callK (impl_MixBlock_cx k) 8) 0 126 (sub impl_MixBlock_c [1, 1, 1])) (finK (impl_MixBlock_cx k) impl_MixBlock_i impl_MixBlock_sh))) (.exit 0) (impl_MixBlock_l0_o0 a0 y50) : Option (shDen impl_MixBlock_sh)) =
 ((loopK (impl_MixBlock_cx k) 0 (execK (impl_MixBlock_cx k) (callK (impl_MixBlock_cx k) 8) 0 126 (sub impl_MixBlock_c [1, 1, 1, 1, 0, 1, 0, 0])) impl_MixBlock_l1_cut (blkK 2 (seqK (execK (impl_MixBlock_cx k) (callK (impl_MixBlock_cx k) 8) 0 126 (sub impl_MixBlock_c [1, 1, 1, 1, 1])) (finK (impl_MixBlock_cx k) impl_MixBlock_i impl_MixBlock_sh))) k (impl_MixBlock_l1_s a0 y50 (0 : Int) a0)) : Option (shDen impl_MixBlock_sh)) := by kernel_rfl

theorem impl_MixBlock_l0_congr (ke0 : (List Int) → Option (shDen impl_MixBlock_sh)) (ke0' : (List Int) → Option (shDen impl_MixBlock_sh)) (a0 : (List Int)) (a1 : (List Int)) (n : Nat) (x14 : Int) (y50 : (List Int)) (hke0 : ∀ y50, ke0 y50 = ke0' y50) : impl_MixBlock_l0_L ke0 a0 a1 n x14 y50 = impl_MixBlock_l0_L ke0' a0 a1 n x14 y50 := by
 have : ke0 = ke0' := (by funext y50; exact hke0 y50); subst this; rfl

theorem impl_MixBlock_l0_L_eq (K : Ex → St → Option (shDen impl_MixBlock_sh)) (a0 : (List Int)) (a1 : (List Int)) : ∀ (n : Nat) (x14 : Int) (y50 : (List Int)), (loopK (impl_MixBlock_cx FUEL) 0 (execK (impl_MixBlock_cx FUEL) (callK (impl_MixBlock_cx FUEL) 8) 0 126 (sub impl_MixBlock_c [1, 1, 0, 1, 0, 0])) impl_MixBlock_l0_cut K n (impl_MixBlock_l0_s a0 a1 x14 y50) : Option (shDen impl_MixBlock_sh)) = impl_MixBlock_l0_L (fun y50 => K (.exit 0) (impl_MixBlock_l0_o0 a0 y50)) a0 a1 n x14 y50 := by
 intro n
 induction n with
 | zero => intros; rfl
 | succ n ih =>
  intro x14 y50
  exact (impl_MixBlock_l0_round FUEL K n a0 a1 x14 y50).trans (condC (condC (condC (bindC (fun b2 => condC (ih (IntKind.wrap .i64 (x14 + (1 : Int))) (y50.set (x14.toNat) (IntKind.wrap .u32 b2))) (rfl))) (rfl)) (rfl)) (rfl))

theorem impl_MixBlock_start (k : Nat) (a0 : (List Int)) (a1 : (List Int)) : fnK (impl_MixBlock_cx k) 8 126 impl_MixBlock_i impl_MixBlock_sh [.pv (.arr 8 (.int .u32)) a0, .pv (.arr 32 (.int .u8)) a1] =
 ((loopK (impl_MixBlock_cx k) 0 (execK (impl_MixBlock_cx k) (callK (impl_MixBlock_cx k) 8) 0 126 (sub impl_MixBlock_c [1, 1, 0, 1, 0, 0])) impl_MixBlock_l0_cut (blkK 0 (seqK (execK (impl_MixBlock_cx k) (callK (impl_MixBlock_cx k) 8) 0 126 (sub impl_MixBlock_c [1, 1, 1])) (finK (impl_MixBlock_cx k) impl_MixBlock_i impl_MixBlock_sh))) k (impl_MixBlock_l0_s a0 a1 (0 : Int) (List.replicate 8 (0 : Int)))) : Option (shDen impl_MixBlock_sh)) := by kernel_rfl

theorem impl_MixBlock_run (a0 : (List Int)) (a1 : (List Int)) : fnK (impl_MixBlock_cx FUEL) 8 126 impl_MixBlock_i impl_MixBlock_sh [.pv (.arr 8 (.int .u32)) a0, .pv (.arr 32 (.int .u8)) a1] = impl_MixBlock_r a0 a1 :=
 (impl_MixBlock_start FUEL a0 a1).trans ((impl_MixBlock_l0_L_eq _ a0 a1 FUEL (0 : Int) (List.replicate 8 (0 : Int))).trans (impl_MixBlock_l0_congr _ _ a0 a1 FUEL (0 : Int) (List.replicate 8 (0 : Int)) (fun y50 => (impl_MixBlock_l0_exit0 FUEL  a0 y50).trans ((impl_MixBlock_l1_L_eq _ a0 FUEL y50 (0 : Int) a0).trans (impl_MixBlock_l1_congr _ _ a0 FUEL y50 (0 : Int) a0 (fun y70 => (impl_MixBlock_l1_exit2 FUEL  a0 y70).trans ((impl_MixBlock_l3_L_eq _ a0 FUEL y70 (0 : Int)).trans (impl_MixBlock_l3_congr _ _ a0 FUEL y70 (0 : Int) (fun y70 => (impl_MixBlock_l3_exit6 FUEL  y70).trans (rfl))))))))))

noncomputable def impl_MixBlock_con : Con := { ps := (.pair (.arr 8 (.int .u32)) (.pair (.arr 32 (.int .u8)) .unit)), sh := impl_MixBlock_sh, raw := fun x => impl_MixBlock_r x.1 x.2.1 }
theorem impl_MixBlock_conOk : ConOk Try.prog 126 impl_MixBlock_con := con_of_fn (impl_MixBlock_tabs FUEL) (depth := 8) impl_MixBlock_ok fun x y h => (impl_MixBlock_run x.1 x.2.1).trans h

noncomputable def impl_RollTable_l0_cut : Cut := { keep := [0, 1, 2, 6], stk := [], ids := [0, 10, 20], own := [], outs := [(1, [0, 1], [0, 10])] }
noncomputable def impl_RollTable_inls : List (Nat × Inl) := []
noncomputable def impl_RollTable_cons : List (Nat × Con) := [(105, impl_StartState_con), (126, impl_MixBlock_con)]
noncomputable def impl_RollTable_taks : List (Nat × ConT) := []
noncomputable def impl_RollTable_inps : List (Nat × ConI) := []
noncomputable def impl_RollTable_cuts : List (Nat × List (Nat × Cut)) := [(118, [(0, impl_RollTable_l0_cut)])]
noncomputable def impl_RollTable_cx (k : Nat) : Cx := mkCx tys tbytes telem nozero (Ai.look impl_RollTable_inls) (Ai.look impl_RollTable_cons) (Ai.look impl_RollTable_taks) (Ai.look impl_RollTable_inps) (fun f id => match Ai.look impl_RollTable_cuts f with | some l => Ai.look l id | none => none) k []
theorem impl_RollTable_tabs (k : Nat) : TabsOk Try.prog (impl_RollTable_cx k) := ⟨tab_mk tabs_ok _ _ _ _ _ _ _, look_all (Q := ConOk Try.prog) _ ⟨impl_StartState_conOk, impl_MixBlock_conOk, trivial⟩, look_all (Q := TakOk Try.prog) _ trivial, look_all (Q := InpOk Try.prog) _ trivial, look_all (Q := InlOk Try.prog) _ trivial, mixed_ok⟩
abbrev impl_RollTable_sh : List Sh := [.pl (.arr 256 (.int .u32))]
noncomputable def impl_RollTable_l0_s (y20 : (List Int)) (x6 : Int) (y10 : (List Int)) : St := { env := [.ptr 0 (.arr 256 (.int .u32)) [], .ptr 10 (.arr 256 (.int .u32)) [], .ptr 20 (.arr 8 (.int .u32)) [], .dead, .dead, .dead, .pv (.int .i64) x6, .dead, .dead, .dead, .dead, .dead, .dead, .dead, .dead, .dead, .dead, .dead, .dead], stk := [], heap := [(20, .var (.arr 8 (.int .u32)) (.pv (.arr 8 (.int .u32)) y20)), (10, .var (.arr 256 (.int .u32)) (.pv (.arr 256 (.int .u32)) y10)), (0, .var (.arr 256 (.int .u32)) (.pv (.arr 256 (.int .u32)) (List.replicate 256 (0 : Int))))] }
noncomputable def impl_RollTable_l0_o0 (y10 : (List Int)) : St := { env := [.ptr 0 (.arr 256 (.int .u32)) [], .ptr 10 (.arr 256 (.int .u32)) [], .dead, .dead, .dead, .dead, .dead, .dead, .dead, .dead, .dead, .dead, .dead, .dead, .dead, .dead, .dead, .dead, .dead], stk := [], heap := [(10, .var (.arr 256 (.int .u32)) (.pv (.arr 256 (.int .u32)) y10)), (0, .var (.arr 256 (.int .u32)) (.pv (.arr 256 (.int .u32)) (List.replicate 256 (0 : Int))))] }
noncomputable def impl_RollTable_l0_b (rec : (List Int) → Int → (List Int) → Option (shDen impl_RollTable_sh)) (ke0 : (List Int) → Option (shDen impl_RollTable_sh)) (y20 : (List Int)) (x6 : Int) (y10 : (List Int)) : Option (shDen impl_RollTable_sh) :=
 (cond (decide (x6 < (256 : Int)))
 (bindO (impl_MixBlock_r y20 ((List.replicate 32 (0 : Int)).set 0 (IntKind.wrap .u8 x6))) fun (b3 : (List Int)) => (cond ((decide ((0 : Int) ≤ x6)) && (decide (x6 < (256 : Int))))
 (rec y20 (IntKind.wrap .i64 (x6 + (1 : Int))) (y10.set (x6.toNat) (b3.getD 0 (0 : Int))))
 none))
 (ke0 y10))
noncomputable def impl_RollTable_l0_L (ke0 : (List Int) → Option (shDen impl_RollTable_sh))  : Nat → (List Int) → Int → (List Int) → Option (shDen impl_RollTable_sh)
 | 0 => fun _ _ _ => none
 | n + 1 => impl_RollTable_l0_b (impl_RollTable_l0_L ke0  n) ke0 
noncomputable def impl_RollTable_r  : Option (shDen impl_RollTable_sh) :=
 (bindO (impl_StartState_r (7 : Int)) fun (b1 : (List Int)) => (impl_RollTable_l0_L (fun y10 => (some y10)) FUEL b1 (0 : Int) (List.replicate 256 (0 : Int))))
theorem impl_RollTable_l0_round (k : Nat) (K : Ex → St → Option (shDen impl_RollTable_sh)) (n : Nat) (y20 : (List Int)) (x6 : Int) (y10 : (List Int)) : (loopK (impl_RollTable_cx k) 0 (execK (impl_RollTable_cx k) (callK (impl_RollTable_cx k) 8) 0 118 (sub impl_RollTable_c [1, 1, 0, 1, 0, 0])) impl_RollTable_l0_cut K (n + 1) (impl_RollTable_l0_s y20 x6 y10) : Option (shDen impl_RollTable_sh)) =
 ((cond (decide (x6 < (256 : Int)))
 (bindO (impl_MixBlock_r y20 ((List.replicate 32 (0 : Int)).set 0 (IntKind.wrap .u8 x6))) fun (b3 : (List Int)) => (cond ((decide ((0 : Int) ≤ x6)) && (decide (x6 < (256 : Int))))
 (loopK (impl_RollTable_cx k) 0 (execK (impl_RollTable_cx k) (callK (impl_RollTable_cx k) 8) 0 118 (sub impl_RollTable_c [1, 1, 0, 1, 0, 0])) impl_RollTable_l0_cut K n (impl_RollTable_l0_s y20 (IntKind.wrap .i64 (x6 + (1 : Int))) (y10.set (x6.toNat) (b3.getD 0 (0 : Int)))))
 none))
 (K (.exit 0) (impl_RollTable_l0_o0 y10))) : Option (shDen impl_RollTable_sh)) := by kernel_rfl

theorem impl_RollTable_l0_exit0 (k : Nat)  (y10 : (List Int)) : ((blkK 0 (seqK (execK (impl_RollTable_cx k) (callK (impl_RollTable_cx k) 8) 0 118 (sub impl_RollTable_c [1, 1, 1])) (finK (impl_RollTable_cx k) impl_RollTable_i impl_RollTable_sh))) (.exit 0) (impl_RollTable_l0_o0 y10) : Option (shDen impl_RollTable_sh)) =
 ((some y10) : Option (shDen impl_RollTable_sh)) := by kernel_rfl

theorem impl_RollTable_l0_congr (ke0 : (List Int) → Option (shDen impl_RollTable_sh)) (ke0' : (List Int) → Option (shDen impl_RollTable_sh))  (n : Nat) (y20 : (List Int)) (x6 : Int) (y10 : (List Int)) (hke0 : ∀ y10, ke0 y10 = ke0' y10) : impl_RollTable_l0_L ke0  n y20 x6 y10 = impl_RollTable_l0_L ke0'  n y20 x6 y10 := by
 have : ke0 = ke0' := (by funext y10; exact hke0 y10); subst this; rfl

theorem impl_RollTable_l0_L_eq (K : Ex → St → Option (shDen impl_RollTable_sh))  : ∀ (n : Nat) (y20 : (List Int)) (x6 : Int) (y10 : (List Int)), (loopK (impl_RollTable_cx FUEL) 0 (execK (impl_RollTable_cx FUEL) (callK (impl_RollTable_cx FUEL) 8) 0 118 (sub impl_RollTable_c [1, 1, 0, 1, 0, 0])) impl_RollTable_l0_cut K n (impl_RollTable_l0_s y20 x6 y10) : Option (shDen impl_RollTable_sh)) = impl_RollTable_l0_L (fun y10 => K (.exit 0) (impl_RollTable_l0_o0 y10))  n y20 x6 y10 := by
 intro n
 induction n with
 | zero => intros; rfl
 | succ n ih =>
  intro y20 x6 y10
  exact (impl_RollTable_l0_round FUEL K n  y20 x6 y10).trans (condC (bindC (fun b3 => condC (ih y20 (IntKind.wrap .i64 (x6 + (1 : Int))) (y10.set (x6.toNat) (b3.getD 0 (0 : Int)))) (rfl))) (rfl))

theorem impl_RollTable_start (k : Nat)  : fnK (impl_RollTable_cx k) 8 118 impl_RollTable_i impl_RollTable_sh [] =
 ((bindO (impl_StartState_r (7 : Int)) fun (b1 : (List Int)) => (loopK (impl_RollTable_cx k) 0 (execK (impl_RollTable_cx k) (callK (impl_RollTable_cx k) 8) 0 118 (sub impl_RollTable_c [1, 1, 0, 1, 0, 0])) impl_RollTable_l0_cut (blkK 0 (seqK (execK (impl_RollTable_cx k) (callK (impl_RollTable_cx k) 8) 0 118 (sub impl_RollTable_c [1, 1, 1])) (finK (impl_RollTable_cx k) impl_RollTable_i impl_RollTable_sh))) k (impl_RollTable_l0_s b1 (0 : Int) (List.replicate 256 (0 : Int))))) : Option (shDen impl_RollTable_sh)) := by kernel_rfl

theorem impl_RollTable_run  : fnK (impl_RollTable_cx FUEL) 8 118 impl_RollTable_i impl_RollTable_sh [] = impl_RollTable_r  :=
 (impl_RollTable_start FUEL ).trans (bindC (fun b1 => (impl_RollTable_l0_L_eq _  FUEL b1 (0 : Int) (List.replicate 256 (0 : Int))).trans (impl_RollTable_l0_congr _ _  FUEL b1 (0 : Int) (List.replicate 256 (0 : Int)) (fun y10 => (impl_RollTable_l0_exit0 FUEL  y10).trans (rfl)))))

noncomputable def impl_RollTable_con : Con := { ps := .unit, sh := impl_RollTable_sh, raw := fun x => impl_RollTable_r  }
theorem impl_RollTable_conOk : ConOk Try.prog 118 impl_RollTable_con := con_of_fn (impl_RollTable_tabs FUEL) (depth := 8) impl_RollTable_ok fun x y h => (impl_RollTable_run ).trans h

noncomputable def impl_roller_add_inls : List (Nat × Inl) := []
noncomputable def impl_roller_add_cons : List (Nat × Con) := []
noncomputable def impl_roller_add_taks : List (Nat × ConT) := []
noncomputable def impl_roller_add_inps : List (Nat × ConI) := []
noncomputable def impl_roller_add_cuts : List (Nat × List (Nat × Cut)) := []
noncomputable def impl_roller_add_cx (k : Nat) : Cx := mkCx tys tbytes telem nozero (Ai.look impl_roller_add_inls) (Ai.look impl_roller_add_cons) (Ai.look impl_roller_add_taks) (Ai.look impl_roller_add_inps) (fun f id => match Ai.look impl_roller_add_cuts f with | some l => Ai.look l id | none => none) k []
theorem impl_roller_add_tabs (k : Nat) : TabsOk Try.prog (impl_roller_add_cx k) := ⟨tab_mk tabs_ok _ _ _ _ _ _ _, look_all (Q := ConOk Try.prog) _ trivial, look_all (Q := TakOk Try.prog) _ trivial, look_all (Q := InpOk Try.prog) _ trivial, look_all (Q := InlOk Try.prog) _ trivial, mixed_ok⟩
abbrev impl_roller_add_sh : List Sh := []
noncomputable def impl_roller_add_r (a0 : ((List Int) × (Int × Unit))) (a1 : Int) : Option (((List Int) × (Int × Unit)) × shDen impl_roller_add_sh) :=
 (cond ((decide ((0 : Int) ≤ a1)) && (decide (a1 < (256 : Int))))
 (some ((a0.1, ((IntKind.wrap .u32 ((IntKind.wrap .u32 ((2 : Int) * a0.2.1)) + (a0.1.getD (a1.toNat) (0 : Int)))), a0.2.2)), ()))
 none)
theorem impl_roller_add_start (k : Nat) (a0 : ((List Int) × (Int × Unit))) (a1 : Int) : fnIK (impl_roller_add_cx k) 8 88 impl_roller_add_i (.var (.pair (.arr 256 (.int .u32)) (.pair (.int .u32) .unit))) impl_roller_add_sh a0 [.pv (.int .u8) a1] =
 ((cond ((decide ((0 : Int) ≤ a1)) && (decide (a1 < (256 : Int))))
 (some ((a0.1, ((IntKind.wrap .u32 ((IntKind.wrap .u32 ((2 : Int) * a0.2.1)) + (a0.1.getD (a1.toNat) (0 : Int)))), a0.2.2)), ()))
 none) : Option (((List Int) × (Int × Unit)) × shDen impl_roller_add_sh)) := by kernel_rfl

theorem impl_roller_add_run (a0 : ((List Int) × (Int × Unit))) (a1 : Int) : fnIK (impl_roller_add_cx FUEL) 8 88 impl_roller_add_i (.var (.pair (.arr 256 (.int .u32)) (.pair (.int .u32) .unit))) impl_roller_add_sh a0 [.pv (.int .u8) a1] = impl_roller_add_r a0 a1 :=
 (impl_roller_add_start FUEL a0 a1).trans (rfl)

noncomputable def impl_roller_add_inp : ConI := { k := (.var (.pair (.arr 256 (.int .u32)) (.pair (.int .u32) .unit))), ps := (.pair (.int .u8) .unit), sh := impl_roller_add_sh, raw := fun x q => impl_roller_add_r x q.1 }
theorem impl_roller_add_inpOk : InpOk Try.prog 88 impl_roller_add_inp := inp_of_fn (impl_roller_add_tabs FUEL) (depth := 8) impl_roller_add_ok fun x q z h => (impl_roller_add_run x q.1).trans h

noncomputable def impl_CutRule_ends_inls : List (Nat × Inl) := []
noncomputable def impl_CutRule_ends_cons : List (Nat × Con) := []
noncomputable def impl_CutRule_ends_taks : List (Nat × ConT) := []
noncomputable def impl_CutRule_ends_inps : List (Nat × ConI) := []
noncomputable def impl_CutRule_ends_cuts : List (Nat × List (Nat × Cut)) := []
noncomputable def impl_CutRule_ends_cx (k : Nat) : Cx := mkCx tys tbytes telem nozero (Ai.look impl_CutRule_ends_inls) (Ai.look impl_CutRule_ends_cons) (Ai.look impl_CutRule_ends_taks) (Ai.look impl_CutRule_ends_inps) (fun f id => match Ai.look impl_CutRule_ends_cuts f with | some l => Ai.look l id | none => none) k []
theorem impl_CutRule_ends_tabs (k : Nat) : TabsOk Try.prog (impl_CutRule_ends_cx k) := ⟨tab_mk tabs_ok _ _ _ _ _ _ _, look_all (Q := ConOk Try.prog) _ trivial, look_all (Q := TakOk Try.prog) _ trivial, look_all (Q := InpOk Try.prog) _ trivial, look_all (Q := InlOk Try.prog) _ trivial, mixed_ok⟩
abbrev impl_CutRule_ends_sh : List Sh := [.pl .bool]
noncomputable def impl_CutRule_ends_r (a0 : (Int × (Int × (Int × Unit)))) (a1 : Int) (a2 : Int) : Option (shDen impl_CutRule_ends_sh) :=
 (cond (decide (a1 = a0.2.1))
 (some true)
 (cond (decide (a0.1 ≤ a1))
 (cond (decide (a0.2.2.1 < (0 : Int)))
 none
 (some (decide ((bitI .and .u32 a2 (IntKind.wrap .u32 ((shlI .u32 (1 : Int) a0.2.2.1) - (1 : Int)))) = (0 : Int)))))
 (some false)))
theorem impl_CutRule_ends_start (k : Nat) (a0 : (Int × (Int × (Int × Unit)))) (a1 : Int) (a2 : Int) : fnK (impl_CutRule_ends_cx k) 8 95 impl_CutRule_ends_i impl_CutRule_ends_sh [.pv (.pair (.int .i64) (.pair (.int .i64) (.pair (.int .i64) .unit))) a0, .pv (.int .i64) a1, .pv (.int .u32) a2] =
 ((cond (decide (a1 = a0.2.1))
 (some true)
 (cond (decide (a0.1 ≤ a1))
 (cond (decide (a0.2.2.1 < (0 : Int)))
 none
 (some (decide ((bitI .and .u32 a2 (IntKind.wrap .u32 ((shlI .u32 (1 : Int) a0.2.2.1) - (1 : Int)))) = (0 : Int)))))
 (some false))) : Option (shDen impl_CutRule_ends_sh)) := by kernel_rfl

theorem impl_CutRule_ends_run (a0 : (Int × (Int × (Int × Unit)))) (a1 : Int) (a2 : Int) : fnK (impl_CutRule_ends_cx FUEL) 8 95 impl_CutRule_ends_i impl_CutRule_ends_sh [.pv (.pair (.int .i64) (.pair (.int .i64) (.pair (.int .i64) .unit))) a0, .pv (.int .i64) a1, .pv (.int .u32) a2] = impl_CutRule_ends_r a0 a1 a2 :=
 (impl_CutRule_ends_start FUEL a0 a1 a2).trans (rfl)

noncomputable def impl_CutRule_ends_con : Con := { ps := (.pair (.pair (.int .i64) (.pair (.int .i64) (.pair (.int .i64) .unit))) (.pair (.int .i64) (.pair (.int .u32) .unit))), sh := impl_CutRule_ends_sh, raw := fun x => impl_CutRule_ends_r x.1 x.2.1 x.2.2.1 }
theorem impl_CutRule_ends_conOk : ConOk Try.prog 95 impl_CutRule_ends_con := con_of_fn (impl_CutRule_ends_tabs FUEL) (depth := 8) impl_CutRule_ends_ok fun x y h => (impl_CutRule_ends_run x.1 x.2.1 x.2.2.1).trans h

noncomputable def slices_Clone_byte_byte_inls : List (Nat × Inl) := []
noncomputable def slices_Clone_byte_byte_cons : List (Nat × Con) := []
noncomputable def slices_Clone_byte_byte_taks : List (Nat × ConT) := []
noncomputable def slices_Clone_byte_byte_inps : List (Nat × ConI) := []
noncomputable def slices_Clone_byte_byte_cuts : List (Nat × List (Nat × Cut)) := []
noncomputable def slices_Clone_byte_byte_cx (k : Nat) : Cx := mkCx tys tbytes telem nozero (Ai.look slices_Clone_byte_byte_inls) (Ai.look slices_Clone_byte_byte_cons) (Ai.look slices_Clone_byte_byte_taks) (Ai.look slices_Clone_byte_byte_inps) (fun f id => match Ai.look slices_Clone_byte_byte_cuts f with | some l => Ai.look l id | none => none) k []
theorem slices_Clone_byte_byte_tabs (k : Nat) : TabsOk Try.prog (slices_Clone_byte_byte_cx k) := ⟨tab_mk tabs_ok _ _ _ _ _ _ _, look_all (Q := ConOk Try.prog) _ trivial, look_all (Q := TakOk Try.prog) _ trivial, look_all (Q := InpOk Try.prog) _ trivial, look_all (Q := InlOk Try.prog) _ trivial, mixed_ok⟩
abbrev slices_Clone_byte_byte_sh : List Sh := [.own 5 (.int .u8)]
noncomputable def slices_Clone_byte_byte_r (a0 : (List Int)) : Option (shDen slices_Clone_byte_byte_sh) :=
 (cond (List.isEmpty a0) (bothO (some []) (cond (decide ((0 + a0.length) * 1 ≤ 140737488355328) && decide (0 + a0.length ≤ 9223372036854775807))
 (some ([] ++ a0))
 none)) (cond (decide ((0 + a0.length) * 1 ≤ 140737488355328) && decide (0 + a0.length ≤ 9223372036854775807))
 (some ([] ++ a0))
 none))
theorem slices_Clone_byte_byte_start (k : Nat) (a0 : (List Int)) : fnK (slices_Clone_byte_byte_cx k) 8 91 slices_Clone_byte_byte_i slices_Clone_byte_byte_sh [.pv (.slice (.int .u8)) a0] =
 ((cond (List.isEmpty a0) (bothO (some []) (cond (decide ((0 + a0.length) * 1 ≤ 140737488355328) && decide (0 + a0.length ≤ 9223372036854775807))
 (some ([] ++ a0))
 none)) (cond (decide ((0 + a0.length) * 1 ≤ 140737488355328) && decide (0 + a0.length ≤ 9223372036854775807))
 (some ([] ++ a0))
 none)) : Option (shDen slices_Clone_byte_byte_sh)) := by kernel_rfl

theorem slices_Clone_byte_byte_run (a0 : (List Int)) : fnK (slices_Clone_byte_byte_cx FUEL) 8 91 slices_Clone_byte_byte_i slices_Clone_byte_byte_sh [.pv (.slice (.int .u8)) a0] = slices_Clone_byte_byte_r a0 :=
 (slices_Clone_byte_byte_start FUEL a0).trans (rfl)

noncomputable def slices_Clone_byte_byte_con : Con := { ps := (.pair (.slice (.int .u8)) .unit), sh := slices_Clone_byte_byte_sh, raw := fun x => slices_Clone_byte_byte_r x.1 }
theorem slices_Clone_byte_byte_conOk : ConOk Try.prog 91 slices_Clone_byte_byte_con := con_of_fn (slices_Clone_byte_byte_tabs FUEL) (depth := 8) slices_Clone_byte_byte_ok fun x y h => (slices_Clone_byte_byte_run x.1).trans h

end Go.Ai.G
