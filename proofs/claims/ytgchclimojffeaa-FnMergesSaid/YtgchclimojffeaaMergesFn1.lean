/- Made by a program of this work out of the program: tables and plain functions, with the proof that each Go function does what its plain function says. No conditions. -/
import Derived.Test.YtgchclimojffeaaMergesFn0
namespace Go.Ai.G
open Go.Proofs
open Go.Ai
set_option linter.unusedVariables false
set_option linter.unusedSimpArgs false
set_option maxRecDepth 100000

noncomputable def laws_a2Get_l0_cut : Cut := { keep := [0, 1, 6], stk := [], ids := [], own := [], outs := [(0, [4, 5], []), (1, [], [])] }
noncomputable def laws_a2Get_inls : List (Nat × Inl) := []
noncomputable def laws_a2Get_cons : List (Nat × Con) := []
noncomputable def laws_a2Get_taks : List (Nat × ConT) := []
noncomputable def laws_a2Get_inps : List (Nat × ConI) := []
noncomputable def laws_a2Get_cuts : List (Nat × List (Nat × Cut)) := [(10, [(0, laws_a2Get_l0_cut)])]
noncomputable def laws_a2Get_cx (k : Nat) : Cx := mkCx tys tbytes telem nozero (Ai.look laws_a2Get_inls) (Ai.look laws_a2Get_cons) (Ai.look laws_a2Get_taks) (Ai.look laws_a2Get_inps) (fun f id => match Ai.look laws_a2Get_cuts f with | some l => Ai.look l id | none => none) k [] false
theorem laws_a2Get_tabs (k : Nat) : TabsOk Try.prog (laws_a2Get_cx k) := ⟨tab_mk tabs_ok _ _ _ _ _ _ _ _, look_all (Q := ConOk Try.prog) _ trivial, look_all (Q := TakOk Try.prog) _ trivial, look_all (Q := InpOk Try.prog) _ trivial, look_all (Q := InlOk Try.prog) _ trivial, mixed_ok⟩
abbrev laws_a2Get_sh : List Sh := [.pl .str, .pl .bool]
noncomputable def laws_a2Get_l0_s (a0 : (List (List Int × (List Int × Unit)))) (a1 : List Int) (x6 : Int) : St := { env := [.pv (.slice (.pair .str (.pair .str .unit))) a0, .pv .str a1, .dead, .dead, .dead, .dead, .pv (.int .i64) x6, .dead, .dead, .dead, .dead, .dead, .dead, .dead, .dead, .dead, .dead, .dead, .dead, .dead, .dead, .dead, .dead, .dead, .dead], stk := [], heap := [] }
noncomputable def laws_a2Get_l0_o (x4 : List Int) : St := { env := [.dead, .dead, .dead, .dead, .pv .str x4, .pv .bool true, .dead, .dead, .dead, .dead, .dead, .dead, .dead, .dead, .dead, .dead, .dead, .dead, .dead, .dead, .dead, .dead, .dead, .dead, .dead], stk := [], heap := [] }
noncomputable def laws_a2Get_l0_o0  : St := { env := [.dead, .dead, .dead, .dead, .dead, .dead, .dead, .dead, .dead, .dead, .dead, .dead, .dead, .dead, .dead, .dead, .dead, .dead, .dead, .dead, .dead, .dead, .dead, .dead, .dead], stk := [], heap := [] }
noncomputable def laws_a2Get_l0_b (rec : Int → Option (shDen laws_a2Get_sh)) (kr : (List Int) → Option (shDen laws_a2Get_sh)) (ke0 : Option (shDen laws_a2Get_sh)) (a0 : (List (List Int × (List Int × Unit)))) (a1 : List Int) (x6 : Int) : Option (shDen laws_a2Get_sh) :=
 (cond (decide (x6 < (a0.length : Int)))
 (cond ((decide ((0 : Int) ≤ x6)) && (decide (x6 < (a0.length : Int))))
 (cond (decide ((a0.getD (x6.toNat) ([], ([], ()))).1 = a1))
 (cond ((decide ((0 : Int) ≤ x6)) && (decide (x6 < (a0.length : Int))))
 (kr (((a0.getD (x6.toNat) ([], ([], ()))).2).1))
 none)
 (rec (IntKind.wrap .i64 (x6 + (1 : Int)))))
 none)
 (ke0))
noncomputable def laws_a2Get_l0_L (kr : (List Int) → Option (shDen laws_a2Get_sh)) (ke0 : Option (shDen laws_a2Get_sh)) (a0 : (List (List Int × (List Int × Unit)))) (a1 : List Int) : Nat → Int → Option (shDen laws_a2Get_sh)
 | 0 => fun _ => none
 | n + 1 => laws_a2Get_l0_b (laws_a2Get_l0_L kr ke0 a0 a1 n) kr ke0 a0 a1
noncomputable def laws_a2Get_r (a0 : (List (List Int × (List Int × Unit)))) (a1 : List Int) : Option (shDen laws_a2Get_sh) :=
 (laws_a2Get_l0_L (fun x4 => (some (x4, true))) (some ([], false)) a0 a1 FUEL (0 : Int))
theorem laws_a2Get_l0_round (k : Nat) (K : Ex → St → Option (shDen laws_a2Get_sh)) (n : Nat) (a0 : (List (List Int × (List Int × Unit)))) (a1 : List Int) (x6 : Int) : (loopK (laws_a2Get_cx k) 0 (execK (laws_a2Get_cx k) (callK (laws_a2Get_cx k) 8) 0 10 (sub laws_a2Get_c [1, 0, 1, 0, 0])) laws_a2Get_l0_cut K (n + 1) (laws_a2Get_l0_s a0 a1 x6) : Option (shDen laws_a2Get_sh)) =
 ((cond (decide (x6 < (a0.length : Int)))
 (cond ((decide ((0 : Int) ≤ x6)) && (decide (x6 < (a0.length : Int))))
 (cond (decide ((a0.getD (x6.toNat) ([], ([], ()))).1 = a1))
 (cond ((decide ((0 : Int) ≤ x6)) && (decide (x6 < (a0.length : Int))))
 (K .ret (laws_a2Get_l0_o (((a0.getD (x6.toNat) ([], ([], ()))).2).1)))
 none)
 (loopK (laws_a2Get_cx k) 0 (execK (laws_a2Get_cx k) (callK (laws_a2Get_cx k) 8) 0 10 (sub laws_a2Get_c [1, 0, 1, 0, 0])) laws_a2Get_l0_cut K n (laws_a2Get_l0_s a0 a1 (IntKind.wrap .i64 (x6 + (1 : Int))))))
 none)
 (K (.exit 0) (laws_a2Get_l0_o0 ))) : Option (shDen laws_a2Get_sh)) := by kernel_rfl

theorem laws_a2Get_l0_ret (k : Nat)  (x4 : List Int) : ((blkK 0 (seqK (execK (laws_a2Get_cx k) (callK (laws_a2Get_cx k) 8) 0 10 (sub laws_a2Get_c [1, 1])) (finK (laws_a2Get_cx k) laws_a2Get_i laws_a2Get_sh))) .ret (laws_a2Get_l0_o x4) : Option (shDen laws_a2Get_sh)) =
 ((some (x4, true)) : Option (shDen laws_a2Get_sh)) := by kernel_rfl

theorem laws_a2Get_l0_exit0 (k : Nat)   : ((blkK 0 (seqK (execK (laws_a2Get_cx k) (callK (laws_a2Get_cx k) 8) 0 10 (sub laws_a2Get_c [1, 1])) (finK (laws_a2Get_cx k) laws_a2Get_i laws_a2Get_sh))) (.exit 0) (laws_a2Get_l0_o0) : Option (shDen laws_a2Get_sh)) =
 ((some ([], false)) : Option (shDen laws_a2Get_sh)) := by kernel_rfl

theorem laws_a2Get_l0_congr (kr : (List Int) → Option (shDen laws_a2Get_sh)) (ke0 : Option (shDen laws_a2Get_sh)) (kr' : (List Int) → Option (shDen laws_a2Get_sh)) (ke0' : Option (shDen laws_a2Get_sh)) (a0 : (List (List Int × (List Int × Unit)))) (a1 : List Int) (n : Nat) (x6 : Int) (hkr : ∀ x4, kr x4 = kr' x4) (hke0 : ∀ (_ : Unit), ke0  = ke0' ) : laws_a2Get_l0_L kr ke0 a0 a1 n x6 = laws_a2Get_l0_L kr' ke0' a0 a1 n x6 := by
 have : kr = kr' := (by funext x4; exact hkr x4); subst this; have : ke0 = ke0' := hke0 (); subst this; rfl

theorem laws_a2Get_l0_L_eq (K : Ex → St → Option (shDen laws_a2Get_sh)) (a0 : (List (List Int × (List Int × Unit)))) (a1 : List Int) : ∀ (n : Nat) (x6 : Int), (loopK (laws_a2Get_cx FUEL) 0 (execK (laws_a2Get_cx FUEL) (callK (laws_a2Get_cx FUEL) 8) 0 10 (sub laws_a2Get_c [1, 0, 1, 0, 0])) laws_a2Get_l0_cut K n (laws_a2Get_l0_s a0 a1 x6) : Option (shDen laws_a2Get_sh)) = laws_a2Get_l0_L (fun x4 => K .ret (laws_a2Get_l0_o x4)) (K (.exit 0) (laws_a2Get_l0_o0)) a0 a1 n x6 := by
 intro n
 induction n with
 | zero => intros; rfl
 | succ n ih =>
  intro x6
  exact (laws_a2Get_l0_round FUEL K n a0 a1 x6).trans (condC (condC (condC (condC (rfl) (rfl)) (ih (IntKind.wrap .i64 (x6 + (1 : Int))))) (rfl)) (rfl))

theorem laws_a2Get_start (k : Nat) (a0 : (List (List Int × (List Int × Unit)))) (a1 : List Int) : fnK (laws_a2Get_cx k) 8 10 laws_a2Get_i laws_a2Get_sh [.pv (.slice (.pair .str (.pair .str .unit))) a0, .pv .str a1] =
 ((loopK (laws_a2Get_cx k) 0 (execK (laws_a2Get_cx k) (callK (laws_a2Get_cx k) 8) 0 10 (sub laws_a2Get_c [1, 0, 1, 0, 0])) laws_a2Get_l0_cut (blkK 0 (seqK (execK (laws_a2Get_cx k) (callK (laws_a2Get_cx k) 8) 0 10 (sub laws_a2Get_c [1, 1])) (finK (laws_a2Get_cx k) laws_a2Get_i laws_a2Get_sh))) k (laws_a2Get_l0_s a0 a1 (0 : Int))) : Option (shDen laws_a2Get_sh)) := by kernel_rfl

theorem laws_a2Get_run (a0 : (List (List Int × (List Int × Unit)))) (a1 : List Int) : fnK (laws_a2Get_cx FUEL) 8 10 laws_a2Get_i laws_a2Get_sh [.pv (.slice (.pair .str (.pair .str .unit))) a0, .pv .str a1] = laws_a2Get_r a0 a1 :=
 (laws_a2Get_start FUEL a0 a1).trans ((laws_a2Get_l0_L_eq _ a0 a1 FUEL (0 : Int)).trans (laws_a2Get_l0_congr _ _ _ _ a0 a1 FUEL (0 : Int) (fun x4 => (laws_a2Get_l0_ret FUEL  x4).trans (rfl)) (fun _ => (laws_a2Get_l0_exit0 FUEL  ).trans (rfl))))

noncomputable def laws_a2Get_con : Con := { ps := (.pair (.slice (.pair .str (.pair .str .unit))) (.pair .str .unit)), sh := laws_a2Get_sh, raw := fun x => laws_a2Get_r x.1 x.2.1 }
theorem laws_a2Get_conOk : ConOk Try.prog 10 laws_a2Get_con := con_of_fn (laws_a2Get_tabs FUEL) (depth := 8) laws_a2Get_ok fun x y h => (laws_a2Get_run x.1 x.2.1).trans h

noncomputable def laws_FnMerges_l0_cut : Cut := { keep := [5, 6, 7, 8, 9, 12, 14, 18, 19], stk := [], ids := [400, 420, 460, 510, 511, 591, 670], own := [], outs := [(0, [4], []), (1, [9, 18], [511])] }
noncomputable def laws_FnMerges_inls : List (Nat × Inl) := []
noncomputable def laws_FnMerges_cons : List (Nat × Con) := [(4, laws_a2Long_con), (5, spec_A2Map_con), (6, impl_MergeMaps_con), (7, impl_JoinMaps_con), (8, spec_SameMap_con), (9, spec_ValidEntries_con), (10, laws_a2Get_con)]
noncomputable def laws_FnMerges_taks : List (Nat × ConT) := []
noncomputable def laws_FnMerges_inps : List (Nat × ConI) := []
noncomputable def laws_FnMerges_cuts : List (Nat × List (Nat × Cut)) := [(3, [(0, laws_FnMerges_l0_cut)])]
noncomputable def laws_FnMerges_cx (k : Nat) : Cx := mkCx tys tbytes telem nozero (Ai.look laws_FnMerges_inls) (Ai.look laws_FnMerges_cons) (Ai.look laws_FnMerges_taks) (Ai.look laws_FnMerges_inps) (fun f id => match Ai.look laws_FnMerges_cuts f with | some l => Ai.look l id | none => none) k [] true
theorem laws_FnMerges_tabs (k : Nat) : TabsOk Try.prog (laws_FnMerges_cx k) := ⟨tab_mk tabs_ok _ _ _ _ _ _ _ _, look_all (Q := ConOk Try.prog) _ ⟨laws_a2Long_conOk, spec_A2Map_conOk, impl_MergeMaps_conOk, impl_JoinMaps_conOk, spec_SameMap_conOk, spec_ValidEntries_conOk, laws_a2Get_conOk, trivial⟩, look_all (Q := TakOk Try.prog) _ trivial, look_all (Q := InpOk Try.prog) _ trivial, look_all (Q := InlOk Try.prog) _ trivial, mixed_ok⟩
abbrev laws_FnMerges_sh : List Sh := [.pl .bool]
noncomputable def laws_FnMerges_l0_s (z400 : (List (List Int × (List Int × Unit)))) (z420 : (List (List Int × (List Int × Unit)))) (z460 : (List (List Int × (List Int × Unit)))) (z510 : (List (List Int × (List Int × Unit)))) (z511 : (List (List Int × ((List Int × (Bool × (List Int × (Bool × (List Int × Unit))))) × ((List Int × (Bool × (List Int × (Bool × (List Int × Unit))))) × ((List Int × (Bool × (List Int × (Bool × (List Int × Unit))))) × Unit)))))) (z591 : (List (List Int × ((List Int × (Bool × (List Int × (Bool × (List Int × Unit))))) × ((List Int × (Bool × (List Int × (Bool × (List Int × Unit))))) × ((List Int × (Bool × (List Int × (Bool × (List Int × Unit))))) × Unit)))))) (z670 : (List (List Int × (List Int × Unit)))) (x18 : Int) (x19 : Int) : St := { env := [.dead, .dead, .dead, .dead, .dead, .sl 400 (.pair .str (.pair .str .unit)), .sl 420 (.pair .str (.pair .str .unit)), .sl 460 (.pair .str (.pair .str .unit)), .sl 510 (.pair .str (.pair .str .unit)), .sl 511 (.pair .str (.pair (.pair .str (.pair .bool (.pair .str (.pair .bool (.pair .str .unit))))) (.pair (.pair .str (.pair .bool (.pair .str (.pair .bool (.pair .str .unit))))) (.pair (.pair .str (.pair .bool (.pair .str (.pair .bool (.pair .str .unit))))) .unit)))), .dead, .dead, .sl 591 (.pair .str (.pair (.pair .str (.pair .bool (.pair .str (.pair .bool (.pair .str .unit))))) (.pair (.pair .str (.pair .bool (.pair .str (.pair .bool (.pair .str .unit))))) (.pair (.pair .str (.pair .bool (.pair .str (.pair .bool (.pair .str .unit))))) .unit)))), .dead, .sl 670 (.pair .str (.pair .str .unit)), .dead, .dead, .dead, .pv (.int .i64) x18, .pv (.int .i64) x19, .dead, .dead, .dead, .dead, .dead, .dead, .dead, .dead, .dead, .dead, .dead, .dead, .dead, .dead, .dead, .dead, .dead, .dead, .dead, .dead, .dead, .dead, .dead, .dead, .dead, .dead, .dead, .dead, .dead, .dead, .dead, .dead, .dead, .dead, .dead, .dead, .dead, .dead, .dead, .dead, .dead, .dead, .dead, .dead, .dead, .dead, .dead, .dead, .dead, .dead, .dead, .dead, .dead, .dead, .dead, .dead, .dead, .dead, .dead, .dead, .dead, .dead, .dead, .dead, .dead, .dead, .dead, .dead, .dead, .dead, .dead, .dead, .dead, .dead, .dead, .dead, .dead, .dead, .dead, .dead, .dead, .dead, .dead, .dead, .dead, .dead, .dead, .dead, .dead, .dead, .dead, .dead, .dead, .dead, .dead, .dead, .dead, .dead, .dead, .dead, .dead, .dead, .dead, .dead, .dead, .dead, .dead, .dead, .dead, .dead, .dead, .dead, .dead, .dead, .dead, .dead, .dead, .dead, .dead, .dead, .dead, .dead, .dead, .dead, .dead, .dead, .dead, .dead, .dead, .dead, .dead, .dead, .dead, .dead, .dead, .dead, .dead, .dead, .dead, .dead, .dead, .dead, .dead, .dead, .dead, .dead, .dead, .dead, .dead, .dead, .dead, .dead, .dead, .dead, .dead, .dead, .dead, .dead, .dead, .dead, .dead, .dead, .dead, .dead, .dead, .dead, .dead, .dead, .dead, .dead, .dead, .dead, .dead, .dead, .dead, .dead, .dead, .dead, .dead, .dead, .dead, .dead, .dead, .dead, .dead, .dead, .dead, .dead, .dead, .dead, .dead, .dead, .dead, .dead, .dead, .dead, .dead, .dead, .dead, .dead, .dead, .dead, .dead, .dead, .dead, .dead, .dead, .dead, .dead, .dead, .dead, .dead, .dead, .dead, .dead, .dead, .dead, .dead, .dead, .dead, .dead, .dead, .dead, .dead, .dead, .dead, .dead, .dead, .dead, .dead, .dead, .dead, .dead, .dead, .dead, .dead, .dead, .dead, .dead, .dead, .dead, .dead, .dead, .dead, .dead, .dead, .dead, .dead, .dead, .dead, .dead, .dead, .dead, .dead, .dead, .dead, .dead, .dead, .dead, .dead, .dead, .dead, .dead, .dead, .dead, .dead, .dead, .dead, .dead, .dead, .dead, .dead, .dead, .dead, .dead, .dead, .dead, .dead, .dead], stk := [], heap := [(400, .arr 43 (.pair .str (.pair .str .unit)) z400), (420, .arr 43 (.pair .str (.pair .str .unit)) z420), (460, .arr 43 (.pair .str (.pair .str .unit)) z460), (510, .arr 43 (.pair .str (.pair .str .unit)) z510), (511, .arr 38 (.pair .str (.pair (.pair .str (.pair .bool (.pair .str (.pair .bool (.pair .str .unit))))) (.pair (.pair .str (.pair .bool (.pair .str (.pair .bool (.pair .str .unit))))) (.pair (.pair .str (.pair .bool (.pair .str (.pair .bool (.pair .str .unit))))) .unit)))) z511), (591, .arr 38 (.pair .str (.pair (.pair .str (.pair .bool (.pair .str (.pair .bool (.pair .str .unit))))) (.pair (.pair .str (.pair .bool (.pair .str (.pair .bool (.pair .str .unit))))) (.pair (.pair .str (.pair .bool (.pair .str (.pair .bool (.pair .str .unit))))) .unit)))) z591), (670, .arr 43 (.pair .str (.pair .str .unit)) z670)] }
noncomputable def laws_FnMerges_l0_o  : St := { env := [.dead, .dead, .dead, .dead, .pv .bool false, .dead, .dead, .dead, .dead, .dead, .dead, .dead, .dead, .dead, .dead, .dead, .dead, .dead, .dead, .dead, .dead, .dead, .dead, .dead, .dead, .dead, .dead, .dead, .dead, .dead, .dead, .dead, .dead, .dead, .dead, .dead, .dead, .dead, .dead, .dead, .dead, .dead, .dead, .dead, .dead, .dead, .dead, .dead, .dead, .dead, .dead, .dead, .dead, .dead, .dead, .dead, .dead, .dead, .dead, .dead, .dead, .dead, .dead, .dead, .dead, .dead, .dead, .dead, .dead, .dead, .dead, .dead, .dead, .dead, .dead, .dead, .dead, .dead, .dead, .dead, .dead, .dead, .dead, .dead, .dead, .dead, .dead, .dead, .dead, .dead, .dead, .dead, .dead, .dead, .dead, .dead, .dead, .dead, .dead, .dead, .dead, .dead, .dead, .dead, .dead, .dead, .dead, .dead, .dead, .dead, .dead, .dead, .dead, .dead, .dead, .dead, .dead, .dead, .dead, .dead, .dead, .dead, .dead, .dead, .dead, .dead, .dead, .dead, .dead, .dead, .dead, .dead, .dead, .dead, .dead, .dead, .dead, .dead, .dead, .dead, .dead, .dead, .dead, .dead, .dead, .dead, .dead, .dead, .dead, .dead, .dead, .dead, .dead, .dead, .dead, .dead, .dead, .dead, .dead, .dead, .dead, .dead, .dead, .dead, .dead, .dead, .dead, .dead, .dead, .dead, .dead, .dead, .dead, .dead, .dead, .dead, .dead, .dead, .dead, .dead, .dead, .dead, .dead, .dead, .dead, .dead, .dead, .dead, .dead, .dead, .dead, .dead, .dead, .dead, .dead, .dead, .dead, .dead, .dead, .dead, .dead, .dead, .dead, .dead, .dead, .dead, .dead, .dead, .dead, .dead, .dead, .dead, .dead, .dead, .dead, .dead, .dead, .dead, .dead, .dead, .dead, .dead, .dead, .dead, .dead, .dead, .dead, .dead, .dead, .dead, .dead, .dead, .dead, .dead, .dead, .dead, .dead, .dead, .dead, .dead, .dead, .dead, .dead, .dead, .dead, .dead, .dead, .dead, .dead, .dead, .dead, .dead, .dead, .dead, .dead, .dead, .dead, .dead, .dead, .dead, .dead, .dead, .dead, .dead, .dead, .dead, .dead, .dead, .dead, .dead, .dead, .dead, .dead, .dead, .dead, .dead, .dead, .dead, .dead, .dead, .dead, .dead, .dead, .dead, .dead, .dead, .dead, .dead, .dead, .dead, .dead, .dead, .dead, .dead, .dead, .dead, .dead, .dead, .dead], stk := [], heap := [] }
noncomputable def laws_FnMerges_l0_o0 (z511 : (List (List Int × ((List Int × (Bool × (List Int × (Bool × (List Int × Unit))))) × ((List Int × (Bool × (List Int × (Bool × (List Int × Unit))))) × ((List Int × (Bool × (List Int × (Bool × (List Int × Unit))))) × Unit)))))) (x18 : Int) : St := { env := [.dead, .dead, .dead, .dead, .dead, .dead, .dead, .dead, .dead, .sl 511 (.pair .str (.pair (.pair .str (.pair .bool (.pair .str (.pair .bool (.pair .str .unit))))) (.pair (.pair .str (.pair .bool (.pair .str (.pair .bool (.pair .str .unit))))) (.pair (.pair .str (.pair .bool (.pair .str (.pair .bool (.pair .str .unit))))) .unit)))), .dead, .dead, .dead, .dead, .dead, .dead, .dead, .dead, .pv (.int .i64) x18, .dead, .dead, .dead, .dead, .dead, .dead, .dead, .dead, .dead, .dead, .dead, .dead, .dead, .dead, .dead, .dead, .dead, .dead, .dead, .dead, .dead, .dead, .dead, .dead, .dead, .dead, .dead, .dead, .dead, .dead, .dead, .dead, .dead, .dead, .dead, .dead, .dead, .dead, .dead, .dead, .dead, .dead, .dead, .dead, .dead, .dead, .dead, .dead, .dead, .dead, .dead, .dead, .dead, .dead, .dead, .dead, .dead, .dead, .dead, .dead, .dead, .dead, .dead, .dead, .dead, .dead, .dead, .dead, .dead, .dead, .dead, .dead, .dead, .dead, .dead, .dead, .dead, .dead, .dead, .dead, .dead, .dead, .dead, .dead, .dead, .dead, .dead, .dead, .dead, .dead, .dead, .dead, .dead, .dead, .dead, .dead, .dead, .dead, .dead, .dead, .dead, .dead, .dead, .dead, .dead, .dead, .dead, .dead, .dead, .dead, .dead, .dead, .dead, .dead, .dead, .dead, .dead, .dead, .dead, .dead, .dead, .dead, .dead, .dead, .dead, .dead, .dead, .dead, .dead, .dead, .dead, .dead, .dead, .dead, .dead, .dead, .dead, .dead, .dead, .dead, .dead, .dead, .dead, .dead, .dead, .dead, .dead, .dead, .dead, .dead, .dead, .dead, .dead, .dead, .dead, .dead, .dead, .dead, .dead, .dead, .dead, .dead, .dead, .dead, .dead, .dead, .dead, .dead, .dead, .dead, .dead, .dead, .dead, .dead, .dead, .dead, .dead, .dead, .dead, .dead, .dead, .dead, .dead, .dead, .dead, .dead, .dead, .dead, .dead, .dead, .dead, .dead, .dead, .dead, .dead, .dead, .dead, .dead, .dead, .dead, .dead, .dead, .dead, .dead, .dead, .dead, .dead, .dead, .dead, .dead, .dead, .dead, .dead, .dead, .dead, .dead, .dead, .dead, .dead, .dead, .dead, .dead, .dead, .dead, .dead, .dead, .dead, .dead, .dead, .dead, .dead, .dead, .dead, .dead, .dead, .dead, .dead, .dead, .dead, .dead, .dead, .dead, .dead, .dead, .dead, .dead, .dead, .dead, .dead, .dead, .dead, .dead, .dead, .dead, .dead, .dead, .dead, .dead, .dead, .dead, .dead, .dead, .dead, .dead, .dead, .dead, .dead, .dead, .dead, .dead, .dead, .dead, .dead, .dead, .dead, .dead, .dead, .dead, .dead, .dead], stk := [], heap := [(511, .arr 38 (.pair .str (.pair (.pair .str (.pair .bool (.pair .str (.pair .bool (.pair .str .unit))))) (.pair (.pair .str (.pair .bool (.pair .str (.pair .bool (.pair .str .unit))))) (.pair (.pair .str (.pair .bool (.pair .str (.pair .bool (.pair .str .unit))))) .unit)))) z511)] }
noncomputable def laws_FnMerges_l0_b (rec : (List (List Int × (List Int × Unit))) → (List (List Int × (List Int × Unit))) → (List (List Int × (List Int × Unit))) → (List (List Int × (List Int × Unit))) → (List (List Int × ((List Int × (Bool × (List Int × (Bool × (List Int × Unit))))) × ((List Int × (Bool × (List Int × (Bool × (List Int × Unit))))) × ((List Int × (Bool × (List Int × (Bool × (List Int × Unit))))) × Unit))))) → (List (List Int × ((List Int × (Bool × (List Int × (Bool × (List Int × Unit))))) × ((List Int × (Bool × (List Int × (Bool × (List Int × Unit))))) × ((List Int × (Bool × (List Int × (Bool × (List Int × Unit))))) × Unit))))) → (List (List Int × (List Int × Unit))) → Int → Int → Option (shDen laws_FnMerges_sh)) (kr : Option (shDen laws_FnMerges_sh)) (ke0 : (List (List Int × ((List Int × (Bool × (List Int × (Bool × (List Int × Unit))))) × ((List Int × (Bool × (List Int × (Bool × (List Int × Unit))))) × ((List Int × (Bool × (List Int × (Bool × (List Int × Unit))))) × Unit))))) → Int → Option (shDen laws_FnMerges_sh)) (z400 : (List (List Int × (List Int × Unit)))) (z420 : (List (List Int × (List Int × Unit)))) (z460 : (List (List Int × (List Int × Unit)))) (z510 : (List (List Int × (List Int × Unit)))) (z511 : (List (List Int × ((List Int × (Bool × (List Int × (Bool × (List Int × Unit))))) × ((List Int × (Bool × (List Int × (Bool × (List Int × Unit))))) × ((List Int × (Bool × (List Int × (Bool × (List Int × Unit))))) × Unit)))))) (z591 : (List (List Int × ((List Int × (Bool × (List Int × (Bool × (List Int × Unit))))) × ((List Int × (Bool × (List Int × (Bool × (List Int × Unit))))) × ((List Int × (Bool × (List Int × (Bool × (List Int × Unit))))) × Unit)))))) (z670 : (List (List Int × (List Int × Unit)))) (x18 : Int) (x19 : Int) : Option (shDen laws_FnMerges_sh) :=
 (cond (decide (x19 < (4 : Int)))
 (cond ((decide ((0 : Int) ≤ (IntKind.wrap .i64 (x19 + (1 : Int))))) && (decide ((IntKind.wrap .i64 (x19 + (1 : Int))) ≤ (4 : Int))))
 (cond ((decide ((0 : Int) ≤ x19)) && (decide (x19 ≤ (IntKind.wrap .i64 (x19 + (1 : Int))))))
 (bindO (laws_a2Get_r z400 (cutL [(119 : Int), (120 : Int), (121 : Int), (122 : Int)] (x19.toNat) ((IntKind.wrap .i64 (x19 + (1 : Int))).toNat))) fun (b34 : (List Int × Bool)) => (bindO (laws_a2Get_r z420 (cutL [(119 : Int), (120 : Int), (121 : Int), (122 : Int)] (x19.toNat) ((IntKind.wrap .i64 (x19 + (1 : Int))).toNat))) fun (b35 : (List Int × Bool)) => (bindO (laws_a2Get_r z460 (cutL [(119 : Int), (120 : Int), (121 : Int), (122 : Int)] (x19.toNat) ((IntKind.wrap .i64 (x19 + (1 : Int))).toNat))) fun (b36 : (List Int × Bool)) => (bindO (laws_a2Get_r z510 (cutL [(119 : Int), (120 : Int), (121 : Int), (122 : Int)] (x19.toNat) ((IntKind.wrap .i64 (x19 + (1 : Int))).toNat))) fun (b37 : (List Int × Bool)) => (bindO (laws_a2Get_r z670 (cutL [(119 : Int), (120 : Int), (121 : Int), (122 : Int)] (x19.toNat) ((IntKind.wrap .i64 (x19 + (1 : Int))).toNat))) fun (b38 : (List Int × Bool)) => (bindO (cond (decide (b34.2 = b35.2))
 (some (decide (b34.1 = b35.1)))
 (some false)) fun (b39 : Bool) => (bindO (cond (decide (b34.2 = b36.2))
 (some (decide (b34.1 = b36.1)))
 (some false)) fun (b40 : Bool) => (bindO (cond (decide (b35.2 = b36.2))
 (some (decide (b35.1 = b36.1)))
 (some false)) fun (b41 : Bool) => (bindO (cond b41
 (some true)
 (some b40)) fun (b42 : Bool) => (cond b42
 (bindO (cond (!(decide (b37.1 = b35.1)))
 (some true)
 (some (!(decide (b37.2 = b35.2))))) fun (b43 : Bool) => (cond b43
 (kr)
 (bindO (cond b39
 (some true)
 (cond b40
 (some true)
 (some b41))) fun (b44 : Bool) => (cond b44
 (bindO (cond (!(decide (b38.1 = b37.1)))
 (some true)
 (some (!(decide (b38.2 = b37.2))))) fun (b45 : Bool) => (cond b45
 (kr)
 (rec z400 z420 z460 z510 z511 z591 z670 x18 (IntKind.wrap .i64 (x19 + (1 : Int))))))
 (bindO (cond (decide ((z511.length : Int) ≤ x18))
 (some true)
 (cond ((decide ((0 : Int) ≤ x18)) && (decide (x18 < (z511.length : Int))))
 (cond (!(decide ((z511.getD (x18.toNat) ([], (([], (false, ([], (false, ([], ()))))), (([], (false, ([], (false, ([], ()))))), (([], (false, ([], (false, ([], ()))))), ()))))).1 = (cutL [(119 : Int), (120 : Int), (121 : Int), (122 : Int)] (x19.toNat) ((IntKind.wrap .i64 (x19 + (1 : Int))).toNat)))))
 (some true)
 (cond ((decide ((0 : Int) ≤ x18)) && (decide (x18 < (z511.length : Int))))
 (cond (!(decide ((((((((z511.getD (x18.toNat) ([], (([], (false, ([], (false, ([], ()))))), (([], (false, ([], (false, ([], ()))))), (([], (false, ([], (false, ([], ()))))), ()))))).2).2).1).2).2).2).1 = b35.2)))
 (some true)
 (cond ((decide ((0 : Int) ≤ x18)) && (decide (x18 < (z511.length : Int))))
 (cond (!(decide (((((((((z511.getD (x18.toNat) ([], (([], (false, ([], (false, ([], ()))))), (([], (false, ([], (false, ([], ()))))), (([], (false, ([], (false, ([], ()))))), ()))))).2).2).1).2).2).2).2).1 = b35.1)))
 (some true)
 (cond ((decide ((0 : Int) ≤ x18)) && (decide (x18 < (z511.length : Int))))
 (cond (!(decide ((((((((((z511.getD (x18.toNat) ([], (([], (false, ([], (false, ([], ()))))), (([], (false, ([], (false, ([], ()))))), (([], (false, ([], (false, ([], ()))))), ()))))).2).2).2).1).2).2).2).2).1 = b36.1)))
 (some true)
 (cond ((decide ((0 : Int) ≤ x18)) && (decide (x18 < (z591.length : Int))))
 (cond (!(decide (((((((((z591.getD (x18.toNat) ([], (([], (false, ([], (false, ([], ()))))), (([], (false, ([], (false, ([], ()))))), (([], (false, ([], (false, ([], ()))))), ()))))).2).2).1).2).2).2).2).1 = b36.1)))
 (some true)
 (cond (!b38.2)
 (some true)
 (cond (ltI b38.1 b35.1)
 (some true)
 (cond (ltI b38.1 b36.1)
 (some true)
 (cond (!(decide (b38.1 = b35.1)))
 (some (!(decide (b38.1 = b36.1))))
 (some false))))))
 none))
 none))
 none))
 none))
 none)) fun (b46 : Bool) => (cond b46
 (kr)
 (rec z400 z420 z460 z510 z511 z591 z670 (IntKind.wrap .i64 (x18 + (1 : Int))) (IntKind.wrap .i64 (x19 + (1 : Int))))))))))
 (cond b39
 (bindO (cond (!(decide (b37.1 = b36.1)))
 (some true)
 (some (!(decide (b37.2 = b36.2))))) fun (b47 : Bool) => (cond b47
 (kr)
 (bindO (cond b39
 (some true)
 (cond b40
 (some true)
 (some b41))) fun (b48 : Bool) => (cond b48
 (bindO (cond (!(decide (b38.1 = b37.1)))
 (some true)
 (some (!(decide (b38.2 = b37.2))))) fun (b49 : Bool) => (cond b49
 (kr)
 (rec z400 z420 z460 z510 z511 z591 z670 x18 (IntKind.wrap .i64 (x19 + (1 : Int))))))
 (bindO (cond (decide ((z511.length : Int) ≤ x18))
 (some true)
 (cond ((decide ((0 : Int) ≤ x18)) && (decide (x18 < (z511.length : Int))))
 (cond (!(decide ((z511.getD (x18.toNat) ([], (([], (false, ([], (false, ([], ()))))), (([], (false, ([], (false, ([], ()))))), (([], (false, ([], (false, ([], ()))))), ()))))).1 = (cutL [(119 : Int), (120 : Int), (121 : Int), (122 : Int)] (x19.toNat) ((IntKind.wrap .i64 (x19 + (1 : Int))).toNat)))))
 (some true)
 (cond ((decide ((0 : Int) ≤ x18)) && (decide (x18 < (z511.length : Int))))
 (cond (!(decide ((((((((z511.getD (x18.toNat) ([], (([], (false, ([], (false, ([], ()))))), (([], (false, ([], (false, ([], ()))))), (([], (false, ([], (false, ([], ()))))), ()))))).2).2).1).2).2).2).1 = b35.2)))
 (some true)
 (cond ((decide ((0 : Int) ≤ x18)) && (decide (x18 < (z511.length : Int))))
 (cond (!(decide (((((((((z511.getD (x18.toNat) ([], (([], (false, ([], (false, ([], ()))))), (([], (false, ([], (false, ([], ()))))), (([], (false, ([], (false, ([], ()))))), ()))))).2).2).1).2).2).2).2).1 = b35.1)))
 (some true)
 (cond ((decide ((0 : Int) ≤ x18)) && (decide (x18 < (z511.length : Int))))
 (cond (!(decide ((((((((((z511.getD (x18.toNat) ([], (([], (false, ([], (false, ([], ()))))), (([], (false, ([], (false, ([], ()))))), (([], (false, ([], (false, ([], ()))))), ()))))).2).2).2).1).2).2).2).2).1 = b36.1)))
 (some true)
 (cond ((decide ((0 : Int) ≤ x18)) && (decide (x18 < (z591.length : Int))))
 (cond (!(decide (((((((((z591.getD (x18.toNat) ([], (([], (false, ([], (false, ([], ()))))), (([], (false, ([], (false, ([], ()))))), (([], (false, ([], (false, ([], ()))))), ()))))).2).2).1).2).2).2).2).1 = b36.1)))
 (some true)
 (cond (!b38.2)
 (some true)
 (cond (ltI b38.1 b35.1)
 (some true)
 (cond (ltI b38.1 b36.1)
 (some true)
 (cond (!(decide (b38.1 = b35.1)))
 (some (!(decide (b38.1 = b36.1))))
 (some false))))))
 none))
 none))
 none))
 none))
 none)) fun (b50 : Bool) => (cond b50
 (kr)
 (rec z400 z420 z460 z510 z511 z591 z670 (IntKind.wrap .i64 (x18 + (1 : Int))) (IntKind.wrap .i64 (x19 + (1 : Int))))))))))
 (bindO (cond (!(decide (b37.1 = b34.1)))
 (some true)
 (some (!(decide (b37.2 = b34.2))))) fun (b51 : Bool) => (cond b51
 (kr)
 (bindO (cond b39
 (some true)
 (cond b40
 (some true)
 (some b41))) fun (b52 : Bool) => (cond b52
 (bindO (cond (!(decide (b38.1 = b37.1)))
 (some true)
 (some (!(decide (b38.2 = b37.2))))) fun (b53 : Bool) => (cond b53
 (kr)
 (rec z400 z420 z460 z510 z511 z591 z670 x18 (IntKind.wrap .i64 (x19 + (1 : Int))))))
 (bindO (cond (decide ((z511.length : Int) ≤ x18))
 (some true)
 (cond ((decide ((0 : Int) ≤ x18)) && (decide (x18 < (z511.length : Int))))
 (cond (!(decide ((z511.getD (x18.toNat) ([], (([], (false, ([], (false, ([], ()))))), (([], (false, ([], (false, ([], ()))))), (([], (false, ([], (false, ([], ()))))), ()))))).1 = (cutL [(119 : Int), (120 : Int), (121 : Int), (122 : Int)] (x19.toNat) ((IntKind.wrap .i64 (x19 + (1 : Int))).toNat)))))
 (some true)
 (cond ((decide ((0 : Int) ≤ x18)) && (decide (x18 < (z511.length : Int))))
 (cond (!(decide ((((((((z511.getD (x18.toNat) ([], (([], (false, ([], (false, ([], ()))))), (([], (false, ([], (false, ([], ()))))), (([], (false, ([], (false, ([], ()))))), ()))))).2).2).1).2).2).2).1 = b35.2)))
 (some true)
 (cond ((decide ((0 : Int) ≤ x18)) && (decide (x18 < (z511.length : Int))))
 (cond (!(decide (((((((((z511.getD (x18.toNat) ([], (([], (false, ([], (false, ([], ()))))), (([], (false, ([], (false, ([], ()))))), (([], (false, ([], (false, ([], ()))))), ()))))).2).2).1).2).2).2).2).1 = b35.1)))
 (some true)
 (cond ((decide ((0 : Int) ≤ x18)) && (decide (x18 < (z511.length : Int))))
 (cond (!(decide ((((((((((z511.getD (x18.toNat) ([], (([], (false, ([], (false, ([], ()))))), (([], (false, ([], (false, ([], ()))))), (([], (false, ([], (false, ([], ()))))), ()))))).2).2).2).1).2).2).2).2).1 = b36.1)))
 (some true)
 (cond ((decide ((0 : Int) ≤ x18)) && (decide (x18 < (z591.length : Int))))
 (cond (!(decide (((((((((z591.getD (x18.toNat) ([], (([], (false, ([], (false, ([], ()))))), (([], (false, ([], (false, ([], ()))))), (([], (false, ([], (false, ([], ()))))), ()))))).2).2).1).2).2).2).2).1 = b36.1)))
 (some true)
 (cond (!b38.2)
 (some true)
 (cond (ltI b38.1 b35.1)
 (some true)
 (cond (ltI b38.1 b36.1)
 (some true)
 (cond (!(decide (b38.1 = b35.1)))
 (some (!(decide (b38.1 = b36.1))))
 (some false))))))
 none))
 none))
 none))
 none))
 none)) fun (b54 : Bool) => (cond b54
 (kr)
 (rec z400 z420 z460 z510 z511 z591 z670 (IntKind.wrap .i64 (x18 + (1 : Int))) (IntKind.wrap .i64 (x19 + (1 : Int)))))))))))))))))))))
 none)
 none)
 (ke0 z511 x18))
noncomputable def laws_FnMerges_l0_L (kr : Option (shDen laws_FnMerges_sh)) (ke0 : (List (List Int × ((List Int × (Bool × (List Int × (Bool × (List Int × Unit))))) × ((List Int × (Bool × (List Int × (Bool × (List Int × Unit))))) × ((List Int × (Bool × (List Int × (Bool × (List Int × Unit))))) × Unit))))) → Int → Option (shDen laws_FnMerges_sh))  : Nat → (List (List Int × (List Int × Unit))) → (List (List Int × (List Int × Unit))) → (List (List Int × (List Int × Unit))) → (List (List Int × (List Int × Unit))) → (List (List Int × ((List Int × (Bool × (List Int × (Bool × (List Int × Unit))))) × ((List Int × (Bool × (List Int × (Bool × (List Int × Unit))))) × ((List Int × (Bool × (List Int × (Bool × (List Int × Unit))))) × Unit))))) → (List (List Int × ((List Int × (Bool × (List Int × (Bool × (List Int × Unit))))) × ((List Int × (Bool × (List Int × (Bool × (List Int × Unit))))) × ((List Int × (Bool × (List Int × (Bool × (List Int × Unit))))) × Unit))))) → (List (List Int × (List Int × Unit))) → Int → Int → Option (shDen laws_FnMerges_sh)
 | 0 => fun _ _ _ _ _ _ _ _ _ => none
 | n + 1 => laws_FnMerges_l0_b (laws_FnMerges_l0_L kr ke0  n) kr ke0 
noncomputable def laws_FnMerges_r (a0 : (List Int)) (a1 : (List Int)) : Option (shDen laws_FnMerges_sh) :=
 (bindO (laws_a2Long_r a0 a1) fun (b1 : Bool) => (cond b1
 (some true)
 (bindO (spec_A2Map_r a0) fun (b2 : (List (List Int × (List Int × Unit)))) => (bindO (spec_A2Map_r a1) fun (b3 : (List (List Int × (List Int × Unit)))) => (cond (decide ((1 + a1.length) * 1 ≤ 140737488355328) && decide (1 + a1.length ≤ 9223372036854775807))
 (bindO (spec_A2Map_r ([(6 : Int)] ++ a1)) fun (b4 : (List (List Int × (List Int × Unit)))) => (bindO (impl_MergeMaps_r b2 b3 b4) fun (b5 : ((List (List Int × (List Int × Unit))) × ((List (List Int × ((List Int × (Bool × (List Int × (Bool × (List Int × Unit))))) × ((List Int × (Bool × (List Int × (Bool × (List Int × Unit))))) × ((List Int × (Bool × (List Int × (Bool × (List Int × Unit))))) × Unit))))) × Int))) => (bindO (impl_MergeMaps_r b2 b4 b3) fun (b6 : ((List (List Int × (List Int × Unit))) × ((List (List Int × ((List Int × (Bool × (List Int × (Bool × (List Int × Unit))))) × ((List Int × (Bool × (List Int × (Bool × (List Int × Unit))))) × ((List Int × (Bool × (List Int × (Bool × (List Int × Unit))))) × Unit))))) × Int))) => (bindO (impl_JoinMaps_r b2 b3 b4) fun (b7 : ((List (List Int × (List Int × Unit))) × Int)) => (bindO (impl_JoinMaps_r b2 b4 b3) fun (b8 : ((List (List Int × (List Int × Unit))) × Int)) => (cond (!(decide (b5.2.2 = (0 : Int))))
 (some false)
 (cond (!(decide (b6.2.2 = (0 : Int))))
 (some false)
 (cond (!(decide (b7.2 = (0 : Int))))
 (some false)
 (cond (!(decide (b8.2 = (0 : Int))))
 (some false)
 (bindO (spec_SameMap_r b5.1 b6.1) fun (b9 : Bool) => (cond (!b9)
 (some false)
 (cond (!(decide ((b5.2.1.length : Int) = (b6.2.1.length : Int))))
 (some false)
 (bindO (spec_SameMap_r b7.1 b8.1) fun (b10 : Bool) => (cond (!b10)
 (some false)
 (bindO (spec_ValidEntries_r b5.1) fun (b11 : Bool) => (cond (!b11)
 (some false)
 (bindO (spec_ValidEntries_r b7.1) fun (b12 : Bool) => (cond (!b12)
 (some false)
 (laws_FnMerges_l0_L (some false) (fun z511 x18 => (some (decide (x18 = (z511.length : Int))))) FUEL b2 b3 b4 b5.1 b5.2.1 b6.2.1 b7.1 (0 : Int) (0 : Int))))))))))))))))))))
 none)))))
theorem laws_FnMerges_l0_round (k : Nat) (K : Ex → St → Option (shDen laws_FnMerges_sh)) (n : Nat) (z400 : (List (List Int × (List Int × Unit)))) (z420 : (List (List Int × (List Int × Unit)))) (z460 : (List (List Int × (List Int × Unit)))) (z510 : (List (List Int × (List Int × Unit)))) (z511 : (List (List Int × ((List Int × (Bool × (List Int × (Bool × (List Int × Unit))))) × ((List Int × (Bool × (List Int × (Bool × (List Int × Unit))))) × ((List Int × (Bool × (List Int × (Bool × (List Int × Unit))))) × Unit)))))) (z591 : (List (List Int × ((List Int × (Bool × (List Int × (Bool × (List Int × Unit))))) × ((List Int × (Bool × (List Int × (Bool × (List Int × Unit))))) × ((List Int × (Bool × (List Int × (Bool × (List Int × Unit))))) × Unit)))))) (z670 : (List (List Int × (List Int × Unit)))) (x18 : Int) (x19 : Int) : (loopK (laws_FnMerges_cx k) 0 (execK (laws_FnMerges_cx k) (callK (laws_FnMerges_cx k) 8) 0 3 (sub laws_FnMerges_c [1, 1, 1, 1, 1, 1, 1, 1, 1, 1, 1, 0, 1, 0, 0])) laws_FnMerges_l0_cut K (n + 1) (laws_FnMerges_l0_s z400 z420 z460 z510 z511 z591 z670 x18 x19) : Option (shDen laws_FnMerges_sh)) =
 ((cond (decide (x19 < (4 : Int)))
 (cond ((decide ((0 : Int) ≤ (IntKind.wrap .i64 (x19 + (1 : Int))))) && (decide ((IntKind.wrap .i64 (x19 + (1 : Int))) ≤ (4 : Int))))
 (cond ((decide ((0 : Int) ≤ x19)) && (decide (x19 ≤ (IntKind.wrap .i64 (x19 + (1 : Int))))))
 (bindO (laws_a2Get_r z400 (cutL [(119 : Int), (120 : Int), (121 : Int), (122 : Int)] (x19.toNat) ((IntKind.wrap .i64 (x19 + (1 : Int))).toNat))) fun (b34 : (List Int × Bool)) => (bindO (laws_a2Get_r z420 (cutL [(119 : Int), (120 : Int), (121 : Int), (122 : Int)] (x19.toNat) ((IntKind.wrap .i64 (x19 + (1 : Int))).toNat))) fun (b35 : (List Int × Bool)) => (bindO (laws_a2Get_r z460 (cutL [(119 : Int), (120 : Int), (121 : Int), (122 : Int)] (x19.toNat) ((IntKind.wrap .i64 (x19 + (1 : Int))).toNat))) fun (b36 : (List Int × Bool)) => (bindO (laws_a2Get_r z510 (cutL [(119 : Int), (120 : Int), (121 : Int), (122 : Int)] (x19.toNat) ((IntKind.wrap .i64 (x19 + (1 : Int))).toNat))) fun (b37 : (List Int × Bool)) => (bindO (laws_a2Get_r z670 (cutL [(119 : Int), (120 : Int), (121 : Int), (122 : Int)] (x19.toNat) ((IntKind.wrap .i64 (x19 + (1 : Int))).toNat))) fun (b38 : (List Int × Bool)) => (bindO (cond (decide (b34.2 = b35.2))
 (some (decide (b34.1 = b35.1)))
 (some false)) fun (b39 : Bool) => (bindO (cond (decide (b34.2 = b36.2))
 (some (decide (b34.1 = b36.1)))
 (some false)) fun (b40 : Bool) => (bindO (cond (decide (b35.2 = b36.2))
 (some (decide (b35.1 = b36.1)))
 (some false)) fun (b41 : Bool) => (bindO (cond b41
 (some true)
 (some b40)) fun (b42 : Bool) => (cond b42
 (bindO (cond (!(decide (b37.1 = b35.1)))
 (some true)
 (some (!(decide (b37.2 = b35.2))))) fun (b43 : Bool) => (cond b43
 (K .ret (laws_FnMerges_l0_o ))
 (bindO (cond b39
 (some true)
 (cond b40
 (some true)
 (some b41))) fun (b44 : Bool) => (cond b44
 (bindO (cond (!(decide (b38.1 = b37.1)))
 (some true)
 (some (!(decide (b38.2 = b37.2))))) fun (b45 : Bool) => (cond b45
 (K .ret (laws_FnMerges_l0_o ))
 (loopK (laws_FnMerges_cx k) 0 (execK (laws_FnMerges_cx k) (callK (laws_FnMerges_cx k) 8) 0 3 (sub laws_FnMerges_c [1, 1, 1, 1, 1, 1, 1, 1, 1, 1, 1, 0, 1, 0, 0])) laws_FnMerges_l0_cut K n (laws_FnMerges_l0_s z400 z420 z460 z510 z511 z591 z670 x18 (IntKind.wrap .i64 (x19 + (1 : Int)))))))
 (execK (laws_FnMerges_cx k) (callK (laws_FnMerges_cx k) 8) 0 3 (sub laws_FnMerges_c [1, 1, 1, 1, 1, 1, 1, 1, 1, 1, 1, 0, 1, 0, 0, 1, 0, 0, 1, 1, 1, 1, 1, 1, 1, 1, 1, 1, 1, 1, 1, 1, 0, 0]) ({ env := [.dead, .dead, .dead, .dead, .dead, .sl 400 (.pair .str (.pair .str .unit)), .sl 420 (.pair .str (.pair .str .unit)), .sl 460 (.pair .str (.pair .str .unit)), .sl 510 (.pair .str (.pair .str .unit)), .sl 511 (.pair .str (.pair (.pair .str (.pair .bool (.pair .str (.pair .bool (.pair .str .unit))))) (.pair (.pair .str (.pair .bool (.pair .str (.pair .bool (.pair .str .unit))))) (.pair (.pair .str (.pair .bool (.pair .str (.pair .bool (.pair .str .unit))))) .unit)))), .dead, .dead, .sl 591 (.pair .str (.pair (.pair .str (.pair .bool (.pair .str (.pair .bool (.pair .str .unit))))) (.pair (.pair .str (.pair .bool (.pair .str (.pair .bool (.pair .str .unit))))) (.pair (.pair .str (.pair .bool (.pair .str (.pair .bool (.pair .str .unit))))) .unit)))), .dead, .sl 670 (.pair .str (.pair .str .unit)), .dead, .dead, .dead, .pv (.int .i64) x18, .pv (.int .i64) x19, .pv .str (cutL [(119 : Int), (120 : Int), (121 : Int), (122 : Int)] (x19.toNat) ((IntKind.wrap .i64 (x19 + (1 : Int))).toNat)), .pv .str b34.1, .pv .bool b34.2, .pv .str b35.1, .pv .bool b35.2, .pv .str b36.1, .pv .bool b36.2, .pv .str b37.1, .pv .bool b37.2, .pv .str b38.1, .pv .bool b38.2, .pv .bool b39, .pv .bool b40, .pv .bool b41, .pv .str b35.1, .pv .bool b35.2, .dead, .dead, .dead, .dead, .dead, .dead, .dead, .dead, .dead, .dead, .dead, .dead, .dead, .dead, .dead, .dead, .dead, .dead, .dead, .dead, .dead, .dead, .dead, .dead, .dead, .dead, .dead, .dead, .dead, .dead, .dead, .dead, .dead, .dead, .dead, .dead, .dead, .dead, .dead, .dead, .dead, .dead, .dead, .dead, .dead, .dead, .dead, .dead, .dead, .dead, .dead, .dead, .dead, .dead, .dead, .dead, .dead, .dead, .dead, .dead, .dead, .dead, .dead, .dead, .dead, .dead, .dead, .dead, .dead, .dead, .dead, .dead, .dead, .dead, .dead, .dead, .dead, .dead, .dead, .dead, .dead, .dead, .dead, .dead, .dead, .pv .bool true, .dead, .dead, .dead, .dead, .dead, .dead, .tup (.pr (.pv .str b34.1) (.pr (.pv .bool b34.2) (.pv .unit ()))), .sl 400 (.pair .str (.pair .str .unit)), .pv .str (cutL [(119 : Int), (120 : Int), (121 : Int), (122 : Int)] (x19.toNat) ((IntKind.wrap .i64 (x19 + (1 : Int))).toNat)), .tup (.pr (.pv .str b34.1) (.pr (.pv .bool b34.2) (.pv .unit ()))), .pv .str b34.1, .pv .bool b34.2, .tup (.pr (.pv .str b35.1) (.pr (.pv .bool b35.2) (.pv .unit ()))), .sl 420 (.pair .str (.pair .str .unit)), .pv .str (cutL [(119 : Int), (120 : Int), (121 : Int), (122 : Int)] (x19.toNat) ((IntKind.wrap .i64 (x19 + (1 : Int))).toNat)), .tup (.pr (.pv .str b35.1) (.pr (.pv .bool b35.2) (.pv .unit ()))), .pv .str b35.1, .pv .bool b35.2, .tup (.pr (.pv .str b36.1) (.pr (.pv .bool b36.2) (.pv .unit ()))), .sl 460 (.pair .str (.pair .str .unit)), .pv .str (cutL [(119 : Int), (120 : Int), (121 : Int), (122 : Int)] (x19.toNat) ((IntKind.wrap .i64 (x19 + (1 : Int))).toNat)), .tup (.pr (.pv .str b36.1) (.pr (.pv .bool b36.2) (.pv .unit ()))), .pv .str b36.1, .pv .bool b36.2, .tup (.pr (.pv .str b37.1) (.pr (.pv .bool b37.2) (.pv .unit ()))), .sl 510 (.pair .str (.pair .str .unit)), .pv .str (cutL [(119 : Int), (120 : Int), (121 : Int), (122 : Int)] (x19.toNat) ((IntKind.wrap .i64 (x19 + (1 : Int))).toNat)), .tup (.pr (.pv .str b37.1) (.pr (.pv .bool b37.2) (.pv .unit ()))), .pv .str b37.1, .pv .bool b37.2, .tup (.pr (.pv .str b38.1) (.pr (.pv .bool b38.2) (.pv .unit ()))), .sl 670 (.pair .str (.pair .str .unit)), .pv .str (cutL [(119 : Int), (120 : Int), (121 : Int), (122 : Int)] (x19.toNat) ((IntKind.wrap .i64 (x19 + (1 : Int))).toNat)), .tup (.pr (.pv .str b38.1) (.pr (.pv .bool b38.2) (.pv .unit ()))), .pv .str b38.1, .pv .bool b38.2, .dead, .dead, .dead, .dead, .dead, .dead, .dead, .dead, .dead, .dead, .dead, .dead, .dead, .dead, .dead, .dead, .dead, .dead, .dead, .dead, .dead, .dead, .dead, .dead, .dead, .dead, .dead, .dead, .dead, .pv .bool true, .dead, .dead, .dead, .dead, .dead, .dead, .dead, .dead, .dead, .dead, .dead, .dead, .pv .bool false, .dead, .dead, .dead, .dead, .dead, .dead, .pv .bool false, .dead, .dead, .dead, .dead, .dead, .dead, .dead, .dead, .dead, .dead, .dead, .dead, .dead, .dead, .dead, .dead, .dead, .dead, .dead, .dead, .dead, .dead, .dead, .dead, .dead, .dead, .dead, .dead, .dead, .dead, .dead, .dead, .dead, .dead, .dead, .dead, .dead, .dead, .dead, .dead, .dead, .dead, .dead, .dead, .dead, .dead, .dead, .dead, .dead, .dead, .dead, .dead, .dead, .dead, .dead, .dead, .dead, .dead, .dead, .dead, .dead, .dead, .dead, .dead, .dead, .dead, .dead, .dead, .dead, .dead, .dead, .dead, .dead, .dead, .dead, .dead, .dead, .dead, .dead, .dead, .dead, .dead, .dead, .dead, .dead, .dead, .dead, .dead, .dead, .dead, .dead], stk := [], heap := [(400, .arr 43 (.pair .str (.pair .str .unit)) z400), (420, .arr 43 (.pair .str (.pair .str .unit)) z420), (460, .arr 43 (.pair .str (.pair .str .unit)) z460), (510, .arr 43 (.pair .str (.pair .str .unit)) z510), (511, .arr 38 (.pair .str (.pair (.pair .str (.pair .bool (.pair .str (.pair .bool (.pair .str .unit))))) (.pair (.pair .str (.pair .bool (.pair .str (.pair .bool (.pair .str .unit))))) (.pair (.pair .str (.pair .bool (.pair .str (.pair .bool (.pair .str .unit))))) .unit)))) z511), (591, .arr 38 (.pair .str (.pair (.pair .str (.pair .bool (.pair .str (.pair .bool (.pair .str .unit))))) (.pair (.pair .str (.pair .bool (.pair .str (.pair .bool (.pair .str .unit))))) (.pair (.pair .str (.pair .bool (.pair .str (.pair .bool (.pair .str .unit))))) .unit)))) z591), (670, .arr 43 (.pair .str (.pair .str .unit)) z670)] }) (seqK (execK (laws_FnMerges_cx k) (callK (laws_FnMerges_cx k) 8) 0 3 (sub laws_FnMerges_c [1, 1, 1, 1, 1, 1, 1, 1, 1, 1, 1, 0, 1, 0, 0, 1, 0, 0, 1, 1, 1, 1, 1, 1, 1, 1, 1, 1, 1, 1, 1, 1, 0, 1])) (seqK (execK (laws_FnMerges_cx k) (callK (laws_FnMerges_cx k) 8) 0 3 (sub laws_FnMerges_c [1, 1, 1, 1, 1, 1, 1, 1, 1, 1, 1, 0, 1, 0, 0, 1, 0, 0, 1, 1, 1, 1, 1, 1, 1, 1, 1, 1, 1, 1, 1, 1, 1])) (blkK 1 (seqK (execK (laws_FnMerges_cx k) (callK (laws_FnMerges_cx k) 8) 0 3 (sub laws_FnMerges_c [1, 1, 1, 1, 1, 1, 1, 1, 1, 1, 1, 0, 1, 0, 0, 1, 1])) (iterK (laws_FnMerges_cx k) 0 laws_FnMerges_l0_cut (loopK (laws_FnMerges_cx k) 0 (execK (laws_FnMerges_cx k) (callK (laws_FnMerges_cx k) 8) 0 3 (sub laws_FnMerges_c [1, 1, 1, 1, 1, 1, 1, 1, 1, 1, 1, 0, 1, 0, 0])) laws_FnMerges_l0_cut K n) K))))))))))
 (cond b39
 (bindO (cond (!(decide (b37.1 = b36.1)))
 (some true)
 (some (!(decide (b37.2 = b36.2))))) fun (b47 : Bool) => (cond b47
 (K .ret (laws_FnMerges_l0_o ))
 (bindO (cond b39
 (some true)
 (cond b40
 (some true)
 (some b41))) fun (b48 : Bool) => (cond b48
 (bindO (cond (!(decide (b38.1 = b37.1)))
 (some true)
 (some (!(decide (b38.2 = b37.2))))) fun (b49 : Bool) => (cond b49
 (K .ret (laws_FnMerges_l0_o ))
 (loopK (laws_FnMerges_cx k) 0 (execK (laws_FnMerges_cx k) (callK (laws_FnMerges_cx k) 8) 0 3 (sub laws_FnMerges_c [1, 1, 1, 1, 1, 1, 1, 1, 1, 1, 1, 0, 1, 0, 0])) laws_FnMerges_l0_cut K n (laws_FnMerges_l0_s z400 z420 z460 z510 z511 z591 z670 x18 (IntKind.wrap .i64 (x19 + (1 : Int)))))))
 (execK (laws_FnMerges_cx k) (callK (laws_FnMerges_cx k) 8) 0 3 (sub laws_FnMerges_c [1, 1, 1, 1, 1, 1, 1, 1, 1, 1, 1, 0, 1, 0, 0, 1, 0, 0, 1, 1, 1, 1, 1, 1, 1, 1, 1, 1, 1, 1, 1, 1, 0, 0]) ({ env := [.dead, .dead, .dead, .dead, .dead, .sl 400 (.pair .str (.pair .str .unit)), .sl 420 (.pair .str (.pair .str .unit)), .sl 460 (.pair .str (.pair .str .unit)), .sl 510 (.pair .str (.pair .str .unit)), .sl 511 (.pair .str (.pair (.pair .str (.pair .bool (.pair .str (.pair .bool (.pair .str .unit))))) (.pair (.pair .str (.pair .bool (.pair .str (.pair .bool (.pair .str .unit))))) (.pair (.pair .str (.pair .bool (.pair .str (.pair .bool (.pair .str .unit))))) .unit)))), .dead, .dead, .sl 591 (.pair .str (.pair (.pair .str (.pair .bool (.pair .str (.pair .bool (.pair .str .unit))))) (.pair (.pair .str (.pair .bool (.pair .str (.pair .bool (.pair .str .unit))))) (.pair (.pair .str (.pair .bool (.pair .str (.pair .bool (.pair .str .unit))))) .unit)))), .dead, .sl 670 (.pair .str (.pair .str .unit)), .dead, .dead, .dead, .pv (.int .i64) x18, .pv (.int .i64) x19, .pv .str (cutL [(119 : Int), (120 : Int), (121 : Int), (122 : Int)] (x19.toNat) ((IntKind.wrap .i64 (x19 + (1 : Int))).toNat)), .pv .str b34.1, .pv .bool b34.2, .pv .str b35.1, .pv .bool b35.2, .pv .str b36.1, .pv .bool b36.2, .pv .str b37.1, .pv .bool b37.2, .pv .str b38.1, .pv .bool b38.2, .pv .bool b39, .pv .bool b40, .pv .bool b41, .pv .str b36.1, .pv .bool b36.2, .dead, .dead, .dead, .dead, .dead, .dead, .dead, .dead, .dead, .dead, .dead, .dead, .dead, .dead, .dead, .dead, .dead, .dead, .dead, .dead, .dead, .dead, .dead, .dead, .dead, .dead, .dead, .dead, .dead, .dead, .dead, .dead, .dead, .dead, .dead, .dead, .dead, .dead, .dead, .dead, .dead, .dead, .dead, .dead, .dead, .dead, .dead, .dead, .dead, .dead, .dead, .dead, .dead, .dead, .dead, .dead, .dead, .dead, .dead, .dead, .dead, .dead, .dead, .dead, .dead, .dead, .dead, .dead, .dead, .dead, .dead, .dead, .dead, .dead, .dead, .dead, .dead, .dead, .dead, .dead, .dead, .dead, .dead, .dead, .dead, .pv .bool true, .dead, .dead, .dead, .dead, .dead, .dead, .tup (.pr (.pv .str b34.1) (.pr (.pv .bool b34.2) (.pv .unit ()))), .sl 400 (.pair .str (.pair .str .unit)), .pv .str (cutL [(119 : Int), (120 : Int), (121 : Int), (122 : Int)] (x19.toNat) ((IntKind.wrap .i64 (x19 + (1 : Int))).toNat)), .tup (.pr (.pv .str b34.1) (.pr (.pv .bool b34.2) (.pv .unit ()))), .pv .str b34.1, .pv .bool b34.2, .tup (.pr (.pv .str b35.1) (.pr (.pv .bool b35.2) (.pv .unit ()))), .sl 420 (.pair .str (.pair .str .unit)), .pv .str (cutL [(119 : Int), (120 : Int), (121 : Int), (122 : Int)] (x19.toNat) ((IntKind.wrap .i64 (x19 + (1 : Int))).toNat)), .tup (.pr (.pv .str b35.1) (.pr (.pv .bool b35.2) (.pv .unit ()))), .pv .str b35.1, .pv .bool b35.2, .tup (.pr (.pv .str b36.1) (.pr (.pv .bool b36.2) (.pv .unit ()))), .sl 460 (.pair .str (.pair .str .unit)), .pv .str (cutL [(119 : Int), (120 : Int), (121 : Int), (122 : Int)] (x19.toNat) ((IntKind.wrap .i64 (x19 + (1 : Int))).toNat)), .tup (.pr (.pv .str b36.1) (.pr (.pv .bool b36.2) (.pv .unit ()))), .pv .str b36.1, .pv .bool b36.2, .tup (.pr (.pv .str b37.1) (.pr (.pv .bool b37.2) (.pv .unit ()))), .sl 510 (.pair .str (.pair .str .unit)), .pv .str (cutL [(119 : Int), (120 : Int), (121 : Int), (122 : Int)] (x19.toNat) ((IntKind.wrap .i64 (x19 + (1 : Int))).toNat)), .tup (.pr (.pv .str b37.1) (.pr (.pv .bool b37.2) (.pv .unit ()))), .pv .str b37.1, .pv .bool b37.2, .tup (.pr (.pv .str b38.1) (.pr (.pv .bool b38.2) (.pv .unit ()))), .sl 670 (.pair .str (.pair .str .unit)), .pv .str (cutL [(119 : Int), (120 : Int), (121 : Int), (122 : Int)] (x19.toNat) ((IntKind.wrap .i64 (x19 + (1 : Int))).toNat)), .tup (.pr (.pv .str b38.1) (.pr (.pv .bool b38.2) (.pv .unit ()))), .pv .str b38.1, .pv .bool b38.2, .dead, .dead, .dead, .dead, .dead, .dead, .dead, .dead, .dead, .dead, .dead, .dead, .dead, .dead, .dead, .dead, .dead, .dead, .dead, .dead, .dead, .dead, .dead, .dead, .dead, .dead, .dead, .dead, .dead, .pv .bool false, .dead, .dead, .pv .bool true, .dead, .dead, .dead, .dead, .dead, .dead, .dead, .dead, .dead, .pv .bool false, .dead, .dead, .dead, .dead, .dead, .dead, .pv .bool false, .dead, .dead, .dead, .dead, .dead, .dead, .dead, .dead, .dead, .dead, .dead, .dead, .dead, .dead, .dead, .dead, .dead, .dead, .dead, .dead, .dead, .dead, .dead, .dead, .dead, .dead, .dead, .dead, .dead, .dead, .dead, .dead, .dead, .dead, .dead, .dead, .dead, .dead, .dead, .dead, .dead, .dead, .dead, .dead, .dead, .dead, .dead, .dead, .dead, .dead, .dead, .dead, .dead, .dead, .dead, .dead, .dead, .dead, .dead, .dead, .dead, .dead, .dead, .dead, .dead, .dead, .dead, .dead, .dead, .dead, .dead, .dead, .dead, .dead, .dead, .dead, .dead, .dead, .dead, .dead, .dead, .dead, .dead, .dead, .dead, .dead, .dead, .dead, .dead, .dead, .dead], stk := [], heap := [(400, .arr 43 (.pair .str (.pair .str .unit)) z400), (420, .arr 43 (.pair .str (.pair .str .unit)) z420), (460, .arr 43 (.pair .str (.pair .str .unit)) z460), (510, .arr 43 (.pair .str (.pair .str .unit)) z510), (511, .arr 38 (.pair .str (.pair (.pair .str (.pair .bool (.pair .str (.pair .bool (.pair .str .unit))))) (.pair (.pair .str (.pair .bool (.pair .str (.pair .bool (.pair .str .unit))))) (.pair (.pair .str (.pair .bool (.pair .str (.pair .bool (.pair .str .unit))))) .unit)))) z511), (591, .arr 38 (.pair .str (.pair (.pair .str (.pair .bool (.pair .str (.pair .bool (.pair .str .unit))))) (.pair (.pair .str (.pair .bool (.pair .str (.pair .bool (.pair .str .unit))))) (.pair (.pair .str (.pair .bool (.pair .str (.pair .bool (.pair .str .unit))))) .unit)))) z591), (670, .arr 43 (.pair .str (.pair .str .unit)) z670)] }) (seqK (execK (laws_FnMerges_cx k) (callK (laws_FnMerges_cx k) 8) 0 3 (sub laws_FnMerges_c [1, 1, 1, 1, 1, 1, 1, 1, 1, 1, 1, 0, 1, 0, 0, 1, 0, 0, 1, 1, 1, 1, 1, 1, 1, 1, 1, 1, 1, 1, 1, 1, 0, 1])) (seqK (execK (laws_FnMerges_cx k) (callK (laws_FnMerges_cx k) 8) 0 3 (sub laws_FnMerges_c [1, 1, 1, 1, 1, 1, 1, 1, 1, 1, 1, 0, 1, 0, 0, 1, 0, 0, 1, 1, 1, 1, 1, 1, 1, 1, 1, 1, 1, 1, 1, 1, 1])) (blkK 1 (seqK (execK (laws_FnMerges_cx k) (callK (laws_FnMerges_cx k) 8) 0 3 (sub laws_FnMerges_c [1, 1, 1, 1, 1, 1, 1, 1, 1, 1, 1, 0, 1, 0, 0, 1, 1])) (iterK (laws_FnMerges_cx k) 0 laws_FnMerges_l0_cut (loopK (laws_FnMerges_cx k) 0 (execK (laws_FnMerges_cx k) (callK (laws_FnMerges_cx k) 8) 0 3 (sub laws_FnMerges_c [1, 1, 1, 1, 1, 1, 1, 1, 1, 1, 1, 0, 1, 0, 0])) laws_FnMerges_l0_cut K n) K))))))))))
 (bindO (cond (!(decide (b37.1 = b34.1)))
 (some true)
 (some (!(decide (b37.2 = b34.2))))) fun (b51 : Bool) => (cond b51
 (K .ret (laws_FnMerges_l0_o ))
 (bindO (cond b39
 (some true)
 (cond b40
 (some true)
 (some b41))) fun (b52 : Bool) => (cond b52
 (bindO (cond (!(decide (b38.1 = b37.1)))
 (some true)
 (some (!(decide (b38.2 = b37.2))))) fun (b53 : Bool) => (cond b53
 (K .ret (laws_FnMerges_l0_o ))
 (loopK (laws_FnMerges_cx k) 0 (execK (laws_FnMerges_cx k) (callK (laws_FnMerges_cx k) 8) 0 3 (sub laws_FnMerges_c [1, 1, 1, 1, 1, 1, 1, 1, 1, 1, 1, 0, 1, 0, 0])) laws_FnMerges_l0_cut K n (laws_FnMerges_l0_s z400 z420 z460 z510 z511 z591 z670 x18 (IntKind.wrap .i64 (x19 + (1 : Int)))))))
 (execK (laws_FnMerges_cx k) (callK (laws_FnMerges_cx k) 8) 0 3 (sub laws_FnMerges_c [1, 1, 1, 1, 1, 1, 1, 1, 1, 1, 1, 0, 1, 0, 0, 1, 0, 0, 1, 1, 1, 1, 1, 1, 1, 1, 1, 1, 1, 1, 1, 1, 0, 0]) ({ env := [.dead, .dead, .dead, .dead, .dead, .sl 400 (.pair .str (.pair .str .unit)), .sl 420 (.pair .str (.pair .str .unit)), .sl 460 (.pair .str (.pair .str .unit)), .sl 510 (.pair .str (.pair .str .unit)), .sl 511 (.pair .str (.pair (.pair .str (.pair .bool (.pair .str (.pair .bool (.pair .str .unit))))) (.pair (.pair .str (.pair .bool (.pair .str (.pair .bool (.pair .str .unit))))) (.pair (.pair .str (.pair .bool (.pair .str (.pair .bool (.pair .str .unit))))) .unit)))), .dead, .dead, .sl 591 (.pair .str (.pair (.pair .str (.pair .bool (.pair .str (.pair .bool (.pair .str .unit))))) (.pair (.pair .str (.pair .bool (.pair .str (.pair .bool (.pair .str .unit))))) (.pair (.pair .str (.pair .bool (.pair .str (.pair .bool (.pair .str .unit))))) .unit)))), .dead, .sl 670 (.pair .str (.pair .str .unit)), .dead, .dead, .dead, .pv (.int .i64) x18, .pv (.int .i64) x19, .pv .str (cutL [(119 : Int), (120 : Int), (121 : Int), (122 : Int)] (x19.toNat) ((IntKind.wrap .i64 (x19 + (1 : Int))).toNat)), .pv .str b34.1, .pv .bool b34.2, .pv .str b35.1, .pv .bool b35.2, .pv .str b36.1, .pv .bool b36.2, .pv .str b37.1, .pv .bool b37.2, .pv .str b38.1, .pv .bool b38.2, .pv .bool b39, .pv .bool b40, .pv .bool b41, .pv .str b34.1, .pv .bool b34.2, .dead, .dead, .dead, .dead, .dead, .dead, .dead, .dead, .dead, .dead, .dead, .dead, .dead, .dead, .dead, .dead, .dead, .dead, .dead, .dead, .dead, .dead, .dead, .dead, .dead, .dead, .dead, .dead, .dead, .dead, .dead, .dead, .dead, .dead, .dead, .dead, .dead, .dead, .dead, .dead, .dead, .dead, .dead, .dead, .dead, .dead, .dead, .dead, .dead, .dead, .dead, .dead, .dead, .dead, .dead, .dead, .dead, .dead, .dead, .dead, .dead, .dead, .dead, .dead, .dead, .dead, .dead, .dead, .dead, .dead, .dead, .dead, .dead, .dead, .dead, .dead, .dead, .dead, .dead, .dead, .dead, .dead, .dead, .dead, .dead, .pv .bool true, .dead, .dead, .dead, .dead, .dead, .dead, .tup (.pr (.pv .str b34.1) (.pr (.pv .bool b34.2) (.pv .unit ()))), .sl 400 (.pair .str (.pair .str .unit)), .pv .str (cutL [(119 : Int), (120 : Int), (121 : Int), (122 : Int)] (x19.toNat) ((IntKind.wrap .i64 (x19 + (1 : Int))).toNat)), .tup (.pr (.pv .str b34.1) (.pr (.pv .bool b34.2) (.pv .unit ()))), .pv .str b34.1, .pv .bool b34.2, .tup (.pr (.pv .str b35.1) (.pr (.pv .bool b35.2) (.pv .unit ()))), .sl 420 (.pair .str (.pair .str .unit)), .pv .str (cutL [(119 : Int), (120 : Int), (121 : Int), (122 : Int)] (x19.toNat) ((IntKind.wrap .i64 (x19 + (1 : Int))).toNat)), .tup (.pr (.pv .str b35.1) (.pr (.pv .bool b35.2) (.pv .unit ()))), .pv .str b35.1, .pv .bool b35.2, .tup (.pr (.pv .str b36.1) (.pr (.pv .bool b36.2) (.pv .unit ()))), .sl 460 (.pair .str (.pair .str .unit)), .pv .str (cutL [(119 : Int), (120 : Int), (121 : Int), (122 : Int)] (x19.toNat) ((IntKind.wrap .i64 (x19 + (1 : Int))).toNat)), .tup (.pr (.pv .str b36.1) (.pr (.pv .bool b36.2) (.pv .unit ()))), .pv .str b36.1, .pv .bool b36.2, .tup (.pr (.pv .str b37.1) (.pr (.pv .bool b37.2) (.pv .unit ()))), .sl 510 (.pair .str (.pair .str .unit)), .pv .str (cutL [(119 : Int), (120 : Int), (121 : Int), (122 : Int)] (x19.toNat) ((IntKind.wrap .i64 (x19 + (1 : Int))).toNat)), .tup (.pr (.pv .str b37.1) (.pr (.pv .bool b37.2) (.pv .unit ()))), .pv .str b37.1, .pv .bool b37.2, .tup (.pr (.pv .str b38.1) (.pr (.pv .bool b38.2) (.pv .unit ()))), .sl 670 (.pair .str (.pair .str .unit)), .pv .str (cutL [(119 : Int), (120 : Int), (121 : Int), (122 : Int)] (x19.toNat) ((IntKind.wrap .i64 (x19 + (1 : Int))).toNat)), .tup (.pr (.pv .str b38.1) (.pr (.pv .bool b38.2) (.pv .unit ()))), .pv .str b38.1, .pv .bool b38.2, .dead, .dead, .dead, .dead, .dead, .dead, .dead, .dead, .dead, .dead, .dead, .dead, .dead, .dead, .dead, .dead, .dead, .dead, .dead, .dead, .dead, .dead, .dead, .dead, .dead, .dead, .dead, .dead, .dead, .pv .bool false, .dead, .dead, .pv .bool false, .dead, .dead, .dead, .dead, .dead, .dead, .dead, .dead, .dead, .pv .bool false, .dead, .dead, .dead, .dead, .dead, .dead, .pv .bool false, .dead, .dead, .dead, .dead, .dead, .dead, .dead, .dead, .dead, .dead, .dead, .dead, .dead, .dead, .dead, .dead, .dead, .dead, .dead, .dead, .dead, .dead, .dead, .dead, .dead, .dead, .dead, .dead, .dead, .dead, .dead, .dead, .dead, .dead, .dead, .dead, .dead, .dead, .dead, .dead, .dead, .dead, .dead, .dead, .dead, .dead, .dead, .dead, .dead, .dead, .dead, .dead, .dead, .dead, .dead, .dead, .dead, .dead, .dead, .dead, .dead, .dead, .dead, .dead, .dead, .dead, .dead, .dead, .dead, .dead, .dead, .dead, .dead, .dead, .dead, .dead, .dead, .dead, .dead, .dead, .dead, .dead, .dead, .dead, .dead, .dead, .dead, .dead, .dead, .dead, .dead], stk := [], heap := [(400, .arr 43 (.pair .str (.pair .str .unit)) z400), (420, .arr 43 (.pair .str (.pair .str .unit)) z420), (460, .arr 43 (.pair .str (.pair .str .unit)) z460), (510, .arr 43 (.pair .str (.pair .str .unit)) z510), (511, .arr 38 (.pair .str (.pair (.pair .str (.pair .bool (.pair .str (.pair .bool (.pair .str .unit))))) (.pair (.pair .str (.pair .bool (.pair .str (.pair .bool (.pair .str .unit))))) (.pair (.pair .str (.pair .bool (.pair .str (.pair .bool (.pair .str .unit))))) .unit)))) z511), (591, .arr 38 (.pair .str (.pair (.pair .str (.pair .bool (.pair .str (.pair .bool (.pair .str .unit))))) (.pair (.pair .str (.pair .bool (.pair .str (.pair .bool (.pair .str .unit))))) (.pair (.pair .str (.pair .bool (.pair .str (.pair .bool (.pair .str .unit))))) .unit)))) z591), (670, .arr 43 (.pair .str (.pair .str .unit)) z670)] }) (seqK (execK (laws_FnMerges_cx k) (callK (laws_FnMerges_cx k) 8) 0 3 (sub laws_FnMerges_c [1, 1, 1, 1, 1, 1, 1, 1, 1, 1, 1, 0, 1, 0, 0, 1, 0, 0, 1, 1, 1, 1, 1, 1, 1, 1, 1, 1, 1, 1, 1, 1, 0, 1])) (seqK (execK (laws_FnMerges_cx k) (callK (laws_FnMerges_cx k) 8) 0 3 (sub laws_FnMerges_c [1, 1, 1, 1, 1, 1, 1, 1, 1, 1, 1, 0, 1, 0, 0, 1, 0, 0, 1, 1, 1, 1, 1, 1, 1, 1, 1, 1, 1, 1, 1, 1, 1])) (blkK 1 (seqK (execK (laws_FnMerges_cx k) (callK (laws_FnMerges_cx k) 8) 0 3 (sub laws_FnMerges_c [1, 1, 1, 1, 1, 1, 1, 1, 1, 1, 1, 0, 1, 0, 0, 1, 1])) (iterK (laws_FnMerges_cx k) 0 laws_FnMerges_l0_cut (loopK (laws_FnMerges_cx k) 0 (execK (laws_FnMerges_cx k) (callK (laws_FnMerges_cx k) 8) 0 3 (sub laws_FnMerges_c [1, 1, 1, 1, 1, 1, 1, 1, 1, 1, 1, 0, 1, 0, 0])) laws_FnMerges_l0_cut K n) K)))))))))))))))))))))
 none)
 none)
 (K (.exit 0) (laws_FnMerges_l0_o0 z511 x18))) : Option (shDen laws_FnMerges_sh)) := by kernel_rfl

theorem laws_FnMerges_mid6 (k : Nat) (K : Ex → St → Option (shDen laws_FnMerges_sh)) (n : Nat) (z400 : (List (List Int × (List Int × Unit)))) (z420 : (List (List Int × (List Int × Unit)))) (z460 : (List (List Int × (List Int × Unit)))) (z510 : (List (List Int × (List Int × Unit)))) (z511 : (List (List Int × ((List Int × (Bool × (List Int × (Bool × (List Int × Unit))))) × ((List Int × (Bool × (List Int × (Bool × (List Int × Unit))))) × ((List Int × (Bool × (List Int × (Bool × (List Int × Unit))))) × Unit)))))) (z591 : (List (List Int × ((List Int × (Bool × (List Int × (Bool × (List Int × Unit))))) × ((List Int × (Bool × (List Int × (Bool × (List Int × Unit))))) × ((List Int × (Bool × (List Int × (Bool × (List Int × Unit))))) × Unit)))))) (z670 : (List (List Int × (List Int × Unit)))) (x18 : Int) (x19 : Int) (b34 : (List Int × Bool)) (b35 : (List Int × Bool)) (b36 : (List Int × Bool)) (b37 : (List Int × Bool)) (b38 : (List Int × Bool)) (b39 : Bool) (b40 : Bool) (b41 : Bool) : ((execK (laws_FnMerges_cx k) (callK (laws_FnMerges_cx k) 8) 0 3 (sub laws_FnMerges_c [1, 1, 1, 1, 1, 1, 1, 1, 1, 1, 1, 0, 1, 0, 0, 1, 0, 0, 1, 1, 1, 1, 1, 1, 1, 1, 1, 1, 1, 1, 1, 1, 0, 0]) ({ env := [.dead, .dead, .dead, .dead, .dead, .sl 400 (.pair .str (.pair .str .unit)), .sl 420 (.pair .str (.pair .str .unit)), .sl 460 (.pair .str (.pair .str .unit)), .sl 510 (.pair .str (.pair .str .unit)), .sl 511 (.pair .str (.pair (.pair .str (.pair .bool (.pair .str (.pair .bool (.pair .str .unit))))) (.pair (.pair .str (.pair .bool (.pair .str (.pair .bool (.pair .str .unit))))) (.pair (.pair .str (.pair .bool (.pair .str (.pair .bool (.pair .str .unit))))) .unit)))), .dead, .dead, .sl 591 (.pair .str (.pair (.pair .str (.pair .bool (.pair .str (.pair .bool (.pair .str .unit))))) (.pair (.pair .str (.pair .bool (.pair .str (.pair .bool (.pair .str .unit))))) (.pair (.pair .str (.pair .bool (.pair .str (.pair .bool (.pair .str .unit))))) .unit)))), .dead, .sl 670 (.pair .str (.pair .str .unit)), .dead, .dead, .dead, .pv (.int .i64) x18, .pv (.int .i64) x19, .pv .str (cutL [(119 : Int), (120 : Int), (121 : Int), (122 : Int)] (x19.toNat) ((IntKind.wrap .i64 (x19 + (1 : Int))).toNat)), .pv .str b34.1, .pv .bool b34.2, .pv .str b35.1, .pv .bool b35.2, .pv .str b36.1, .pv .bool b36.2, .pv .str b37.1, .pv .bool b37.2, .pv .str b38.1, .pv .bool b38.2, .pv .bool b39, .pv .bool b40, .pv .bool b41, .pv .str b35.1, .pv .bool b35.2, .dead, .dead, .dead, .dead, .dead, .dead, .dead, .dead, .dead, .dead, .dead, .dead, .dead, .dead, .dead, .dead, .dead, .dead, .dead, .dead, .dead, .dead, .dead, .dead, .dead, .dead, .dead, .dead, .dead, .dead, .dead, .dead, .dead, .dead, .dead, .dead, .dead, .dead, .dead, .dead, .dead, .dead, .dead, .dead, .dead, .dead, .dead, .dead, .dead, .dead, .dead, .dead, .dead, .dead, .dead, .dead, .dead, .dead, .dead, .dead, .dead, .dead, .dead, .dead, .dead, .dead, .dead, .dead, .dead, .dead, .dead, .dead, .dead, .dead, .dead, .dead, .dead, .dead, .dead, .dead, .dead, .dead, .dead, .dead, .dead, .pv .bool true, .dead, .dead, .dead, .dead, .dead, .dead, .tup (.pr (.pv .str b34.1) (.pr (.pv .bool b34.2) (.pv .unit ()))), .sl 400 (.pair .str (.pair .str .unit)), .pv .str (cutL [(119 : Int), (120 : Int), (121 : Int), (122 : Int)] (x19.toNat) ((IntKind.wrap .i64 (x19 + (1 : Int))).toNat)), .tup (.pr (.pv .str b34.1) (.pr (.pv .bool b34.2) (.pv .unit ()))), .pv .str b34.1, .pv .bool b34.2, .tup (.pr (.pv .str b35.1) (.pr (.pv .bool b35.2) (.pv .unit ()))), .sl 420 (.pair .str (.pair .str .unit)), .pv .str (cutL [(119 : Int), (120 : Int), (121 : Int), (122 : Int)] (x19.toNat) ((IntKind.wrap .i64 (x19 + (1 : Int))).toNat)), .tup (.pr (.pv .str b35.1) (.pr (.pv .bool b35.2) (.pv .unit ()))), .pv .str b35.1, .pv .bool b35.2, .tup (.pr (.pv .str b36.1) (.pr (.pv .bool b36.2) (.pv .unit ()))), .sl 460 (.pair .str (.pair .str .unit)), .pv .str (cutL [(119 : Int), (120 : Int), (121 : Int), (122 : Int)] (x19.toNat) ((IntKind.wrap .i64 (x19 + (1 : Int))).toNat)), .tup (.pr (.pv .str b36.1) (.pr (.pv .bool b36.2) (.pv .unit ()))), .pv .str b36.1, .pv .bool b36.2, .tup (.pr (.pv .str b37.1) (.pr (.pv .bool b37.2) (.pv .unit ()))), .sl 510 (.pair .str (.pair .str .unit)), .pv .str (cutL [(119 : Int), (120 : Int), (121 : Int), (122 : Int)] (x19.toNat) ((IntKind.wrap .i64 (x19 + (1 : Int))).toNat)), .tup (.pr (.pv .str b37.1) (.pr (.pv .bool b37.2) (.pv .unit ()))), .pv .str b37.1, .pv .bool b37.2, .tup (.pr (.pv .str b38.1) (.pr (.pv .bool b38.2) (.pv .unit ()))), .sl 670 (.pair .str (.pair .str .unit)), .pv .str (cutL [(119 : Int), (120 : Int), (121 : Int), (122 : Int)] (x19.toNat) ((IntKind.wrap .i64 (x19 + (1 : Int))).toNat)), .tup (.pr (.pv .str b38.1) (.pr (.pv .bool b38.2) (.pv .unit ()))), .pv .str b38.1, .pv .bool b38.2, .dead, .dead, .dead, .dead, .dead, .dead, .dead, .dead, .dead, .dead, .dead, .dead, .dead, .dead, .dead, .dead, .dead, .dead, .dead, .dead, .dead, .dead, .dead, .dead, .dead, .dead, .dead, .dead, .dead, .pv .bool true, .dead, .dead, .dead, .dead, .dead, .dead, .dead, .dead, .dead, .dead, .dead, .dead, .pv .bool false, .dead, .dead, .dead, .dead, .dead, .dead, .pv .bool false, .dead, .dead, .dead, .dead, .dead, .dead, .dead, .dead, .dead, .dead, .dead, .dead, .dead, .dead, .dead, .dead, .dead, .dead, .dead, .dead, .dead, .dead, .dead, .dead, .dead, .dead, .dead, .dead, .dead, .dead, .dead, .dead, .dead, .dead, .dead, .dead, .dead, .dead, .dead, .dead, .dead, .dead, .dead, .dead, .dead, .dead, .dead, .dead, .dead, .dead, .dead, .dead, .dead, .dead, .dead, .dead, .dead, .dead, .dead, .dead, .dead, .dead, .dead, .dead, .dead, .dead, .dead, .dead, .dead, .dead, .dead, .dead, .dead, .dead, .dead, .dead, .dead, .dead, .dead, .dead, .dead, .dead, .dead, .dead, .dead, .dead, .dead, .dead, .dead, .dead, .dead], stk := [], heap := [(400, .arr 43 (.pair .str (.pair .str .unit)) z400), (420, .arr 43 (.pair .str (.pair .str .unit)) z420), (460, .arr 43 (.pair .str (.pair .str .unit)) z460), (510, .arr 43 (.pair .str (.pair .str .unit)) z510), (511, .arr 38 (.pair .str (.pair (.pair .str (.pair .bool (.pair .str (.pair .bool (.pair .str .unit))))) (.pair (.pair .str (.pair .bool (.pair .str (.pair .bool (.pair .str .unit))))) (.pair (.pair .str (.pair .bool (.pair .str (.pair .bool (.pair .str .unit))))) .unit)))) z511), (591, .arr 38 (.pair .str (.pair (.pair .str (.pair .bool (.pair .str (.pair .bool (.pair .str .unit))))) (.pair (.pair .str (.pair .bool (.pair .str (.pair .bool (.pair .str .unit))))) (.pair (.pair .str (.pair .bool (.pair .str (.pair .bool (.pair .str .unit))))) .unit)))) z591), (670, .arr 43 (.pair .str (.pair .str .unit)) z670)] }) (seqK (execK (laws_FnMerges_cx k) (callK (laws_FnMerges_cx k) 8) 0 3 (sub laws_FnMerges_c [1, 1, 1, 1, 1, 1, 1, 1, 1, 1, 1, 0, 1, 0, 0, 1, 0, 0, 1, 1, 1, 1, 1, 1, 1, 1, 1, 1, 1, 1, 1, 1, 0, 1])) (seqK (execK (laws_FnMerges_cx k) (callK (laws_FnMerges_cx k) 8) 0 3 (sub laws_FnMerges_c [1, 1, 1, 1, 1, 1, 1, 1, 1, 1, 1, 0, 1, 0, 0, 1, 0, 0, 1, 1, 1, 1, 1, 1, 1, 1, 1, 1, 1, 1, 1, 1, 1])) (blkK 1 (seqK (execK (laws_FnMerges_cx k) (callK (laws_FnMerges_cx k) 8) 0 3 (sub laws_FnMerges_c [1, 1, 1, 1, 1, 1, 1, 1, 1, 1, 1, 0, 1, 0, 0, 1, 1])) (iterK (laws_FnMerges_cx k) 0 laws_FnMerges_l0_cut (loopK (laws_FnMerges_cx k) 0 (execK (laws_FnMerges_cx k) (callK (laws_FnMerges_cx k) 8) 0 3 (sub laws_FnMerges_c [1, 1, 1, 1, 1, 1, 1, 1, 1, 1, 1, 0, 1, 0, 0])) laws_FnMerges_l0_cut K n) K)))))) : Option (shDen laws_FnMerges_sh)) =
 ((bindO (cond (decide ((z511.length : Int) ≤ x18))
 (some true)
 (cond ((decide ((0 : Int) ≤ x18)) && (decide (x18 < (z511.length : Int))))
 (cond (!(decide ((z511.getD (x18.toNat) ([], (([], (false, ([], (false, ([], ()))))), (([], (false, ([], (false, ([], ()))))), (([], (false, ([], (false, ([], ()))))), ()))))).1 = (cutL [(119 : Int), (120 : Int), (121 : Int), (122 : Int)] (x19.toNat) ((IntKind.wrap .i64 (x19 + (1 : Int))).toNat)))))
 (some true)
 (cond ((decide ((0 : Int) ≤ x18)) && (decide (x18 < (z511.length : Int))))
 (cond (!(decide ((((((((z511.getD (x18.toNat) ([], (([], (false, ([], (false, ([], ()))))), (([], (false, ([], (false, ([], ()))))), (([], (false, ([], (false, ([], ()))))), ()))))).2).2).1).2).2).2).1 = b35.2)))
 (some true)
 (cond ((decide ((0 : Int) ≤ x18)) && (decide (x18 < (z511.length : Int))))
 (cond (!(decide (((((((((z511.getD (x18.toNat) ([], (([], (false, ([], (false, ([], ()))))), (([], (false, ([], (false, ([], ()))))), (([], (false, ([], (false, ([], ()))))), ()))))).2).2).1).2).2).2).2).1 = b35.1)))
 (some true)
 (cond ((decide ((0 : Int) ≤ x18)) && (decide (x18 < (z511.length : Int))))
 (cond (!(decide ((((((((((z511.getD (x18.toNat) ([], (([], (false, ([], (false, ([], ()))))), (([], (false, ([], (false, ([], ()))))), (([], (false, ([], (false, ([], ()))))), ()))))).2).2).2).1).2).2).2).2).1 = b36.1)))
 (some true)
 (cond ((decide ((0 : Int) ≤ x18)) && (decide (x18 < (z591.length : Int))))
 (cond (!(decide (((((((((z591.getD (x18.toNat) ([], (([], (false, ([], (false, ([], ()))))), (([], (false, ([], (false, ([], ()))))), (([], (false, ([], (false, ([], ()))))), ()))))).2).2).1).2).2).2).2).1 = b36.1)))
 (some true)
 (cond (!b38.2)
 (some true)
 (cond (ltI b38.1 b35.1)
 (some true)
 (cond (ltI b38.1 b36.1)
 (some true)
 (cond (!(decide (b38.1 = b35.1)))
 (some (!(decide (b38.1 = b36.1))))
 (some false))))))
 none))
 none))
 none))
 none))
 none)) fun (b46 : Bool) => (cond b46
 (K .ret (laws_FnMerges_l0_o ))
 (loopK (laws_FnMerges_cx k) 0 (execK (laws_FnMerges_cx k) (callK (laws_FnMerges_cx k) 8) 0 3 (sub laws_FnMerges_c [1, 1, 1, 1, 1, 1, 1, 1, 1, 1, 1, 0, 1, 0, 0])) laws_FnMerges_l0_cut K n (laws_FnMerges_l0_s z400 z420 z460 z510 z511 z591 z670 (IntKind.wrap .i64 (x18 + (1 : Int))) (IntKind.wrap .i64 (x19 + (1 : Int))))))) : Option (shDen laws_FnMerges_sh)) := by kernel_rfl

theorem laws_FnMerges_mid12 (k : Nat) (K : Ex → St → Option (shDen laws_FnMerges_sh)) (n : Nat) (z400 : (List (List Int × (List Int × Unit)))) (z420 : (List (List Int × (List Int × Unit)))) (z460 : (List (List Int × (List Int × Unit)))) (z510 : (List (List Int × (List Int × Unit)))) (z511 : (List (List Int × ((List Int × (Bool × (List Int × (Bool × (List Int × Unit))))) × ((List Int × (Bool × (List Int × (Bool × (List Int × Unit))))) × ((List Int × (Bool × (List Int × (Bool × (List Int × Unit))))) × Unit)))))) (z591 : (List (List Int × ((List Int × (Bool × (List Int × (Bool × (List Int × Unit))))) × ((List Int × (Bool × (List Int × (Bool × (List Int × Unit))))) × ((List Int × (Bool × (List Int × (Bool × (List Int × Unit))))) × Unit)))))) (z670 : (List (List Int × (List Int × Unit)))) (x18 : Int) (x19 : Int) (b34 : (List Int × Bool)) (b35 : (List Int × Bool)) (b36 : (List Int × Bool)) (b37 : (List Int × Bool)) (b38 : (List Int × Bool)) (b39 : Bool) (b40 : Bool) (b41 : Bool) : ((execK (laws_FnMerges_cx k) (callK (laws_FnMerges_cx k) 8) 0 3 (sub laws_FnMerges_c [1, 1, 1, 1, 1, 1, 1, 1, 1, 1, 1, 0, 1, 0, 0, 1, 0, 0, 1, 1, 1, 1, 1, 1, 1, 1, 1, 1, 1, 1, 1, 1, 0, 0]) ({ env := [.dead, .dead, .dead, .dead, .dead, .sl 400 (.pair .str (.pair .str .unit)), .sl 420 (.pair .str (.pair .str .unit)), .sl 460 (.pair .str (.pair .str .unit)), .sl 510 (.pair .str (.pair .str .unit)), .sl 511 (.pair .str (.pair (.pair .str (.pair .bool (.pair .str (.pair .bool (.pair .str .unit))))) (.pair (.pair .str (.pair .bool (.pair .str (.pair .bool (.pair .str .unit))))) (.pair (.pair .str (.pair .bool (.pair .str (.pair .bool (.pair .str .unit))))) .unit)))), .dead, .dead, .sl 591 (.pair .str (.pair (.pair .str (.pair .bool (.pair .str (.pair .bool (.pair .str .unit))))) (.pair (.pair .str (.pair .bool (.pair .str (.pair .bool (.pair .str .unit))))) (.pair (.pair .str (.pair .bool (.pair .str (.pair .bool (.pair .str .unit))))) .unit)))), .dead, .sl 670 (.pair .str (.pair .str .unit)), .dead, .dead, .dead, .pv (.int .i64) x18, .pv (.int .i64) x19, .pv .str (cutL [(119 : Int), (120 : Int), (121 : Int), (122 : Int)] (x19.toNat) ((IntKind.wrap .i64 (x19 + (1 : Int))).toNat)), .pv .str b34.1, .pv .bool b34.2, .pv .str b35.1, .pv .bool b35.2, .pv .str b36.1, .pv .bool b36.2, .pv .str b37.1, .pv .bool b37.2, .pv .str b38.1, .pv .bool b38.2, .pv .bool b39, .pv .bool b40, .pv .bool b41, .pv .str b36.1, .pv .bool b36.2, .dead, .dead, .dead, .dead, .dead, .dead, .dead, .dead, .dead, .dead, .dead, .dead, .dead, .dead, .dead, .dead, .dead, .dead, .dead, .dead, .dead, .dead, .dead, .dead, .dead, .dead, .dead, .dead, .dead, .dead, .dead, .dead, .dead, .dead, .dead, .dead, .dead, .dead, .dead, .dead, .dead, .dead, .dead, .dead, .dead, .dead, .dead, .dead, .dead, .dead, .dead, .dead, .dead, .dead, .dead, .dead, .dead, .dead, .dead, .dead, .dead, .dead, .dead, .dead, .dead, .dead, .dead, .dead, .dead, .dead, .dead, .dead, .dead, .dead, .dead, .dead, .dead, .dead, .dead, .dead, .dead, .dead, .dead, .dead, .dead, .pv .bool true, .dead, .dead, .dead, .dead, .dead, .dead, .tup (.pr (.pv .str b34.1) (.pr (.pv .bool b34.2) (.pv .unit ()))), .sl 400 (.pair .str (.pair .str .unit)), .pv .str (cutL [(119 : Int), (120 : Int), (121 : Int), (122 : Int)] (x19.toNat) ((IntKind.wrap .i64 (x19 + (1 : Int))).toNat)), .tup (.pr (.pv .str b34.1) (.pr (.pv .bool b34.2) (.pv .unit ()))), .pv .str b34.1, .pv .bool b34.2, .tup (.pr (.pv .str b35.1) (.pr (.pv .bool b35.2) (.pv .unit ()))), .sl 420 (.pair .str (.pair .str .unit)), .pv .str (cutL [(119 : Int), (120 : Int), (121 : Int), (122 : Int)] (x19.toNat) ((IntKind.wrap .i64 (x19 + (1 : Int))).toNat)), .tup (.pr (.pv .str b35.1) (.pr (.pv .bool b35.2) (.pv .unit ()))), .pv .str b35.1, .pv .bool b35.2, .tup (.pr (.pv .str b36.1) (.pr (.pv .bool b36.2) (.pv .unit ()))), .sl 460 (.pair .str (.pair .str .unit)), .pv .str (cutL [(119 : Int), (120 : Int), (121 : Int), (122 : Int)] (x19.toNat) ((IntKind.wrap .i64 (x19 + (1 : Int))).toNat)), .tup (.pr (.pv .str b36.1) (.pr (.pv .bool b36.2) (.pv .unit ()))), .pv .str b36.1, .pv .bool b36.2, .tup (.pr (.pv .str b37.1) (.pr (.pv .bool b37.2) (.pv .unit ()))), .sl 510 (.pair .str (.pair .str .unit)), .pv .str (cutL [(119 : Int), (120 : Int), (121 : Int), (122 : Int)] (x19.toNat) ((IntKind.wrap .i64 (x19 + (1 : Int))).toNat)), .tup (.pr (.pv .str b37.1) (.pr (.pv .bool b37.2) (.pv .unit ()))), .pv .str b37.1, .pv .bool b37.2, .tup (.pr (.pv .str b38.1) (.pr (.pv .bool b38.2) (.pv .unit ()))), .sl 670 (.pair .str (.pair .str .unit)), .pv .str (cutL [(119 : Int), (120 : Int), (121 : Int), (122 : Int)] (x19.toNat) ((IntKind.wrap .i64 (x19 + (1 : Int))).toNat)), .tup (.pr (.pv .str b38.1) (.pr (.pv .bool b38.2) (.pv .unit ()))), .pv .str b38.1, .pv .bool b38.2, .dead, .dead, .dead, .dead, .dead, .dead, .dead, .dead, .dead, .dead, .dead, .dead, .dead, .dead, .dead, .dead, .dead, .dead, .dead, .dead, .dead, .dead, .dead, .dead, .dead, .dead, .dead, .dead, .dead, .pv .bool false, .dead, .dead, .pv .bool true, .dead, .dead, .dead, .dead, .dead, .dead, .dead, .dead, .dead, .pv .bool false, .dead, .dead, .dead, .dead, .dead, .dead, .pv .bool false, .dead, .dead, .dead, .dead, .dead, .dead, .dead, .dead, .dead, .dead, .dead, .dead, .dead, .dead, .dead, .dead, .dead, .dead, .dead, .dead, .dead, .dead, .dead, .dead, .dead, .dead, .dead, .dead, .dead, .dead, .dead, .dead, .dead, .dead, .dead, .dead, .dead, .dead, .dead, .dead, .dead, .dead, .dead, .dead, .dead, .dead, .dead, .dead, .dead, .dead, .dead, .dead, .dead, .dead, .dead, .dead, .dead, .dead, .dead, .dead, .dead, .dead, .dead, .dead, .dead, .dead, .dead, .dead, .dead, .dead, .dead, .dead, .dead, .dead, .dead, .dead, .dead, .dead, .dead, .dead, .dead, .dead, .dead, .dead, .dead, .dead, .dead, .dead, .dead, .dead, .dead], stk := [], heap := [(400, .arr 43 (.pair .str (.pair .str .unit)) z400), (420, .arr 43 (.pair .str (.pair .str .unit)) z420), (460, .arr 43 (.pair .str (.pair .str .unit)) z460), (510, .arr 43 (.pair .str (.pair .str .unit)) z510), (511, .arr 38 (.pair .str (.pair (.pair .str (.pair .bool (.pair .str (.pair .bool (.pair .str .unit))))) (.pair (.pair .str (.pair .bool (.pair .str (.pair .bool (.pair .str .unit))))) (.pair (.pair .str (.pair .bool (.pair .str (.pair .bool (.pair .str .unit))))) .unit)))) z511), (591, .arr 38 (.pair .str (.pair (.pair .str (.pair .bool (.pair .str (.pair .bool (.pair .str .unit))))) (.pair (.pair .str (.pair .bool (.pair .str (.pair .bool (.pair .str .unit))))) (.pair (.pair .str (.pair .bool (.pair .str (.pair .bool (.pair .str .unit))))) .unit)))) z591), (670, .arr 43 (.pair .str (.pair .str .unit)) z670)] }) (seqK (execK (laws_FnMerges_cx k) (callK (laws_FnMerges_cx k) 8) 0 3 (sub laws_FnMerges_c [1, 1, 1, 1, 1, 1, 1, 1, 1, 1, 1, 0, 1, 0, 0, 1, 0, 0, 1, 1, 1, 1, 1, 1, 1, 1, 1, 1, 1, 1, 1, 1, 0, 1])) (seqK (execK (laws_FnMerges_cx k) (callK (laws_FnMerges_cx k) 8) 0 3 (sub laws_FnMerges_c [1, 1, 1, 1, 1, 1, 1, 1, 1, 1, 1, 0, 1, 0, 0, 1, 0, 0, 1, 1, 1, 1, 1, 1, 1, 1, 1, 1, 1, 1, 1, 1, 1])) (blkK 1 (seqK (execK (laws_FnMerges_cx k) (callK (laws_FnMerges_cx k) 8) 0 3 (sub laws_FnMerges_c [1, 1, 1, 1, 1, 1, 1, 1, 1, 1, 1, 0, 1, 0, 0, 1, 1])) (iterK (laws_FnMerges_cx k) 0 laws_FnMerges_l0_cut (loopK (laws_FnMerges_cx k) 0 (execK (laws_FnMerges_cx k) (callK (laws_FnMerges_cx k) 8) 0 3 (sub laws_FnMerges_c [1, 1, 1, 1, 1, 1, 1, 1, 1, 1, 1, 0, 1, 0, 0])) laws_FnMerges_l0_cut K n) K)))))) : Option (shDen laws_FnMerges_sh)) =
 ((bindO (cond (decide ((z511.length : Int) ≤ x18))
 (some true)
 (cond ((decide ((0 : Int) ≤ x18)) && (decide (x18 < (z511.length : Int))))
 (cond (!(decide ((z511.getD (x18.toNat) ([], (([], (false, ([], (false, ([], ()))))), (([], (false, ([], (false, ([], ()))))), (([], (false, ([], (false, ([], ()))))), ()))))).1 = (cutL [(119 : Int), (120 : Int), (121 : Int), (122 : Int)] (x19.toNat) ((IntKind.wrap .i64 (x19 + (1 : Int))).toNat)))))
 (some true)
 (cond ((decide ((0 : Int) ≤ x18)) && (decide (x18 < (z511.length : Int))))
 (cond (!(decide ((((((((z511.getD (x18.toNat) ([], (([], (false, ([], (false, ([], ()))))), (([], (false, ([], (false, ([], ()))))), (([], (false, ([], (false, ([], ()))))), ()))))).2).2).1).2).2).2).1 = b35.2)))
 (some true)
 (cond ((decide ((0 : Int) ≤ x18)) && (decide (x18 < (z511.length : Int))))
 (cond (!(decide (((((((((z511.getD (x18.toNat) ([], (([], (false, ([], (false, ([], ()))))), (([], (false, ([], (false, ([], ()))))), (([], (false, ([], (false, ([], ()))))), ()))))).2).2).1).2).2).2).2).1 = b35.1)))
 (some true)
 (cond ((decide ((0 : Int) ≤ x18)) && (decide (x18 < (z511.length : Int))))
 (cond (!(decide ((((((((((z511.getD (x18.toNat) ([], (([], (false, ([], (false, ([], ()))))), (([], (false, ([], (false, ([], ()))))), (([], (false, ([], (false, ([], ()))))), ()))))).2).2).2).1).2).2).2).2).1 = b36.1)))
 (some true)
 (cond ((decide ((0 : Int) ≤ x18)) && (decide (x18 < (z591.length : Int))))
 (cond (!(decide (((((((((z591.getD (x18.toNat) ([], (([], (false, ([], (false, ([], ()))))), (([], (false, ([], (false, ([], ()))))), (([], (false, ([], (false, ([], ()))))), ()))))).2).2).1).2).2).2).2).1 = b36.1)))
 (some true)
 (cond (!b38.2)
 (some true)
 (cond (ltI b38.1 b35.1)
 (some true)
 (cond (ltI b38.1 b36.1)
 (some true)
 (cond (!(decide (b38.1 = b35.1)))
 (some (!(decide (b38.1 = b36.1))))
 (some false))))))
 none))
 none))
 none))
 none))
 none)) fun (b50 : Bool) => (cond b50
 (K .ret (laws_FnMerges_l0_o ))
 (loopK (laws_FnMerges_cx k) 0 (execK (laws_FnMerges_cx k) (callK (laws_FnMerges_cx k) 8) 0 3 (sub laws_FnMerges_c [1, 1, 1, 1, 1, 1, 1, 1, 1, 1, 1, 0, 1, 0, 0])) laws_FnMerges_l0_cut K n (laws_FnMerges_l0_s z400 z420 z460 z510 z511 z591 z670 (IntKind.wrap .i64 (x18 + (1 : Int))) (IntKind.wrap .i64 (x19 + (1 : Int))))))) : Option (shDen laws_FnMerges_sh)) := by kernel_rfl

theorem laws_FnMerges_mid18 (k : Nat) (K : Ex → St → Option (shDen laws_FnMerges_sh)) (n : Nat) (z400 : (List (List Int × (List Int × Unit)))) (z420 : (List (List Int × (List Int × Unit)))) (z460 : (List (List Int × (List Int × Unit)))) (z510 : (List (List Int × (List Int × Unit)))) (z511 : (List (List Int × ((List Int × (Bool × (List Int × (Bool × (List Int × Unit))))) × ((List Int × (Bool × (List Int × (Bool × (List Int × Unit))))) × ((List Int × (Bool × (List Int × (Bool × (List Int × Unit))))) × Unit)))))) (z591 : (List (List Int × ((List Int × (Bool × (List Int × (Bool × (List Int × Unit))))) × ((List Int × (Bool × (List Int × (Bool × (List Int × Unit))))) × ((List Int × (Bool × (List Int × (Bool × (List Int × Unit))))) × Unit)))))) (z670 : (List (List Int × (List Int × Unit)))) (x18 : Int) (x19 : Int) (b34 : (List Int × Bool)) (b35 : (List Int × Bool)) (b36 : (List Int × Bool)) (b37 : (List Int × Bool)) (b38 : (List Int × Bool)) (b39 : Bool) (b40 : Bool) (b41 : Bool) : ((execK (laws_FnMerges_cx k) (callK (laws_FnMerges_cx k) 8) 0 3 (sub laws_FnMerges_c [1, 1, 1, 1, 1, 1, 1, 1, 1, 1, 1, 0, 1, 0, 0, 1, 0, 0, 1, 1, 1, 1, 1, 1, 1, 1, 1, 1, 1, 1, 1, 1, 0, 0]) ({ env := [.dead, .dead, .dead, .dead, .dead, .sl 400 (.pair .str (.pair .str .unit)), .sl 420 (.pair .str (.pair .str .unit)), .sl 460 (.pair .str (.pair .str .unit)), .sl 510 (.pair .str (.pair .str .unit)), .sl 511 (.pair .str (.pair (.pair .str (.pair .bool (.pair .str (.pair .bool (.pair .str .unit))))) (.pair (.pair .str (.pair .bool (.pair .str (.pair .bool (.pair .str .unit))))) (.pair (.pair .str (.pair .bool (.pair .str (.pair .bool (.pair .str .unit))))) .unit)))), .dead, .dead, .sl 591 (.pair .str (.pair (.pair .str (.pair .bool (.pair .str (.pair .bool (.pair .str .unit))))) (.pair (.pair .str (.pair .bool (.pair .str (.pair .bool (.pair .str .unit))))) (.pair (.pair .str (.pair .bool (.pair .str (.pair .bool (.pair .str .unit))))) .unit)))), .dead, .sl 670 (.pair .str (.pair .str .unit)), .dead, .dead, .dead, .pv (.int .i64) x18, .pv (.int .i64) x19, .pv .str (cutL [(119 : Int), (120 : Int), (121 : Int), (122 : Int)] (x19.toNat) ((IntKind.wrap .i64 (x19 + (1 : Int))).toNat)), .pv .str b34.1, .pv .bool b34.2, .pv .str b35.1, .pv .bool b35.2, .pv .str b36.1, .pv .bool b36.2, .pv .str b37.1, .pv .bool b37.2, .pv .str b38.1, .pv .bool b38.2, .pv .bool b39, .pv .bool b40, .pv .bool b41, .pv .str b34.1, .pv .bool b34.2, .dead, .dead, .dead, .dead, .dead, .dead, .dead, .dead, .dead, .dead, .dead, .dead, .dead, .dead, .dead, .dead, .dead, .dead, .dead, .dead, .dead, .dead, .dead, .dead, .dead, .dead, .dead, .dead, .dead, .dead, .dead, .dead, .dead, .dead, .dead, .dead, .dead, .dead, .dead, .dead, .dead, .dead, .dead, .dead, .dead, .dead, .dead, .dead, .dead, .dead, .dead, .dead, .dead, .dead, .dead, .dead, .dead, .dead, .dead, .dead, .dead, .dead, .dead, .dead, .dead, .dead, .dead, .dead, .dead, .dead, .dead, .dead, .dead, .dead, .dead, .dead, .dead, .dead, .dead, .dead, .dead, .dead, .dead, .dead, .dead, .pv .bool true, .dead, .dead, .dead, .dead, .dead, .dead, .tup (.pr (.pv .str b34.1) (.pr (.pv .bool b34.2) (.pv .unit ()))), .sl 400 (.pair .str (.pair .str .unit)), .pv .str (cutL [(119 : Int), (120 : Int), (121 : Int), (122 : Int)] (x19.toNat) ((IntKind.wrap .i64 (x19 + (1 : Int))).toNat)), .tup (.pr (.pv .str b34.1) (.pr (.pv .bool b34.2) (.pv .unit ()))), .pv .str b34.1, .pv .bool b34.2, .tup (.pr (.pv .str b35.1) (.pr (.pv .bool b35.2) (.pv .unit ()))), .sl 420 (.pair .str (.pair .str .unit)), .pv .str (cutL [(119 : Int), (120 : Int), (121 : Int), (122 : Int)] (x19.toNat) ((IntKind.wrap .i64 (x19 + (1 : Int))).toNat)), .tup (.pr (.pv .str b35.1) (.pr (.pv .bool b35.2) (.pv .unit ()))), .pv .str b35.1, .pv .bool b35.2, .tup (.pr (.pv .str b36.1) (.pr (.pv .bool b36.2) (.pv .unit ()))), .sl 460 (.pair .str (.pair .str .unit)), .pv .str (cutL [(119 : Int), (120 : Int), (121 : Int), (122 : Int)] (x19.toNat) ((IntKind.wrap .i64 (x19 + (1 : Int))).toNat)), .tup (.pr (.pv .str b36.1) (.pr (.pv .bool b36.2) (.pv .unit ()))), .pv .str b36.1, .pv .bool b36.2, .tup (.pr (.pv .str b37.1) (.pr (.pv .bool b37.2) (.pv .unit ()))), .sl 510 (.pair .str (.pair .str .unit)), .pv .str (cutL [(119 : Int), (120 : Int), (121 : Int), (122 : Int)] (x19.toNat) ((IntKind.wrap .i64 (x19 + (1 : Int))).toNat)), .tup (.pr (.pv .str b37.1) (.pr (.pv .bool b37.2) (.pv .unit ()))), .pv .str b37.1, .pv .bool b37.2, .tup (.pr (.pv .str b38.1) (.pr (.pv .bool b38.2) (.pv .unit ()))), .sl 670 (.pair .str (.pair .str .unit)), .pv .str (cutL [(119 : Int), (120 : Int), (121 : Int), (122 : Int)] (x19.toNat) ((IntKind.wrap .i64 (x19 + (1 : Int))).toNat)), .tup (.pr (.pv .str b38.1) (.pr (.pv .bool b38.2) (.pv .unit ()))), .pv .str b38.1, .pv .bool b38.2, .dead, .dead, .dead, .dead, .dead, .dead, .dead, .dead, .dead, .dead, .dead, .dead, .dead, .dead, .dead, .dead, .dead, .dead, .dead, .dead, .dead, .dead, .dead, .dead, .dead, .dead, .dead, .dead, .dead, .pv .bool false, .dead, .dead, .pv .bool false, .dead, .dead, .dead, .dead, .dead, .dead, .dead, .dead, .dead, .pv .bool false, .dead, .dead, .dead, .dead, .dead, .dead, .pv .bool false, .dead, .dead, .dead, .dead, .dead, .dead, .dead, .dead, .dead, .dead, .dead, .dead, .dead, .dead, .dead, .dead, .dead, .dead, .dead, .dead, .dead, .dead, .dead, .dead, .dead, .dead, .dead, .dead, .dead, .dead, .dead, .dead, .dead, .dead, .dead, .dead, .dead, .dead, .dead, .dead, .dead, .dead, .dead, .dead, .dead, .dead, .dead, .dead, .dead, .dead, .dead, .dead, .dead, .dead, .dead, .dead, .dead, .dead, .dead, .dead, .dead, .dead, .dead, .dead, .dead, .dead, .dead, .dead, .dead, .dead, .dead, .dead, .dead, .dead, .dead, .dead, .dead, .dead, .dead, .dead, .dead, .dead, .dead, .dead, .dead, .dead, .dead, .dead, .dead, .dead, .dead], stk := [], heap := [(400, .arr 43 (.pair .str (.pair .str .unit)) z400), (420, .arr 43 (.pair .str (.pair .str .unit)) z420), (460, .arr 43 (.pair .str (.pair .str .unit)) z460), (510, .arr 43 (.pair .str (.pair .str .unit)) z510), (511, .arr 38 (.pair .str (.pair (.pair .str (.pair .bool (.pair .str (.pair .bool (.pair .str .unit))))) (.pair (.pair .str (.pair .bool (.pair .str (.pair .bool (.pair .str .unit))))) (.pair (.pair .str (.pair .bool (.pair .str (.pair .bool (.pair .str .unit))))) .unit)))) z511), (591, .arr 38 (.pair .str (.pair (.pair .str (.pair .bool (.pair .str (.pair .bool (.pair .str .unit))))) (.pair (.pair .str (.pair .bool (.pair .str (.pair .bool (.pair .str .unit))))) (.pair (.pair .str (.pair .bool (.pair .str (.pair .bool (.pair .str .unit))))) .unit)))) z591), (670, .arr 43 (.pair .str (.pair .str .unit)) z670)] }) (seqK (execK (laws_FnMerges_cx k) (callK (laws_FnMerges_cx k) 8) 0 3 (sub laws_FnMerges_c [1, 1, 1, 1, 1, 1, 1, 1, 1, 1, 1, 0, 1, 0, 0, 1, 0, 0, 1, 1, 1, 1, 1, 1, 1, 1, 1, 1, 1, 1, 1, 1, 0, 1])) (seqK (execK (laws_FnMerges_cx k) (callK (laws_FnMerges_cx k) 8) 0 3 (sub laws_FnMerges_c [1, 1, 1, 1, 1, 1, 1, 1, 1, 1, 1, 0, 1, 0, 0, 1, 0, 0, 1, 1, 1, 1, 1, 1, 1, 1, 1, 1, 1, 1, 1, 1, 1])) (blkK 1 (seqK (execK (laws_FnMerges_cx k) (callK (laws_FnMerges_cx k) 8) 0 3 (sub laws_FnMerges_c [1, 1, 1, 1, 1, 1, 1, 1, 1, 1, 1, 0, 1, 0, 0, 1, 1])) (iterK (laws_FnMerges_cx k) 0 laws_FnMerges_l0_cut (loopK (laws_FnMerges_cx k) 0 (execK (laws_FnMerges_cx k) (callK (laws_FnMerges_cx k) 8) 0 3 (sub laws_FnMerges_c [1, 1, 1, 1, 1, 1, 1, 1, 1, 1, 1, 0, 1, 0, 0])) laws_FnMerges_l0_cut K n) K)))))) : Option (shDen laws_FnMerges_sh)) =
 ((bindO (cond (decide ((z511.length : Int) ≤ x18))
 (some true)
 (cond ((decide ((0 : Int) ≤ x18)) && (decide (x18 < (z511.length : Int))))
 (cond (!(decide ((z511.getD (x18.toNat) ([], (([], (false, ([], (false, ([], ()))))), (([], (false, ([], (false, ([], ()))))), (([], (false, ([], (false, ([], ()))))), ()))))).1 = (cutL [(119 : Int), (120 : Int), (121 : Int), (122 : Int)] (x19.toNat) ((IntKind.wrap .i64 (x19 + (1 : Int))).toNat)))))
 (some true)
 (cond ((decide ((0 : Int) ≤ x18)) && (decide (x18 < (z511.length : Int))))
 (cond (!(decide ((((((((z511.getD (x18.toNat) ([], (([], (false, ([], (false, ([], ()))))), (([], (false, ([], (false, ([], ()))))), (([], (false, ([], (false, ([], ()))))), ()))))).2).2).1).2).2).2).1 = b35.2)))
 (some true)
 (cond ((decide ((0 : Int) ≤ x18)) && (decide (x18 < (z511.length : Int))))
 (cond (!(decide (((((((((z511.getD (x18.toNat) ([], (([], (false, ([], (false, ([], ()))))), (([], (false, ([], (false, ([], ()))))), (([], (false, ([], (false, ([], ()))))), ()))))).2).2).1).2).2).2).2).1 = b35.1)))
 (some true)
 (cond ((decide ((0 : Int) ≤ x18)) && (decide (x18 < (z511.length : Int))))
 (cond (!(decide ((((((((((z511.getD (x18.toNat) ([], (([], (false, ([], (false, ([], ()))))), (([], (false, ([], (false, ([], ()))))), (([], (false, ([], (false, ([], ()))))), ()))))).2).2).2).1).2).2).2).2).1 = b36.1)))
 (some true)
 (cond ((decide ((0 : Int) ≤ x18)) && (decide (x18 < (z591.length : Int))))
 (cond (!(decide (((((((((z591.getD (x18.toNat) ([], (([], (false, ([], (false, ([], ()))))), (([], (false, ([], (false, ([], ()))))), (([], (false, ([], (false, ([], ()))))), ()))))).2).2).1).2).2).2).2).1 = b36.1)))
 (some true)
 (cond (!b38.2)
 (some true)
 (cond (ltI b38.1 b35.1)
 (some true)
 (cond (ltI b38.1 b36.1)
 (some true)
 (cond (!(decide (b38.1 = b35.1)))
 (some (!(decide (b38.1 = b36.1))))
 (some false))))))
 none))
 none))
 none))
 none))
 none)) fun (b54 : Bool) => (cond b54
 (K .ret (laws_FnMerges_l0_o ))
 (loopK (laws_FnMerges_cx k) 0 (execK (laws_FnMerges_cx k) (callK (laws_FnMerges_cx k) 8) 0 3 (sub laws_FnMerges_c [1, 1, 1, 1, 1, 1, 1, 1, 1, 1, 1, 0, 1, 0, 0])) laws_FnMerges_l0_cut K n (laws_FnMerges_l0_s z400 z420 z460 z510 z511 z591 z670 (IntKind.wrap .i64 (x18 + (1 : Int))) (IntKind.wrap .i64 (x19 + (1 : Int))))))) : Option (shDen laws_FnMerges_sh)) := by kernel_rfl

theorem laws_FnMerges_l0_ret (k : Nat)   : ((blkK 0 (seqK (execK (laws_FnMerges_cx k) (callK (laws_FnMerges_cx k) 8) 0 3 (sub laws_FnMerges_c [1, 1, 1, 1, 1, 1, 1, 1, 1, 1, 1, 1])) (finK (laws_FnMerges_cx k) laws_FnMerges_i laws_FnMerges_sh))) .ret (laws_FnMerges_l0_o) : Option (shDen laws_FnMerges_sh)) =
 ((some false) : Option (shDen laws_FnMerges_sh)) := by kernel_rfl

theorem laws_FnMerges_l0_exit0 (k : Nat)  (z511 : (List (List Int × ((List Int × (Bool × (List Int × (Bool × (List Int × Unit))))) × ((List Int × (Bool × (List Int × (Bool × (List Int × Unit))))) × ((List Int × (Bool × (List Int × (Bool × (List Int × Unit))))) × Unit)))))) (x18 : Int) : ((blkK 0 (seqK (execK (laws_FnMerges_cx k) (callK (laws_FnMerges_cx k) 8) 0 3 (sub laws_FnMerges_c [1, 1, 1, 1, 1, 1, 1, 1, 1, 1, 1, 1])) (finK (laws_FnMerges_cx k) laws_FnMerges_i laws_FnMerges_sh))) (.exit 0) (laws_FnMerges_l0_o0 z511 x18) : Option (shDen laws_FnMerges_sh)) =
 ((some (decide (x18 = (z511.length : Int)))) : Option (shDen laws_FnMerges_sh)) := by kernel_rfl

theorem laws_FnMerges_l0_congr (kr : Option (shDen laws_FnMerges_sh)) (ke0 : (List (List Int × ((List Int × (Bool × (List Int × (Bool × (List Int × Unit))))) × ((List Int × (Bool × (List Int × (Bool × (List Int × Unit))))) × ((List Int × (Bool × (List Int × (Bool × (List Int × Unit))))) × Unit))))) → Int → Option (shDen laws_FnMerges_sh)) (kr' : Option (shDen laws_FnMerges_sh)) (ke0' : (List (List Int × ((List Int × (Bool × (List Int × (Bool × (List Int × Unit))))) × ((List Int × (Bool × (List Int × (Bool × (List Int × Unit))))) × ((List Int × (Bool × (List Int × (Bool × (List Int × Unit))))) × Unit))))) → Int → Option (shDen laws_FnMerges_sh))  (n : Nat) (z400 : (List (List Int × (List Int × Unit)))) (z420 : (List (List Int × (List Int × Unit)))) (z460 : (List (List Int × (List Int × Unit)))) (z510 : (List (List Int × (List Int × Unit)))) (z511 : (List (List Int × ((List Int × (Bool × (List Int × (Bool × (List Int × Unit))))) × ((List Int × (Bool × (List Int × (Bool × (List Int × Unit))))) × ((List Int × (Bool × (List Int × (Bool × (List Int × Unit))))) × Unit)))))) (z591 : (List (List Int × ((List Int × (Bool × (List Int × (Bool × (List Int × Unit))))) × ((List Int × (Bool × (List Int × (Bool × (List Int × Unit))))) × ((List Int × (Bool × (List Int × (Bool × (List Int × Unit))))) × Unit)))))) (z670 : (List (List Int × (List Int × Unit)))) (x18 : Int) (x19 : Int) (hkr : ∀ (_ : Unit), kr  = kr' ) (hke0 : ∀ z511 x18, ke0 z511 x18 = ke0' z511 x18) : laws_FnMerges_l0_L kr ke0  n z400 z420 z460 z510 z511 z591 z670 x18 x19 = laws_FnMerges_l0_L kr' ke0'  n z400 z420 z460 z510 z511 z591 z670 x18 x19 := by
 have : kr = kr' := hkr (); subst this; have : ke0 = ke0' := (by funext z511 x18; exact hke0 z511 x18); subst this; rfl

theorem laws_FnMerges_l0_L_eq (K : Ex → St → Option (shDen laws_FnMerges_sh))  : ∀ (n : Nat) (z400 : (List (List Int × (List Int × Unit)))) (z420 : (List (List Int × (List Int × Unit)))) (z460 : (List (List Int × (List Int × Unit)))) (z510 : (List (List Int × (List Int × Unit)))) (z511 : (List (List Int × ((List Int × (Bool × (List Int × (Bool × (List Int × Unit))))) × ((List Int × (Bool × (List Int × (Bool × (List Int × Unit))))) × ((List Int × (Bool × (List Int × (Bool × (List Int × Unit))))) × Unit)))))) (z591 : (List (List Int × ((List Int × (Bool × (List Int × (Bool × (List Int × Unit))))) × ((List Int × (Bool × (List Int × (Bool × (List Int × Unit))))) × ((List Int × (Bool × (List Int × (Bool × (List Int × Unit))))) × Unit)))))) (z670 : (List (List Int × (List Int × Unit)))) (x18 : Int) (x19 : Int), (loopK (laws_FnMerges_cx FUEL) 0 (execK (laws_FnMerges_cx FUEL) (callK (laws_FnMerges_cx FUEL) 8) 0 3 (sub laws_FnMerges_c [1, 1, 1, 1, 1, 1, 1, 1, 1, 1, 1, 0, 1, 0, 0])) laws_FnMerges_l0_cut K n (laws_FnMerges_l0_s z400 z420 z460 z510 z511 z591 z670 x18 x19) : Option (shDen laws_FnMerges_sh)) = laws_FnMerges_l0_L (K .ret (laws_FnMerges_l0_o)) (fun z511 x18 => K (.exit 0) (laws_FnMerges_l0_o0 z511 x18))  n z400 z420 z460 z510 z511 z591 z670 x18 x19 := by
 intro n
 induction n with
 | zero => intros; rfl
 | succ n ih =>
  intro z400 z420 z460 z510 z511 z591 z670 x18 x19
  exact (laws_FnMerges_l0_round FUEL K n  z400 z420 z460 z510 z511 z591 z670 x18 x19).trans (condC (condC (condC (bindC (fun b34 => bindC (fun b35 => bindC (fun b36 => bindC (fun b37 => bindC (fun b38 => bindC (fun b39 => bindC (fun b40 => bindC (fun b41 => bindC (fun b42 => condC (bindC (fun b43 => condC (rfl) (bindC (fun b44 => condC (bindC (fun b45 => condC (rfl) (ih z400 z420 z460 z510 z511 z591 z670 x18 (IntKind.wrap .i64 (x19 + (1 : Int)))))) ((laws_FnMerges_mid6 FUEL K n z400 z420 z460 z510 z511 z591 z670 x18 x19 b34 b35 b36 b37 b38 b39 b40 b41).trans (bindC (fun b46 => condC (rfl) (ih z400 z420 z460 z510 z511 z591 z670 (IntKind.wrap .i64 (x18 + (1 : Int))) (IntKind.wrap .i64 (x19 + (1 : Int))))))))))) (condC (bindC (fun b47 => condC (rfl) (bindC (fun b48 => condC (bindC (fun b49 => condC (rfl) (ih z400 z420 z460 z510 z511 z591 z670 x18 (IntKind.wrap .i64 (x19 + (1 : Int)))))) ((laws_FnMerges_mid12 FUEL K n z400 z420 z460 z510 z511 z591 z670 x18 x19 b34 b35 b36 b37 b38 b39 b40 b41).trans (bindC (fun b50 => condC (rfl) (ih z400 z420 z460 z510 z511 z591 z670 (IntKind.wrap .i64 (x18 + (1 : Int))) (IntKind.wrap .i64 (x19 + (1 : Int))))))))))) (bindC (fun b51 => condC (rfl) (bindC (fun b52 => condC (bindC (fun b53 => condC (rfl) (ih z400 z420 z460 z510 z511 z591 z670 x18 (IntKind.wrap .i64 (x19 + (1 : Int)))))) ((laws_FnMerges_mid18 FUEL K n z400 z420 z460 z510 z511 z591 z670 x18 x19 b34 b35 b36 b37 b38 b39 b40 b41).trans (bindC (fun b54 => condC (rfl) (ih z400 z420 z460 z510 z511 z591 z670 (IntKind.wrap .i64 (x18 + (1 : Int))) (IntKind.wrap .i64 (x19 + (1 : Int)))))))))))))))))))))) (rfl)) (rfl)) (rfl))

theorem laws_FnMerges_start (k : Nat) (a0 : (List Int)) (a1 : (List Int)) : fnK (laws_FnMerges_cx k) 8 3 laws_FnMerges_i laws_FnMerges_sh [.pv (.slice (.int .u8)) a0, .pv (.slice (.int .u8)) a1] =
 ((bindO (laws_a2Long_r a0 a1) fun (b1 : Bool) => (cond b1
 (some true)
 (bindO (spec_A2Map_r a0) fun (b2 : (List (List Int × (List Int × Unit)))) => (bindO (spec_A2Map_r a1) fun (b3 : (List (List Int × (List Int × Unit)))) => (cond (decide ((1 + a1.length) * 1 ≤ 140737488355328) && decide (1 + a1.length ≤ 9223372036854775807))
 (bindO (spec_A2Map_r ([(6 : Int)] ++ a1)) fun (b4 : (List (List Int × (List Int × Unit)))) => (bindO (impl_MergeMaps_r b2 b3 b4) fun (b5 : ((List (List Int × (List Int × Unit))) × ((List (List Int × ((List Int × (Bool × (List Int × (Bool × (List Int × Unit))))) × ((List Int × (Bool × (List Int × (Bool × (List Int × Unit))))) × ((List Int × (Bool × (List Int × (Bool × (List Int × Unit))))) × Unit))))) × Int))) => (bindO (impl_MergeMaps_r b2 b4 b3) fun (b6 : ((List (List Int × (List Int × Unit))) × ((List (List Int × ((List Int × (Bool × (List Int × (Bool × (List Int × Unit))))) × ((List Int × (Bool × (List Int × (Bool × (List Int × Unit))))) × ((List Int × (Bool × (List Int × (Bool × (List Int × Unit))))) × Unit))))) × Int))) => (bindO (impl_JoinMaps_r b2 b3 b4) fun (b7 : ((List (List Int × (List Int × Unit))) × Int)) => (bindO (impl_JoinMaps_r b2 b4 b3) fun (b8 : ((List (List Int × (List Int × Unit))) × Int)) => (cond (!(decide (b5.2.2 = (0 : Int))))
 (some false)
 (cond (!(decide (b6.2.2 = (0 : Int))))
 (some false)
 (cond (!(decide (b7.2 = (0 : Int))))
 (some false)
 (cond (!(decide (b8.2 = (0 : Int))))
 (some false)
 (bindO (spec_SameMap_r b5.1 b6.1) fun (b9 : Bool) => (cond (!b9)
 (some false)
 (cond (!(decide ((b5.2.1.length : Int) = (b6.2.1.length : Int))))
 (some false)
 (bindO (spec_SameMap_r b7.1 b8.1) fun (b10 : Bool) => (cond (!b10)
 (some false)
 (bindO (spec_ValidEntries_r b5.1) fun (b11 : Bool) => (cond (!b11)
 (some false)
 (bindO (spec_ValidEntries_r b7.1) fun (b12 : Bool) => (cond (!b12)
 (some false)
 (loopK (laws_FnMerges_cx k) 0 (execK (laws_FnMerges_cx k) (callK (laws_FnMerges_cx k) 8) 0 3 (sub laws_FnMerges_c [1, 1, 1, 1, 1, 1, 1, 1, 1, 1, 1, 0, 1, 0, 0])) laws_FnMerges_l0_cut (blkK 0 (seqK (execK (laws_FnMerges_cx k) (callK (laws_FnMerges_cx k) 8) 0 3 (sub laws_FnMerges_c [1, 1, 1, 1, 1, 1, 1, 1, 1, 1, 1, 1])) (finK (laws_FnMerges_cx k) laws_FnMerges_i laws_FnMerges_sh))) k (laws_FnMerges_l0_s b2 b3 b4 b5.1 b5.2.1 b6.2.1 b7.1 (0 : Int) (0 : Int)))))))))))))))))))))
 none))))) : Option (shDen laws_FnMerges_sh)) := by kernel_rfl

theorem laws_FnMerges_run (a0 : (List Int)) (a1 : (List Int)) : fnK (laws_FnMerges_cx FUEL) 8 3 laws_FnMerges_i laws_FnMerges_sh [.pv (.slice (.int .u8)) a0, .pv (.slice (.int .u8)) a1] = laws_FnMerges_r a0 a1 :=
 (laws_FnMerges_start FUEL a0 a1).trans (bindC (fun b1 => condC (rfl) (bindC (fun b2 => bindC (fun b3 => condC (bindC (fun b4 => bindC (fun b5 => bindC (fun b6 => bindC (fun b7 => bindC (fun b8 => condC (rfl) (condC (rfl) (condC (rfl) (condC (rfl) (bindC (fun b9 => condC (rfl) (condC (rfl) (bindC (fun b10 => condC (rfl) (bindC (fun b11 => condC (rfl) (bindC (fun b12 => condC (rfl) ((laws_FnMerges_l0_L_eq _  FUEL b2 b3 b4 b5.1 b5.2.1 b6.2.1 b7.1 (0 : Int) (0 : Int)).trans (laws_FnMerges_l0_congr _ _ _ _  FUEL b2 b3 b4 b5.1 b5.2.1 b6.2.1 b7.1 (0 : Int) (0 : Int) (fun _ => (laws_FnMerges_l0_ret FUEL  ).trans (rfl)) (fun z511 x18 => (laws_FnMerges_l0_exit0 FUEL  z511 x18).trans (rfl)))))))))))))))))))))) (rfl))))))

noncomputable def laws_FnMerges_con : Con := { ps := (.pair (.slice (.int .u8)) (.pair (.slice (.int .u8)) .unit)), sh := laws_FnMerges_sh, raw := fun x => laws_FnMerges_r x.1 x.2.1 }
theorem laws_FnMerges_conOk : ConOk Try.prog 3 laws_FnMerges_con := con_of_fn (laws_FnMerges_tabs FUEL) (depth := 8) laws_FnMerges_ok fun x y h => (laws_FnMerges_run x.1 x.2.1).trans h

end Go.Ai.G
