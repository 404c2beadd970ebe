/- Made by a program of this work out of the program: tables and plain functions, with the proof that each Go function does what its plain function says. No conditions. -/
import Derived.Test.YtafhfllnkijfhabExactJoinMapsTab
namespace Go.Ai.G
open Go.Proofs
open Go.Ai
set_option linter.unusedVariables false
set_option linter.unusedSimpArgs false
set_option maxRecDepth 100000

noncomputable def laws_szEntry_inls : List (Nat × Inl) := []
noncomputable def laws_szEntry_cons : List (Nat × Con) := []
noncomputable def laws_szEntry_taks : List (Nat × ConT) := []
noncomputable def laws_szEntry_inps : List (Nat × ConI) := []
noncomputable def laws_szEntry_cuts : List (Nat × List (Nat × Cut)) := []
noncomputable def laws_szEntry_cx (k : Nat) : Cx := mkCx tys tbytes telem nozero (Ai.look laws_szEntry_inls) (Ai.look laws_szEntry_cons) (Ai.look laws_szEntry_taks) (Ai.look laws_szEntry_inps) (fun f id => match Ai.look laws_szEntry_cuts f with | some l => Ai.look l id | none => none) k []
theorem laws_szEntry_tabs (k : Nat) : TabsOk Try.prog (laws_szEntry_cx k) := ⟨tab_mk tabs_ok _ _ _ _ _ _ _, look_all (Q := ConOk Try.prog) _ trivial, look_all (Q := TakOk Try.prog) _ trivial, look_all (Q := InpOk Try.prog) _ trivial, look_all (Q := InlOk Try.prog) _ trivial, mixed_ok⟩
abbrev laws_szEntry_sh : List Sh := [.pl (.int .i64)]
noncomputable def laws_szEntry_r (a0 : (List Int × (List Int × Unit))) (a1 : Int) : Option (shDen laws_szEntry_sh) :=
 (cond (decide ((IntKind.wrap .i64 (a1 - (a0.1.length : Int))) < (0 : Int)))
 (some (-1 : Int))
 (cond (decide ((IntKind.wrap .i64 ((IntKind.wrap .i64 (a1 - (a0.1.length : Int))) - (a0.2.1.length : Int))) < (0 : Int)))
 (some (-1 : Int))
 (some (IntKind.wrap .i64 ((IntKind.wrap .i64 (a1 - (a0.1.length : Int))) - (a0.2.1.length : Int))))))
theorem laws_szEntry_start (k : Nat) (a0 : (List Int × (List Int × Unit))) (a1 : Int) : fnK (laws_szEntry_cx k) 8 70 laws_szEntry_i laws_szEntry_sh [.pv (.pair .str (.pair .str .unit)) a0, .pv (.int .i64) a1] =
 ((cond (decide ((IntKind.wrap .i64 (a1 - (a0.1.length : Int))) < (0 : Int)))
 (some (-1 : Int))
 (cond (decide ((IntKind.wrap .i64 ((IntKind.wrap .i64 (a1 - (a0.1.length : Int))) - (a0.2.1.length : Int))) < (0 : Int)))
 (some (-1 : Int))
 (some (IntKind.wrap .i64 ((IntKind.wrap .i64 (a1 - (a0.1.length : Int))) - (a0.2.1.length : Int)))))) : Option (shDen laws_szEntry_sh)) := by kernel_rfl

theorem laws_szEntry_run (a0 : (List Int × (List Int × Unit))) (a1 : Int) : fnK (laws_szEntry_cx FUEL) 8 70 laws_szEntry_i laws_szEntry_sh [.pv (.pair .str (.pair .str .unit)) a0, .pv (.int .i64) a1] = laws_szEntry_r a0 a1 :=
 (laws_szEntry_start FUEL a0 a1).trans (rfl)

noncomputable def laws_szEntry_con : Con := { ps := (.pair (.pair .str (.pair .str .unit)) (.pair (.int .i64) .unit)), sh := laws_szEntry_sh, raw := fun x => laws_szEntry_r x.1 x.2.1 }
theorem laws_szEntry_conOk : ConOk Try.prog 70 laws_szEntry_con := con_of_fn (laws_szEntry_tabs FUEL) (depth := 8) laws_szEntry_ok fun x y h => (laws_szEntry_run x.1 x.2.1).trans h

noncomputable def laws_szEntryS_l0_cut : Cut := { keep := [0, 1, 5], stk := [], ids := [], own := [], outs := [(0, [4], []), (1, [1], [])] }
noncomputable def laws_szEntryS_inls : List (Nat × Inl) := []
noncomputable def laws_szEntryS_cons : List (Nat × Con) := [(70, laws_szEntry_con)]
noncomputable def laws_szEntryS_taks : List (Nat × ConT) := []
noncomputable def laws_szEntryS_inps : List (Nat × ConI) := []
noncomputable def laws_szEntryS_cuts : List (Nat × List (Nat × Cut)) := [(27, [(0, laws_szEntryS_l0_cut)])]
noncomputable def laws_szEntryS_cx (k : Nat) : Cx := mkCx tys tbytes telem nozero (Ai.look laws_szEntryS_inls) (Ai.look laws_szEntryS_cons) (Ai.look laws_szEntryS_taks) (Ai.look laws_szEntryS_inps) (fun f id => match Ai.look laws_szEntryS_cuts f with | some l => Ai.look l id | none => none) k []
theorem laws_szEntryS_tabs (k : Nat) : TabsOk Try.prog (laws_szEntryS_cx k) := ⟨tab_mk tabs_ok _ _ _ _ _ _ _, look_all (Q := ConOk Try.prog) _ ⟨laws_szEntry_conOk, trivial⟩, look_all (Q := TakOk Try.prog) _ trivial, look_all (Q := InpOk Try.prog) _ trivial, look_all (Q := InlOk Try.prog) _ trivial, mixed_ok⟩
abbrev laws_szEntryS_sh : List Sh := [.pl (.int .i64)]
noncomputable def laws_szEntryS_l0_s (a0 : (List (List Int × (List Int × Unit)))) (x1 : Int) (x5 : Int) : St := { env := [.pv (.slice (.pair .str (.pair .str .unit))) a0, .pv (.int .i64) x1, .dead, .dead, .dead, .pv (.int .i64) x5, .dead, .dead, .dead, .dead, .dead, .dead, .dead, .dead, .dead, .dead, .dead, .dead, .dead, .dead, .dead, .dead, .dead, .dead, .dead, .dead, .dead], stk := [], heap := [] }
noncomputable def laws_szEntryS_l0_o  : St := { env := [.dead, .dead, .dead, .dead, .pv (.int .i64) (-1 : Int), .dead, .dead, .dead, .dead, .dead, .dead, .dead, .dead, .dead, .dead, .dead, .dead, .dead, .dead, .dead, .dead, .dead, .dead, .dead, .dead, .dead, .dead], stk := [], heap := [] }
noncomputable def laws_szEntryS_l0_o0 (x1 : Int) : St := { env := [.dead, .pv (.int .i64) x1, .dead, .dead, .dead, .dead, .dead, .dead, .dead, .dead, .dead, .dead, .dead, .dead, .dead, .dead, .dead, .dead, .dead, .dead, .dead, .dead, .dead, .dead, .dead, .dead, .dead], stk := [], heap := [] }
noncomputable def laws_szEntryS_l0_b (rec : Int → Int → Option (shDen laws_szEntryS_sh)) (kr : Option (shDen laws_szEntryS_sh)) (ke0 : Int → Option (shDen laws_szEntryS_sh)) (a0 : (List (List Int × (List Int × Unit)))) (x1 : Int) (x5 : Int) : Option (shDen laws_szEntryS_sh) :=
 (cond (decide (x5 < (a0.length : Int)))
 (cond ((decide ((0 : Int) ≤ x5)) && (decide (x5 < (a0.length : Int))))
 (bindO (laws_szEntry_r (a0.getD (x5.toNat) ([], ([], ()))) x1) fun (b2 : Int) => (cond (decide (b2 < (0 : Int)))
 (kr)
 (rec b2 (IntKind.wrap .i64 (x5 + (1 : Int))))))
 none)
 (ke0 x1))
noncomputable def laws_szEntryS_l0_L (kr : Option (shDen laws_szEntryS_sh)) (ke0 : Int → Option (shDen laws_szEntryS_sh)) (a0 : (List (List Int × (List Int × Unit)))) : Nat → Int → Int → Option (shDen laws_szEntryS_sh)
 | 0 => fun _ _ => none
 | n + 1 => laws_szEntryS_l0_b (laws_szEntryS_l0_L kr ke0 a0 n) kr ke0 a0
noncomputable def laws_szEntryS_r (a0 : (List (List Int × (List Int × Unit)))) (a1 : Int) : Option (shDen laws_szEntryS_sh) :=
 (cond (decide ((IntKind.wrap .i64 (a1 - (a0.length : Int))) < (0 : Int)))
 (some (-1 : Int))
 (laws_szEntryS_l0_L (some (-1 : Int)) (fun x1 => (some x1)) a0 FUEL (IntKind.wrap .i64 (a1 - (a0.length : Int))) (0 : Int)))
theorem laws_szEntryS_l0_round (k : Nat) (K : Ex → St → Option (shDen laws_szEntryS_sh)) (n : Nat) (a0 : (List (List Int × (List Int × Unit)))) (x1 : Int) (x5 : Int) : (loopK (laws_szEntryS_cx k) 0 (execK (laws_szEntryS_cx k) (callK (laws_szEntryS_cx k) 8) 0 27 (sub laws_szEntryS_c [1, 1, 1, 0, 1, 0, 0])) laws_szEntryS_l0_cut K (n + 1) (laws_szEntryS_l0_s a0 x1 x5) : Option (shDen laws_szEntryS_sh)) =
 ((cond (decide (x5 < (a0.length : Int)))
 (cond ((decide ((0 : Int) ≤ x5)) && (decide (x5 < (a0.length : Int))))
 (bindO (laws_szEntry_r (a0.getD (x5.toNat) ([], ([], ()))) x1) fun (b2 : Int) => (cond (decide (b2 < (0 : Int)))
 (K .ret (laws_szEntryS_l0_o ))
 (loopK (laws_szEntryS_cx k) 0 (execK (laws_szEntryS_cx k) (callK (laws_szEntryS_cx k) 8) 0 27 (sub laws_szEntryS_c [1, 1, 1, 0, 1, 0, 0])) laws_szEntryS_l0_cut K n (laws_szEntryS_l0_s a0 b2 (IntKind.wrap .i64 (x5 + (1 : Int)))))))
 none)
 (K (.exit 0) (laws_szEntryS_l0_o0 x1))) : Option (shDen laws_szEntryS_sh)) := by kernel_rfl

theorem laws_szEntryS_l0_ret (k : Nat)   : ((blkK 0 (seqK (execK (laws_szEntryS_cx k) (callK (laws_szEntryS_cx k) 8) 0 27 (sub laws_szEntryS_c [1, 1, 1, 1])) (finK (laws_szEntryS_cx k) laws_szEntryS_i laws_szEntryS_sh))) .ret (laws_szEntryS_l0_o) : Option (shDen laws_szEntryS_sh)) =
 ((some (-1 : Int)) : Option (shDen laws_szEntryS_sh)) := by kernel_rfl

theorem laws_szEntryS_l0_exit0 (k : Nat)  (x1 : Int) : ((blkK 0 (seqK (execK (laws_szEntryS_cx k) (callK (laws_szEntryS_cx k) 8) 0 27 (sub laws_szEntryS_c [1, 1, 1, 1])) (finK (laws_szEntryS_cx k) laws_szEntryS_i laws_szEntryS_sh))) (.exit 0) (laws_szEntryS_l0_o0 x1) : Option (shDen laws_szEntryS_sh)) =
 ((some x1) : Option (shDen laws_szEntryS_sh)) := by kernel_rfl

theorem laws_szEntryS_l0_congr (kr : Option (shDen laws_szEntryS_sh)) (ke0 : Int → Option (shDen laws_szEntryS_sh)) (kr' : Option (shDen laws_szEntryS_sh)) (ke0' : Int → Option (shDen laws_szEntryS_sh)) (a0 : (List (List Int × (List Int × Unit)))) (n : Nat) (x1 : Int) (x5 : Int) (hkr : ∀ (_ : Unit), kr  = kr' ) (hke0 : ∀ x1, ke0 x1 = ke0' x1) : laws_szEntryS_l0_L kr ke0 a0 n x1 x5 = laws_szEntryS_l0_L kr' ke0' a0 n x1 x5 := by
 have : kr = kr' := hkr (); subst this; have : ke0 = ke0' := (by funext x1; exact hke0 x1); subst this; rfl

theorem laws_szEntryS_l0_L_eq (K : Ex → St → Option (shDen laws_szEntryS_sh)) (a0 : (List (List Int × (List Int × Unit)))) : ∀ (n : Nat) (x1 : Int) (x5 : Int), (loopK (laws_szEntryS_cx FUEL) 0 (execK (laws_szEntryS_cx FUEL) (callK (laws_szEntryS_cx FUEL) 8) 0 27 (sub laws_szEntryS_c [1, 1, 1, 0, 1, 0, 0])) laws_szEntryS_l0_cut K n (laws_szEntryS_l0_s a0 x1 x5) : Option (shDen laws_szEntryS_sh)) = laws_szEntryS_l0_L (K .ret (laws_szEntryS_l0_o)) (fun x1 => K (.exit 0) (laws_szEntryS_l0_o0 x1)) a0 n x1 x5 := by
 intro n
 induction n with
 | zero => intros; rfl
 | succ n ih =>
  intro x1 x5
  exact (laws_szEntryS_l0_round FUEL K n a0 x1 x5).trans (condC (condC (bindC (fun b2 => condC (rfl) (ih b2 (IntKind.wrap .i64 (x5 + (1 : Int)))))) (rfl)) (rfl))

theorem laws_szEntryS_start (k : Nat) (a0 : (List (List Int × (List Int × Unit)))) (a1 : Int) : fnK (laws_szEntryS_cx k) 8 27 laws_szEntryS_i laws_szEntryS_sh [.pv (.slice (.pair .str (.pair .str .unit))) a0, .pv (.int .i64) a1] =
 ((cond (decide ((IntKind.wrap .i64 (a1 - (a0.length : Int))) < (0 : Int)))
 (some (-1 : Int))
 (loopK (laws_szEntryS_cx k) 0 (execK (laws_szEntryS_cx k) (callK (laws_szEntryS_cx k) 8) 0 27 (sub laws_szEntryS_c [1, 1, 1, 0, 1, 0, 0])) laws_szEntryS_l0_cut (blkK 0 (seqK (execK (laws_szEntryS_cx k) (callK (laws_szEntryS_cx k) 8) 0 27 (sub laws_szEntryS_c [1, 1, 1, 1])) (finK (laws_szEntryS_cx k) laws_szEntryS_i laws_szEntryS_sh))) k (laws_szEntryS_l0_s a0 (IntKind.wrap .i64 (a1 - (a0.length : Int))) (0 : Int)))) : Option (shDen laws_szEntryS_sh)) := by kernel_rfl

theorem laws_szEntryS_run (a0 : (List (List Int × (List Int × Unit)))) (a1 : Int) : fnK (laws_szEntryS_cx FUEL) 8 27 laws_szEntryS_i laws_szEntryS_sh [.pv (.slice (.pair .str (.pair .str .unit))) a0, .pv (.int .i64) a1] = laws_szEntryS_r a0 a1 :=
 (laws_szEntryS_start FUEL a0 a1).trans (condC (rfl) ((laws_szEntryS_l0_L_eq _ a0 FUEL (IntKind.wrap .i64 (a1 - (a0.length : Int))) (0 : Int)).trans (laws_szEntryS_l0_congr _ _ _ _ a0 FUEL (IntKind.wrap .i64 (a1 - (a0.length : Int))) (0 : Int) (fun _ => (laws_szEntryS_l0_ret FUEL  ).trans (rfl)) (fun x1 => (laws_szEntryS_l0_exit0 FUEL  x1).trans (rfl)))))

noncomputable def laws_szEntryS_con : Con := { ps := (.pair (.slice (.pair .str (.pair .str .unit))) (.pair (.int .i64) .unit)), sh := laws_szEntryS_sh, raw := fun x => laws_szEntryS_r x.1 x.2.1 }
theorem laws_szEntryS_conOk : ConOk Try.prog 27 laws_szEntryS_con := con_of_fn (laws_szEntryS_tabs FUEL) (depth := 8) laws_szEntryS_ok fun x y h => (laws_szEntryS_run x.1 x.2.1).trans h

noncomputable def laws_toEntry_inls : List (Nat × Inl) := []
noncomputable def laws_toEntry_cons : List (Nat × Con) := []
noncomputable def laws_toEntry_taks : List (Nat × ConT) := []
noncomputable def laws_toEntry_inps : List (Nat × ConI) := []
noncomputable def laws_toEntry_cuts : List (Nat × List (Nat × Cut)) := []
noncomputable def laws_toEntry_cx (k : Nat) : Cx := mkCx tys tbytes telem nozero (Ai.look laws_toEntry_inls) (Ai.look laws_toEntry_cons) (Ai.look laws_toEntry_taks) (Ai.look laws_toEntry_inps) (fun f id => match Ai.look laws_toEntry_cuts f with | some l => Ai.look l id | none => none) k []
theorem laws_toEntry_tabs (k : Nat) : TabsOk Try.prog (laws_toEntry_cx k) := ⟨tab_mk tabs_ok _ _ _ _ _ _ _, look_all (Q := ConOk Try.prog) _ trivial, look_all (Q := TakOk Try.prog) _ trivial, look_all (Q := InpOk Try.prog) _ trivial, look_all (Q := InlOk Try.prog) _ trivial, mixed_ok⟩
abbrev laws_toEntry_sh : List Sh := [.pl (.pair .str (.pair .str .unit))]
noncomputable def laws_toEntry_r (a0 : (List Int × (List Int × Unit))) : Option (shDen laws_toEntry_sh) :=
 (some (a0.1, (a0.2.1, ())))
theorem laws_toEntry_start (k : Nat) (a0 : (List Int × (List Int × Unit))) : fnK (laws_toEntry_cx k) 8 73 laws_toEntry_i laws_toEntry_sh [.pv (.pair .str (.pair .str .unit)) a0] =
 ((some (a0.1, (a0.2.1, ()))) : Option (shDen laws_toEntry_sh)) := by kernel_rfl

theorem laws_toEntry_run (a0 : (List Int × (List Int × Unit))) : fnK (laws_toEntry_cx FUEL) 8 73 laws_toEntry_i laws_toEntry_sh [.pv (.pair .str (.pair .str .unit)) a0] = laws_toEntry_r a0 :=
 (laws_toEntry_start FUEL a0).trans (rfl)

noncomputable def laws_toEntry_con : Con := { ps := (.pair (.pair .str (.pair .str .unit)) .unit), sh := laws_toEntry_sh, raw := fun x => laws_toEntry_r x.1 }
theorem laws_toEntry_conOk : ConOk Try.prog 73 laws_toEntry_con := con_of_fn (laws_toEntry_tabs FUEL) (depth := 8) laws_toEntry_ok fun x y h => (laws_toEntry_run x.1).trans h

noncomputable def laws_toEntryS_l0_cut : Cut := { keep := [0, 3, 4], stk := [], ids := [70], own := [], outs := [(1, [3], [70])] }
noncomputable def laws_toEntryS_inls : List (Nat × Inl) := []
noncomputable def laws_toEntryS_cons : List (Nat × Con) := [(73, laws_toEntry_con)]
noncomputable def laws_toEntryS_taks : List (Nat × ConT) := []
noncomputable def laws_toEntryS_inps : List (Nat × ConI) := []
noncomputable def laws_toEntryS_cuts : List (Nat × List (Nat × Cut)) := [(29, [(0, laws_toEntryS_l0_cut)])]
noncomputable def laws_toEntryS_cx (k : Nat) : Cx := mkCx tys tbytes telem nozero (Ai.look laws_toEntryS_inls) (Ai.look laws_toEntryS_cons) (Ai.look laws_toEntryS_taks) (Ai.look laws_toEntryS_inps) (fun f id => match Ai.look laws_toEntryS_cuts f with | some l => Ai.look l id | none => none) k []
theorem laws_toEntryS_tabs (k : Nat) : TabsOk Try.prog (laws_toEntryS_cx k) := ⟨tab_mk tabs_ok _ _ _ _ _ _ _, look_all (Q := ConOk Try.prog) _ ⟨laws_toEntry_conOk, trivial⟩, look_all (Q := TakOk Try.prog) _ trivial, look_all (Q := InpOk Try.prog) _ trivial, look_all (Q := InlOk Try.prog) _ trivial, mixed_ok⟩
abbrev laws_toEntryS_sh : List Sh := [.own 108 (.pair .str (.pair .str .unit))]
noncomputable def laws_toEntryS_l0_s (a0 : (List (List Int × (List Int × Unit)))) (x4 : Int) (z70 : (List (List Int × (List Int × Unit)))) : St := { env := [.pv (.slice (.pair .str (.pair .str .unit))) a0, .dead, .dead, .sl 70 (.pair .str (.pair .str .unit)), .pv (.int .i64) x4, .dead, .dead, .dead, .dead, .dead, .dead, .dead, .dead, .dead, .dead, .dead, .dead, .dead, .dead, .dead, .dead, .dead, .dead], stk := [], heap := [(70, .arr 108 (.pair .str (.pair .str .unit)) z70)] }
noncomputable def laws_toEntryS_l0_o0 (z70 : (List (List Int × (List Int × Unit)))) : St := { env := [.dead, .dead, .dead, .sl 70 (.pair .str (.pair .str .unit)), .dead, .dead, .dead, .dead, .dead, .dead, .dead, .dead, .dead, .dead, .dead, .dead, .dead, .dead, .dead, .dead, .dead, .dead, .dead], stk := [], heap := [(70, .arr 108 (.pair .str (.pair .str .unit)) z70)] }
noncomputable def laws_toEntryS_l0_b (rec : Int → (List (List Int × (List Int × Unit))) → Option (shDen laws_toEntryS_sh)) (ke0 : (List (List Int × (List Int × Unit))) → Option (shDen laws_toEntryS_sh)) (a0 : (List (List Int × (List Int × Unit)))) (x4 : Int) (z70 : (List (List Int × (List Int × Unit)))) : Option (shDen laws_toEntryS_sh) :=
 (cond (decide (x4 < (a0.length : Int)))
 (cond ((decide ((0 : Int) ≤ x4)) && (decide (x4 < (a0.length : Int))))
 (bindO (laws_toEntry_r (a0.getD (x4.toNat) ([], ([], ())))) fun (b2 : (List Int × (List Int × Unit))) => (cond ((decide ((0 : Int) ≤ x4)) && (decide (x4 < (z70.length : Int))))
 (rec (IntKind.wrap .i64 (x4 + (1 : Int))) (z70.set (x4.toNat) b2))
 none))
 none)
 (ke0 z70))
noncomputable def laws_toEntryS_l0_L (ke0 : (List (List Int × (List Int × Unit))) → Option (shDen laws_toEntryS_sh)) (a0 : (List (List Int × (List Int × Unit)))) : Nat → Int → (List (List Int × (List Int × Unit))) → Option (shDen laws_toEntryS_sh)
 | 0 => fun _ _ => none
 | n + 1 => laws_toEntryS_l0_b (laws_toEntryS_l0_L ke0 a0 n) ke0 a0
noncomputable def laws_toEntryS_r (a0 : (List (List Int × (List Int × Unit)))) : Option (shDen laws_toEntryS_sh) :=
 (cond (((decide ((0 : Int) ≤ (a0.length : Int))) && (decide (((a0.length : Int) * (32 : Int)) ≤ (140737488355328 : Int)))) && (decide ((a0.length : Int) ≤ (9223372036854775807 : Int))))
 (laws_toEntryS_l0_L (fun z70 => (some z70)) a0 FUEL (0 : Int) (List.replicate ((a0.length : Int).toNat) ([], ([], ()))))
 none)
theorem laws_toEntryS_l0_round (k : Nat) (K : Ex → St → Option (shDen laws_toEntryS_sh)) (n : Nat) (a0 : (List (List Int × (List Int × Unit)))) (x4 : Int) (z70 : (List (List Int × (List Int × Unit)))) : (loopK (laws_toEntryS_cx k) 0 (execK (laws_toEntryS_cx k) (callK (laws_toEntryS_cx k) 8) 0 29 (sub laws_toEntryS_c [1, 1, 0, 1, 0, 0])) laws_toEntryS_l0_cut K (n + 1) (laws_toEntryS_l0_s a0 x4 z70) : Option (shDen laws_toEntryS_sh)) =
 ((cond (decide (x4 < (a0.length : Int)))
 (cond ((decide ((0 : Int) ≤ x4)) && (decide (x4 < (a0.length : Int))))
 (bindO (laws_toEntry_r (a0.getD (x4.toNat) ([], ([], ())))) fun (b2 : (List Int × (List Int × Unit))) => (cond ((decide ((0 : Int) ≤ x4)) && (decide (x4 < (z70.length : Int))))
 (loopK (laws_toEntryS_cx k) 0 (execK (laws_toEntryS_cx k) (callK (laws_toEntryS_cx k) 8) 0 29 (sub laws_toEntryS_c [1, 1, 0, 1, 0, 0])) laws_toEntryS_l0_cut K n (laws_toEntryS_l0_s a0 (IntKind.wrap .i64 (x4 + (1 : Int))) (z70.set (x4.toNat) b2)))
 none))
 none)
 (K (.exit 0) (laws_toEntryS_l0_o0 z70))) : Option (shDen laws_toEntryS_sh)) := by kernel_rfl

theorem laws_toEntryS_l0_exit0 (k : Nat)  (z70 : (List (List Int × (List Int × Unit)))) : ((blkK 0 (seqK (execK (laws_toEntryS_cx k) (callK (laws_toEntryS_cx k) 8) 0 29 (sub laws_toEntryS_c [1, 1, 1])) (finK (laws_toEntryS_cx k) laws_toEntryS_i laws_toEntryS_sh))) (.exit 0) (laws_toEntryS_l0_o0 z70) : Option (shDen laws_toEntryS_sh)) =
 ((some z70) : Option (shDen laws_toEntryS_sh)) := by kernel_rfl

theorem laws_toEntryS_l0_congr (ke0 : (List (List Int × (List Int × Unit))) → Option (shDen laws_toEntryS_sh)) (ke0' : (List (List Int × (List Int × Unit))) → Option (shDen laws_toEntryS_sh)) (a0 : (List (List Int × (List Int × Unit)))) (n : Nat) (x4 : Int) (z70 : (List (List Int × (List Int × Unit)))) (hke0 : ∀ z70, ke0 z70 = ke0' z70) : laws_toEntryS_l0_L ke0 a0 n x4 z70 = laws_toEntryS_l0_L ke0' a0 n x4 z70 := by
 have : ke0 = ke0' := (by funext z70; exact hke0 z70); subst this; rfl

theorem laws_toEntryS_l0_L_eq (K : Ex → St → Option (shDen laws_toEntryS_sh)) (a0 : (List (List Int × (List Int × Unit)))) : ∀ (n : Nat) (x4 : Int) (z70 : (List (List Int × (List Int × Unit)))), (loopK (laws_toEntryS_cx FUEL) 0 (execK (laws_toEntryS_cx FUEL) (callK (laws_toEntryS_cx FUEL) 8) 0 29 (sub laws_toEntryS_c [1, 1, 0, 1, 0, 0])) laws_toEntryS_l0_cut K n (laws_toEntryS_l0_s a0 x4 z70) : Option (shDen laws_toEntryS_sh)) = laws_toEntryS_l0_L (fun z70 => K (.exit 0) (laws_toEntryS_l0_o0 z70)) a0 n x4 z70 := by
 intro n
 induction n with
 | zero => intros; rfl
 | succ n ih =>
  intro x4 z70
  exact (laws_toEntryS_l0_round FUEL K n a0 x4 z70).trans (condC (condC (bindC (fun b2 => condC (ih (IntKind.wrap .i64 (x4 + (1 : Int))) (z70.set (x4.toNat) b2)) (rfl))) (rfl)) (rfl))

theorem laws_toEntryS_start (k : Nat) (a0 : (List (List Int × (List Int × Unit)))) : fnK (laws_toEntryS_cx k) 8 29 laws_toEntryS_i laws_toEntryS_sh [.pv (.slice (.pair .str (.pair .str .unit))) a0] =
 ((cond (((decide ((0 : Int) ≤ (a0.length : Int))) && (decide (((a0.length : Int) * (32 : Int)) ≤ (140737488355328 : Int)))) && (decide ((a0.length : Int) ≤ (9223372036854775807 : Int))))
 (loopK (laws_toEntryS_cx k) 0 (execK (laws_toEntryS_cx k) (callK (laws_toEntryS_cx k) 8) 0 29 (sub laws_toEntryS_c [1, 1, 0, 1, 0, 0])) laws_toEntryS_l0_cut (blkK 0 (seqK (execK (laws_toEntryS_cx k) (callK (laws_toEntryS_cx k) 8) 0 29 (sub laws_toEntryS_c [1, 1, 1])) (finK (laws_toEntryS_cx k) laws_toEntryS_i laws_toEntryS_sh))) k (laws_toEntryS_l0_s a0 (0 : Int) (List.replicate ((a0.length : Int).toNat) ([], ([], ())))))
 none) : Option (shDen laws_toEntryS_sh)) := by kernel_rfl

theorem laws_toEntryS_run (a0 : (List (List Int × (List Int × Unit)))) : fnK (laws_toEntryS_cx FUEL) 8 29 laws_toEntryS_i laws_toEntryS_sh [.pv (.slice (.pair .str (.pair .str .unit))) a0] = laws_toEntryS_r a0 :=
 (laws_toEntryS_start FUEL a0).trans (condC ((laws_toEntryS_l0_L_eq _ a0 FUEL (0 : Int) (List.replicate ((a0.length : Int).toNat) ([], ([], ())))).trans (laws_toEntryS_l0_congr _ _ a0 FUEL (0 : Int) (List.replicate ((a0.length : Int).toNat) ([], ([], ()))) (fun z70 => (laws_toEntryS_l0_exit0 FUEL  z70).trans (rfl)))) (rfl))

noncomputable def laws_toEntryS_con : Con := { ps := (.pair (.slice (.pair .str (.pair .str .unit))) .unit), sh := laws_toEntryS_sh, raw := fun x => laws_toEntryS_r x.1 }
theorem laws_toEntryS_conOk : ConOk Try.prog 29 laws_toEntryS_con := con_of_fn (laws_toEntryS_tabs FUEL) (depth := 8) laws_toEntryS_ok fun x y h => (laws_toEntryS_run x.1).trans h

noncomputable def spec_l00In_inls : List (Nat × Inl) := []
noncomputable def spec_l00In_cons : List (Nat × Con) := []
noncomputable def spec_l00In_taks : List (Nat × ConT) := []
noncomputable def spec_l00In_inps : List (Nat × ConI) := []
noncomputable def spec_l00In_cuts : List (Nat × List (Nat × Cut)) := []
noncomputable def spec_l00In_cx (k : Nat) : Cx := mkCx tys tbytes telem nozero (Ai.look spec_l00In_inls) (Ai.look spec_l00In_cons) (Ai.look spec_l00In_taks) (Ai.look spec_l00In_inps) (fun f id => match Ai.look spec_l00In_cuts f with | some l => Ai.look l id | none => none) k []
theorem spec_l00In_tabs (k : Nat) : TabsOk Try.prog (spec_l00In_cx k) := ⟨tab_mk tabs_ok _ _ _ _ _ _ _, look_all (Q := ConOk Try.prog) _ trivial, look_all (Q := TakOk Try.prog) _ trivial, look_all (Q := InpOk Try.prog) _ trivial, look_all (Q := InlOk Try.prog) _ trivial, mixed_ok⟩
abbrev spec_l00In_sh : List Sh := [.pl .bool]
noncomputable def spec_l00In_r (a0 : Int) (a1 : Int) (a2 : Int) : Option (shDen spec_l00In_sh) :=
 (cond (decide (a1 ≤ a0))
 (some (decide (a0 ≤ a2)))
 (some false))
theorem spec_l00In_start (k : Nat) (a0 : Int) (a1 : Int) (a2 : Int) : fnK (spec_l00In_cx k) 8 120 spec_l00In_i spec_l00In_sh [.pv (.int .i64) a0, .pv (.int .i64) a1, .pv (.int .i64) a2] =
 ((cond (decide (a1 ≤ a0))
 (some (decide (a0 ≤ a2)))
 (some false)) : Option (shDen spec_l00In_sh)) := by kernel_rfl

theorem spec_l00In_run (a0 : Int) (a1 : Int) (a2 : Int) : fnK (spec_l00In_cx FUEL) 8 120 spec_l00In_i spec_l00In_sh [.pv (.int .i64) a0, .pv (.int .i64) a1, .pv (.int .i64) a2] = spec_l00In_r a0 a1 a2 :=
 (spec_l00In_start FUEL a0 a1 a2).trans (rfl)

noncomputable def spec_l00In_con : Con := { ps := (.pair (.int .i64) (.pair (.int .i64) (.pair (.int .i64) .unit))), sh := spec_l00In_sh, raw := fun x => spec_l00In_r x.1 x.2.1 x.2.2.1 }
theorem spec_l00In_conOk : ConOk Try.prog 120 spec_l00In_con := con_of_fn (spec_l00In_tabs FUEL) (depth := 8) spec_l00In_ok fun x y h => (spec_l00In_run x.1 x.2.1 x.2.2.1).trans h

noncomputable def spec_l04Name_inls : List (Nat × Inl) := []
noncomputable def spec_l04Name_cons : List (Nat × Con) := [(120, spec_l00In_con)]
noncomputable def spec_l04Name_taks : List (Nat × ConT) := []
noncomputable def spec_l04Name_inps : List (Nat × ConI) := []
noncomputable def spec_l04Name_cuts : List (Nat × List (Nat × Cut)) := []
noncomputable def spec_l04Name_cx (k : Nat) : Cx := mkCx tys tbytes telem nozero (Ai.look spec_l04Name_inls) (Ai.look spec_l04Name_cons) (Ai.look spec_l04Name_taks) (Ai.look spec_l04Name_inps) (fun f id => match Ai.look spec_l04Name_cuts f with | some l => Ai.look l id | none => none) k []
theorem spec_l04Name_tabs (k : Nat) : TabsOk Try.prog (spec_l04Name_cx k) := ⟨tab_mk tabs_ok _ _ _ _ _ _ _, look_all (Q := ConOk Try.prog) _ ⟨spec_l00In_conOk, trivial⟩, look_all (Q := TakOk Try.prog) _ trivial, look_all (Q := InpOk Try.prog) _ trivial, look_all (Q := InlOk Try.prog) _ trivial, mixed_ok⟩
abbrev spec_l04Name_sh : List Sh := [.pl .bool]
noncomputable def spec_l04Name_r (a0 : List Int) : Option (shDen spec_l04Name_sh) :=
 (bindO (spec_l00In_r (a0.length : Int) (1 : Int) (24 : Int)) fun (b1 : Bool) => (some b1))
theorem spec_l04Name_start (k : Nat) (a0 : List Int) : fnK (spec_l04Name_cx k) 8 138 spec_l04Name_i spec_l04Name_sh [.pv .str a0] =
 ((bindO (spec_l00In_r (a0.length : Int) (1 : Int) (24 : Int)) fun (b1 : Bool) => (some b1)) : Option (shDen spec_l04Name_sh)) := by kernel_rfl

theorem spec_l04Name_run (a0 : List Int) : fnK (spec_l04Name_cx FUEL) 8 138 spec_l04Name_i spec_l04Name_sh [.pv .str a0] = spec_l04Name_r a0 :=
 (spec_l04Name_start FUEL a0).trans (rfl)

noncomputable def spec_l04Name_con : Con := { ps := (.pair .str .unit), sh := spec_l04Name_sh, raw := fun x => spec_l04Name_r x.1 }
theorem spec_l04Name_conOk : ConOk Try.prog 138 spec_l04Name_con := con_of_fn (spec_l04Name_tabs FUEL) (depth := 8) spec_l04Name_ok fun x y h => (spec_l04Name_run x.1).trans h

noncomputable def spec_l04Entry_inls : List (Nat × Inl) := []
noncomputable def spec_l04Entry_cons : List (Nat × Con) := [(138, spec_l04Name_con)]
noncomputable def spec_l04Entry_taks : List (Nat × ConT) := []
noncomputable def spec_l04Entry_inps : List (Nat × ConI) := []
noncomputable def spec_l04Entry_cuts : List (Nat × List (Nat × Cut)) := []
noncomputable def spec_l04Entry_cx (k : Nat) : Cx := mkCx tys tbytes telem nozero (Ai.look spec_l04Entry_inls) (Ai.look spec_l04Entry_cons) (Ai.look spec_l04Entry_taks) (Ai.look spec_l04Entry_inps) (fun f id => match Ai.look spec_l04Entry_cuts f with | some l => Ai.look l id | none => none) k []
theorem spec_l04Entry_tabs (k : Nat) : TabsOk Try.prog (spec_l04Entry_cx k) := ⟨tab_mk tabs_ok _ _ _ _ _ _ _, look_all (Q := ConOk Try.prog) _ ⟨spec_l04Name_conOk, trivial⟩, look_all (Q := TakOk Try.prog) _ trivial, look_all (Q := InpOk Try.prog) _ trivial, look_all (Q := InlOk Try.prog) _ trivial, mixed_ok⟩
abbrev spec_l04Entry_sh : List Sh := [.pl .bool]
noncomputable def spec_l04Entry_r (a0 : (List Int × (List Int × Unit))) : Option (shDen spec_l04Entry_sh) :=
 (bindO (spec_l04Name_r a0.1) fun (b1 : Bool) => (cond b1
 (some (decide ((a0.2.1.length : Int) ≤ (64 : Int))))
 (some false)))
theorem spec_l04Entry_start (k : Nat) (a0 : (List Int × (List Int × Unit))) : fnK (spec_l04Entry_cx k) 8 127 spec_l04Entry_i spec_l04Entry_sh [.pv (.ref (.pair .str (.pair .str .unit))) a0] =
 ((bindO (spec_l04Name_r a0.1) fun (b1 : Bool) => (cond b1
 (some (decide ((a0.2.1.length : Int) ≤ (64 : Int))))
 (some false))) : Option (shDen spec_l04Entry_sh)) := by kernel_rfl

theorem spec_l04Entry_run (a0 : (List Int × (List Int × Unit))) : fnK (spec_l04Entry_cx FUEL) 8 127 spec_l04Entry_i spec_l04Entry_sh [.pv (.ref (.pair .str (.pair .str .unit))) a0] = spec_l04Entry_r a0 :=
 (spec_l04Entry_start FUEL a0).trans (rfl)

noncomputable def spec_l04Entry_con : Con := { ps := (.pair (.ref (.pair .str (.pair .str .unit))) .unit), sh := spec_l04Entry_sh, raw := fun x => spec_l04Entry_r x.1 }
theorem spec_l04Entry_conOk : ConOk Try.prog 127 spec_l04Entry_con := con_of_fn (spec_l04Entry_tabs FUEL) (depth := 8) spec_l04Entry_ok fun x y h => (spec_l04Entry_run x.1).trans h

noncomputable def spec_l04Ok_l0_cut : Cut := { keep := [0, 3], stk := [], ids := [], own := [], outs := [(0, [2], []), (1, [0], [])] }
noncomputable def spec_l04Ok_inls : List (Nat × Inl) := []
noncomputable def spec_l04Ok_cons : List (Nat × Con) := [(127, spec_l04Entry_con)]
noncomputable def spec_l04Ok_taks : List (Nat × ConT) := []
noncomputable def spec_l04Ok_inps : List (Nat × ConI) := []
noncomputable def spec_l04Ok_cuts : List (Nat × List (Nat × Cut)) := [(107, [(0, spec_l04Ok_l0_cut)])]
noncomputable def spec_l04Ok_cx (k : Nat) : Cx := mkCx tys tbytes telem nozero (Ai.look spec_l04Ok_inls) (Ai.look spec_l04Ok_cons) (Ai.look spec_l04Ok_taks) (Ai.look spec_l04Ok_inps) (fun f id => match Ai.look spec_l04Ok_cuts f with | some l => Ai.look l id | none => none) k []
theorem spec_l04Ok_tabs (k : Nat) : TabsOk Try.prog (spec_l04Ok_cx k) := ⟨tab_mk tabs_ok _ _ _ _ _ _ _, look_all (Q := ConOk Try.prog) _ ⟨spec_l04Entry_conOk, trivial⟩, look_all (Q := TakOk Try.prog) _ trivial, look_all (Q := InpOk Try.prog) _ trivial, look_all (Q := InlOk Try.prog) _ trivial, mixed_ok⟩
abbrev spec_l04Ok_sh : List Sh := [.pl .bool]
noncomputable def spec_l04Ok_l0_s (a0 : (List (List Int × (List Int × Unit)))) (x3 : Int) : St := { env := [.pv (.slice (.pair .str (.pair .str .unit))) a0, .dead, .dead, .pv (.int .i64) x3, .dead, .dead, .dead, .dead, .dead, .dead, .dead, .dead, .dead, .dead, .dead, .dead, .dead, .dead, .dead, .dead, .dead, .dead, .dead, .dead, .dead, .dead, .dead, .dead, .dead, .dead, .dead, .dead, .dead, .dead, .dead, .dead], stk := [], heap := [] }
noncomputable def spec_l04Ok_l0_o  : St := { env := [.dead, .dead, .pv .bool false, .dead, .dead, .dead, .dead, .dead, .dead, .dead, .dead, .dead, .dead, .dead, .dead, .dead, .dead, .dead, .dead, .dead, .dead, .dead, .dead, .dead, .dead, .dead, .dead, .dead, .dead, .dead, .dead, .dead, .dead, .dead, .dead, .dead], stk := [], heap := [] }
noncomputable def spec_l04Ok_l0_o0 (a0 : (List (List Int × (List Int × Unit)))) : St := { env := [.pv (.slice (.pair .str (.pair .str .unit))) a0, .dead, .dead, .dead, .dead, .dead, .dead, .dead, .dead, .dead, .dead, .dead, .dead, .dead, .dead, .dead, .dead, .dead, .dead, .dead, .dead, .dead, .dead, .dead, .dead, .dead, .dead, .dead, .dead, .dead, .dead, .dead, .dead, .dead, .dead, .dead], stk := [], heap := [] }
noncomputable def spec_l04Ok_l0_b (rec : Int → Option (shDen spec_l04Ok_sh)) (kr : Option (shDen spec_l04Ok_sh)) (ke0 : Option (shDen spec_l04Ok_sh)) (a0 : (List (List Int × (List Int × Unit)))) (x3 : Int) : Option (shDen spec_l04Ok_sh) :=
 (cond (decide (x3 < (a0.length : Int)))
 (cond ((decide ((0 : Int) ≤ x3)) && (decide (x3 < (a0.length : Int))))
 (bindO (spec_l04Entry_r (a0.getD (x3.toNat) ([], ([], ())))) fun (b2 : Bool) => (cond (!b2)
 (kr)
 (cond (decide ((0 : Int) < x3))
 (cond ((decide ((0 : Int) ≤ (IntKind.wrap .i64 (x3 - (1 : Int))))) && (decide ((IntKind.wrap .i64 (x3 - (1 : Int))) < (a0.length : Int))))
 (cond ((decide ((0 : Int) ≤ x3)) && (decide (x3 < (a0.length : Int))))
 (cond (!(ltI ((a0.getD ((IntKind.wrap .i64 (x3 - (1 : Int))).toNat) ([], ([], ()))).1) ((a0.getD (x3.toNat) ([], ([], ()))).1)))
 (kr)
 (rec (IntKind.wrap .i64 (x3 + (1 : Int)))))
 none)
 none)
 (rec (IntKind.wrap .i64 (x3 + (1 : Int)))))))
 none)
 (ke0))
noncomputable def spec_l04Ok_l0_L (kr : Option (shDen spec_l04Ok_sh)) (ke0 : Option (shDen spec_l04Ok_sh)) (a0 : (List (List Int × (List Int × Unit)))) : Nat → Int → Option (shDen spec_l04Ok_sh)
 | 0 => fun _ => none
 | n + 1 => spec_l04Ok_l0_b (spec_l04Ok_l0_L kr ke0 a0 n) kr ke0 a0
noncomputable def spec_l04Ok_r (a0 : (List (List Int × (List Int × Unit)))) : Option (shDen spec_l04Ok_sh) :=
 (spec_l04Ok_l0_L (some false) (some (decide ((a0.length : Int) ≤ (64 : Int)))) a0 FUEL (0 : Int))
theorem spec_l04Ok_l0_round (k : Nat) (K : Ex → St → Option (shDen spec_l04Ok_sh)) (n : Nat) (a0 : (List (List Int × (List Int × Unit)))) (x3 : Int) : (loopK (spec_l04Ok_cx k) 0 (execK (spec_l04Ok_cx k) (callK (spec_l04Ok_cx k) 8) 0 107 (sub spec_l04Ok_c [1, 0, 1, 0, 0])) spec_l04Ok_l0_cut K (n + 1) (spec_l04Ok_l0_s a0 x3) : Option (shDen spec_l04Ok_sh)) =
 ((cond (decide (x3 < (a0.length : Int)))
 (cond ((decide ((0 : Int) ≤ x3)) && (decide (x3 < (a0.length : Int))))
 (bindO (spec_l04Entry_r (a0.getD (x3.toNat) ([], ([], ())))) fun (b2 : Bool) => (cond (!b2)
 (K .ret (spec_l04Ok_l0_o ))
 (cond (decide ((0 : Int) < x3))
 (cond ((decide ((0 : Int) ≤ (IntKind.wrap .i64 (x3 - (1 : Int))))) && (decide ((IntKind.wrap .i64 (x3 - (1 : Int))) < (a0.length : Int))))
 (cond ((decide ((0 : Int) ≤ x3)) && (decide (x3 < (a0.length : Int))))
 (cond (!(ltI ((a0.getD ((IntKind.wrap .i64 (x3 - (1 : Int))).toNat) ([], ([], ()))).1) ((a0.getD (x3.toNat) ([], ([], ()))).1)))
 (K .ret (spec_l04Ok_l0_o ))
 (loopK (spec_l04Ok_cx k) 0 (execK (spec_l04Ok_cx k) (callK (spec_l04Ok_cx k) 8) 0 107 (sub spec_l04Ok_c [1, 0, 1, 0, 0])) spec_l04Ok_l0_cut K n (spec_l04Ok_l0_s a0 (IntKind.wrap .i64 (x3 + (1 : Int))))))
 none)
 none)
 (loopK (spec_l04Ok_cx k) 0 (execK (spec_l04Ok_cx k) (callK (spec_l04Ok_cx k) 8) 0 107 (sub spec_l04Ok_c [1, 0, 1, 0, 0])) spec_l04Ok_l0_cut K n (spec_l04Ok_l0_s a0 (IntKind.wrap .i64 (x3 + (1 : Int))))))))
 none)
 (K (.exit 0) (spec_l04Ok_l0_o0 a0))) : Option (shDen spec_l04Ok_sh)) := by kernel_rfl

theorem spec_l04Ok_l0_ret (k : Nat)   : ((blkK 0 (seqK (execK (spec_l04Ok_cx k) (callK (spec_l04Ok_cx k) 8) 0 107 (sub spec_l04Ok_c [1, 1])) (finK (spec_l04Ok_cx k) spec_l04Ok_i spec_l04Ok_sh))) .ret (spec_l04Ok_l0_o) : Option (shDen spec_l04Ok_sh)) =
 ((some false) : Option (shDen spec_l04Ok_sh)) := by kernel_rfl

theorem spec_l04Ok_l0_exit0 (k : Nat)  (a0 : (List (List Int × (List Int × Unit)))) : ((blkK 0 (seqK (execK (spec_l04Ok_cx k) (callK (spec_l04Ok_cx k) 8) 0 107 (sub spec_l04Ok_c [1, 1])) (finK (spec_l04Ok_cx k) spec_l04Ok_i spec_l04Ok_sh))) (.exit 0) (spec_l04Ok_l0_o0 a0) : Option (shDen spec_l04Ok_sh)) =
 ((some (decide ((a0.length : Int) ≤ (64 : Int)))) : Option (shDen spec_l04Ok_sh)) := by kernel_rfl

theorem spec_l04Ok_l0_congr (kr : Option (shDen spec_l04Ok_sh)) (ke0 : Option (shDen spec_l04Ok_sh)) (kr' : Option (shDen spec_l04Ok_sh)) (ke0' : Option (shDen spec_l04Ok_sh)) (a0 : (List (List Int × (List Int × Unit)))) (n : Nat) (x3 : Int) (hkr : ∀ (_ : Unit), kr  = kr' ) (hke0 : ∀ (_ : Unit), ke0  = ke0' ) : spec_l04Ok_l0_L kr ke0 a0 n x3 = spec_l04Ok_l0_L kr' ke0' a0 n x3 := by
 have : kr = kr' := hkr (); subst this; have : ke0 = ke0' := hke0 (); subst this; rfl

theorem spec_l04Ok_l0_L_eq (K : Ex → St → Option (shDen spec_l04Ok_sh)) (a0 : (List (List Int × (List Int × Unit)))) : ∀ (n : Nat) (x3 : Int), (loopK (spec_l04Ok_cx FUEL) 0 (execK (spec_l04Ok_cx FUEL) (callK (spec_l04Ok_cx FUEL) 8) 0 107 (sub spec_l04Ok_c [1, 0, 1, 0, 0])) spec_l04Ok_l0_cut K n (spec_l04Ok_l0_s a0 x3) : Option (shDen spec_l04Ok_sh)) = spec_l04Ok_l0_L (K .ret (spec_l04Ok_l0_o)) (K (.exit 0) (spec_l04Ok_l0_o0 a0)) a0 n x3 := by
 intro n
 induction n with
 | zero => intros; rfl
 | succ n ih =>
  intro x3
  exact (spec_l04Ok_l0_round FUEL K n a0 x3).trans (condC (condC (bindC (fun b2 => condC (rfl) (condC (condC (condC (condC (rfl) (ih (IntKind.wrap .i64 (x3 + (1 : Int))))) (rfl)) (rfl)) (ih (IntKind.wrap .i64 (x3 + (1 : Int))))))) (rfl)) (rfl))

theorem spec_l04Ok_start (k : Nat) (a0 : (List (List Int × (List Int × Unit)))) : fnK (spec_l04Ok_cx k) 8 107 spec_l04Ok_i spec_l04Ok_sh [.pv (.slice (.pair .str (.pair .str .unit))) a0] =
 ((loopK (spec_l04Ok_cx k) 0 (execK (spec_l04Ok_cx k) (callK (spec_l04Ok_cx k) 8) 0 107 (sub spec_l04Ok_c [1, 0, 1, 0, 0])) spec_l04Ok_l0_cut (blkK 0 (seqK (execK (spec_l04Ok_cx k) (callK (spec_l04Ok_cx k) 8) 0 107 (sub spec_l04Ok_c [1, 1])) (finK (spec_l04Ok_cx k) spec_l04Ok_i spec_l04Ok_sh))) k (spec_l04Ok_l0_s a0 (0 : Int))) : Option (shDen spec_l04Ok_sh)) := by kernel_rfl

theorem spec_l04Ok_run (a0 : (List (List Int × (List Int × Unit)))) : fnK (spec_l04Ok_cx FUEL) 8 107 spec_l04Ok_i spec_l04Ok_sh [.pv (.slice (.pair .str (.pair .str .unit))) a0] = spec_l04Ok_r a0 :=
 (spec_l04Ok_start FUEL a0).trans ((spec_l04Ok_l0_L_eq _ a0 FUEL (0 : Int)).trans (spec_l04Ok_l0_congr _ _ _ _ a0 FUEL (0 : Int) (fun _ => (spec_l04Ok_l0_ret FUEL  ).trans (rfl)) (fun _ => (spec_l04Ok_l0_exit0 FUEL  a0).trans (rfl))))

noncomputable def spec_l04Ok_con : Con := { ps := (.pair (.slice (.pair .str (.pair .str .unit))) .unit), sh := spec_l04Ok_sh, raw := fun x => spec_l04Ok_r x.1 }
theorem spec_l04Ok_conOk : ConOk Try.prog 107 spec_l04Ok_con := con_of_fn (spec_l04Ok_tabs FUEL) (depth := 8) spec_l04Ok_ok fun x y h => (spec_l04Ok_run x.1).trans h

noncomputable def spec_ValidEntries_inls : List (Nat × Inl) := []
noncomputable def spec_ValidEntries_cons : List (Nat × Con) := [(107, spec_l04Ok_con)]
noncomputable def spec_ValidEntries_taks : List (Nat × ConT) := []
noncomputable def spec_ValidEntries_inps : List (Nat × ConI) := []
noncomputable def spec_ValidEntries_cuts : List (Nat × List (Nat × Cut)) := []
noncomputable def spec_ValidEntries_cx (k : Nat) : Cx := mkCx tys tbytes telem nozero (Ai.look spec_ValidEntries_inls) (Ai.look spec_ValidEntries_cons) (Ai.look spec_ValidEntries_taks) (Ai.look spec_ValidEntries_inps) (fun f id => match Ai.look spec_ValidEntries_cuts f with | some l => Ai.look l id | none => none) k []
theorem spec_ValidEntries_tabs (k : Nat) : TabsOk Try.prog (spec_ValidEntries_cx k) := ⟨tab_mk tabs_ok _ _ _ _ _ _ _, look_all (Q := ConOk Try.prog) _ ⟨spec_l04Ok_conOk, trivial⟩, look_all (Q := TakOk Try.prog) _ trivial, look_all (Q := InpOk Try.prog) _ trivial, look_all (Q := InlOk Try.prog) _ trivial, mixed_ok⟩
abbrev spec_ValidEntries_sh : List Sh := [.pl .bool]
noncomputable def spec_ValidEntries_r (a0 : (List (List Int × (List Int × Unit)))) : Option (shDen spec_ValidEntries_sh) :=
 (bindO (spec_l04Ok_r a0) fun (b1 : Bool) => (some b1))
theorem spec_ValidEntries_start (k : Nat) (a0 : (List (List Int × (List Int × Unit)))) : fnK (spec_ValidEntries_cx k) 8 71 spec_ValidEntries_i spec_ValidEntries_sh [.pv (.slice (.pair .str (.pair .str .unit))) a0] =
 ((bindO (spec_l04Ok_r a0) fun (b1 : Bool) => (some b1)) : Option (shDen spec_ValidEntries_sh)) := by kernel_rfl

theorem spec_ValidEntries_run (a0 : (List (List Int × (List Int × Unit)))) : fnK (spec_ValidEntries_cx FUEL) 8 71 spec_ValidEntries_i spec_ValidEntries_sh [.pv (.slice (.pair .str (.pair .str .unit))) a0] = spec_ValidEntries_r a0 :=
 (spec_ValidEntries_start FUEL a0).trans (rfl)

noncomputable def spec_ValidEntries_con : Con := { ps := (.pair (.slice (.pair .str (.pair .str .unit))) .unit), sh := spec_ValidEntries_sh, raw := fun x => spec_ValidEntries_r x.1 }
theorem spec_ValidEntries_conOk : ConOk Try.prog 71 spec_ValidEntries_con := con_of_fn (spec_ValidEntries_tabs FUEL) (depth := 8) spec_ValidEntries_ok fun x y h => (spec_ValidEntries_run x.1).trans h

noncomputable def spec_l07Names_l0_cut : Cut := { keep := [7, 8, 9], stk := [], ids := [110, 90080], own := [(8, 90080, 152)], outs := [(1, [8], [90080])] }
noncomputable def spec_l07Names_l1_cut : Cut := { keep := [7, 8, 9, 10], stk := [], ids := [110, 90080], own := [], outs := [(3, [7, 8, 9, 10], [110, 90080])] }
noncomputable def spec_l07Names_inls : List (Nat × Inl) := []
noncomputable def spec_l07Names_cons : List (Nat × Con) := []
noncomputable def spec_l07Names_taks : List (Nat × ConT) := []
noncomputable def spec_l07Names_inps : List (Nat × ConI) := []
noncomputable def spec_l07Names_cuts : List (Nat × List (Nat × Cut)) := [(112, [(0, spec_l07Names_l0_cut), (2, spec_l07Names_l1_cut)])]
noncomputable def spec_l07Names_cx (k : Nat) : Cx := mkCx tys tbytes telem nozero (Ai.look spec_l07Names_inls) (Ai.look spec_l07Names_cons) (Ai.look spec_l07Names_taks) (Ai.look spec_l07Names_inps) (fun f id => match Ai.look spec_l07Names_cuts f with | some l => Ai.look l id | none => none) k []
theorem spec_l07Names_tabs (k : Nat) : TabsOk Try.prog (spec_l07Names_cx k) := ⟨tab_mk tabs_ok _ _ _ _ _ _ _, look_all (Q := ConOk Try.prog) _ trivial, look_all (Q := TakOk Try.prog) _ trivial, look_all (Q := InpOk Try.prog) _ trivial, look_all (Q := InlOk Try.prog) _ trivial, mixed_ok⟩
abbrev spec_l07Names_sh : List Sh := [.own 9 .str]
noncomputable def spec_l07Names_l0_s (a0 : (List (List Int × (List Int × Unit)))) (a1 : (List (List Int × (List Int × Unit)))) (a2 : (List (List Int × (List Int × Unit)))) (x9 : Int) (z90080 : (List (List Int))) : St := { env := [.dead, .dead, .dead, .dead, .dead, .dead, .dead, .sl 110 (.pair .str (.pair .str .unit)), .sl 90080 .str, .pv (.int .i64) x9, .dead, .dead, .dead, .dead, .dead, .dead, .dead, .dead, .dead, .dead, .dead, .dead, .dead, .dead, .dead, .dead, .dead, .dead, .dead, .dead, .dead, .dead, .dead, .dead, .dead, .dead, .dead, .dead, .dead, .dead, .dead, .dead, .dead, .dead, .dead, .dead, .dead, .dead, .dead, .dead, .dead, .dead, .dead, .dead, .dead, .dead, .dead, .dead, .dead, .dead, .dead, .dead, .dead, .dead, .dead, .dead, .dead, .dead, .dead, .dead, .dead, .dead, .dead, .dead, .dead, .dead], stk := [], heap := [(110, .arr 108 (.pair .str (.pair .str .unit)) ((([] ++ a0) ++ a1) ++ a2)), (90080, .arr 9 .str z90080)] }
noncomputable def spec_l07Names_l0_o0 (z90080 : (List (List Int))) : St := { env := [.dead, .dead, .dead, .dead, .dead, .dead, .dead, .dead, .sl 90080 .str, .dead, .dead, .dead, .dead, .dead, .dead, .dead, .dead, .dead, .dead, .dead, .dead, .dead, .dead, .dead, .dead, .dead, .dead, .dead, .dead, .dead, .dead, .dead, .dead, .dead, .dead, .dead, .dead, .dead, .dead, .dead, .dead, .dead, .dead, .dead, .dead, .dead, .dead, .dead, .dead, .dead, .dead, .dead, .dead, .dead, .dead, .dead, .dead, .dead, .dead, .dead, .dead, .dead, .dead, .dead, .dead, .dead, .dead, .dead, .dead, .dead, .dead, .dead, .dead, .dead, .dead, .dead], stk := [], heap := [(90080, .arr 9 .str z90080)] }
noncomputable def spec_l07Names_l1_s (a0 : (List (List Int × (List Int × Unit)))) (a1 : (List (List Int × (List Int × Unit)))) (a2 : (List (List Int × (List Int × Unit)))) (x9 : Int) (z90080 : (List (List Int))) (x10 : Int) : St := { env := [.dead, .dead, .dead, .dead, .dead, .dead, .dead, .sl 110 (.pair .str (.pair .str .unit)), .sl 90080 .str, .pv (.int .i64) x9, .pv (.int .i64) x10, .dead, .dead, .dead, .dead, .dead, .dead, .dead, .dead, .dead, .dead, .dead, .dead, .dead, .dead, .dead, .dead, .dead, .dead, .dead, .dead, .dead, .dead, .dead, .dead, .dead, .dead, .dead, .dead, .dead, .dead, .dead, .dead, .dead, .dead, .dead, .dead, .dead, .dead, .dead, .dead, .dead, .dead, .dead, .dead, .dead, .dead, .dead, .dead, .dead, .dead, .dead, .dead, .dead, .dead, .dead, .dead, .dead, .dead, .dead, .dead, .dead, .dead, .dead, .dead, .dead], stk := [], heap := [(110, .arr 108 (.pair .str (.pair .str .unit)) ((([] ++ a0) ++ a1) ++ a2)), (90080, .arr 9 .str z90080)] }
noncomputable def spec_l07Names_l1_o2 (a0 : (List (List Int × (List Int × Unit)))) (a1 : (List (List Int × (List Int × Unit)))) (a2 : (List (List Int × (List Int × Unit)))) (x9 : Int) (z90080 : (List (List Int))) (x10 : Int) : St := { env := [.dead, .dead, .dead, .dead, .dead, .dead, .dead, .sl 110 (.pair .str (.pair .str .unit)), .sl 90080 .str, .pv (.int .i64) x9, .pv (.int .i64) x10, .dead, .dead, .dead, .dead, .dead, .dead, .dead, .dead, .dead, .dead, .dead, .dead, .dead, .dead, .dead, .dead, .dead, .dead, .dead, .dead, .dead, .dead, .dead, .dead, .dead, .dead, .dead, .dead, .dead, .dead, .dead, .dead, .dead, .dead, .dead, .dead, .dead, .dead, .dead, .dead, .dead, .dead, .dead, .dead, .dead, .dead, .dead, .dead, .dead, .dead, .dead, .dead, .dead, .dead, .dead, .dead, .dead, .dead, .dead, .dead, .dead, .dead, .dead, .dead, .dead], stk := [], heap := [(110, .arr 108 (.pair .str (.pair .str .unit)) ((([] ++ a0) ++ a1) ++ a2)), (90080, .arr 9 .str z90080)] }
noncomputable def spec_l07Names_l1_b (rec : Int → Option (shDen spec_l07Names_sh)) (ke2 : Int → Option (shDen spec_l07Names_sh)) (a0 : (List (List Int × (List Int × Unit)))) (a1 : (List (List Int × (List Int × Unit)))) (a2 : (List (List Int × (List Int × Unit)))) (x9 : Int) (z90080 : (List (List Int))) (x10 : Int) : Option (shDen spec_l07Names_sh) :=
 (cond (decide (x10 < (z90080.length : Int)))
 (cond ((decide ((0 : Int) ≤ x10)) && (decide (x10 < (z90080.length : Int))))
 (cond ((decide ((0 : Int) ≤ x9)) && (decide (x9 < (((([] ++ a0) ++ a1) ++ a2).length : Int))))
 (cond (ltI (z90080.getD (x10.toNat) []) ((((([] ++ a0) ++ a1) ++ a2).getD (x9.toNat) ([], ([], ()))).1))
 (rec (IntKind.wrap .i64 (x10 + (1 : Int))))
 (ke2 x10))
 none)
 none)
 (ke2 x10))
noncomputable def spec_l07Names_l1_L (ke2 : Int → Option (shDen spec_l07Names_sh)) (a0 : (List (List Int × (List Int × Unit)))) (a1 : (List (List Int × (List Int × Unit)))) (a2 : (List (List Int × (List Int × Unit)))) (x9 : Int) (z90080 : (List (List Int))) : Nat → Int → Option (shDen spec_l07Names_sh)
 | 0 => fun _ => none
 | n + 1 => spec_l07Names_l1_b (spec_l07Names_l1_L ke2 a0 a1 a2 x9 z90080 n) ke2 a0 a1 a2 x9 z90080
noncomputable def spec_l07Names_l0_b (rec : Int → (List (List Int)) → Option (shDen spec_l07Names_sh)) (ke0 : (List (List Int)) → Option (shDen spec_l07Names_sh)) (a0 : (List (List Int × (List Int × Unit)))) (a1 : (List (List Int × (List Int × Unit)))) (a2 : (List (List Int × (List Int × Unit)))) (x9 : Int) (z90080 : (List (List Int))) : Option (shDen spec_l07Names_sh) :=
 (cond (decide (x9 < (((([] ++ a0) ++ a1) ++ a2).length : Int)))
 (spec_l07Names_l1_L (fun x10 => (cond (decide (x10 < (z90080.length : Int)))
 (cond ((decide ((0 : Int) ≤ x10)) && (decide (x10 < (z90080.length : Int))))
 (cond ((decide ((0 : Int) ≤ x9)) && (decide (x9 < (((([] ++ a0) ++ a1) ++ a2).length : Int))))
 (cond (decide ((z90080.getD (x10.toNat) []) = (((([] ++ a0) ++ a1) ++ a2).getD (x9.toNat) ([], ([], ()))).1))
 (rec (IntKind.wrap .i64 (x9 + (1 : Int))) z90080)
 (cond ((decide ((0 : Int) ≤ x10)) && (decide (x10 ≤ (z90080.length : Int))))
 (cond (decide ((0 + (cutL z90080 0 (x10.toNat)).length) * 16 ≤ 140737488355328) && decide (0 + (cutL z90080 0 (x10.toNat)).length ≤ 9223372036854775807))
 (cond ((decide ((0 : Int) ≤ x9)) && (decide (x9 < (((([] ++ a0) ++ a1) ++ a2).length : Int))))
 (cond (decide ((([] ++ (cutL z90080 0 (x10.toNat))).length + 1) * 16 ≤ 140737488355328) && decide (([] ++ (cutL z90080 0 (x10.toNat))).length + 1 ≤ 9223372036854775807))
 (cond ((decide ((0 : Int) ≤ x10)) && (decide (x10 ≤ (z90080.length : Int))))
 (cond (decide (((([] ++ (cutL z90080 0 (x10.toNat))) ++ [(((([] ++ a0) ++ a1) ++ a2).getD (x9.toNat) ([], ([], ()))).1]).length + (cutL z90080 (x10.toNat) (z90080.length)).length) * 16 ≤ 140737488355328) && decide ((([] ++ (cutL z90080 0 (x10.toNat))) ++ [(((([] ++ a0) ++ a1) ++ a2).getD (x9.toNat) ([], ([], ()))).1]).length + (cutL z90080 (x10.toNat) (z90080.length)).length ≤ 9223372036854775807))
 (rec (IntKind.wrap .i64 (x9 + (1 : Int))) ((([] ++ (cutL z90080 0 (x10.toNat))) ++ [(((([] ++ a0) ++ a1) ++ a2).getD (x9.toNat) ([], ([], ()))).1]) ++ (cutL z90080 (x10.toNat) (z90080.length))))
 none)
 none)
 none)
 none)
 none)
 none))
 none)
 none)
 (cond ((decide ((0 : Int) ≤ x10)) && (decide (x10 ≤ (z90080.length : Int))))
 (cond (decide ((0 + (cutL z90080 0 (x10.toNat)).length) * 16 ≤ 140737488355328) && decide (0 + (cutL z90080 0 (x10.toNat)).length ≤ 9223372036854775807))
 (cond ((decide ((0 : Int) ≤ x9)) && (decide (x9 < (((([] ++ a0) ++ a1) ++ a2).length : Int))))
 (cond (decide ((([] ++ (cutL z90080 0 (x10.toNat))).length + 1) * 16 ≤ 140737488355328) && decide (([] ++ (cutL z90080 0 (x10.toNat))).length + 1 ≤ 9223372036854775807))
 (cond ((decide ((0 : Int) ≤ x10)) && (decide (x10 ≤ (z90080.length : Int))))
 (cond (decide (((([] ++ (cutL z90080 0 (x10.toNat))) ++ [(((([] ++ a0) ++ a1) ++ a2).getD (x9.toNat) ([], ([], ()))).1]).length + (cutL z90080 (x10.toNat) (z90080.length)).length) * 16 ≤ 140737488355328) && decide ((([] ++ (cutL z90080 0 (x10.toNat))) ++ [(((([] ++ a0) ++ a1) ++ a2).getD (x9.toNat) ([], ([], ()))).1]).length + (cutL z90080 (x10.toNat) (z90080.length)).length ≤ 9223372036854775807))
 (rec (IntKind.wrap .i64 (x9 + (1 : Int))) ((([] ++ (cutL z90080 0 (x10.toNat))) ++ [(((([] ++ a0) ++ a1) ++ a2).getD (x9.toNat) ([], ([], ()))).1]) ++ (cutL z90080 (x10.toNat) (z90080.length))))
 none)
 none)
 none)
 none)
 none)
 none))) a0 a1 a2 x9 z90080 FUEL (0 : Int))
 (ke0 z90080))
noncomputable def spec_l07Names_l0_L (ke0 : (List (List Int)) → Option (shDen spec_l07Names_sh)) (a0 : (List (List Int × (List Int × Unit)))) (a1 : (List (List Int × (List Int × Unit)))) (a2 : (List (List Int × (List Int × Unit)))) : Nat → Int → (List (List Int)) → Option (shDen spec_l07Names_sh)
 | 0 => fun _ _ => none
 | n + 1 => spec_l07Names_l0_b (spec_l07Names_l0_L ke0 a0 a1 a2 n) ke0 a0 a1 a2
noncomputable def spec_l07Names_r (a0 : (List (List Int × (List Int × Unit)))) (a1 : (List (List Int × (List Int × Unit)))) (a2 : (List (List Int × (List Int × Unit)))) : Option (shDen spec_l07Names_sh) :=
 (cond (decide ((0 + a0.length) * 32 ≤ 140737488355328) && decide (0 + a0.length ≤ 9223372036854775807))
 (cond (decide ((([] ++ a0).length + a1.length) * 32 ≤ 140737488355328) && decide (([] ++ a0).length + a1.length ≤ 9223372036854775807))
 (cond (decide (((([] ++ a0) ++ a1).length + a2.length) * 32 ≤ 140737488355328) && decide ((([] ++ a0) ++ a1).length + a2.length ≤ 9223372036854775807))
 (spec_l07Names_l0_L (fun z90080 => (some z90080)) a0 a1 a2 FUEL (0 : Int) [])
 none)
 none)
 none)
theorem spec_l07Names_l1_round (k : Nat) (K : Ex → St → Option (shDen spec_l07Names_sh)) (n : Nat) (a0 : (List (List Int × (List Int × Unit)))) (a1 : (List (List Int × (List Int × Unit)))) (a2 : (List (List Int × (List Int × Unit)))) (x9 : Int) (z90080 : (List (List Int))) (x10 : Int) : (loopK (spec_l07Names_cx k) 0 (execK (spec_l07Names_cx k) (callK (spec_l07Names_cx k) 8) 0 112 (sub spec_l07Names_c [1, 1, 1, 0, 1, 0, 0, 1, 0, 0, 1, 0, 0, 0])) spec_l07Names_l1_cut K (n + 1) (spec_l07Names_l1_s a0 a1 a2 x9 z90080 x10) : Option (shDen spec_l07Names_sh)) =
 ((cond (decide (x10 < (z90080.length : Int)))
 (cond ((decide ((0 : Int) ≤ x10)) && (decide (x10 < (z90080.length : Int))))
 (cond ((decide ((0 : Int) ≤ x9)) && (decide (x9 < (((([] ++ a0) ++ a1) ++ a2).length : Int))))
 (cond (ltI (z90080.getD (x10.toNat) []) ((((([] ++ a0) ++ a1) ++ a2).getD (x9.toNat) ([], ([], ()))).1))
 (loopK (spec_l07Names_cx k) 0 (execK (spec_l07Names_cx k) (callK (spec_l07Names_cx k) 8) 0 112 (sub spec_l07Names_c [1, 1, 1, 0, 1, 0, 0, 1, 0, 0, 1, 0, 0, 0])) spec_l07Names_l1_cut K n (spec_l07Names_l1_s a0 a1 a2 x9 z90080 (IntKind.wrap .i64 (x10 + (1 : Int)))))
 (K (.exit 2) (spec_l07Names_l1_o2 a0 a1 a2 x9 z90080 x10)))
 none)
 none)
 (K (.exit 2) (spec_l07Names_l1_o2 a0 a1 a2 x9 z90080 x10))) : Option (shDen spec_l07Names_sh)) := by kernel_rfl

theorem spec_l07Names_l1_exit2 (k : Nat) (K : Ex → St → Option (shDen spec_l07Names_sh)) (n : Nat) (a0 : (List (List Int × (List Int × Unit)))) (a1 : (List (List Int × (List Int × Unit)))) (a2 : (List (List Int × (List Int × Unit)))) (x9 : Int) (z90080 : (List (List Int))) (x10 : Int) : ((blkK 2 (seqK (execK (spec_l07Names_cx k) (callK (spec_l07Names_cx k) 8) 0 112 (sub spec_l07Names_c [1, 1, 1, 0, 1, 0, 0, 1, 0, 0, 1, 1])) (blkK 1 (seqK (execK (spec_l07Names_cx k) (callK (spec_l07Names_cx k) 8) 0 112 (sub spec_l07Names_c [1, 1, 1, 0, 1, 0, 0, 1, 1])) (iterK (spec_l07Names_cx k) 0 spec_l07Names_l0_cut (loopK (spec_l07Names_cx k) 0 (execK (spec_l07Names_cx k) (callK (spec_l07Names_cx k) 8) 0 112 (sub spec_l07Names_c [1, 1, 1, 0, 1, 0, 0])) spec_l07Names_l0_cut K n) K))))) (.exit 2) (spec_l07Names_l1_o2 a0 a1 a2 x9 z90080 x10) : Option (shDen spec_l07Names_sh)) =
 ((cond (decide (x10 < (z90080.length : Int)))
 (cond ((decide ((0 : Int) ≤ x10)) && (decide (x10 < (z90080.length : Int))))
 (cond ((decide ((0 : Int) ≤ x9)) && (decide (x9 < (((([] ++ a0) ++ a1) ++ a2).length : Int))))
 (cond (decide ((z90080.getD (x10.toNat) []) = (((([] ++ a0) ++ a1) ++ a2).getD (x9.toNat) ([], ([], ()))).1))
 (loopK (spec_l07Names_cx k) 0 (execK (spec_l07Names_cx k) (callK (spec_l07Names_cx k) 8) 0 112 (sub spec_l07Names_c [1, 1, 1, 0, 1, 0, 0])) spec_l07Names_l0_cut K n (spec_l07Names_l0_s a0 a1 a2 (IntKind.wrap .i64 (x9 + (1 : Int))) z90080))
 (cond ((decide ((0 : Int) ≤ x10)) && (decide (x10 ≤ (z90080.length : Int))))
 (cond (decide ((0 + (cutL z90080 0 (x10.toNat)).length) * 16 ≤ 140737488355328) && decide (0 + (cutL z90080 0 (x10.toNat)).length ≤ 9223372036854775807))
 (cond ((decide ((0 : Int) ≤ x9)) && (decide (x9 < (((([] ++ a0) ++ a1) ++ a2).length : Int))))
 (cond (decide ((([] ++ (cutL z90080 0 (x10.toNat))).length + 1) * 16 ≤ 140737488355328) && decide (([] ++ (cutL z90080 0 (x10.toNat))).length + 1 ≤ 9223372036854775807))
 (cond ((decide ((0 : Int) ≤ x10)) && (decide (x10 ≤ (z90080.length : Int))))
 (cond (decide (((([] ++ (cutL z90080 0 (x10.toNat))) ++ [(((([] ++ a0) ++ a1) ++ a2).getD (x9.toNat) ([], ([], ()))).1]).length + (cutL z90080 (x10.toNat) (z90080.length)).length) * 16 ≤ 140737488355328) && decide ((([] ++ (cutL z90080 0 (x10.toNat))) ++ [(((([] ++ a0) ++ a1) ++ a2).getD (x9.toNat) ([], ([], ()))).1]).length + (cutL z90080 (x10.toNat) (z90080.length)).length ≤ 9223372036854775807))
 (loopK (spec_l07Names_cx k) 0 (execK (spec_l07Names_cx k) (callK (spec_l07Names_cx k) 8) 0 112 (sub spec_l07Names_c [1, 1, 1, 0, 1, 0, 0])) spec_l07Names_l0_cut K n (spec_l07Names_l0_s a0 a1 a2 (IntKind.wrap .i64 (x9 + (1 : Int))) ((([] ++ (cutL z90080 0 (x10.toNat))) ++ [(((([] ++ a0) ++ a1) ++ a2).getD (x9.toNat) ([], ([], ()))).1]) ++ (cutL z90080 (x10.toNat) (z90080.length)))))
 none)
 none)
 none)
 none)
 none)
 none))
 none)
 none)
 (cond ((decide ((0 : Int) ≤ x10)) && (decide (x10 ≤ (z90080.length : Int))))
 (cond (decide ((0 + (cutL z90080 0 (x10.toNat)).length) * 16 ≤ 140737488355328) && decide (0 + (cutL z90080 0 (x10.toNat)).length ≤ 9223372036854775807))
 (cond ((decide ((0 : Int) ≤ x9)) && (decide (x9 < (((([] ++ a0) ++ a1) ++ a2).length : Int))))
 (cond (decide ((([] ++ (cutL z90080 0 (x10.toNat))).length + 1) * 16 ≤ 140737488355328) && decide (([] ++ (cutL z90080 0 (x10.toNat))).length + 1 ≤ 9223372036854775807))
 (cond ((decide ((0 : Int) ≤ x10)) && (decide (x10 ≤ (z90080.length : Int))))
 (cond (decide (((([] ++ (cutL z90080 0 (x10.toNat))) ++ [(((([] ++ a0) ++ a1) ++ a2).getD (x9.toNat) ([], ([], ()))).1]).length + (cutL z90080 (x10.toNat) (z90080.length)).length) * 16 ≤ 140737488355328) && decide ((([] ++ (cutL z90080 0 (x10.toNat))) ++ [(((([] ++ a0) ++ a1) ++ a2).getD (x9.toNat) ([], ([], ()))).1]).length + (cutL z90080 (x10.toNat) (z90080.length)).length ≤ 9223372036854775807))
 (loopK (spec_l07Names_cx k) 0 (execK (spec_l07Names_cx k) (callK (spec_l07Names_cx k) 8) 0 112 (sub spec_l07Names_c [1, 1, 1, 0, 1, 0, 0])) spec_l07Names_l0_cut K n (spec_l07Names_l0_s a0 a1 a2 (IntKind.wrap .i64 (x9 + (1 : Int))) ((([] ++ (cutL z90080 0 (x10.toNat))) ++ [(((([] ++ a0) ++ a1) ++ a2).getD (x9.toNat) ([], ([], ()))).1]) ++ (cutL z90080 (x10.toNat) (z90080.length)))))
 none)
 none)
 none)
 none)
 none)
 none)) : Option (shDen spec_l07Names_sh)) := by kernel_rfl

theorem spec_l07Names_l1_congr (ke2 : Int → Option (shDen spec_l07Names_sh)) (ke2' : Int → Option (shDen spec_l07Names_sh)) (a0 : (List (List Int × (List Int × Unit)))) (a1 : (List (List Int × (List Int × Unit)))) (a2 : (List (List Int × (List Int × Unit)))) (x9 : Int) (z90080 : (List (List Int))) (n : Nat) (x10 : Int) (hke2 : ∀ x10, ke2 x10 = ke2' x10) : spec_l07Names_l1_L ke2 a0 a1 a2 x9 z90080 n x10 = spec_l07Names_l1_L ke2' a0 a1 a2 x9 z90080 n x10 := by
 have : ke2 = ke2' := (by funext x10; exact hke2 x10); subst this; rfl

theorem spec_l07Names_l1_L_eq (K : Ex → St → Option (shDen spec_l07Names_sh)) (a0 : (List (List Int × (List Int × Unit)))) (a1 : (List (List Int × (List Int × Unit)))) (a2 : (List (List Int × (List Int × Unit)))) (x9 : Int) (z90080 : (List (List Int))) : ∀ (n : Nat) (x10 : Int), (loopK (spec_l07Names_cx FUEL) 0 (execK (spec_l07Names_cx FUEL) (callK (spec_l07Names_cx FUEL) 8) 0 112 (sub spec_l07Names_c [1, 1, 1, 0, 1, 0, 0, 1, 0, 0, 1, 0, 0, 0])) spec_l07Names_l1_cut K n (spec_l07Names_l1_s a0 a1 a2 x9 z90080 x10) : Option (shDen spec_l07Names_sh)) = spec_l07Names_l1_L (fun x10 => K (.exit 2) (spec_l07Names_l1_o2 a0 a1 a2 x9 z90080 x10)) a0 a1 a2 x9 z90080 n x10 := by
 intro n
 induction n with
 | zero => intros; rfl
 | succ n ih =>
  intro x10
  exact (spec_l07Names_l1_round FUEL K n a0 a1 a2 x9 z90080 x10).trans (condC (condC (condC (condC (ih (IntKind.wrap .i64 (x10 + (1 : Int)))) (rfl)) (rfl)) (rfl)) (rfl))

theorem spec_l07Names_l0_round (k : Nat) (K : Ex → St → Option (shDen spec_l07Names_sh)) (n : Nat) (a0 : (List (List Int × (List Int × Unit)))) (a1 : (List (List Int × (List Int × Unit)))) (a2 : (List (List Int × (List Int × Unit)))) (x9 : Int) (z90080 : (List (List Int))) : (loopK (spec_l07Names_cx k) 0 (execK (spec_l07Names_cx k) (callK (spec_l07Names_cx k) 8) 0 112 (sub spec_l07Names_c [1, 1, 1, 0, 1, 0, 0])) spec_l07Names_l0_cut K (n + 1) (spec_l07Names_l0_s a0 a1 a2 x9 z90080) : Option (shDen spec_l07Names_sh)) =
 ((cond (decide (x9 < (((([] ++ a0) ++ a1) ++ a2).length : Int)))
 (loopK (spec_l07Names_cx k) 0 (execK (spec_l07Names_cx k) (callK (spec_l07Names_cx k) 8) 0 112 (sub spec_l07Names_c [1, 1, 1, 0, 1, 0, 0, 1, 0, 0, 1, 0, 0, 0])) spec_l07Names_l1_cut (blkK 2 (seqK (execK (spec_l07Names_cx k) (callK (spec_l07Names_cx k) 8) 0 112 (sub spec_l07Names_c [1, 1, 1, 0, 1, 0, 0, 1, 0, 0, 1, 1])) (blkK 1 (seqK (execK (spec_l07Names_cx k) (callK (spec_l07Names_cx k) 8) 0 112 (sub spec_l07Names_c [1, 1, 1, 0, 1, 0, 0, 1, 1])) (iterK (spec_l07Names_cx k) 0 spec_l07Names_l0_cut (loopK (spec_l07Names_cx k) 0 (execK (spec_l07Names_cx k) (callK (spec_l07Names_cx k) 8) 0 112 (sub spec_l07Names_c [1, 1, 1, 0, 1, 0, 0])) spec_l07Names_l0_cut K n) K))))) k (spec_l07Names_l1_s a0 a1 a2 x9 z90080 (0 : Int)))
 (K (.exit 0) (spec_l07Names_l0_o0 z90080))) : Option (shDen spec_l07Names_sh)) := by kernel_rfl

theorem spec_l07Names_l0_exit0 (k : Nat)  (z90080 : (List (List Int))) : ((blkK 0 (seqK (execK (spec_l07Names_cx k) (callK (spec_l07Names_cx k) 8) 0 112 (sub spec_l07Names_c [1, 1, 1, 1])) (finK (spec_l07Names_cx k) spec_l07Names_i spec_l07Names_sh))) (.exit 0) (spec_l07Names_l0_o0 z90080) : Option (shDen spec_l07Names_sh)) =
 ((some z90080) : Option (shDen spec_l07Names_sh)) := by kernel_rfl

theorem spec_l07Names_l0_congr (ke0 : (List (List Int)) → Option (shDen spec_l07Names_sh)) (ke0' : (List (List Int)) → Option (shDen spec_l07Names_sh)) (a0 : (List (List Int × (List Int × Unit)))) (a1 : (List (List Int × (List Int × Unit)))) (a2 : (List (List Int × (List Int × Unit)))) (n : Nat) (x9 : Int) (z90080 : (List (List Int))) (hke0 : ∀ z90080, ke0 z90080 = ke0' z90080) : spec_l07Names_l0_L ke0 a0 a1 a2 n x9 z90080 = spec_l07Names_l0_L ke0' a0 a1 a2 n x9 z90080 := by
 have : ke0 = ke0' := (by funext z90080; exact hke0 z90080); subst this; rfl

theorem spec_l07Names_l0_L_eq (K : Ex → St → Option (shDen spec_l07Names_sh)) (a0 : (List (List Int × (List Int × Unit)))) (a1 : (List (List Int × (List Int × Unit)))) (a2 : (List (List Int × (List Int × Unit)))) : ∀ (n : Nat) (x9 : Int) (z90080 : (List (List Int))), (loopK (spec_l07Names_cx FUEL) 0 (execK (spec_l07Names_cx FUEL) (callK (spec_l07Names_cx FUEL) 8) 0 112 (sub spec_l07Names_c [1, 1, 1, 0, 1, 0, 0])) spec_l07Names_l0_cut K n (spec_l07Names_l0_s a0 a1 a2 x9 z90080) : Option (shDen spec_l07Names_sh)) = spec_l07Names_l0_L (fun z90080 => K (.exit 0) (spec_l07Names_l0_o0 z90080)) a0 a1 a2 n x9 z90080 := by
 intro n
 induction n with
 | zero => intros; rfl
 | succ n ih =>
  intro x9 z90080
  exact (spec_l07Names_l0_round FUEL K n a0 a1 a2 x9 z90080).trans (condC ((spec_l07Names_l1_L_eq _ a0 a1 a2 x9 z90080 FUEL (0 : Int)).trans (spec_l07Names_l1_congr _ _ a0 a1 a2 x9 z90080 FUEL (0 : Int) (fun x10 => (spec_l07Names_l1_exit2 FUEL K n a0 a1 a2 x9 z90080 x10).trans (condC (condC (condC (condC (ih (IntKind.wrap .i64 (x9 + (1 : Int))) z90080) (condC (condC (condC (condC (condC (condC (ih (IntKind.wrap .i64 (x9 + (1 : Int))) ((([] ++ (cutL z90080 0 (x10.toNat))) ++ [(((([] ++ a0) ++ a1) ++ a2).getD (x9.toNat) ([], ([], ()))).1]) ++ (cutL z90080 (x10.toNat) (z90080.length)))) (rfl)) (rfl)) (rfl)) (rfl)) (rfl)) (rfl))) (rfl)) (rfl)) (condC (condC (condC (condC (condC (condC (ih (IntKind.wrap .i64 (x9 + (1 : Int))) ((([] ++ (cutL z90080 0 (x10.toNat))) ++ [(((([] ++ a0) ++ a1) ++ a2).getD (x9.toNat) ([], ([], ()))).1]) ++ (cutL z90080 (x10.toNat) (z90080.length)))) (rfl)) (rfl)) (rfl)) (rfl)) (rfl)) (rfl)))))) (rfl))

theorem spec_l07Names_start (k : Nat) (a0 : (List (List Int × (List Int × Unit)))) (a1 : (List (List Int × (List Int × Unit)))) (a2 : (List (List Int × (List Int × Unit)))) : fnK (spec_l07Names_cx k) 8 112 spec_l07Names_i spec_l07Names_sh [.pv (.slice (.pair .str (.pair .str .unit))) a0, .pv (.slice (.pair .str (.pair .str .unit))) a1, .pv (.slice (.pair .str (.pair .str .unit))) a2] =
 ((cond (decide ((0 + a0.length) * 32 ≤ 140737488355328) && decide (0 + a0.length ≤ 9223372036854775807))
 (cond (decide ((([] ++ a0).length + a1.length) * 32 ≤ 140737488355328) && decide (([] ++ a0).length + a1.length ≤ 9223372036854775807))
 (cond (decide (((([] ++ a0) ++ a1).length + a2.length) * 32 ≤ 140737488355328) && decide ((([] ++ a0) ++ a1).length + a2.length ≤ 9223372036854775807))
 (loopK (spec_l07Names_cx k) 0 (execK (spec_l07Names_cx k) (callK (spec_l07Names_cx k) 8) 0 112 (sub spec_l07Names_c [1, 1, 1, 0, 1, 0, 0])) spec_l07Names_l0_cut (blkK 0 (seqK (execK (spec_l07Names_cx k) (callK (spec_l07Names_cx k) 8) 0 112 (sub spec_l07Names_c [1, 1, 1, 1])) (finK (spec_l07Names_cx k) spec_l07Names_i spec_l07Names_sh))) k (spec_l07Names_l0_s a0 a1 a2 (0 : Int) []))
 none)
 none)
 none) : Option (shDen spec_l07Names_sh)) := by kernel_rfl

theorem spec_l07Names_run (a0 : (List (List Int × (List Int × Unit)))) (a1 : (List (List Int × (List Int × Unit)))) (a2 : (List (List Int × (List Int × Unit)))) : fnK (spec_l07Names_cx FUEL) 8 112 spec_l07Names_i spec_l07Names_sh [.pv (.slice (.pair .str (.pair .str .unit))) a0, .pv (.slice (.pair .str (.pair .str .unit))) a1, .pv (.slice (.pair .str (.pair .str .unit))) a2] = spec_l07Names_r a0 a1 a2 :=
 (spec_l07Names_start FUEL a0 a1 a2).trans (condC (condC (condC ((spec_l07Names_l0_L_eq _ a0 a1 a2 FUEL (0 : Int) []).trans (spec_l07Names_l0_congr _ _ a0 a1 a2 FUEL (0 : Int) [] (fun z90080 => (spec_l07Names_l0_exit0 FUEL  z90080).trans (rfl)))) (rfl)) (rfl)) (rfl))

noncomputable def spec_l07Names_con : Con := { ps := (.pair (.slice (.pair .str (.pair .str .unit))) (.pair (.slice (.pair .str (.pair .str .unit))) (.pair (.slice (.pair .str (.pair .str .unit))) .unit))), sh := spec_l07Names_sh, raw := fun x => spec_l07Names_r x.1 x.2.1 x.2.2.1 }
theorem spec_l07Names_conOk : ConOk Try.prog 112 spec_l07Names_con := con_of_fn (spec_l07Names_tabs FUEL) (depth := 8) spec_l07Names_ok fun x y h => (spec_l07Names_run x.1 x.2.1 x.2.2.1).trans h

noncomputable def spec_l07Has_l0_cut : Cut := { keep := [0, 1, 4, 5], stk := [], ids := [40], own := [], outs := [(0, [4], [40]), (1, [1, 4], [40])] }
noncomputable def spec_l07Has_inls : List (Nat × Inl) := []
noncomputable def spec_l07Has_cons : List (Nat × Con) := []
noncomputable def spec_l07Has_taks : List (Nat × ConT) := []
noncomputable def spec_l07Has_inps : List (Nat × ConI) := []
noncomputable def spec_l07Has_cuts : List (Nat × List (Nat × Cut)) := [(113, [(0, spec_l07Has_l0_cut)])]
noncomputable def spec_l07Has_cx (k : Nat) : Cx := mkCx tys tbytes telem nozero (Ai.look spec_l07Has_inls) (Ai.look spec_l07Has_cons) (Ai.look spec_l07Has_taks) (Ai.look spec_l07Has_inps) (fun f id => match Ai.look spec_l07Has_cuts f with | some l => Ai.look l id | none => none) k []
theorem spec_l07Has_tabs (k : Nat) : TabsOk Try.prog (spec_l07Has_cx k) := ⟨tab_mk tabs_ok _ _ _ _ _ _ _, look_all (Q := ConOk Try.prog) _ trivial, look_all (Q := TakOk Try.prog) _ trivial, look_all (Q := InpOk Try.prog) _ trivial, look_all (Q := InlOk Try.prog) _ trivial, mixed_ok⟩
abbrev spec_l07Has_sh : List Sh := [.pl (.pair .str (.pair .bool (.pair .str (.pair .bool (.pair .str .unit)))))]
noncomputable def spec_l07Has_l0_s (a0 : (List (List Int × (List Int × Unit)))) (a1 : List Int) (x5 : Int) : St := { env := [.pv (.slice (.pair .str (.pair .str .unit))) a0, .pv .str a1, .dead, .dead, .ptr 40 (.pair .str (.pair .bool (.pair .str (.pair .bool (.pair .str .unit))))) [], .pv (.int .i64) x5, .dead, .dead, .dead, .dead, .dead, .dead, .dead, .dead, .dead, .dead, .dead, .dead, .dead, .dead, .dead, .dead, .dead, .dead, .dead, .dead, .dead, .dead], stk := [], heap := [(40, .var (.pair .str (.pair .bool (.pair .str (.pair .bool (.pair .str .unit))))) (.pv (.pair .str (.pair .bool (.pair .str (.pair .bool (.pair .str .unit))))) ([], (false, ([], (false, ([], ())))))))] }
noncomputable def spec_l07Has_l0_o (y40 : (List Int × (Bool × (List Int × (Bool × (List Int × Unit)))))) : St := { env := [.dead, .dead, .dead, .dead, .ptr 40 (.pair .str (.pair .bool (.pair .str (.pair .bool (.pair .str .unit))))) [], .dead, .dead, .dead, .dead, .dead, .dead, .dead, .dead, .dead, .dead, .dead, .dead, .dead, .dead, .dead, .dead, .dead, .dead, .dead, .dead, .dead, .dead, .dead], stk := [], heap := [(40, .var (.pair .str (.pair .bool (.pair .str (.pair .bool (.pair .str .unit))))) (.pv (.pair .str (.pair .bool (.pair .str (.pair .bool (.pair .str .unit))))) y40))] }
noncomputable def spec_l07Has_l0_o0 (a1 : List Int) : St := { env := [.dead, .pv .str a1, .dead, .dead, .ptr 40 (.pair .str (.pair .bool (.pair .str (.pair .bool (.pair .str .unit))))) [], .dead, .dead, .dead, .dead, .dead, .dead, .dead, .dead, .dead, .dead, .dead, .dead, .dead, .dead, .dead, .dead, .dead, .dead, .dead, .dead, .dead, .dead, .dead], stk := [], heap := [(40, .var (.pair .str (.pair .bool (.pair .str (.pair .bool (.pair .str .unit))))) (.pv (.pair .str (.pair .bool (.pair .str (.pair .bool (.pair .str .unit))))) ([], (false, ([], (false, ([], ())))))))] }
noncomputable def spec_l07Has_l0_b (rec : Int → Option (shDen spec_l07Has_sh)) (kr : (List Int × (Bool × (List Int × (Bool × (List Int × Unit))))) → Option (shDen spec_l07Has_sh)) (ke0 : Option (shDen spec_l07Has_sh)) (a0 : (List (List Int × (List Int × Unit)))) (a1 : List Int) (x5 : Int) : Option (shDen spec_l07Has_sh) :=
 (cond (decide (x5 < (a0.length : Int)))
 (cond ((decide ((0 : Int) ≤ x5)) && (decide (x5 < (a0.length : Int))))
 (cond (decide ((a0.getD (x5.toNat) ([], ([], ()))).1 = a1))
 (cond ((decide ((0 : Int) ≤ x5)) && (decide (x5 < (a0.length : Int))))
 (kr (a1, (false, ([], (true, (((a0.getD (x5.toNat) ([], ([], ()))).2).1, ()))))))
 none)
 (rec (IntKind.wrap .i64 (x5 + (1 : Int)))))
 none)
 (ke0))
noncomputable def spec_l07Has_l0_L (kr : (List Int × (Bool × (List Int × (Bool × (List Int × Unit))))) → Option (shDen spec_l07Has_sh)) (ke0 : Option (shDen spec_l07Has_sh)) (a0 : (List (List Int × (List Int × Unit)))) (a1 : List Int) : Nat → Int → Option (shDen spec_l07Has_sh)
 | 0 => fun _ => none
 | n + 1 => spec_l07Has_l0_b (spec_l07Has_l0_L kr ke0 a0 a1 n) kr ke0 a0 a1
noncomputable def spec_l07Has_r (a0 : (List (List Int × (List Int × Unit)))) (a1 : List Int) : Option (shDen spec_l07Has_sh) :=
 (spec_l07Has_l0_L (fun y40 => (some y40)) (some (a1, (false, ([], (false, ([], ())))))) a0 a1 FUEL (0 : Int))
theorem spec_l07Has_l0_round (k : Nat) (K : Ex → St → Option (shDen spec_l07Has_sh)) (n : Nat) (a0 : (List (List Int × (List Int × Unit)))) (a1 : List Int) (x5 : Int) : (loopK (spec_l07Has_cx k) 0 (execK (spec_l07Has_cx k) (callK (spec_l07Has_cx k) 8) 0 113 (sub spec_l07Has_c [1, 0, 1, 0, 0])) spec_l07Has_l0_cut K (n + 1) (spec_l07Has_l0_s a0 a1 x5) : Option (shDen spec_l07Has_sh)) =
 ((cond (decide (x5 < (a0.length : Int)))
 (cond ((decide ((0 : Int) ≤ x5)) && (decide (x5 < (a0.length : Int))))
 (cond (decide ((a0.getD (x5.toNat) ([], ([], ()))).1 = a1))
 (cond ((decide ((0 : Int) ≤ x5)) && (decide (x5 < (a0.length : Int))))
 (K .ret (spec_l07Has_l0_o (a1, (false, ([], (true, (((a0.getD (x5.toNat) ([], ([], ()))).2).1, ())))))))
 none)
 (loopK (spec_l07Has_cx k) 0 (execK (spec_l07Has_cx k) (callK (spec_l07Has_cx k) 8) 0 113 (sub spec_l07Has_c [1, 0, 1, 0, 0])) spec_l07Has_l0_cut K n (spec_l07Has_l0_s a0 a1 (IntKind.wrap .i64 (x5 + (1 : Int))))))
 none)
 (K (.exit 0) (spec_l07Has_l0_o0 a1))) : Option (shDen spec_l07Has_sh)) := by kernel_rfl

theorem spec_l07Has_l0_ret (k : Nat)  (y40 : (List Int × (Bool × (List Int × (Bool × (List Int × Unit)))))) : ((blkK 0 (seqK (execK (spec_l07Has_cx k) (callK (spec_l07Has_cx k) 8) 0 113 (sub spec_l07Has_c [1, 1])) (finK (spec_l07Has_cx k) spec_l07Has_i spec_l07Has_sh))) .ret (spec_l07Has_l0_o y40) : Option (shDen spec_l07Has_sh)) =
 ((some y40) : Option (shDen spec_l07Has_sh)) := by kernel_rfl

theorem spec_l07Has_l0_exit0 (k : Nat)  (a1 : List Int) : ((blkK 0 (seqK (execK (spec_l07Has_cx k) (callK (spec_l07Has_cx k) 8) 0 113 (sub spec_l07Has_c [1, 1])) (finK (spec_l07Has_cx k) spec_l07Has_i spec_l07Has_sh))) (.exit 0) (spec_l07Has_l0_o0 a1) : Option (shDen spec_l07Has_sh)) =
 ((some (a1, (false, ([], (false, ([], ())))))) : Option (shDen spec_l07Has_sh)) := by kernel_rfl

theorem spec_l07Has_l0_congr (kr : (List Int × (Bool × (List Int × (Bool × (List Int × Unit))))) → Option (shDen spec_l07Has_sh)) (ke0 : Option (shDen spec_l07Has_sh)) (kr' : (List Int × (Bool × (List Int × (Bool × (List Int × Unit))))) → Option (shDen spec_l07Has_sh)) (ke0' : Option (shDen spec_l07Has_sh)) (a0 : (List (List Int × (List Int × Unit)))) (a1 : List Int) (n : Nat) (x5 : Int) (hkr : ∀ y40, kr y40 = kr' y40) (hke0 : ∀ (_ : Unit), ke0  = ke0' ) : spec_l07Has_l0_L kr ke0 a0 a1 n x5 = spec_l07Has_l0_L kr' ke0' a0 a1 n x5 := by
 have : kr = kr' := (by funext y40; exact hkr y40); subst this; have : ke0 = ke0' := hke0 (); subst this; rfl

theorem spec_l07Has_l0_L_eq (K : Ex → St → Option (shDen spec_l07Has_sh)) (a0 : (List (List Int × (List Int × Unit)))) (a1 : List Int) : ∀ (n : Nat) (x5 : Int), (loopK (spec_l07Has_cx FUEL) 0 (execK (spec_l07Has_cx FUEL) (callK (spec_l07Has_cx FUEL) 8) 0 113 (sub spec_l07Has_c [1, 0, 1, 0, 0])) spec_l07Has_l0_cut K n (spec_l07Has_l0_s a0 a1 x5) : Option (shDen spec_l07Has_sh)) = spec_l07Has_l0_L (fun y40 => K .ret (spec_l07Has_l0_o y40)) (K (.exit 0) (spec_l07Has_l0_o0 a1)) a0 a1 n x5 := by
 intro n
 induction n with
 | zero => intros; rfl
 | succ n ih =>
  intro x5
  exact (spec_l07Has_l0_round FUEL K n a0 a1 x5).trans (condC (condC (condC (condC (rfl) (rfl)) (ih (IntKind.wrap .i64 (x5 + (1 : Int))))) (rfl)) (rfl))

theorem spec_l07Has_start (k : Nat) (a0 : (List (List Int × (List Int × Unit)))) (a1 : List Int) : fnK (spec_l07Has_cx k) 8 113 spec_l07Has_i spec_l07Has_sh [.pv (.slice (.pair .str (.pair .str .unit))) a0, .pv .str a1] =
 ((loopK (spec_l07Has_cx k) 0 (execK (spec_l07Has_cx k) (callK (spec_l07Has_cx k) 8) 0 113 (sub spec_l07Has_c [1, 0, 1, 0, 0])) spec_l07Has_l0_cut (blkK 0 (seqK (execK (spec_l07Has_cx k) (callK (spec_l07Has_cx k) 8) 0 113 (sub spec_l07Has_c [1, 1])) (finK (spec_l07Has_cx k) spec_l07Has_i spec_l07Has_sh))) k (spec_l07Has_l0_s a0 a1 (0 : Int))) : Option (shDen spec_l07Has_sh)) := by kernel_rfl

theorem spec_l07Has_run (a0 : (List (List Int × (List Int × Unit)))) (a1 : List Int) : fnK (spec_l07Has_cx FUEL) 8 113 spec_l07Has_i spec_l07Has_sh [.pv (.slice (.pair .str (.pair .str .unit))) a0, .pv .str a1] = spec_l07Has_r a0 a1 :=
 (spec_l07Has_start FUEL a0 a1).trans ((spec_l07Has_l0_L_eq _ a0 a1 FUEL (0 : Int)).trans (spec_l07Has_l0_congr _ _ _ _ a0 a1 FUEL (0 : Int) (fun y40 => (spec_l07Has_l0_ret FUEL  y40).trans (rfl)) (fun _ => (spec_l07Has_l0_exit0 FUEL  a1).trans (rfl))))

noncomputable def spec_l07Has_con : Con := { ps := (.pair (.slice (.pair .str (.pair .str .unit))) (.pair .str .unit)), sh := spec_l07Has_sh, raw := fun x => spec_l07Has_r x.1 x.2.1 }
theorem spec_l07Has_conOk : ConOk Try.prog 113 spec_l07Has_con := con_of_fn (spec_l07Has_tabs FUEL) (depth := 8) spec_l07Has_ok fun x y h => (spec_l07Has_run x.1 x.2.1).trans h

noncomputable def spec_l07Merge_l0_cut : Cut := { keep := [0, 1, 2, 9, 10, 11, 12], stk := [], ids := [200, 90100, 90110], own := [(10, 90100, 53), (11, 90110, 60)], outs := [(1, [10, 11], [90100, 90110])] }
noncomputable def spec_l07Merge_inls : List (Nat × Inl) := []
noncomputable def spec_l07Merge_cons : List (Nat × Con) := [(71, spec_ValidEntries_con), (112, spec_l07Names_con), (113, spec_l07Has_con)]
noncomputable def spec_l07Merge_taks : List (Nat × ConT) := []
noncomputable def spec_l07Merge_inps : List (Nat × ConI) := []
noncomputable def spec_l07Merge_cuts : List (Nat × List (Nat × Cut)) := [(78, [(0, spec_l07Merge_l0_cut)])]
noncomputable def spec_l07Merge_cx (k : Nat) : Cx := mkCx tys tbytes telem nozero (Ai.look spec_l07Merge_inls) (Ai.look spec_l07Merge_cons) (Ai.look spec_l07Merge_taks) (Ai.look spec_l07Merge_inps) (fun f id => match Ai.look spec_l07Merge_cuts f with | some l => Ai.look l id | none => none) k []
theorem spec_l07Merge_tabs (k : Nat) : TabsOk Try.prog (spec_l07Merge_cx k) := ⟨tab_mk tabs_ok _ _ _ _ _ _ _, look_all (Q := ConOk Try.prog) _ ⟨spec_ValidEntries_conOk, spec_l07Names_conOk, spec_l07Has_conOk, trivial⟩, look_all (Q := TakOk Try.prog) _ trivial, look_all (Q := InpOk Try.prog) _ trivial, look_all (Q := InlOk Try.prog) _ trivial, mixed_ok⟩
abbrev spec_l07Merge_sh : List Sh := [.own 108 (.pair .str (.pair .str .unit)), .own 116 (.pair .str (.pair (.pair .str (.pair .bool (.pair .str (.pair .bool (.pair .str .unit))))) (.pair (.pair .str (.pair .bool (.pair .str (.pair .bool (.pair .str .unit))))) (.pair (.pair .str (.pair .bool (.pair .str (.pair .bool (.pair .str .unit))))) .unit)))), .pl (.int .i64)]
noncomputable def spec_l07Merge_l0_s (a0 : (List (List Int × (List Int × Unit)))) (a1 : (List (List Int × (List Int × Unit)))) (a2 : (List (List Int × (List Int × Unit)))) (z200 : (List (List Int))) (x12 : Int) (z90100 : (List (List Int × (List Int × Unit)))) (z90110 : (List (List Int × ((List Int × (Bool × (List Int × (Bool × (List Int × Unit))))) × ((List Int × (Bool × (List Int × (Bool × (List Int × Unit))))) × ((List Int × (Bool × (List Int × (Bool × (List Int × Unit))))) × Unit)))))) : St := { env := [.pv (.slice (.pair .str (.pair .str .unit))) a0, .pv (.slice (.pair .str (.pair .str .unit))) a1, .pv (.slice (.pair .str (.pair .str .unit))) a2, .dead, .dead, .dead, .dead, .dead, .dead, .sl 200 .str, .sl 90100 (.pair .str (.pair .str .unit)), .sl 90110 (.pair .str (.pair (.pair .str (.pair .bool (.pair .str (.pair .bool (.pair .str .unit))))) (.pair (.pair .str (.pair .bool (.pair .str (.pair .bool (.pair .str .unit))))) (.pair (.pair .str (.pair .bool (.pair .str (.pair .bool (.pair .str .unit))))) .unit)))), .pv (.int .i64) x12, .dead, .dead, .dead, .dead, .dead, .dead, .dead, .dead, .dead, .dead, .dead, .dead, .dead, .dead, .dead, .dead, .dead, .dead, .dead, .dead, .dead, .dead, .dead, .dead, .dead, .dead, .dead, .dead, .dead, .dead, .dead, .dead, .dead, .dead, .dead, .dead, .dead, .dead, .dead, .dead, .dead, .dead, .dead, .dead, .dead, .dead, .dead, .dead, .dead, .dead, .dead, .dead, .dead, .dead, .dead, .dead, .dead, .dead, .dead, .dead, .dead, .dead, .dead, .dead, .dead, .dead, .dead, .dead, .dead, .dead, .dead, .dead, .dead, .dead, .dead, .dead, .dead, .dead, .dead, .dead], stk := [], heap := [(200, .arr 9 .str z200), (90100, .arr 108 (.pair .str (.pair .str .unit)) z90100), (90110, .arr 116 (.pair .str (.pair (.pair .str (.pair .bool (.pair .str (.pair .bool (.pair .str .unit))))) (.pair (.pair .str (.pair .bool (.pair .str (.pair .bool (.pair .str .unit))))) (.pair (.pair .str (.pair .bool (.pair .str (.pair .bool (.pair .str .unit))))) .unit)))) z90110)] }
noncomputable def spec_l07Merge_l0_o0 (z90100 : (List (List Int × (List Int × Unit)))) (z90110 : (List (List Int × ((List Int × (Bool × (List Int × (Bool × (List Int × Unit))))) × ((List Int × (Bool × (List Int × (Bool × (List Int × Unit))))) × ((List Int × (Bool × (List Int × (Bool × (List Int × Unit))))) × Unit)))))) : St := { env := [.dead, .dead, .dead, .dead, .dead, .dead, .dead, .dead, .dead, .dead, .sl 90100 (.pair .str (.pair .str .unit)), .sl 90110 (.pair .str (.pair (.pair .str (.pair .bool (.pair .str (.pair .bool (.pair .str .unit))))) (.pair (.pair .str (.pair .bool (.pair .str (.pair .bool (.pair .str .unit))))) (.pair (.pair .str (.pair .bool (.pair .str (.pair .bool (.pair .str .unit))))) .unit)))), .dead, .dead, .dead, .dead, .dead, .dead, .dead, .dead, .dead, .dead, .dead, .dead, .dead, .dead, .dead, .dead, .dead, .dead, .dead, .dead, .dead, .dead, .dead, .dead, .dead, .dead, .dead, .dead, .dead, .dead, .dead, .dead, .dead, .dead, .dead, .dead, .dead, .dead, .dead, .dead, .dead, .dead, .dead, .dead, .dead, .dead, .dead, .dead, .dead, .dead, .dead, .dead, .dead, .dead, .dead, .dead, .dead, .dead, .dead, .dead, .dead, .dead, .dead, .dead, .dead, .dead, .dead, .dead, .dead, .dead, .dead, .dead, .dead, .dead, .dead, .dead, .dead, .dead, .dead, .dead, .dead], stk := [], heap := [(90100, .arr 108 (.pair .str (.pair .str .unit)) z90100), (90110, .arr 116 (.pair .str (.pair (.pair .str (.pair .bool (.pair .str (.pair .bool (.pair .str .unit))))) (.pair (.pair .str (.pair .bool (.pair .str (.pair .bool (.pair .str .unit))))) (.pair (.pair .str (.pair .bool (.pair .str (.pair .bool (.pair .str .unit))))) .unit)))) z90110)] }
noncomputable def spec_l07Merge_l0_b (rec : (List (List Int)) → Int → (List (List Int × (List Int × Unit))) → (List (List Int × ((List Int × (Bool × (List Int × (Bool × (List Int × Unit))))) × ((List Int × (Bool × (List Int × (Bool × (List Int × Unit))))) × ((List Int × (Bool × (List Int × (Bool × (List Int × Unit))))) × Unit))))) → Option (shDen spec_l07Merge_sh)) (ke0 : (List (List Int × (List Int × Unit))) → (List (List Int × ((List Int × (Bool × (List Int × (Bool × (List Int × Unit))))) × ((List Int × (Bool × (List Int × (Bool × (List Int × Unit))))) × ((List Int × (Bool × (List Int × (Bool × (List Int × Unit))))) × Unit))))) → Option (shDen spec_l07Merge_sh)) (a0 : (List (List Int × (List Int × Unit)))) (a1 : (List (List Int × (List Int × Unit)))) (a2 : (List (List Int × (List Int × Unit)))) (z200 : (List (List Int))) (x12 : Int) (z90100 : (List (List Int × (List Int × Unit)))) (z90110 : (List (List Int × ((List Int × (Bool × (List Int × (Bool × (List Int × Unit))))) × ((List Int × (Bool × (List Int × (Bool × (List Int × Unit))))) × ((List Int × (Bool × (List Int × (Bool × (List Int × Unit))))) × Unit)))))) : Option (shDen spec_l07Merge_sh) :=
 (cond (decide (x12 < (z200.length : Int)))
 (cond ((decide ((0 : Int) ≤ x12)) && (decide (x12 < (z200.length : Int))))
 (bindO (spec_l07Has_r a0 (z200.getD (x12.toNat) [])) fun (b5 : (List Int × (Bool × (List Int × (Bool × (List Int × Unit)))))) => (cond ((decide ((0 : Int) ≤ x12)) && (decide (x12 < (z200.length : Int))))
 (bindO (spec_l07Has_r a1 (z200.getD (x12.toNat) [])) fun (b6 : (List Int × (Bool × (List Int × (Bool × (List Int × Unit)))))) => (cond ((decide ((0 : Int) ≤ x12)) && (decide (x12 < (z200.length : Int))))
 (bindO (spec_l07Has_r a2 (z200.getD (x12.toNat) [])) fun (b7 : (List Int × (Bool × (List Int × (Bool × (List Int × Unit)))))) => (cond (eqd (.pair .str (.pair .bool (.pair .str (.pair .bool (.pair .str .unit))))) b6 b7)
 (cond b6.2.2.2.1
 (cond ((decide ((0 : Int) ≤ x12)) && (decide (x12 < (z200.length : Int))))
 (cond (decide ((z90100.length + 1) * 32 ≤ 140737488355328) && decide (z90100.length + 1 ≤ 9223372036854775807))
 (rec z200 (IntKind.wrap .i64 (x12 + (1 : Int))) (z90100 ++ [((z200.getD (x12.toNat) []), (b6.2.2.2.2.1, ()))]) z90110)
 none)
 none)
 (rec z200 (IntKind.wrap .i64 (x12 + (1 : Int))) z90100 z90110))
 (cond (eqd (.pair .str (.pair .bool (.pair .str (.pair .bool (.pair .str .unit))))) b5 b7)
 (cond b6.2.2.2.1
 (cond ((decide ((0 : Int) ≤ x12)) && (decide (x12 < (z200.length : Int))))
 (cond (decide ((z90100.length + 1) * 32 ≤ 140737488355328) && decide (z90100.length + 1 ≤ 9223372036854775807))
 (rec z200 (IntKind.wrap .i64 (x12 + (1 : Int))) (z90100 ++ [((z200.getD (x12.toNat) []), (b6.2.2.2.2.1, ()))]) z90110)
 none)
 none)
 (rec z200 (IntKind.wrap .i64 (x12 + (1 : Int))) z90100 z90110))
 (cond (eqd (.pair .str (.pair .bool (.pair .str (.pair .bool (.pair .str .unit))))) b5 b6)
 (cond b7.2.2.2.1
 (cond ((decide ((0 : Int) ≤ x12)) && (decide (x12 < (z200.length : Int))))
 (cond (decide ((z90100.length + 1) * 32 ≤ 140737488355328) && decide (z90100.length + 1 ≤ 9223372036854775807))
 (rec z200 (IntKind.wrap .i64 (x12 + (1 : Int))) (z90100 ++ [((z200.getD (x12.toNat) []), (b7.2.2.2.2.1, ()))]) z90110)
 none)
 none)
 (rec z200 (IntKind.wrap .i64 (x12 + (1 : Int))) z90100 z90110))
 (cond ((decide ((0 : Int) ≤ x12)) && (decide (x12 < (z200.length : Int))))
 (cond (decide ((z90110.length + 1) * 208 ≤ 140737488355328) && decide (z90110.length + 1 ≤ 9223372036854775807))
 (cond b5.2.2.2.1
 (cond ((decide ((0 : Int) ≤ x12)) && (decide (x12 < (z200.length : Int))))
 (cond (decide ((z90100.length + 1) * 32 ≤ 140737488355328) && decide (z90100.length + 1 ≤ 9223372036854775807))
 (rec z200 (IntKind.wrap .i64 (x12 + (1 : Int))) (z90100 ++ [((z200.getD (x12.toNat) []), (b5.2.2.2.2.1, ()))]) (z90110 ++ [((z200.getD (x12.toNat) []), (b5, (b6, (b7, ()))))]))
 none)
 none)
 (rec z200 (IntKind.wrap .i64 (x12 + (1 : Int))) z90100 (z90110 ++ [((z200.getD (x12.toNat) []), (b5, (b6, (b7, ()))))])))
 none)
 none)))))
 none))
 none))
 none)
 (ke0 z90100 z90110))
noncomputable def spec_l07Merge_l0_L (ke0 : (List (List Int × (List Int × Unit))) → (List (List Int × ((List Int × (Bool × (List Int × (Bool × (List Int × Unit))))) × ((List Int × (Bool × (List Int × (Bool × (List Int × Unit))))) × ((List Int × (Bool × (List Int × (Bool × (List Int × Unit))))) × Unit))))) → Option (shDen spec_l07Merge_sh)) (a0 : (List (List Int × (List Int × Unit)))) (a1 : (List (List Int × (List Int × Unit)))) (a2 : (List (List Int × (List Int × Unit)))) : Nat → (List (List Int)) → Int → (List (List Int × (List Int × Unit))) → (List (List Int × ((List Int × (Bool × (List Int × (Bool × (List Int × Unit))))) × ((List Int × (Bool × (List Int × (Bool × (List Int × Unit))))) × ((List Int × (Bool × (List Int × (Bool × (List Int × Unit))))) × Unit))))) → Option (shDen spec_l07Merge_sh)
 | 0 => fun _ _ _ _ => none
 | n + 1 => spec_l07Merge_l0_b (spec_l07Merge_l0_L ke0 a0 a1 a2 n) ke0 a0 a1 a2
noncomputable def spec_l07Merge_r (a0 : (List (List Int × (List Int × Unit)))) (a1 : (List (List Int × (List Int × Unit)))) (a2 : (List (List Int × (List Int × Unit)))) : Option (shDen spec_l07Merge_sh) :=
 (bindO (spec_l07Names_r a0 a1 a2) fun (b1 : (List (List Int))) => (spec_l07Merge_l0_L (fun z90100 z90110 => (bindO (spec_ValidEntries_r z90100) fun (b8 : Bool) => (cond (!b8)
 (some ([], ([], (3 : Int))))
 (some (z90100, (z90110, (0 : Int))))))) a0 a1 a2 FUEL b1 (0 : Int) [] []))
theorem spec_l07Merge_l0_round (k : Nat) (K : Ex → St → Option (shDen spec_l07Merge_sh)) (n : Nat) (a0 : (List (List Int × (List Int × Unit)))) (a1 : (List (List Int × (List Int × Unit)))) (a2 : (List (List Int × (List Int × Unit)))) (z200 : (List (List Int))) (x12 : Int) (z90100 : (List (List Int × (List Int × Unit)))) (z90110 : (List (List Int × ((List Int × (Bool × (List Int × (Bool × (List Int × Unit))))) × ((List Int × (Bool × (List Int × (Bool × (List Int × Unit))))) × ((List Int × (Bool × (List Int × (Bool × (List Int × Unit))))) × Unit)))))) : (loopK (spec_l07Merge_cx k) 0 (execK (spec_l07Merge_cx k) (callK (spec_l07Merge_cx k) 8) 0 78 (sub spec_l07Merge_c [1, 1, 1, 1, 0, 1, 0, 0])) spec_l07Merge_l0_cut K (n + 1) (spec_l07Merge_l0_s a0 a1 a2 z200 x12 z90100 z90110) : Option (shDen spec_l07Merge_sh)) =
 ((cond (decide (x12 < (z200.length : Int)))
 (cond ((decide ((0 : Int) ≤ x12)) && (decide (x12 < (z200.length : Int))))
 (bindO (spec_l07Has_r a0 (z200.getD (x12.toNat) [])) fun (b5 : (List Int × (Bool × (List Int × (Bool × (List Int × Unit)))))) => (cond ((decide ((0 : Int) ≤ x12)) && (decide (x12 < (z200.length : Int))))
 (bindO (spec_l07Has_r a1 (z200.getD (x12.toNat) [])) fun (b6 : (List Int × (Bool × (List Int × (Bool × (List Int × Unit)))))) => (cond ((decide ((0 : Int) ≤ x12)) && (decide (x12 < (z200.length : Int))))
 (bindO (spec_l07Has_r a2 (z200.getD (x12.toNat) [])) fun (b7 : (List Int × (Bool × (List Int × (Bool × (List Int × Unit)))))) => (cond (eqd (.pair .str (.pair .bool (.pair .str (.pair .bool (.pair .str .unit))))) b6 b7)
 (cond b6.2.2.2.1
 (cond ((decide ((0 : Int) ≤ x12)) && (decide (x12 < (z200.length : Int))))
 (cond (decide ((z90100.length + 1) * 32 ≤ 140737488355328) && decide (z90100.length + 1 ≤ 9223372036854775807))
 (loopK (spec_l07Merge_cx k) 0 (execK (spec_l07Merge_cx k) (callK (spec_l07Merge_cx k) 8) 0 78 (sub spec_l07Merge_c [1, 1, 1, 1, 0, 1, 0, 0])) spec_l07Merge_l0_cut K n (spec_l07Merge_l0_s a0 a1 a2 z200 (IntKind.wrap .i64 (x12 + (1 : Int))) (z90100 ++ [((z200.getD (x12.toNat) []), (b6.2.2.2.2.1, ()))]) z90110))
 none)
 none)
 (loopK (spec_l07Merge_cx k) 0 (execK (spec_l07Merge_cx k) (callK (spec_l07Merge_cx k) 8) 0 78 (sub spec_l07Merge_c [1, 1, 1, 1, 0, 1, 0, 0])) spec_l07Merge_l0_cut K n (spec_l07Merge_l0_s a0 a1 a2 z200 (IntKind.wrap .i64 (x12 + (1 : Int))) z90100 z90110)))
 (cond (eqd (.pair .str (.pair .bool (.pair .str (.pair .bool (.pair .str .unit))))) b5 b7)
 (cond b6.2.2.2.1
 (cond ((decide ((0 : Int) ≤ x12)) && (decide (x12 < (z200.length : Int))))
 (cond (decide ((z90100.length + 1) * 32 ≤ 140737488355328) && decide (z90100.length + 1 ≤ 9223372036854775807))
 (loopK (spec_l07Merge_cx k) 0 (execK (spec_l07Merge_cx k) (callK (spec_l07Merge_cx k) 8) 0 78 (sub spec_l07Merge_c [1, 1, 1, 1, 0, 1, 0, 0])) spec_l07Merge_l0_cut K n (spec_l07Merge_l0_s a0 a1 a2 z200 (IntKind.wrap .i64 (x12 + (1 : Int))) (z90100 ++ [((z200.getD (x12.toNat) []), (b6.2.2.2.2.1, ()))]) z90110))
 none)
 none)
 (loopK (spec_l07Merge_cx k) 0 (execK (spec_l07Merge_cx k) (callK (spec_l07Merge_cx k) 8) 0 78 (sub spec_l07Merge_c [1, 1, 1, 1, 0, 1, 0, 0])) spec_l07Merge_l0_cut K n (spec_l07Merge_l0_s a0 a1 a2 z200 (IntKind.wrap .i64 (x12 + (1 : Int))) z90100 z90110)))
 (cond (eqd (.pair .str (.pair .bool (.pair .str (.pair .bool (.pair .str .unit))))) b5 b6)
 (cond b7.2.2.2.1
 (cond ((decide ((0 : Int) ≤ x12)) && (decide (x12 < (z200.length : Int))))
 (cond (decide ((z90100.length + 1) * 32 ≤ 140737488355328) && decide (z90100.length + 1 ≤ 9223372036854775807))
 (loopK (spec_l07Merge_cx k) 0 (execK (spec_l07Merge_cx k) (callK (spec_l07Merge_cx k) 8) 0 78 (sub spec_l07Merge_c [1, 1, 1, 1, 0, 1, 0, 0])) spec_l07Merge_l0_cut K n (spec_l07Merge_l0_s a0 a1 a2 z200 (IntKind.wrap .i64 (x12 + (1 : Int))) (z90100 ++ [((z200.getD (x12.toNat) []), (b7.2.2.2.2.1, ()))]) z90110))
 none)
 none)
 (loopK (spec_l07Merge_cx k) 0 (execK (spec_l07Merge_cx k) (callK (spec_l07Merge_cx k) 8) 0 78 (sub spec_l07Merge_c [1, 1, 1, 1, 0, 1, 0, 0])) spec_l07Merge_l0_cut K n (spec_l07Merge_l0_s a0 a1 a2 z200 (IntKind.wrap .i64 (x12 + (1 : Int))) z90100 z90110)))
 (cond ((decide ((0 : Int) ≤ x12)) && (decide (x12 < (z200.length : Int))))
 (cond (decide ((z90110.length + 1) * 208 ≤ 140737488355328) && decide (z90110.length + 1 ≤ 9223372036854775807))
 (cond b5.2.2.2.1
 (cond ((decide ((0 : Int) ≤ x12)) && (decide (x12 < (z200.length : Int))))
 (cond (decide ((z90100.length + 1) * 32 ≤ 140737488355328) && decide (z90100.length + 1 ≤ 9223372036854775807))
 (loopK (spec_l07Merge_cx k) 0 (execK (spec_l07Merge_cx k) (callK (spec_l07Merge_cx k) 8) 0 78 (sub spec_l07Merge_c [1, 1, 1, 1, 0, 1, 0, 0])) spec_l07Merge_l0_cut K n (spec_l07Merge_l0_s a0 a1 a2 z200 (IntKind.wrap .i64 (x12 + (1 : Int))) (z90100 ++ [((z200.getD (x12.toNat) []), (b5.2.2.2.2.1, ()))]) (z90110 ++ [((z200.getD (x12.toNat) []), (b5, (b6, (b7, ()))))])))
 none)
 none)
 (loopK (spec_l07Merge_cx k) 0 (execK (spec_l07Merge_cx k) (callK (spec_l07Merge_cx k) 8) 0 78 (sub spec_l07Merge_c [1, 1, 1, 1, 0, 1, 0, 0])) spec_l07Merge_l0_cut K n (spec_l07Merge_l0_s a0 a1 a2 z200 (IntKind.wrap .i64 (x12 + (1 : Int))) z90100 (z90110 ++ [((z200.getD (x12.toNat) []), (b5, (b6, (b7, ()))))]))))
 none)
 none)))))
 none))
 none))
 none)
 (K (.exit 0) (spec_l07Merge_l0_o0 z90100 z90110))) : Option (shDen spec_l07Merge_sh)) := by kernel_rfl

theorem spec_l07Merge_l0_exit0 (k : Nat)  (z90100 : (List (List Int × (List Int × Unit)))) (z90110 : (List (List Int × ((List Int × (Bool × (List Int × (Bool × (List Int × Unit))))) × ((List Int × (Bool × (List Int × (Bool × (List Int × Unit))))) × ((List Int × (Bool × (List Int × (Bool × (List Int × Unit))))) × Unit)))))) : ((blkK 0 (seqK (execK (spec_l07Merge_cx k) (callK (spec_l07Merge_cx k) 8) 0 78 (sub spec_l07Merge_c [1, 1, 1, 1, 1])) (finK (spec_l07Merge_cx k) spec_l07Merge_i spec_l07Merge_sh))) (.exit 0) (spec_l07Merge_l0_o0 z90100 z90110) : Option (shDen spec_l07Merge_sh)) =
 ((bindO (spec_ValidEntries_r z90100) fun (b8 : Bool) => (cond (!b8)
 (some ([], ([], (3 : Int))))
 (some (z90100, (z90110, (0 : Int)))))) : Option (shDen spec_l07Merge_sh)) := by kernel_rfl

theorem spec_l07Merge_l0_congr (ke0 : (List (List Int × (List Int × Unit))) → (List (List Int × ((List Int × (Bool × (List Int × (Bool × (List Int × Unit))))) × ((List Int × (Bool × (List Int × (Bool × (List Int × Unit))))) × ((List Int × (Bool × (List Int × (Bool × (List Int × Unit))))) × Unit))))) → Option (shDen spec_l07Merge_sh)) (ke0' : (List (List Int × (List Int × Unit))) → (List (List Int × ((List Int × (Bool × (List Int × (Bool × (List Int × Unit))))) × ((List Int × (Bool × (List Int × (Bool × (List Int × Unit))))) × ((List Int × (Bool × (List Int × (Bool × (List Int × Unit))))) × Unit))))) → Option (shDen spec_l07Merge_sh)) (a0 : (List (List Int × (List Int × Unit)))) (a1 : (List (List Int × (List Int × Unit)))) (a2 : (List (List Int × (List Int × Unit)))) (n : Nat) (z200 : (List (List Int))) (x12 : Int) (z90100 : (List (List Int × (List Int × Unit)))) (z90110 : (List (List Int × ((List Int × (Bool × (List Int × (Bool × (List Int × Unit))))) × ((List Int × (Bool × (List Int × (Bool × (List Int × Unit))))) × ((List Int × (Bool × (List Int × (Bool × (List Int × Unit))))) × Unit)))))) (hke0 : ∀ z90100 z90110, ke0 z90100 z90110 = ke0' z90100 z90110) : spec_l07Merge_l0_L ke0 a0 a1 a2 n z200 x12 z90100 z90110 = spec_l07Merge_l0_L ke0' a0 a1 a2 n z200 x12 z90100 z90110 := by
 have : ke0 = ke0' := (by funext z90100 z90110; exact hke0 z90100 z90110); subst this; rfl

theorem spec_l07Merge_l0_L_eq (K : Ex → St → Option (shDen spec_l07Merge_sh)) (a0 : (List (List Int × (List Int × Unit)))) (a1 : (List (List Int × (List Int × Unit)))) (a2 : (List (List Int × (List Int × Unit)))) : ∀ (n : Nat) (z200 : (List (List Int))) (x12 : Int) (z90100 : (List (List Int × (List Int × Unit)))) (z90110 : (List (List Int × ((List Int × (Bool × (List Int × (Bool × (List Int × Unit))))) × ((List Int × (Bool × (List Int × (Bool × (List Int × Unit))))) × ((List Int × (Bool × (List Int × (Bool × (List Int × Unit))))) × Unit)))))), (loopK (spec_l07Merge_cx FUEL) 0 (execK (spec_l07Merge_cx FUEL) (callK (spec_l07Merge_cx FUEL) 8) 0 78 (sub spec_l07Merge_c [1, 1, 1, 1, 0, 1, 0, 0])) spec_l07Merge_l0_cut K n (spec_l07Merge_l0_s a0 a1 a2 z200 x12 z90100 z90110) : Option (shDen spec_l07Merge_sh)) = spec_l07Merge_l0_L (fun z90100 z90110 => K (.exit 0) (spec_l07Merge_l0_o0 z90100 z90110)) a0 a1 a2 n z200 x12 z90100 z90110 := by
 intro n
 induction n with
 | zero => intros; rfl
 | succ n ih =>
  intro z200 x12 z90100 z90110
  exact (spec_l07Merge_l0_round FUEL K n a0 a1 a2 z200 x12 z90100 z90110).trans (condC (condC (bindC (fun b5 => condC (bindC (fun b6 => condC (bindC (fun b7 => condC (condC (condC (condC (ih z200 (IntKind.wrap .i64 (x12 + (1 : Int))) (z90100 ++ [((z200.getD (x12.toNat) []), (b6.2.2.2.2.1, ()))]) z90110) (rfl)) (rfl)) (ih z200 (IntKind.wrap .i64 (x12 + (1 : Int))) z90100 z90110)) (condC (condC (condC (condC (ih z200 (IntKind.wrap .i64 (x12 + (1 : Int))) (z90100 ++ [((z200.getD (x12.toNat) []), (b6.2.2.2.2.1, ()))]) z90110) (rfl)) (rfl)) (ih z200 (IntKind.wrap .i64 (x12 + (1 : Int))) z90100 z90110)) (condC (condC (condC (condC (ih z200 (IntKind.wrap .i64 (x12 + (1 : Int))) (z90100 ++ [((z200.getD (x12.toNat) []), (b7.2.2.2.2.1, ()))]) z90110) (rfl)) (rfl)) (ih z200 (IntKind.wrap .i64 (x12 + (1 : Int))) z90100 z90110)) (condC (condC (condC (condC (condC (ih z200 (IntKind.wrap .i64 (x12 + (1 : Int))) (z90100 ++ [((z200.getD (x12.toNat) []), (b5.2.2.2.2.1, ()))]) (z90110 ++ [((z200.getD (x12.toNat) []), (b5, (b6, (b7, ()))))])) (rfl)) (rfl)) (ih z200 (IntKind.wrap .i64 (x12 + (1 : Int))) z90100 (z90110 ++ [((z200.getD (x12.toNat) []), (b5, (b6, (b7, ()))))]))) (rfl)) (rfl)))))) (rfl))) (rfl))) (rfl)) (rfl))

theorem spec_l07Merge_start (k : Nat) (a0 : (List (List Int × (List Int × Unit)))) (a1 : (List (List Int × (List Int × Unit)))) (a2 : (List (List Int × (List Int × Unit)))) : fnK (spec_l07Merge_cx k) 8 78 spec_l07Merge_i spec_l07Merge_sh [.pv (.slice (.pair .str (.pair .str .unit))) a0, .pv (.slice (.pair .str (.pair .str .unit))) a1, .pv (.slice (.pair .str (.pair .str .unit))) a2] =
 ((bindO (spec_l07Names_r a0 a1 a2) fun (b1 : (List (List Int))) => (loopK (spec_l07Merge_cx k) 0 (execK (spec_l07Merge_cx k) (callK (spec_l07Merge_cx k) 8) 0 78 (sub spec_l07Merge_c [1, 1, 1, 1, 0, 1, 0, 0])) spec_l07Merge_l0_cut (blkK 0 (seqK (execK (spec_l07Merge_cx k) (callK (spec_l07Merge_cx k) 8) 0 78 (sub spec_l07Merge_c [1, 1, 1, 1, 1])) (finK (spec_l07Merge_cx k) spec_l07Merge_i spec_l07Merge_sh))) k (spec_l07Merge_l0_s a0 a1 a2 b1 (0 : Int) [] []))) : Option (shDen spec_l07Merge_sh)) := by kernel_rfl

theorem spec_l07Merge_run (a0 : (List (List Int × (List Int × Unit)))) (a1 : (List (List Int × (List Int × Unit)))) (a2 : (List (List Int × (List Int × Unit)))) : fnK (spec_l07Merge_cx FUEL) 8 78 spec_l07Merge_i spec_l07Merge_sh [.pv (.slice (.pair .str (.pair .str .unit))) a0, .pv (.slice (.pair .str (.pair .str .unit))) a1, .pv (.slice (.pair .str (.pair .str .unit))) a2] = spec_l07Merge_r a0 a1 a2 :=
 (spec_l07Merge_start FUEL a0 a1 a2).trans (bindC (fun b1 => (spec_l07Merge_l0_L_eq _ a0 a1 a2 FUEL b1 (0 : Int) [] []).trans (spec_l07Merge_l0_congr _ _ a0 a1 a2 FUEL b1 (0 : Int) [] [] (fun z90100 z90110 => (spec_l07Merge_l0_exit0 FUEL  z90100 z90110).trans (rfl)))))

noncomputable def spec_l07Merge_con : Con := { ps := (.pair (.slice (.pair .str (.pair .str .unit))) (.pair (.slice (.pair .str (.pair .str .unit))) (.pair (.slice (.pair .str (.pair .str .unit))) .unit))), sh := spec_l07Merge_sh, raw := fun x => spec_l07Merge_r x.1 x.2.1 x.2.2.1 }
theorem spec_l07Merge_conOk : ConOk Try.prog 78 spec_l07Merge_con := con_of_fn (spec_l07Merge_tabs FUEL) (depth := 8) spec_l07Merge_ok fun x y h => (spec_l07Merge_run x.1 x.2.1 x.2.2.1).trans h

noncomputable def spec_l07Undone_l0_cut : Cut := { keep := [0, 1, 6, 7], stk := [], ids := [90060], own := [(6, 90060, 53)], outs := [(1, [1, 6], [90060])] }
noncomputable def spec_l07Undone_l1_cut : Cut := { keep := [0, 1, 6, 7, 8, 9], stk := [], ids := [90060], own := [], outs := [(3, [0, 1, 6, 7, 8], [90060])] }
noncomputable def spec_l07Undone_l2_cut : Cut := { keep := [1, 6, 10], stk := [], ids := [90060], own := [(6, 90060, 53)], outs := [(5, [6], [90060])] }
noncomputable def spec_l07Undone_l3_cut : Cut := { keep := [1, 6, 10, 11], stk := [], ids := [90060], own := [], outs := [(7, [1, 6, 10, 11], [90060])] }
noncomputable def spec_l07Undone_inls : List (Nat × Inl) := []
noncomputable def spec_l07Undone_cons : List (Nat × Con) := [(71, spec_ValidEntries_con)]
noncomputable def spec_l07Undone_taks : List (Nat × ConT) := []
noncomputable def spec_l07Undone_inps : List (Nat × ConI) := []
noncomputable def spec_l07Undone_cuts : List (Nat × List (Nat × Cut)) := [(108, [(0, spec_l07Undone_l0_cut), (2, spec_l07Undone_l1_cut), (4, spec_l07Undone_l2_cut), (6, spec_l07Undone_l3_cut)])]
noncomputable def spec_l07Undone_cx (k : Nat) : Cx := mkCx tys tbytes telem nozero (Ai.look spec_l07Undone_inls) (Ai.look spec_l07Undone_cons) (Ai.look spec_l07Undone_taks) (Ai.look spec_l07Undone_inps) (fun f id => match Ai.look spec_l07Undone_cuts f with | some l => Ai.look l id | none => none) k []
theorem spec_l07Undone_tabs (k : Nat) : TabsOk Try.prog (spec_l07Undone_cx k) := ⟨tab_mk tabs_ok _ _ _ _ _ _ _, look_all (Q := ConOk Try.prog) _ ⟨spec_ValidEntries_conOk, trivial⟩, look_all (Q := TakOk Try.prog) _ trivial, look_all (Q := InpOk Try.prog) _ trivial, look_all (Q := InlOk Try.prog) _ trivial, mixed_ok⟩
abbrev spec_l07Undone_sh : List Sh := [.own 108 (.pair .str (.pair .str .unit)), .pl (.int .i64)]
noncomputable def spec_l07Undone_l0_s (a0 : (List (List Int × (List Int × Unit)))) (a1 : (List (List Int × (Bool × (List Int × (Bool × (List Int × Unit))))))) (x7 : Int) (z90060 : (List (List Int × (List Int × Unit)))) : St := { env := [.pv (.slice (.pair .str (.pair .str .unit))) a0, .pv (.slice (.pair .str (.pair .bool (.pair .str (.pair .bool (.pair .str .unit)))))) a1, .dead, .dead, .dead, .dead, .sl 90060 (.pair .str (.pair .str .unit)), .pv (.int .i64) x7, .dead, .dead, .dead, .dead, .dead, .dead, .dead, .dead, .dead, .dead, .dead, .dead, .dead, .dead, .dead, .dead, .dead, .dead, .dead, .dead, .dead, .dead, .dead, .dead, .dead, .dead, .dead, .dead, .dead, .dead, .dead, .dead, .dead, .dead, .dead, .dead, .dead, .dead, .dead, .dead, .dead, .dead, .dead, .dead, .dead, .dead, .dead, .dead, .dead, .dead, .dead, .dead, .dead, .dead, .dead, .dead, .dead, .dead, .dead, .dead, .dead, .dead, .dead, .dead, .dead, .dead, .dead, .dead, .dead, .dead, .dead, .dead, .dead, .dead, .dead, .dead, .dead, .dead, .dead, .dead, .dead, .dead, .dead, .dead, .dead, .dead, .dead, .dead, .dead, .dead, .dead, .dead, .dead, .dead, .dead, .dead, .dead, .dead, .dead], stk := [], heap := [(90060, .arr 108 (.pair .str (.pair .str .unit)) z90060)] }
noncomputable def spec_l07Undone_l0_o0 (a1 : (List (List Int × (Bool × (List Int × (Bool × (List Int × Unit))))))) (z90060 : (List (List Int × (List Int × Unit)))) : St := { env := [.dead, .pv (.slice (.pair .str (.pair .bool (.pair .str (.pair .bool (.pair .str .unit)))))) a1, .dead, .dead, .dead, .dead, .sl 90060 (.pair .str (.pair .str .unit)), .dead, .dead, .dead, .dead, .dead, .dead, .dead, .dead, .dead, .dead, .dead, .dead, .dead, .dead, .dead, .dead, .dead, .dead, .dead, .dead, .dead, .dead, .dead, .dead, .dead, .dead, .dead, .dead, .dead, .dead, .dead, .dead, .dead, .dead, .dead, .dead, .dead, .dead, .dead, .dead, .dead, .dead, .dead, .dead, .dead, .dead, .dead, .dead, .dead, .dead, .dead, .dead, .dead, .dead, .dead, .dead, .dead, .dead, .dead, .dead, .dead, .dead, .dead, .dead, .dead, .dead, .dead, .dead, .dead, .dead, .dead, .dead, .dead, .dead, .dead, .dead, .dead, .dead, .dead, .dead, .dead, .dead, .dead, .dead, .dead, .dead, .dead, .dead, .dead, .dead, .dead, .dead, .dead, .dead, .dead, .dead, .dead, .dead, .dead, .dead], stk := [], heap := [(90060, .arr 108 (.pair .str (.pair .str .unit)) z90060)] }
noncomputable def spec_l07Undone_l1_s (a0 : (List (List Int × (List Int × Unit)))) (a1 : (List (List Int × (Bool × (List Int × (Bool × (List Int × Unit))))))) (x7 : Int) (z90060 : (List (List Int × (List Int × Unit)))) (x8 : Bool) (x9 : Int) : St := { env := [.pv (.slice (.pair .str (.pair .str .unit))) a0, .pv (.slice (.pair .str (.pair .bool (.pair .str (.pair .bool (.pair .str .unit)))))) a1, .dead, .dead, .dead, .dead, .sl 90060 (.pair .str (.pair .str .unit)), .pv (.int .i64) x7, .pv .bool x8, .pv (.int .i64) x9, .dead, .dead, .dead, .dead, .dead, .dead, .dead, .dead, .dead, .dead, .dead, .dead, .dead, .dead, .dead, .dead, .dead, .dead, .dead, .dead, .dead, .dead, .dead, .dead, .dead, .dead, .dead, .dead, .dead, .dead, .dead, .dead, .dead, .dead, .dead, .dead, .dead, .dead, .dead, .dead, .dead, .dead, .dead, .dead, .dead, .dead, .dead, .dead, .dead, .dead, .dead, .dead, .dead, .dead, .dead, .dead, .dead, .dead, .dead, .dead, .dead, .dead, .dead, .dead, .dead, .dead, .dead, .dead, .dead, .dead, .dead, .dead, .dead, .dead, .dead, .dead, .dead, .dead, .dead, .dead, .dead, .dead, .dead, .dead, .dead, .dead, .dead, .dead, .dead, .dead, .dead, .dead, .dead, .dead, .dead, .dead, .dead], stk := [], heap := [(90060, .arr 108 (.pair .str (.pair .str .unit)) z90060)] }
noncomputable def spec_l07Undone_l1_o2 (a0 : (List (List Int × (List Int × Unit)))) (a1 : (List (List Int × (Bool × (List Int × (Bool × (List Int × Unit))))))) (x7 : Int) (z90060 : (List (List Int × (List Int × Unit)))) (x8 : Bool) : St := { env := [.pv (.slice (.pair .str (.pair .str .unit))) a0, .pv (.slice (.pair .str (.pair .bool (.pair .str (.pair .bool (.pair .str .unit)))))) a1, .dead, .dead, .dead, .dead, .sl 90060 (.pair .str (.pair .str .unit)), .pv (.int .i64) x7, .pv .bool x8, .dead, .dead, .dead, .dead, .dead, .dead, .dead, .dead, .dead, .dead, .dead, .dead, .dead, .dead, .dead, .dead, .dead, .dead, .dead, .dead, .dead, .dead, .dead, .dead, .dead, .dead, .dead, .dead, .dead, .dead, .dead, .dead, .dead, .dead, .dead, .dead, .dead, .dead, .dead, .dead, .dead, .dead, .dead, .dead, .dead, .dead, .dead, .dead, .dead, .dead, .dead, .dead, .dead, .dead, .dead, .dead, .dead, .dead, .dead, .dead, .dead, .dead, .dead, .dead, .dead, .dead, .dead, .dead, .dead, .dead, .dead, .dead, .dead, .dead, .dead, .dead, .dead, .dead, .dead, .dead, .dead, .dead, .dead, .dead, .dead, .dead, .dead, .dead, .dead, .dead, .dead, .dead, .dead, .dead, .dead, .dead, .dead, .dead], stk := [], heap := [(90060, .arr 108 (.pair .str (.pair .str .unit)) z90060)] }
noncomputable def spec_l07Undone_l2_s (a1 : (List (List Int × (Bool × (List Int × (Bool × (List Int × Unit))))))) (z90060 : (List (List Int × (List Int × Unit)))) (x10 : Int) : St := { env := [.dead, .pv (.slice (.pair .str (.pair .bool (.pair .str (.pair .bool (.pair .str .unit)))))) a1, .dead, .dead, .dead, .dead, .sl 90060 (.pair .str (.pair .str .unit)), .dead, .dead, .dead, .pv (.int .i64) x10, .dead, .dead, .dead, .dead, .dead, .dead, .dead, .dead, .dead, .dead, .dead, .dead, .dead, .dead, .dead, .dead, .dead, .dead, .dead, .dead, .dead, .dead, .dead, .dead, .dead, .dead, .dead, .dead, .dead, .dead, .dead, .dead, .dead, .dead, .dead, .dead, .dead, .dead, .dead, .dead, .dead, .dead, .dead, .dead, .dead, .dead, .dead, .dead, .dead, .dead, .dead, .dead, .dead, .dead, .dead, .dead, .dead, .dead, .dead, .dead, .dead, .dead, .dead, .dead, .dead, .dead, .dead, .dead, .dead, .dead, .dead, .dead, .dead, .dead, .dead, .dead, .dead, .dead, .dead, .dead, .dead, .dead, .dead, .dead, .dead, .dead, .dead, .dead, .dead, .dead, .dead, .dead, .dead, .dead, .dead, .dead], stk := [], heap := [(90060, .arr 108 (.pair .str (.pair .str .unit)) z90060)] }
noncomputable def spec_l07Undone_l2_o4 (z90060 : (List (List Int × (List Int × Unit)))) : St := { env := [.dead, .dead, .dead, .dead, .dead, .dead, .sl 90060 (.pair .str (.pair .str .unit)), .dead, .dead, .dead, .dead, .dead, .dead, .dead, .dead, .dead, .dead, .dead, .dead, .dead, .dead, .dead, .dead, .dead, .dead, .dead, .dead, .dead, .dead, .dead, .dead, .dead, .dead, .dead, .dead, .dead, .dead, .dead, .dead, .dead, .dead, .dead, .dead, .dead, .dead, .dead, .dead, .dead, .dead, .dead, .dead, .dead, .dead, .dead, .dead, .dead, .dead, .dead, .dead, .dead, .dead, .dead, .dead, .dead, .dead, .dead, .dead, .dead, .dead, .dead, .dead, .dead, .dead, .dead, .dead, .dead, .dead, .dead, .dead, .dead, .dead, .dead, .dead, .dead, .dead, .dead, .dead, .dead, .dead, .dead, .dead, .dead, .dead, .dead, .dead, .dead, .dead, .dead, .dead, .dead, .dead, .dead, .dead, .dead, .dead, .dead, .dead], stk := [], heap := [(90060, .arr 108 (.pair .str (.pair .str .unit)) z90060)] }
noncomputable def spec_l07Undone_l3_s (a1 : (List (List Int × (Bool × (List Int × (Bool × (List Int × Unit))))))) (z90060 : (List (List Int × (List Int × Unit)))) (x10 : Int) (x11 : Int) : St := { env := [.dead, .pv (.slice (.pair .str (.pair .bool (.pair .str (.pair .bool (.pair .str .unit)))))) a1, .dead, .dead, .dead, .dead, .sl 90060 (.pair .str (.pair .str .unit)), .dead, .dead, .dead, .pv (.int .i64) x10, .pv (.int .i64) x11, .dead, .dead, .dead, .dead, .dead, .dead, .dead, .dead, .dead, .dead, .dead, .dead, .dead, .dead, .dead, .dead, .dead, .dead, .dead, .dead, .dead, .dead, .dead, .dead, .dead, .dead, .dead, .dead, .dead, .dead, .dead, .dead, .dead, .dead, .dead, .dead, .dead, .dead, .dead, .dead, .dead, .dead, .dead, .dead, .dead, .dead, .dead, .dead, .dead, .dead, .dead, .dead, .dead, .dead, .dead, .dead, .dead, .dead, .dead, .dead, .dead, .dead, .dead, .dead, .dead, .dead, .dead, .dead, .dead, .dead, .dead, .dead, .dead, .dead, .dead, .dead, .dead, .dead, .dead, .dead, .dead, .dead, .dead, .dead, .dead, .dead, .dead, .dead, .dead, .dead, .dead, .dead, .dead, .dead, .dead], stk := [], heap := [(90060, .arr 108 (.pair .str (.pair .str .unit)) z90060)] }
noncomputable def spec_l07Undone_l3_o6 (a1 : (List (List Int × (Bool × (List Int × (Bool × (List Int × Unit))))))) (z90060 : (List (List Int × (List Int × Unit)))) (x10 : Int) (x11 : Int) : St := { env := [.dead, .pv (.slice (.pair .str (.pair .bool (.pair .str (.pair .bool (.pair .str .unit)))))) a1, .dead, .dead, .dead, .dead, .sl 90060 (.pair .str (.pair .str .unit)), .dead, .dead, .dead, .pv (.int .i64) x10, .pv (.int .i64) x11, .dead, .dead, .dead, .dead, .dead, .dead, .dead, .dead, .dead, .dead, .dead, .dead, .dead, .dead, .dead, .dead, .dead, .dead, .dead, .dead, .dead, .dead, .dead, .dead, .dead, .dead, .dead, .dead, .dead, .dead, .dead, .dead, .dead, .dead, .dead, .dead, .dead, .dead, .dead, .dead, .dead, .dead, .dead, .dead, .dead, .dead, .dead, .dead, .dead, .dead, .dead, .dead, .dead, .dead, .dead, .dead, .dead, .dead, .dead, .dead, .dead, .dead, .dead, .dead, .dead, .dead, .dead, .dead, .dead, .dead, .dead, .dead, .dead, .dead, .dead, .dead, .dead, .dead, .dead, .dead, .dead, .dead, .dead, .dead, .dead, .dead, .dead, .dead, .dead, .dead, .dead, .dead, .dead, .dead, .dead], stk := [], heap := [(90060, .arr 108 (.pair .str (.pair .str .unit)) z90060)] }
noncomputable def spec_l07Undone_l3_b (rec : Int → Option (shDen spec_l07Undone_sh)) (ke6 : Int → Option (shDen spec_l07Undone_sh)) (a1 : (List (List Int × (Bool × (List Int × (Bool × (List Int × Unit))))))) (z90060 : (List (List Int × (List Int × Unit)))) (x10 : Int) (x11 : Int) : Option (shDen spec_l07Undone_sh) :=
 (cond (decide (x11 < (z90060.length : Int)))
 (cond ((decide ((0 : Int) ≤ x11)) && (decide (x11 < (z90060.length : Int))))
 (cond ((decide ((0 : Int) ≤ x10)) && (decide (x10 < (a1.length : Int))))
 (cond (ltI ((z90060.getD (x11.toNat) ([], ([], ()))).1) ((a1.getD (x10.toNat) ([], (false, ([], (false, ([], ())))))).1))
 (rec (IntKind.wrap .i64 (x11 + (1 : Int))))
 (ke6 x11))
 none)
 none)
 (ke6 x11))
noncomputable def spec_l07Undone_l3_L (ke6 : Int → Option (shDen spec_l07Undone_sh)) (a1 : (List (List Int × (Bool × (List Int × (Bool × (List Int × Unit))))))) (z90060 : (List (List Int × (List Int × Unit)))) (x10 : Int) : Nat → Int → Option (shDen spec_l07Undone_sh)
 | 0 => fun _ => none
 | n + 1 => spec_l07Undone_l3_b (spec_l07Undone_l3_L ke6 a1 z90060 x10 n) ke6 a1 z90060 x10
noncomputable def spec_l07Undone_l2_b (rec : (List (List Int × (List Int × Unit))) → Int → Option (shDen spec_l07Undone_sh)) (ke4 : (List (List Int × (List Int × Unit))) → Option (shDen spec_l07Undone_sh)) (a1 : (List (List Int × (Bool × (List Int × (Bool × (List Int × Unit))))))) (z90060 : (List (List Int × (List Int × Unit)))) (x10 : Int) : Option (shDen spec_l07Undone_sh) :=
 (cond (decide (x10 < (a1.length : Int)))
 (cond ((decide ((0 : Int) ≤ x10)) && (decide (x10 < (a1.length : Int))))
 (cond (!(((((a1.getD (x10.toNat) ([], (false, ([], (false, ([], ())))))).2).2).2).1))
 (rec z90060 (IntKind.wrap .i64 (x10 + (1 : Int))))
 (spec_l07Undone_l3_L (fun x11 => (cond ((decide ((0 : Int) ≤ x10)) && (decide (x10 < (a1.length : Int))))
 (cond ((decide ((0 : Int) ≤ x10)) && (decide (x10 < (a1.length : Int))))
 (cond ((decide ((0 : Int) ≤ x11)) && (decide (x11 ≤ (z90060.length : Int))))
 (cond (decide ((0 + (cutL z90060 0 (x11.toNat)).length) * 32 ≤ 140737488355328) && decide (0 + (cutL z90060 0 (x11.toNat)).length ≤ 9223372036854775807))
 (cond (decide ((([] ++ (cutL z90060 0 (x11.toNat))).length + 1) * 32 ≤ 140737488355328) && decide (([] ++ (cutL z90060 0 (x11.toNat))).length + 1 ≤ 9223372036854775807))
 (cond ((decide ((0 : Int) ≤ x11)) && (decide (x11 ≤ (z90060.length : Int))))
 (cond (decide (((([] ++ (cutL z90060 0 (x11.toNat))) ++ [((a1.getD (x10.toNat) ([], (false, ([], (false, ([], ())))))).1, ((((((a1.getD (x10.toNat) ([], (false, ([], (false, ([], ())))))).2).2).2).2).1, ()))]).length + (cutL z90060 (x11.toNat) (z90060.length)).length) * 32 ≤ 140737488355328) && decide ((([] ++ (cutL z90060 0 (x11.toNat))) ++ [((a1.getD (x10.toNat) ([], (false, ([], (false, ([], ())))))).1, ((((((a1.getD (x10.toNat) ([], (false, ([], (false, ([], ())))))).2).2).2).2).1, ()))]).length + (cutL z90060 (x11.toNat) (z90060.length)).length ≤ 9223372036854775807))
 (rec ((([] ++ (cutL z90060 0 (x11.toNat))) ++ [((a1.getD (x10.toNat) ([], (false, ([], (false, ([], ())))))).1, ((((((a1.getD (x10.toNat) ([], (false, ([], (false, ([], ())))))).2).2).2).2).1, ()))]) ++ (cutL z90060 (x11.toNat) (z90060.length))) (IntKind.wrap .i64 (x10 + (1 : Int))))
 none)
 none)
 none)
 none)
 none)
 none)
 none)) a1 z90060 x10 FUEL (0 : Int)))
 none)
 (ke4 z90060))
noncomputable def spec_l07Undone_l2_L (ke4 : (List (List Int × (List Int × Unit))) → Option (shDen spec_l07Undone_sh)) (a1 : (List (List Int × (Bool × (List Int × (Bool × (List Int × Unit))))))) : Nat → (List (List Int × (List Int × Unit))) → Int → Option (shDen spec_l07Undone_sh)
 | 0 => fun _ _ => none
 | n + 1 => spec_l07Undone_l2_b (spec_l07Undone_l2_L ke4 a1 n) ke4 a1
noncomputable def spec_l07Undone_l1_b (rec : Bool → Int → Option (shDen spec_l07Undone_sh)) (ke2 : Bool → Option (shDen spec_l07Undone_sh)) (a0 : (List (List Int × (List Int × Unit)))) (a1 : (List (List Int × (Bool × (List Int × (Bool × (List Int × Unit))))))) (x7 : Int) (z90060 : (List (List Int × (List Int × Unit)))) (x8 : Bool) (x9 : Int) : Option (shDen spec_l07Undone_sh) :=
 (cond (decide (x9 < (a1.length : Int)))
 (cond x8
 (cond ((decide ((0 : Int) ≤ x9)) && (decide (x9 < (a1.length : Int))))
 (cond ((decide ((0 : Int) ≤ x7)) && (decide (x7 < (a0.length : Int))))
 (rec (!(decide ((a1.getD (x9.toNat) ([], (false, ([], (false, ([], ())))))).1 = (a0.getD (x7.toNat) ([], ([], ()))).1))) (IntKind.wrap .i64 (x9 + (1 : Int))))
 none)
 none)
 (rec false (IntKind.wrap .i64 (x9 + (1 : Int)))))
 (ke2 x8))
noncomputable def spec_l07Undone_l1_L (ke2 : Bool → Option (shDen spec_l07Undone_sh)) (a0 : (List (List Int × (List Int × Unit)))) (a1 : (List (List Int × (Bool × (List Int × (Bool × (List Int × Unit))))))) (x7 : Int) (z90060 : (List (List Int × (List Int × Unit)))) : Nat → Bool → Int → Option (shDen spec_l07Undone_sh)
 | 0 => fun _ _ => none
 | n + 1 => spec_l07Undone_l1_b (spec_l07Undone_l1_L ke2 a0 a1 x7 z90060 n) ke2 a0 a1 x7 z90060
noncomputable def spec_l07Undone_l0_b (rec : Int → (List (List Int × (List Int × Unit))) → Option (shDen spec_l07Undone_sh)) (ke0 : (List (List Int × (List Int × Unit))) → Option (shDen spec_l07Undone_sh)) (a0 : (List (List Int × (List Int × Unit)))) (a1 : (List (List Int × (Bool × (List Int × (Bool × (List Int × Unit))))))) (x7 : Int) (z90060 : (List (List Int × (List Int × Unit)))) : Option (shDen spec_l07Undone_sh) :=
 (cond (decide (x7 < (a0.length : Int)))
 (spec_l07Undone_l1_L (fun x8 => (cond x8
 (cond ((decide ((0 : Int) ≤ x7)) && (decide (x7 < (a0.length : Int))))
 (cond (decide ((z90060.length + 1) * 32 ≤ 140737488355328) && decide (z90060.length + 1 ≤ 9223372036854775807))
 (rec (IntKind.wrap .i64 (x7 + (1 : Int))) (z90060 ++ [(a0.getD (x7.toNat) ([], ([], ())))]))
 none)
 none)
 (rec (IntKind.wrap .i64 (x7 + (1 : Int))) z90060))) a0 a1 x7 z90060 FUEL true (0 : Int))
 (ke0 z90060))
noncomputable def spec_l07Undone_l0_L (ke0 : (List (List Int × (List Int × Unit))) → Option (shDen spec_l07Undone_sh)) (a0 : (List (List Int × (List Int × Unit)))) (a1 : (List (List Int × (Bool × (List Int × (Bool × (List Int × Unit))))))) : Nat → Int → (List (List Int × (List Int × Unit))) → Option (shDen spec_l07Undone_sh)
 | 0 => fun _ _ => none
 | n + 1 => spec_l07Undone_l0_b (spec_l07Undone_l0_L ke0 a0 a1 n) ke0 a0 a1
noncomputable def spec_l07Undone_r (a0 : (List (List Int × (List Int × Unit)))) (a1 : (List (List Int × (Bool × (List Int × (Bool × (List Int × Unit))))))) : Option (shDen spec_l07Undone_sh) :=
 (spec_l07Undone_l0_L (fun z90060 => (spec_l07Undone_l2_L (fun z90060 => (bindO (spec_ValidEntries_r z90060) fun (b1 : Bool) => (cond (!b1)
 (some ([], (3 : Int)))
 (some (z90060, (0 : Int)))))) a1 FUEL z90060 (0 : Int))) a0 a1 FUEL (0 : Int) [])
theorem spec_l07Undone_l3_round (k : Nat) (K : Ex → St → Option (shDen spec_l07Undone_sh)) (n : Nat) (a1 : (List (List Int × (Bool × (List Int × (Bool × (List Int × Unit))))))) (z90060 : (List (List Int × (List Int × Unit)))) (x10 : Int) (x11 : Int) : (loopK (spec_l07Undone_cx k) 0 (execK (spec_l07Undone_cx k) (callK (spec_l07Undone_cx k) 8) 0 108 (sub spec_l07Undone_c [1, 1, 1, 0, 1, 0, 0, 1, 0, 0, 1, 1, 0, 0, 0])) spec_l07Undone_l3_cut K (n + 1) (spec_l07Undone_l3_s a1 z90060 x10 x11) : Option (shDen spec_l07Undone_sh)) =
 ((cond (decide (x11 < (z90060.length : Int)))
 (cond ((decide ((0 : Int) ≤ x11)) && (decide (x11 < (z90060.length : Int))))
 (cond ((decide ((0 : Int) ≤ x10)) && (decide (x10 < (a1.length : Int))))
 (cond (ltI ((z90060.getD (x11.toNat) ([], ([], ()))).1) ((a1.getD (x10.toNat) ([], (false, ([], (false, ([], ())))))).1))
 (loopK (spec_l07Undone_cx k) 0 (execK (spec_l07Undone_cx k) (callK (spec_l07Undone_cx k) 8) 0 108 (sub spec_l07Undone_c [1, 1, 1, 0, 1, 0, 0, 1, 0, 0, 1, 1, 0, 0, 0])) spec_l07Undone_l3_cut K n (spec_l07Undone_l3_s a1 z90060 x10 (IntKind.wrap .i64 (x11 + (1 : Int)))))
 (K (.exit 6) (spec_l07Undone_l3_o6 a1 z90060 x10 x11)))
 none)
 none)
 (K (.exit 6) (spec_l07Undone_l3_o6 a1 z90060 x10 x11))) : Option (shDen spec_l07Undone_sh)) := by kernel_rfl

theorem spec_l07Undone_l3_exit6 (k : Nat) (K : Ex → St → Option (shDen spec_l07Undone_sh)) (n : Nat) (a1 : (List (List Int × (Bool × (List Int × (Bool × (List Int × Unit))))))) (z90060 : (List (List Int × (List Int × Unit)))) (x10 : Int) (x11 : Int) : ((blkK 6 (seqK (execK (spec_l07Undone_cx k) (callK (spec_l07Undone_cx k) 8) 0 108 (sub spec_l07Undone_c [1, 1, 1, 0, 1, 0, 0, 1, 0, 0, 1, 1, 1])) (blkK 5 (seqK (execK (spec_l07Undone_cx k) (callK (spec_l07Undone_cx k) 8) 0 108 (sub spec_l07Undone_c [1, 1, 1, 0, 1, 0, 0, 1, 1])) (iterK (spec_l07Undone_cx k) 0 spec_l07Undone_l2_cut (loopK (spec_l07Undone_cx k) 0 (execK (spec_l07Undone_cx k) (callK (spec_l07Undone_cx k) 8) 0 108 (sub spec_l07Undone_c [1, 1, 1, 0, 1, 0, 0])) spec_l07Undone_l2_cut K n) K))))) (.exit 6) (spec_l07Undone_l3_o6 a1 z90060 x10 x11) : Option (shDen spec_l07Undone_sh)) =
 ((cond ((decide ((0 : Int) ≤ x10)) && (decide (x10 < (a1.length : Int))))
 (cond ((decide ((0 : Int) ≤ x10)) && (decide (x10 < (a1.length : Int))))
 (cond ((decide ((0 : Int) ≤ x11)) && (decide (x11 ≤ (z90060.length : Int))))
 (cond (decide ((0 + (cutL z90060 0 (x11.toNat)).length) * 32 ≤ 140737488355328) && decide (0 + (cutL z90060 0 (x11.toNat)).length ≤ 9223372036854775807))
 (cond (decide ((([] ++ (cutL z90060 0 (x11.toNat))).length + 1) * 32 ≤ 140737488355328) && decide (([] ++ (cutL z90060 0 (x11.toNat))).length + 1 ≤ 9223372036854775807))
 (cond ((decide ((0 : Int) ≤ x11)) && (decide (x11 ≤ (z90060.length : Int))))
 (cond (decide (((([] ++ (cutL z90060 0 (x11.toNat))) ++ [((a1.getD (x10.toNat) ([], (false, ([], (false, ([], ())))))).1, ((((((a1.getD (x10.toNat) ([], (false, ([], (false, ([], ())))))).2).2).2).2).1, ()))]).length + (cutL z90060 (x11.toNat) (z90060.length)).length) * 32 ≤ 140737488355328) && decide ((([] ++ (cutL z90060 0 (x11.toNat))) ++ [((a1.getD (x10.toNat) ([], (false, ([], (false, ([], ())))))).1, ((((((a1.getD (x10.toNat) ([], (false, ([], (false, ([], ())))))).2).2).2).2).1, ()))]).length + (cutL z90060 (x11.toNat) (z90060.length)).length ≤ 9223372036854775807))
 (loopK (spec_l07Undone_cx k) 0 (execK (spec_l07Undone_cx k) (callK (spec_l07Undone_cx k) 8) 0 108 (sub spec_l07Undone_c [1, 1, 1, 0, 1, 0, 0])) spec_l07Undone_l2_cut K n (spec_l07Undone_l2_s a1 ((([] ++ (cutL z90060 0 (x11.toNat))) ++ [((a1.getD (x10.toNat) ([], (false, ([], (false, ([], ())))))).1, ((((((a1.getD (x10.toNat) ([], (false, ([], (false, ([], ())))))).2).2).2).2).1, ()))]) ++ (cutL z90060 (x11.toNat) (z90060.length))) (IntKind.wrap .i64 (x10 + (1 : Int)))))
 none)
 none)
 none)
 none)
 none)
 none)
 none) : Option (shDen spec_l07Undone_sh)) := by kernel_rfl

theorem spec_l07Undone_l3_congr (ke6 : Int → Option (shDen spec_l07Undone_sh)) (ke6' : Int → Option (shDen spec_l07Undone_sh)) (a1 : (List (List Int × (Bool × (List Int × (Bool × (List Int × Unit))))))) (z90060 : (List (List Int × (List Int × Unit)))) (x10 : Int) (n : Nat) (x11 : Int) (hke6 : ∀ x11, ke6 x11 = ke6' x11) : spec_l07Undone_l3_L ke6 a1 z90060 x10 n x11 = spec_l07Undone_l3_L ke6' a1 z90060 x10 n x11 := by
 have : ke6 = ke6' := (by funext x11; exact hke6 x11); subst this; rfl

theorem spec_l07Undone_l3_L_eq (K : Ex → St → Option (shDen spec_l07Undone_sh)) (a1 : (List (List Int × (Bool × (List Int × (Bool × (List Int × Unit))))))) (z90060 : (List (List Int × (List Int × Unit)))) (x10 : Int) : ∀ (n : Nat) (x11 : Int), (loopK (spec_l07Undone_cx FUEL) 0 (execK (spec_l07Undone_cx FUEL) (callK (spec_l07Undone_cx FUEL) 8) 0 108 (sub spec_l07Undone_c [1, 1, 1, 0, 1, 0, 0, 1, 0, 0, 1, 1, 0, 0, 0])) spec_l07Undone_l3_cut K n (spec_l07Undone_l3_s a1 z90060 x10 x11) : Option (shDen spec_l07Undone_sh)) = spec_l07Undone_l3_L (fun x11 => K (.exit 6) (spec_l07Undone_l3_o6 a1 z90060 x10 x11)) a1 z90060 x10 n x11 := by
 intro n
 induction n with
 | zero => intros; rfl
 | succ n ih =>
  intro x11
  exact (spec_l07Undone_l3_round FUEL K n a1 z90060 x10 x11).trans (condC (condC (condC (condC (ih (IntKind.wrap .i64 (x11 + (1 : Int)))) (rfl)) (rfl)) (rfl)) (rfl))

theorem spec_l07Undone_l2_round (k : Nat) (K : Ex → St → Option (shDen spec_l07Undone_sh)) (n : Nat) (a1 : (List (List Int × (Bool × (List Int × (Bool × (List Int × Unit))))))) (z90060 : (List (List Int × (List Int × Unit)))) (x10 : Int) : (loopK (spec_l07Undone_cx k) 0 (execK (spec_l07Undone_cx k) (callK (spec_l07Undone_cx k) 8) 0 108 (sub spec_l07Undone_c [1, 1, 1, 0, 1, 0, 0])) spec_l07Undone_l2_cut K (n + 1) (spec_l07Undone_l2_s a1 z90060 x10) : Option (shDen spec_l07Undone_sh)) =
 ((cond (decide (x10 < (a1.length : Int)))
 (cond ((decide ((0 : Int) ≤ x10)) && (decide (x10 < (a1.length : Int))))
 (cond (!(((((a1.getD (x10.toNat) ([], (false, ([], (false, ([], ())))))).2).2).2).1))
 (loopK (spec_l07Undone_cx k) 0 (execK (spec_l07Undone_cx k) (callK (spec_l07Undone_cx k) 8) 0 108 (sub spec_l07Undone_c [1, 1, 1, 0, 1, 0, 0])) spec_l07Undone_l2_cut K n (spec_l07Undone_l2_s a1 z90060 (IntKind.wrap .i64 (x10 + (1 : Int)))))
 (loopK (spec_l07Undone_cx k) 0 (execK (spec_l07Undone_cx k) (callK (spec_l07Undone_cx k) 8) 0 108 (sub spec_l07Undone_c [1, 1, 1, 0, 1, 0, 0, 1, 0, 0, 1, 1, 0, 0, 0])) spec_l07Undone_l3_cut (blkK 6 (seqK (execK (spec_l07Undone_cx k) (callK (spec_l07Undone_cx k) 8) 0 108 (sub spec_l07Undone_c [1, 1, 1, 0, 1, 0, 0, 1, 0, 0, 1, 1, 1])) (blkK 5 (seqK (execK (spec_l07Undone_cx k) (callK (spec_l07Undone_cx k) 8) 0 108 (sub spec_l07Undone_c [1, 1, 1, 0, 1, 0, 0, 1, 1])) (iterK (spec_l07Undone_cx k) 0 spec_l07Undone_l2_cut (loopK (spec_l07Undone_cx k) 0 (execK (spec_l07Undone_cx k) (callK (spec_l07Undone_cx k) 8) 0 108 (sub spec_l07Undone_c [1, 1, 1, 0, 1, 0, 0])) spec_l07Undone_l2_cut K n) K))))) k (spec_l07Undone_l3_s a1 z90060 x10 (0 : Int))))
 none)
 (K (.exit 4) (spec_l07Undone_l2_o4 z90060))) : Option (shDen spec_l07Undone_sh)) := by kernel_rfl

theorem spec_l07Undone_l2_exit4 (k : Nat)  (z90060 : (List (List Int × (List Int × Unit)))) : ((blkK 4 (seqK (execK (spec_l07Undone_cx k) (callK (spec_l07Undone_cx k) 8) 0 108 (sub spec_l07Undone_c [1, 1, 1, 1])) (finK (spec_l07Undone_cx k) spec_l07Undone_i spec_l07Undone_sh))) (.exit 4) (spec_l07Undone_l2_o4 z90060) : Option (shDen spec_l07Undone_sh)) =
 ((bindO (spec_ValidEntries_r z90060) fun (b1 : Bool) => (cond (!b1)
 (some ([], (3 : Int)))
 (some (z90060, (0 : Int))))) : Option (shDen spec_l07Undone_sh)) := by kernel_rfl

theorem spec_l07Undone_l2_congr (ke4 : (List (List Int × (List Int × Unit))) → Option (shDen spec_l07Undone_sh)) (ke4' : (List (List Int × (List Int × Unit))) → Option (shDen spec_l07Undone_sh)) (a1 : (List (List Int × (Bool × (List Int × (Bool × (List Int × Unit))))))) (n : Nat) (z90060 : (List (List Int × (List Int × Unit)))) (x10 : Int) (hke4 : ∀ z90060, ke4 z90060 = ke4' z90060) : spec_l07Undone_l2_L ke4 a1 n z90060 x10 = spec_l07Undone_l2_L ke4' a1 n z90060 x10 := by
 have : ke4 = ke4' := (by funext z90060; exact hke4 z90060); subst this; rfl

theorem spec_l07Undone_l2_L_eq (K : Ex → St → Option (shDen spec_l07Undone_sh)) (a1 : (List (List Int × (Bool × (List Int × (Bool × (List Int × Unit))))))) : ∀ (n : Nat) (z90060 : (List (List Int × (List Int × Unit)))) (x10 : Int), (loopK (spec_l07Undone_cx FUEL) 0 (execK (spec_l07Undone_cx FUEL) (callK (spec_l07Undone_cx FUEL) 8) 0 108 (sub spec_l07Undone_c [1, 1, 1, 0, 1, 0, 0])) spec_l07Undone_l2_cut K n (spec_l07Undone_l2_s a1 z90060 x10) : Option (shDen spec_l07Undone_sh)) = spec_l07Undone_l2_L (fun z90060 => K (.exit 4) (spec_l07Undone_l2_o4 z90060)) a1 n z90060 x10 := by
 intro n
 induction n with
 | zero => intros; rfl
 | succ n ih =>
  intro z90060 x10
  exact (spec_l07Undone_l2_round FUEL K n a1 z90060 x10).trans (condC (condC (condC (ih z90060 (IntKind.wrap .i64 (x10 + (1 : Int)))) ((spec_l07Undone_l3_L_eq _ a1 z90060 x10 FUEL (0 : Int)).trans (spec_l07Undone_l3_congr _ _ a1 z90060 x10 FUEL (0 : Int) (fun x11 => (spec_l07Undone_l3_exit6 FUEL K n a1 z90060 x10 x11).trans (condC (condC (condC (condC (condC (condC (condC (ih ((([] ++ (cutL z90060 0 (x11.toNat))) ++ [((a1.getD (x10.toNat) ([], (false, ([], (false, ([], ())))))).1, ((((((a1.getD (x10.toNat) ([], (false, ([], (false, ([], ())))))).2).2).2).2).1, ()))]) ++ (cutL z90060 (x11.toNat) (z90060.length))) (IntKind.wrap .i64 (x10 + (1 : Int)))) (rfl)) (rfl)) (rfl)) (rfl)) (rfl)) (rfl)) (rfl)))))) (rfl)) (rfl))

theorem spec_l07Undone_l1_round (k : Nat) (K : Ex → St → Option (shDen spec_l07Undone_sh)) (n : Nat) (a0 : (List (List Int × (List Int × Unit)))) (a1 : (List (List Int × (Bool × (List Int × (Bool × (List Int × Unit))))))) (x7 : Int) (z90060 : (List (List Int × (List Int × Unit)))) (x8 : Bool) (x9 : Int) : (loopK (spec_l07Undone_cx k) 0 (execK (spec_l07Undone_cx k) (callK (spec_l07Undone_cx k) 8) 0 108 (sub spec_l07Undone_c [1, 1, 0, 1, 0, 0, 1, 0, 0, 1, 0, 1, 0, 0])) spec_l07Undone_l1_cut K (n + 1) (spec_l07Undone_l1_s a0 a1 x7 z90060 x8 x9) : Option (shDen spec_l07Undone_sh)) =
 ((cond (decide (x9 < (a1.length : Int)))
 (cond x8
 (cond ((decide ((0 : Int) ≤ x9)) && (decide (x9 < (a1.length : Int))))
 (cond ((decide ((0 : Int) ≤ x7)) && (decide (x7 < (a0.length : Int))))
 (loopK (spec_l07Undone_cx k) 0 (execK (spec_l07Undone_cx k) (callK (spec_l07Undone_cx k) 8) 0 108 (sub spec_l07Undone_c [1, 1, 0, 1, 0, 0, 1, 0, 0, 1, 0, 1, 0, 0])) spec_l07Undone_l1_cut K n (spec_l07Undone_l1_s a0 a1 x7 z90060 (!(decide ((a1.getD (x9.toNat) ([], (false, ([], (false, ([], ())))))).1 = (a0.getD (x7.toNat) ([], ([], ()))).1))) (IntKind.wrap .i64 (x9 + (1 : Int)))))
 none)
 none)
 (loopK (spec_l07Undone_cx k) 0 (execK (spec_l07Undone_cx k) (callK (spec_l07Undone_cx k) 8) 0 108 (sub spec_l07Undone_c [1, 1, 0, 1, 0, 0, 1, 0, 0, 1, 0, 1, 0, 0])) spec_l07Undone_l1_cut K n (spec_l07Undone_l1_s a0 a1 x7 z90060 false (IntKind.wrap .i64 (x9 + (1 : Int))))))
 (K (.exit 2) (spec_l07Undone_l1_o2 a0 a1 x7 z90060 x8))) : Option (shDen spec_l07Undone_sh)) := by kernel_rfl

theorem spec_l07Undone_l1_exit2 (k : Nat) (K : Ex → St → Option (shDen spec_l07Undone_sh)) (n : Nat) (a0 : (List (List Int × (List Int × Unit)))) (a1 : (List (List Int × (Bool × (List Int × (Bool × (List Int × Unit))))))) (x7 : Int) (z90060 : (List (List Int × (List Int × Unit)))) (x8 : Bool) : ((blkK 2 (seqK (execK (spec_l07Undone_cx k) (callK (spec_l07Undone_cx k) 8) 0 108 (sub spec_l07Undone_c [1, 1, 0, 1, 0, 0, 1, 0, 0, 1, 1])) (blkK 1 (seqK (execK (spec_l07Undone_cx k) (callK (spec_l07Undone_cx k) 8) 0 108 (sub spec_l07Undone_c [1, 1, 0, 1, 0, 0, 1, 1])) (iterK (spec_l07Undone_cx k) 0 spec_l07Undone_l0_cut (loopK (spec_l07Undone_cx k) 0 (execK (spec_l07Undone_cx k) (callK (spec_l07Undone_cx k) 8) 0 108 (sub spec_l07Undone_c [1, 1, 0, 1, 0, 0])) spec_l07Undone_l0_cut K n) K))))) (.exit 2) (spec_l07Undone_l1_o2 a0 a1 x7 z90060 x8) : Option (shDen spec_l07Undone_sh)) =
 ((cond x8
 (cond ((decide ((0 : Int) ≤ x7)) && (decide (x7 < (a0.length : Int))))
 (cond (decide ((z90060.length + 1) * 32 ≤ 140737488355328) && decide (z90060.length + 1 ≤ 9223372036854775807))
 (loopK (spec_l07Undone_cx k) 0 (execK (spec_l07Undone_cx k) (callK (spec_l07Undone_cx k) 8) 0 108 (sub spec_l07Undone_c [1, 1, 0, 1, 0, 0])) spec_l07Undone_l0_cut K n (spec_l07Undone_l0_s a0 a1 (IntKind.wrap .i64 (x7 + (1 : Int))) (z90060 ++ [(a0.getD (x7.toNat) ([], ([], ())))])))
 none)
 none)
 (loopK (spec_l07Undone_cx k) 0 (execK (spec_l07Undone_cx k) (callK (spec_l07Undone_cx k) 8) 0 108 (sub spec_l07Undone_c [1, 1, 0, 1, 0, 0])) spec_l07Undone_l0_cut K n (spec_l07Undone_l0_s a0 a1 (IntKind.wrap .i64 (x7 + (1 : Int))) z90060))) : Option (shDen spec_l07Undone_sh)) := by kernel_rfl

theorem spec_l07Undone_l1_congr (ke2 : Bool → Option (shDen spec_l07Undone_sh)) (ke2' : Bool → Option (shDen spec_l07Undone_sh)) (a0 : (List (List Int × (List Int × Unit)))) (a1 : (List (List Int × (Bool × (List Int × (Bool × (List Int × Unit))))))) (x7 : Int) (z90060 : (List (List Int × (List Int × Unit)))) (n : Nat) (x8 : Bool) (x9 : Int) (hke2 : ∀ x8, ke2 x8 = ke2' x8) : spec_l07Undone_l1_L ke2 a0 a1 x7 z90060 n x8 x9 = spec_l07Undone_l1_L ke2' a0 a1 x7 z90060 n x8 x9 := by
 have : ke2 = ke2' := (by funext x8; exact hke2 x8); subst this; rfl

theorem spec_l07Undone_l1_L_eq (K : Ex → St → Option (shDen spec_l07Undone_sh)) (a0 : (List (List Int × (List Int × Unit)))) (a1 : (List (List Int × (Bool × (List Int × (Bool × (List Int × Unit))))))) (x7 : Int) (z90060 : (List (List Int × (List Int × Unit)))) : ∀ (n : Nat) (x8 : Bool) (x9 : Int), (loopK (spec_l07Undone_cx FUEL) 0 (execK (spec_l07Undone_cx FUEL) (callK (spec_l07Undone_cx FUEL) 8) 0 108 (sub spec_l07Undone_c [1, 1, 0, 1, 0, 0, 1, 0, 0, 1, 0, 1, 0, 0])) spec_l07Undone_l1_cut K n (spec_l07Undone_l1_s a0 a1 x7 z90060 x8 x9) : Option (shDen spec_l07Undone_sh)) = spec_l07Undone_l1_L (fun x8 => K (.exit 2) (spec_l07Undone_l1_o2 a0 a1 x7 z90060 x8)) a0 a1 x7 z90060 n x8 x9 := by
 intro n
 induction n with
 | zero => intros; rfl
 | succ n ih =>
  intro x8 x9
  exact (spec_l07Undone_l1_round FUEL K n a0 a1 x7 z90060 x8 x9).trans (condC (condC (condC (condC (ih (!(decide ((a1.getD (x9.toNat) ([], (false, ([], (false, ([], ())))))).1 = (a0.getD (x7.toNat) ([], ([], ()))).1))) (IntKind.wrap .i64 (x9 + (1 : Int)))) (rfl)) (rfl)) (ih false (IntKind.wrap .i64 (x9 + (1 : Int))))) (rfl))

theorem spec_l07Undone_l0_round (k : Nat) (K : Ex → St → Option (shDen spec_l07Undone_sh)) (n : Nat) (a0 : (List (List Int × (List Int × Unit)))) (a1 : (List (List Int × (Bool × (List Int × (Bool × (List Int × Unit))))))) (x7 : Int) (z90060 : (List (List Int × (List Int × Unit)))) : (loopK (spec_l07Undone_cx k) 0 (execK (spec_l07Undone_cx k) (callK (spec_l07Undone_cx k) 8) 0 108 (sub spec_l07Undone_c [1, 1, 0, 1, 0, 0])) spec_l07Undone_l0_cut K (n + 1) (spec_l07Undone_l0_s a0 a1 x7 z90060) : Option (shDen spec_l07Undone_sh)) =
 ((cond (decide (x7 < (a0.length : Int)))
 (loopK (spec_l07Undone_cx k) 0 (execK (spec_l07Undone_cx k) (callK (spec_l07Undone_cx k) 8) 0 108 (sub spec_l07Undone_c [1, 1, 0, 1, 0, 0, 1, 0, 0, 1, 0, 1, 0, 0])) spec_l07Undone_l1_cut (blkK 2 (seqK (execK (spec_l07Undone_cx k) (callK (spec_l07Undone_cx k) 8) 0 108 (sub spec_l07Undone_c [1, 1, 0, 1, 0, 0, 1, 0, 0, 1, 1])) (blkK 1 (seqK (execK (spec_l07Undone_cx k) (callK (spec_l07Undone_cx k) 8) 0 108 (sub spec_l07Undone_c [1, 1, 0, 1, 0, 0, 1, 1])) (iterK (spec_l07Undone_cx k) 0 spec_l07Undone_l0_cut (loopK (spec_l07Undone_cx k) 0 (execK (spec_l07Undone_cx k) (callK (spec_l07Undone_cx k) 8) 0 108 (sub spec_l07Undone_c [1, 1, 0, 1, 0, 0])) spec_l07Undone_l0_cut K n) K))))) k (spec_l07Undone_l1_s a0 a1 x7 z90060 true (0 : Int)))
 (K (.exit 0) (spec_l07Undone_l0_o0 a1 z90060))) : Option (shDen spec_l07Undone_sh)) := by kernel_rfl

theorem spec_l07Undone_l0_exit0 (k : Nat)  (a1 : (List (List Int × (Bool × (List Int × (Bool × (List Int × Unit))))))) (z90060 : (List (List Int × (List Int × Unit)))) : ((blkK 0 (seqK (execK (spec_l07Undone_cx k) (callK (spec_l07Undone_cx k) 8) 0 108 (sub spec_l07Undone_c [1, 1, 1])) (finK (spec_l07Undone_cx k) spec_l07Undone_i spec_l07Undone_sh))) (.exit 0) (spec_l07Undone_l0_o0 a1 z90060) : Option (shDen spec_l07Undone_sh)) =
 ((loopK (spec_l07Undone_cx k) 0 (execK (spec_l07Undone_cx k) (callK (spec_l07Undone_cx k) 8) 0 108 (sub spec_l07Undone_c [1, 1, 1, 0, 1, 0, 0])) spec_l07Undone_l2_cut (blkK 4 (seqK (execK (spec_l07Undone_cx k) (callK (spec_l07Undone_cx k) 8) 0 108 (sub spec_l07Undone_c [1, 1, 1, 1])) (finK (spec_l07Undone_cx k) spec_l07Undone_i spec_l07Undone_sh))) k (spec_l07Undone_l2_s a1 z90060 (0 : Int))) : Option (shDen spec_l07Undone_sh)) := by kernel_rfl

theorem spec_l07Undone_l0_congr (ke0 : (List (List Int × (List Int × Unit))) → Option (shDen spec_l07Undone_sh)) (ke0' : (List (List Int × (List Int × Unit))) → Option (shDen spec_l07Undone_sh)) (a0 : (List (List Int × (List Int × Unit)))) (a1 : (List (List Int × (Bool × (List Int × (Bool × (List Int × Unit))))))) (n : Nat) (x7 : Int) (z90060 : (List (List Int × (List Int × Unit)))) (hke0 : ∀ z90060, ke0 z90060 = ke0' z90060) : spec_l07Undone_l0_L ke0 a0 a1 n x7 z90060 = spec_l07Undone_l0_L ke0' a0 a1 n x7 z90060 := by
 have : ke0 = ke0' := (by funext z90060; exact hke0 z90060); subst this; rfl

theorem spec_l07Undone_l0_L_eq (K : Ex → St → Option (shDen spec_l07Undone_sh)) (a0 : (List (List Int × (List Int × Unit)))) (a1 : (List (List Int × (Bool × (List Int × (Bool × (List Int × Unit))))))) : ∀ (n : Nat) (x7 : Int) (z90060 : (List (List Int × (List Int × Unit)))), (loopK (spec_l07Undone_cx FUEL) 0 (execK (spec_l07Undone_cx FUEL) (callK (spec_l07Undone_cx FUEL) 8) 0 108 (sub spec_l07Undone_c [1, 1, 0, 1, 0, 0])) spec_l07Undone_l0_cut K n (spec_l07Undone_l0_s a0 a1 x7 z90060) : Option (shDen spec_l07Undone_sh)) = spec_l07Undone_l0_L (fun z90060 => K (.exit 0) (spec_l07Undone_l0_o0 a1 z90060)) a0 a1 n x7 z90060 := by
 intro n
 induction n with
 | zero => intros; rfl
 | succ n ih =>
  intro x7 z90060
  exact (spec_l07Undone_l0_round FUEL K n a0 a1 x7 z90060).trans (condC ((spec_l07Undone_l1_L_eq _ a0 a1 x7 z90060 FUEL true (0 : Int)).trans (spec_l07Undone_l1_congr _ _ a0 a1 x7 z90060 FUEL true (0 : Int) (fun x8 => (spec_l07Undone_l1_exit2 FUEL K n a0 a1 x7 z90060 x8).trans (condC (condC (condC (ih (IntKind.wrap .i64 (x7 + (1 : Int))) (z90060 ++ [(a0.getD (x7.toNat) ([], ([], ())))])) (rfl)) (rfl)) (ih (IntKind.wrap .i64 (x7 + (1 : Int))) z90060))))) (rfl))

theorem spec_l07Undone_start (k : Nat) (a0 : (List (List Int × (List Int × Unit)))) (a1 : (List (List Int × (Bool × (List Int × (Bool × (List Int × Unit))))))) : fnK (spec_l07Undone_cx k) 8 108 spec_l07Undone_i spec_l07Undone_sh [.pv (.slice (.pair .str (.pair .str .unit))) a0, .pv (.slice (.pair .str (.pair .bool (.pair .str (.pair .bool (.pair .str .unit)))))) a1] =
 ((loopK (spec_l07Undone_cx k) 0 (execK (spec_l07Undone_cx k) (callK (spec_l07Undone_cx k) 8) 0 108 (sub spec_l07Undone_c [1, 1, 0, 1, 0, 0])) spec_l07Undone_l0_cut (blkK 0 (seqK (execK (spec_l07Undone_cx k) (callK (spec_l07Undone_cx k) 8) 0 108 (sub spec_l07Undone_c [1, 1, 1])) (finK (spec_l07Undone_cx k) spec_l07Undone_i spec_l07Undone_sh))) k (spec_l07Undone_l0_s a0 a1 (0 : Int) [])) : Option (shDen spec_l07Undone_sh)) := by kernel_rfl

theorem spec_l07Undone_run (a0 : (List (List Int × (List Int × Unit)))) (a1 : (List (List Int × (Bool × (List Int × (Bool × (List Int × Unit))))))) : fnK (spec_l07Undone_cx FUEL) 8 108 spec_l07Undone_i spec_l07Undone_sh [.pv (.slice (.pair .str (.pair .str .unit))) a0, .pv (.slice (.pair .str (.pair .bool (.pair .str (.pair .bool (.pair .str .unit)))))) a1] = spec_l07Undone_r a0 a1 :=
 (spec_l07Undone_start FUEL a0 a1).trans ((spec_l07Undone_l0_L_eq _ a0 a1 FUEL (0 : Int) []).trans (spec_l07Undone_l0_congr _ _ a0 a1 FUEL (0 : Int) [] (fun z90060 => (spec_l07Undone_l0_exit0 FUEL  a1 z90060).trans ((spec_l07Undone_l2_L_eq _ a1 FUEL z90060 (0 : Int)).trans (spec_l07Undone_l2_congr _ _ a1 FUEL z90060 (0 : Int) (fun z90060 => (spec_l07Undone_l2_exit4 FUEL  z90060).trans (rfl)))))))

noncomputable def spec_l07Undone_con : Con := { ps := (.pair (.slice (.pair .str (.pair .str .unit))) (.pair (.slice (.pair .str (.pair .bool (.pair .str (.pair .bool (.pair .str .unit)))))) .unit)), sh := spec_l07Undone_sh, raw := fun x => spec_l07Undone_r x.1 x.2.1 }
theorem spec_l07Undone_conOk : ConOk Try.prog 108 spec_l07Undone_con := con_of_fn (spec_l07Undone_tabs FUEL) (depth := 8) spec_l07Undone_ok fun x y h => (spec_l07Undone_run x.1 x.2.1).trans h

noncomputable def spec_l09Join_l0_cut : Cut := { keep := [8, 9, 11, 12], stk := [], ids := [190, 191, 90110], own := [(11, 90110, 147)], outs := [(1, [8, 11], [190, 90110])] }
noncomputable def spec_l09Join_inls : List (Nat × Inl) := []
noncomputable def spec_l09Join_cons : List (Nat × Con) := [(78, spec_l07Merge_con), (108, spec_l07Undone_con)]
noncomputable def spec_l09Join_taks : List (Nat × ConT) := []
noncomputable def spec_l09Join_inps : List (Nat × ConI) := []
noncomputable def spec_l09Join_cuts : List (Nat × List (Nat × Cut)) := [(72, [(0, spec_l09Join_l0_cut)])]
noncomputable def spec_l09Join_cx (k : Nat) : Cx := mkCx tys tbytes telem nozero (Ai.look spec_l09Join_inls) (Ai.look spec_l09Join_cons) (Ai.look spec_l09Join_taks) (Ai.look spec_l09Join_inps) (fun f id => match Ai.look spec_l09Join_cuts f with | some l => Ai.look l id | none => none) k []
theorem spec_l09Join_tabs (k : Nat) : TabsOk Try.prog (spec_l09Join_cx k) := ⟨tab_mk tabs_ok _ _ _ _ _ _ _, look_all (Q := ConOk Try.prog) _ ⟨spec_l07Merge_conOk, spec_l07Undone_conOk, trivial⟩, look_all (Q := TakOk Try.prog) _ trivial, look_all (Q := InpOk Try.prog) _ trivial, look_all (Q := InlOk Try.prog) _ trivial, mixed_ok⟩
abbrev spec_l09Join_sh : List Sh := [.own 108 (.pair .str (.pair .str .unit)), .pl (.int .i64)]
noncomputable def spec_l09Join_l0_s (z190 : (List (List Int × (List Int × Unit)))) (z191 : (List (List Int × ((List Int × (Bool × (List Int × (Bool × (List Int × Unit))))) × ((List Int × (Bool × (List Int × (Bool × (List Int × Unit))))) × ((List Int × (Bool × (List Int × (Bool × (List Int × Unit))))) × Unit)))))) (x12 : Int) (z90110 : (List (List Int × (Bool × (List Int × (Bool × (List Int × Unit))))))) : St := { env := [.dead, .dead, .dead, .dead, .dead, .dead, .dead, .dead, .sl 190 (.pair .str (.pair .str .unit)), .sl 191 (.pair .str (.pair (.pair .str (.pair .bool (.pair .str (.pair .bool (.pair .str .unit))))) (.pair (.pair .str (.pair .bool (.pair .str (.pair .bool (.pair .str .unit))))) (.pair (.pair .str (.pair .bool (.pair .str (.pair .bool (.pair .str .unit))))) .unit)))), .dead, .sl 90110 (.pair .str (.pair .bool (.pair .str (.pair .bool (.pair .str .unit))))), .pv (.int .i64) x12, .dead, .dead, .dead, .dead, .dead, .dead, .dead, .dead, .dead, .dead, .dead, .dead, .dead, .dead, .dead, .dead, .dead, .dead, .dead, .dead, .dead, .dead, .dead, .dead, .dead, .dead, .dead, .dead, .dead, .dead, .dead, .dead, .dead, .dead, .dead, .dead, .dead, .dead, .dead, .dead, .dead, .dead, .dead, .dead, .dead, .dead, .dead, .dead, .dead, .dead, .dead, .dead, .dead, .dead, .dead], stk := [], heap := [(190, .arr 108 (.pair .str (.pair .str .unit)) z190), (191, .arr 116 (.pair .str (.pair (.pair .str (.pair .bool (.pair .str (.pair .bool (.pair .str .unit))))) (.pair (.pair .str (.pair .bool (.pair .str (.pair .bool (.pair .str .unit))))) (.pair (.pair .str (.pair .bool (.pair .str (.pair .bool (.pair .str .unit))))) .unit)))) z191), (90110, .arr 114 (.pair .str (.pair .bool (.pair .str (.pair .bool (.pair .str .unit))))) z90110)] }
noncomputable def spec_l09Join_l0_o0 (z190 : (List (List Int × (List Int × Unit)))) (z90110 : (List (List Int × (Bool × (List Int × (Bool × (List Int × Unit))))))) : St := { env := [.dead, .dead, .dead, .dead, .dead, .dead, .dead, .dead, .sl 190 (.pair .str (.pair .str .unit)), .dead, .dead, .sl 90110 (.pair .str (.pair .bool (.pair .str (.pair .bool (.pair .str .unit))))), .dead, .dead, .dead, .dead, .dead, .dead, .dead, .dead, .dead, .dead, .dead, .dead, .dead, .dead, .dead, .dead, .dead, .dead, .dead, .dead, .dead, .dead, .dead, .dead, .dead, .dead, .dead, .dead, .dead, .dead, .dead, .dead, .dead, .dead, .dead, .dead, .dead, .dead, .dead, .dead, .dead, .dead, .dead, .dead, .dead, .dead, .dead, .dead, .dead, .dead, .dead, .dead, .dead, .dead, .dead, .dead], stk := [], heap := [(190, .arr 108 (.pair .str (.pair .str .unit)) z190), (90110, .arr 114 (.pair .str (.pair .bool (.pair .str (.pair .bool (.pair .str .unit))))) z90110)] }
noncomputable def spec_l09Join_l0_b (rec : (List (List Int × (List Int × Unit))) → (List (List Int × ((List Int × (Bool × (List Int × (Bool × (List Int × Unit))))) × ((List Int × (Bool × (List Int × (Bool × (List Int × Unit))))) × ((List Int × (Bool × (List Int × (Bool × (List Int × Unit))))) × Unit))))) → Int → (List (List Int × (Bool × (List Int × (Bool × (List Int × Unit)))))) → Option (shDen spec_l09Join_sh)) (ke0 : (List (List Int × (List Int × Unit))) → (List (List Int × (Bool × (List Int × (Bool × (List Int × Unit)))))) → Option (shDen spec_l09Join_sh)) (z190 : (List (List Int × (List Int × Unit)))) (z191 : (List (List Int × ((List Int × (Bool × (List Int × (Bool × (List Int × Unit))))) × ((List Int × (Bool × (List Int × (Bool × (List Int × Unit))))) × ((List Int × (Bool × (List Int × (Bool × (List Int × Unit))))) × Unit)))))) (x12 : Int) (z90110 : (List (List Int × (Bool × (List Int × (Bool × (List Int × Unit))))))) : Option (shDen spec_l09Join_sh) :=
 (cond (decide (x12 < (z191.length : Int)))
 (cond ((decide ((0 : Int) ≤ x12)) && (decide (x12 < (z191.length : Int))))
 (cond ((decide ((0 : Int) ≤ x12)) && (decide (x12 < (z191.length : Int))))
 (cond (!((((((((z191.getD (x12.toNat) ([], (([], (false, ([], (false, ([], ()))))), (([], (false, ([], (false, ([], ()))))), (([], (false, ([], (false, ([], ()))))), ()))))).2).2).1).2).2).2).1))
 (cond (decide ((z90110.length + 1) * 64 ≤ 140737488355328) && decide (z90110.length + 1 ≤ 9223372036854775807))
 (rec z190 z191 (IntKind.wrap .i64 (x12 + (1 : Int))) (z90110 ++ [((((z191.getD (x12.toNat) ([], (([], (false, ([], (false, ([], ()))))), (([], (false, ([], (false, ([], ()))))), (([], (false, ([], (false, ([], ()))))), ()))))).2).2).2).1]))
 none)
 (cond (((((((((z191.getD (x12.toNat) ([], (([], (false, ([], (false, ([], ()))))), (([], (false, ([], (false, ([], ()))))), (([], (false, ([], (false, ([], ()))))), ()))))).2).2).2).1).2).2).2).1)
 (cond (!((ltI ((((((((((z191.getD (x12.toNat) ([], (([], (false, ([], (false, ([], ()))))), (([], (false, ([], (false, ([], ()))))), (([], (false, ([], (false, ([], ()))))), ()))))).2).2).2).1).2).2).2).2).1) (((((((((z191.getD (x12.toNat) ([], (([], (false, ([], (false, ([], ()))))), (([], (false, ([], (false, ([], ()))))), (([], (false, ([], (false, ([], ()))))), ()))))).2).2).1).2).2).2).2).1)) || (decide ((((((((((z191.getD (x12.toNat) ([], (([], (false, ([], (false, ([], ()))))), (([], (false, ([], (false, ([], ()))))), (([], (false, ([], (false, ([], ()))))), ()))))).2).2).2).1).2).2).2).2).1 = ((((((((z191.getD (x12.toNat) ([], (([], (false, ([], (false, ([], ()))))), (([], (false, ([], (false, ([], ()))))), (([], (false, ([], (false, ([], ()))))), ()))))).2).2).1).2).2).2).2).1))))
 (cond (decide ((z90110.length + 1) * 64 ≤ 140737488355328) && decide (z90110.length + 1 ≤ 9223372036854775807))
 (rec z190 z191 (IntKind.wrap .i64 (x12 + (1 : Int))) (z90110 ++ [((((z191.getD (x12.toNat) ([], (([], (false, ([], (false, ([], ()))))), (([], (false, ([], (false, ([], ()))))), (([], (false, ([], (false, ([], ()))))), ()))))).2).2).2).1]))
 none)
 (cond (decide ((z90110.length + 1) * 64 ≤ 140737488355328) && decide (z90110.length + 1 ≤ 9223372036854775807))
 (rec z190 z191 (IntKind.wrap .i64 (x12 + (1 : Int))) (z90110 ++ [(((z191.getD (x12.toNat) ([], (([], (false, ([], (false, ([], ()))))), (([], (false, ([], (false, ([], ()))))), (([], (false, ([], (false, ([], ()))))), ()))))).2).2).1]))
 none))
 (cond (decide ((z90110.length + 1) * 64 ≤ 140737488355328) && decide (z90110.length + 1 ≤ 9223372036854775807))
 (rec z190 z191 (IntKind.wrap .i64 (x12 + (1 : Int))) (z90110 ++ [(((z191.getD (x12.toNat) ([], (([], (false, ([], (false, ([], ()))))), (([], (false, ([], (false, ([], ()))))), (([], (false, ([], (false, ([], ()))))), ()))))).2).2).1]))
 none)))
 none)
 none)
 (ke0 z190 z90110))
noncomputable def spec_l09Join_l0_L (ke0 : (List (List Int × (List Int × Unit))) → (List (List Int × (Bool × (List Int × (Bool × (List Int × Unit)))))) → Option (shDen spec_l09Join_sh))  : Nat → (List (List Int × (List Int × Unit))) → (List (List Int × ((List Int × (Bool × (List Int × (Bool × (List Int × Unit))))) × ((List Int × (Bool × (List Int × (Bool × (List Int × Unit))))) × ((List Int × (Bool × (List Int × (Bool × (List Int × Unit))))) × Unit))))) → Int → (List (List Int × (Bool × (List Int × (Bool × (List Int × Unit)))))) → Option (shDen spec_l09Join_sh)
 | 0 => fun _ _ _ _ => none
 | n + 1 => spec_l09Join_l0_b (spec_l09Join_l0_L ke0  n) ke0 
noncomputable def spec_l09Join_r (a0 : (List (List Int × (List Int × Unit)))) (a1 : (List (List Int × (List Int × Unit)))) (a2 : (List (List Int × (List Int × Unit)))) : Option (shDen spec_l09Join_sh) :=
 (bindO (spec_l07Merge_r a0 a1 a2) fun (b1 : ((List (List Int × (List Int × Unit))) × ((List (List Int × ((List Int × (Bool × (List Int × (Bool × (List Int × Unit))))) × ((List Int × (Bool × (List Int × (Bool × (List Int × Unit))))) × ((List Int × (Bool × (List Int × (Bool × (List Int × Unit))))) × Unit))))) × Int))) => (cond (!(decide (b1.2.2 = (0 : Int))))
 (some ([], b1.2.2))
 (spec_l09Join_l0_L (fun z190 z90110 => (bindO (spec_l07Undone_r z190 z90110) fun (b2 : ((List (List Int × (List Int × Unit))) × Int)) => (some (b2.1, b2.2)))) FUEL b1.1 b1.2.1 (0 : Int) [])))
theorem spec_l09Join_l0_round (k : Nat) (K : Ex → St → Option (shDen spec_l09Join_sh)) (n : Nat) (z190 : (List (List Int × (List Int × Unit)))) (z191 : (List (List Int × ((List Int × (Bool × (List Int × (Bool × (List Int × Unit))))) × ((List Int × (Bool × (List Int × (Bool × (List Int × Unit))))) × ((List Int × (Bool × (List Int × (Bool × (List Int × Unit))))) × Unit)))))) (x12 : Int) (z90110 : (List (List Int × (Bool × (List Int × (Bool × (List Int × Unit))))))) : (loopK (spec_l09Join_cx k) 0 (execK (spec_l09Join_cx k) (callK (spec_l09Join_cx k) 8) 0 72 (sub spec_l09Join_c [1, 1, 1, 1, 0, 1, 0, 0])) spec_l09Join_l0_cut K (n + 1) (spec_l09Join_l0_s z190 z191 x12 z90110) : Option (shDen spec_l09Join_sh)) =
 ((cond (decide (x12 < (z191.length : Int)))
 (cond ((decide ((0 : Int) ≤ x12)) && (decide (x12 < (z191.length : Int))))
 (cond ((decide ((0 : Int) ≤ x12)) && (decide (x12 < (z191.length : Int))))
 (cond (!((((((((z191.getD (x12.toNat) ([], (([], (false, ([], (false, ([], ()))))), (([], (false, ([], (false, ([], ()))))), (([], (false, ([], (false, ([], ()))))), ()))))).2).2).1).2).2).2).1))
 (cond (decide ((z90110.length + 1) * 64 ≤ 140737488355328) && decide (z90110.length + 1 ≤ 9223372036854775807))
 (loopK (spec_l09Join_cx k) 0 (execK (spec_l09Join_cx k) (callK (spec_l09Join_cx k) 8) 0 72 (sub spec_l09Join_c [1, 1, 1, 1, 0, 1, 0, 0])) spec_l09Join_l0_cut K n (spec_l09Join_l0_s z190 z191 (IntKind.wrap .i64 (x12 + (1 : Int))) (z90110 ++ [((((z191.getD (x12.toNat) ([], (([], (false, ([], (false, ([], ()))))), (([], (false, ([], (false, ([], ()))))), (([], (false, ([], (false, ([], ()))))), ()))))).2).2).2).1])))
 none)
 (cond (((((((((z191.getD (x12.toNat) ([], (([], (false, ([], (false, ([], ()))))), (([], (false, ([], (false, ([], ()))))), (([], (false, ([], (false, ([], ()))))), ()))))).2).2).2).1).2).2).2).1)
 (cond (!((ltI ((((((((((z191.getD (x12.toNat) ([], (([], (false, ([], (false, ([], ()))))), (([], (false, ([], (false, ([], ()))))), (([], (false, ([], (false, ([], ()))))), ()))))).2).2).2).1).2).2).2).2).1) (((((((((z191.getD (x12.toNat) ([], (([], (false, ([], (false, ([], ()))))), (([], (false, ([], (false, ([], ()))))), (([], (false, ([], (false, ([], ()))))), ()))))).2).2).1).2).2).2).2).1)) || (decide ((((((((((z191.getD (x12.toNat) ([], (([], (false, ([], (false, ([], ()))))), (([], (false, ([], (false, ([], ()))))), (([], (false, ([], (false, ([], ()))))), ()))))).2).2).2).1).2).2).2).2).1 = ((((((((z191.getD (x12.toNat) ([], (([], (false, ([], (false, ([], ()))))), (([], (false, ([], (false, ([], ()))))), (([], (false, ([], (false, ([], ()))))), ()))))).2).2).1).2).2).2).2).1))))
 (cond (decide ((z90110.length + 1) * 64 ≤ 140737488355328) && decide (z90110.length + 1 ≤ 9223372036854775807))
 (loopK (spec_l09Join_cx k) 0 (execK (spec_l09Join_cx k) (callK (spec_l09Join_cx k) 8) 0 72 (sub spec_l09Join_c [1, 1, 1, 1, 0, 1, 0, 0])) spec_l09Join_l0_cut K n (spec_l09Join_l0_s z190 z191 (IntKind.wrap .i64 (x12 + (1 : Int))) (z90110 ++ [((((z191.getD (x12.toNat) ([], (([], (false, ([], (false, ([], ()))))), (([], (false, ([], (false, ([], ()))))), (([], (false, ([], (false, ([], ()))))), ()))))).2).2).2).1])))
 none)
 (cond (decide ((z90110.length + 1) * 64 ≤ 140737488355328) && decide (z90110.length + 1 ≤ 9223372036854775807))
 (loopK (spec_l09Join_cx k) 0 (execK (spec_l09Join_cx k) (callK (spec_l09Join_cx k) 8) 0 72 (sub spec_l09Join_c [1, 1, 1, 1, 0, 1, 0, 0])) spec_l09Join_l0_cut K n (spec_l09Join_l0_s z190 z191 (IntKind.wrap .i64 (x12 + (1 : Int))) (z90110 ++ [(((z191.getD (x12.toNat) ([], (([], (false, ([], (false, ([], ()))))), (([], (false, ([], (false, ([], ()))))), (([], (false, ([], (false, ([], ()))))), ()))))).2).2).1])))
 none))
 (cond (decide ((z90110.length + 1) * 64 ≤ 140737488355328) && decide (z90110.length + 1 ≤ 9223372036854775807))
 (loopK (spec_l09Join_cx k) 0 (execK (spec_l09Join_cx k) (callK (spec_l09Join_cx k) 8) 0 72 (sub spec_l09Join_c [1, 1, 1, 1, 0, 1, 0, 0])) spec_l09Join_l0_cut K n (spec_l09Join_l0_s z190 z191 (IntKind.wrap .i64 (x12 + (1 : Int))) (z90110 ++ [(((z191.getD (x12.toNat) ([], (([], (false, ([], (false, ([], ()))))), (([], (false, ([], (false, ([], ()))))), (([], (false, ([], (false, ([], ()))))), ()))))).2).2).1])))
 none)))
 none)
 none)
 (K (.exit 0) (spec_l09Join_l0_o0 z190 z90110))) : Option (shDen spec_l09Join_sh)) := by kernel_rfl

theorem spec_l09Join_l0_exit0 (k : Nat)  (z190 : (List (List Int × (List Int × Unit)))) (z90110 : (List (List Int × (Bool × (List Int × (Bool × (List Int × Unit))))))) : ((blkK 0 (seqK (execK (spec_l09Join_cx k) (callK (spec_l09Join_cx k) 8) 0 72 (sub spec_l09Join_c [1, 1, 1, 1, 1])) (finK (spec_l09Join_cx k) spec_l09Join_i spec_l09Join_sh))) (.exit 0) (spec_l09Join_l0_o0 z190 z90110) : Option (shDen spec_l09Join_sh)) =
 ((bindO (spec_l07Undone_r z190 z90110) fun (b2 : ((List (List Int × (List Int × Unit))) × Int)) => (some (b2.1, b2.2))) : Option (shDen spec_l09Join_sh)) := by kernel_rfl

theorem spec_l09Join_l0_congr (ke0 : (List (List Int × (List Int × Unit))) → (List (List Int × (Bool × (List Int × (Bool × (List Int × Unit)))))) → Option (shDen spec_l09Join_sh)) (ke0' : (List (List Int × (List Int × Unit))) → (List (List Int × (Bool × (List Int × (Bool × (List Int × Unit)))))) → Option (shDen spec_l09Join_sh))  (n : Nat) (z190 : (List (List Int × (List Int × Unit)))) (z191 : (List (List Int × ((List Int × (Bool × (List Int × (Bool × (List Int × Unit))))) × ((List Int × (Bool × (List Int × (Bool × (List Int × Unit))))) × ((List Int × (Bool × (List Int × (Bool × (List Int × Unit))))) × Unit)))))) (x12 : Int) (z90110 : (List (List Int × (Bool × (List Int × (Bool × (List Int × Unit))))))) (hke0 : ∀ z190 z90110, ke0 z190 z90110 = ke0' z190 z90110) : spec_l09Join_l0_L ke0  n z190 z191 x12 z90110 = spec_l09Join_l0_L ke0'  n z190 z191 x12 z90110 := by
 have : ke0 = ke0' := (by funext z190 z90110; exact hke0 z190 z90110); subst this; rfl

theorem spec_l09Join_l0_L_eq (K : Ex → St → Option (shDen spec_l09Join_sh))  : ∀ (n : Nat) (z190 : (List (List Int × (List Int × Unit)))) (z191 : (List (List Int × ((List Int × (Bool × (List Int × (Bool × (List Int × Unit))))) × ((List Int × (Bool × (List Int × (Bool × (List Int × Unit))))) × ((List Int × (Bool × (List Int × (Bool × (List Int × Unit))))) × Unit)))))) (x12 : Int) (z90110 : (List (List Int × (Bool × (List Int × (Bool × (List Int × Unit))))))), (loopK (spec_l09Join_cx FUEL) 0 (execK (spec_l09Join_cx FUEL) (callK (spec_l09Join_cx FUEL) 8) 0 72 (sub spec_l09Join_c [1, 1, 1, 1, 0, 1, 0, 0])) spec_l09Join_l0_cut K n (spec_l09Join_l0_s z190 z191 x12 z90110) : Option (shDen spec_l09Join_sh)) = spec_l09Join_l0_L (fun z190 z90110 => K (.exit 0) (spec_l09Join_l0_o0 z190 z90110))  n z190 z191 x12 z90110 := by
 intro n
 induction n with
 | zero => intros; rfl
 | succ n ih =>
  intro z190 z191 x12 z90110
  exact (spec_l09Join_l0_round FUEL K n  z190 z191 x12 z90110).trans (condC (condC (condC (condC (condC (ih z190 z191 (IntKind.wrap .i64 (x12 + (1 : Int))) (z90110 ++ [((((z191.getD (x12.toNat) ([], (([], (false, ([], (false, ([], ()))))), (([], (false, ([], (false, ([], ()))))), (([], (false, ([], (false, ([], ()))))), ()))))).2).2).2).1])) (rfl)) (condC (condC (condC (ih z190 z191 (IntKind.wrap .i64 (x12 + (1 : Int))) (z90110 ++ [((((z191.getD (x12.toNat) ([], (([], (false, ([], (false, ([], ()))))), (([], (false, ([], (false, ([], ()))))), (([], (false, ([], (false, ([], ()))))), ()))))).2).2).2).1])) (rfl)) (condC (ih z190 z191 (IntKind.wrap .i64 (x12 + (1 : Int))) (z90110 ++ [(((z191.getD (x12.toNat) ([], (([], (false, ([], (false, ([], ()))))), (([], (false, ([], (false, ([], ()))))), (([], (false, ([], (false, ([], ()))))), ()))))).2).2).1])) (rfl))) (condC (ih z190 z191 (IntKind.wrap .i64 (x12 + (1 : Int))) (z90110 ++ [(((z191.getD (x12.toNat) ([], (([], (false, ([], (false, ([], ()))))), (([], (false, ([], (false, ([], ()))))), (([], (false, ([], (false, ([], ()))))), ()))))).2).2).1])) (rfl)))) (rfl)) (rfl)) (rfl))

theorem spec_l09Join_start (k : Nat) (a0 : (List (List Int × (List Int × Unit)))) (a1 : (List (List Int × (List Int × Unit)))) (a2 : (List (List Int × (List Int × Unit)))) : fnK (spec_l09Join_cx k) 8 72 spec_l09Join_i spec_l09Join_sh [.pv (.slice (.pair .str (.pair .str .unit))) a0, .pv (.slice (.pair .str (.pair .str .unit))) a1, .pv (.slice (.pair .str (.pair .str .unit))) a2] =
 ((bindO (spec_l07Merge_r a0 a1 a2) fun (b1 : ((List (List Int × (List Int × Unit))) × ((List (List Int × ((List Int × (Bool × (List Int × (Bool × (List Int × Unit))))) × ((List Int × (Bool × (List Int × (Bool × (List Int × Unit))))) × ((List Int × (Bool × (List Int × (Bool × (List Int × Unit))))) × Unit))))) × Int))) => (cond (!(decide (b1.2.2 = (0 : Int))))
 (some ([], b1.2.2))
 (loopK (spec_l09Join_cx k) 0 (execK (spec_l09Join_cx k) (callK (spec_l09Join_cx k) 8) 0 72 (sub spec_l09Join_c [1, 1, 1, 1, 0, 1, 0, 0])) spec_l09Join_l0_cut (blkK 0 (seqK (execK (spec_l09Join_cx k) (callK (spec_l09Join_cx k) 8) 0 72 (sub spec_l09Join_c [1, 1, 1, 1, 1])) (finK (spec_l09Join_cx k) spec_l09Join_i spec_l09Join_sh))) k (spec_l09Join_l0_s b1.1 b1.2.1 (0 : Int) [])))) : Option (shDen spec_l09Join_sh)) := by kernel_rfl

theorem spec_l09Join_run (a0 : (List (List Int × (List Int × Unit)))) (a1 : (List (List Int × (List Int × Unit)))) (a2 : (List (List Int × (List Int × Unit)))) : fnK (spec_l09Join_cx FUEL) 8 72 spec_l09Join_i spec_l09Join_sh [.pv (.slice (.pair .str (.pair .str .unit))) a0, .pv (.slice (.pair .str (.pair .str .unit))) a1, .pv (.slice (.pair .str (.pair .str .unit))) a2] = spec_l09Join_r a0 a1 a2 :=
 (spec_l09Join_start FUEL a0 a1 a2).trans (bindC (fun b1 => condC (rfl) ((spec_l09Join_l0_L_eq _  FUEL b1.1 b1.2.1 (0 : Int) []).trans (spec_l09Join_l0_congr _ _  FUEL b1.1 b1.2.1 (0 : Int) [] (fun z190 z90110 => (spec_l09Join_l0_exit0 FUEL  z190 z90110).trans (rfl))))))

noncomputable def spec_l09Join_con : Con := { ps := (.pair (.slice (.pair .str (.pair .str .unit))) (.pair (.slice (.pair .str (.pair .str .unit))) (.pair (.slice (.pair .str (.pair .str .unit))) .unit))), sh := spec_l09Join_sh, raw := fun x => spec_l09Join_r x.1 x.2.1 x.2.2.1 }
theorem spec_l09Join_conOk : ConOk Try.prog 72 spec_l09Join_con := con_of_fn (spec_l09Join_tabs FUEL) (depth := 8) spec_l09Join_ok fun x y h => (spec_l09Join_run x.1 x.2.1 x.2.2.1).trans h

noncomputable def spec_JoinMaps_inls : List (Nat × Inl) := []
noncomputable def spec_JoinMaps_cons : List (Nat × Con) := [(71, spec_ValidEntries_con), (72, spec_l09Join_con)]
noncomputable def spec_JoinMaps_taks : List (Nat × ConT) := []
noncomputable def spec_JoinMaps_inps : List (Nat × ConI) := []
noncomputable def spec_JoinMaps_cuts : List (Nat × List (Nat × Cut)) := []
noncomputable def spec_JoinMaps_cx (k : Nat) : Cx := mkCx tys tbytes telem nozero (Ai.look spec_JoinMaps_inls) (Ai.look spec_JoinMaps_cons) (Ai.look spec_JoinMaps_taks) (Ai.look spec_JoinMaps_inps) (fun f id => match Ai.look spec_JoinMaps_cuts f with | some l => Ai.look l id | none => none) k []
theorem spec_JoinMaps_tabs (k : Nat) : TabsOk Try.prog (spec_JoinMaps_cx k) := ⟨tab_mk tabs_ok _ _ _ _ _ _ _, look_all (Q := ConOk Try.prog) _ ⟨spec_ValidEntries_conOk, spec_l09Join_conOk, trivial⟩, look_all (Q := TakOk Try.prog) _ trivial, look_all (Q := InpOk Try.prog) _ trivial, look_all (Q := InlOk Try.prog) _ trivial, mixed_ok⟩
abbrev spec_JoinMaps_sh : List Sh := [.own 108 (.pair .str (.pair .str .unit)), .pl (.int .i64)]
noncomputable def spec_JoinMaps_r (a0 : (List (List Int × (List Int × Unit)))) (a1 : (List (List Int × (List Int × Unit)))) (a2 : (List (List Int × (List Int × Unit)))) : Option (shDen spec_JoinMaps_sh) :=
 (bindO (spec_ValidEntries_r a0) fun (b1 : Bool) => (cond (!b1)
 (some ([], (1 : Int)))
 (bindO (spec_ValidEntries_r a1) fun (b2 : Bool) => (cond (!b2)
 (some ([], (1 : Int)))
 (bindO (spec_ValidEntries_r a2) fun (b3 : Bool) => (cond (!b3)
 (some ([], (1 : Int)))
 (bindO (spec_l09Join_r a0 a1 a2) fun (b4 : ((List (List Int × (List Int × Unit))) × Int)) => (some (b4.1, b4.2)))))))))
theorem spec_JoinMaps_start (k : Nat) (a0 : (List (List Int × (List Int × Unit)))) (a1 : (List (List Int × (List Int × Unit)))) (a2 : (List (List Int × (List Int × Unit)))) : fnK (spec_JoinMaps_cx k) 8 28 spec_JoinMaps_i spec_JoinMaps_sh [.pv (.slice (.pair .str (.pair .str .unit))) a0, .pv (.slice (.pair .str (.pair .str .unit))) a1, .pv (.slice (.pair .str (.pair .str .unit))) a2] =
 ((bindO (spec_ValidEntries_r a0) fun (b1 : Bool) => (cond (!b1)
 (some ([], (1 : Int)))
 (bindO (spec_ValidEntries_r a1) fun (b2 : Bool) => (cond (!b2)
 (some ([], (1 : Int)))
 (bindO (spec_ValidEntries_r a2) fun (b3 : Bool) => (cond (!b3)
 (some ([], (1 : Int)))
 (bindO (spec_l09Join_r a0 a1 a2) fun (b4 : ((List (List Int × (List Int × Unit))) × Int)) => (some (b4.1, b4.2))))))))) : Option (shDen spec_JoinMaps_sh)) := by kernel_rfl

theorem spec_JoinMaps_run (a0 : (List (List Int × (List Int × Unit)))) (a1 : (List (List Int × (List Int × Unit)))) (a2 : (List (List Int × (List Int × Unit)))) : fnK (spec_JoinMaps_cx FUEL) 8 28 spec_JoinMaps_i spec_JoinMaps_sh [.pv (.slice (.pair .str (.pair .str .unit))) a0, .pv (.slice (.pair .str (.pair .str .unit))) a1, .pv (.slice (.pair .str (.pair .str .unit))) a2] = spec_JoinMaps_r a0 a1 a2 :=
 (spec_JoinMaps_start FUEL a0 a1 a2).trans (rfl)

noncomputable def spec_JoinMaps_con : Con := { ps := (.pair (.slice (.pair .str (.pair .str .unit))) (.pair (.slice (.pair .str (.pair .str .unit))) (.pair (.slice (.pair .str (.pair .str .unit))) .unit))), sh := spec_JoinMaps_sh, raw := fun x => spec_JoinMaps_r x.1 x.2.1 x.2.2.1 }
theorem spec_JoinMaps_conOk : ConOk Try.prog 28 spec_JoinMaps_con := con_of_fn (spec_JoinMaps_tabs FUEL) (depth := 8) spec_JoinMaps_ok fun x y h => (spec_JoinMaps_run x.1 x.2.1 x.2.2.1).trans h

noncomputable def impl_within_inls : List (Nat × Inl) := []
noncomputable def impl_within_cons : List (Nat × Con) := []
noncomputable def impl_within_taks : List (Nat × ConT) := []
noncomputable def impl_within_inps : List (Nat × ConI) := []
noncomputable def impl_within_cuts : List (Nat × List (Nat × Cut)) := []
noncomputable def impl_within_cx (k : Nat) : Cx := mkCx tys tbytes telem nozero (Ai.look impl_within_inls) (Ai.look impl_within_cons) (Ai.look impl_within_taks) (Ai.look impl_within_inps) (fun f id => match Ai.look impl_within_cuts f with | some l => Ai.look l id | none => none) k []
theorem impl_within_tabs (k : Nat) : TabsOk Try.prog (impl_within_cx k) := ⟨tab_mk tabs_ok _ _ _ _ _ _ _, look_all (Q := ConOk Try.prog) _ trivial, look_all (Q := TakOk Try.prog) _ trivial, look_all (Q := InpOk Try.prog) _ trivial, look_all (Q := InlOk Try.prog) _ trivial, mixed_ok⟩
abbrev impl_within_sh : List Sh := [.pl .bool]
noncomputable def impl_within_r (a0 : Int) (a1 : Int) (a2 : Int) : Option (shDen impl_within_sh) :=
 (cond (decide (a1 ≤ a0))
 (some (decide (a0 ≤ a2)))
 (some false))
theorem impl_within_start (k : Nat) (a0 : Int) (a1 : Int) (a2 : Int) : fnK (impl_within_cx k) 8 86 impl_within_i impl_within_sh [.pv (.int .i64) a0, .pv (.int .i64) a1, .pv (.int .i64) a2] =
 ((cond (decide (a1 ≤ a0))
 (some (decide (a0 ≤ a2)))
 (some false)) : Option (shDen impl_within_sh)) := by kernel_rfl

theorem impl_within_run (a0 : Int) (a1 : Int) (a2 : Int) : fnK (impl_within_cx FUEL) 8 86 impl_within_i impl_within_sh [.pv (.int .i64) a0, .pv (.int .i64) a1, .pv (.int .i64) a2] = impl_within_r a0 a1 a2 :=
 (impl_within_start FUEL a0 a1 a2).trans (rfl)

noncomputable def impl_within_con : Con := { ps := (.pair (.int .i64) (.pair (.int .i64) (.pair (.int .i64) .unit))), sh := impl_within_sh, raw := fun x => impl_within_r x.1 x.2.1 x.2.2.1 }
theorem impl_within_conOk : ConOk Try.prog 86 impl_within_con := con_of_fn (impl_within_tabs FUEL) (depth := 8) impl_within_ok fun x y h => (impl_within_run x.1 x.2.1 x.2.2.1).trans h

noncomputable def impl_isName_inls : List (Nat × Inl) := []
noncomputable def impl_isName_cons : List (Nat × Con) := [(86, impl_within_con)]
noncomputable def impl_isName_taks : List (Nat × ConT) := []
noncomputable def impl_isName_inps : List (Nat × ConI) := []
noncomputable def impl_isName_cuts : List (Nat × List (Nat × Cut)) := []
noncomputable def impl_isName_cx (k : Nat) : Cx := mkCx tys tbytes telem nozero (Ai.look impl_isName_inls) (Ai.look impl_isName_cons) (Ai.look impl_isName_taks) (Ai.look impl_isName_inps) (fun f id => match Ai.look impl_isName_cuts f with | some l => Ai.look l id | none => none) k []
theorem impl_isName_tabs (k : Nat) : TabsOk Try.prog (impl_isName_cx k) := ⟨tab_mk tabs_ok _ _ _ _ _ _ _, look_all (Q := ConOk Try.prog) _ ⟨impl_within_conOk, trivial⟩, look_all (Q := TakOk Try.prog) _ trivial, look_all (Q := InpOk Try.prog) _ trivial, look_all (Q := InlOk Try.prog) _ trivial, mixed_ok⟩
abbrev impl_isName_sh : List Sh := [.pl .bool]
noncomputable def impl_isName_r (a0 : List Int) : Option (shDen impl_isName_sh) :=
 (bindO (impl_within_r (a0.length : Int) (1 : Int) (24 : Int)) fun (b1 : Bool) => (some b1))
theorem impl_isName_start (k : Nat) (a0 : List Int) : fnK (impl_isName_cx k) 8 128 impl_isName_i impl_isName_sh [.pv .str a0] =
 ((bindO (impl_within_r (a0.length : Int) (1 : Int) (24 : Int)) fun (b1 : Bool) => (some b1)) : Option (shDen impl_isName_sh)) := by kernel_rfl

theorem impl_isName_run (a0 : List Int) : fnK (impl_isName_cx FUEL) 8 128 impl_isName_i impl_isName_sh [.pv .str a0] = impl_isName_r a0 :=
 (impl_isName_start FUEL a0).trans (rfl)

noncomputable def impl_isName_con : Con := { ps := (.pair .str .unit), sh := impl_isName_sh, raw := fun x => impl_isName_r x.1 }
theorem impl_isName_conOk : ConOk Try.prog 128 impl_isName_con := con_of_fn (impl_isName_tabs FUEL) (depth := 8) impl_isName_ok fun x y h => (impl_isName_run x.1).trans h

noncomputable def impl_ValidEntry_inls : List (Nat × Inl) := []
noncomputable def impl_ValidEntry_cons : List (Nat × Con) := [(128, impl_isName_con)]
noncomputable def impl_ValidEntry_taks : List (Nat × ConT) := []
noncomputable def impl_ValidEntry_inps : List (Nat × ConI) := []
noncomputable def impl_ValidEntry_cuts : List (Nat × List (Nat × Cut)) := []
noncomputable def impl_ValidEntry_cx (k : Nat) : Cx := mkCx tys tbytes telem nozero (Ai.look impl_ValidEntry_inls) (Ai.look impl_ValidEntry_cons) (Ai.look impl_ValidEntry_taks) (Ai.look impl_ValidEntry_inps) (fun f id => match Ai.look impl_ValidEntry_cuts f with | some l => Ai.look l id | none => none) k []
theorem impl_ValidEntry_tabs (k : Nat) : TabsOk Try.prog (impl_ValidEntry_cx k) := ⟨tab_mk tabs_ok _ _ _ _ _ _ _, look_all (Q := ConOk Try.prog) _ ⟨impl_isName_conOk, trivial⟩, look_all (Q := TakOk Try.prog) _ trivial, look_all (Q := InpOk Try.prog) _ trivial, look_all (Q := InlOk Try.prog) _ trivial, mixed_ok⟩
abbrev impl_ValidEntry_sh : List Sh := [.pl .bool]
noncomputable def impl_ValidEntry_r (a0 : (List Int × (List Int × Unit))) : Option (shDen impl_ValidEntry_sh) :=
 (bindO (impl_isName_r a0.1) fun (b1 : Bool) => (cond b1
 (some (decide ((a0.2.1.length : Int) ≤ (64 : Int))))
 (some false)))
theorem impl_ValidEntry_start (k : Nat) (a0 : (List Int × (List Int × Unit))) : fnK (impl_ValidEntry_cx k) 8 109 impl_ValidEntry_i impl_ValidEntry_sh [.pv (.pair .str (.pair .str .unit)) a0] =
 ((bindO (impl_isName_r a0.1) fun (b1 : Bool) => (cond b1
 (some (decide ((a0.2.1.length : Int) ≤ (64 : Int))))
 (some false))) : Option (shDen impl_ValidEntry_sh)) := by kernel_rfl

theorem impl_ValidEntry_run (a0 : (List Int × (List Int × Unit))) : fnK (impl_ValidEntry_cx FUEL) 8 109 impl_ValidEntry_i impl_ValidEntry_sh [.pv (.pair .str (.pair .str .unit)) a0] = impl_ValidEntry_r a0 :=
 (impl_ValidEntry_start FUEL a0).trans (rfl)

noncomputable def impl_ValidEntry_con : Con := { ps := (.pair (.pair .str (.pair .str .unit)) .unit), sh := impl_ValidEntry_sh, raw := fun x => impl_ValidEntry_r x.1 }
theorem impl_ValidEntry_conOk : ConOk Try.prog 109 impl_ValidEntry_con := con_of_fn (impl_ValidEntry_tabs FUEL) (depth := 8) impl_ValidEntry_ok fun x y h => (impl_ValidEntry_run x.1).trans h

noncomputable def impl_ValidEntries_l0_cut : Cut := { keep := [0, 5, 6, 7], stk := [], ids := [], own := [], outs := [(0, [2], []), (1, [0], [])] }
noncomputable def impl_ValidEntries_inls : List (Nat × Inl) := []
noncomputable def impl_ValidEntries_cons : List (Nat × Con) := [(109, impl_ValidEntry_con)]
noncomputable def impl_ValidEntries_taks : List (Nat × ConT) := []
noncomputable def impl_ValidEntries_inps : List (Nat × ConI) := []
noncomputable def impl_ValidEntries_cuts : List (Nat × List (Nat × Cut)) := [(74, [(0, impl_ValidEntries_l0_cut)])]
noncomputable def impl_ValidEntries_cx (k : Nat) : Cx := mkCx tys tbytes telem nozero (Ai.look impl_ValidEntries_inls) (Ai.look impl_ValidEntries_cons) (Ai.look impl_ValidEntries_taks) (Ai.look impl_ValidEntries_inps) (fun f id => match Ai.look impl_ValidEntries_cuts f with | some l => Ai.look l id | none => none) k []
theorem impl_ValidEntries_tabs (k : Nat) : TabsOk Try.prog (impl_ValidEntries_cx k) := ⟨tab_mk tabs_ok _ _ _ _ _ _ _, look_all (Q := ConOk Try.prog) _ ⟨impl_ValidEntry_conOk, trivial⟩, look_all (Q := TakOk Try.prog) _ trivial, look_all (Q := InpOk Try.prog) _ trivial, look_all (Q := InlOk Try.prog) _ trivial, mixed_ok⟩
abbrev impl_ValidEntries_sh : List Sh := [.pl .bool]
noncomputable def impl_ValidEntries_l0_s (a0 : (List (List Int × (List Int × Unit)))) (x7 : Int) : St := { env := [.pv (.slice (.pair .str (.pair .str .unit))) a0, .dead, .dead, .dead, .dead, .pv (.slice (.pair .str (.pair .str .unit))) a0, .pv (.int .i64) (a0.length : Int), .pv (.int .i64) x7, .dead, .dead, .dead, .dead, .dead, .dead, .dead, .dead, .dead, .dead, .dead, .dead, .dead, .dead, .dead, .dead, .dead, .dead, .dead, .dead, .dead, .dead, .dead, .dead, .dead, .dead], stk := [], heap := [] }
noncomputable def impl_ValidEntries_l0_o  : St := { env := [.dead, .dead, .pv .bool false, .dead, .dead, .dead, .dead, .dead, .dead, .dead, .dead, .dead, .dead, .dead, .dead, .dead, .dead, .dead, .dead, .dead, .dead, .dead, .dead, .dead, .dead, .dead, .dead, .dead, .dead, .dead, .dead, .dead, .dead, .dead], stk := [], heap := [] }
noncomputable def impl_ValidEntries_l0_o0 (a0 : (List (List Int × (List Int × Unit)))) : St := { env := [.pv (.slice (.pair .str (.pair .str .unit))) a0, .dead, .dead, .dead, .dead, .dead, .dead, .dead, .dead, .dead, .dead, .dead, .dead, .dead, .dead, .dead, .dead, .dead, .dead, .dead, .dead, .dead, .dead, .dead, .dead, .dead, .dead, .dead, .dead, .dead, .dead, .dead, .dead, .dead], stk := [], heap := [] }
noncomputable def impl_ValidEntries_l0_b (rec : Int → Option (shDen impl_ValidEntries_sh)) (kr : Option (shDen impl_ValidEntries_sh)) (ke0 : Option (shDen impl_ValidEntries_sh)) (a0 : (List (List Int × (List Int × Unit)))) (x7 : Int) : Option (shDen impl_ValidEntries_sh) :=
 (cond (decide (x7 < (a0.length : Int)))
 (cond ((decide ((0 : Int) ≤ x7)) && (decide (x7 < (a0.length : Int))))
 (bindO (impl_ValidEntry_r (a0.getD (x7.toNat) ([], ([], ())))) fun (b2 : Bool) => (cond (!b2)
 (kr)
 (cond (decide ((0 : Int) < x7))
 (cond ((decide ((0 : Int) ≤ (IntKind.wrap .i64 (x7 - (1 : Int))))) && (decide ((IntKind.wrap .i64 (x7 - (1 : Int))) < (a0.length : Int))))
 (cond ((ltI ((a0.getD (x7.toNat) ([], ([], ()))).1) ((a0.getD ((IntKind.wrap .i64 (x7 - (1 : Int))).toNat) ([], ([], ()))).1)) || (decide ((a0.getD (x7.toNat) ([], ([], ()))).1 = (a0.getD ((IntKind.wrap .i64 (x7 - (1 : Int))).toNat) ([], ([], ()))).1)))
 (kr)
 (rec (IntKind.wrap .i64 (x7 + (1 : Int)))))
 none)
 (rec (IntKind.wrap .i64 (x7 + (1 : Int)))))))
 none)
 (ke0))
noncomputable def impl_ValidEntries_l0_L (kr : Option (shDen impl_ValidEntries_sh)) (ke0 : Option (shDen impl_ValidEntries_sh)) (a0 : (List (List Int × (List Int × Unit)))) : Nat → Int → Option (shDen impl_ValidEntries_sh)
 | 0 => fun _ => none
 | n + 1 => impl_ValidEntries_l0_b (impl_ValidEntries_l0_L kr ke0 a0 n) kr ke0 a0
noncomputable def impl_ValidEntries_r (a0 : (List (List Int × (List Int × Unit)))) : Option (shDen impl_ValidEntries_sh) :=
 (impl_ValidEntries_l0_L (some false) (some (decide ((a0.length : Int) ≤ (64 : Int)))) a0 FUEL (0 : Int))
theorem impl_ValidEntries_l0_round (k : Nat) (K : Ex → St → Option (shDen impl_ValidEntries_sh)) (n : Nat) (a0 : (List (List Int × (List Int × Unit)))) (x7 : Int) : (loopK (impl_ValidEntries_cx k) 0 (execK (impl_ValidEntries_cx k) (callK (impl_ValidEntries_cx k) 8) 0 74 (sub impl_ValidEntries_c [1, 0, 1, 0, 0])) impl_ValidEntries_l0_cut K (n + 1) (impl_ValidEntries_l0_s a0 x7) : Option (shDen impl_ValidEntries_sh)) =
 ((cond (decide (x7 < (a0.length : Int)))
 (cond ((decide ((0 : Int) ≤ x7)) && (decide (x7 < (a0.length : Int))))
 (bindO (impl_ValidEntry_r (a0.getD (x7.toNat) ([], ([], ())))) fun (b2 : Bool) => (cond (!b2)
 (K .ret (impl_ValidEntries_l0_o ))
 (cond (decide ((0 : Int) < x7))
 (cond ((decide ((0 : Int) ≤ (IntKind.wrap .i64 (x7 - (1 : Int))))) && (decide ((IntKind.wrap .i64 (x7 - (1 : Int))) < (a0.length : Int))))
 (cond ((ltI ((a0.getD (x7.toNat) ([], ([], ()))).1) ((a0.getD ((IntKind.wrap .i64 (x7 - (1 : Int))).toNat) ([], ([], ()))).1)) || (decide ((a0.getD (x7.toNat) ([], ([], ()))).1 = (a0.getD ((IntKind.wrap .i64 (x7 - (1 : Int))).toNat) ([], ([], ()))).1)))
 (K .ret (impl_ValidEntries_l0_o ))
 (loopK (impl_ValidEntries_cx k) 0 (execK (impl_ValidEntries_cx k) (callK (impl_ValidEntries_cx k) 8) 0 74 (sub impl_ValidEntries_c [1, 0, 1, 0, 0])) impl_ValidEntries_l0_cut K n (impl_ValidEntries_l0_s a0 (IntKind.wrap .i64 (x7 + (1 : Int))))))
 none)
 (loopK (impl_ValidEntries_cx k) 0 (execK (impl_ValidEntries_cx k) (callK (impl_ValidEntries_cx k) 8) 0 74 (sub impl_ValidEntries_c [1, 0, 1, 0, 0])) impl_ValidEntries_l0_cut K n (impl_ValidEntries_l0_s a0 (IntKind.wrap .i64 (x7 + (1 : Int))))))))
 none)
 (K (.exit 0) (impl_ValidEntries_l0_o0 a0))) : Option (shDen impl_ValidEntries_sh)) := by kernel_rfl

theorem impl_ValidEntries_l0_ret (k : Nat)   : ((blkK 0 (seqK (execK (impl_ValidEntries_cx k) (callK (impl_ValidEntries_cx k) 8) 0 74 (sub impl_ValidEntries_c [1, 1])) (finK (impl_ValidEntries_cx k) impl_ValidEntries_i impl_ValidEntries_sh))) .ret (impl_ValidEntries_l0_o) : Option (shDen impl_ValidEntries_sh)) =
 ((some false) : Option (shDen impl_ValidEntries_sh)) := by kernel_rfl

theorem impl_ValidEntries_l0_exit0 (k : Nat)  (a0 : (List (List Int × (List Int × Unit)))) : ((blkK 0 (seqK (execK (impl_ValidEntries_cx k) (callK (impl_ValidEntries_cx k) 8) 0 74 (sub impl_ValidEntries_c [1, 1])) (finK (impl_ValidEntries_cx k) impl_ValidEntries_i impl_ValidEntries_sh))) (.exit 0) (impl_ValidEntries_l0_o0 a0) : Option (shDen impl_ValidEntries_sh)) =
 ((some (decide ((a0.length : Int) ≤ (64 : Int)))) : Option (shDen impl_ValidEntries_sh)) := by kernel_rfl

theorem impl_ValidEntries_l0_congr (kr : Option (shDen impl_ValidEntries_sh)) (ke0 : Option (shDen impl_ValidEntries_sh)) (kr' : Option (shDen impl_ValidEntries_sh)) (ke0' : Option (shDen impl_ValidEntries_sh)) (a0 : (List (List Int × (List Int × Unit)))) (n : Nat) (x7 : Int) (hkr : ∀ (_ : Unit), kr  = kr' ) (hke0 : ∀ (_ : Unit), ke0  = ke0' ) : impl_ValidEntries_l0_L kr ke0 a0 n x7 = impl_ValidEntries_l0_L kr' ke0' a0 n x7 := by
 have : kr = kr' := hkr (); subst this; have : ke0 = ke0' := hke0 (); subst this; rfl

theorem impl_ValidEntries_l0_L_eq (K : Ex → St → Option (shDen impl_ValidEntries_sh)) (a0 : (List (List Int × (List Int × Unit)))) : ∀ (n : Nat) (x7 : Int), (loopK (impl_ValidEntries_cx FUEL) 0 (execK (impl_ValidEntries_cx FUEL) (callK (impl_ValidEntries_cx FUEL) 8) 0 74 (sub impl_ValidEntries_c [1, 0, 1, 0, 0])) impl_ValidEntries_l0_cut K n (impl_ValidEntries_l0_s a0 x7) : Option (shDen impl_ValidEntries_sh)) = impl_ValidEntries_l0_L (K .ret (impl_ValidEntries_l0_o)) (K (.exit 0) (impl_ValidEntries_l0_o0 a0)) a0 n x7 := by
 intro n
 induction n with
 | zero => intros; rfl
 | succ n ih =>
  intro x7
  exact (impl_ValidEntries_l0_round FUEL K n a0 x7).trans (condC (condC (bindC (fun b2 => condC (rfl) (condC (condC (condC (rfl) (ih (IntKind.wrap .i64 (x7 + (1 : Int))))) (rfl)) (ih (IntKind.wrap .i64 (x7 + (1 : Int))))))) (rfl)) (rfl))

theorem impl_ValidEntries_start (k : Nat) (a0 : (List (List Int × (List Int × Unit)))) : fnK (impl_ValidEntries_cx k) 8 74 impl_ValidEntries_i impl_ValidEntries_sh [.pv (.slice (.pair .str (.pair .str .unit))) a0] =
 ((loopK (impl_ValidEntries_cx k) 0 (execK (impl_ValidEntries_cx k) (callK (impl_ValidEntries_cx k) 8) 0 74 (sub impl_ValidEntries_c [1, 0, 1, 0, 0])) impl_ValidEntries_l0_cut (blkK 0 (seqK (execK (impl_ValidEntries_cx k) (callK (impl_ValidEntries_cx k) 8) 0 74 (sub impl_ValidEntries_c [1, 1])) (finK (impl_ValidEntries_cx k) impl_ValidEntries_i impl_ValidEntries_sh))) k (impl_ValidEntries_l0_s a0 (0 : Int))) : Option (shDen impl_ValidEntries_sh)) := by kernel_rfl

theorem impl_ValidEntries_run (a0 : (List (List Int × (List Int × Unit)))) : fnK (impl_ValidEntries_cx FUEL) 8 74 impl_ValidEntries_i impl_ValidEntries_sh [.pv (.slice (.pair .str (.pair .str .unit))) a0] = impl_ValidEntries_r a0 :=
 (impl_ValidEntries_start FUEL a0).trans ((impl_ValidEntries_l0_L_eq _ a0 FUEL (0 : Int)).trans (impl_ValidEntries_l0_congr _ _ _ _ a0 FUEL (0 : Int) (fun _ => (impl_ValidEntries_l0_ret FUEL  ).trans (rfl)) (fun _ => (impl_ValidEntries_l0_exit0 FUEL  a0).trans (rfl))))

noncomputable def impl_ValidEntries_con : Con := { ps := (.pair (.slice (.pair .str (.pair .str .unit))) .unit), sh := impl_ValidEntries_sh, raw := fun x => impl_ValidEntries_r x.1 }
theorem impl_ValidEntries_conOk : ConOk Try.prog 74 impl_ValidEntries_con := con_of_fn (impl_ValidEntries_tabs FUEL) (depth := 8) impl_ValidEntries_ok fun x y h => (impl_ValidEntries_run x.1).trans h

noncomputable def slices_Concat_impl_Entry_impl_Entry_l0_cut : Cut := { keep := [0, 3, 9, 10, 11], stk := [], ids := [], own := [], outs := [(1, [0, 3], [])] }
noncomputable def slices_Concat_impl_Entry_impl_Entry_l1_cut : Cut := { keep := [6, 25, 26, 27], stk := [], ids := [90060], own := [(6, 90060, 53)], outs := [(3, [6], [90060])] }
noncomputable def slices_Concat_impl_Entry_impl_Entry_inls : List (Nat × Inl) := []
noncomputable def slices_Concat_impl_Entry_impl_Entry_cons : List (Nat × Con) := []
noncomputable def slices_Concat_impl_Entry_impl_Entry_taks : List (Nat × ConT) := [(139, slices_Grow_impl_Entry_impl_Entry_tak)]
noncomputable def slices_Concat_impl_Entry_impl_Entry_inps : List (Nat × ConI) := []
noncomputable def slices_Concat_impl_Entry_impl_Entry_cuts : List (Nat × List (Nat × Cut)) := [(129, [(0, slices_Concat_impl_Entry_impl_Entry_l0_cut), (2, slices_Concat_impl_Entry_impl_Entry_l1_cut)])]
noncomputable def slices_Concat_impl_Entry_impl_Entry_cx (k : Nat) : Cx := mkCx tys tbytes telem nozero (Ai.look slices_Concat_impl_Entry_impl_Entry_inls) (Ai.look slices_Concat_impl_Entry_impl_Entry_cons) (Ai.look slices_Concat_impl_Entry_impl_Entry_taks) (Ai.look slices_Concat_impl_Entry_impl_Entry_inps) (fun f id => match Ai.look slices_Concat_impl_Entry_impl_Entry_cuts f with | some l => Ai.look l id | none => none) k []
theorem slices_Concat_impl_Entry_impl_Entry_tabs (k : Nat) : TabsOk Try.prog (slices_Concat_impl_Entry_impl_Entry_cx k) := ⟨tab_mk tabs_ok _ _ _ _ _ _ _, look_all (Q := ConOk Try.prog) _ trivial, look_all (Q := TakOk Try.prog) _ ⟨slices_Grow_impl_Entry_impl_Entry_takOk, trivial⟩, look_all (Q := InpOk Try.prog) _ trivial, look_all (Q := InlOk Try.prog) _ trivial, mixed_ok⟩
abbrev slices_Concat_impl_Entry_impl_Entry_sh : List Sh := [.own 108 (.pair .str (.pair .str .unit))]
noncomputable def slices_Concat_impl_Entry_impl_Entry_l0_s (a0 : (List (List (List Int × (List Int × Unit))))) (x3 : Int) (x11 : Int) : St := { env := [.pv (.slice (.slice (.pair .str (.pair .str .unit)))) a0, .dead, .dead, .pv (.int .i64) x3, .dead, .dead, .dead, .dead, .dead, .pv (.slice (.slice (.pair .str (.pair .str .unit)))) a0, .pv (.int .i64) (a0.length : Int), .pv (.int .i64) x11, .dead, .dead, .dead, .dead, .dead, .dead, .dead, .dead, .dead, .dead, .dead, .dead, .dead, .dead, .dead, .dead, .dead, .dead, .dead, .dead, .dead, .dead, .dead, .dead], stk := [], heap := [] }
noncomputable def slices_Concat_impl_Entry_impl_Entry_l0_o0 (a0 : (List (List (List Int × (List Int × Unit))))) (x3 : Int) : St := { env := [.pv (.slice (.slice (.pair .str (.pair .str .unit)))) a0, .dead, .dead, .pv (.int .i64) x3, .dead, .dead, .dead, .dead, .dead, .dead, .dead, .dead, .dead, .dead, .dead, .dead, .dead, .dead, .dead, .dead, .dead, .dead, .dead, .dead, .dead, .dead, .dead, .dead, .dead, .dead, .dead, .dead, .dead, .dead, .dead, .dead], stk := [], heap := [] }
noncomputable def slices_Concat_impl_Entry_impl_Entry_l1_s (a0 : (List (List (List Int × (List Int × Unit))))) (z90060 : (List (List Int × (List Int × Unit)))) (x27 : Int) : St := { env := [.dead, .dead, .dead, .dead, .dead, .dead, .sl 90060 (.pair .str (.pair .str .unit)), .dead, .dead, .dead, .dead, .dead, .dead, .dead, .dead, .dead, .dead, .dead, .dead, .dead, .dead, .dead, .dead, .dead, .dead, .pv (.slice (.slice (.pair .str (.pair .str .unit)))) a0, .pv (.int .i64) (a0.length : Int), .pv (.int .i64) x27, .dead, .dead, .dead, .dead, .dead, .dead, .dead, .dead], stk := [], heap := [(90060, .arr 108 (.pair .str (.pair .str .unit)) z90060)] }
noncomputable def slices_Concat_impl_Entry_impl_Entry_l1_o2 (z90060 : (List (List Int × (List Int × Unit)))) : St := { env := [.dead, .dead, .dead, .dead, .dead, .dead, .sl 90060 (.pair .str (.pair .str .unit)), .dead, .dead, .dead, .dead, .dead, .dead, .dead, .dead, .dead, .dead, .dead, .dead, .dead, .dead, .dead, .dead, .dead, .dead, .dead, .dead, .dead, .dead, .dead, .dead, .dead, .dead, .dead, .dead, .dead], stk := [], heap := [(90060, .arr 108 (.pair .str (.pair .str .unit)) z90060)] }
noncomputable def slices_Concat_impl_Entry_impl_Entry_l1_b (rec : (List (List Int × (List Int × Unit))) → Int → Option (shDen slices_Concat_impl_Entry_impl_Entry_sh)) (ke2 : (List (List Int × (List Int × Unit))) → Option (shDen slices_Concat_impl_Entry_impl_Entry_sh)) (a0 : (List (List (List Int × (List Int × Unit))))) (z90060 : (List (List Int × (List Int × Unit)))) (x27 : Int) : Option (shDen slices_Concat_impl_Entry_impl_Entry_sh) :=
 (cond (decide (x27 < (a0.length : Int)))
 (cond ((decide ((0 : Int) ≤ x27)) && (decide (x27 < (a0.length : Int))))
 (cond (decide ((z90060.length + (a0.getD (x27.toNat) []).length) * 32 ≤ 140737488355328) && decide (z90060.length + (a0.getD (x27.toNat) []).length ≤ 9223372036854775807))
 (rec (z90060 ++ (a0.getD (x27.toNat) [])) (IntKind.wrap .i64 (x27 + (1 : Int))))
 none)
 none)
 (ke2 z90060))
noncomputable def slices_Concat_impl_Entry_impl_Entry_l1_L (ke2 : (List (List Int × (List Int × Unit))) → Option (shDen slices_Concat_impl_Entry_impl_Entry_sh)) (a0 : (List (List (List Int × (List Int × Unit))))) : Nat → (List (List Int × (List Int × Unit))) → Int → Option (shDen slices_Concat_impl_Entry_impl_Entry_sh)
 | 0 => fun _ _ => none
 | n + 1 => slices_Concat_impl_Entry_impl_Entry_l1_b (slices_Concat_impl_Entry_impl_Entry_l1_L ke2 a0 n) ke2 a0
noncomputable def slices_Concat_impl_Entry_impl_Entry_l0_b (rec : Int → Int → Option (shDen slices_Concat_impl_Entry_impl_Entry_sh)) (ke0 : Int → Option (shDen slices_Concat_impl_Entry_impl_Entry_sh)) (a0 : (List (List (List Int × (List Int × Unit))))) (x3 : Int) (x11 : Int) : Option (shDen slices_Concat_impl_Entry_impl_Entry_sh) :=
 (cond (decide (x11 < (a0.length : Int)))
 (cond ((decide ((0 : Int) ≤ x11)) && (decide (x11 < (a0.length : Int))))
 (cond (decide ((IntKind.wrap .i64 (x3 + ((a0.getD (x11.toNat) []).length : Int))) < (0 : Int)))
 none
 (rec (IntKind.wrap .i64 (x3 + ((a0.getD (x11.toNat) []).length : Int))) (IntKind.wrap .i64 (x11 + (1 : Int)))))
 none)
 (ke0 x3))
noncomputable def slices_Concat_impl_Entry_impl_Entry_l0_L (ke0 : Int → Option (shDen slices_Concat_impl_Entry_impl_Entry_sh)) (a0 : (List (List (List Int × (List Int × Unit))))) : Nat → Int → Int → Option (shDen slices_Concat_impl_Entry_impl_Entry_sh)
 | 0 => fun _ _ => none
 | n + 1 => slices_Concat_impl_Entry_impl_Entry_l0_b (slices_Concat_impl_Entry_impl_Entry_l0_L ke0 a0 n) ke0 a0
noncomputable def slices_Concat_impl_Entry_impl_Entry_r (a0 : (List (List (List Int × (List Int × Unit))))) : Option (shDen slices_Concat_impl_Entry_impl_Entry_sh) :=
 (slices_Concat_impl_Entry_impl_Entry_l0_L (fun x3 => (bindO (slices_Grow_impl_Entry_impl_Entry_tr [] x3) fun (b1 : (List (List Int × (List Int × Unit)))) => (slices_Concat_impl_Entry_impl_Entry_l1_L (fun z90060 => (some z90060)) a0 FUEL b1 (0 : Int)))) a0 FUEL (0 : Int) (0 : Int))
theorem slices_Concat_impl_Entry_impl_Entry_l1_round (k : Nat) (K : Ex → St → Option (shDen slices_Concat_impl_Entry_impl_Entry_sh)) (n : Nat) (a0 : (List (List (List Int × (List Int × Unit))))) (z90060 : (List (List Int × (List Int × Unit)))) (x27 : Int) : (loopK (slices_Concat_impl_Entry_impl_Entry_cx k) 0 (execK (slices_Concat_impl_Entry_impl_Entry_cx k) (callK (slices_Concat_impl_Entry_impl_Entry_cx k) 8) 0 129 (sub slices_Concat_impl_Entry_impl_Entry_c [1, 1, 1, 1, 0, 1, 0, 0])) slices_Concat_impl_Entry_impl_Entry_l1_cut K (n + 1) (slices_Concat_impl_Entry_impl_Entry_l1_s a0 z90060 x27) : Option (shDen slices_Concat_impl_Entry_impl_Entry_sh)) =
 ((cond (decide (x27 < (a0.length : Int)))
 (cond ((decide ((0 : Int) ≤ x27)) && (decide (x27 < (a0.length : Int))))
 (cond (decide ((z90060.length + (a0.getD (x27.toNat) []).length) * 32 ≤ 140737488355328) && decide (z90060.length + (a0.getD (x27.toNat) []).length ≤ 9223372036854775807))
 (loopK (slices_Concat_impl_Entry_impl_Entry_cx k) 0 (execK (slices_Concat_impl_Entry_impl_Entry_cx k) (callK (slices_Concat_impl_Entry_impl_Entry_cx k) 8) 0 129 (sub slices_Concat_impl_Entry_impl_Entry_c [1, 1, 1, 1, 0, 1, 0, 0])) slices_Concat_impl_Entry_impl_Entry_l1_cut K n (slices_Concat_impl_Entry_impl_Entry_l1_s a0 (z90060 ++ (a0.getD (x27.toNat) [])) (IntKind.wrap .i64 (x27 + (1 : Int)))))
 none)
 none)
 (K (.exit 2) (slices_Concat_impl_Entry_impl_Entry_l1_o2 z90060))) : Option (shDen slices_Concat_impl_Entry_impl_Entry_sh)) := by kernel_rfl

theorem slices_Concat_impl_Entry_impl_Entry_l1_exit2 (k : Nat)  (z90060 : (List (List Int × (List Int × Unit)))) : ((blkK 2 (seqK (execK (slices_Concat_impl_Entry_impl_Entry_cx k) (callK (slices_Concat_impl_Entry_impl_Entry_cx k) 8) 0 129 (sub slices_Concat_impl_Entry_impl_Entry_c [1, 1, 1, 1, 1])) (finK (slices_Concat_impl_Entry_impl_Entry_cx k) slices_Concat_impl_Entry_impl_Entry_i slices_Concat_impl_Entry_impl_Entry_sh))) (.exit 2) (slices_Concat_impl_Entry_impl_Entry_l1_o2 z90060) : Option (shDen slices_Concat_impl_Entry_impl_Entry_sh)) =
 ((some z90060) : Option (shDen slices_Concat_impl_Entry_impl_Entry_sh)) := by kernel_rfl

theorem slices_Concat_impl_Entry_impl_Entry_l1_congr (ke2 : (List (List Int × (List Int × Unit))) → Option (shDen slices_Concat_impl_Entry_impl_Entry_sh)) (ke2' : (List (List Int × (List Int × Unit))) → Option (shDen slices_Concat_impl_Entry_impl_Entry_sh)) (a0 : (List (List (List Int × (List Int × Unit))))) (n : Nat) (z90060 : (List (List Int × (List Int × Unit)))) (x27 : Int) (hke2 : ∀ z90060, ke2 z90060 = ke2' z90060) : slices_Concat_impl_Entry_impl_Entry_l1_L ke2 a0 n z90060 x27 = slices_Concat_impl_Entry_impl_Entry_l1_L ke2' a0 n z90060 x27 := by
 have : ke2 = ke2' := (by funext z90060; exact hke2 z90060); subst this; rfl

theorem slices_Concat_impl_Entry_impl_Entry_l1_L_eq (K : Ex → St → Option (shDen slices_Concat_impl_Entry_impl_Entry_sh)) (a0 : (List (List (List Int × (List Int × Unit))))) : ∀ (n : Nat) (z90060 : (List (List Int × (List Int × Unit)))) (x27 : Int), (loopK (slices_Concat_impl_Entry_impl_Entry_cx FUEL) 0 (execK (slices_Concat_impl_Entry_impl_Entry_cx FUEL) (callK (slices_Concat_impl_Entry_impl_Entry_cx FUEL) 8) 0 129 (sub slices_Concat_impl_Entry_impl_Entry_c [1, 1, 1, 1, 0, 1, 0, 0])) slices_Concat_impl_Entry_impl_Entry_l1_cut K n (slices_Concat_impl_Entry_impl_Entry_l1_s a0 z90060 x27) : Option (shDen slices_Concat_impl_Entry_impl_Entry_sh)) = slices_Concat_impl_Entry_impl_Entry_l1_L (fun z90060 => K (.exit 2) (slices_Concat_impl_Entry_impl_Entry_l1_o2 z90060)) a0 n z90060 x27 := by
 intro n
 induction n with
 | zero => intros; rfl
 | succ n ih =>
  intro z90060 x27
  exact (slices_Concat_impl_Entry_impl_Entry_l1_round FUEL K n a0 z90060 x27).trans (condC (condC (condC (ih (z90060 ++ (a0.getD (x27.toNat) [])) (IntKind.wrap .i64 (x27 + (1 : Int)))) (rfl)) (rfl)) (rfl))

theorem slices_Concat_impl_Entry_impl_Entry_l0_round (k : Nat) (K : Ex → St → Option (shDen slices_Concat_impl_Entry_impl_Entry_sh)) (n : Nat) (a0 : (List (List (List Int × (List Int × Unit))))) (x3 : Int) (x11 : Int) : (loopK (slices_Concat_impl_Entry_impl_Entry_cx k) 0 (execK (slices_Concat_impl_Entry_impl_Entry_cx k) (callK (slices_Concat_impl_Entry_impl_Entry_cx k) 8) 0 129 (sub slices_Concat_impl_Entry_impl_Entry_c [1, 1, 0, 1, 0, 0])) slices_Concat_impl_Entry_impl_Entry_l0_cut K (n + 1) (slices_Concat_impl_Entry_impl_Entry_l0_s a0 x3 x11) : Option (shDen slices_Concat_impl_Entry_impl_Entry_sh)) =
 ((cond (decide (x11 < (a0.length : Int)))
 (cond ((decide ((0 : Int) ≤ x11)) && (decide (x11 < (a0.length : Int))))
 (cond (decide ((IntKind.wrap .i64 (x3 + ((a0.getD (x11.toNat) []).length : Int))) < (0 : Int)))
 none
 (loopK (slices_Concat_impl_Entry_impl_Entry_cx k) 0 (execK (slices_Concat_impl_Entry_impl_Entry_cx k) (callK (slices_Concat_impl_Entry_impl_Entry_cx k) 8) 0 129 (sub slices_Concat_impl_Entry_impl_Entry_c [1, 1, 0, 1, 0, 0])) slices_Concat_impl_Entry_impl_Entry_l0_cut K n (slices_Concat_impl_Entry_impl_Entry_l0_s a0 (IntKind.wrap .i64 (x3 + ((a0.getD (x11.toNat) []).length : Int))) (IntKind.wrap .i64 (x11 + (1 : Int))))))
 none)
 (K (.exit 0) (slices_Concat_impl_Entry_impl_Entry_l0_o0 a0 x3))) : Option (shDen slices_Concat_impl_Entry_impl_Entry_sh)) := by kernel_rfl

theorem slices_Concat_impl_Entry_impl_Entry_l0_exit0 (k : Nat)  (a0 : (List (List (List Int × (List Int × Unit))))) (x3 : Int) : ((blkK 0 (seqK (execK (slices_Concat_impl_Entry_impl_Entry_cx k) (callK (slices_Concat_impl_Entry_impl_Entry_cx k) 8) 0 129 (sub slices_Concat_impl_Entry_impl_Entry_c [1, 1, 1])) (finK (slices_Concat_impl_Entry_impl_Entry_cx k) slices_Concat_impl_Entry_impl_Entry_i slices_Concat_impl_Entry_impl_Entry_sh))) (.exit 0) (slices_Concat_impl_Entry_impl_Entry_l0_o0 a0 x3) : Option (shDen slices_Concat_impl_Entry_impl_Entry_sh)) =
 ((bindO (slices_Grow_impl_Entry_impl_Entry_tr [] x3) fun (b1 : (List (List Int × (List Int × Unit)))) => (loopK (slices_Concat_impl_Entry_impl_Entry_cx k) 0 (execK (slices_Concat_impl_Entry_impl_Entry_cx k) (callK (slices_Concat_impl_Entry_impl_Entry_cx k) 8) 0 129 (sub slices_Concat_impl_Entry_impl_Entry_c [1, 1, 1, 1, 0, 1, 0, 0])) slices_Concat_impl_Entry_impl_Entry_l1_cut (blkK 2 (seqK (execK (slices_Concat_impl_Entry_impl_Entry_cx k) (callK (slices_Concat_impl_Entry_impl_Entry_cx k) 8) 0 129 (sub slices_Concat_impl_Entry_impl_Entry_c [1, 1, 1, 1, 1])) (finK (slices_Concat_impl_Entry_impl_Entry_cx k) slices_Concat_impl_Entry_impl_Entry_i slices_Concat_impl_Entry_impl_Entry_sh))) k (slices_Concat_impl_Entry_impl_Entry_l1_s a0 b1 (0 : Int)))) : Option (shDen slices_Concat_impl_Entry_impl_Entry_sh)) := by kernel_rfl

theorem slices_Concat_impl_Entry_impl_Entry_l0_congr (ke0 : Int → Option (shDen slices_Concat_impl_Entry_impl_Entry_sh)) (ke0' : Int → Option (shDen slices_Concat_impl_Entry_impl_Entry_sh)) (a0 : (List (List (List Int × (List Int × Unit))))) (n : Nat) (x3 : Int) (x11 : Int) (hke0 : ∀ x3, ke0 x3 = ke0' x3) : slices_Concat_impl_Entry_impl_Entry_l0_L ke0 a0 n x3 x11 = slices_Concat_impl_Entry_impl_Entry_l0_L ke0' a0 n x3 x11 := by
 have : ke0 = ke0' := (by funext x3; exact hke0 x3); subst this; rfl

theorem slices_Concat_impl_Entry_impl_Entry_l0_L_eq (K : Ex → St → Option (shDen slices_Concat_impl_Entry_impl_Entry_sh)) (a0 : (List (List (List Int × (List Int × Unit))))) : ∀ (n : Nat) (x3 : Int) (x11 : Int), (loopK (slices_Concat_impl_Entry_impl_Entry_cx FUEL) 0 (execK (slices_Concat_impl_Entry_impl_Entry_cx FUEL) (callK (slices_Concat_impl_Entry_impl_Entry_cx FUEL) 8) 0 129 (sub slices_Concat_impl_Entry_impl_Entry_c [1, 1, 0, 1, 0, 0])) slices_Concat_impl_Entry_impl_Entry_l0_cut K n (slices_Concat_impl_Entry_impl_Entry_l0_s a0 x3 x11) : Option (shDen slices_Concat_impl_Entry_impl_Entry_sh)) = slices_Concat_impl_Entry_impl_Entry_l0_L (fun x3 => K (.exit 0) (slices_Concat_impl_Entry_impl_Entry_l0_o0 a0 x3)) a0 n x3 x11 := by
 intro n
 induction n with
 | zero => intros; rfl
 | succ n ih =>
  intro x3 x11
  exact (slices_Concat_impl_Entry_impl_Entry_l0_round FUEL K n a0 x3 x11).trans (condC (condC (condC (rfl) (ih (IntKind.wrap .i64 (x3 + ((a0.getD (x11.toNat) []).length : Int))) (IntKind.wrap .i64 (x11 + (1 : Int))))) (rfl)) (rfl))

theorem slices_Concat_impl_Entry_impl_Entry_start (k : Nat) (a0 : (List (List (List Int × (List Int × Unit))))) : fnK (slices_Concat_impl_Entry_impl_Entry_cx k) 8 129 slices_Concat_impl_Entry_impl_Entry_i slices_Concat_impl_Entry_impl_Entry_sh [.pv (.slice (.slice (.pair .str (.pair .str .unit)))) a0] =
 ((loopK (slices_Concat_impl_Entry_impl_Entry_cx k) 0 (execK (slices_Concat_impl_Entry_impl_Entry_cx k) (callK (slices_Concat_impl_Entry_impl_Entry_cx k) 8) 0 129 (sub slices_Concat_impl_Entry_impl_Entry_c [1, 1, 0, 1, 0, 0])) slices_Concat_impl_Entry_impl_Entry_l0_cut (blkK 0 (seqK (execK (slices_Concat_impl_Entry_impl_Entry_cx k) (callK (slices_Concat_impl_Entry_impl_Entry_cx k) 8) 0 129 (sub slices_Concat_impl_Entry_impl_Entry_c [1, 1, 1])) (finK (slices_Concat_impl_Entry_impl_Entry_cx k) slices_Concat_impl_Entry_impl_Entry_i slices_Concat_impl_Entry_impl_Entry_sh))) k (slices_Concat_impl_Entry_impl_Entry_l0_s a0 (0 : Int) (0 : Int))) : Option (shDen slices_Concat_impl_Entry_impl_Entry_sh)) := by kernel_rfl

theorem slices_Concat_impl_Entry_impl_Entry_run (a0 : (List (List (List Int × (List Int × Unit))))) : fnK (slices_Concat_impl_Entry_impl_Entry_cx FUEL) 8 129 slices_Concat_impl_Entry_impl_Entry_i slices_Concat_impl_Entry_impl_Entry_sh [.pv (.slice (.slice (.pair .str (.pair .str .unit)))) a0] = slices_Concat_impl_Entry_impl_Entry_r a0 :=
 (slices_Concat_impl_Entry_impl_Entry_start FUEL a0).trans ((slices_Concat_impl_Entry_impl_Entry_l0_L_eq _ a0 FUEL (0 : Int) (0 : Int)).trans (slices_Concat_impl_Entry_impl_Entry_l0_congr _ _ a0 FUEL (0 : Int) (0 : Int) (fun x3 => (slices_Concat_impl_Entry_impl_Entry_l0_exit0 FUEL  a0 x3).trans (bindC (fun b1 => (slices_Concat_impl_Entry_impl_Entry_l1_L_eq _ a0 FUEL b1 (0 : Int)).trans (slices_Concat_impl_Entry_impl_Entry_l1_congr _ _ a0 FUEL b1 (0 : Int) (fun z90060 => (slices_Concat_impl_Entry_impl_Entry_l1_exit2 FUEL  z90060).trans (rfl))))))))

noncomputable def slices_Concat_impl_Entry_impl_Entry_con : Con := { ps := (.pair (.slice (.slice (.pair .str (.pair .str .unit)))) .unit), sh := slices_Concat_impl_Entry_impl_Entry_sh, raw := fun x => slices_Concat_impl_Entry_impl_Entry_r x.1 }
theorem slices_Concat_impl_Entry_impl_Entry_conOk : ConOk Try.prog 129 slices_Concat_impl_Entry_impl_Entry_con := con_of_fn (slices_Concat_impl_Entry_impl_Entry_tabs FUEL) (depth := 8) slices_Concat_impl_Entry_impl_Entry_ok fun x y h => (slices_Concat_impl_Entry_impl_Entry_run x.1).trans h

noncomputable def cmp_isNaN_string_inls : List (Nat × Inl) := []
noncomputable def cmp_isNaN_string_cons : List (Nat × Con) := []
noncomputable def cmp_isNaN_string_taks : List (Nat × ConT) := []
noncomputable def cmp_isNaN_string_inps : List (Nat × ConI) := []
noncomputable def cmp_isNaN_string_cuts : List (Nat × List (Nat × Cut)) := []
noncomputable def cmp_isNaN_string_cx (k : Nat) : Cx := mkCx tys tbytes telem nozero (Ai.look cmp_isNaN_string_inls) (Ai.look cmp_isNaN_string_cons) (Ai.look cmp_isNaN_string_taks) (Ai.look cmp_isNaN_string_inps) (fun f id => match Ai.look cmp_isNaN_string_cuts f with | some l => Ai.look l id | none => none) k []
theorem cmp_isNaN_string_tabs (k : Nat) : TabsOk Try.prog (cmp_isNaN_string_cx k) := ⟨tab_mk tabs_ok _ _ _ _ _ _ _, look_all (Q := ConOk Try.prog) _ trivial, look_all (Q := TakOk Try.prog) _ trivial, look_all (Q := InpOk Try.prog) _ trivial, look_all (Q := InlOk Try.prog) _ trivial, mixed_ok⟩
abbrev cmp_isNaN_string_sh : List Sh := [.pl .bool]
noncomputable def cmp_isNaN_string_r (a0 : List Int) : Option (shDen cmp_isNaN_string_sh) :=
 (some (!(decide (a0 = a0))))
theorem cmp_isNaN_string_start (k : Nat) (a0 : List Int) : fnK (cmp_isNaN_string_cx k) 8 156 cmp_isNaN_string_i cmp_isNaN_string_sh [.pv .str a0] =
 ((some (!(decide (a0 = a0)))) : Option (shDen cmp_isNaN_string_sh)) := by kernel_rfl

theorem cmp_isNaN_string_run (a0 : List Int) : fnK (cmp_isNaN_string_cx FUEL) 8 156 cmp_isNaN_string_i cmp_isNaN_string_sh [.pv .str a0] = cmp_isNaN_string_r a0 :=
 (cmp_isNaN_string_start FUEL a0).trans (rfl)

noncomputable def cmp_isNaN_string_con : Con := { ps := (.pair .str .unit), sh := cmp_isNaN_string_sh, raw := fun x => cmp_isNaN_string_r x.1 }
theorem cmp_isNaN_string_conOk : ConOk Try.prog 156 cmp_isNaN_string_con := con_of_fn (cmp_isNaN_string_tabs FUEL) (depth := 8) cmp_isNaN_string_ok fun x y h => (cmp_isNaN_string_run x.1).trans h

noncomputable def slices_Compact_string_string_l0_cut : Cut := { keep := [0, 3], stk := [], ids := [8], own := [], outs := [(1, [0], [8]), (0, [2], [8])] }
noncomputable def slices_Compact_string_string_l1_cut : Cut := { keep := [0, 3, 4, 5], stk := [], ids := [8], own := [], outs := [(3, [0, 3], [8])] }
noncomputable def slices_Compact_string_string_inls : List (Nat × Inl) := []
noncomputable def slices_Compact_string_string_cons : List (Nat × Con) := []
noncomputable def slices_Compact_string_string_taks : List (Nat × ConT) := []
noncomputable def slices_Compact_string_string_inps : List (Nat × ConI) := []
noncomputable def slices_Compact_string_string_cuts : List (Nat × List (Nat × Cut)) := [(131, [(0, slices_Compact_string_string_l0_cut), (2, slices_Compact_string_string_l1_cut)])]
noncomputable def slices_Compact_string_string_cx (k : Nat) : Cx := mkCx tys tbytes telem nozero (Ai.look slices_Compact_string_string_inls) (Ai.look slices_Compact_string_string_cons) (Ai.look slices_Compact_string_string_taks) (Ai.look slices_Compact_string_string_inps) (fun f id => match Ai.look slices_Compact_string_string_cuts f with | some l => Ai.look l id | none => none) k []
theorem slices_Compact_string_string_tabs (k : Nat) : TabsOk Try.prog (slices_Compact_string_string_cx k) := ⟨tab_mk tabs_ok _ _ _ _ _ _ _, look_all (Q := ConOk Try.prog) _ trivial, look_all (Q := TakOk Try.prog) _ trivial, look_all (Q := InpOk Try.prog) _ trivial, look_all (Q := InlOk Try.prog) _ trivial, mixed_ok⟩
noncomputable def slices_Compact_string_string_l0_s (a0 : (List (List Int))) (x3 : Int) : St := { env := [.sl 8 .str, .dead, .dead, .pv (.int .i64) x3, .dead, .dead, .dead, .dead, .dead, .dead, .dead, .dead, .dead, .dead, .dead, .dead, .dead, .dead, .dead, .dead, .dead, .dead, .dead, .dead, .dead, .dead, .dead, .dead, .dead, .dead, .dead, .dead, .dead, .dead, .dead, .dead, .dead, .dead, .dead, .dead, .dead, .dead, .dead, .dead, .dead, .dead, .dead, .dead, .dead, .dead, .dead, .dead, .dead, .dead, .dead, .dead, .dead, .dead, .dead, .dead, .dead], stk := [], heap := [(8, .arr 9 .str a0)] }
noncomputable def slices_Compact_string_string_l0_o0 (a0 : (List (List Int))) : St := { env := [.sl 8 .str, .dead, .dead, .dead, .dead, .dead, .dead, .dead, .dead, .dead, .dead, .dead, .dead, .dead, .dead, .dead, .dead, .dead, .dead, .dead, .dead, .dead, .dead, .dead, .dead, .dead, .dead, .dead, .dead, .dead, .dead, .dead, .dead, .dead, .dead, .dead, .dead, .dead, .dead, .dead, .dead, .dead, .dead, .dead, .dead, .dead, .dead, .dead, .dead, .dead, .dead, .dead, .dead, .dead, .dead, .dead, .dead, .dead, .dead, .dead, .dead], stk := [], heap := [(8, .arr 9 .str a0)] }
noncomputable def slices_Compact_string_string_l0_o (x2v : Nat) (z8 : (List (List Int))) : St := { env := [.dead, .dead, .vw 8 (.slice .str) [] .str 0 x2v, .dead, .dead, .dead, .dead, .dead, .dead, .dead, .dead, .dead, .dead, .dead, .dead, .dead, .dead, .dead, .dead, .dead, .dead, .dead, .dead, .dead, .dead, .dead, .dead, .dead, .dead, .dead, .dead, .dead, .dead, .dead, .dead, .dead, .dead, .dead, .dead, .dead, .dead, .dead, .dead, .dead, .dead, .dead, .dead, .dead, .dead, .dead, .dead, .dead, .dead, .dead, .dead, .dead, .dead, .dead, .dead, .dead, .dead], stk := [], heap := [(8, .arr 9 .str z8)] }
noncomputable def slices_Compact_string_string_l1_s (a0 : (List (List Int))) (x3 : Int) (x5 : Int) (z8 : (List (List Int))) (x4u : Nat) : St := { env := [.sl 8 .str, .dead, .dead, .pv (.int .i64) x3, .vw 8 (.slice .str) [] .str x4u (a0.length), .pv (.int .i64) x5, .dead, .dead, .dead, .dead, .dead, .dead, .dead, .dead, .dead, .dead, .dead, .dead, .dead, .dead, .dead, .dead, .dead, .dead, .dead, .dead, .dead, .dead, .dead, .dead, .dead, .dead, .dead, .dead, .dead, .dead, .dead, .dead, .dead, .dead, .dead, .dead, .dead, .dead, .dead, .dead, .dead, .dead, .dead, .dead, .dead, .dead, .dead, .dead, .dead, .dead, .dead, .dead, .dead, .dead, .dead], stk := [], heap := [(8, .arr 9 .str z8)] }
noncomputable def slices_Compact_string_string_l1_o2 (x3 : Int) (z8 : (List (List Int))) : St := { env := [.sl 8 .str, .dead, .dead, .pv (.int .i64) x3, .dead, .dead, .dead, .dead, .dead, .dead, .dead, .dead, .dead, .dead, .dead, .dead, .dead, .dead, .dead, .dead, .dead, .dead, .dead, .dead, .dead, .dead, .dead, .dead, .dead, .dead, .dead, .dead, .dead, .dead, .dead, .dead, .dead, .dead, .dead, .dead, .dead, .dead, .dead, .dead, .dead, .dead, .dead, .dead, .dead, .dead, .dead, .dead, .dead, .dead, .dead, .dead, .dead, .dead, .dead, .dead, .dead], stk := [], heap := [(8, .arr 9 .str z8)] }
noncomputable def slices_Compact_string_string_l1_b (rec : Int → Int → (List (List Int)) → Nat → Option (List (List Int))) (ke2 : Int → (List (List Int)) → Option (List (List Int))) (a0 : (List (List Int))) (x3 : Int) (x5 : Int) (z8 : (List (List Int))) (x4u : Nat) : Option (List (List Int)) :=
 (cond (decide (x5 < (((a0.length) - x4u : Nat) : Int)))
 (cond ((decide ((0 : Int) ≤ x5)) && (decide (x5 < (((a0.length) - x4u : Nat) : Int))))
 (cond ((decide ((0 : Int) ≤ (IntKind.wrap .i64 (x5 - (1 : Int))))) && (decide ((IntKind.wrap .i64 (x5 - (1 : Int))) < (((a0.length) - x4u : Nat) : Int))))
 (cond (!(decide ((z8.getD (x4u + (x5.toNat)) []) = (z8.getD (x4u + ((IntKind.wrap .i64 (x5 - (1 : Int))).toNat)) []))))
 (cond ((decide ((0 : Int) ≤ x5)) && (decide (x5 < (((a0.length) - x4u : Nat) : Int))))
 (cond ((decide ((0 : Int) ≤ x3)) && (decide (x3 < (z8.length : Int))))
 (rec (IntKind.wrap .i64 (x3 + (1 : Int))) (IntKind.wrap .i64 (x5 + (1 : Int))) (z8.set (x3.toNat) (z8.getD (x4u + (x5.toNat)) [])) x4u)
 none)
 none)
 (rec x3 (IntKind.wrap .i64 (x5 + (1 : Int))) z8 x4u))
 none)
 none)
 (ke2 x3 z8))
noncomputable def slices_Compact_string_string_l1_L (ke2 : Int → (List (List Int)) → Option (List (List Int))) (a0 : (List (List Int))) : Nat → Int → Int → (List (List Int)) → Nat → Option (List (List Int))
 | 0 => fun _ _ _ _ => none
 | n + 1 => slices_Compact_string_string_l1_b (slices_Compact_string_string_l1_L ke2 a0 n) ke2 a0
noncomputable def slices_Compact_string_string_l0_b (rec : Int → Option (List (List Int))) (ke0 : Option (List (List Int))) (kr : Nat → (List (List Int)) → Option (List (List Int))) (a0 : (List (List Int))) (x3 : Int) : Option (List (List Int)) :=
 (cond (decide (x3 < (a0.length : Int)))
 (cond ((decide ((0 : Int) ≤ x3)) && (decide (x3 < (a0.length : Int))))
 (cond ((decide ((0 : Int) ≤ (IntKind.wrap .i64 (x3 - (1 : Int))))) && (decide ((IntKind.wrap .i64 (x3 - (1 : Int))) < (a0.length : Int))))
 (cond (decide ((a0.getD (x3.toNat) []) = (a0.getD ((IntKind.wrap .i64 (x3 - (1 : Int))).toNat) [])))
 (cond ((decide ((0 : Int) ≤ x3)) && (decide (x3 ≤ (a0.length : Int))))
 (slices_Compact_string_string_l1_L (fun x3 z8 => (cond ((decide ((0 : Int) ≤ x3)) && (decide (x3 ≤ (z8.length : Int))))
 (cond ((decide ((0 : Int) ≤ x3)) && (decide (x3 ≤ ((splL z8 (x3.toNat) (List.take ((z8.length) - (x3.toNat)) (List.replicate ((z8.length) - (x3.toNat)) []))).length : Int))))
 (kr (x3.toNat) (splL z8 (x3.toNat) (List.take ((z8.length) - (x3.toNat)) (List.replicate ((z8.length) - (x3.toNat)) []))))
 none)
 none)) a0 FUEL x3 (1 : Int) a0 (x3.toNat))
 none)
 (rec (IntKind.wrap .i64 (x3 + (1 : Int)))))
 none)
 none)
 (ke0))
noncomputable def slices_Compact_string_string_l0_L (ke0 : Option (List (List Int))) (kr : Nat → (List (List Int)) → Option (List (List Int))) (a0 : (List (List Int))) : Nat → Int → Option (List (List Int))
 | 0 => fun _ => none
 | n + 1 => slices_Compact_string_string_l0_b (slices_Compact_string_string_l0_L ke0 kr a0 n) ke0 kr a0
noncomputable def slices_Compact_string_string_r (a0 : (List (List Int))) : Option (List (List Int)) :=
 (cond (decide ((a0.length : Int) < (2 : Int)))
 (some a0)
 (slices_Compact_string_string_l0_L (some a0) (fun x2v z8 => (some (List.take x2v z8))) a0 FUEL (1 : Int)))
theorem slices_Compact_string_string_l1_round (k : Nat) (K : Ex → St → Option (List (List Int))) (n : Nat) (a0 : (List (List Int))) (x3 : Int) (x5 : Int) (z8 : (List (List Int))) (x4u : Nat) : (loopK (slices_Compact_string_string_cx k) 0 (execK (slices_Compact_string_string_cx k) (callK (slices_Compact_string_string_cx k) 8) 0 131 (sub slices_Compact_string_string_c [1, 1, 0, 1, 0, 0, 1, 0, 0, 1, 0, 1, 0, 1, 0, 0])) slices_Compact_string_string_l1_cut K (n + 1) (slices_Compact_string_string_l1_s a0 x3 x5 z8 x4u) : Option (List (List Int))) =
 ((cond (decide (x5 < (((a0.length) - x4u : Nat) : Int)))
 (cond ((decide ((0 : Int) ≤ x5)) && (decide (x5 < (((a0.length) - x4u : Nat) : Int))))
 (cond ((decide ((0 : Int) ≤ (IntKind.wrap .i64 (x5 - (1 : Int))))) && (decide ((IntKind.wrap .i64 (x5 - (1 : Int))) < (((a0.length) - x4u : Nat) : Int))))
 (cond (!(decide ((z8.getD (x4u + (x5.toNat)) []) = (z8.getD (x4u + ((IntKind.wrap .i64 (x5 - (1 : Int))).toNat)) []))))
 (cond ((decide ((0 : Int) ≤ x5)) && (decide (x5 < (((a0.length) - x4u : Nat) : Int))))
 (cond ((decide ((0 : Int) ≤ x3)) && (decide (x3 < (z8.length : Int))))
 (loopK (slices_Compact_string_string_cx k) 0 (execK (slices_Compact_string_string_cx k) (callK (slices_Compact_string_string_cx k) 8) 0 131 (sub slices_Compact_string_string_c [1, 1, 0, 1, 0, 0, 1, 0, 0, 1, 0, 1, 0, 1, 0, 0])) slices_Compact_string_string_l1_cut K n (slices_Compact_string_string_l1_s a0 (IntKind.wrap .i64 (x3 + (1 : Int))) (IntKind.wrap .i64 (x5 + (1 : Int))) (z8.set (x3.toNat) (z8.getD (x4u + (x5.toNat)) [])) x4u))
 none)
 none)
 (loopK (slices_Compact_string_string_cx k) 0 (execK (slices_Compact_string_string_cx k) (callK (slices_Compact_string_string_cx k) 8) 0 131 (sub slices_Compact_string_string_c [1, 1, 0, 1, 0, 0, 1, 0, 0, 1, 0, 1, 0, 1, 0, 0])) slices_Compact_string_string_l1_cut K n (slices_Compact_string_string_l1_s a0 x3 (IntKind.wrap .i64 (x5 + (1 : Int))) z8 x4u)))
 none)
 none)
 (K (.exit 2) (slices_Compact_string_string_l1_o2 x3 z8))) : Option (List (List Int))) := by kernel_rfl

theorem slices_Compact_string_string_l1_exit2 (k : Nat) (K : Ex → St → Option (List (List Int))) (n : Nat) (x3 : Int) (z8 : (List (List Int))) : ((blkK 2 (seqK (execK (slices_Compact_string_string_cx k) (callK (slices_Compact_string_string_cx k) 8) 0 131 (sub slices_Compact_string_string_c [1, 1, 0, 1, 0, 0, 1, 0, 0, 1, 0, 1, 1])) (blkK 1 (seqK (execK (slices_Compact_string_string_cx k) (callK (slices_Compact_string_string_cx k) 8) 0 131 (sub slices_Compact_string_string_c [1, 1, 0, 1, 0, 0, 1, 1])) (iterK (slices_Compact_string_string_cx k) 0 slices_Compact_string_string_l0_cut (loopK (slices_Compact_string_string_cx k) 0 (execK (slices_Compact_string_string_cx k) (callK (slices_Compact_string_string_cx k) 8) 0 131 (sub slices_Compact_string_string_c [1, 1, 0, 1, 0, 0])) slices_Compact_string_string_l0_cut K n) K))))) (.exit 2) (slices_Compact_string_string_l1_o2 x3 z8) : Option (List (List Int))) =
 ((cond ((decide ((0 : Int) ≤ x3)) && (decide (x3 ≤ (z8.length : Int))))
 (cond ((decide ((0 : Int) ≤ x3)) && (decide (x3 ≤ ((splL z8 (x3.toNat) (List.take ((z8.length) - (x3.toNat)) (List.replicate ((z8.length) - (x3.toNat)) []))).length : Int))))
 (K .ret (slices_Compact_string_string_l0_o (x3.toNat) (splL z8 (x3.toNat) (List.take ((z8.length) - (x3.toNat)) (List.replicate ((z8.length) - (x3.toNat)) [])))))
 none)
 none) : Option (List (List Int))) := by kernel_rfl

theorem slices_Compact_string_string_l1_congr (ke2 : Int → (List (List Int)) → Option (List (List Int))) (ke2' : Int → (List (List Int)) → Option (List (List Int))) (a0 : (List (List Int))) (n : Nat) (x3 : Int) (x5 : Int) (z8 : (List (List Int))) (x4u : Nat) (hke2 : ∀ x3 z8, ke2 x3 z8 = ke2' x3 z8) : slices_Compact_string_string_l1_L ke2 a0 n x3 x5 z8 x4u = slices_Compact_string_string_l1_L ke2' a0 n x3 x5 z8 x4u := by
 have : ke2 = ke2' := (by funext x3 z8; exact hke2 x3 z8); subst this; rfl

theorem slices_Compact_string_string_l1_L_eq (K : Ex → St → Option (List (List Int))) (a0 : (List (List Int))) : ∀ (n : Nat) (x3 : Int) (x5 : Int) (z8 : (List (List Int))) (x4u : Nat), (loopK (slices_Compact_string_string_cx FUEL) 0 (execK (slices_Compact_string_string_cx FUEL) (callK (slices_Compact_string_string_cx FUEL) 8) 0 131 (sub slices_Compact_string_string_c [1, 1, 0, 1, 0, 0, 1, 0, 0, 1, 0, 1, 0, 1, 0, 0])) slices_Compact_string_string_l1_cut K n (slices_Compact_string_string_l1_s a0 x3 x5 z8 x4u) : Option (List (List Int))) = slices_Compact_string_string_l1_L (fun x3 z8 => K (.exit 2) (slices_Compact_string_string_l1_o2 x3 z8)) a0 n x3 x5 z8 x4u := by
 intro n
 induction n with
 | zero => intros; rfl
 | succ n ih =>
  intro x3 x5 z8 x4u
  exact (slices_Compact_string_string_l1_round FUEL K n a0 x3 x5 z8 x4u).trans (condC (condC (condC (condC (condC (condC (ih (IntKind.wrap .i64 (x3 + (1 : Int))) (IntKind.wrap .i64 (x5 + (1 : Int))) (z8.set (x3.toNat) (z8.getD (x4u + (x5.toNat)) [])) x4u) (rfl)) (rfl)) (ih x3 (IntKind.wrap .i64 (x5 + (1 : Int))) z8 x4u)) (rfl)) (rfl)) (rfl))

theorem slices_Compact_string_string_l0_round (k : Nat) (K : Ex → St → Option (List (List Int))) (n : Nat) (a0 : (List (List Int))) (x3 : Int) : (loopK (slices_Compact_string_string_cx k) 0 (execK (slices_Compact_string_string_cx k) (callK (slices_Compact_string_string_cx k) 8) 0 131 (sub slices_Compact_string_string_c [1, 1, 0, 1, 0, 0])) slices_Compact_string_string_l0_cut K (n + 1) (slices_Compact_string_string_l0_s a0 x3) : Option (List (List Int))) =
 ((cond (decide (x3 < (a0.length : Int)))
 (cond ((decide ((0 : Int) ≤ x3)) && (decide (x3 < (a0.length : Int))))
 (cond ((decide ((0 : Int) ≤ (IntKind.wrap .i64 (x3 - (1 : Int))))) && (decide ((IntKind.wrap .i64 (x3 - (1 : Int))) < (a0.length : Int))))
 (cond (decide ((a0.getD (x3.toNat) []) = (a0.getD ((IntKind.wrap .i64 (x3 - (1 : Int))).toNat) [])))
 (cond ((decide ((0 : Int) ≤ x3)) && (decide (x3 ≤ (a0.length : Int))))
 (loopK (slices_Compact_string_string_cx k) 0 (execK (slices_Compact_string_string_cx k) (callK (slices_Compact_string_string_cx k) 8) 0 131 (sub slices_Compact_string_string_c [1, 1, 0, 1, 0, 0, 1, 0, 0, 1, 0, 1, 0, 1, 0, 0])) slices_Compact_string_string_l1_cut (blkK 2 (seqK (execK (slices_Compact_string_string_cx k) (callK (slices_Compact_string_string_cx k) 8) 0 131 (sub slices_Compact_string_string_c [1, 1, 0, 1, 0, 0, 1, 0, 0, 1, 0, 1, 1])) (blkK 1 (seqK (execK (slices_Compact_string_string_cx k) (callK (slices_Compact_string_string_cx k) 8) 0 131 (sub slices_Compact_string_string_c [1, 1, 0, 1, 0, 0, 1, 1])) (iterK (slices_Compact_string_string_cx k) 0 slices_Compact_string_string_l0_cut (loopK (slices_Compact_string_string_cx k) 0 (execK (slices_Compact_string_string_cx k) (callK (slices_Compact_string_string_cx k) 8) 0 131 (sub slices_Compact_string_string_c [1, 1, 0, 1, 0, 0])) slices_Compact_string_string_l0_cut K n) K))))) k (slices_Compact_string_string_l1_s a0 x3 (1 : Int) a0 (x3.toNat)))
 none)
 (loopK (slices_Compact_string_string_cx k) 0 (execK (slices_Compact_string_string_cx k) (callK (slices_Compact_string_string_cx k) 8) 0 131 (sub slices_Compact_string_string_c [1, 1, 0, 1, 0, 0])) slices_Compact_string_string_l0_cut K n (slices_Compact_string_string_l0_s a0 (IntKind.wrap .i64 (x3 + (1 : Int))))))
 none)
 none)
 (K (.exit 0) (slices_Compact_string_string_l0_o0 a0))) : Option (List (List Int))) := by kernel_rfl

theorem slices_Compact_string_string_l0_exit0 (k : Nat)  (a0 : (List (List Int))) : ((blkK 0 (seqK (execK (slices_Compact_string_string_cx k) (callK (slices_Compact_string_string_cx k) 8) 0 131 (sub slices_Compact_string_string_c [1, 1, 1])) (finTK (slices_Compact_string_string_cx k) slices_Compact_string_string_i 9 .str))) (.exit 0) (slices_Compact_string_string_l0_o0 a0) : Option (List (List Int))) =
 ((some a0) : Option (List (List Int))) := by kernel_rfl

theorem slices_Compact_string_string_l0_ret (k : Nat)  (x2v : Nat) (z8 : (List (List Int))) : ((blkK 0 (seqK (execK (slices_Compact_string_string_cx k) (callK (slices_Compact_string_string_cx k) 8) 0 131 (sub slices_Compact_string_string_c [1, 1, 1])) (finTK (slices_Compact_string_string_cx k) slices_Compact_string_string_i 9 .str))) .ret (slices_Compact_string_string_l0_o x2v z8) : Option (List (List Int))) =
 ((some (List.take x2v z8)) : Option (List (List Int))) := by kernel_rfl

theorem slices_Compact_string_string_l0_congr (ke0 : Option (List (List Int))) (kr : Nat → (List (List Int)) → Option (List (List Int))) (ke0' : Option (List (List Int))) (kr' : Nat → (List (List Int)) → Option (List (List Int))) (a0 : (List (List Int))) (n : Nat) (x3 : Int) (hke0 : ∀ (_ : Unit), ke0  = ke0' ) (hkr : ∀ x2v z8, kr x2v z8 = kr' x2v z8) : slices_Compact_string_string_l0_L ke0 kr a0 n x3 = slices_Compact_string_string_l0_L ke0' kr' a0 n x3 := by
 have : ke0 = ke0' := hke0 (); subst this; have : kr = kr' := (by funext x2v z8; exact hkr x2v z8); subst this; rfl

theorem slices_Compact_string_string_l0_L_eq (K : Ex → St → Option (List (List Int))) (a0 : (List (List Int))) : ∀ (n : Nat) (x3 : Int), (loopK (slices_Compact_string_string_cx FUEL) 0 (execK (slices_Compact_string_string_cx FUEL) (callK (slices_Compact_string_string_cx FUEL) 8) 0 131 (sub slices_Compact_string_string_c [1, 1, 0, 1, 0, 0])) slices_Compact_string_string_l0_cut K n (slices_Compact_string_string_l0_s a0 x3) : Option (List (List Int))) = slices_Compact_string_string_l0_L (K (.exit 0) (slices_Compact_string_string_l0_o0 a0)) (fun x2v z8 => K .ret (slices_Compact_string_string_l0_o x2v z8)) a0 n x3 := by
 intro n
 induction n with
 | zero => intros; rfl
 | succ n ih =>
  intro x3
  exact (slices_Compact_string_string_l0_round FUEL K n a0 x3).trans (condC (condC (condC (condC (condC ((slices_Compact_string_string_l1_L_eq _ a0 FUEL x3 (1 : Int) a0 (x3.toNat)).trans (slices_Compact_string_string_l1_congr _ _ a0 FUEL x3 (1 : Int) a0 (x3.toNat) (fun x3 z8 => (slices_Compact_string_string_l1_exit2 FUEL K n x3 z8).trans (condC (condC (rfl) (rfl)) (rfl))))) (rfl)) (ih (IntKind.wrap .i64 (x3 + (1 : Int))))) (rfl)) (rfl)) (rfl))

theorem slices_Compact_string_string_start (k : Nat) (a0 : (List (List Int))) : fnTK (slices_Compact_string_string_cx k) 8 131 slices_Compact_string_string_i 9 .str a0 [] =
 ((cond (decide ((a0.length : Int) < (2 : Int)))
 (some a0)
 (loopK (slices_Compact_string_string_cx k) 0 (execK (slices_Compact_string_string_cx k) (callK (slices_Compact_string_string_cx k) 8) 0 131 (sub slices_Compact_string_string_c [1, 1, 0, 1, 0, 0])) slices_Compact_string_string_l0_cut (blkK 0 (seqK (execK (slices_Compact_string_string_cx k) (callK (slices_Compact_string_string_cx k) 8) 0 131 (sub slices_Compact_string_string_c [1, 1, 1])) (finTK (slices_Compact_string_string_cx k) slices_Compact_string_string_i 9 .str))) k (slices_Compact_string_string_l0_s a0 (1 : Int)))) : Option (List (List Int))) := by kernel_rfl

theorem slices_Compact_string_string_run (a0 : (List (List Int))) : fnTK (slices_Compact_string_string_cx FUEL) 8 131 slices_Compact_string_string_i 9 .str a0 [] = slices_Compact_string_string_r a0 :=
 (slices_Compact_string_string_start FUEL a0).trans (condC (rfl) ((slices_Compact_string_string_l0_L_eq _ a0 FUEL (1 : Int)).trans (slices_Compact_string_string_l0_congr _ _ _ _ a0 FUEL (1 : Int) (fun _ => (slices_Compact_string_string_l0_exit0 FUEL  a0).trans (rfl)) (fun x2v z8 => (slices_Compact_string_string_l0_ret FUEL  x2v z8).trans (rfl)))))

noncomputable def slices_Compact_string_string_tak : ConT := { E := 9, e := .str, ps := .unit, raw := fun x q => slices_Compact_string_string_r x  }
theorem slices_Compact_string_string_takOk : TakOk Try.prog 131 slices_Compact_string_string_tak := tak_of_fn (slices_Compact_string_string_tabs FUEL) (depth := 8) slices_Compact_string_string_ok rfl fun xs q z h => (slices_Compact_string_string_run xs ).trans h

noncomputable def cmp_Compare_string_inls : List (Nat × Inl) := []
noncomputable def cmp_Compare_string_cons : List (Nat × Con) := [(156, cmp_isNaN_string_con)]
noncomputable def cmp_Compare_string_taks : List (Nat × ConT) := []
noncomputable def cmp_Compare_string_inps : List (Nat × ConI) := []
noncomputable def cmp_Compare_string_cuts : List (Nat × List (Nat × Cut)) := []
noncomputable def cmp_Compare_string_cx (k : Nat) : Cx := mkCx tys tbytes telem nozero (Ai.look cmp_Compare_string_inls) (Ai.look cmp_Compare_string_cons) (Ai.look cmp_Compare_string_taks) (Ai.look cmp_Compare_string_inps) (fun f id => match Ai.look cmp_Compare_string_cuts f with | some l => Ai.look l id | none => none) k []
theorem cmp_Compare_string_tabs (k : Nat) : TabsOk Try.prog (cmp_Compare_string_cx k) := ⟨tab_mk tabs_ok _ _ _ _ _ _ _, look_all (Q := ConOk Try.prog) _ ⟨cmp_isNaN_string_conOk, trivial⟩, look_all (Q := TakOk Try.prog) _ trivial, look_all (Q := InpOk Try.prog) _ trivial, look_all (Q := InlOk Try.prog) _ trivial, mixed_ok⟩
abbrev cmp_Compare_string_sh : List Sh := [.pl (.int .i64)]
noncomputable def cmp_Compare_string_r (a0 : List Int) (a1 : List Int) : Option (shDen cmp_Compare_string_sh) :=
 (bindO (cmp_isNaN_string_r a0) fun (b1 : Bool) => (bindO (cmp_isNaN_string_r a1) fun (b2 : Bool) => (cond b1
 (cond b2
 (some (0 : Int))
 (some (-1 : Int)))
 (cond b2
 (some (1 : Int))
 (cond (ltI a0 a1)
 (some (-1 : Int))
 (cond (!((ltI a0 a1) || (decide (a0 = a1))))
 (some (1 : Int))
 (some (0 : Int))))))))
theorem cmp_Compare_string_start (k : Nat) (a0 : List Int) (a1 : List Int) : fnK (cmp_Compare_string_cx k) 8 144 cmp_Compare_string_i cmp_Compare_string_sh [.pv .str a0, .pv .str a1] =
 ((bindO (cmp_isNaN_string_r a0) fun (b1 : Bool) => (bindO (cmp_isNaN_string_r a1) fun (b2 : Bool) => (cond b1
 (cond b2
 (some (0 : Int))
 (some (-1 : Int)))
 (cond b2
 (some (1 : Int))
 (cond (ltI a0 a1)
 (some (-1 : Int))
 (cond (!((ltI a0 a1) || (decide (a0 = a1))))
 (some (1 : Int))
 (some (0 : Int)))))))) : Option (shDen cmp_Compare_string_sh)) := by kernel_rfl

theorem cmp_Compare_string_run (a0 : List Int) (a1 : List Int) : fnK (cmp_Compare_string_cx FUEL) 8 144 cmp_Compare_string_i cmp_Compare_string_sh [.pv .str a0, .pv .str a1] = cmp_Compare_string_r a0 a1 :=
 (cmp_Compare_string_start FUEL a0 a1).trans (rfl)

noncomputable def cmp_Compare_string_con : Con := { ps := (.pair .str (.pair .str .unit)), sh := cmp_Compare_string_sh, raw := fun x => cmp_Compare_string_r x.1 x.2.1 }
theorem cmp_Compare_string_conOk : ConOk Try.prog 144 cmp_Compare_string_con := con_of_fn (cmp_Compare_string_tabs FUEL) (depth := 8) cmp_Compare_string_ok fun x y h => (cmp_Compare_string_run x.1 x.2.1).trans h

noncomputable def impl_find_1_inls : List (Nat × Inl) := []
noncomputable def impl_find_1_cons : List (Nat × Con) := [(144, cmp_Compare_string_con)]
noncomputable def impl_find_1_taks : List (Nat × ConT) := []
noncomputable def impl_find_1_inps : List (Nat × ConI) := []
noncomputable def impl_find_1_cuts : List (Nat × List (Nat × Cut)) := []
noncomputable def impl_find_1_cx (k : Nat) : Cx := mkCx tys tbytes telem nozero (Ai.look impl_find_1_inls) (Ai.look impl_find_1_cons) (Ai.look impl_find_1_taks) (Ai.look impl_find_1_inps) (fun f id => match Ai.look impl_find_1_cuts f with | some l => Ai.look l id | none => none) k []
theorem impl_find_1_tabs (k : Nat) : TabsOk Try.prog (impl_find_1_cx k) := ⟨tab_mk tabs_ok _ _ _ _ _ _ _, look_all (Q := ConOk Try.prog) _ ⟨cmp_Compare_string_conOk, trivial⟩, look_all (Q := TakOk Try.prog) _ trivial, look_all (Q := InpOk Try.prog) _ trivial, look_all (Q := InlOk Try.prog) _ trivial, mixed_ok⟩
abbrev impl_find_1_sh : List Sh := [.pl (.int .i64)]
noncomputable def impl_find_1_r (a0 : (List Int × (List Int × Unit))) (a1 : List Int) : Option (shDen impl_find_1_sh) :=
 (bindO (cmp_Compare_string_r a0.1 a1) fun (b1 : Int) => (some b1))
theorem impl_find_1_start (k : Nat) (a0 : (List Int × (List Int × Unit))) (a1 : List Int) : fnK (impl_find_1_cx k) 8 143 impl_find_1_i impl_find_1_sh [.pv (.pair .str (.pair .str .unit)) a0, .pv .str a1] =
 ((bindO (cmp_Compare_string_r a0.1 a1) fun (b1 : Int) => (some b1)) : Option (shDen impl_find_1_sh)) := by kernel_rfl

theorem impl_find_1_run (a0 : (List Int × (List Int × Unit))) (a1 : List Int) : fnK (impl_find_1_cx FUEL) 8 143 impl_find_1_i impl_find_1_sh [.pv (.pair .str (.pair .str .unit)) a0, .pv .str a1] = impl_find_1_r a0 a1 :=
 (impl_find_1_start FUEL a0 a1).trans (rfl)

noncomputable def impl_find_1_con : Con := { ps := (.pair (.pair .str (.pair .str .unit)) (.pair .str .unit)), sh := impl_find_1_sh, raw := fun x => impl_find_1_r x.1 x.2.1 }
theorem impl_find_1_conOk : ConOk Try.prog 143 impl_find_1_con := con_of_fn (impl_find_1_tabs FUEL) (depth := 8) impl_find_1_ok fun x y h => (impl_find_1_run x.1 x.2.1).trans h

end Go.Ai.G
