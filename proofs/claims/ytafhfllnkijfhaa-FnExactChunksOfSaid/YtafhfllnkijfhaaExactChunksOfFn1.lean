/- Made by a program of this work out of the program: tables and plain functions, with the proof that each Go function does what its plain function says. No conditions. -/
import Derived.Test.YtafhfllnkijfhaaExactChunksOfFn0
namespace Go.Ai.G
open Go.Proofs
open Go.Ai
set_option linter.unusedVariables false
set_option linter.unusedSimpArgs false
set_option maxRecDepth 100000

noncomputable def laws_heldByteS_l0_cut : Cut := { keep := [0, 1, 5], stk := [], ids := [], own := [], outs := [(0, [4], []), (1, [1], [])] }
noncomputable def laws_heldByteS_inls : List (Nat × Inl) := []
noncomputable def laws_heldByteS_cons : List (Nat × Con) := []
noncomputable def laws_heldByteS_taks : List (Nat × ConT) := []
noncomputable def laws_heldByteS_inps : List (Nat × ConI) := []
noncomputable def laws_heldByteS_cuts : List (Nat × List (Nat × Cut)) := [(22, [(0, laws_heldByteS_l0_cut)])]
noncomputable def laws_heldByteS_cx (k : Nat) : Cx := mkCx tys tbytes telem nozero (Ai.look laws_heldByteS_inls) (Ai.look laws_heldByteS_cons) (Ai.look laws_heldByteS_taks) (Ai.look laws_heldByteS_inps) (fun f id => match Ai.look laws_heldByteS_cuts f with | some l => Ai.look l id | none => none) k []
theorem laws_heldByteS_tabs (k : Nat) : TabsOk Try.prog (laws_heldByteS_cx k) := ⟨tab_mk tabs_ok _ _ _ _ _ _ _, look_all (Q := ConOk Try.prog) _ trivial, look_all (Q := TakOk Try.prog) _ trivial, look_all (Q := InpOk Try.prog) _ trivial, look_all (Q := InlOk Try.prog) _ trivial, mixed_ok⟩
abbrev laws_heldByteS_sh : List Sh := [.pl (.int .i64)]
noncomputable def laws_heldByteS_l0_s (a0 : (List Int)) (x1 : Int) (x5 : Int) : St := { env := [.pv (.slice (.int .u8)) a0, .pv (.int .i64) x1, .dead, .dead, .dead, .pv (.int .i64) x5, .dead, .dead, .dead, .dead, .dead, .dead, .dead, .dead, .dead, .dead, .dead, .dead, .dead, .dead, .dead, .dead], stk := [], heap := [] }
noncomputable def laws_heldByteS_l0_o  : St := { env := [.dead, .dead, .dead, .dead, .pv (.int .i64) (-1 : Int), .dead, .dead, .dead, .dead, .dead, .dead, .dead, .dead, .dead, .dead, .dead, .dead, .dead, .dead, .dead, .dead, .dead], stk := [], heap := [] }
noncomputable def laws_heldByteS_l0_o0 (x1 : Int) : St := { env := [.dead, .pv (.int .i64) x1, .dead, .dead, .dead, .dead, .dead, .dead, .dead, .dead, .dead, .dead, .dead, .dead, .dead, .dead, .dead, .dead, .dead, .dead, .dead, .dead], stk := [], heap := [] }
noncomputable def laws_heldByteS_l0_b (rec : Int → Int → Option (shDen laws_heldByteS_sh)) (kr : Option (shDen laws_heldByteS_sh)) (ke0 : Int → Option (shDen laws_heldByteS_sh)) (a0 : (List Int)) (x1 : Int) (x5 : Int) : Option (shDen laws_heldByteS_sh) :=
 (cond (decide (x5 < (a0.length : Int)))
 (cond ((decide ((0 : Int) ≤ x5)) && (decide (x5 < (a0.length : Int))))
 (cond (!(decide ((a0.getD (x5.toNat) (0 : Int)) = (IntKind.wrap .u8 x1))))
 (kr)
 (rec (IntKind.wrap .i64 (x1 + (1 : Int))) (IntKind.wrap .i64 (x5 + (1 : Int)))))
 none)
 (ke0 x1))
noncomputable def laws_heldByteS_l0_L (kr : Option (shDen laws_heldByteS_sh)) (ke0 : Int → Option (shDen laws_heldByteS_sh)) (a0 : (List Int)) : Nat → Int → Int → Option (shDen laws_heldByteS_sh)
 | 0 => fun _ _ => none
 | n + 1 => laws_heldByteS_l0_b (laws_heldByteS_l0_L kr ke0 a0 n) kr ke0 a0
noncomputable def laws_heldByteS_r (a0 : (List Int)) (a1 : Int) : Option (shDen laws_heldByteS_sh) :=
 (laws_heldByteS_l0_L (some (-1 : Int)) (fun x1 => (some x1)) a0 FUEL a1 (0 : Int))
theorem laws_heldByteS_l0_round (k : Nat) (K : Ex → St → Option (shDen laws_heldByteS_sh)) (n : Nat) (a0 : (List Int)) (x1 : Int) (x5 : Int) : (loopK (laws_heldByteS_cx k) 0 (execK (laws_heldByteS_cx k) (callK (laws_heldByteS_cx k) 8) 0 22 (sub laws_heldByteS_c [1, 0, 1, 0, 0])) laws_heldByteS_l0_cut K (n + 1) (laws_heldByteS_l0_s a0 x1 x5) : Option (shDen laws_heldByteS_sh)) =
 ((cond (decide (x5 < (a0.length : Int)))
 (cond ((decide ((0 : Int) ≤ x5)) && (decide (x5 < (a0.length : Int))))
 (cond (!(decide ((a0.getD (x5.toNat) (0 : Int)) = (IntKind.wrap .u8 x1))))
 (K .ret (laws_heldByteS_l0_o ))
 (loopK (laws_heldByteS_cx k) 0 (execK (laws_heldByteS_cx k) (callK (laws_heldByteS_cx k) 8) 0 22 (sub laws_heldByteS_c [1, 0, 1, 0, 0])) laws_heldByteS_l0_cut K n (laws_heldByteS_l0_s a0 (IntKind.wrap .i64 (x1 + (1 : Int))) (IntKind.wrap .i64 (x5 + (1 : Int))))))
 none)
 (K (.exit 0) (laws_heldByteS_l0_o0 x1))) : Option (shDen laws_heldByteS_sh)) := by kernel_rfl

theorem laws_heldByteS_l0_ret (k : Nat)   : ((blkK 0 (seqK (execK (laws_heldByteS_cx k) (callK (laws_heldByteS_cx k) 8) 0 22 (sub laws_heldByteS_c [1, 1])) (finK (laws_heldByteS_cx k) laws_heldByteS_i laws_heldByteS_sh))) .ret (laws_heldByteS_l0_o) : Option (shDen laws_heldByteS_sh)) =
 ((some (-1 : Int)) : Option (shDen laws_heldByteS_sh)) := by kernel_rfl

theorem laws_heldByteS_l0_exit0 (k : Nat)  (x1 : Int) : ((blkK 0 (seqK (execK (laws_heldByteS_cx k) (callK (laws_heldByteS_cx k) 8) 0 22 (sub laws_heldByteS_c [1, 1])) (finK (laws_heldByteS_cx k) laws_heldByteS_i laws_heldByteS_sh))) (.exit 0) (laws_heldByteS_l0_o0 x1) : Option (shDen laws_heldByteS_sh)) =
 ((some x1) : Option (shDen laws_heldByteS_sh)) := by kernel_rfl

theorem laws_heldByteS_l0_congr (kr : Option (shDen laws_heldByteS_sh)) (ke0 : Int → Option (shDen laws_heldByteS_sh)) (kr' : Option (shDen laws_heldByteS_sh)) (ke0' : Int → Option (shDen laws_heldByteS_sh)) (a0 : (List Int)) (n : Nat) (x1 : Int) (x5 : Int) (hkr : ∀ (_ : Unit), kr  = kr' ) (hke0 : ∀ x1, ke0 x1 = ke0' x1) : laws_heldByteS_l0_L kr ke0 a0 n x1 x5 = laws_heldByteS_l0_L kr' ke0' a0 n x1 x5 := by
 have : kr = kr' := hkr (); subst this; have : ke0 = ke0' := (by funext x1; exact hke0 x1); subst this; rfl

theorem laws_heldByteS_l0_L_eq (K : Ex → St → Option (shDen laws_heldByteS_sh)) (a0 : (List Int)) : ∀ (n : Nat) (x1 : Int) (x5 : Int), (loopK (laws_heldByteS_cx FUEL) 0 (execK (laws_heldByteS_cx FUEL) (callK (laws_heldByteS_cx FUEL) 8) 0 22 (sub laws_heldByteS_c [1, 0, 1, 0, 0])) laws_heldByteS_l0_cut K n (laws_heldByteS_l0_s a0 x1 x5) : Option (shDen laws_heldByteS_sh)) = laws_heldByteS_l0_L (K .ret (laws_heldByteS_l0_o)) (fun x1 => K (.exit 0) (laws_heldByteS_l0_o0 x1)) a0 n x1 x5 := by
 intro n
 induction n with
 | zero => intros; rfl
 | succ n ih =>
  intro x1 x5
  exact (laws_heldByteS_l0_round FUEL K n a0 x1 x5).trans (condC (condC (condC (rfl) (ih (IntKind.wrap .i64 (x1 + (1 : Int))) (IntKind.wrap .i64 (x5 + (1 : Int))))) (rfl)) (rfl))

theorem laws_heldByteS_start (k : Nat) (a0 : (List Int)) (a1 : Int) : fnK (laws_heldByteS_cx k) 8 22 laws_heldByteS_i laws_heldByteS_sh [.pv (.slice (.int .u8)) a0, .pv (.int .i64) a1] =
 ((loopK (laws_heldByteS_cx k) 0 (execK (laws_heldByteS_cx k) (callK (laws_heldByteS_cx k) 8) 0 22 (sub laws_heldByteS_c [1, 0, 1, 0, 0])) laws_heldByteS_l0_cut (blkK 0 (seqK (execK (laws_heldByteS_cx k) (callK (laws_heldByteS_cx k) 8) 0 22 (sub laws_heldByteS_c [1, 1])) (finK (laws_heldByteS_cx k) laws_heldByteS_i laws_heldByteS_sh))) k (laws_heldByteS_l0_s a0 a1 (0 : Int))) : Option (shDen laws_heldByteS_sh)) := by kernel_rfl

theorem laws_heldByteS_run (a0 : (List Int)) (a1 : Int) : fnK (laws_heldByteS_cx FUEL) 8 22 laws_heldByteS_i laws_heldByteS_sh [.pv (.slice (.int .u8)) a0, .pv (.int .i64) a1] = laws_heldByteS_r a0 a1 :=
 (laws_heldByteS_start FUEL a0 a1).trans ((laws_heldByteS_l0_L_eq _ a0 FUEL a1 (0 : Int)).trans (laws_heldByteS_l0_congr _ _ _ _ a0 FUEL a1 (0 : Int) (fun _ => (laws_heldByteS_l0_ret FUEL  ).trans (rfl)) (fun x1 => (laws_heldByteS_l0_exit0 FUEL  x1).trans (rfl))))

noncomputable def laws_heldByteS_con : Con := { ps := (.pair (.slice (.int .u8)) (.pair (.int .i64) .unit)), sh := laws_heldByteS_sh, raw := fun x => laws_heldByteS_r x.1 x.2.1 }
theorem laws_heldByteS_conOk : ConOk Try.prog 22 laws_heldByteS_con := con_of_fn (laws_heldByteS_tabs FUEL) (depth := 8) laws_heldByteS_ok fun x y h => (laws_heldByteS_run x.1 x.2.1).trans h

noncomputable def laws_heldByteSS_l0_cut : Cut := { keep := [0, 1, 5], stk := [], ids := [], own := [], outs := [(0, [4], []), (1, [1], [])] }
noncomputable def laws_heldByteSS_inls : List (Nat × Inl) := []
noncomputable def laws_heldByteSS_cons : List (Nat × Con) := [(22, laws_heldByteS_con)]
noncomputable def laws_heldByteSS_taks : List (Nat × ConT) := []
noncomputable def laws_heldByteSS_inps : List (Nat × ConI) := []
noncomputable def laws_heldByteSS_cuts : List (Nat × List (Nat × Cut)) := [(27, [(0, laws_heldByteSS_l0_cut)])]
noncomputable def laws_heldByteSS_cx (k : Nat) : Cx := mkCx tys tbytes telem nozero (Ai.look laws_heldByteSS_inls) (Ai.look laws_heldByteSS_cons) (Ai.look laws_heldByteSS_taks) (Ai.look laws_heldByteSS_inps) (fun f id => match Ai.look laws_heldByteSS_cuts f with | some l => Ai.look l id | none => none) k []
theorem laws_heldByteSS_tabs (k : Nat) : TabsOk Try.prog (laws_heldByteSS_cx k) := ⟨tab_mk tabs_ok _ _ _ _ _ _ _, look_all (Q := ConOk Try.prog) _ ⟨laws_heldByteS_conOk, trivial⟩, look_all (Q := TakOk Try.prog) _ trivial, look_all (Q := InpOk Try.prog) _ trivial, look_all (Q := InlOk Try.prog) _ trivial, mixed_ok⟩
abbrev laws_heldByteSS_sh : List Sh := [.pl (.int .i64)]
noncomputable def laws_heldByteSS_l0_s (a0 : (List (List Int))) (x1 : Int) (x5 : Int) : St := { env := [.pv (.slice (.slice (.int .u8))) a0, .pv (.int .i64) x1, .dead, .dead, .dead, .pv (.int .i64) x5, .dead, .dead, .dead, .dead, .dead, .dead, .dead, .dead, .dead, .dead, .dead, .dead, .dead, .dead, .dead], stk := [], heap := [] }
noncomputable def laws_heldByteSS_l0_o  : St := { env := [.dead, .dead, .dead, .dead, .pv (.int .i64) (-1 : Int), .dead, .dead, .dead, .dead, .dead, .dead, .dead, .dead, .dead, .dead, .dead, .dead, .dead, .dead, .dead, .dead], stk := [], heap := [] }
noncomputable def laws_heldByteSS_l0_o0 (x1 : Int) : St := { env := [.dead, .pv (.int .i64) x1, .dead, .dead, .dead, .dead, .dead, .dead, .dead, .dead, .dead, .dead, .dead, .dead, .dead, .dead, .dead, .dead, .dead, .dead, .dead], stk := [], heap := [] }
noncomputable def laws_heldByteSS_l0_b (rec : Int → Int → Option (shDen laws_heldByteSS_sh)) (kr : Option (shDen laws_heldByteSS_sh)) (ke0 : Int → Option (shDen laws_heldByteSS_sh)) (a0 : (List (List Int))) (x1 : Int) (x5 : Int) : Option (shDen laws_heldByteSS_sh) :=
 (cond (decide (x5 < (a0.length : Int)))
 (cond ((decide ((0 : Int) ≤ x5)) && (decide (x5 < (a0.length : Int))))
 (bindO (laws_heldByteS_r (a0.getD (x5.toNat) []) x1) fun (b2 : Int) => (cond (decide (b2 < (0 : Int)))
 (kr)
 (rec b2 (IntKind.wrap .i64 (x5 + (1 : Int))))))
 none)
 (ke0 x1))
noncomputable def laws_heldByteSS_l0_L (kr : Option (shDen laws_heldByteSS_sh)) (ke0 : Int → Option (shDen laws_heldByteSS_sh)) (a0 : (List (List Int))) : Nat → Int → Int → Option (shDen laws_heldByteSS_sh)
 | 0 => fun _ _ => none
 | n + 1 => laws_heldByteSS_l0_b (laws_heldByteSS_l0_L kr ke0 a0 n) kr ke0 a0
noncomputable def laws_heldByteSS_r (a0 : (List (List Int))) (a1 : Int) : Option (shDen laws_heldByteSS_sh) :=
 (laws_heldByteSS_l0_L (some (-1 : Int)) (fun x1 => (some x1)) a0 FUEL a1 (0 : Int))
theorem laws_heldByteSS_l0_round (k : Nat) (K : Ex → St → Option (shDen laws_heldByteSS_sh)) (n : Nat) (a0 : (List (List Int))) (x1 : Int) (x5 : Int) : (loopK (laws_heldByteSS_cx k) 0 (execK (laws_heldByteSS_cx k) (callK (laws_heldByteSS_cx k) 8) 0 27 (sub laws_heldByteSS_c [1, 0, 1, 0, 0])) laws_heldByteSS_l0_cut K (n + 1) (laws_heldByteSS_l0_s a0 x1 x5) : Option (shDen laws_heldByteSS_sh)) =
 ((cond (decide (x5 < (a0.length : Int)))
 (cond ((decide ((0 : Int) ≤ x5)) && (decide (x5 < (a0.length : Int))))
 (bindO (laws_heldByteS_r (a0.getD (x5.toNat) []) x1) fun (b2 : Int) => (cond (decide (b2 < (0 : Int)))
 (K .ret (laws_heldByteSS_l0_o ))
 (loopK (laws_heldByteSS_cx k) 0 (execK (laws_heldByteSS_cx k) (callK (laws_heldByteSS_cx k) 8) 0 27 (sub laws_heldByteSS_c [1, 0, 1, 0, 0])) laws_heldByteSS_l0_cut K n (laws_heldByteSS_l0_s a0 b2 (IntKind.wrap .i64 (x5 + (1 : Int)))))))
 none)
 (K (.exit 0) (laws_heldByteSS_l0_o0 x1))) : Option (shDen laws_heldByteSS_sh)) := by kernel_rfl

theorem laws_heldByteSS_l0_ret (k : Nat)   : ((blkK 0 (seqK (execK (laws_heldByteSS_cx k) (callK (laws_heldByteSS_cx k) 8) 0 27 (sub laws_heldByteSS_c [1, 1])) (finK (laws_heldByteSS_cx k) laws_heldByteSS_i laws_heldByteSS_sh))) .ret (laws_heldByteSS_l0_o) : Option (shDen laws_heldByteSS_sh)) =
 ((some (-1 : Int)) : Option (shDen laws_heldByteSS_sh)) := by kernel_rfl

theorem laws_heldByteSS_l0_exit0 (k : Nat)  (x1 : Int) : ((blkK 0 (seqK (execK (laws_heldByteSS_cx k) (callK (laws_heldByteSS_cx k) 8) 0 27 (sub laws_heldByteSS_c [1, 1])) (finK (laws_heldByteSS_cx k) laws_heldByteSS_i laws_heldByteSS_sh))) (.exit 0) (laws_heldByteSS_l0_o0 x1) : Option (shDen laws_heldByteSS_sh)) =
 ((some x1) : Option (shDen laws_heldByteSS_sh)) := by kernel_rfl

theorem laws_heldByteSS_l0_congr (kr : Option (shDen laws_heldByteSS_sh)) (ke0 : Int → Option (shDen laws_heldByteSS_sh)) (kr' : Option (shDen laws_heldByteSS_sh)) (ke0' : Int → Option (shDen laws_heldByteSS_sh)) (a0 : (List (List Int))) (n : Nat) (x1 : Int) (x5 : Int) (hkr : ∀ (_ : Unit), kr  = kr' ) (hke0 : ∀ x1, ke0 x1 = ke0' x1) : laws_heldByteSS_l0_L kr ke0 a0 n x1 x5 = laws_heldByteSS_l0_L kr' ke0' a0 n x1 x5 := by
 have : kr = kr' := hkr (); subst this; have : ke0 = ke0' := (by funext x1; exact hke0 x1); subst this; rfl

theorem laws_heldByteSS_l0_L_eq (K : Ex → St → Option (shDen laws_heldByteSS_sh)) (a0 : (List (List Int))) : ∀ (n : Nat) (x1 : Int) (x5 : Int), (loopK (laws_heldByteSS_cx FUEL) 0 (execK (laws_heldByteSS_cx FUEL) (callK (laws_heldByteSS_cx FUEL) 8) 0 27 (sub laws_heldByteSS_c [1, 0, 1, 0, 0])) laws_heldByteSS_l0_cut K n (laws_heldByteSS_l0_s a0 x1 x5) : Option (shDen laws_heldByteSS_sh)) = laws_heldByteSS_l0_L (K .ret (laws_heldByteSS_l0_o)) (fun x1 => K (.exit 0) (laws_heldByteSS_l0_o0 x1)) a0 n x1 x5 := by
 intro n
 induction n with
 | zero => intros; rfl
 | succ n ih =>
  intro x1 x5
  exact (laws_heldByteSS_l0_round FUEL K n a0 x1 x5).trans (condC (condC (bindC (fun b2 => condC (rfl) (ih b2 (IntKind.wrap .i64 (x5 + (1 : Int)))))) (rfl)) (rfl))

theorem laws_heldByteSS_start (k : Nat) (a0 : (List (List Int))) (a1 : Int) : fnK (laws_heldByteSS_cx k) 8 27 laws_heldByteSS_i laws_heldByteSS_sh [.pv (.slice (.slice (.int .u8))) a0, .pv (.int .i64) a1] =
 ((loopK (laws_heldByteSS_cx k) 0 (execK (laws_heldByteSS_cx k) (callK (laws_heldByteSS_cx k) 8) 0 27 (sub laws_heldByteSS_c [1, 0, 1, 0, 0])) laws_heldByteSS_l0_cut (blkK 0 (seqK (execK (laws_heldByteSS_cx k) (callK (laws_heldByteSS_cx k) 8) 0 27 (sub laws_heldByteSS_c [1, 1])) (finK (laws_heldByteSS_cx k) laws_heldByteSS_i laws_heldByteSS_sh))) k (laws_heldByteSS_l0_s a0 a1 (0 : Int))) : Option (shDen laws_heldByteSS_sh)) := by kernel_rfl

theorem laws_heldByteSS_run (a0 : (List (List Int))) (a1 : Int) : fnK (laws_heldByteSS_cx FUEL) 8 27 laws_heldByteSS_i laws_heldByteSS_sh [.pv (.slice (.slice (.int .u8))) a0, .pv (.int .i64) a1] = laws_heldByteSS_r a0 a1 :=
 (laws_heldByteSS_start FUEL a0 a1).trans ((laws_heldByteSS_l0_L_eq _ a0 FUEL a1 (0 : Int)).trans (laws_heldByteSS_l0_congr _ _ _ _ a0 FUEL a1 (0 : Int) (fun _ => (laws_heldByteSS_l0_ret FUEL  ).trans (rfl)) (fun x1 => (laws_heldByteSS_l0_exit0 FUEL  x1).trans (rfl))))

noncomputable def laws_heldByteSS_con : Con := { ps := (.pair (.slice (.slice (.int .u8))) (.pair (.int .i64) .unit)), sh := laws_heldByteSS_sh, raw := fun x => laws_heldByteSS_r x.1 x.2.1 }
theorem laws_heldByteSS_conOk : ConOk Try.prog 27 laws_heldByteSS_con := con_of_fn (laws_heldByteSS_tabs FUEL) (depth := 8) laws_heldByteSS_ok fun x y h => (laws_heldByteSS_run x.1 x.2.1).trans h

noncomputable def laws_FnExactChunksOf_d_inls : List (Nat × Inl) := []
noncomputable def laws_FnExactChunksOf_d_cons : List (Nat × Con) := [(9, laws_toCutRule_con), (10, laws_toByteS_con), (12, laws_eqByteS_con), (23, spec_ChunksOf_d_con), (24, impl_ChunksOf_d_con), (25, laws_eqByteSS_con), (27, laws_heldByteSS_con)]
noncomputable def laws_FnExactChunksOf_d_taks : List (Nat × ConT) := []
noncomputable def laws_FnExactChunksOf_d_inps : List (Nat × ConI) := [(21, laws_markByteS_inp), (26, laws_markByteSS_d_inp)]
noncomputable def laws_FnExactChunksOf_d_cuts : List (Nat × List (Nat × Cut)) := []
noncomputable def laws_FnExactChunksOf_d_cx (k : Nat) : Cx := mkCx tys tbytes telem nozero (Ai.look laws_FnExactChunksOf_d_inls) (Ai.look laws_FnExactChunksOf_d_cons) (Ai.look laws_FnExactChunksOf_d_taks) (Ai.look laws_FnExactChunksOf_d_inps) (fun f id => match Ai.look laws_FnExactChunksOf_d_cuts f with | some l => Ai.look l id | none => none) k dps
theorem laws_FnExactChunksOf_d_tabs (k : Nat) : TabsOk Try.prog (laws_FnExactChunksOf_d_cx k) := ⟨tab_mk tabs_ok _ _ _ _ _ _ _, look_all (Q := ConOk Try.prog) _ ⟨laws_toCutRule_conOk, laws_toByteS_conOk, laws_eqByteS_conOk, spec_ChunksOf_d_conOk, impl_ChunksOf_d_conOk, laws_eqByteSS_conOk, laws_heldByteSS_conOk, trivial⟩, look_all (Q := TakOk Try.prog) _ trivial, look_all (Q := InpOk Try.prog) _ ⟨laws_markByteS_inpOk, laws_markByteSS_d_inpOk, trivial⟩, look_all (Q := InlOk Try.prog) _ trivial, mixed_ok⟩
abbrev laws_FnExactChunksOf_d_sh : List Sh := [.pl .bool]
noncomputable def laws_FnExactChunksOf_d_r (a0 : (Int × (Int × (Int × Unit)))) (a1 : (List Int)) : Option (shDen laws_FnExactChunksOf_d_sh) :=
 (cond (decide ((1048576 : Int) < (a1.length : Int)))
 (some true)
 (bindO (laws_toCutRule_r a0) fun (b1 : (Int × (Int × (Int × Unit)))) => (bindO (laws_toByteS_r a1) fun (b2 : (List Int)) => (bindO (spec_ChunksOf_d_r b1 b2) fun (b3 : ((List (List Int)) × Int)) => (bindO (laws_toByteS_r a1) fun (b4 : (List Int)) => (bindO (laws_toCutRule_r a0) fun (b5 : (Int × (Int × (Int × Unit)))) => (bindO (impl_ChunksOf_d_r b5 b4) fun (b6 : ((List (List Int)) × Int)) => (bindO (laws_eqByteSS_r b6.1 b3.1) fun (b7 : Bool) => (cond (!b7)
 (some false)
 (cond (!(decide (b6.2 = b3.2)))
 (some false)
 (bindO (laws_toByteS_r a1) fun (b8 : (List Int)) => (bindO (laws_eqByteS_r b4 b8) fun (b9 : Bool) => (cond (!b9)
 (some false)
 (bindO (laws_markByteS_r b4 (1 : Int)) fun (b10 : ((List Int) × Int)) => (cond (decide (b10.2 < (0 : Int)))
 (some false)
 (bindO (laws_eqByteSS_r b6.1 b3.1) fun (b11 : Bool) => (cond (!b11)
 (some false)
 (cond (!(decide (b6.2 = b3.2)))
 (some false)
 (bindO (laws_markByteSS_d_r b6.1 (1 : Int)) fun (b12 : ((List (List Int)) × Int)) => (bindO (laws_heldByteSS_r b12.1 (1 : Int)) fun (b13 : Int) => (cond (decide (b13 < (0 : Int)))
 (some false)
 (cond (!(decide (b13 = b12.2)))
 (some false)
 (bindO (laws_toCutRule_r a0) fun (b14 : (Int × (Int × (Int × Unit)))) => (bindO (laws_toByteS_r a1) fun (b15 : (List Int)) => (bindO (impl_ChunksOf_d_r b14 b15) fun (b16 : ((List (List Int)) × Int)) => (bindO (laws_eqByteSS_r b16.1 b3.1) fun (b17 : Bool) => (cond (!b17)
 (some false)
 (cond (!(decide (b16.2 = b3.2)))
 (some false)
 (bindO (laws_heldByteSS_r b12.1 (1 : Int)) fun (b18 : Int) => (cond (decide (b18 < (0 : Int)))
 (some false)
 (cond (!(decide (b18 = b12.2)))
 (some false)
 (some true))))))))))))))))))))))))))))))))
theorem laws_FnExactChunksOf_d_start (k : Nat) (a0 : (Int × (Int × (Int × Unit)))) (a1 : (List Int)) : fnK (laws_FnExactChunksOf_d_cx k) 8 6 laws_FnExactChunksOf_i laws_FnExactChunksOf_d_sh [.pv (.pair (.int .i64) (.pair (.int .i64) (.pair (.int .i64) .unit))) a0, .pv (.slice (.int .u8)) a1] =
 ((cond (decide ((1048576 : Int) < (a1.length : Int)))
 (some true)
 (bindO (laws_toCutRule_r a0) fun (b1 : (Int × (Int × (Int × Unit)))) => (bindO (laws_toByteS_r a1) fun (b2 : (List Int)) => (bindO (spec_ChunksOf_d_r b1 b2) fun (b3 : ((List (List Int)) × Int)) => (bindO (laws_toByteS_r a1) fun (b4 : (List Int)) => (bindO (laws_toCutRule_r a0) fun (b5 : (Int × (Int × (Int × Unit)))) => (bindO (impl_ChunksOf_d_r b5 b4) fun (b6 : ((List (List Int)) × Int)) => (bindO (laws_eqByteSS_r b6.1 b3.1) fun (b7 : Bool) => (cond (!b7)
 (some false)
 (cond (!(decide (b6.2 = b3.2)))
 (some false)
 (bindO (laws_toByteS_r a1) fun (b8 : (List Int)) => (bindO (laws_eqByteS_r b4 b8) fun (b9 : Bool) => (cond (!b9)
 (some false)
 (bindO (laws_markByteS_r b4 (1 : Int)) fun (b10 : ((List Int) × Int)) => (cond (decide (b10.2 < (0 : Int)))
 (some false)
 (bindO (laws_eqByteSS_r b6.1 b3.1) fun (b11 : Bool) => (cond (!b11)
 (some false)
 (cond (!(decide (b6.2 = b3.2)))
 (some false)
 (bindO (laws_markByteSS_d_r b6.1 (1 : Int)) fun (b12 : ((List (List Int)) × Int)) => (bindO (laws_heldByteSS_r b12.1 (1 : Int)) fun (b13 : Int) => (cond (decide (b13 < (0 : Int)))
 (some false)
 (cond (!(decide (b13 = b12.2)))
 (some false)
 (bindO (laws_toCutRule_r a0) fun (b14 : (Int × (Int × (Int × Unit)))) => (bindO (laws_toByteS_r a1) fun (b15 : (List Int)) => (bindO (impl_ChunksOf_d_r b14 b15) fun (b16 : ((List (List Int)) × Int)) => (bindO (laws_eqByteSS_r b16.1 b3.1) fun (b17 : Bool) => (cond (!b17)
 (some false)
 (cond (!(decide (b16.2 = b3.2)))
 (some false)
 (bindO (laws_heldByteSS_r b12.1 (1 : Int)) fun (b18 : Int) => (cond (decide (b18 < (0 : Int)))
 (some false)
 (cond (!(decide (b18 = b12.2)))
 (some false)
 (some true)))))))))))))))))))))))))))))))) : Option (shDen laws_FnExactChunksOf_d_sh)) := by kernel_rfl

theorem laws_FnExactChunksOf_d_run (a0 : (Int × (Int × (Int × Unit)))) (a1 : (List Int)) : fnK (laws_FnExactChunksOf_d_cx FUEL) 8 6 laws_FnExactChunksOf_i laws_FnExactChunksOf_d_sh [.pv (.pair (.int .i64) (.pair (.int .i64) (.pair (.int .i64) .unit))) a0, .pv (.slice (.int .u8)) a1] = laws_FnExactChunksOf_d_r a0 a1 :=
 (laws_FnExactChunksOf_d_start FUEL a0 a1).trans (rfl)

noncomputable def laws_FnExactChunksOf_d_con : Con := { ps := (.pair (.pair (.int .i64) (.pair (.int .i64) (.pair (.int .i64) .unit))) (.pair (.slice (.int .u8)) .unit)), sh := laws_FnExactChunksOf_d_sh, raw := fun x => laws_FnExactChunksOf_d_r x.1 x.2.1 }
theorem laws_FnExactChunksOf_d_conOk : ConOk Try.prog 6 laws_FnExactChunksOf_d_con := con_of_fn (laws_FnExactChunksOf_d_tabs FUEL) (depth := 8) laws_FnExactChunksOf_ok fun x y h => (laws_FnExactChunksOf_d_run x.1 x.2.1).trans h

end Go.Ai.G
