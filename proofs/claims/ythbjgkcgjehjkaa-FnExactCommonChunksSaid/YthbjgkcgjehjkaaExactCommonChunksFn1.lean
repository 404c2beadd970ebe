/- Made by a program of this work out of the program: tables and plain functions, with the proof that each Go function does what its plain function says. No conditions. -/
import Derived.Test.YthbjgkcgjehjkaaExactCommonChunksFn0
namespace Go.Ai.G
open Go.Proofs
open Go.Ai
set_option linter.unusedVariables false
set_option linter.unusedSimpArgs false
set_option maxRecDepth 100000

noncomputable def laws_eqByteS_l0_cut : Cut := { keep := [0, 1, 5], stk := [], ids := [], own := [], outs := [(0, [4], []), (1, [], [])] }
noncomputable def laws_eqByteS_inls : List (Nat × Inl) := []
noncomputable def laws_eqByteS_cons : List (Nat × Con) := []
noncomputable def laws_eqByteS_cuts : List (Nat × List (Nat × Cut)) := [(17, [(0, laws_eqByteS_l0_cut)])]
noncomputable def laws_eqByteS_cx (k : Nat) : Cx := mkCx tys tbytes telem nozero (Ai.look laws_eqByteS_inls) (Ai.look laws_eqByteS_cons) (fun f id => match Ai.look laws_eqByteS_cuts f with | some l => Ai.look l id | none => none) k
theorem laws_eqByteS_tabs (k : Nat) : TabsOk Try.prog (laws_eqByteS_cx k) := ⟨tab_mk tabs_ok _ _ _ _, look_all (Q := ConOk Try.prog) _ trivial, look_all (Q := InlOk Try.prog) _ trivial, mixed_ok⟩
abbrev laws_eqByteS_sh : List Sh := [.pl .bool]
noncomputable def laws_eqByteS_l0_s (a0 : (List Int)) (a1 : (List Int)) (x5 : Int) : St := { env := [.pv (.slice (.int .u8)) a0, .pv (.slice (.int .u8)) a1, .dead, .dead, .dead, .pv (.int .i64) x5, .dead, .dead, .dead, .dead, .dead, .dead, .dead, .dead, .dead, .dead, .dead, .dead, .dead, .dead, .dead, .dead, .dead, .dead, .dead, .dead], stk := [], heap := [] }
noncomputable def laws_eqByteS_l0_o  : St := { env := [.dead, .dead, .dead, .dead, .pv .bool false, .dead, .dead, .dead, .dead, .dead, .dead, .dead, .dead, .dead, .dead, .dead, .dead, .dead, .dead, .dead, .dead, .dead, .dead, .dead, .dead, .dead], stk := [], heap := [] }
noncomputable def laws_eqByteS_l0_o0  : St := { env := [.dead, .dead, .dead, .dead, .dead, .dead, .dead, .dead, .dead, .dead, .dead, .dead, .dead, .dead, .dead, .dead, .dead, .dead, .dead, .dead, .dead, .dead, .dead, .dead, .dead, .dead], stk := [], heap := [] }
noncomputable def laws_eqByteS_l0_b (rec : Int → Option (shDen laws_eqByteS_sh)) (kr : Option (shDen laws_eqByteS_sh)) (ke0 : Option (shDen laws_eqByteS_sh)) (a0 : (List Int)) (a1 : (List Int)) (x5 : Int) : Option (shDen laws_eqByteS_sh) :=
 (cond (decide (x5 < (a0.length : Int)))
 (cond ((decide ((0 : Int) ≤ x5)) && (decide (x5 < (a0.length : Int))))
 (cond ((decide ((0 : Int) ≤ x5)) && (decide (x5 < (a1.length : Int))))
 (cond (!(decide ((a0.getD (x5.toNat) (0 : Int)) = (a1.getD (x5.toNat) (0 : Int)))))
 (kr)
 (rec (IntKind.wrap .i64 (x5 + (1 : Int)))))
 none)
 none)
 (ke0))
noncomputable def laws_eqByteS_l0_L (kr : Option (shDen laws_eqByteS_sh)) (ke0 : Option (shDen laws_eqByteS_sh)) (a0 : (List Int)) (a1 : (List Int)) : Nat → Int → Option (shDen laws_eqByteS_sh)
 | 0 => fun _ => none
 | n + 1 => laws_eqByteS_l0_b (laws_eqByteS_l0_L kr ke0 a0 a1 n) kr ke0 a0 a1
noncomputable def laws_eqByteS_r (a0 : (List Int)) (a1 : (List Int)) : Option (shDen laws_eqByteS_sh) :=
 (cond (!(decide ((a0.length : Int) = (a1.length : Int))))
 (some false)
 (laws_eqByteS_l0_L (some false) (some true) a0 a1 FUEL (0 : Int)))
theorem laws_eqByteS_l0_round (k : Nat) (K : Ex → St → Option (shDen laws_eqByteS_sh)) (n : Nat) (a0 : (List Int)) (a1 : (List Int)) (x5 : Int) : (loopK (laws_eqByteS_cx k) 0 (execK (laws_eqByteS_cx k) (callK (laws_eqByteS_cx k) 8) 0 17 (sub laws_eqByteS_c [1, 1, 0, 1, 0, 0])) laws_eqByteS_l0_cut K (n + 1) (laws_eqByteS_l0_s a0 a1 x5) : Option (shDen laws_eqByteS_sh)) =
 ((cond (decide (x5 < (a0.length : Int)))
 (cond ((decide ((0 : Int) ≤ x5)) && (decide (x5 < (a0.length : Int))))
 (cond ((decide ((0 : Int) ≤ x5)) && (decide (x5 < (a1.length : Int))))
 (cond (!(decide ((a0.getD (x5.toNat) (0 : Int)) = (a1.getD (x5.toNat) (0 : Int)))))
 (K .ret (laws_eqByteS_l0_o ))
 (loopK (laws_eqByteS_cx k) 0 (execK (laws_eqByteS_cx k) (callK (laws_eqByteS_cx k) 8) 0 17 (sub laws_eqByteS_c [1, 1, 0, 1, 0, 0])) laws_eqByteS_l0_cut K n (laws_eqByteS_l0_s a0 a1 (IntKind.wrap .i64 (x5 + (1 : Int))))))
 none)
 none)
 (K (.exit 0) (laws_eqByteS_l0_o0 ))) : Option (shDen laws_eqByteS_sh)) := by kernel_rfl

theorem laws_eqByteS_l0_ret (k : Nat)   : ((blkK 0 (seqK (execK (laws_eqByteS_cx k) (callK (laws_eqByteS_cx k) 8) 0 17 (sub laws_eqByteS_c [1, 1, 1])) (finK (laws_eqByteS_cx k) laws_eqByteS_i laws_eqByteS_sh))) .ret (laws_eqByteS_l0_o) : Option (shDen laws_eqByteS_sh)) =
 ((some false) : Option (shDen laws_eqByteS_sh)) := by kernel_rfl

theorem laws_eqByteS_l0_exit0 (k : Nat)   : ((blkK 0 (seqK (execK (laws_eqByteS_cx k) (callK (laws_eqByteS_cx k) 8) 0 17 (sub laws_eqByteS_c [1, 1, 1])) (finK (laws_eqByteS_cx k) laws_eqByteS_i laws_eqByteS_sh))) (.exit 0) (laws_eqByteS_l0_o0) : Option (shDen laws_eqByteS_sh)) =
 ((some true) : Option (shDen laws_eqByteS_sh)) := by kernel_rfl

theorem laws_eqByteS_l0_congr (kr : Option (shDen laws_eqByteS_sh)) (ke0 : Option (shDen laws_eqByteS_sh)) (kr' : Option (shDen laws_eqByteS_sh)) (ke0' : Option (shDen laws_eqByteS_sh)) (a0 : (List Int)) (a1 : (List Int)) (n : Nat) (x5 : Int) (hkr : ∀ (_ : Unit), kr  = kr' ) (hke0 : ∀ (_ : Unit), ke0  = ke0' ) : laws_eqByteS_l0_L kr ke0 a0 a1 n x5 = laws_eqByteS_l0_L kr' ke0' a0 a1 n x5 := by
 have : kr = kr' := hkr (); subst this; have : ke0 = ke0' := hke0 (); subst this; rfl

theorem laws_eqByteS_l0_L_eq (K : Ex → St → Option (shDen laws_eqByteS_sh)) (a0 : (List Int)) (a1 : (List Int)) : ∀ (n : Nat) (x5 : Int), (loopK (laws_eqByteS_cx FUEL) 0 (execK (laws_eqByteS_cx FUEL) (callK (laws_eqByteS_cx FUEL) 8) 0 17 (sub laws_eqByteS_c [1, 1, 0, 1, 0, 0])) laws_eqByteS_l0_cut K n (laws_eqByteS_l0_s a0 a1 x5) : Option (shDen laws_eqByteS_sh)) = laws_eqByteS_l0_L (K .ret (laws_eqByteS_l0_o)) (K (.exit 0) (laws_eqByteS_l0_o0)) a0 a1 n x5 := by
 intro n
 induction n with
 | zero => intros; rfl
 | succ n ih =>
  intro x5
  exact (laws_eqByteS_l0_round FUEL K n a0 a1 x5).trans (condC (condC (condC (condC (rfl) (ih (IntKind.wrap .i64 (x5 + (1 : Int))))) (rfl)) (rfl)) (rfl))

theorem laws_eqByteS_start (k : Nat) (a0 : (List Int)) (a1 : (List Int)) : fnK (laws_eqByteS_cx k) 8 17 laws_eqByteS_i laws_eqByteS_sh [.pv (.slice (.int .u8)) a0, .pv (.slice (.int .u8)) a1] =
 ((cond (!(decide ((a0.length : Int) = (a1.length : Int))))
 (some false)
 (loopK (laws_eqByteS_cx k) 0 (execK (laws_eqByteS_cx k) (callK (laws_eqByteS_cx k) 8) 0 17 (sub laws_eqByteS_c [1, 1, 0, 1, 0, 0])) laws_eqByteS_l0_cut (blkK 0 (seqK (execK (laws_eqByteS_cx k) (callK (laws_eqByteS_cx k) 8) 0 17 (sub laws_eqByteS_c [1, 1, 1])) (finK (laws_eqByteS_cx k) laws_eqByteS_i laws_eqByteS_sh))) k (laws_eqByteS_l0_s a0 a1 (0 : Int)))) : Option (shDen laws_eqByteS_sh)) := by kernel_rfl

theorem laws_eqByteS_run (a0 : (List Int)) (a1 : (List Int)) : fnK (laws_eqByteS_cx FUEL) 8 17 laws_eqByteS_i laws_eqByteS_sh [.pv (.slice (.int .u8)) a0, .pv (.slice (.int .u8)) a1] = laws_eqByteS_r a0 a1 :=
 (laws_eqByteS_start FUEL a0 a1).trans (condC (rfl) ((laws_eqByteS_l0_L_eq _ a0 a1 FUEL (0 : Int)).trans (laws_eqByteS_l0_congr _ _ _ _ a0 a1 FUEL (0 : Int) (fun _ => (laws_eqByteS_l0_ret FUEL  ).trans (rfl)) (fun _ => (laws_eqByteS_l0_exit0 FUEL  ).trans (rfl)))))

noncomputable def laws_eqByteS_con : Con := { ps := (.pair (.slice (.int .u8)) (.pair (.slice (.int .u8)) .unit)), sh := laws_eqByteS_sh, raw := fun x => laws_eqByteS_r x.1 x.2.1 }
theorem laws_eqByteS_conOk : ConOk Try.prog 17 laws_eqByteS_con := con_of_fn (laws_eqByteS_tabs FUEL) (depth := 8) laws_eqByteS_ok fun x y h => (laws_eqByteS_run x.1 x.2.1).trans h

noncomputable def laws_FnExactCommonChunks_inls : List (Nat × Inl) := []
noncomputable def laws_FnExactCommonChunks_cons : List (Nat × Con) := [(13, spec_CommonChunks_con), (14, laws_toCutRule_con), (15, laws_toByteS_con), (16, impl_CommonChunks_con), (17, laws_eqByteS_con)]
noncomputable def laws_FnExactCommonChunks_cuts : List (Nat × List (Nat × Cut)) := []
noncomputable def laws_FnExactCommonChunks_cx (k : Nat) : Cx := mkCx tys tbytes telem nozero (Ai.look laws_FnExactCommonChunks_inls) (Ai.look laws_FnExactCommonChunks_cons) (fun f id => match Ai.look laws_FnExactCommonChunks_cuts f with | some l => Ai.look l id | none => none) k
theorem laws_FnExactCommonChunks_tabs (k : Nat) : TabsOk Try.prog (laws_FnExactCommonChunks_cx k) := ⟨tab_mk tabs_ok _ _ _ _, look_all (Q := ConOk Try.prog) _ ⟨spec_CommonChunks_conOk, laws_toCutRule_conOk, laws_toByteS_conOk, impl_CommonChunks_conOk, laws_eqByteS_conOk, trivial⟩, look_all (Q := InlOk Try.prog) _ trivial, mixed_ok⟩
abbrev laws_FnExactCommonChunks_sh : List Sh := [.pl .bool]
noncomputable def laws_FnExactCommonChunks_r (a0 : (Int × (Int × (Int × Unit)))) (a1 : (List Int)) (a2 : (List Int)) : Option (shDen laws_FnExactCommonChunks_sh) :=
 (cond (decide ((1048576 : Int) < (a1.length : Int)))
 (some true)
 (cond (decide ((1048576 : Int) < (a2.length : Int)))
 (some true)
 (bindO (laws_toCutRule_r a0) fun (b1 : (Int × (Int × (Int × Unit)))) => (bindO (laws_toByteS_r a1) fun (b2 : (List Int)) => (bindO (laws_toByteS_r a2) fun (b3 : (List Int)) => (bindO (spec_CommonChunks_r b1 b2 b3) fun (b4 : (Int × (Int × Int))) => (bindO (laws_toByteS_r a1) fun (b5 : (List Int)) => (bindO (laws_toByteS_r a2) fun (b6 : (List Int)) => (bindO (laws_toCutRule_r a0) fun (b7 : (Int × (Int × (Int × Unit)))) => (bindO (impl_CommonChunks_r b7 b5 b6) fun (b8 : (Int × (Int × Int))) => (cond (!(decide (b8.1 = b4.1)))
 (some false)
 (cond (!(decide (b8.2.1 = b4.2.1)))
 (some false)
 (cond (!(decide (b8.2.2 = b4.2.2)))
 (some false)
 (bindO (laws_toByteS_r a1) fun (b9 : (List Int)) => (bindO (laws_eqByteS_r b5 b9) fun (b10 : Bool) => (cond (!b10)
 (some false)
 (bindO (laws_toByteS_r a2) fun (b11 : (List Int)) => (bindO (laws_eqByteS_r b6 b11) fun (b12 : Bool) => (cond (!b12)
 (some false)
 (some true))))))))))))))))))))
theorem laws_FnExactCommonChunks_start (k : Nat) (a0 : (Int × (Int × (Int × Unit)))) (a1 : (List Int)) (a2 : (List Int)) : fnK (laws_FnExactCommonChunks_cx k) 8 3 laws_FnExactCommonChunks_i laws_FnExactCommonChunks_sh [.pv (.pair (.int .i64) (.pair (.int .i64) (.pair (.int .i64) .unit))) a0, .pv (.slice (.int .u8)) a1, .pv (.slice (.int .u8)) a2] =
 ((cond (decide ((1048576 : Int) < (a1.length : Int)))
 (some true)
 (cond (decide ((1048576 : Int) < (a2.length : Int)))
 (some true)
 (bindO (laws_toCutRule_r a0) fun (b1 : (Int × (Int × (Int × Unit)))) => (bindO (laws_toByteS_r a1) fun (b2 : (List Int)) => (bindO (laws_toByteS_r a2) fun (b3 : (List Int)) => (bindO (spec_CommonChunks_r b1 b2 b3) fun (b4 : (Int × (Int × Int))) => (bindO (laws_toByteS_r a1) fun (b5 : (List Int)) => (bindO (laws_toByteS_r a2) fun (b6 : (List Int)) => (bindO (laws_toCutRule_r a0) fun (b7 : (Int × (Int × (Int × Unit)))) => (bindO (impl_CommonChunks_r b7 b5 b6) fun (b8 : (Int × (Int × Int))) => (cond (!(decide (b8.1 = b4.1)))
 (some false)
 (cond (!(decide (b8.2.1 = b4.2.1)))
 (some false)
 (cond (!(decide (b8.2.2 = b4.2.2)))
 (some false)
 (bindO (laws_toByteS_r a1) fun (b9 : (List Int)) => (bindO (laws_eqByteS_r b5 b9) fun (b10 : Bool) => (cond (!b10)
 (some false)
 (bindO (laws_toByteS_r a2) fun (b11 : (List Int)) => (bindO (laws_eqByteS_r b6 b11) fun (b12 : Bool) => (cond (!b12)
 (some false)
 (some true)))))))))))))))))))) : Option (shDen laws_FnExactCommonChunks_sh)) := by kernel_rfl

theorem laws_FnExactCommonChunks_run (a0 : (Int × (Int × (Int × Unit)))) (a1 : (List Int)) (a2 : (List Int)) : fnK (laws_FnExactCommonChunks_cx FUEL) 8 3 laws_FnExactCommonChunks_i laws_FnExactCommonChunks_sh [.pv (.pair (.int .i64) (.pair (.int .i64) (.pair (.int .i64) .unit))) a0, .pv (.slice (.int .u8)) a1, .pv (.slice (.int .u8)) a2] = laws_FnExactCommonChunks_r a0 a1 a2 :=
 (laws_FnExactCommonChunks_start FUEL a0 a1 a2).trans (rfl)

noncomputable def laws_FnExactCommonChunks_con : Con := { ps := (.pair (.pair (.int .i64) (.pair (.int .i64) (.pair (.int .i64) .unit))) (.pair (.slice (.int .u8)) (.pair (.slice (.int .u8)) .unit))), sh := laws_FnExactCommonChunks_sh, raw := fun x => laws_FnExactCommonChunks_r x.1 x.2.1 x.2.2.1 }
theorem laws_FnExactCommonChunks_conOk : ConOk Try.prog 3 laws_FnExactCommonChunks_con := con_of_fn (laws_FnExactCommonChunks_tabs FUEL) (depth := 8) laws_FnExactCommonChunks_ok fun x y h => (laws_FnExactCommonChunks_run x.1 x.2.1 x.2.2.1).trans h

end Go.Ai.G
