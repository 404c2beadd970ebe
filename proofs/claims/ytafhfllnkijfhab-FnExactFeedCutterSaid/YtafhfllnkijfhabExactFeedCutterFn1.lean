/- Made by a program of this work out of the program: tables and plain functions, with the proof that each Go function does what its plain function says. No conditions. -/
import Derived.Test.YtafhfllnkijfhabExactFeedCutterFn0
namespace Go.Ai.G
open Go.Proofs
open Go.Ai
set_option linter.unusedVariables false
set_option linter.unusedSimpArgs false
set_option maxRecDepth 100000

noncomputable def impl_FeedCutter_d_inls : List (Nat × Inl) := []
noncomputable def impl_FeedCutter_d_cons : List (Nat × Con) := [(53, impl_ValidCutter_con), (58, impl_CutRule_cut_d_con), (59, slices_Concat_byte_byte_con)]
noncomputable def impl_FeedCutter_d_taks : List (Nat × ConT) := []
noncomputable def impl_FeedCutter_d_inps : List (Nat × ConI) := []
noncomputable def impl_FeedCutter_d_cuts : List (Nat × List (Nat × Cut)) := []
noncomputable def impl_FeedCutter_d_cx (k : Nat) : Cx := mkCx tys tbytes telem nozero (Ai.look impl_FeedCutter_d_inls) (Ai.look impl_FeedCutter_d_cons) (Ai.look impl_FeedCutter_d_taks) (Ai.look impl_FeedCutter_d_inps) (fun f id => match Ai.look impl_FeedCutter_d_cuts f with | some l => Ai.look l id | none => none) k dps
theorem impl_FeedCutter_d_tabs (k : Nat) : TabsOk Try.prog (impl_FeedCutter_d_cx k) := ⟨tab_mk tabs_ok _ _ _ _ _ _ _, look_all (Q := ConOk Try.prog) _ ⟨impl_ValidCutter_conOk, impl_CutRule_cut_d_conOk, slices_Concat_byte_byte_conOk, trivial⟩, look_all (Q := TakOk Try.prog) _ trivial, look_all (Q := InpOk Try.prog) _ trivial, look_all (Q := InlOk Try.prog) _ trivial, mixed_ok⟩
abbrev impl_FeedCutter_d_sh : List Sh := [.pr (.pl (.pair (.int .i64) (.pair (.int .i64) (.pair (.int .i64) .unit)))) (.pr (.pl (.int .u32)) (.pr (.own 5 (.int .u8)) (.pl .unit))), .tre 25 (.sl 5 (.pl (.int .u8))), .pl (.int .i64)]
noncomputable def impl_FeedCutter_d_r (a0 : ((Int × (Int × (Int × Unit))) × (Int × ((List Int) × Unit)))) (a1 : (List Int)) : Option (shDen impl_FeedCutter_d_sh) :=
 (bindO (impl_ValidCutter_r a0) fun (b1 : Bool) => (cond (!b1)
 (some ((((0 : Int), ((0 : Int), ((0 : Int), ()))), ((0 : Int), ([], ()))), ([], (1 : Int))))
 (cond (decide ((4096 : Int) < (a1.length : Int)))
 (some ((((0 : Int), ((0 : Int), ((0 : Int), ()))), ((0 : Int), ([], ()))), ([], (3 : Int))))
 (bindO (slices_Concat_byte_byte_r [a0.2.2.1, a1]) fun (b2 : (List Int)) => (bindO (impl_CutRule_cut_d_r a0.1 b2 (a0.2.2.1.length : Int) a0.2.1) fun (b3 : ((List (List Int)) × ((List Int) × Int))) => (some ((a0.1, (b3.2.2, (b3.2.1, ()))), (b3.1, (0 : Int)))))))))
theorem impl_FeedCutter_d_start (k : Nat) (a0 : ((Int × (Int × (Int × Unit))) × (Int × ((List Int) × Unit)))) (a1 : (List Int)) : fnK (impl_FeedCutter_d_cx k) 8 12 impl_FeedCutter_i impl_FeedCutter_d_sh [.pv (.pair (.pair (.int .i64) (.pair (.int .i64) (.pair (.int .i64) .unit))) (.pair (.int .u32) (.pair (.slice (.int .u8)) .unit))) a0, .pv (.slice (.int .u8)) a1] =
 ((bindO (impl_ValidCutter_r a0) fun (b1 : Bool) => (cond (!b1)
 (some ((((0 : Int), ((0 : Int), ((0 : Int), ()))), ((0 : Int), ([], ()))), ([], (1 : Int))))
 (cond (decide ((4096 : Int) < (a1.length : Int)))
 (some ((((0 : Int), ((0 : Int), ((0 : Int), ()))), ((0 : Int), ([], ()))), ([], (3 : Int))))
 (bindO (slices_Concat_byte_byte_r [a0.2.2.1, a1]) fun (b2 : (List Int)) => (bindO (impl_CutRule_cut_d_r a0.1 b2 (a0.2.2.1.length : Int) a0.2.1) fun (b3 : ((List (List Int)) × ((List Int) × Int))) => (some ((a0.1, (b3.2.2, (b3.2.1, ()))), (b3.1, (0 : Int))))))))) : Option (shDen impl_FeedCutter_d_sh)) := by kernel_rfl

theorem impl_FeedCutter_d_run (a0 : ((Int × (Int × (Int × Unit))) × (Int × ((List Int) × Unit)))) (a1 : (List Int)) : fnK (impl_FeedCutter_d_cx FUEL) 8 12 impl_FeedCutter_i impl_FeedCutter_d_sh [.pv (.pair (.pair (.int .i64) (.pair (.int .i64) (.pair (.int .i64) .unit))) (.pair (.int .u32) (.pair (.slice (.int .u8)) .unit))) a0, .pv (.slice (.int .u8)) a1] = impl_FeedCutter_d_r a0 a1 :=
 (impl_FeedCutter_d_start FUEL a0 a1).trans (rfl)

noncomputable def impl_FeedCutter_d_con : Con := { ps := (.pair (.pair (.pair (.int .i64) (.pair (.int .i64) (.pair (.int .i64) .unit))) (.pair (.int .u32) (.pair (.slice (.int .u8)) .unit))) (.pair (.slice (.int .u8)) .unit)), sh := impl_FeedCutter_d_sh, raw := fun x => impl_FeedCutter_d_r x.1 x.2.1 }
theorem impl_FeedCutter_d_conOk : ConOk Try.prog 12 impl_FeedCutter_d_con := con_of_fn (impl_FeedCutter_d_tabs FUEL) (depth := 8) impl_FeedCutter_ok fun x y h => (impl_FeedCutter_d_run x.1 x.2.1).trans h

noncomputable def laws_eqCutRule_inls : List (Nat × Inl) := []
noncomputable def laws_eqCutRule_cons : List (Nat × Con) := []
noncomputable def laws_eqCutRule_taks : List (Nat × ConT) := []
noncomputable def laws_eqCutRule_inps : List (Nat × ConI) := []
noncomputable def laws_eqCutRule_cuts : List (Nat × List (Nat × Cut)) := []
noncomputable def laws_eqCutRule_cx (k : Nat) : Cx := mkCx tys tbytes telem nozero (Ai.look laws_eqCutRule_inls) (Ai.look laws_eqCutRule_cons) (Ai.look laws_eqCutRule_taks) (Ai.look laws_eqCutRule_inps) (fun f id => match Ai.look laws_eqCutRule_cuts f with | some l => Ai.look l id | none => none) k []
theorem laws_eqCutRule_tabs (k : Nat) : TabsOk Try.prog (laws_eqCutRule_cx k) := ⟨tab_mk tabs_ok _ _ _ _ _ _ _, look_all (Q := ConOk Try.prog) _ trivial, look_all (Q := TakOk Try.prog) _ trivial, look_all (Q := InpOk Try.prog) _ trivial, look_all (Q := InlOk Try.prog) _ trivial, mixed_ok⟩
abbrev laws_eqCutRule_sh : List Sh := [.pl .bool]
noncomputable def laws_eqCutRule_r (a0 : (Int × (Int × (Int × Unit)))) (a1 : (Int × (Int × (Int × Unit)))) : Option (shDen laws_eqCutRule_sh) :=
 (cond (!(decide (a0.1 = a1.1)))
 (some false)
 (cond (!(decide (a0.2.1 = a1.2.1)))
 (some false)
 (cond (!(decide (a0.2.2.1 = a1.2.2.1)))
 (some false)
 (some true))))
theorem laws_eqCutRule_start (k : Nat) (a0 : (Int × (Int × (Int × Unit)))) (a1 : (Int × (Int × (Int × Unit)))) : fnK (laws_eqCutRule_cx k) 8 60 laws_eqCutRule_i laws_eqCutRule_sh [.pv (.pair (.int .i64) (.pair (.int .i64) (.pair (.int .i64) .unit))) a0, .pv (.pair (.int .i64) (.pair (.int .i64) (.pair (.int .i64) .unit))) a1] =
 ((cond (!(decide (a0.1 = a1.1)))
 (some false)
 (cond (!(decide (a0.2.1 = a1.2.1)))
 (some false)
 (cond (!(decide (a0.2.2.1 = a1.2.2.1)))
 (some false)
 (some true)))) : Option (shDen laws_eqCutRule_sh)) := by kernel_rfl

theorem laws_eqCutRule_run (a0 : (Int × (Int × (Int × Unit)))) (a1 : (Int × (Int × (Int × Unit)))) : fnK (laws_eqCutRule_cx FUEL) 8 60 laws_eqCutRule_i laws_eqCutRule_sh [.pv (.pair (.int .i64) (.pair (.int .i64) (.pair (.int .i64) .unit))) a0, .pv (.pair (.int .i64) (.pair (.int .i64) (.pair (.int .i64) .unit))) a1] = laws_eqCutRule_r a0 a1 :=
 (laws_eqCutRule_start FUEL a0 a1).trans (rfl)

noncomputable def laws_eqCutRule_con : Con := { ps := (.pair (.pair (.int .i64) (.pair (.int .i64) (.pair (.int .i64) .unit))) (.pair (.pair (.int .i64) (.pair (.int .i64) (.pair (.int .i64) .unit))) .unit)), sh := laws_eqCutRule_sh, raw := fun x => laws_eqCutRule_r x.1 x.2.1 }
theorem laws_eqCutRule_conOk : ConOk Try.prog 60 laws_eqCutRule_con := con_of_fn (laws_eqCutRule_tabs FUEL) (depth := 8) laws_eqCutRule_ok fun x y h => (laws_eqCutRule_run x.1 x.2.1).trans h

noncomputable def laws_eqByteS_l0_cut : Cut := { keep := [0, 1, 5], stk := [], ids := [], own := [], outs := [(0, [4], []), (1, [], [])] }
noncomputable def laws_eqByteS_inls : List (Nat × Inl) := []
noncomputable def laws_eqByteS_cons : List (Nat × Con) := []
noncomputable def laws_eqByteS_taks : List (Nat × ConT) := []
noncomputable def laws_eqByteS_inps : List (Nat × ConI) := []
noncomputable def laws_eqByteS_cuts : List (Nat × List (Nat × Cut)) := [(15, [(0, laws_eqByteS_l0_cut)])]
noncomputable def laws_eqByteS_cx (k : Nat) : Cx := mkCx tys tbytes telem nozero (Ai.look laws_eqByteS_inls) (Ai.look laws_eqByteS_cons) (Ai.look laws_eqByteS_taks) (Ai.look laws_eqByteS_inps) (fun f id => match Ai.look laws_eqByteS_cuts f with | some l => Ai.look l id | none => none) k []
theorem laws_eqByteS_tabs (k : Nat) : TabsOk Try.prog (laws_eqByteS_cx k) := ⟨tab_mk tabs_ok _ _ _ _ _ _ _, look_all (Q := ConOk Try.prog) _ trivial, look_all (Q := TakOk Try.prog) _ trivial, look_all (Q := InpOk Try.prog) _ trivial, look_all (Q := InlOk Try.prog) _ trivial, mixed_ok⟩
abbrev laws_eqByteS_sh : List Sh := [.pl .bool]
noncomputable def laws_eqByteS_l0_s (a0 : (List Int)) (a1 : (List Int)) (x5 : Int) : St := { env := [.pv (.slice (.int .u8)) a0, .pv (.slice (.int .u8)) a1, .dead, .dead, .dead, .pv (.int .i64) x5, .dead, .dead, .dead, .dead, .dead, .dead, .dead, .dead, .dead, .dead, .dead, .dead, .dead, .dead, .dead, .dead, .dead, .dead, .dead, .dead], stk := [], heap := [] }
noncomputable def laws_eqByteS_l0_o  : St := { env := [.dead, .dead, .dead, .dead, .pv .bool false, .dead, .dead, .dead, .dead, .dead, .dead, .dead, .dead, .dead, .dead, .dead, .dead, .dead, .dead, .dead, .dead, .dead, .dead, .dead, .dead, .dead], stk := [], heap := [] }
noncomputable def laws_eqByteS_l0_o0  : St := { env := [.dead, .dead, .dead, .dead, .dead, .dead, .dead, .dead, .dead, .dead, .dead, .dead, .dead, .dead, .dead, .dead, .dead, .dead, .dead, .dead, .dead, .dead, .dead, .dead, .dead, .dead], stk := [], heap := [] }
noncomputable def laws_eqByteS_l0_b (rec : Int → Option (shDen laws_eqByteS_sh)) (kr : Option (shDen laws_eqByteS_sh)) (ke0 : Option (shDen laws_eqByteS_sh)) (a0 : (List Int)) (a1 : (List Int)) (x5 : Int) : Option (shDen laws_eqByteS_sh) :=
 (cond (decide (x5 < (a0.length : Int)))
 (cond ((decide ((0 : Int) ≤ x5)) && (decide (x5 < (a0.length : Int))))
 (cond ((decide ((0 : Int) ≤ x5)) && (decide (x5 < (a1.length : Int))))
 (cond (!(decide ((a0.getD (x5.toNat) (0 : Int)) = (a1.getD (x5.toNat) (0 : Int)))))
 (kr)
 (rec (IntKind.wrap .i64 (x5 + (1 : Int)))))
 none)
 none)
 (ke0))
noncomputable def laws_eqByteS_l0_L (kr : Option (shDen laws_eqByteS_sh)) (ke0 : Option (shDen laws_eqByteS_sh)) (a0 : (List Int)) (a1 : (List Int)) : Nat → Int → Option (shDen laws_eqByteS_sh)
 | 0 => fun _ => none
 | n + 1 => laws_eqByteS_l0_b (laws_eqByteS_l0_L kr ke0 a0 a1 n) kr ke0 a0 a1
noncomputable def laws_eqByteS_r (a0 : (List Int)) (a1 : (List Int)) : Option (shDen laws_eqByteS_sh) :=
 (cond (!(decide ((a0.length : Int) = (a1.length : Int))))
 (some false)
 (laws_eqByteS_l0_L (some false) (some true) a0 a1 FUEL (0 : Int)))
theorem laws_eqByteS_l0_round (k : Nat) (K : Ex → St → Option (shDen laws_eqByteS_sh)) (n : Nat) (a0 : (List Int)) (a1 : (List Int)) (x5 : Int) : (loopK (laws_eqByteS_cx k) 0 (execK (laws_eqByteS_cx k) (callK (laws_eqByteS_cx k) 8) 0 15 (sub laws_eqByteS_c [1, 1, 0, 1, 0, 0])) laws_eqByteS_l0_cut K (n + 1) (laws_eqByteS_l0_s a0 a1 x5) : Option (shDen laws_eqByteS_sh)) =
 ((cond (decide (x5 < (a0.length : Int)))
 (cond ((decide ((0 : Int) ≤ x5)) && (decide (x5 < (a0.length : Int))))
 (cond ((decide ((0 : Int) ≤ x5)) && (decide (x5 < (a1.length : Int))))
 (cond (!(decide ((a0.getD (x5.toNat) (0 : Int)) = (a1.getD (x5.toNat) (0 : Int)))))
 (K .ret (laws_eqByteS_l0_o ))
 (loopK (laws_eqByteS_cx k) 0 (execK (laws_eqByteS_cx k) (callK (laws_eqByteS_cx k) 8) 0 15 (sub laws_eqByteS_c [1, 1, 0, 1, 0, 0])) laws_eqByteS_l0_cut K n (laws_eqByteS_l0_s a0 a1 (IntKind.wrap .i64 (x5 + (1 : Int))))))
 none)
 none)
 (K (.exit 0) (laws_eqByteS_l0_o0 ))) : Option (shDen laws_eqByteS_sh)) := by kernel_rfl

theorem laws_eqByteS_l0_ret (k : Nat)   : ((blkK 0 (seqK (execK (laws_eqByteS_cx k) (callK (laws_eqByteS_cx k) 8) 0 15 (sub laws_eqByteS_c [1, 1, 1])) (finK (laws_eqByteS_cx k) laws_eqByteS_i laws_eqByteS_sh))) .ret (laws_eqByteS_l0_o) : Option (shDen laws_eqByteS_sh)) =
 ((some false) : Option (shDen laws_eqByteS_sh)) := by kernel_rfl

theorem laws_eqByteS_l0_exit0 (k : Nat)   : ((blkK 0 (seqK (execK (laws_eqByteS_cx k) (callK (laws_eqByteS_cx k) 8) 0 15 (sub laws_eqByteS_c [1, 1, 1])) (finK (laws_eqByteS_cx k) laws_eqByteS_i laws_eqByteS_sh))) (.exit 0) (laws_eqByteS_l0_o0) : Option (shDen laws_eqByteS_sh)) =
 ((some true) : Option (shDen laws_eqByteS_sh)) := by kernel_rfl

theorem laws_eqByteS_l0_congr (kr : Option (shDen laws_eqByteS_sh)) (ke0 : Option (shDen laws_eqByteS_sh)) (kr' : Option (shDen laws_eqByteS_sh)) (ke0' : Option (shDen laws_eqByteS_sh)) (a0 : (List Int)) (a1 : (List Int)) (n : Nat) (x5 : Int) (hkr : ∀ (_ : Unit), kr  = kr' ) (hke0 : ∀ (_ : Unit), ke0  = ke0' ) : laws_eqByteS_l0_L kr ke0 a0 a1 n x5 = laws_eqByteS_l0_L kr' ke0' a0 a1 n x5 := by
 have : kr = kr' := hkr (); subst this; have : ke0 = ke0' := hke0 (); subst this; rfl

theorem laws_eqByteS_l0_L_eq (K : Ex → St → Option (shDen laws_eqByteS_sh)) (a0 : (List Int)) (a1 : (List Int)) : ∀ (n : Nat) (x5 : Int), (loopK (laws_eqByteS_cx FUEL) 0 (execK (laws_eqByteS_cx FUEL) (callK (laws_eqByteS_cx FUEL) 8) 0 15 (sub laws_eqByteS_c [1, 1, 0, 1, 0, 0])) laws_eqByteS_l0_cut K n (laws_eqByteS_l0_s a0 a1 x5) : Option (shDen laws_eqByteS_sh)) = laws_eqByteS_l0_L (K .ret (laws_eqByteS_l0_o)) (K (.exit 0) (laws_eqByteS_l0_o0)) a0 a1 n x5 := by
 intro n
 induction n with
 | zero => intros; rfl
 | succ n ih =>
  intro x5
  exact (laws_eqByteS_l0_round FUEL K n a0 a1 x5).trans (condC (condC (condC (condC (rfl) (ih (IntKind.wrap .i64 (x5 + (1 : Int))))) (rfl)) (rfl)) (rfl))

theorem laws_eqByteS_start (k : Nat) (a0 : (List Int)) (a1 : (List Int)) : fnK (laws_eqByteS_cx k) 8 15 laws_eqByteS_i laws_eqByteS_sh [.pv (.slice (.int .u8)) a0, .pv (.slice (.int .u8)) a1] =
 ((cond (!(decide ((a0.length : Int) = (a1.length : Int))))
 (some false)
 (loopK (laws_eqByteS_cx k) 0 (execK (laws_eqByteS_cx k) (callK (laws_eqByteS_cx k) 8) 0 15 (sub laws_eqByteS_c [1, 1, 0, 1, 0, 0])) laws_eqByteS_l0_cut (blkK 0 (seqK (execK (laws_eqByteS_cx k) (callK (laws_eqByteS_cx k) 8) 0 15 (sub laws_eqByteS_c [1, 1, 1])) (finK (laws_eqByteS_cx k) laws_eqByteS_i laws_eqByteS_sh))) k (laws_eqByteS_l0_s a0 a1 (0 : Int)))) : Option (shDen laws_eqByteS_sh)) := by kernel_rfl

theorem laws_eqByteS_run (a0 : (List Int)) (a1 : (List Int)) : fnK (laws_eqByteS_cx FUEL) 8 15 laws_eqByteS_i laws_eqByteS_sh [.pv (.slice (.int .u8)) a0, .pv (.slice (.int .u8)) a1] = laws_eqByteS_r a0 a1 :=
 (laws_eqByteS_start FUEL a0 a1).trans (condC (rfl) ((laws_eqByteS_l0_L_eq _ a0 a1 FUEL (0 : Int)).trans (laws_eqByteS_l0_congr _ _ _ _ a0 a1 FUEL (0 : Int) (fun _ => (laws_eqByteS_l0_ret FUEL  ).trans (rfl)) (fun _ => (laws_eqByteS_l0_exit0 FUEL  ).trans (rfl)))))

noncomputable def laws_eqByteS_con : Con := { ps := (.pair (.slice (.int .u8)) (.pair (.slice (.int .u8)) .unit)), sh := laws_eqByteS_sh, raw := fun x => laws_eqByteS_r x.1 x.2.1 }
theorem laws_eqByteS_conOk : ConOk Try.prog 15 laws_eqByteS_con := con_of_fn (laws_eqByteS_tabs FUEL) (depth := 8) laws_eqByteS_ok fun x y h => (laws_eqByteS_run x.1 x.2.1).trans h

noncomputable def laws_eqCutter_inls : List (Nat × Inl) := []
noncomputable def laws_eqCutter_cons : List (Nat × Con) := [(15, laws_eqByteS_con), (60, laws_eqCutRule_con)]
noncomputable def laws_eqCutter_taks : List (Nat × ConT) := []
noncomputable def laws_eqCutter_inps : List (Nat × ConI) := []
noncomputable def laws_eqCutter_cuts : List (Nat × List (Nat × Cut)) := []
noncomputable def laws_eqCutter_cx (k : Nat) : Cx := mkCx tys tbytes telem nozero (Ai.look laws_eqCutter_inls) (Ai.look laws_eqCutter_cons) (Ai.look laws_eqCutter_taks) (Ai.look laws_eqCutter_inps) (fun f id => match Ai.look laws_eqCutter_cuts f with | some l => Ai.look l id | none => none) k []
theorem laws_eqCutter_tabs (k : Nat) : TabsOk Try.prog (laws_eqCutter_cx k) := ⟨tab_mk tabs_ok _ _ _ _ _ _ _, look_all (Q := ConOk Try.prog) _ ⟨laws_eqByteS_conOk, laws_eqCutRule_conOk, trivial⟩, look_all (Q := TakOk Try.prog) _ trivial, look_all (Q := InpOk Try.prog) _ trivial, look_all (Q := InlOk Try.prog) _ trivial, mixed_ok⟩
abbrev laws_eqCutter_sh : List Sh := [.pl .bool]
noncomputable def laws_eqCutter_r (a0 : ((Int × (Int × (Int × Unit))) × (Int × ((List Int) × Unit)))) (a1 : ((Int × (Int × (Int × Unit))) × (Int × ((List Int) × Unit)))) : Option (shDen laws_eqCutter_sh) :=
 (bindO (laws_eqCutRule_r a0.1 a1.1) fun (b1 : Bool) => (cond (!b1)
 (some false)
 (cond (!(decide (a0.2.1 = a1.2.1)))
 (some false)
 (bindO (laws_eqByteS_r a0.2.2.1 a1.2.2.1) fun (b2 : Bool) => (cond (!b2)
 (some false)
 (some true))))))
theorem laws_eqCutter_start (k : Nat) (a0 : ((Int × (Int × (Int × Unit))) × (Int × ((List Int) × Unit)))) (a1 : ((Int × (Int × (Int × Unit))) × (Int × ((List Int) × Unit)))) : fnK (laws_eqCutter_cx k) 8 13 laws_eqCutter_i laws_eqCutter_sh [.pv (.pair (.pair (.int .i64) (.pair (.int .i64) (.pair (.int .i64) .unit))) (.pair (.int .u32) (.pair (.slice (.int .u8)) .unit))) a0, .pv (.pair (.pair (.int .i64) (.pair (.int .i64) (.pair (.int .i64) .unit))) (.pair (.int .u32) (.pair (.slice (.int .u8)) .unit))) a1] =
 ((bindO (laws_eqCutRule_r a0.1 a1.1) fun (b1 : Bool) => (cond (!b1)
 (some false)
 (cond (!(decide (a0.2.1 = a1.2.1)))
 (some false)
 (bindO (laws_eqByteS_r a0.2.2.1 a1.2.2.1) fun (b2 : Bool) => (cond (!b2)
 (some false)
 (some true)))))) : Option (shDen laws_eqCutter_sh)) := by kernel_rfl

theorem laws_eqCutter_run (a0 : ((Int × (Int × (Int × Unit))) × (Int × ((List Int) × Unit)))) (a1 : ((Int × (Int × (Int × Unit))) × (Int × ((List Int) × Unit)))) : fnK (laws_eqCutter_cx FUEL) 8 13 laws_eqCutter_i laws_eqCutter_sh [.pv (.pair (.pair (.int .i64) (.pair (.int .i64) (.pair (.int .i64) .unit))) (.pair (.int .u32) (.pair (.slice (.int .u8)) .unit))) a0, .pv (.pair (.pair (.int .i64) (.pair (.int .i64) (.pair (.int .i64) .unit))) (.pair (.int .u32) (.pair (.slice (.int .u8)) .unit))) a1] = laws_eqCutter_r a0 a1 :=
 (laws_eqCutter_start FUEL a0 a1).trans (rfl)

noncomputable def laws_eqCutter_con : Con := { ps := (.pair (.pair (.pair (.int .i64) (.pair (.int .i64) (.pair (.int .i64) .unit))) (.pair (.int .u32) (.pair (.slice (.int .u8)) .unit))) (.pair (.pair (.pair (.int .i64) (.pair (.int .i64) (.pair (.int .i64) .unit))) (.pair (.int .u32) (.pair (.slice (.int .u8)) .unit))) .unit)), sh := laws_eqCutter_sh, raw := fun x => laws_eqCutter_r x.1 x.2.1 }
theorem laws_eqCutter_conOk : ConOk Try.prog 13 laws_eqCutter_con := con_of_fn (laws_eqCutter_tabs FUEL) (depth := 8) laws_eqCutter_ok fun x y h => (laws_eqCutter_run x.1 x.2.1).trans h

noncomputable def laws_eqByteSS_l0_cut : Cut := { keep := [0, 1, 5], stk := [], ids := [], own := [], outs := [(0, [4], []), (1, [], [])] }
noncomputable def laws_eqByteSS_inls : List (Nat × Inl) := []
noncomputable def laws_eqByteSS_cons : List (Nat × Con) := [(15, laws_eqByteS_con)]
noncomputable def laws_eqByteSS_taks : List (Nat × ConT) := []
noncomputable def laws_eqByteSS_inps : List (Nat × ConI) := []
noncomputable def laws_eqByteSS_cuts : List (Nat × List (Nat × Cut)) := [(14, [(0, laws_eqByteSS_l0_cut)])]
noncomputable def laws_eqByteSS_cx (k : Nat) : Cx := mkCx tys tbytes telem nozero (Ai.look laws_eqByteSS_inls) (Ai.look laws_eqByteSS_cons) (Ai.look laws_eqByteSS_taks) (Ai.look laws_eqByteSS_inps) (fun f id => match Ai.look laws_eqByteSS_cuts f with | some l => Ai.look l id | none => none) k []
theorem laws_eqByteSS_tabs (k : Nat) : TabsOk Try.prog (laws_eqByteSS_cx k) := ⟨tab_mk tabs_ok _ _ _ _ _ _ _, look_all (Q := ConOk Try.prog) _ ⟨laws_eqByteS_conOk, trivial⟩, look_all (Q := TakOk Try.prog) _ trivial, look_all (Q := InpOk Try.prog) _ trivial, look_all (Q := InlOk Try.prog) _ trivial, mixed_ok⟩
abbrev laws_eqByteSS_sh : List Sh := [.pl .bool]
noncomputable def laws_eqByteSS_l0_s (a0 : (List (List Int))) (a1 : (List (List Int))) (x5 : Int) : St := { env := [.pv (.slice (.slice (.int .u8))) a0, .pv (.slice (.slice (.int .u8))) a1, .dead, .dead, .dead, .pv (.int .i64) x5, .dead, .dead, .dead, .dead, .dead, .dead, .dead, .dead, .dead, .dead, .dead, .dead, .dead, .dead, .dead, .dead, .dead, .dead, .dead, .dead, .dead], stk := [], heap := [] }
noncomputable def laws_eqByteSS_l0_o  : St := { env := [.dead, .dead, .dead, .dead, .pv .bool false, .dead, .dead, .dead, .dead, .dead, .dead, .dead, .dead, .dead, .dead, .dead, .dead, .dead, .dead, .dead, .dead, .dead, .dead, .dead, .dead, .dead, .dead], stk := [], heap := [] }
noncomputable def laws_eqByteSS_l0_o0  : St := { env := [.dead, .dead, .dead, .dead, .dead, .dead, .dead, .dead, .dead, .dead, .dead, .dead, .dead, .dead, .dead, .dead, .dead, .dead, .dead, .dead, .dead, .dead, .dead, .dead, .dead, .dead, .dead], stk := [], heap := [] }
noncomputable def laws_eqByteSS_l0_b (rec : Int → Option (shDen laws_eqByteSS_sh)) (kr : Option (shDen laws_eqByteSS_sh)) (ke0 : Option (shDen laws_eqByteSS_sh)) (a0 : (List (List Int))) (a1 : (List (List Int))) (x5 : Int) : Option (shDen laws_eqByteSS_sh) :=
 (cond (decide (x5 < (a0.length : Int)))
 (cond ((decide ((0 : Int) ≤ x5)) && (decide (x5 < (a0.length : Int))))
 (cond ((decide ((0 : Int) ≤ x5)) && (decide (x5 < (a1.length : Int))))
 (bindO (laws_eqByteS_r (a0.getD (x5.toNat) []) (a1.getD (x5.toNat) [])) fun (b2 : Bool) => (cond (!b2)
 (kr)
 (rec (IntKind.wrap .i64 (x5 + (1 : Int))))))
 none)
 none)
 (ke0))
noncomputable def laws_eqByteSS_l0_L (kr : Option (shDen laws_eqByteSS_sh)) (ke0 : Option (shDen laws_eqByteSS_sh)) (a0 : (List (List Int))) (a1 : (List (List Int))) : Nat → Int → Option (shDen laws_eqByteSS_sh)
 | 0 => fun _ => none
 | n + 1 => laws_eqByteSS_l0_b (laws_eqByteSS_l0_L kr ke0 a0 a1 n) kr ke0 a0 a1
noncomputable def laws_eqByteSS_r (a0 : (List (List Int))) (a1 : (List (List Int))) : Option (shDen laws_eqByteSS_sh) :=
 (cond (!(decide ((a0.length : Int) = (a1.length : Int))))
 (some false)
 (laws_eqByteSS_l0_L (some false) (some true) a0 a1 FUEL (0 : Int)))
theorem laws_eqByteSS_l0_round (k : Nat) (K : Ex → St → Option (shDen laws_eqByteSS_sh)) (n : Nat) (a0 : (List (List Int))) (a1 : (List (List Int))) (x5 : Int) : (loopK (laws_eqByteSS_cx k) 0 (execK (laws_eqByteSS_cx k) (callK (laws_eqByteSS_cx k) 8) 0 14 (sub laws_eqByteSS_c [1, 1, 0, 1, 0, 0])) laws_eqByteSS_l0_cut K (n + 1) (laws_eqByteSS_l0_s a0 a1 x5) : Option (shDen laws_eqByteSS_sh)) =
 ((cond (decide (x5 < (a0.length : Int)))
 (cond ((decide ((0 : Int) ≤ x5)) && (decide (x5 < (a0.length : Int))))
 (cond ((decide ((0 : Int) ≤ x5)) && (decide (x5 < (a1.length : Int))))
 (bindO (laws_eqByteS_r (a0.getD (x5.toNat) []) (a1.getD (x5.toNat) [])) fun (b2 : Bool) => (cond (!b2)
 (K .ret (laws_eqByteSS_l0_o ))
 (loopK (laws_eqByteSS_cx k) 0 (execK (laws_eqByteSS_cx k) (callK (laws_eqByteSS_cx k) 8) 0 14 (sub laws_eqByteSS_c [1, 1, 0, 1, 0, 0])) laws_eqByteSS_l0_cut K n (laws_eqByteSS_l0_s a0 a1 (IntKind.wrap .i64 (x5 + (1 : Int)))))))
 none)
 none)
 (K (.exit 0) (laws_eqByteSS_l0_o0 ))) : Option (shDen laws_eqByteSS_sh)) := by kernel_rfl

theorem laws_eqByteSS_l0_ret (k : Nat)   : ((blkK 0 (seqK (execK (laws_eqByteSS_cx k) (callK (laws_eqByteSS_cx k) 8) 0 14 (sub laws_eqByteSS_c [1, 1, 1])) (finK (laws_eqByteSS_cx k) laws_eqByteSS_i laws_eqByteSS_sh))) .ret (laws_eqByteSS_l0_o) : Option (shDen laws_eqByteSS_sh)) =
 ((some false) : Option (shDen laws_eqByteSS_sh)) := by kernel_rfl

theorem laws_eqByteSS_l0_exit0 (k : Nat)   : ((blkK 0 (seqK (execK (laws_eqByteSS_cx k) (callK (laws_eqByteSS_cx k) 8) 0 14 (sub laws_eqByteSS_c [1, 1, 1])) (finK (laws_eqByteSS_cx k) laws_eqByteSS_i laws_eqByteSS_sh))) (.exit 0) (laws_eqByteSS_l0_o0) : Option (shDen laws_eqByteSS_sh)) =
 ((some true) : Option (shDen laws_eqByteSS_sh)) := by kernel_rfl

theorem laws_eqByteSS_l0_congr (kr : Option (shDen laws_eqByteSS_sh)) (ke0 : Option (shDen laws_eqByteSS_sh)) (kr' : Option (shDen laws_eqByteSS_sh)) (ke0' : Option (shDen laws_eqByteSS_sh)) (a0 : (List (List Int))) (a1 : (List (List Int))) (n : Nat) (x5 : Int) (hkr : ∀ (_ : Unit), kr  = kr' ) (hke0 : ∀ (_ : Unit), ke0  = ke0' ) : laws_eqByteSS_l0_L kr ke0 a0 a1 n x5 = laws_eqByteSS_l0_L kr' ke0' a0 a1 n x5 := by
 have : kr = kr' := hkr (); subst this; have : ke0 = ke0' := hke0 (); subst this; rfl

theorem laws_eqByteSS_l0_L_eq (K : Ex → St → Option (shDen laws_eqByteSS_sh)) (a0 : (List (List Int))) (a1 : (List (List Int))) : ∀ (n : Nat) (x5 : Int), (loopK (laws_eqByteSS_cx FUEL) 0 (execK (laws_eqByteSS_cx FUEL) (callK (laws_eqByteSS_cx FUEL) 8) 0 14 (sub laws_eqByteSS_c [1, 1, 0, 1, 0, 0])) laws_eqByteSS_l0_cut K n (laws_eqByteSS_l0_s a0 a1 x5) : Option (shDen laws_eqByteSS_sh)) = laws_eqByteSS_l0_L (K .ret (laws_eqByteSS_l0_o)) (K (.exit 0) (laws_eqByteSS_l0_o0)) a0 a1 n x5 := by
 intro n
 induction n with
 | zero => intros; rfl
 | succ n ih =>
  intro x5
  exact (laws_eqByteSS_l0_round FUEL K n a0 a1 x5).trans (condC (condC (condC (bindC (fun b2 => condC (rfl) (ih (IntKind.wrap .i64 (x5 + (1 : Int)))))) (rfl)) (rfl)) (rfl))

theorem laws_eqByteSS_start (k : Nat) (a0 : (List (List Int))) (a1 : (List (List Int))) : fnK (laws_eqByteSS_cx k) 8 14 laws_eqByteSS_i laws_eqByteSS_sh [.pv (.slice (.slice (.int .u8))) a0, .pv (.slice (.slice (.int .u8))) a1] =
 ((cond (!(decide ((a0.length : Int) = (a1.length : Int))))
 (some false)
 (loopK (laws_eqByteSS_cx k) 0 (execK (laws_eqByteSS_cx k) (callK (laws_eqByteSS_cx k) 8) 0 14 (sub laws_eqByteSS_c [1, 1, 0, 1, 0, 0])) laws_eqByteSS_l0_cut (blkK 0 (seqK (execK (laws_eqByteSS_cx k) (callK (laws_eqByteSS_cx k) 8) 0 14 (sub laws_eqByteSS_c [1, 1, 1])) (finK (laws_eqByteSS_cx k) laws_eqByteSS_i laws_eqByteSS_sh))) k (laws_eqByteSS_l0_s a0 a1 (0 : Int)))) : Option (shDen laws_eqByteSS_sh)) := by kernel_rfl

theorem laws_eqByteSS_run (a0 : (List (List Int))) (a1 : (List (List Int))) : fnK (laws_eqByteSS_cx FUEL) 8 14 laws_eqByteSS_i laws_eqByteSS_sh [.pv (.slice (.slice (.int .u8))) a0, .pv (.slice (.slice (.int .u8))) a1] = laws_eqByteSS_r a0 a1 :=
 (laws_eqByteSS_start FUEL a0 a1).trans (condC (rfl) ((laws_eqByteSS_l0_L_eq _ a0 a1 FUEL (0 : Int)).trans (laws_eqByteSS_l0_congr _ _ _ _ a0 a1 FUEL (0 : Int) (fun _ => (laws_eqByteSS_l0_ret FUEL  ).trans (rfl)) (fun _ => (laws_eqByteSS_l0_exit0 FUEL  ).trans (rfl)))))

noncomputable def laws_eqByteSS_con : Con := { ps := (.pair (.slice (.slice (.int .u8))) (.pair (.slice (.slice (.int .u8))) .unit)), sh := laws_eqByteSS_sh, raw := fun x => laws_eqByteSS_r x.1 x.2.1 }
theorem laws_eqByteSS_conOk : ConOk Try.prog 14 laws_eqByteSS_con := con_of_fn (laws_eqByteSS_tabs FUEL) (depth := 8) laws_eqByteSS_ok fun x y h => (laws_eqByteSS_run x.1 x.2.1).trans h

noncomputable def laws_markByteS_l0_cut : Cut := { keep := [0, 1, 5], stk := [], ids := [7], own := [], outs := [(1, [1], [7])] }
noncomputable def laws_markByteS_inls : List (Nat × Inl) := []
noncomputable def laws_markByteS_cons : List (Nat × Con) := []
noncomputable def laws_markByteS_taks : List (Nat × ConT) := []
noncomputable def laws_markByteS_inps : List (Nat × ConI) := []
noncomputable def laws_markByteS_cuts : List (Nat × List (Nat × Cut)) := [(17, [(0, laws_markByteS_l0_cut)])]
noncomputable def laws_markByteS_cx (k : Nat) : Cx := mkCx tys tbytes telem nozero (Ai.look laws_markByteS_inls) (Ai.look laws_markByteS_cons) (Ai.look laws_markByteS_taks) (Ai.look laws_markByteS_inps) (fun f id => match Ai.look laws_markByteS_cuts f with | some l => Ai.look l id | none => none) k []
theorem laws_markByteS_tabs (k : Nat) : TabsOk Try.prog (laws_markByteS_cx k) := ⟨tab_mk tabs_ok _ _ _ _ _ _ _, look_all (Q := ConOk Try.prog) _ trivial, look_all (Q := TakOk Try.prog) _ trivial, look_all (Q := InpOk Try.prog) _ trivial, look_all (Q := InlOk Try.prog) _ trivial, mixed_ok⟩
abbrev laws_markByteS_sh : List Sh := [.pl (.int .i64)]
noncomputable def laws_markByteS_l0_s (x1 : Int) (x5 : Int) (z7 : (List Int)) : St := { env := [.sl 7 (.int .u8), .pv (.int .i64) x1, .dead, .dead, .dead, .pv (.int .i64) x5, .dead, .dead, .dead, .dead, .dead, .dead, .dead, .dead, .dead, .dead, .dead, .dead, .dead, .dead], stk := [], heap := [(7, .arr 5 (.int .u8) z7)] }
noncomputable def laws_markByteS_l0_o0 (x1 : Int) (z7 : (List Int)) : St := { env := [.dead, .pv (.int .i64) x1, .dead, .dead, .dead, .dead, .dead, .dead, .dead, .dead, .dead, .dead, .dead, .dead, .dead, .dead, .dead, .dead, .dead, .dead], stk := [], heap := [(7, .arr 5 (.int .u8) z7)] }
noncomputable def laws_markByteS_l0_b (rec : Int → Int → (List Int) → Option ((List Int) × shDen laws_markByteS_sh)) (ke0 : Int → (List Int) → Option ((List Int) × shDen laws_markByteS_sh)) (x1 : Int) (x5 : Int) (z7 : (List Int)) : Option ((List Int) × shDen laws_markByteS_sh) :=
 (cond (decide (x5 < (z7.length : Int)))
 (cond ((decide ((0 : Int) ≤ x5)) && (decide (x5 < (z7.length : Int))))
 (rec (IntKind.wrap .i64 (x1 + (1 : Int))) (IntKind.wrap .i64 (x5 + (1 : Int))) (z7.set (x5.toNat) (IntKind.wrap .u8 x1)))
 none)
 (ke0 x1 z7))
noncomputable def laws_markByteS_l0_L (ke0 : Int → (List Int) → Option ((List Int) × shDen laws_markByteS_sh))  : Nat → Int → Int → (List Int) → Option ((List Int) × shDen laws_markByteS_sh)
 | 0 => fun _ _ _ => none
 | n + 1 => laws_markByteS_l0_b (laws_markByteS_l0_L ke0  n) ke0 
noncomputable def laws_markByteS_r (a0 : (List Int)) (a1 : Int) : Option ((List Int) × shDen laws_markByteS_sh) :=
 (laws_markByteS_l0_L (fun x1 z7 => (some (z7, x1))) FUEL a1 (0 : Int) a0)
theorem laws_markByteS_l0_round (k : Nat) (K : Ex → St → Option ((List Int) × shDen laws_markByteS_sh)) (n : Nat) (x1 : Int) (x5 : Int) (z7 : (List Int)) : (loopK (laws_markByteS_cx k) 0 (execK (laws_markByteS_cx k) (callK (laws_markByteS_cx k) 8) 0 17 (sub laws_markByteS_c [1, 0, 1, 0, 0])) laws_markByteS_l0_cut K (n + 1) (laws_markByteS_l0_s x1 x5 z7) : Option ((List Int) × shDen laws_markByteS_sh)) =
 ((cond (decide (x5 < (z7.length : Int)))
 (cond ((decide ((0 : Int) ≤ x5)) && (decide (x5 < (z7.length : Int))))
 (loopK (laws_markByteS_cx k) 0 (execK (laws_markByteS_cx k) (callK (laws_markByteS_cx k) 8) 0 17 (sub laws_markByteS_c [1, 0, 1, 0, 0])) laws_markByteS_l0_cut K n (laws_markByteS_l0_s (IntKind.wrap .i64 (x1 + (1 : Int))) (IntKind.wrap .i64 (x5 + (1 : Int))) (z7.set (x5.toNat) (IntKind.wrap .u8 x1))))
 none)
 (K (.exit 0) (laws_markByteS_l0_o0 x1 z7))) : Option ((List Int) × shDen laws_markByteS_sh)) := by kernel_rfl

theorem laws_markByteS_l0_exit0 (k : Nat)  (x1 : Int) (z7 : (List Int)) : ((blkK 0 (seqK (execK (laws_markByteS_cx k) (callK (laws_markByteS_cx k) 8) 0 17 (sub laws_markByteS_c [1, 1])) (finIK (laws_markByteS_cx k) laws_markByteS_i (.arr 5 (.int .u8)) laws_markByteS_sh))) (.exit 0) (laws_markByteS_l0_o0 x1 z7) : Option ((List Int) × shDen laws_markByteS_sh)) =
 ((some (z7, x1)) : Option ((List Int) × shDen laws_markByteS_sh)) := by kernel_rfl

theorem laws_markByteS_l0_congr (ke0 : Int → (List Int) → Option ((List Int) × shDen laws_markByteS_sh)) (ke0' : Int → (List Int) → Option ((List Int) × shDen laws_markByteS_sh))  (n : Nat) (x1 : Int) (x5 : Int) (z7 : (List Int)) (hke0 : ∀ x1 z7, ke0 x1 z7 = ke0' x1 z7) : laws_markByteS_l0_L ke0  n x1 x5 z7 = laws_markByteS_l0_L ke0'  n x1 x5 z7 := by
 have : ke0 = ke0' := (by funext x1 z7; exact hke0 x1 z7); subst this; rfl

theorem laws_markByteS_l0_L_eq (K : Ex → St → Option ((List Int) × shDen laws_markByteS_sh))  : ∀ (n : Nat) (x1 : Int) (x5 : Int) (z7 : (List Int)), (loopK (laws_markByteS_cx FUEL) 0 (execK (laws_markByteS_cx FUEL) (callK (laws_markByteS_cx FUEL) 8) 0 17 (sub laws_markByteS_c [1, 0, 1, 0, 0])) laws_markByteS_l0_cut K n (laws_markByteS_l0_s x1 x5 z7) : Option ((List Int) × shDen laws_markByteS_sh)) = laws_markByteS_l0_L (fun x1 z7 => K (.exit 0) (laws_markByteS_l0_o0 x1 z7))  n x1 x5 z7 := by
 intro n
 induction n with
 | zero => intros; rfl
 | succ n ih =>
  intro x1 x5 z7
  exact (laws_markByteS_l0_round FUEL K n  x1 x5 z7).trans (condC (condC (ih (IntKind.wrap .i64 (x1 + (1 : Int))) (IntKind.wrap .i64 (x5 + (1 : Int))) (z7.set (x5.toNat) (IntKind.wrap .u8 x1))) (rfl)) (rfl))

theorem laws_markByteS_start (k : Nat) (a0 : (List Int)) (a1 : Int) : fnIK (laws_markByteS_cx k) 8 17 laws_markByteS_i (.arr 5 (.int .u8)) laws_markByteS_sh a0 [.pv (.int .i64) a1] =
 ((loopK (laws_markByteS_cx k) 0 (execK (laws_markByteS_cx k) (callK (laws_markByteS_cx k) 8) 0 17 (sub laws_markByteS_c [1, 0, 1, 0, 0])) laws_markByteS_l0_cut (blkK 0 (seqK (execK (laws_markByteS_cx k) (callK (laws_markByteS_cx k) 8) 0 17 (sub laws_markByteS_c [1, 1])) (finIK (laws_markByteS_cx k) laws_markByteS_i (.arr 5 (.int .u8)) laws_markByteS_sh))) k (laws_markByteS_l0_s a1 (0 : Int) a0)) : Option ((List Int) × shDen laws_markByteS_sh)) := by kernel_rfl

theorem laws_markByteS_run (a0 : (List Int)) (a1 : Int) : fnIK (laws_markByteS_cx FUEL) 8 17 laws_markByteS_i (.arr 5 (.int .u8)) laws_markByteS_sh a0 [.pv (.int .i64) a1] = laws_markByteS_r a0 a1 :=
 (laws_markByteS_start FUEL a0 a1).trans ((laws_markByteS_l0_L_eq _  FUEL a1 (0 : Int) a0).trans (laws_markByteS_l0_congr _ _  FUEL a1 (0 : Int) a0 (fun x1 z7 => (laws_markByteS_l0_exit0 FUEL  x1 z7).trans (rfl))))

noncomputable def laws_markByteS_inp : ConI := { k := (.arr 5 (.int .u8)), ps := (.pair (.int .i64) .unit), sh := laws_markByteS_sh, raw := fun x q => laws_markByteS_r x q.1 }
theorem laws_markByteS_inpOk : InpOk Try.prog 17 laws_markByteS_inp := inp_of_fn (laws_markByteS_tabs FUEL) (depth := 8) laws_markByteS_ok fun x q z h => (laws_markByteS_run x q.1).trans h

noncomputable def laws_markByteSS_d_l0_cut : Cut := { keep := [0, 1, 5], stk := [], ids := [7], own := [], outs := [(1, [1], [7])] }
noncomputable def laws_markByteSS_d_inls : List (Nat × Inl) := []
noncomputable def laws_markByteSS_d_cons : List (Nat × Con) := []
noncomputable def laws_markByteSS_d_taks : List (Nat × ConT) := []
noncomputable def laws_markByteSS_d_inps : List (Nat × ConI) := [(17, laws_markByteS_inp)]
noncomputable def laws_markByteSS_d_cuts : List (Nat × List (Nat × Cut)) := [(18, [(0, laws_markByteSS_d_l0_cut)])]
noncomputable def laws_markByteSS_d_cx (k : Nat) : Cx := mkCx tys tbytes telem nozero (Ai.look laws_markByteSS_d_inls) (Ai.look laws_markByteSS_d_cons) (Ai.look laws_markByteSS_d_taks) (Ai.look laws_markByteSS_d_inps) (fun f id => match Ai.look laws_markByteSS_d_cuts f with | some l => Ai.look l id | none => none) k dps
theorem laws_markByteSS_d_tabs (k : Nat) : TabsOk Try.prog (laws_markByteSS_d_cx k) := ⟨tab_mk tabs_ok _ _ _ _ _ _ _, look_all (Q := ConOk Try.prog) _ trivial, look_all (Q := TakOk Try.prog) _ trivial, look_all (Q := InpOk Try.prog) _ ⟨laws_markByteS_inpOk, trivial⟩, look_all (Q := InlOk Try.prog) _ trivial, mixed_ok⟩
abbrev laws_markByteSS_d_sh : List Sh := [.pl (.int .i64)]
noncomputable def laws_markByteSS_d_l0_s (x1 : Int) (x5 : Int) (z7 : (List (List Int))) : St := { env := [.inn 7 [] (.slice (.int .u8)), .pv (.int .i64) x1, .dead, .dead, .dead, .pv (.int .i64) x5, .dead, .dead, .dead, .dead, .dead, .dead, .dead, .dead, .dead, .dead, .dead, .dead, .dead], stk := [], heap := [(7, .tre 25 (.sl 5 (.pl (.int .u8))) z7)] }
noncomputable def laws_markByteSS_d_l0_o0 (x1 : Int) (z7 : (List (List Int))) : St := { env := [.dead, .pv (.int .i64) x1, .dead, .dead, .dead, .dead, .dead, .dead, .dead, .dead, .dead, .dead, .dead, .dead, .dead, .dead, .dead, .dead, .dead], stk := [], heap := [(7, .tre 25 (.sl 5 (.pl (.int .u8))) z7)] }
noncomputable def laws_markByteSS_d_l0_b (rec : Int → Int → (List (List Int)) → Option ((List (List Int)) × shDen laws_markByteSS_d_sh)) (ke0 : Int → (List (List Int)) → Option ((List (List Int)) × shDen laws_markByteSS_d_sh)) (x1 : Int) (x5 : Int) (z7 : (List (List Int))) : Option ((List (List Int)) × shDen laws_markByteSS_d_sh) :=
 (cond (decide (x5 < (z7.length : Int)))
 (cond ((decide ((0 : Int) ≤ x5)) && (decide (x5 < (z7.length : Int))))
 (cond (decide ((x5.toNat) < List.length z7) && true) (bindO (laws_markByteS_r (z7.getD (x5.toNat) []) x1) fun (b2 : ((List Int) × Int)) => (rec b2.2 (IntKind.wrap .i64 (x5 + (1 : Int))) (z7.set (x5.toNat) b2.1))) none)
 none)
 (ke0 x1 z7))
noncomputable def laws_markByteSS_d_l0_L (ke0 : Int → (List (List Int)) → Option ((List (List Int)) × shDen laws_markByteSS_d_sh))  : Nat → Int → Int → (List (List Int)) → Option ((List (List Int)) × shDen laws_markByteSS_d_sh)
 | 0 => fun _ _ _ => none
 | n + 1 => laws_markByteSS_d_l0_b (laws_markByteSS_d_l0_L ke0  n) ke0 
noncomputable def laws_markByteSS_d_r (a0 : (List (List Int))) (a1 : Int) : Option ((List (List Int)) × shDen laws_markByteSS_d_sh) :=
 (laws_markByteSS_d_l0_L (fun x1 z7 => (some (z7, x1))) FUEL a1 (0 : Int) a0)
theorem laws_markByteSS_d_l0_round (k : Nat) (K : Ex → St → Option ((List (List Int)) × shDen laws_markByteSS_d_sh)) (n : Nat) (x1 : Int) (x5 : Int) (z7 : (List (List Int))) : (loopK (laws_markByteSS_d_cx k) 0 (execK (laws_markByteSS_d_cx k) (callK (laws_markByteSS_d_cx k) 8) 0 18 (sub laws_markByteSS_c [1, 0, 1, 0, 0])) laws_markByteSS_d_l0_cut K (n + 1) (laws_markByteSS_d_l0_s x1 x5 z7) : Option ((List (List Int)) × shDen laws_markByteSS_d_sh)) =
 ((cond (decide (x5 < (z7.length : Int)))
 (cond ((decide ((0 : Int) ≤ x5)) && (decide (x5 < (z7.length : Int))))
 (cond (decide ((x5.toNat) < List.length z7) && true) (bindO (laws_markByteS_r (z7.getD (x5.toNat) []) x1) fun (b2 : ((List Int) × Int)) => (loopK (laws_markByteSS_d_cx k) 0 (execK (laws_markByteSS_d_cx k) (callK (laws_markByteSS_d_cx k) 8) 0 18 (sub laws_markByteSS_c [1, 0, 1, 0, 0])) laws_markByteSS_d_l0_cut K n (laws_markByteSS_d_l0_s b2.2 (IntKind.wrap .i64 (x5 + (1 : Int))) (z7.set (x5.toNat) b2.1)))) none)
 none)
 (K (.exit 0) (laws_markByteSS_d_l0_o0 x1 z7))) : Option ((List (List Int)) × shDen laws_markByteSS_d_sh)) := by kernel_rfl

theorem laws_markByteSS_d_l0_exit0 (k : Nat)  (x1 : Int) (z7 : (List (List Int))) : ((blkK 0 (seqK (execK (laws_markByteSS_d_cx k) (callK (laws_markByteSS_d_cx k) 8) 0 18 (sub laws_markByteSS_c [1, 1])) (finIK (laws_markByteSS_d_cx k) laws_markByteSS_i (.tre 25 (.sl 5 (.pl (.int .u8)))) laws_markByteSS_d_sh))) (.exit 0) (laws_markByteSS_d_l0_o0 x1 z7) : Option ((List (List Int)) × shDen laws_markByteSS_d_sh)) =
 ((some (z7, x1)) : Option ((List (List Int)) × shDen laws_markByteSS_d_sh)) := by kernel_rfl

theorem laws_markByteSS_d_l0_congr (ke0 : Int → (List (List Int)) → Option ((List (List Int)) × shDen laws_markByteSS_d_sh)) (ke0' : Int → (List (List Int)) → Option ((List (List Int)) × shDen laws_markByteSS_d_sh))  (n : Nat) (x1 : Int) (x5 : Int) (z7 : (List (List Int))) (hke0 : ∀ x1 z7, ke0 x1 z7 = ke0' x1 z7) : laws_markByteSS_d_l0_L ke0  n x1 x5 z7 = laws_markByteSS_d_l0_L ke0'  n x1 x5 z7 := by
 have : ke0 = ke0' := (by funext x1 z7; exact hke0 x1 z7); subst this; rfl

theorem laws_markByteSS_d_l0_L_eq (K : Ex → St → Option ((List (List Int)) × shDen laws_markByteSS_d_sh))  : ∀ (n : Nat) (x1 : Int) (x5 : Int) (z7 : (List (List Int))), (loopK (laws_markByteSS_d_cx FUEL) 0 (execK (laws_markByteSS_d_cx FUEL) (callK (laws_markByteSS_d_cx FUEL) 8) 0 18 (sub laws_markByteSS_c [1, 0, 1, 0, 0])) laws_markByteSS_d_l0_cut K n (laws_markByteSS_d_l0_s x1 x5 z7) : Option ((List (List Int)) × shDen laws_markByteSS_d_sh)) = laws_markByteSS_d_l0_L (fun x1 z7 => K (.exit 0) (laws_markByteSS_d_l0_o0 x1 z7))  n x1 x5 z7 := by
 intro n
 induction n with
 | zero => intros; rfl
 | succ n ih =>
  intro x1 x5 z7
  exact (laws_markByteSS_d_l0_round FUEL K n  x1 x5 z7).trans (condC (condC (condC (bindC (fun b2 => ih b2.2 (IntKind.wrap .i64 (x5 + (1 : Int))) (z7.set (x5.toNat) b2.1))) (rfl)) (rfl)) (rfl))

theorem laws_markByteSS_d_start (k : Nat) (a0 : (List (List Int))) (a1 : Int) : fnIK (laws_markByteSS_d_cx k) 8 18 laws_markByteSS_i (.tre 25 (.sl 5 (.pl (.int .u8)))) laws_markByteSS_d_sh a0 [.pv (.int .i64) a1] =
 ((loopK (laws_markByteSS_d_cx k) 0 (execK (laws_markByteSS_d_cx k) (callK (laws_markByteSS_d_cx k) 8) 0 18 (sub laws_markByteSS_c [1, 0, 1, 0, 0])) laws_markByteSS_d_l0_cut (blkK 0 (seqK (execK (laws_markByteSS_d_cx k) (callK (laws_markByteSS_d_cx k) 8) 0 18 (sub laws_markByteSS_c [1, 1])) (finIK (laws_markByteSS_d_cx k) laws_markByteSS_i (.tre 25 (.sl 5 (.pl (.int .u8)))) laws_markByteSS_d_sh))) k (laws_markByteSS_d_l0_s a1 (0 : Int) a0)) : Option ((List (List Int)) × shDen laws_markByteSS_d_sh)) := by kernel_rfl

theorem laws_markByteSS_d_run (a0 : (List (List Int))) (a1 : Int) : fnIK (laws_markByteSS_d_cx FUEL) 8 18 laws_markByteSS_i (.tre 25 (.sl 5 (.pl (.int .u8)))) laws_markByteSS_d_sh a0 [.pv (.int .i64) a1] = laws_markByteSS_d_r a0 a1 :=
 (laws_markByteSS_d_start FUEL a0 a1).trans ((laws_markByteSS_d_l0_L_eq _  FUEL a1 (0 : Int) a0).trans (laws_markByteSS_d_l0_congr _ _  FUEL a1 (0 : Int) a0 (fun x1 z7 => (laws_markByteSS_d_l0_exit0 FUEL  x1 z7).trans (rfl))))

noncomputable def laws_markByteSS_d_inp : ConI := { k := (.tre 25 (.sl 5 (.pl (.int .u8)))), ps := (.pair (.int .i64) .unit), sh := laws_markByteSS_d_sh, raw := fun x q => laws_markByteSS_d_r x q.1 }
theorem laws_markByteSS_d_inpOk : InpOk Try.prog 18 laws_markByteSS_d_inp := inp_of_fn (laws_markByteSS_d_tabs FUEL) (depth := 8) laws_markByteSS_ok fun x q z h => (laws_markByteSS_d_run x q.1).trans h

noncomputable def laws_heldByteS_l0_cut : Cut := { keep := [0, 1, 5], stk := [], ids := [], own := [], outs := [(0, [4], []), (1, [1], [])] }
noncomputable def laws_heldByteS_inls : List (Nat × Inl) := []
noncomputable def laws_heldByteS_cons : List (Nat × Con) := []
noncomputable def laws_heldByteS_taks : List (Nat × ConT) := []
noncomputable def laws_heldByteS_inps : List (Nat × ConI) := []
noncomputable def laws_heldByteS_cuts : List (Nat × List (Nat × Cut)) := [(61, [(0, laws_heldByteS_l0_cut)])]
noncomputable def laws_heldByteS_cx (k : Nat) : Cx := mkCx tys tbytes telem nozero (Ai.look laws_heldByteS_inls) (Ai.look laws_heldByteS_cons) (Ai.look laws_heldByteS_taks) (Ai.look laws_heldByteS_inps) (fun f id => match Ai.look laws_heldByteS_cuts f with | some l => Ai.look l id | none => none) k []
theorem laws_heldByteS_tabs (k : Nat) : TabsOk Try.prog (laws_heldByteS_cx k) := ⟨tab_mk tabs_ok _ _ _ _ _ _ _, look_all (Q := ConOk Try.prog) _ trivial, look_all (Q := TakOk Try.prog) _ trivial, look_all (Q := InpOk Try.prog) _ trivial, look_all (Q := InlOk Try.prog) _ trivial, mixed_ok⟩
abbrev laws_heldByteS_sh : List Sh := [.pl (.int .i64)]
noncomputable def laws_heldByteS_l0_s (a0 : (List Int)) (x1 : Int) (x5 : Int) : St := { env := [.pv (.slice (.int .u8)) a0, .pv (.int .i64) x1, .dead, .dead, .dead, .pv (.int .i64) x5, .dead, .dead, .dead, .dead, .dead, .dead, .dead, .dead, .dead, .dead, .dead, .dead, .dead, .dead, .dead, .dead], stk := [], heap := [] }
noncomputable def laws_heldByteS_l0_o  : St := { env := [.dead, .dead, .dead, .dead, .pv (.int .i64) (-1 : Int), .dead, .dead, .dead, .dead, .dead, .dead, .dead, .dead, .dead, .dead, .dead, .dead, .dead, .dead, .dead, .dead, .dead], stk := [], heap := [] }
noncomputable def laws_heldByteS_l0_o0 (x1 : Int) : St := { env := [.dead, .pv (.int .i64) x1, .dead, .dead, .dead, .dead, .dead, .dead, .dead, .dead, .dead, .dead, .dead, .dead, .dead, .dead, .dead, .dead, .dead, .dead, .dead, .dead], stk := [], heap := [] }
noncomputable def laws_heldByteS_l0_b (rec : Int → Int → Option (shDen laws_heldByteS_sh)) (kr : Option (shDen laws_heldByteS_sh)) (ke0 : Int → Option (shDen laws_heldByteS_sh)) (a0 : (List Int)) (x1 : Int) (x5 : Int) : Option (shDen laws_heldByteS_sh) :=
 (cond (decide (x5 < (a0.length : Int)))
 (cond ((decide ((0 : Int) ≤ x5)) && (decide (x5 < (a0.length : Int))))
 (cond (!(decide ((a0.getD (x5.toNat) (0 : Int)) = (IntKind.wrap .u8 x1))))
 (kr)
 (rec (IntKind.wrap .i64 (x1 + (1 : Int))) (IntKind.wrap .i64 (x5 + (1 : Int)))))
 none)
 (ke0 x1))
noncomputable def laws_heldByteS_l0_L (kr : Option (shDen laws_heldByteS_sh)) (ke0 : Int → Option (shDen laws_heldByteS_sh)) (a0 : (List Int)) : Nat → Int → Int → Option (shDen laws_heldByteS_sh)
 | 0 => fun _ _ => none
 | n + 1 => laws_heldByteS_l0_b (laws_heldByteS_l0_L kr ke0 a0 n) kr ke0 a0
noncomputable def laws_heldByteS_r (a0 : (List Int)) (a1 : Int) : Option (shDen laws_heldByteS_sh) :=
 (laws_heldByteS_l0_L (some (-1 : Int)) (fun x1 => (some x1)) a0 FUEL a1 (0 : Int))
theorem laws_heldByteS_l0_round (k : Nat) (K : Ex → St → Option (shDen laws_heldByteS_sh)) (n : Nat) (a0 : (List Int)) (x1 : Int) (x5 : Int) : (loopK (laws_heldByteS_cx k) 0 (execK (laws_heldByteS_cx k) (callK (laws_heldByteS_cx k) 8) 0 61 (sub laws_heldByteS_c [1, 0, 1, 0, 0])) laws_heldByteS_l0_cut K (n + 1) (laws_heldByteS_l0_s a0 x1 x5) : Option (shDen laws_heldByteS_sh)) =
 ((cond (decide (x5 < (a0.length : Int)))
 (cond ((decide ((0 : Int) ≤ x5)) && (decide (x5 < (a0.length : Int))))
 (cond (!(decide ((a0.getD (x5.toNat) (0 : Int)) = (IntKind.wrap .u8 x1))))
 (K .ret (laws_heldByteS_l0_o ))
 (loopK (laws_heldByteS_cx k) 0 (execK (laws_heldByteS_cx k) (callK (laws_heldByteS_cx k) 8) 0 61 (sub laws_heldByteS_c [1, 0, 1, 0, 0])) laws_heldByteS_l0_cut K n (laws_heldByteS_l0_s a0 (IntKind.wrap .i64 (x1 + (1 : Int))) (IntKind.wrap .i64 (x5 + (1 : Int))))))
 none)
 (K (.exit 0) (laws_heldByteS_l0_o0 x1))) : Option (shDen laws_heldByteS_sh)) := by kernel_rfl

theorem laws_heldByteS_l0_ret (k : Nat)   : ((blkK 0 (seqK (execK (laws_heldByteS_cx k) (callK (laws_heldByteS_cx k) 8) 0 61 (sub laws_heldByteS_c [1, 1])) (finK (laws_heldByteS_cx k) laws_heldByteS_i laws_heldByteS_sh))) .ret (laws_heldByteS_l0_o) : Option (shDen laws_heldByteS_sh)) =
 ((some (-1 : Int)) : Option (shDen laws_heldByteS_sh)) := by kernel_rfl

theorem laws_heldByteS_l0_exit0 (k : Nat)  (x1 : Int) : ((blkK 0 (seqK (execK (laws_heldByteS_cx k) (callK (laws_heldByteS_cx k) 8) 0 61 (sub laws_heldByteS_c [1, 1])) (finK (laws_heldByteS_cx k) laws_heldByteS_i laws_heldByteS_sh))) (.exit 0) (laws_heldByteS_l0_o0 x1) : Option (shDen laws_heldByteS_sh)) =
 ((some x1) : Option (shDen laws_heldByteS_sh)) := by kernel_rfl

theorem laws_heldByteS_l0_congr (kr : Option (shDen laws_heldByteS_sh)) (ke0 : Int → Option (shDen laws_heldByteS_sh)) (kr' : Option (shDen laws_heldByteS_sh)) (ke0' : Int → Option (shDen laws_heldByteS_sh)) (a0 : (List Int)) (n : Nat) (x1 : Int) (x5 : Int) (hkr : ∀ (_ : Unit), kr  = kr' ) (hke0 : ∀ x1, ke0 x1 = ke0' x1) : laws_heldByteS_l0_L kr ke0 a0 n x1 x5 = laws_heldByteS_l0_L kr' ke0' a0 n x1 x5 := by
 have : kr = kr' := hkr (); subst this; have : ke0 = ke0' := (by funext x1; exact hke0 x1); subst this; rfl

theorem laws_heldByteS_l0_L_eq (K : Ex → St → Option (shDen laws_heldByteS_sh)) (a0 : (List Int)) : ∀ (n : Nat) (x1 : Int) (x5 : Int), (loopK (laws_heldByteS_cx FUEL) 0 (execK (laws_heldByteS_cx FUEL) (callK (laws_heldByteS_cx FUEL) 8) 0 61 (sub laws_heldByteS_c [1, 0, 1, 0, 0])) laws_heldByteS_l0_cut K n (laws_heldByteS_l0_s a0 x1 x5) : Option (shDen laws_heldByteS_sh)) = laws_heldByteS_l0_L (K .ret (laws_heldByteS_l0_o)) (fun x1 => K (.exit 0) (laws_heldByteS_l0_o0 x1)) a0 n x1 x5 := by
 intro n
 induction n with
 | zero => intros; rfl
 | succ n ih =>
  intro x1 x5
  exact (laws_heldByteS_l0_round FUEL K n a0 x1 x5).trans (condC (condC (condC (rfl) (ih (IntKind.wrap .i64 (x1 + (1 : Int))) (IntKind.wrap .i64 (x5 + (1 : Int))))) (rfl)) (rfl))

theorem laws_heldByteS_start (k : Nat) (a0 : (List Int)) (a1 : Int) : fnK (laws_heldByteS_cx k) 8 61 laws_heldByteS_i laws_heldByteS_sh [.pv (.slice (.int .u8)) a0, .pv (.int .i64) a1] =
 ((loopK (laws_heldByteS_cx k) 0 (execK (laws_heldByteS_cx k) (callK (laws_heldByteS_cx k) 8) 0 61 (sub laws_heldByteS_c [1, 0, 1, 0, 0])) laws_heldByteS_l0_cut (blkK 0 (seqK (execK (laws_heldByteS_cx k) (callK (laws_heldByteS_cx k) 8) 0 61 (sub laws_heldByteS_c [1, 1])) (finK (laws_heldByteS_cx k) laws_heldByteS_i laws_heldByteS_sh))) k (laws_heldByteS_l0_s a0 a1 (0 : Int))) : Option (shDen laws_heldByteS_sh)) := by kernel_rfl

theorem laws_heldByteS_run (a0 : (List Int)) (a1 : Int) : fnK (laws_heldByteS_cx FUEL) 8 61 laws_heldByteS_i laws_heldByteS_sh [.pv (.slice (.int .u8)) a0, .pv (.int .i64) a1] = laws_heldByteS_r a0 a1 :=
 (laws_heldByteS_start FUEL a0 a1).trans ((laws_heldByteS_l0_L_eq _ a0 FUEL a1 (0 : Int)).trans (laws_heldByteS_l0_congr _ _ _ _ a0 FUEL a1 (0 : Int) (fun _ => (laws_heldByteS_l0_ret FUEL  ).trans (rfl)) (fun x1 => (laws_heldByteS_l0_exit0 FUEL  x1).trans (rfl))))

noncomputable def laws_heldByteS_con : Con := { ps := (.pair (.slice (.int .u8)) (.pair (.int .i64) .unit)), sh := laws_heldByteS_sh, raw := fun x => laws_heldByteS_r x.1 x.2.1 }
theorem laws_heldByteS_conOk : ConOk Try.prog 61 laws_heldByteS_con := con_of_fn (laws_heldByteS_tabs FUEL) (depth := 8) laws_heldByteS_ok fun x y h => (laws_heldByteS_run x.1 x.2.1).trans h

noncomputable def laws_heldCutter_inls : List (Nat × Inl) := []
noncomputable def laws_heldCutter_cons : List (Nat × Con) := [(61, laws_heldByteS_con)]
noncomputable def laws_heldCutter_taks : List (Nat × ConT) := []
noncomputable def laws_heldCutter_inps : List (Nat × ConI) := []
noncomputable def laws_heldCutter_cuts : List (Nat × List (Nat × Cut)) := []
noncomputable def laws_heldCutter_cx (k : Nat) : Cx := mkCx tys tbytes telem nozero (Ai.look laws_heldCutter_inls) (Ai.look laws_heldCutter_cons) (Ai.look laws_heldCutter_taks) (Ai.look laws_heldCutter_inps) (fun f id => match Ai.look laws_heldCutter_cuts f with | some l => Ai.look l id | none => none) k []
theorem laws_heldCutter_tabs (k : Nat) : TabsOk Try.prog (laws_heldCutter_cx k) := ⟨tab_mk tabs_ok _ _ _ _ _ _ _, look_all (Q := ConOk Try.prog) _ ⟨laws_heldByteS_conOk, trivial⟩, look_all (Q := TakOk Try.prog) _ trivial, look_all (Q := InpOk Try.prog) _ trivial, look_all (Q := InlOk Try.prog) _ trivial, mixed_ok⟩
abbrev laws_heldCutter_sh : List Sh := [.pl (.int .i64)]
noncomputable def laws_heldCutter_r (a0 : ((Int × (Int × (Int × Unit))) × (Int × ((List Int) × Unit)))) (a1 : Int) : Option (shDen laws_heldCutter_sh) :=
 (bindO (laws_heldByteS_r a0.2.2.1 a1) fun (b1 : Int) => (cond (decide (b1 < (0 : Int)))
 (some (-1 : Int))
 (some b1)))
theorem laws_heldCutter_start (k : Nat) (a0 : ((Int × (Int × (Int × Unit))) × (Int × ((List Int) × Unit)))) (a1 : Int) : fnK (laws_heldCutter_cx k) 8 19 laws_heldCutter_i laws_heldCutter_sh [.pv (.pair (.pair (.int .i64) (.pair (.int .i64) (.pair (.int .i64) .unit))) (.pair (.int .u32) (.pair (.slice (.int .u8)) .unit))) a0, .pv (.int .i64) a1] =
 ((bindO (laws_heldByteS_r a0.2.2.1 a1) fun (b1 : Int) => (cond (decide (b1 < (0 : Int)))
 (some (-1 : Int))
 (some b1))) : Option (shDen laws_heldCutter_sh)) := by kernel_rfl

theorem laws_heldCutter_run (a0 : ((Int × (Int × (Int × Unit))) × (Int × ((List Int) × Unit)))) (a1 : Int) : fnK (laws_heldCutter_cx FUEL) 8 19 laws_heldCutter_i laws_heldCutter_sh [.pv (.pair (.pair (.int .i64) (.pair (.int .i64) (.pair (.int .i64) .unit))) (.pair (.int .u32) (.pair (.slice (.int .u8)) .unit))) a0, .pv (.int .i64) a1] = laws_heldCutter_r a0 a1 :=
 (laws_heldCutter_start FUEL a0 a1).trans (rfl)

noncomputable def laws_heldCutter_con : Con := { ps := (.pair (.pair (.pair (.int .i64) (.pair (.int .i64) (.pair (.int .i64) .unit))) (.pair (.int .u32) (.pair (.slice (.int .u8)) .unit))) (.pair (.int .i64) .unit)), sh := laws_heldCutter_sh, raw := fun x => laws_heldCutter_r x.1 x.2.1 }
theorem laws_heldCutter_conOk : ConOk Try.prog 19 laws_heldCutter_con := con_of_fn (laws_heldCutter_tabs FUEL) (depth := 8) laws_heldCutter_ok fun x y h => (laws_heldCutter_run x.1 x.2.1).trans h

noncomputable def laws_heldByteSS_l0_cut : Cut := { keep := [0, 1, 5], stk := [], ids := [], own := [], outs := [(0, [4], []), (1, [1], [])] }
noncomputable def laws_heldByteSS_inls : List (Nat × Inl) := []
noncomputable def laws_heldByteSS_cons : List (Nat × Con) := [(61, laws_heldByteS_con)]
noncomputable def laws_heldByteSS_taks : List (Nat × ConT) := []
noncomputable def laws_heldByteSS_inps : List (Nat × ConI) := []
noncomputable def laws_heldByteSS_cuts : List (Nat × List (Nat × Cut)) := [(20, [(0, laws_heldByteSS_l0_cut)])]
noncomputable def laws_heldByteSS_cx (k : Nat) : Cx := mkCx tys tbytes telem nozero (Ai.look laws_heldByteSS_inls) (Ai.look laws_heldByteSS_cons) (Ai.look laws_heldByteSS_taks) (Ai.look laws_heldByteSS_inps) (fun f id => match Ai.look laws_heldByteSS_cuts f with | some l => Ai.look l id | none => none) k []
theorem laws_heldByteSS_tabs (k : Nat) : TabsOk Try.prog (laws_heldByteSS_cx k) := ⟨tab_mk tabs_ok _ _ _ _ _ _ _, look_all (Q := ConOk Try.prog) _ ⟨laws_heldByteS_conOk, trivial⟩, look_all (Q := TakOk Try.prog) _ trivial, look_all (Q := InpOk Try.prog) _ trivial, look_all (Q := InlOk Try.prog) _ trivial, mixed_ok⟩
abbrev laws_heldByteSS_sh : List Sh := [.pl (.int .i64)]
noncomputable def laws_heldByteSS_l0_s (a0 : (List (List Int))) (x1 : Int) (x5 : Int) : St := { env := [.pv (.slice (.slice (.int .u8))) a0, .pv (.int .i64) x1, .dead, .dead, .dead, .pv (.int .i64) x5, .dead, .dead, .dead, .dead, .dead, .dead, .dead, .dead, .dead, .dead, .dead, .dead, .dead, .dead, .dead], stk := [], heap := [] }
noncomputable def laws_heldByteSS_l0_o  : St := { env := [.dead, .dead, .dead, .dead, .pv (.int .i64) (-1 : Int), .dead, .dead, .dead, .dead, .dead, .dead, .dead, .dead, .dead, .dead, .dead, .dead, .dead, .dead, .dead, .dead], stk := [], heap := [] }
noncomputable def laws_heldByteSS_l0_o0 (x1 : Int) : St := { env := [.dead, .pv (.int .i64) x1, .dead, .dead, .dead, .dead, .dead, .dead, .dead, .dead, .dead, .dead, .dead, .dead, .dead, .dead, .dead, .dead, .dead, .dead, .dead], stk := [], heap := [] }
noncomputable def laws_heldByteSS_l0_b (rec : Int → Int → Option (shDen laws_heldByteSS_sh)) (kr : Option (shDen laws_heldByteSS_sh)) (ke0 : Int → Option (shDen laws_heldByteSS_sh)) (a0 : (List (List Int))) (x1 : Int) (x5 : Int) : Option (shDen laws_heldByteSS_sh) :=
 (cond (decide (x5 < (a0.length : Int)))
 (cond ((decide ((0 : Int) ≤ x5)) && (decide (x5 < (a0.length : Int))))
 (bindO (laws_heldByteS_r (a0.getD (x5.toNat) []) x1) fun (b2 : Int) => (cond (decide (b2 < (0 : Int)))
 (kr)
 (rec b2 (IntKind.wrap .i64 (x5 + (1 : Int))))))
 none)
 (ke0 x1))
noncomputable def laws_heldByteSS_l0_L (kr : Option (shDen laws_heldByteSS_sh)) (ke0 : Int → Option (shDen laws_heldByteSS_sh)) (a0 : (List (List Int))) : Nat → Int → Int → Option (shDen laws_heldByteSS_sh)
 | 0 => fun _ _ => none
 | n + 1 => laws_heldByteSS_l0_b (laws_heldByteSS_l0_L kr ke0 a0 n) kr ke0 a0
noncomputable def laws_heldByteSS_r (a0 : (List (List Int))) (a1 : Int) : Option (shDen laws_heldByteSS_sh) :=
 (laws_heldByteSS_l0_L (some (-1 : Int)) (fun x1 => (some x1)) a0 FUEL a1 (0 : Int))
theorem laws_heldByteSS_l0_round (k : Nat) (K : Ex → St → Option (shDen laws_heldByteSS_sh)) (n : Nat) (a0 : (List (List Int))) (x1 : Int) (x5 : Int) : (loopK (laws_heldByteSS_cx k) 0 (execK (laws_heldByteSS_cx k) (callK (laws_heldByteSS_cx k) 8) 0 20 (sub laws_heldByteSS_c [1, 0, 1, 0, 0])) laws_heldByteSS_l0_cut K (n + 1) (laws_heldByteSS_l0_s a0 x1 x5) : Option (shDen laws_heldByteSS_sh)) =
 ((cond (decide (x5 < (a0.length : Int)))
 (cond ((decide ((0 : Int) ≤ x5)) && (decide (x5 < (a0.length : Int))))
 (bindO (laws_heldByteS_r (a0.getD (x5.toNat) []) x1) fun (b2 : Int) => (cond (decide (b2 < (0 : Int)))
 (K .ret (laws_heldByteSS_l0_o ))
 (loopK (laws_heldByteSS_cx k) 0 (execK (laws_heldByteSS_cx k) (callK (laws_heldByteSS_cx k) 8) 0 20 (sub laws_heldByteSS_c [1, 0, 1, 0, 0])) laws_heldByteSS_l0_cut K n (laws_heldByteSS_l0_s a0 b2 (IntKind.wrap .i64 (x5 + (1 : Int)))))))
 none)
 (K (.exit 0) (laws_heldByteSS_l0_o0 x1))) : Option (shDen laws_heldByteSS_sh)) := by kernel_rfl

theorem laws_heldByteSS_l0_ret (k : Nat)   : ((blkK 0 (seqK (execK (laws_heldByteSS_cx k) (callK (laws_heldByteSS_cx k) 8) 0 20 (sub laws_heldByteSS_c [1, 1])) (finK (laws_heldByteSS_cx k) laws_heldByteSS_i laws_heldByteSS_sh))) .ret (laws_heldByteSS_l0_o) : Option (shDen laws_heldByteSS_sh)) =
 ((some (-1 : Int)) : Option (shDen laws_heldByteSS_sh)) := by kernel_rfl

theorem laws_heldByteSS_l0_exit0 (k : Nat)  (x1 : Int) : ((blkK 0 (seqK (execK (laws_heldByteSS_cx k) (callK (laws_heldByteSS_cx k) 8) 0 20 (sub laws_heldByteSS_c [1, 1])) (finK (laws_heldByteSS_cx k) laws_heldByteSS_i laws_heldByteSS_sh))) (.exit 0) (laws_heldByteSS_l0_o0 x1) : Option (shDen laws_heldByteSS_sh)) =
 ((some x1) : Option (shDen laws_heldByteSS_sh)) := by kernel_rfl

theorem laws_heldByteSS_l0_congr (kr : Option (shDen laws_heldByteSS_sh)) (ke0 : Int → Option (shDen laws_heldByteSS_sh)) (kr' : Option (shDen laws_heldByteSS_sh)) (ke0' : Int → Option (shDen laws_heldByteSS_sh)) (a0 : (List (List Int))) (n : Nat) (x1 : Int) (x5 : Int) (hkr : ∀ (_ : Unit), kr  = kr' ) (hke0 : ∀ x1, ke0 x1 = ke0' x1) : laws_heldByteSS_l0_L kr ke0 a0 n x1 x5 = laws_heldByteSS_l0_L kr' ke0' a0 n x1 x5 := by
 have : kr = kr' := hkr (); subst this; have : ke0 = ke0' := (by funext x1; exact hke0 x1); subst this; rfl

theorem laws_heldByteSS_l0_L_eq (K : Ex → St → Option (shDen laws_heldByteSS_sh)) (a0 : (List (List Int))) : ∀ (n : Nat) (x1 : Int) (x5 : Int), (loopK (laws_heldByteSS_cx FUEL) 0 (execK (laws_heldByteSS_cx FUEL) (callK (laws_heldByteSS_cx FUEL) 8) 0 20 (sub laws_heldByteSS_c [1, 0, 1, 0, 0])) laws_heldByteSS_l0_cut K n (laws_heldByteSS_l0_s a0 x1 x5) : Option (shDen laws_heldByteSS_sh)) = laws_heldByteSS_l0_L (K .ret (laws_heldByteSS_l0_o)) (fun x1 => K (.exit 0) (laws_heldByteSS_l0_o0 x1)) a0 n x1 x5 := by
 intro n
 induction n with
 | zero => intros; rfl
 | succ n ih =>
  intro x1 x5
  exact (laws_heldByteSS_l0_round FUEL K n a0 x1 x5).trans (condC (condC (bindC (fun b2 => condC (rfl) (ih b2 (IntKind.wrap .i64 (x5 + (1 : Int)))))) (rfl)) (rfl))

theorem laws_heldByteSS_start (k : Nat) (a0 : (List (List Int))) (a1 : Int) : fnK (laws_heldByteSS_cx k) 8 20 laws_heldByteSS_i laws_heldByteSS_sh [.pv (.slice (.slice (.int .u8))) a0, .pv (.int .i64) a1] =
 ((loopK (laws_heldByteSS_cx k) 0 (execK (laws_heldByteSS_cx k) (callK (laws_heldByteSS_cx k) 8) 0 20 (sub laws_heldByteSS_c [1, 0, 1, 0, 0])) laws_heldByteSS_l0_cut (blkK 0 (seqK (execK (laws_heldByteSS_cx k) (callK (laws_heldByteSS_cx k) 8) 0 20 (sub laws_heldByteSS_c [1, 1])) (finK (laws_heldByteSS_cx k) laws_heldByteSS_i laws_heldByteSS_sh))) k (laws_heldByteSS_l0_s a0 a1 (0 : Int))) : Option (shDen laws_heldByteSS_sh)) := by kernel_rfl

theorem laws_heldByteSS_run (a0 : (List (List Int))) (a1 : Int) : fnK (laws_heldByteSS_cx FUEL) 8 20 laws_heldByteSS_i laws_heldByteSS_sh [.pv (.slice (.slice (.int .u8))) a0, .pv (.int .i64) a1] = laws_heldByteSS_r a0 a1 :=
 (laws_heldByteSS_start FUEL a0 a1).trans ((laws_heldByteSS_l0_L_eq _ a0 FUEL a1 (0 : Int)).trans (laws_heldByteSS_l0_congr _ _ _ _ a0 FUEL a1 (0 : Int) (fun _ => (laws_heldByteSS_l0_ret FUEL  ).trans (rfl)) (fun x1 => (laws_heldByteSS_l0_exit0 FUEL  x1).trans (rfl))))

noncomputable def laws_heldByteSS_con : Con := { ps := (.pair (.slice (.slice (.int .u8))) (.pair (.int .i64) .unit)), sh := laws_heldByteSS_sh, raw := fun x => laws_heldByteSS_r x.1 x.2.1 }
theorem laws_heldByteSS_conOk : ConOk Try.prog 20 laws_heldByteSS_con := con_of_fn (laws_heldByteSS_tabs FUEL) (depth := 8) laws_heldByteSS_ok fun x y h => (laws_heldByteSS_run x.1 x.2.1).trans h

noncomputable def laws_FnExactFeedCutter_d_inls : List (Nat × Inl) := [(16, laws_markCutter_i)]
noncomputable def laws_FnExactFeedCutter_d_cons : List (Nat × Con) := [(8, laws_szCutter_con), (9, spec_FeedCutter_d_con), (10, laws_toCutter_con), (11, laws_toByteS_con), (12, impl_FeedCutter_d_con), (13, laws_eqCutter_con), (14, laws_eqByteSS_con), (15, laws_eqByteS_con), (19, laws_heldCutter_con), (20, laws_heldByteSS_con)]
noncomputable def laws_FnExactFeedCutter_d_taks : List (Nat × ConT) := []
noncomputable def laws_FnExactFeedCutter_d_inps : List (Nat × ConI) := [(17, laws_markByteS_inp), (18, laws_markByteSS_d_inp)]
noncomputable def laws_FnExactFeedCutter_d_cuts : List (Nat × List (Nat × Cut)) := []
noncomputable def laws_FnExactFeedCutter_d_cx (k : Nat) : Cx := mkCx tys tbytes telem nozero (Ai.look laws_FnExactFeedCutter_d_inls) (Ai.look laws_FnExactFeedCutter_d_cons) (Ai.look laws_FnExactFeedCutter_d_taks) (Ai.look laws_FnExactFeedCutter_d_inps) (fun f id => match Ai.look laws_FnExactFeedCutter_d_cuts f with | some l => Ai.look l id | none => none) k dps
theorem laws_FnExactFeedCutter_d_tabs (k : Nat) : TabsOk Try.prog (laws_FnExactFeedCutter_d_cx k) := ⟨tab_mk tabs_ok _ _ _ _ _ _ _, look_all (Q := ConOk Try.prog) _ ⟨laws_szCutter_conOk, spec_FeedCutter_d_conOk, laws_toCutter_conOk, laws_toByteS_conOk, impl_FeedCutter_d_conOk, laws_eqCutter_conOk, laws_eqByteSS_conOk, laws_eqByteS_conOk, laws_heldCutter_conOk, laws_heldByteSS_conOk, trivial⟩, look_all (Q := TakOk Try.prog) _ trivial, look_all (Q := InpOk Try.prog) _ ⟨laws_markByteS_inpOk, laws_markByteSS_d_inpOk, trivial⟩, look_all (Q := InlOk Try.prog) _ ⟨laws_markCutter_ok, trivial⟩, mixed_ok⟩
abbrev laws_FnExactFeedCutter_d_sh : List Sh := [.pl .bool]
noncomputable def laws_FnExactFeedCutter_d_r (a0 : ((Int × (Int × (Int × Unit))) × (Int × ((List Int) × Unit)))) (a1 : (List Int)) : Option (shDen laws_FnExactFeedCutter_d_sh) :=
 (cond (decide ((1048576 : Int) < (a1.length : Int)))
 (some true)
 (bindO (laws_szCutter_r a0 (1048576 : Int)) fun (b1 : Int) => (cond (decide (b1 < (0 : Int)))
 (some true)
 (bindO (laws_toCutter_r a0) fun (b2 : ((Int × (Int × (Int × Unit))) × (Int × ((List Int) × Unit)))) => (bindO (laws_toByteS_r a1) fun (b3 : (List Int)) => (bindO (spec_FeedCutter_d_r (b2.1, (b2.2.1, (b2.2.2.1, ()))) b3) fun (b4 : (((Int × (Int × (Int × Unit))) × (Int × ((List Int) × Unit))) × ((List (List Int)) × Int))) => (bindO (laws_toCutter_r a0) fun (b5 : ((Int × (Int × (Int × Unit))) × (Int × ((List Int) × Unit)))) => (bindO (laws_toByteS_r a1) fun (b6 : (List Int)) => (bindO (impl_FeedCutter_d_r (b5.1, (b5.2.1, (b5.2.2.1, ()))) b6) fun (b7 : (((Int × (Int × (Int × Unit))) × (Int × ((List Int) × Unit))) × ((List (List Int)) × Int))) => (bindO (laws_eqCutter_r (b7.1.1, (b7.1.2.1, (b7.1.2.2.1, ()))) (b4.1.1, (b4.1.2.1, (b4.1.2.2.1, ())))) fun (b8 : Bool) => (cond (!b8)
 (some false)
 (bindO (laws_eqByteSS_r b7.2.1 b4.2.1) fun (b9 : Bool) => (cond (!b9)
 (some false)
 (cond (!(decide (b7.2.2 = b4.2.2)))
 (some false)
 (bindO (laws_toCutter_r a0) fun (b10 : ((Int × (Int × (Int × Unit))) × (Int × ((List Int) × Unit)))) => (bindO (laws_eqCutter_r (b5.1, (b5.2.1, (b5.2.2.1, ()))) (b10.1, (b10.2.1, (b10.2.2.1, ())))) fun (b11 : Bool) => (cond (!b11)
 (some false)
 (bindO (laws_toByteS_r a1) fun (b12 : (List Int)) => (bindO (laws_eqByteS_r b6 b12) fun (b13 : Bool) => (cond (!b13)
 (some false)
 (bindO (laws_markByteS_r b5.2.2.1 (1 : Int)) fun (b14 : ((List Int) × Int)) => (bindO (laws_markByteS_r b6 b14.2) fun (b15 : ((List Int) × Int)) => (cond (decide (b15.2 < (0 : Int)))
 (some false)
 (bindO (laws_eqCutter_r (b7.1.1, (b7.1.2.1, (b7.1.2.2.1, ()))) (b4.1.1, (b4.1.2.1, (b4.1.2.2.1, ())))) fun (b16 : Bool) => (cond (!b16)
 (some false)
 (bindO (laws_eqByteSS_r b7.2.1 b4.2.1) fun (b17 : Bool) => (cond (!b17)
 (some false)
 (cond (!(decide (b7.2.2 = b4.2.2)))
 (some false)
 (bindO (laws_markByteS_r b7.1.2.2.1 (1 : Int)) fun (b18 : ((List Int) × Int)) => (bindO (laws_markByteSS_d_r b7.2.1 b18.2) fun (b19 : ((List (List Int)) × Int)) => (bindO (laws_heldCutter_r (b7.1.1, (b7.1.2.1, (b18.1, ()))) (1 : Int)) fun (b20 : Int) => (cond (decide (b20 < (0 : Int)))
 (some false)
 (bindO (laws_heldByteSS_r b19.1 b20) fun (b21 : Int) => (cond (decide (b21 < (0 : Int)))
 (some false)
 (cond (!(decide (b21 = b19.2)))
 (some false)
 (bindO (laws_toCutter_r a0) fun (b22 : ((Int × (Int × (Int × Unit))) × (Int × ((List Int) × Unit)))) => (bindO (laws_toByteS_r a1) fun (b23 : (List Int)) => (bindO (impl_FeedCutter_d_r (b22.1, (b22.2.1, (b22.2.2.1, ()))) b23) fun (b24 : (((Int × (Int × (Int × Unit))) × (Int × ((List Int) × Unit))) × ((List (List Int)) × Int))) => (bindO (laws_eqCutter_r (b24.1.1, (b24.1.2.1, (b24.1.2.2.1, ()))) (b4.1.1, (b4.1.2.1, (b4.1.2.2.1, ())))) fun (b25 : Bool) => (cond (!b25)
 (some false)
 (bindO (laws_eqByteSS_r b24.2.1 b4.2.1) fun (b26 : Bool) => (cond (!b26)
 (some false)
 (cond (!(decide (b24.2.2 = b4.2.2)))
 (some false)
 (bindO (laws_heldCutter_r (b7.1.1, (b7.1.2.1, (b18.1, ()))) (1 : Int)) fun (b27 : Int) => (cond (decide (b27 < (0 : Int)))
 (some false)
 (bindO (laws_heldByteSS_r b19.1 b27) fun (b28 : Int) => (cond (decide (b28 < (0 : Int)))
 (some false)
 (cond (!(decide (b28 = b19.2)))
 (some false)
 (some true)))))))))))))))))))))))))))))))))))))))))))))))))
theorem laws_FnExactFeedCutter_d_start (k : Nat) (a0 : ((Int × (Int × (Int × Unit))) × (Int × ((List Int) × Unit)))) (a1 : (List Int)) : fnK (laws_FnExactFeedCutter_d_cx k) 8 3 laws_FnExactFeedCutter_i laws_FnExactFeedCutter_d_sh [.pv (.pair (.pair (.int .i64) (.pair (.int .i64) (.pair (.int .i64) .unit))) (.pair (.int .u32) (.pair (.slice (.int .u8)) .unit))) a0, .pv (.slice (.int .u8)) a1] =
 ((cond (decide ((1048576 : Int) < (a1.length : Int)))
 (some true)
 (bindO (laws_szCutter_r a0 (1048576 : Int)) fun (b1 : Int) => (cond (decide (b1 < (0 : Int)))
 (some true)
 (bindO (laws_toCutter_r a0) fun (b2 : ((Int × (Int × (Int × Unit))) × (Int × ((List Int) × Unit)))) => (bindO (laws_toByteS_r a1) fun (b3 : (List Int)) => (bindO (spec_FeedCutter_d_r (b2.1, (b2.2.1, (b2.2.2.1, ()))) b3) fun (b4 : (((Int × (Int × (Int × Unit))) × (Int × ((List Int) × Unit))) × ((List (List Int)) × Int))) => (bindO (laws_toCutter_r a0) fun (b5 : ((Int × (Int × (Int × Unit))) × (Int × ((List Int) × Unit)))) => (bindO (laws_toByteS_r a1) fun (b6 : (List Int)) => (bindO (impl_FeedCutter_d_r (b5.1, (b5.2.1, (b5.2.2.1, ()))) b6) fun (b7 : (((Int × (Int × (Int × Unit))) × (Int × ((List Int) × Unit))) × ((List (List Int)) × Int))) => (bindO (laws_eqCutter_r (b7.1.1, (b7.1.2.1, (b7.1.2.2.1, ()))) (b4.1.1, (b4.1.2.1, (b4.1.2.2.1, ())))) fun (b8 : Bool) => (cond (!b8)
 (some false)
 (bindO (laws_eqByteSS_r b7.2.1 b4.2.1) fun (b9 : Bool) => (cond (!b9)
 (some false)
 (cond (!(decide (b7.2.2 = b4.2.2)))
 (some false)
 (bindO (laws_toCutter_r a0) fun (b10 : ((Int × (Int × (Int × Unit))) × (Int × ((List Int) × Unit)))) => (bindO (laws_eqCutter_r (b5.1, (b5.2.1, (b5.2.2.1, ()))) (b10.1, (b10.2.1, (b10.2.2.1, ())))) fun (b11 : Bool) => (cond (!b11)
 (some false)
 (bindO (laws_toByteS_r a1) fun (b12 : (List Int)) => (bindO (laws_eqByteS_r b6 b12) fun (b13 : Bool) => (cond (!b13)
 (some false)
 (bindO (laws_markByteS_r b5.2.2.1 (1 : Int)) fun (b14 : ((List Int) × Int)) => (bindO (laws_markByteS_r b6 b14.2) fun (b15 : ((List Int) × Int)) => (cond (decide (b15.2 < (0 : Int)))
 (some false)
 (bindO (laws_eqCutter_r (b7.1.1, (b7.1.2.1, (b7.1.2.2.1, ()))) (b4.1.1, (b4.1.2.1, (b4.1.2.2.1, ())))) fun (b16 : Bool) => (cond (!b16)
 (some false)
 (bindO (laws_eqByteSS_r b7.2.1 b4.2.1) fun (b17 : Bool) => (cond (!b17)
 (some false)
 (cond (!(decide (b7.2.2 = b4.2.2)))
 (some false)
 (bindO (laws_markByteS_r b7.1.2.2.1 (1 : Int)) fun (b18 : ((List Int) × Int)) => (bindO (laws_markByteSS_d_r b7.2.1 b18.2) fun (b19 : ((List (List Int)) × Int)) => (bindO (laws_heldCutter_r (b7.1.1, (b7.1.2.1, (b18.1, ()))) (1 : Int)) fun (b20 : Int) => (cond (decide (b20 < (0 : Int)))
 (some false)
 (bindO (laws_heldByteSS_r b19.1 b20) fun (b21 : Int) => (cond (decide (b21 < (0 : Int)))
 (some false)
 (cond (!(decide (b21 = b19.2)))
 (some false)
 (bindO (laws_toCutter_r a0) fun (b22 : ((Int × (Int × (Int × Unit))) × (Int × ((List Int) × Unit)))) => (bindO (laws_toByteS_r a1) fun (b23 : (List Int)) => (bindO (impl_FeedCutter_d_r (b22.1, (b22.2.1, (b22.2.2.1, ()))) b23) fun (b24 : (((Int × (Int × (Int × Unit))) × (Int × ((List Int) × Unit))) × ((List (List Int)) × Int))) => (bindO (laws_eqCutter_r (b24.1.1, (b24.1.2.1, (b24.1.2.2.1, ()))) (b4.1.1, (b4.1.2.1, (b4.1.2.2.1, ())))) fun (b25 : Bool) => (cond (!b25)
 (some false)
 (bindO (laws_eqByteSS_r b24.2.1 b4.2.1) fun (b26 : Bool) => (cond (!b26)
 (some false)
 (cond (!(decide (b24.2.2 = b4.2.2)))
 (some false)
 (bindO (laws_heldCutter_r (b7.1.1, (b7.1.2.1, (b18.1, ()))) (1 : Int)) fun (b27 : Int) => (cond (decide (b27 < (0 : Int)))
 (some false)
 (bindO (laws_heldByteSS_r b19.1 b27) fun (b28 : Int) => (cond (decide (b28 < (0 : Int)))
 (some false)
 (cond (!(decide (b28 = b19.2)))
 (some false)
 (some true))))))))))))))))))))))))))))))))))))))))))))))))) : Option (shDen laws_FnExactFeedCutter_d_sh)) := by kernel_rfl

theorem laws_FnExactFeedCutter_d_run (a0 : ((Int × (Int × (Int × Unit))) × (Int × ((List Int) × Unit)))) (a1 : (List Int)) : fnK (laws_FnExactFeedCutter_d_cx FUEL) 8 3 laws_FnExactFeedCutter_i laws_FnExactFeedCutter_d_sh [.pv (.pair (.pair (.int .i64) (.pair (.int .i64) (.pair (.int .i64) .unit))) (.pair (.int .u32) (.pair (.slice (.int .u8)) .unit))) a0, .pv (.slice (.int .u8)) a1] = laws_FnExactFeedCutter_d_r a0 a1 :=
 (laws_FnExactFeedCutter_d_start FUEL a0 a1).trans (rfl)

noncomputable def laws_FnExactFeedCutter_d_con : Con := { ps := (.pair (.pair (.pair (.int .i64) (.pair (.int .i64) (.pair (.int .i64) .unit))) (.pair (.int .u32) (.pair (.slice (.int .u8)) .unit))) (.pair (.slice (.int .u8)) .unit)), sh := laws_FnExactFeedCutter_d_sh, raw := fun x => laws_FnExactFeedCutter_d_r x.1 x.2.1 }
theorem laws_FnExactFeedCutter_d_conOk : ConOk Try.prog 3 laws_FnExactFeedCutter_d_con := con_of_fn (laws_FnExactFeedCutter_d_tabs FUEL) (depth := 8) laws_FnExactFeedCutter_ok fun x y h => (laws_FnExactFeedCutter_d_run x.1 x.2.1).trans h

end Go.Ai.G
