/- Made by a program of this work out of the program: tables and plain functions, with the proof that each Go function does what its plain function says. No conditions. -/
import Derived.Test.YtafhfllnkijfhabExactJoinMapsFn0
namespace Go.Ai.G
open Go.Proofs
open Go.Ai
set_option linter.unusedVariables false
set_option linter.unusedSimpArgs false
set_option maxRecDepth 100000

noncomputable def impl_find_l0_cut : Cut := { keep := [0, 1, 2, 8, 9, 10], stk := [[]], ids := [], own := [], outs := [(1, [0, 1, 2, 8, 9], [])] }
noncomputable def impl_find_inls : List (Nat × Inl) := [(142, slices_BinarySearchFunc_impl_Entry_impl_Entry_string_i)]
noncomputable def impl_find_cons : List (Nat × Con) := [(143, impl_find_1_con)]
noncomputable def impl_find_taks : List (Nat × ConT) := []
noncomputable def impl_find_inps : List (Nat × ConI) := []
noncomputable def impl_find_cuts : List (Nat × List (Nat × Cut)) := [(13400080142, [(0, impl_find_l0_cut)])]
noncomputable def impl_find_cx (k : Nat) : Cx := mkCx tys tbytes telem nozero (Ai.look impl_find_inls) (Ai.look impl_find_cons) (Ai.look impl_find_taks) (Ai.look impl_find_inps) (fun f id => match Ai.look impl_find_cuts f with | some l => Ai.look l id | none => none) k []
theorem impl_find_tabs (k : Nat) : TabsOk Try.prog (impl_find_cx k) := ⟨tab_mk tabs_ok _ _ _ _ _ _ _, look_all (Q := ConOk Try.prog) _ ⟨impl_find_1_conOk, trivial⟩, look_all (Q := TakOk Try.prog) _ trivial, look_all (Q := InpOk Try.prog) _ trivial, look_all (Q := InlOk Try.prog) _ ⟨slices_BinarySearchFunc_impl_Entry_impl_Entry_string_ok, trivial⟩, mixed_ok⟩
abbrev impl_find_sh : List Sh := [.pl (.int .i64), .pl .bool]
noncomputable def impl_find_l0_s (a0 : (List (List Int × (List Int × Unit)))) (a1 : List Int) (x9 : Int) (x10 : Int) : St := { env := [.pv (.slice (.pair .str (.pair .str .unit))) a0, .pv .str a1, .fn 143 (.pv .unit ()), .dead, .dead, .dead, .dead, .dead, .pv (.int .i64) (a0.length : Int), .pv (.int .i64) x9, .pv (.int .i64) x10, .dead, .dead, .dead, .dead, .dead, .dead, .dead, .dead, .dead, .dead, .dead, .dead, .dead, .dead, .dead, .dead, .dead, .dead, .dead, .dead, .dead, .dead, .dead, .dead, .dead, .dead, .dead, .dead, .dead, .dead, .dead, .dead, .dead, .dead, .dead, .dead, .dead, .dead], stk := [[.dead, .dead, .dead, .dead, .dead, .dead, .dead, .dead, .dead, .dead, .dead]], heap := [] }
noncomputable def impl_find_l0_o0 (a0 : (List (List Int × (List Int × Unit)))) (a1 : List Int) (x9 : Int) : St := { env := [.pv (.slice (.pair .str (.pair .str .unit))) a0, .pv .str a1, .fn 143 (.pv .unit ()), .dead, .dead, .dead, .dead, .dead, .pv (.int .i64) (a0.length : Int), .pv (.int .i64) x9, .dead, .dead, .dead, .dead, .dead, .dead, .dead, .dead, .dead, .dead, .dead, .dead, .dead, .dead, .dead, .dead, .dead, .dead, .dead, .dead, .dead, .dead, .dead, .dead, .dead, .dead, .dead, .dead, .dead, .dead, .dead, .dead, .dead, .dead, .dead, .dead, .dead, .dead, .dead], stk := [[.dead, .dead, .dead, .dead, .dead, .dead, .dead, .dead, .dead, .dead, .dead]], heap := [] }
noncomputable def impl_find_l0_b (rec : Int → Int → Option (shDen impl_find_sh)) (ke0 : Int → Option (shDen impl_find_sh)) (a0 : (List (List Int × (List Int × Unit)))) (a1 : List Int) (x9 : Int) (x10 : Int) : Option (shDen impl_find_sh) :=
 (cond (decide (x9 < x10))
 (cond ((decide ((0 : Int) ≤ (IntKind.wrap .i64 (shrI .u64 (IntKind.wrap .u64 (IntKind.wrap .i64 (x9 + x10))) (1 : Int))))) && (decide ((IntKind.wrap .i64 (shrI .u64 (IntKind.wrap .u64 (IntKind.wrap .i64 (x9 + x10))) (1 : Int))) < (a0.length : Int))))
 (bindO (impl_find_1_r (a0.getD ((IntKind.wrap .i64 (shrI .u64 (IntKind.wrap .u64 (IntKind.wrap .i64 (x9 + x10))) (1 : Int))).toNat) ([], ([], ()))) a1) fun (b2 : Int) => (cond (decide (b2 < (0 : Int)))
 (rec (IntKind.wrap .i64 ((IntKind.wrap .i64 (shrI .u64 (IntKind.wrap .u64 (IntKind.wrap .i64 (x9 + x10))) (1 : Int))) + (1 : Int))) x10)
 (rec x9 (IntKind.wrap .i64 (shrI .u64 (IntKind.wrap .u64 (IntKind.wrap .i64 (x9 + x10))) (1 : Int))))))
 none)
 (ke0 x9))
noncomputable def impl_find_l0_L (ke0 : Int → Option (shDen impl_find_sh)) (a0 : (List (List Int × (List Int × Unit)))) (a1 : List Int) : Nat → Int → Int → Option (shDen impl_find_sh)
 | 0 => fun _ _ => none
 | n + 1 => impl_find_l0_b (impl_find_l0_L ke0 a0 a1 n) ke0 a0 a1
noncomputable def impl_find_r (a0 : (List (List Int × (List Int × Unit)))) (a1 : List Int) : Option (shDen impl_find_sh) :=
 (impl_find_l0_L (fun x9 => (cond (decide (x9 < (a0.length : Int)))
 (cond ((decide ((0 : Int) ≤ x9)) && (decide (x9 < (a0.length : Int))))
 (bindO (impl_find_1_r (a0.getD (x9.toNat) ([], ([], ()))) a1) fun (b3 : Int) => (some (x9, (decide (b3 = (0 : Int))))))
 none)
 (some (x9, false)))) a0 a1 FUEL (0 : Int) (a0.length : Int))
theorem impl_find_l0_round (k : Nat) (K : Ex → St → Option (shDen impl_find_sh)) (n : Nat) (a0 : (List (List Int × (List Int × Unit)))) (a1 : List Int) (x9 : Int) (x10 : Int) : (loopK (impl_find_cx k) 1 (execK (impl_find_cx k) (callK (impl_find_cx k) 7) 1 13400080142 (sub slices_BinarySearchFunc_impl_Entry_impl_Entry_string_c [1, 1, 1, 0, 0, 0])) impl_find_l0_cut K (n + 1) (impl_find_l0_s a0 a1 x9 x10) : Option (shDen impl_find_sh)) =
 ((cond (decide (x9 < x10))
 (cond ((decide ((0 : Int) ≤ (IntKind.wrap .i64 (shrI .u64 (IntKind.wrap .u64 (IntKind.wrap .i64 (x9 + x10))) (1 : Int))))) && (decide ((IntKind.wrap .i64 (shrI .u64 (IntKind.wrap .u64 (IntKind.wrap .i64 (x9 + x10))) (1 : Int))) < (a0.length : Int))))
 (bindO (impl_find_1_r (a0.getD ((IntKind.wrap .i64 (shrI .u64 (IntKind.wrap .u64 (IntKind.wrap .i64 (x9 + x10))) (1 : Int))).toNat) ([], ([], ()))) a1) fun (b2 : Int) => (cond (decide (b2 < (0 : Int)))
 (loopK (impl_find_cx k) 1 (execK (impl_find_cx k) (callK (impl_find_cx k) 7) 1 13400080142 (sub slices_BinarySearchFunc_impl_Entry_impl_Entry_string_c [1, 1, 1, 0, 0, 0])) impl_find_l0_cut K n (impl_find_l0_s a0 a1 (IntKind.wrap .i64 ((IntKind.wrap .i64 (shrI .u64 (IntKind.wrap .u64 (IntKind.wrap .i64 (x9 + x10))) (1 : Int))) + (1 : Int))) x10))
 (loopK (impl_find_cx k) 1 (execK (impl_find_cx k) (callK (impl_find_cx k) 7) 1 13400080142 (sub slices_BinarySearchFunc_impl_Entry_impl_Entry_string_c [1, 1, 1, 0, 0, 0])) impl_find_l0_cut K n (impl_find_l0_s a0 a1 x9 (IntKind.wrap .i64 (shrI .u64 (IntKind.wrap .u64 (IntKind.wrap .i64 (x9 + x10))) (1 : Int)))))))
 none)
 (K (.exit 0) (impl_find_l0_o0 a0 a1 x9))) : Option (shDen impl_find_sh)) := by kernel_rfl

theorem impl_find_l0_exit0 (k : Nat)  (a0 : (List (List Int × (List Int × Unit)))) (a1 : List Int) (x9 : Int) : ((blkK 0 (seqK (execK (impl_find_cx k) (callK (impl_find_cx k) 7) 1 13400080142 (sub slices_BinarySearchFunc_impl_Entry_impl_Entry_string_c [1, 1, 1, 1])) (retK (impl_find_cx k) slices_BinarySearchFunc_impl_Entry_impl_Entry_string_i (some 8) 0 (opsRest (impl_find_cx k) (callK (impl_find_cx k) 8) 0 134 false (regOps (sub impl_find_c [1, 0])) 2 (seqK (execK (impl_find_cx k) (callK (impl_find_cx k) 8) 0 134 (sub impl_find_c [1, 1])) (finK (impl_find_cx k) impl_find_i impl_find_sh)))))) (.exit 0) (impl_find_l0_o0 a0 a1 x9) : Option (shDen impl_find_sh)) =
 ((cond (decide (x9 < (a0.length : Int)))
 (cond ((decide ((0 : Int) ≤ x9)) && (decide (x9 < (a0.length : Int))))
 (bindO (impl_find_1_r (a0.getD (x9.toNat) ([], ([], ()))) a1) fun (b3 : Int) => (some (x9, (decide (b3 = (0 : Int))))))
 none)
 (some (x9, false))) : Option (shDen impl_find_sh)) := by kernel_rfl

theorem impl_find_l0_congr (ke0 : Int → Option (shDen impl_find_sh)) (ke0' : Int → Option (shDen impl_find_sh)) (a0 : (List (List Int × (List Int × Unit)))) (a1 : List Int) (n : Nat) (x9 : Int) (x10 : Int) (hke0 : ∀ x9, ke0 x9 = ke0' x9) : impl_find_l0_L ke0 a0 a1 n x9 x10 = impl_find_l0_L ke0' a0 a1 n x9 x10 := by
 have : ke0 = ke0' := (by funext x9; exact hke0 x9); subst this; rfl

theorem impl_find_l0_L_eq (K : Ex → St → Option (shDen impl_find_sh)) (a0 : (List (List Int × (List Int × Unit)))) (a1 : List Int) : ∀ (n : Nat) (x9 : Int) (x10 : Int), (loopK (impl_find_cx FUEL) 1 (execK (impl_find_cx FUEL) (callK (impl_find_cx FUEL) 7) 1 13400080142 (sub slices_BinarySearchFunc_impl_Entry_impl_Entry_string_c [1, 1, 1, 0, 0, 0])) impl_find_l0_cut K n (impl_find_l0_s a0 a1 x9 x10) : Option (shDen impl_find_sh)) = impl_find_l0_L (fun x9 => K (.exit 0) (impl_find_l0_o0 a0 a1 x9)) a0 a1 n x9 x10 := by
 intro n
 induction n with
 | zero => intros; rfl
 | succ n ih =>
  intro x9 x10
  exact (impl_find_l0_round FUEL K n a0 a1 x9 x10).trans (condC (condC (bindC (fun b2 => condC (ih (IntKind.wrap .i64 ((IntKind.wrap .i64 (shrI .u64 (IntKind.wrap .u64 (IntKind.wrap .i64 (x9 + x10))) (1 : Int))) + (1 : Int))) x10) (ih x9 (IntKind.wrap .i64 (shrI .u64 (IntKind.wrap .u64 (IntKind.wrap .i64 (x9 + x10))) (1 : Int)))))) (rfl)) (rfl))

theorem impl_find_start (k : Nat) (a0 : (List (List Int × (List Int × Unit)))) (a1 : List Int) : fnK (impl_find_cx k) 8 134 impl_find_i impl_find_sh [.pv (.slice (.pair .str (.pair .str .unit))) a0, .pv .str a1] =
 ((loopK (impl_find_cx k) 1 (execK (impl_find_cx k) (callK (impl_find_cx k) 7) 1 13400080142 (sub slices_BinarySearchFunc_impl_Entry_impl_Entry_string_c [1, 1, 1, 0, 0, 0])) impl_find_l0_cut (blkK 0 (seqK (execK (impl_find_cx k) (callK (impl_find_cx k) 7) 1 13400080142 (sub slices_BinarySearchFunc_impl_Entry_impl_Entry_string_c [1, 1, 1, 1])) (retK (impl_find_cx k) slices_BinarySearchFunc_impl_Entry_impl_Entry_string_i (some 8) 0 (opsRest (impl_find_cx k) (callK (impl_find_cx k) 8) 0 134 false (regOps (sub impl_find_c [1, 0])) 2 (seqK (execK (impl_find_cx k) (callK (impl_find_cx k) 8) 0 134 (sub impl_find_c [1, 1])) (finK (impl_find_cx k) impl_find_i impl_find_sh)))))) k (impl_find_l0_s a0 a1 (0 : Int) (a0.length : Int))) : Option (shDen impl_find_sh)) := by kernel_rfl

theorem impl_find_run (a0 : (List (List Int × (List Int × Unit)))) (a1 : List Int) : fnK (impl_find_cx FUEL) 8 134 impl_find_i impl_find_sh [.pv (.slice (.pair .str (.pair .str .unit))) a0, .pv .str a1] = impl_find_r a0 a1 :=
 (impl_find_start FUEL a0 a1).trans ((impl_find_l0_L_eq _ a0 a1 FUEL (0 : Int) (a0.length : Int)).trans (impl_find_l0_congr _ _ a0 a1 FUEL (0 : Int) (a0.length : Int) (fun x9 => (impl_find_l0_exit0 FUEL  a0 a1 x9).trans (rfl))))

noncomputable def impl_find_con : Con := { ps := (.pair (.slice (.pair .str (.pair .str .unit))) (.pair .str .unit)), sh := impl_find_sh, raw := fun x => impl_find_r x.1 x.2.1 }
theorem impl_find_conOk : ConOk Try.prog 134 impl_find_con := con_of_fn (impl_find_tabs FUEL) (depth := 8) impl_find_ok fun x y h => (impl_find_run x.1 x.2.1).trans h

noncomputable def impl_same_inls : List (Nat × Inl) := []
noncomputable def impl_same_cons : List (Nat × Con) := [(134, impl_find_con)]
noncomputable def impl_same_taks : List (Nat × ConT) := []
noncomputable def impl_same_inps : List (Nat × ConI) := []
noncomputable def impl_same_cuts : List (Nat × List (Nat × Cut)) := []
noncomputable def impl_same_cx (k : Nat) : Cx := mkCx tys tbytes telem nozero (Ai.look impl_same_inls) (Ai.look impl_same_cons) (Ai.look impl_same_taks) (Ai.look impl_same_inps) (fun f id => match Ai.look impl_same_cuts f with | some l => Ai.look l id | none => none) k []
theorem impl_same_tabs (k : Nat) : TabsOk Try.prog (impl_same_cx k) := ⟨tab_mk tabs_ok _ _ _ _ _ _ _, look_all (Q := ConOk Try.prog) _ ⟨impl_find_conOk, trivial⟩, look_all (Q := TakOk Try.prog) _ trivial, look_all (Q := InpOk Try.prog) _ trivial, look_all (Q := InlOk Try.prog) _ trivial, mixed_ok⟩
abbrev impl_same_sh : List Sh := [.pl .bool]
noncomputable def impl_same_r (a0 : (List (List Int × (List Int × Unit)))) (a1 : (List (List Int × (List Int × Unit)))) (a2 : List Int) : Option (shDen impl_same_sh) :=
 (bindO (impl_find_r a0 a2) fun (b1 : (Int × Bool)) => (bindO (impl_find_r a1 a2) fun (b2 : (Int × Bool)) => (cond (decide (b1.2 = b2.2))
 (cond (!b1.2)
 (some true)
 (cond ((decide ((0 : Int) ≤ b1.1)) && (decide (b1.1 < (a0.length : Int))))
 (cond ((decide ((0 : Int) ≤ b2.1)) && (decide (b2.1 < (a1.length : Int))))
 (some (decide (((a0.getD (b1.1.toNat) ([], ([], ()))).2).1 = ((a1.getD (b2.1.toNat) ([], ([], ()))).2).1)))
 none)
 none))
 (some false))))
theorem impl_same_start (k : Nat) (a0 : (List (List Int × (List Int × Unit)))) (a1 : (List (List Int × (List Int × Unit)))) (a2 : List Int) : fnK (impl_same_cx k) 8 132 impl_same_i impl_same_sh [.pv (.slice (.pair .str (.pair .str .unit))) a0, .pv (.slice (.pair .str (.pair .str .unit))) a1, .pv .str a2] =
 ((bindO (impl_find_r a0 a2) fun (b1 : (Int × Bool)) => (bindO (impl_find_r a1 a2) fun (b2 : (Int × Bool)) => (cond (decide (b1.2 = b2.2))
 (cond (!b1.2)
 (some true)
 (cond ((decide ((0 : Int) ≤ b1.1)) && (decide (b1.1 < (a0.length : Int))))
 (cond ((decide ((0 : Int) ≤ b2.1)) && (decide (b2.1 < (a1.length : Int))))
 (some (decide (((a0.getD (b1.1.toNat) ([], ([], ()))).2).1 = ((a1.getD (b2.1.toNat) ([], ([], ()))).2).1)))
 none)
 none))
 (some false)))) : Option (shDen impl_same_sh)) := by kernel_rfl

theorem impl_same_run (a0 : (List (List Int × (List Int × Unit)))) (a1 : (List (List Int × (List Int × Unit)))) (a2 : List Int) : fnK (impl_same_cx FUEL) 8 132 impl_same_i impl_same_sh [.pv (.slice (.pair .str (.pair .str .unit))) a0, .pv (.slice (.pair .str (.pair .str .unit))) a1, .pv .str a2] = impl_same_r a0 a1 a2 :=
 (impl_same_start FUEL a0 a1 a2).trans (rfl)

noncomputable def impl_same_con : Con := { ps := (.pair (.slice (.pair .str (.pair .str .unit))) (.pair (.slice (.pair .str (.pair .str .unit))) (.pair .str .unit))), sh := impl_same_sh, raw := fun x => impl_same_r x.1 x.2.1 x.2.2.1 }
theorem impl_same_conOk : ConOk Try.prog 132 impl_same_con := con_of_fn (impl_same_tabs FUEL) (depth := 8) impl_same_ok fun x y h => (impl_same_run x.1 x.2.1 x.2.2.1).trans h

noncomputable def impl_told_inls : List (Nat × Inl) := []
noncomputable def impl_told_cons : List (Nat × Con) := [(134, impl_find_con)]
noncomputable def impl_told_taks : List (Nat × ConT) := []
noncomputable def impl_told_inps : List (Nat × ConI) := []
noncomputable def impl_told_cuts : List (Nat × List (Nat × Cut)) := []
noncomputable def impl_told_cx (k : Nat) : Cx := mkCx tys tbytes telem nozero (Ai.look impl_told_inls) (Ai.look impl_told_cons) (Ai.look impl_told_taks) (Ai.look impl_told_inps) (fun f id => match Ai.look impl_told_cuts f with | some l => Ai.look l id | none => none) k []
theorem impl_told_tabs (k : Nat) : TabsOk Try.prog (impl_told_cx k) := ⟨tab_mk tabs_ok _ _ _ _ _ _ _, look_all (Q := ConOk Try.prog) _ ⟨impl_find_conOk, trivial⟩, look_all (Q := TakOk Try.prog) _ trivial, look_all (Q := InpOk Try.prog) _ trivial, look_all (Q := InlOk Try.prog) _ trivial, mixed_ok⟩
abbrev impl_told_sh : List Sh := [.pl (.pair .str (.pair .bool (.pair .str (.pair .bool (.pair .str .unit)))))]
noncomputable def impl_told_r (a0 : (List (List Int × (List Int × Unit)))) (a1 : List Int) : Option (shDen impl_told_sh) :=
 (bindO (impl_find_r a0 a1) fun (b1 : (Int × Bool)) => (cond b1.2
 (cond ((decide ((0 : Int) ≤ b1.1)) && (decide (b1.1 < (a0.length : Int))))
 (some (a1, (false, ([], (true, (((a0.getD (b1.1.toNat) ([], ([], ()))).2).1, ()))))))
 none)
 (some (a1, (false, ([], (false, ([], ()))))))))
theorem impl_told_start (k : Nat) (a0 : (List (List Int × (List Int × Unit)))) (a1 : List Int) : fnK (impl_told_cx k) 8 133 impl_told_i impl_told_sh [.pv (.slice (.pair .str (.pair .str .unit))) a0, .pv .str a1] =
 ((bindO (impl_find_r a0 a1) fun (b1 : (Int × Bool)) => (cond b1.2
 (cond ((decide ((0 : Int) ≤ b1.1)) && (decide (b1.1 < (a0.length : Int))))
 (some (a1, (false, ([], (true, (((a0.getD (b1.1.toNat) ([], ([], ()))).2).1, ()))))))
 none)
 (some (a1, (false, ([], (false, ([], ())))))))) : Option (shDen impl_told_sh)) := by kernel_rfl

theorem impl_told_run (a0 : (List (List Int × (List Int × Unit)))) (a1 : List Int) : fnK (impl_told_cx FUEL) 8 133 impl_told_i impl_told_sh [.pv (.slice (.pair .str (.pair .str .unit))) a0, .pv .str a1] = impl_told_r a0 a1 :=
 (impl_told_start FUEL a0 a1).trans (rfl)

noncomputable def impl_told_con : Con := { ps := (.pair (.slice (.pair .str (.pair .str .unit))) (.pair .str .unit)), sh := impl_told_sh, raw := fun x => impl_told_r x.1 x.2.1 }
theorem impl_told_conOk : ConOk Try.prog 133 impl_told_con := con_of_fn (impl_told_tabs FUEL) (depth := 8) impl_told_ok fun x y h => (impl_told_run x.1 x.2.1).trans h

noncomputable def impl_joined_l0_cut : Cut := { keep := [0, 1, 2, 3, 11, 27, 28, 29], stk := [[]], ids := [40, 50, 100270, 190110], own := [(11, 190110, 152)], outs := [(1, [0, 1, 2, 3, 11], [40, 50, 190110])] }
noncomputable def impl_joined_l1_cut : Cut := { keep := [0, 1, 2, 3, 14, 15, 44, 45, 46], stk := [[]], ids := [40, 50, 190110, 190140, 190150], own := [(14, 190140, 53), (15, 190150, 60)], outs := [(3, [14, 15], [190140, 190150])] }
noncomputable def impl_joined_inls : List (Nat × Inl) := [(110, impl_mergeBy_i), (111, impl_joined_1_i)]
noncomputable def impl_joined_cons : List (Nat × Con) := [(129, slices_Concat_impl_Entry_impl_Entry_con), (132, impl_same_con), (133, impl_told_con), (134, impl_find_con)]
noncomputable def impl_joined_taks : List (Nat × ConT) := [(131, slices_Compact_string_string_tak)]
noncomputable def impl_joined_inps : List (Nat × ConI) := [(130, slices_Sort_string_string_inp)]
noncomputable def impl_joined_cuts : List (Nat × List (Nat × Cut)) := [(7500160110, [(0, impl_joined_l0_cut), (2, impl_joined_l1_cut)])]
noncomputable def impl_joined_cx (k : Nat) : Cx := mkCx tys tbytes telem nozero (Ai.look impl_joined_inls) (Ai.look impl_joined_cons) (Ai.look impl_joined_taks) (Ai.look impl_joined_inps) (fun f id => match Ai.look impl_joined_cuts f with | some l => Ai.look l id | none => none) k []
theorem impl_joined_tabs (k : Nat) : TabsOk Try.prog (impl_joined_cx k) := ⟨tab_mk tabs_ok _ _ _ _ _ _ _, look_all (Q := ConOk Try.prog) _ ⟨slices_Concat_impl_Entry_impl_Entry_conOk, impl_same_conOk, impl_told_conOk, impl_find_conOk, trivial⟩, look_all (Q := TakOk Try.prog) _ ⟨slices_Compact_string_string_takOk, trivial⟩, look_all (Q := InpOk Try.prog) _ ⟨slices_Sort_string_string_inpOk, trivial⟩, look_all (Q := InlOk Try.prog) _ ⟨impl_mergeBy_ok, impl_joined_1_ok, trivial⟩, mixed_ok⟩
abbrev impl_joined_sh : List Sh := [.own 108 (.pair .str (.pair .str .unit)), .pl (.int .i64)]
noncomputable def impl_joined_l0_s (a0 : (List (List Int × (List Int × Unit)))) (a1 : (List (List Int × (List Int × Unit)))) (a2 : (List (List Int × (List Int × Unit)))) (x28 : Int) (z100270 : (List (List Int × (List Int × Unit)))) (x29 : Int) (z190110 : (List (List Int))) : St := { env := [.pv (.slice (.pair .str (.pair .str .unit))) a0, .pv (.slice (.pair .str (.pair .str .unit))) a1, .pv (.slice (.pair .str (.pair .str .unit))) a2, .fn 111 (.pr (.ptr 40 (.slice (.pair .str (.pair .str .unit))) []) (.pr (.ptr 50 (.slice (.pair .str (.pair .str .unit))) []) (.pv .unit ()))), .dead, .dead, .dead, .dead, .dead, .dead, .dead, .sl 190110 .str, .dead, .dead, .dead, .dead, .dead, .dead, .dead, .dead, .dead, .dead, .dead, .dead, .dead, .dead, .dead, .sl 100270 (.pair .str (.pair .str .unit)), .pv (.int .i64) x28, .pv (.int .i64) x29, .dead, .dead, .dead, .dead, .dead, .dead, .dead, .dead, .dead, .dead, .dead, .dead, .dead, .dead, .dead, .dead, .dead, .dead, .dead, .dead, .dead, .dead, .dead, .dead, .dead, .dead, .dead, .dead, .dead, .dead, .dead, .dead, .dead, .dead, .dead, .dead, .dead, .dead, .dead, .dead, .dead, .dead, .dead, .dead, .dead, .dead, .dead, .dead, .dead, .dead, .dead, .dead, .dead, .dead, .dead, .dead, .dead, .dead, .dead, .dead, .dead, .dead, .dead, .dead, .dead, .dead, .dead, .dead, .dead, .dead, .dead, .dead, .dead, .dead, .dead, .dead, .dead], stk := [[.dead, .dead, .dead, .dead, .dead, .dead, .dead, .dead, .dead, .dead, .dead, .dead, .dead, .dead, .dead, .dead, .dead, .dead, .dead, .dead, .dead, .dead]], heap := [(40, .var (.slice (.pair .str (.pair .str .unit))) (.pv (.slice (.pair .str (.pair .str .unit))) a1)), (50, .var (.slice (.pair .str (.pair .str .unit))) (.pv (.slice (.pair .str (.pair .str .unit))) a2)), (100270, .arr 108 (.pair .str (.pair .str .unit)) z100270), (190110, .arr 9 .str z190110)] }
noncomputable def impl_joined_l0_o0 (a0 : (List (List Int × (List Int × Unit)))) (a1 : (List (List Int × (List Int × Unit)))) (a2 : (List (List Int × (List Int × Unit)))) (z190110 : (List (List Int))) : St := { env := [.pv (.slice (.pair .str (.pair .str .unit))) a0, .pv (.slice (.pair .str (.pair .str .unit))) a1, .pv (.slice (.pair .str (.pair .str .unit))) a2, .fn 111 (.pr (.ptr 40 (.slice (.pair .str (.pair .str .unit))) []) (.pr (.ptr 50 (.slice (.pair .str (.pair .str .unit))) []) (.pv .unit ()))), .dead, .dead, .dead, .dead, .dead, .dead, .dead, .sl 190110 .str, .dead, .dead, .dead, .dead, .dead, .dead, .dead, .dead, .dead, .dead, .dead, .dead, .dead, .dead, .dead, .dead, .dead, .dead, .dead, .dead, .dead, .dead, .dead, .dead, .dead, .dead, .dead, .dead, .dead, .dead, .dead, .dead, .dead, .dead, .dead, .dead, .dead, .dead, .dead, .dead, .dead, .dead, .dead, .dead, .dead, .dead, .dead, .dead, .dead, .dead, .dead, .dead, .dead, .dead, .dead, .dead, .dead, .dead, .dead, .dead, .dead, .dead, .dead, .dead, .dead, .dead, .dead, .dead, .dead, .dead, .dead, .dead, .dead, .dead, .dead, .dead, .dead, .dead, .dead, .dead, .dead, .dead, .dead, .dead, .dead, .dead, .dead, .dead, .dead, .dead, .dead, .dead, .dead, .dead, .dead], stk := [[.dead, .dead, .dead, .dead, .dead, .dead, .dead, .dead, .dead, .dead, .dead, .dead, .dead, .dead, .dead, .dead, .dead, .dead, .dead, .dead, .dead, .dead]], heap := [(40, .var (.slice (.pair .str (.pair .str .unit))) (.pv (.slice (.pair .str (.pair .str .unit))) a1)), (50, .var (.slice (.pair .str (.pair .str .unit))) (.pv (.slice (.pair .str (.pair .str .unit))) a2)), (190110, .arr 9 .str z190110)] }
noncomputable def impl_joined_l1_s (a0 : (List (List Int × (List Int × Unit)))) (a1 : (List (List Int × (List Int × Unit)))) (a2 : (List (List Int × (List Int × Unit)))) (x45 : Int) (z190110 : (List (List Int))) (x46 : Int) (z190140 : (List (List Int × (List Int × Unit)))) (z190150 : (List (List Int × ((List Int × (Bool × (List Int × (Bool × (List Int × Unit))))) × ((List Int × (Bool × (List Int × (Bool × (List Int × Unit))))) × ((List Int × (Bool × (List Int × (Bool × (List Int × Unit))))) × Unit)))))) : St := { env := [.pv (.slice (.pair .str (.pair .str .unit))) a0, .pv (.slice (.pair .str (.pair .str .unit))) a1, .pv (.slice (.pair .str (.pair .str .unit))) a2, .fn 111 (.pr (.ptr 40 (.slice (.pair .str (.pair .str .unit))) []) (.pr (.ptr 50 (.slice (.pair .str (.pair .str .unit))) []) (.pv .unit ()))), .dead, .dead, .dead, .dead, .dead, .dead, .dead, .dead, .dead, .dead, .sl 190140 (.pair .str (.pair .str .unit)), .sl 190150 (.pair .str (.pair (.pair .str (.pair .bool (.pair .str (.pair .bool (.pair .str .unit))))) (.pair (.pair .str (.pair .bool (.pair .str (.pair .bool (.pair .str .unit))))) (.pair (.pair .str (.pair .bool (.pair .str (.pair .bool (.pair .str .unit))))) .unit)))), .dead, .dead, .dead, .dead, .dead, .dead, .dead, .dead, .dead, .dead, .dead, .dead, .dead, .dead, .dead, .dead, .dead, .dead, .dead, .dead, .dead, .dead, .dead, .dead, .dead, .dead, .dead, .dead, .sl 190110 .str, .pv (.int .i64) x45, .pv (.int .i64) x46, .dead, .dead, .dead, .dead, .dead, .dead, .dead, .dead, .dead, .dead, .dead, .dead, .dead, .dead, .dead, .dead, .dead, .dead, .dead, .dead, .dead, .dead, .dead, .dead, .dead, .dead, .dead, .dead, .dead, .dead, .dead, .dead, .dead, .dead, .dead, .dead, .dead, .dead, .dead, .dead, .dead, .dead, .dead, .dead, .dead, .dead, .dead, .dead, .dead, .dead, .dead, .dead, .dead, .dead, .dead, .dead, .dead, .dead, .dead, .dead], stk := [[.dead, .dead, .dead, .dead, .dead, .dead, .dead, .dead, .dead, .dead, .dead, .dead, .dead, .dead, .dead, .dead, .dead, .dead, .dead, .dead, .dead, .dead]], heap := [(40, .var (.slice (.pair .str (.pair .str .unit))) (.pv (.slice (.pair .str (.pair .str .unit))) a1)), (50, .var (.slice (.pair .str (.pair .str .unit))) (.pv (.slice (.pair .str (.pair .str .unit))) a2)), (190110, .arr 9 .str z190110), (190140, .arr 108 (.pair .str (.pair .str .unit)) z190140), (190150, .arr 116 (.pair .str (.pair (.pair .str (.pair .bool (.pair .str (.pair .bool (.pair .str .unit))))) (.pair (.pair .str (.pair .bool (.pair .str (.pair .bool (.pair .str .unit))))) (.pair (.pair .str (.pair .bool (.pair .str (.pair .bool (.pair .str .unit))))) .unit)))) z190150)] }
noncomputable def impl_joined_l1_o2 (a1 : (List (List Int × (List Int × Unit)))) (a2 : (List (List Int × (List Int × Unit)))) (z190140 : (List (List Int × (List Int × Unit)))) (z190150 : (List (List Int × ((List Int × (Bool × (List Int × (Bool × (List Int × Unit))))) × ((List Int × (Bool × (List Int × (Bool × (List Int × Unit))))) × ((List Int × (Bool × (List Int × (Bool × (List Int × Unit))))) × Unit)))))) : St := { env := [.dead, .dead, .dead, .dead, .dead, .dead, .dead, .dead, .dead, .dead, .dead, .dead, .dead, .dead, .sl 190140 (.pair .str (.pair .str .unit)), .sl 190150 (.pair .str (.pair (.pair .str (.pair .bool (.pair .str (.pair .bool (.pair .str .unit))))) (.pair (.pair .str (.pair .bool (.pair .str (.pair .bool (.pair .str .unit))))) (.pair (.pair .str (.pair .bool (.pair .str (.pair .bool (.pair .str .unit))))) .unit)))), .dead, .dead, .dead, .dead, .dead, .dead, .dead, .dead, .dead, .dead, .dead, .dead, .dead, .dead, .dead, .dead, .dead, .dead, .dead, .dead, .dead, .dead, .dead, .dead, .dead, .dead, .dead, .dead, .dead, .dead, .dead, .dead, .dead, .dead, .dead, .dead, .dead, .dead, .dead, .dead, .dead, .dead, .dead, .dead, .dead, .dead, .dead, .dead, .dead, .dead, .dead, .dead, .dead, .dead, .dead, .dead, .dead, .dead, .dead, .dead, .dead, .dead, .dead, .dead, .dead, .dead, .dead, .dead, .dead, .dead, .dead, .dead, .dead, .dead, .dead, .dead, .dead, .dead, .dead, .dead, .dead, .dead, .dead, .dead, .dead, .dead, .dead, .dead, .dead, .dead, .dead], stk := [[.dead, .dead, .dead, .dead, .dead, .dead, .dead, .dead, .dead, .dead, .dead, .dead, .dead, .dead, .dead, .dead, .dead, .dead, .dead, .dead, .dead, .dead]], heap := [(40, .var (.slice (.pair .str (.pair .str .unit))) (.pv (.slice (.pair .str (.pair .str .unit))) a1)), (50, .var (.slice (.pair .str (.pair .str .unit))) (.pv (.slice (.pair .str (.pair .str .unit))) a2)), (190140, .arr 108 (.pair .str (.pair .str .unit)) z190140), (190150, .arr 116 (.pair .str (.pair (.pair .str (.pair .bool (.pair .str (.pair .bool (.pair .str .unit))))) (.pair (.pair .str (.pair .bool (.pair .str (.pair .bool (.pair .str .unit))))) (.pair (.pair .str (.pair .bool (.pair .str (.pair .bool (.pair .str .unit))))) .unit)))) z190150)] }
noncomputable def impl_joined_l1_b (rec : Int → (List (List Int)) → Int → (List (List Int × (List Int × Unit))) → (List (List Int × ((List Int × (Bool × (List Int × (Bool × (List Int × Unit))))) × ((List Int × (Bool × (List Int × (Bool × (List Int × Unit))))) × ((List Int × (Bool × (List Int × (Bool × (List Int × Unit))))) × Unit))))) → Option (shDen impl_joined_sh)) (ke2 : (List (List Int × (List Int × Unit))) → (List (List Int × ((List Int × (Bool × (List Int × (Bool × (List Int × Unit))))) × ((List Int × (Bool × (List Int × (Bool × (List Int × Unit))))) × ((List Int × (Bool × (List Int × (Bool × (List Int × Unit))))) × Unit))))) → Option (shDen impl_joined_sh)) (a0 : (List (List Int × (List Int × Unit)))) (a1 : (List (List Int × (List Int × Unit)))) (a2 : (List (List Int × (List Int × Unit)))) (x45 : Int) (z190110 : (List (List Int))) (x46 : Int) (z190140 : (List (List Int × (List Int × Unit)))) (z190150 : (List (List Int × ((List Int × (Bool × (List Int × (Bool × (List Int × Unit))))) × ((List Int × (Bool × (List Int × (Bool × (List Int × Unit))))) × ((List Int × (Bool × (List Int × (Bool × (List Int × Unit))))) × Unit)))))) : Option (shDen impl_joined_sh) :=
 (cond (decide (x46 < x45))
 (cond ((decide ((0 : Int) ≤ x46)) && (decide (x46 < (z190110.length : Int))))
 (bindO (impl_same_r a1 a2 (z190110.getD (x46.toNat) [])) fun (b17 : Bool) => (cond b17
 (bindO (impl_find_r a1 (z190110.getD (x46.toNat) [])) fun (b18 : (Int × Bool)) => (cond b18.2
 (cond ((decide ((0 : Int) ≤ b18.1)) && (decide (b18.1 < (a1.length : Int))))
 (cond (decide ((z190140.length + 1) * 32 ≤ 140737488355328) && decide (z190140.length + 1 ≤ 9223372036854775807))
 (rec x45 z190110 (IntKind.wrap .i64 (x46 + (1 : Int))) (z190140 ++ [(a1.getD (b18.1.toNat) ([], ([], ())))]) z190150)
 none)
 none)
 (rec x45 z190110 (IntKind.wrap .i64 (x46 + (1 : Int))) z190140 z190150)))
 (bindO (impl_same_r a2 a0 (z190110.getD (x46.toNat) [])) fun (b19 : Bool) => (cond b19
 (bindO (impl_find_r a1 (z190110.getD (x46.toNat) [])) fun (b20 : (Int × Bool)) => (cond b20.2
 (cond ((decide ((0 : Int) ≤ b20.1)) && (decide (b20.1 < (a1.length : Int))))
 (cond (decide ((z190140.length + 1) * 32 ≤ 140737488355328) && decide (z190140.length + 1 ≤ 9223372036854775807))
 (rec x45 z190110 (IntKind.wrap .i64 (x46 + (1 : Int))) (z190140 ++ [(a1.getD (b20.1.toNat) ([], ([], ())))]) z190150)
 none)
 none)
 (rec x45 z190110 (IntKind.wrap .i64 (x46 + (1 : Int))) z190140 z190150)))
 (bindO (impl_same_r a1 a0 (z190110.getD (x46.toNat) [])) fun (b21 : Bool) => (cond b21
 (bindO (impl_find_r a2 (z190110.getD (x46.toNat) [])) fun (b22 : (Int × Bool)) => (cond b22.2
 (cond ((decide ((0 : Int) ≤ b22.1)) && (decide (b22.1 < (a2.length : Int))))
 (cond (decide ((z190140.length + 1) * 32 ≤ 140737488355328) && decide (z190140.length + 1 ≤ 9223372036854775807))
 (rec x45 z190110 (IntKind.wrap .i64 (x46 + (1 : Int))) (z190140 ++ [(a2.getD (b22.1.toNat) ([], ([], ())))]) z190150)
 none)
 none)
 (rec x45 z190110 (IntKind.wrap .i64 (x46 + (1 : Int))) z190140 z190150)))
 (bindO (impl_told_r a0 (z190110.getD (x46.toNat) [])) fun (b23 : (List Int × (Bool × (List Int × (Bool × (List Int × Unit)))))) => (bindO (impl_told_r a1 (z190110.getD (x46.toNat) [])) fun (b24 : (List Int × (Bool × (List Int × (Bool × (List Int × Unit)))))) => (bindO (impl_told_r a2 (z190110.getD (x46.toNat) [])) fun (b25 : (List Int × (Bool × (List Int × (Bool × (List Int × Unit)))))) => (cond (decide ((z190150.length + 1) * 208 ≤ 140737488355328) && decide (z190150.length + 1 ≤ 9223372036854775807))
 (cond (!b25.2.2.2.1)
 (bindO (impl_find_r a1 (z190110.getD (x46.toNat) [])) fun (b26 : (Int × Bool)) => (cond b26.2
 (cond ((decide ((0 : Int) ≤ b26.1)) && (decide (b26.1 < (a1.length : Int))))
 (cond (decide ((z190140.length + 1) * 32 ≤ 140737488355328) && decide (z190140.length + 1 ≤ 9223372036854775807))
 (rec x45 z190110 (IntKind.wrap .i64 (x46 + (1 : Int))) (z190140 ++ [(a1.getD (b26.1.toNat) ([], ([], ())))]) (z190150 ++ [((z190110.getD (x46.toNat) []), (b23, (b24, (b25, ()))))]))
 none)
 none)
 (rec x45 z190110 (IntKind.wrap .i64 (x46 + (1 : Int))) z190140 (z190150 ++ [((z190110.getD (x46.toNat) []), (b23, (b24, (b25, ()))))]))))
 (cond b24.2.2.2.1
 (cond (!((ltI b24.2.2.2.2.1 b25.2.2.2.2.1) || (decide (b24.2.2.2.2.1 = b25.2.2.2.2.1))))
 (bindO (impl_find_r a1 (z190110.getD (x46.toNat) [])) fun (b27 : (Int × Bool)) => (cond b27.2
 (cond ((decide ((0 : Int) ≤ b27.1)) && (decide (b27.1 < (a1.length : Int))))
 (cond (decide ((z190140.length + 1) * 32 ≤ 140737488355328) && decide (z190140.length + 1 ≤ 9223372036854775807))
 (rec x45 z190110 (IntKind.wrap .i64 (x46 + (1 : Int))) (z190140 ++ [(a1.getD (b27.1.toNat) ([], ([], ())))]) (z190150 ++ [((z190110.getD (x46.toNat) []), (b23, (b24, (b25, ()))))]))
 none)
 none)
 (rec x45 z190110 (IntKind.wrap .i64 (x46 + (1 : Int))) z190140 (z190150 ++ [((z190110.getD (x46.toNat) []), (b23, (b24, (b25, ()))))]))))
 (bindO (impl_find_r a2 (z190110.getD (x46.toNat) [])) fun (b28 : (Int × Bool)) => (cond b28.2
 (cond ((decide ((0 : Int) ≤ b28.1)) && (decide (b28.1 < (a2.length : Int))))
 (cond (decide ((z190140.length + 1) * 32 ≤ 140737488355328) && decide (z190140.length + 1 ≤ 9223372036854775807))
 (rec x45 z190110 (IntKind.wrap .i64 (x46 + (1 : Int))) (z190140 ++ [(a2.getD (b28.1.toNat) ([], ([], ())))]) (z190150 ++ [((z190110.getD (x46.toNat) []), (b23, (b24, (b25, ()))))]))
 none)
 none)
 (rec x45 z190110 (IntKind.wrap .i64 (x46 + (1 : Int))) z190140 (z190150 ++ [((z190110.getD (x46.toNat) []), (b23, (b24, (b25, ()))))])))))
 (bindO (impl_find_r a2 (z190110.getD (x46.toNat) [])) fun (b29 : (Int × Bool)) => (cond b29.2
 (cond ((decide ((0 : Int) ≤ b29.1)) && (decide (b29.1 < (a2.length : Int))))
 (cond (decide ((z190140.length + 1) * 32 ≤ 140737488355328) && decide (z190140.length + 1 ≤ 9223372036854775807))
 (rec x45 z190110 (IntKind.wrap .i64 (x46 + (1 : Int))) (z190140 ++ [(a2.getD (b29.1.toNat) ([], ([], ())))]) (z190150 ++ [((z190110.getD (x46.toNat) []), (b23, (b24, (b25, ()))))]))
 none)
 none)
 (rec x45 z190110 (IntKind.wrap .i64 (x46 + (1 : Int))) z190140 (z190150 ++ [((z190110.getD (x46.toNat) []), (b23, (b24, (b25, ()))))]))))))
 none))))))))))
 none)
 (ke2 z190140 z190150))
noncomputable def impl_joined_l1_L (ke2 : (List (List Int × (List Int × Unit))) → (List (List Int × ((List Int × (Bool × (List Int × (Bool × (List Int × Unit))))) × ((List Int × (Bool × (List Int × (Bool × (List Int × Unit))))) × ((List Int × (Bool × (List Int × (Bool × (List Int × Unit))))) × Unit))))) → Option (shDen impl_joined_sh)) (a0 : (List (List Int × (List Int × Unit)))) (a1 : (List (List Int × (List Int × Unit)))) (a2 : (List (List Int × (List Int × Unit)))) : Nat → Int → (List (List Int)) → Int → (List (List Int × (List Int × Unit))) → (List (List Int × ((List Int × (Bool × (List Int × (Bool × (List Int × Unit))))) × ((List Int × (Bool × (List Int × (Bool × (List Int × Unit))))) × ((List Int × (Bool × (List Int × (Bool × (List Int × Unit))))) × Unit))))) → Option (shDen impl_joined_sh)
 | 0 => fun _ _ _ _ _ => none
 | n + 1 => impl_joined_l1_b (impl_joined_l1_L ke2 a0 a1 a2 n) ke2 a0 a1 a2
noncomputable def impl_joined_l0_b (rec : Int → (List (List Int × (List Int × Unit))) → Int → (List (List Int)) → Option (shDen impl_joined_sh)) (ke0 : (List (List Int)) → Option (shDen impl_joined_sh)) (a0 : (List (List Int × (List Int × Unit)))) (a1 : (List (List Int × (List Int × Unit)))) (a2 : (List (List Int × (List Int × Unit)))) (x28 : Int) (z100270 : (List (List Int × (List Int × Unit)))) (x29 : Int) (z190110 : (List (List Int))) : Option (shDen impl_joined_sh) :=
 (cond (decide (x29 < x28))
 (cond ((decide ((0 : Int) ≤ x29)) && (decide (x29 < (z100270.length : Int))))
 (cond (decide ((z190110.length + 1) * 16 ≤ 140737488355328) && decide (z190110.length + 1 ≤ 9223372036854775807))
 (rec x28 z100270 (IntKind.wrap .i64 (x29 + (1 : Int))) (z190110 ++ [(z100270.getD (x29.toNat) ([], ([], ()))).1]))
 none)
 none)
 (ke0 z190110))
noncomputable def impl_joined_l0_L (ke0 : (List (List Int)) → Option (shDen impl_joined_sh)) (a0 : (List (List Int × (List Int × Unit)))) (a1 : (List (List Int × (List Int × Unit)))) (a2 : (List (List Int × (List Int × Unit)))) : Nat → Int → (List (List Int × (List Int × Unit))) → Int → (List (List Int)) → Option (shDen impl_joined_sh)
 | 0 => fun _ _ _ _ => none
 | n + 1 => impl_joined_l0_b (impl_joined_l0_L ke0 a0 a1 a2 n) ke0 a0 a1 a2
noncomputable def impl_joined_r (a0 : (List (List Int × (List Int × Unit)))) (a1 : (List (List Int × (List Int × Unit)))) (a2 : (List (List Int × (List Int × Unit)))) : Option (shDen impl_joined_sh) :=
 (bindO (slices_Concat_impl_Entry_impl_Entry_r [a0, a1, a2]) fun (b1 : (List (List Int × (List Int × Unit)))) => (impl_joined_l0_L (fun z190110 => (bindO (slices_Sort_string_string_r z190110) fun (b2 : ((List (List Int)) × Unit)) => (bindO (slices_Compact_string_string_r b2.1) fun (b3 : (List (List Int))) => (impl_joined_l1_L (fun z190140 z190150 => (cond (decide ((64 : Int) < (z190140.length : Int)))
 (some ([], (3 : Int)))
 (some (z190140, (0 : Int))))) a0 a1 a2 FUEL (b3.length : Int) b3 (0 : Int) [] [])))) a0 a1 a2 FUEL (b1.length : Int) b1 (0 : Int) []))
theorem impl_joined_l1_round (k : Nat) (K : Ex → St → Option (shDen impl_joined_sh)) (n : Nat) (a0 : (List (List Int × (List Int × Unit)))) (a1 : (List (List Int × (List Int × Unit)))) (a2 : (List (List Int × (List Int × Unit)))) (x45 : Int) (z190110 : (List (List Int))) (x46 : Int) (z190140 : (List (List Int × (List Int × Unit)))) (z190150 : (List (List Int × ((List Int × (Bool × (List Int × (Bool × (List Int × Unit))))) × ((List Int × (Bool × (List Int × (Bool × (List Int × Unit))))) × ((List Int × (Bool × (List Int × (Bool × (List Int × Unit))))) × Unit)))))) : (loopK (impl_joined_cx k) 1 (execK (impl_joined_cx k) (callK (impl_joined_cx k) 7) 1 7500160110 (sub impl_mergeBy_c [1, 1, 1, 1, 1, 0, 1, 0, 0])) impl_joined_l1_cut K (n + 1) (impl_joined_l1_s a0 a1 a2 x45 z190110 x46 z190140 z190150) : Option (shDen impl_joined_sh)) =
 ((cond (decide (x46 < x45))
 (cond ((decide ((0 : Int) ≤ x46)) && (decide (x46 < (z190110.length : Int))))
 (bindO (impl_same_r a1 a2 (z190110.getD (x46.toNat) [])) fun (b17 : Bool) => (cond b17
 (bindO (impl_find_r a1 (z190110.getD (x46.toNat) [])) fun (b18 : (Int × Bool)) => (cond b18.2
 (cond ((decide ((0 : Int) ≤ b18.1)) && (decide (b18.1 < (a1.length : Int))))
 (cond (decide ((z190140.length + 1) * 32 ≤ 140737488355328) && decide (z190140.length + 1 ≤ 9223372036854775807))
 (loopK (impl_joined_cx k) 1 (execK (impl_joined_cx k) (callK (impl_joined_cx k) 7) 1 7500160110 (sub impl_mergeBy_c [1, 1, 1, 1, 1, 0, 1, 0, 0])) impl_joined_l1_cut K n (impl_joined_l1_s a0 a1 a2 x45 z190110 (IntKind.wrap .i64 (x46 + (1 : Int))) (z190140 ++ [(a1.getD (b18.1.toNat) ([], ([], ())))]) z190150))
 none)
 none)
 (loopK (impl_joined_cx k) 1 (execK (impl_joined_cx k) (callK (impl_joined_cx k) 7) 1 7500160110 (sub impl_mergeBy_c [1, 1, 1, 1, 1, 0, 1, 0, 0])) impl_joined_l1_cut K n (impl_joined_l1_s a0 a1 a2 x45 z190110 (IntKind.wrap .i64 (x46 + (1 : Int))) z190140 z190150))))
 (bindO (impl_same_r a2 a0 (z190110.getD (x46.toNat) [])) fun (b19 : Bool) => (cond b19
 (bindO (impl_find_r a1 (z190110.getD (x46.toNat) [])) fun (b20 : (Int × Bool)) => (cond b20.2
 (cond ((decide ((0 : Int) ≤ b20.1)) && (decide (b20.1 < (a1.length : Int))))
 (cond (decide ((z190140.length + 1) * 32 ≤ 140737488355328) && decide (z190140.length + 1 ≤ 9223372036854775807))
 (loopK (impl_joined_cx k) 1 (execK (impl_joined_cx k) (callK (impl_joined_cx k) 7) 1 7500160110 (sub impl_mergeBy_c [1, 1, 1, 1, 1, 0, 1, 0, 0])) impl_joined_l1_cut K n (impl_joined_l1_s a0 a1 a2 x45 z190110 (IntKind.wrap .i64 (x46 + (1 : Int))) (z190140 ++ [(a1.getD (b20.1.toNat) ([], ([], ())))]) z190150))
 none)
 none)
 (loopK (impl_joined_cx k) 1 (execK (impl_joined_cx k) (callK (impl_joined_cx k) 7) 1 7500160110 (sub impl_mergeBy_c [1, 1, 1, 1, 1, 0, 1, 0, 0])) impl_joined_l1_cut K n (impl_joined_l1_s a0 a1 a2 x45 z190110 (IntKind.wrap .i64 (x46 + (1 : Int))) z190140 z190150))))
 (bindO (impl_same_r a1 a0 (z190110.getD (x46.toNat) [])) fun (b21 : Bool) => (cond b21
 (bindO (impl_find_r a2 (z190110.getD (x46.toNat) [])) fun (b22 : (Int × Bool)) => (cond b22.2
 (cond ((decide ((0 : Int) ≤ b22.1)) && (decide (b22.1 < (a2.length : Int))))
 (cond (decide ((z190140.length + 1) * 32 ≤ 140737488355328) && decide (z190140.length + 1 ≤ 9223372036854775807))
 (loopK (impl_joined_cx k) 1 (execK (impl_joined_cx k) (callK (impl_joined_cx k) 7) 1 7500160110 (sub impl_mergeBy_c [1, 1, 1, 1, 1, 0, 1, 0, 0])) impl_joined_l1_cut K n (impl_joined_l1_s a0 a1 a2 x45 z190110 (IntKind.wrap .i64 (x46 + (1 : Int))) (z190140 ++ [(a2.getD (b22.1.toNat) ([], ([], ())))]) z190150))
 none)
 none)
 (loopK (impl_joined_cx k) 1 (execK (impl_joined_cx k) (callK (impl_joined_cx k) 7) 1 7500160110 (sub impl_mergeBy_c [1, 1, 1, 1, 1, 0, 1, 0, 0])) impl_joined_l1_cut K n (impl_joined_l1_s a0 a1 a2 x45 z190110 (IntKind.wrap .i64 (x46 + (1 : Int))) z190140 z190150))))
 (bindO (impl_told_r a0 (z190110.getD (x46.toNat) [])) fun (b23 : (List Int × (Bool × (List Int × (Bool × (List Int × Unit)))))) => (bindO (impl_told_r a1 (z190110.getD (x46.toNat) [])) fun (b24 : (List Int × (Bool × (List Int × (Bool × (List Int × Unit)))))) => (bindO (impl_told_r a2 (z190110.getD (x46.toNat) [])) fun (b25 : (List Int × (Bool × (List Int × (Bool × (List Int × Unit)))))) => (cond (decide ((z190150.length + 1) * 208 ≤ 140737488355328) && decide (z190150.length + 1 ≤ 9223372036854775807))
 (cond (!b25.2.2.2.1)
 (bindO (impl_find_r a1 (z190110.getD (x46.toNat) [])) fun (b26 : (Int × Bool)) => (cond b26.2
 (cond ((decide ((0 : Int) ≤ b26.1)) && (decide (b26.1 < (a1.length : Int))))
 (cond (decide ((z190140.length + 1) * 32 ≤ 140737488355328) && decide (z190140.length + 1 ≤ 9223372036854775807))
 (loopK (impl_joined_cx k) 1 (execK (impl_joined_cx k) (callK (impl_joined_cx k) 7) 1 7500160110 (sub impl_mergeBy_c [1, 1, 1, 1, 1, 0, 1, 0, 0])) impl_joined_l1_cut K n (impl_joined_l1_s a0 a1 a2 x45 z190110 (IntKind.wrap .i64 (x46 + (1 : Int))) (z190140 ++ [(a1.getD (b26.1.toNat) ([], ([], ())))]) (z190150 ++ [((z190110.getD (x46.toNat) []), (b23, (b24, (b25, ()))))])))
 none)
 none)
 (loopK (impl_joined_cx k) 1 (execK (impl_joined_cx k) (callK (impl_joined_cx k) 7) 1 7500160110 (sub impl_mergeBy_c [1, 1, 1, 1, 1, 0, 1, 0, 0])) impl_joined_l1_cut K n (impl_joined_l1_s a0 a1 a2 x45 z190110 (IntKind.wrap .i64 (x46 + (1 : Int))) z190140 (z190150 ++ [((z190110.getD (x46.toNat) []), (b23, (b24, (b25, ()))))])))))
 (cond b24.2.2.2.1
 (cond (!((ltI b24.2.2.2.2.1 b25.2.2.2.2.1) || (decide (b24.2.2.2.2.1 = b25.2.2.2.2.1))))
 (bindO (impl_find_r a1 (z190110.getD (x46.toNat) [])) fun (b27 : (Int × Bool)) => (cond b27.2
 (cond ((decide ((0 : Int) ≤ b27.1)) && (decide (b27.1 < (a1.length : Int))))
 (cond (decide ((z190140.length + 1) * 32 ≤ 140737488355328) && decide (z190140.length + 1 ≤ 9223372036854775807))
 (loopK (impl_joined_cx k) 1 (execK (impl_joined_cx k) (callK (impl_joined_cx k) 7) 1 7500160110 (sub impl_mergeBy_c [1, 1, 1, 1, 1, 0, 1, 0, 0])) impl_joined_l1_cut K n (impl_joined_l1_s a0 a1 a2 x45 z190110 (IntKind.wrap .i64 (x46 + (1 : Int))) (z190140 ++ [(a1.getD (b27.1.toNat) ([], ([], ())))]) (z190150 ++ [((z190110.getD (x46.toNat) []), (b23, (b24, (b25, ()))))])))
 none)
 none)
 (loopK (impl_joined_cx k) 1 (execK (impl_joined_cx k) (callK (impl_joined_cx k) 7) 1 7500160110 (sub impl_mergeBy_c [1, 1, 1, 1, 1, 0, 1, 0, 0])) impl_joined_l1_cut K n (impl_joined_l1_s a0 a1 a2 x45 z190110 (IntKind.wrap .i64 (x46 + (1 : Int))) z190140 (z190150 ++ [((z190110.getD (x46.toNat) []), (b23, (b24, (b25, ()))))])))))
 (bindO (impl_find_r a2 (z190110.getD (x46.toNat) [])) fun (b28 : (Int × Bool)) => (cond b28.2
 (cond ((decide ((0 : Int) ≤ b28.1)) && (decide (b28.1 < (a2.length : Int))))
 (cond (decide ((z190140.length + 1) * 32 ≤ 140737488355328) && decide (z190140.length + 1 ≤ 9223372036854775807))
 (loopK (impl_joined_cx k) 1 (execK (impl_joined_cx k) (callK (impl_joined_cx k) 7) 1 7500160110 (sub impl_mergeBy_c [1, 1, 1, 1, 1, 0, 1, 0, 0])) impl_joined_l1_cut K n (impl_joined_l1_s a0 a1 a2 x45 z190110 (IntKind.wrap .i64 (x46 + (1 : Int))) (z190140 ++ [(a2.getD (b28.1.toNat) ([], ([], ())))]) (z190150 ++ [((z190110.getD (x46.toNat) []), (b23, (b24, (b25, ()))))])))
 none)
 none)
 (loopK (impl_joined_cx k) 1 (execK (impl_joined_cx k) (callK (impl_joined_cx k) 7) 1 7500160110 (sub impl_mergeBy_c [1, 1, 1, 1, 1, 0, 1, 0, 0])) impl_joined_l1_cut K n (impl_joined_l1_s a0 a1 a2 x45 z190110 (IntKind.wrap .i64 (x46 + (1 : Int))) z190140 (z190150 ++ [((z190110.getD (x46.toNat) []), (b23, (b24, (b25, ()))))]))))))
 (bindO (impl_find_r a2 (z190110.getD (x46.toNat) [])) fun (b29 : (Int × Bool)) => (cond b29.2
 (cond ((decide ((0 : Int) ≤ b29.1)) && (decide (b29.1 < (a2.length : Int))))
 (cond (decide ((z190140.length + 1) * 32 ≤ 140737488355328) && decide (z190140.length + 1 ≤ 9223372036854775807))
 (loopK (impl_joined_cx k) 1 (execK (impl_joined_cx k) (callK (impl_joined_cx k) 7) 1 7500160110 (sub impl_mergeBy_c [1, 1, 1, 1, 1, 0, 1, 0, 0])) impl_joined_l1_cut K n (impl_joined_l1_s a0 a1 a2 x45 z190110 (IntKind.wrap .i64 (x46 + (1 : Int))) (z190140 ++ [(a2.getD (b29.1.toNat) ([], ([], ())))]) (z190150 ++ [((z190110.getD (x46.toNat) []), (b23, (b24, (b25, ()))))])))
 none)
 none)
 (loopK (impl_joined_cx k) 1 (execK (impl_joined_cx k) (callK (impl_joined_cx k) 7) 1 7500160110 (sub impl_mergeBy_c [1, 1, 1, 1, 1, 0, 1, 0, 0])) impl_joined_l1_cut K n (impl_joined_l1_s a0 a1 a2 x45 z190110 (IntKind.wrap .i64 (x46 + (1 : Int))) z190140 (z190150 ++ [((z190110.getD (x46.toNat) []), (b23, (b24, (b25, ()))))])))))))
 none))))))))))
 none)
 (K (.exit 2) (impl_joined_l1_o2 a1 a2 z190140 z190150))) : Option (shDen impl_joined_sh)) := by kernel_rfl

theorem impl_joined_l1_exit2 (k : Nat)  (a1 : (List (List Int × (List Int × Unit)))) (a2 : (List (List Int × (List Int × Unit)))) (z190140 : (List (List Int × (List Int × Unit)))) (z190150 : (List (List Int × ((List Int × (Bool × (List Int × (Bool × (List Int × Unit))))) × ((List Int × (Bool × (List Int × (Bool × (List Int × Unit))))) × ((List Int × (Bool × (List Int × (Bool × (List Int × Unit))))) × Unit)))))) : ((blkK 2 (seqK (execK (impl_joined_cx k) (callK (impl_joined_cx k) 7) 1 7500160110 (sub impl_mergeBy_c [1, 1, 1, 1, 1, 1])) (retK (impl_joined_cx k) impl_mergeBy_i (some 16) 0 (opsRest (impl_joined_cx k) (callK (impl_joined_cx k) 8) 0 75 false (regOps (sub impl_joined_c [1, 0])) 4 (seqK (execK (impl_joined_cx k) (callK (impl_joined_cx k) 8) 0 75 (sub impl_joined_c [1, 1])) (finK (impl_joined_cx k) impl_joined_i impl_joined_sh)))))) (.exit 2) (impl_joined_l1_o2 a1 a2 z190140 z190150) : Option (shDen impl_joined_sh)) =
 ((cond (decide ((64 : Int) < (z190140.length : Int)))
 (some ([], (3 : Int)))
 (some (z190140, (0 : Int)))) : Option (shDen impl_joined_sh)) := by kernel_rfl

theorem impl_joined_l1_congr (ke2 : (List (List Int × (List Int × Unit))) → (List (List Int × ((List Int × (Bool × (List Int × (Bool × (List Int × Unit))))) × ((List Int × (Bool × (List Int × (Bool × (List Int × Unit))))) × ((List Int × (Bool × (List Int × (Bool × (List Int × Unit))))) × Unit))))) → Option (shDen impl_joined_sh)) (ke2' : (List (List Int × (List Int × Unit))) → (List (List Int × ((List Int × (Bool × (List Int × (Bool × (List Int × Unit))))) × ((List Int × (Bool × (List Int × (Bool × (List Int × Unit))))) × ((List Int × (Bool × (List Int × (Bool × (List Int × Unit))))) × Unit))))) → Option (shDen impl_joined_sh)) (a0 : (List (List Int × (List Int × Unit)))) (a1 : (List (List Int × (List Int × Unit)))) (a2 : (List (List Int × (List Int × Unit)))) (n : Nat) (x45 : Int) (z190110 : (List (List Int))) (x46 : Int) (z190140 : (List (List Int × (List Int × Unit)))) (z190150 : (List (List Int × ((List Int × (Bool × (List Int × (Bool × (List Int × Unit))))) × ((List Int × (Bool × (List Int × (Bool × (List Int × Unit))))) × ((List Int × (Bool × (List Int × (Bool × (List Int × Unit))))) × Unit)))))) (hke2 : ∀ z190140 z190150, ke2 z190140 z190150 = ke2' z190140 z190150) : impl_joined_l1_L ke2 a0 a1 a2 n x45 z190110 x46 z190140 z190150 = impl_joined_l1_L ke2' a0 a1 a2 n x45 z190110 x46 z190140 z190150 := by
 have : ke2 = ke2' := (by funext z190140 z190150; exact hke2 z190140 z190150); subst this; rfl

theorem impl_joined_l1_L_eq (K : Ex → St → Option (shDen impl_joined_sh)) (a0 : (List (List Int × (List Int × Unit)))) (a1 : (List (List Int × (List Int × Unit)))) (a2 : (List (List Int × (List Int × Unit)))) : ∀ (n : Nat) (x45 : Int) (z190110 : (List (List Int))) (x46 : Int) (z190140 : (List (List Int × (List Int × Unit)))) (z190150 : (List (List Int × ((List Int × (Bool × (List Int × (Bool × (List Int × Unit))))) × ((List Int × (Bool × (List Int × (Bool × (List Int × Unit))))) × ((List Int × (Bool × (List Int × (Bool × (List Int × Unit))))) × Unit)))))), (loopK (impl_joined_cx FUEL) 1 (execK (impl_joined_cx FUEL) (callK (impl_joined_cx FUEL) 7) 1 7500160110 (sub impl_mergeBy_c [1, 1, 1, 1, 1, 0, 1, 0, 0])) impl_joined_l1_cut K n (impl_joined_l1_s a0 a1 a2 x45 z190110 x46 z190140 z190150) : Option (shDen impl_joined_sh)) = impl_joined_l1_L (fun z190140 z190150 => K (.exit 2) (impl_joined_l1_o2 a1 a2 z190140 z190150)) a0 a1 a2 n x45 z190110 x46 z190140 z190150 := by
 intro n
 induction n with
 | zero => intros; rfl
 | succ n ih =>
  intro x45 z190110 x46 z190140 z190150
  exact (impl_joined_l1_round FUEL K n a0 a1 a2 x45 z190110 x46 z190140 z190150).trans (condC (condC (bindC (fun b17 => condC (bindC (fun b18 => condC (condC (condC (ih x45 z190110 (IntKind.wrap .i64 (x46 + (1 : Int))) (z190140 ++ [(a1.getD (b18.1.toNat) ([], ([], ())))]) z190150) (rfl)) (rfl)) (ih x45 z190110 (IntKind.wrap .i64 (x46 + (1 : Int))) z190140 z190150))) (bindC (fun b19 => condC (bindC (fun b20 => condC (condC (condC (ih x45 z190110 (IntKind.wrap .i64 (x46 + (1 : Int))) (z190140 ++ [(a1.getD (b20.1.toNat) ([], ([], ())))]) z190150) (rfl)) (rfl)) (ih x45 z190110 (IntKind.wrap .i64 (x46 + (1 : Int))) z190140 z190150))) (bindC (fun b21 => condC (bindC (fun b22 => condC (condC (condC (ih x45 z190110 (IntKind.wrap .i64 (x46 + (1 : Int))) (z190140 ++ [(a2.getD (b22.1.toNat) ([], ([], ())))]) z190150) (rfl)) (rfl)) (ih x45 z190110 (IntKind.wrap .i64 (x46 + (1 : Int))) z190140 z190150))) (bindC (fun b23 => bindC (fun b24 => bindC (fun b25 => condC (condC (bindC (fun b26 => condC (condC (condC (ih x45 z190110 (IntKind.wrap .i64 (x46 + (1 : Int))) (z190140 ++ [(a1.getD (b26.1.toNat) ([], ([], ())))]) (z190150 ++ [((z190110.getD (x46.toNat) []), (b23, (b24, (b25, ()))))])) (rfl)) (rfl)) (ih x45 z190110 (IntKind.wrap .i64 (x46 + (1 : Int))) z190140 (z190150 ++ [((z190110.getD (x46.toNat) []), (b23, (b24, (b25, ()))))])))) (condC (condC (bindC (fun b27 => condC (condC (condC (ih x45 z190110 (IntKind.wrap .i64 (x46 + (1 : Int))) (z190140 ++ [(a1.getD (b27.1.toNat) ([], ([], ())))]) (z190150 ++ [((z190110.getD (x46.toNat) []), (b23, (b24, (b25, ()))))])) (rfl)) (rfl)) (ih x45 z190110 (IntKind.wrap .i64 (x46 + (1 : Int))) z190140 (z190150 ++ [((z190110.getD (x46.toNat) []), (b23, (b24, (b25, ()))))])))) (bindC (fun b28 => condC (condC (condC (ih x45 z190110 (IntKind.wrap .i64 (x46 + (1 : Int))) (z190140 ++ [(a2.getD (b28.1.toNat) ([], ([], ())))]) (z190150 ++ [((z190110.getD (x46.toNat) []), (b23, (b24, (b25, ()))))])) (rfl)) (rfl)) (ih x45 z190110 (IntKind.wrap .i64 (x46 + (1 : Int))) z190140 (z190150 ++ [((z190110.getD (x46.toNat) []), (b23, (b24, (b25, ()))))]))))) (bindC (fun b29 => condC (condC (condC (ih x45 z190110 (IntKind.wrap .i64 (x46 + (1 : Int))) (z190140 ++ [(a2.getD (b29.1.toNat) ([], ([], ())))]) (z190150 ++ [((z190110.getD (x46.toNat) []), (b23, (b24, (b25, ()))))])) (rfl)) (rfl)) (ih x45 z190110 (IntKind.wrap .i64 (x46 + (1 : Int))) z190140 (z190150 ++ [((z190110.getD (x46.toNat) []), (b23, (b24, (b25, ()))))])))))) (rfl))))))))))) (rfl)) (rfl))

theorem impl_joined_l0_round (k : Nat) (K : Ex → St → Option (shDen impl_joined_sh)) (n : Nat) (a0 : (List (List Int × (List Int × Unit)))) (a1 : (List (List Int × (List Int × Unit)))) (a2 : (List (List Int × (List Int × Unit)))) (x28 : Int) (z100270 : (List (List Int × (List Int × Unit)))) (x29 : Int) (z190110 : (List (List Int))) : (loopK (impl_joined_cx k) 1 (execK (impl_joined_cx k) (callK (impl_joined_cx k) 7) 1 7500160110 (sub impl_mergeBy_c [1, 1, 0, 1, 0, 0])) impl_joined_l0_cut K (n + 1) (impl_joined_l0_s a0 a1 a2 x28 z100270 x29 z190110) : Option (shDen impl_joined_sh)) =
 ((cond (decide (x29 < x28))
 (cond ((decide ((0 : Int) ≤ x29)) && (decide (x29 < (z100270.length : Int))))
 (cond (decide ((z190110.length + 1) * 16 ≤ 140737488355328) && decide (z190110.length + 1 ≤ 9223372036854775807))
 (loopK (impl_joined_cx k) 1 (execK (impl_joined_cx k) (callK (impl_joined_cx k) 7) 1 7500160110 (sub impl_mergeBy_c [1, 1, 0, 1, 0, 0])) impl_joined_l0_cut K n (impl_joined_l0_s a0 a1 a2 x28 z100270 (IntKind.wrap .i64 (x29 + (1 : Int))) (z190110 ++ [(z100270.getD (x29.toNat) ([], ([], ()))).1])))
 none)
 none)
 (K (.exit 0) (impl_joined_l0_o0 a0 a1 a2 z190110))) : Option (shDen impl_joined_sh)) := by kernel_rfl

theorem impl_joined_l0_exit0 (k : Nat)  (a0 : (List (List Int × (List Int × Unit)))) (a1 : (List (List Int × (List Int × Unit)))) (a2 : (List (List Int × (List Int × Unit)))) (z190110 : (List (List Int))) : ((blkK 0 (seqK (execK (impl_joined_cx k) (callK (impl_joined_cx k) 7) 1 7500160110 (sub impl_mergeBy_c [1, 1, 1])) (retK (impl_joined_cx k) impl_mergeBy_i (some 16) 0 (opsRest (impl_joined_cx k) (callK (impl_joined_cx k) 8) 0 75 false (regOps (sub impl_joined_c [1, 0])) 4 (seqK (execK (impl_joined_cx k) (callK (impl_joined_cx k) 8) 0 75 (sub impl_joined_c [1, 1])) (finK (impl_joined_cx k) impl_joined_i impl_joined_sh)))))) (.exit 0) (impl_joined_l0_o0 a0 a1 a2 z190110) : Option (shDen impl_joined_sh)) =
 ((bindO (slices_Sort_string_string_r z190110) fun (b2 : ((List (List Int)) × Unit)) => (bindO (slices_Compact_string_string_r b2.1) fun (b3 : (List (List Int))) => (loopK (impl_joined_cx k) 1 (execK (impl_joined_cx k) (callK (impl_joined_cx k) 7) 1 7500160110 (sub impl_mergeBy_c [1, 1, 1, 1, 1, 0, 1, 0, 0])) impl_joined_l1_cut (blkK 2 (seqK (execK (impl_joined_cx k) (callK (impl_joined_cx k) 7) 1 7500160110 (sub impl_mergeBy_c [1, 1, 1, 1, 1, 1])) (retK (impl_joined_cx k) impl_mergeBy_i (some 16) 0 (opsRest (impl_joined_cx k) (callK (impl_joined_cx k) 8) 0 75 false (regOps (sub impl_joined_c [1, 0])) 4 (seqK (execK (impl_joined_cx k) (callK (impl_joined_cx k) 8) 0 75 (sub impl_joined_c [1, 1])) (finK (impl_joined_cx k) impl_joined_i impl_joined_sh)))))) k (impl_joined_l1_s a0 a1 a2 (b3.length : Int) b3 (0 : Int) [] [])))) : Option (shDen impl_joined_sh)) := by kernel_rfl

theorem impl_joined_l0_congr (ke0 : (List (List Int)) → Option (shDen impl_joined_sh)) (ke0' : (List (List Int)) → Option (shDen impl_joined_sh)) (a0 : (List (List Int × (List Int × Unit)))) (a1 : (List (List Int × (List Int × Unit)))) (a2 : (List (List Int × (List Int × Unit)))) (n : Nat) (x28 : Int) (z100270 : (List (List Int × (List Int × Unit)))) (x29 : Int) (z190110 : (List (List Int))) (hke0 : ∀ z190110, ke0 z190110 = ke0' z190110) : impl_joined_l0_L ke0 a0 a1 a2 n x28 z100270 x29 z190110 = impl_joined_l0_L ke0' a0 a1 a2 n x28 z100270 x29 z190110 := by
 have : ke0 = ke0' := (by funext z190110; exact hke0 z190110); subst this; rfl

theorem impl_joined_l0_L_eq (K : Ex → St → Option (shDen impl_joined_sh)) (a0 : (List (List Int × (List Int × Unit)))) (a1 : (List (List Int × (List Int × Unit)))) (a2 : (List (List Int × (List Int × Unit)))) : ∀ (n : Nat) (x28 : Int) (z100270 : (List (List Int × (List Int × Unit)))) (x29 : Int) (z190110 : (List (List Int))), (loopK (impl_joined_cx FUEL) 1 (execK (impl_joined_cx FUEL) (callK (impl_joined_cx FUEL) 7) 1 7500160110 (sub impl_mergeBy_c [1, 1, 0, 1, 0, 0])) impl_joined_l0_cut K n (impl_joined_l0_s a0 a1 a2 x28 z100270 x29 z190110) : Option (shDen impl_joined_sh)) = impl_joined_l0_L (fun z190110 => K (.exit 0) (impl_joined_l0_o0 a0 a1 a2 z190110)) a0 a1 a2 n x28 z100270 x29 z190110 := by
 intro n
 induction n with
 | zero => intros; rfl
 | succ n ih =>
  intro x28 z100270 x29 z190110
  exact (impl_joined_l0_round FUEL K n a0 a1 a2 x28 z100270 x29 z190110).trans (condC (condC (condC (ih x28 z100270 (IntKind.wrap .i64 (x29 + (1 : Int))) (z190110 ++ [(z100270.getD (x29.toNat) ([], ([], ()))).1])) (rfl)) (rfl)) (rfl))

theorem impl_joined_start (k : Nat) (a0 : (List (List Int × (List Int × Unit)))) (a1 : (List (List Int × (List Int × Unit)))) (a2 : (List (List Int × (List Int × Unit)))) : fnK (impl_joined_cx k) 8 75 impl_joined_i impl_joined_sh [.pv (.slice (.pair .str (.pair .str .unit))) a0, .pv (.slice (.pair .str (.pair .str .unit))) a1, .pv (.slice (.pair .str (.pair .str .unit))) a2] =
 ((bindO (slices_Concat_impl_Entry_impl_Entry_r [a0, a1, a2]) fun (b1 : (List (List Int × (List Int × Unit)))) => (loopK (impl_joined_cx k) 1 (execK (impl_joined_cx k) (callK (impl_joined_cx k) 7) 1 7500160110 (sub impl_mergeBy_c [1, 1, 0, 1, 0, 0])) impl_joined_l0_cut (blkK 0 (seqK (execK (impl_joined_cx k) (callK (impl_joined_cx k) 7) 1 7500160110 (sub impl_mergeBy_c [1, 1, 1])) (retK (impl_joined_cx k) impl_mergeBy_i (some 16) 0 (opsRest (impl_joined_cx k) (callK (impl_joined_cx k) 8) 0 75 false (regOps (sub impl_joined_c [1, 0])) 4 (seqK (execK (impl_joined_cx k) (callK (impl_joined_cx k) 8) 0 75 (sub impl_joined_c [1, 1])) (finK (impl_joined_cx k) impl_joined_i impl_joined_sh)))))) k (impl_joined_l0_s a0 a1 a2 (b1.length : Int) b1 (0 : Int) []))) : Option (shDen impl_joined_sh)) := by kernel_rfl

theorem impl_joined_run (a0 : (List (List Int × (List Int × Unit)))) (a1 : (List (List Int × (List Int × Unit)))) (a2 : (List (List Int × (List Int × Unit)))) : fnK (impl_joined_cx FUEL) 8 75 impl_joined_i impl_joined_sh [.pv (.slice (.pair .str (.pair .str .unit))) a0, .pv (.slice (.pair .str (.pair .str .unit))) a1, .pv (.slice (.pair .str (.pair .str .unit))) a2] = impl_joined_r a0 a1 a2 :=
 (impl_joined_start FUEL a0 a1 a2).trans (bindC (fun b1 => (impl_joined_l0_L_eq _ a0 a1 a2 FUEL (b1.length : Int) b1 (0 : Int) []).trans (impl_joined_l0_congr _ _ a0 a1 a2 FUEL (b1.length : Int) b1 (0 : Int) [] (fun z190110 => (impl_joined_l0_exit0 FUEL  a0 a1 a2 z190110).trans (bindC (fun b2 => bindC (fun b3 => (impl_joined_l1_L_eq _ a0 a1 a2 FUEL (b3.length : Int) b3 (0 : Int) [] []).trans (impl_joined_l1_congr _ _ a0 a1 a2 FUEL (b3.length : Int) b3 (0 : Int) [] [] (fun z190140 z190150 => (impl_joined_l1_exit2 FUEL  a1 a2 z190140 z190150).trans (rfl))))))))))

noncomputable def impl_joined_con : Con := { ps := (.pair (.slice (.pair .str (.pair .str .unit))) (.pair (.slice (.pair .str (.pair .str .unit))) (.pair (.slice (.pair .str (.pair .str .unit))) .unit))), sh := impl_joined_sh, raw := fun x => impl_joined_r x.1 x.2.1 x.2.2.1 }
theorem impl_joined_conOk : ConOk Try.prog 75 impl_joined_con := con_of_fn (impl_joined_tabs FUEL) (depth := 8) impl_joined_ok fun x y h => (impl_joined_run x.1 x.2.1 x.2.2.1).trans h

noncomputable def impl_JoinMaps_inls : List (Nat × Inl) := []
noncomputable def impl_JoinMaps_cons : List (Nat × Con) := [(74, impl_ValidEntries_con), (75, impl_joined_con)]
noncomputable def impl_JoinMaps_taks : List (Nat × ConT) := []
noncomputable def impl_JoinMaps_inps : List (Nat × ConI) := []
noncomputable def impl_JoinMaps_cuts : List (Nat × List (Nat × Cut)) := []
noncomputable def impl_JoinMaps_cx (k : Nat) : Cx := mkCx tys tbytes telem nozero (Ai.look impl_JoinMaps_inls) (Ai.look impl_JoinMaps_cons) (Ai.look impl_JoinMaps_taks) (Ai.look impl_JoinMaps_inps) (fun f id => match Ai.look impl_JoinMaps_cuts f with | some l => Ai.look l id | none => none) k []
theorem impl_JoinMaps_tabs (k : Nat) : TabsOk Try.prog (impl_JoinMaps_cx k) := ⟨tab_mk tabs_ok _ _ _ _ _ _ _, look_all (Q := ConOk Try.prog) _ ⟨impl_ValidEntries_conOk, impl_joined_conOk, trivial⟩, look_all (Q := TakOk Try.prog) _ trivial, look_all (Q := InpOk Try.prog) _ trivial, look_all (Q := InlOk Try.prog) _ trivial, mixed_ok⟩
abbrev impl_JoinMaps_sh : List Sh := [.own 108 (.pair .str (.pair .str .unit)), .pl (.int .i64)]
noncomputable def impl_JoinMaps_r (a0 : (List (List Int × (List Int × Unit)))) (a1 : (List (List Int × (List Int × Unit)))) (a2 : (List (List Int × (List Int × Unit)))) : Option (shDen impl_JoinMaps_sh) :=
 (bindO (impl_ValidEntries_r a0) fun (b1 : Bool) => (cond (!b1)
 (some ([], (1 : Int)))
 (bindO (impl_ValidEntries_r a1) fun (b2 : Bool) => (cond (!b2)
 (some ([], (1 : Int)))
 (bindO (impl_ValidEntries_r a2) fun (b3 : Bool) => (cond (!b3)
 (some ([], (1 : Int)))
 (bindO (impl_joined_r a0 a1 a2) fun (b4 : ((List (List Int × (List Int × Unit))) × Int)) => (some (b4.1, b4.2)))))))))
theorem impl_JoinMaps_start (k : Nat) (a0 : (List (List Int × (List Int × Unit)))) (a1 : (List (List Int × (List Int × Unit)))) (a2 : (List (List Int × (List Int × Unit)))) : fnK (impl_JoinMaps_cx k) 8 30 impl_JoinMaps_i impl_JoinMaps_sh [.pv (.slice (.pair .str (.pair .str .unit))) a0, .pv (.slice (.pair .str (.pair .str .unit))) a1, .pv (.slice (.pair .str (.pair .str .unit))) a2] =
 ((bindO (impl_ValidEntries_r a0) fun (b1 : Bool) => (cond (!b1)
 (some ([], (1 : Int)))
 (bindO (impl_ValidEntries_r a1) fun (b2 : Bool) => (cond (!b2)
 (some ([], (1 : Int)))
 (bindO (impl_ValidEntries_r a2) fun (b3 : Bool) => (cond (!b3)
 (some ([], (1 : Int)))
 (bindO (impl_joined_r a0 a1 a2) fun (b4 : ((List (List Int × (List Int × Unit))) × Int)) => (some (b4.1, b4.2))))))))) : Option (shDen impl_JoinMaps_sh)) := by kernel_rfl

theorem impl_JoinMaps_run (a0 : (List (List Int × (List Int × Unit)))) (a1 : (List (List Int × (List Int × Unit)))) (a2 : (List (List Int × (List Int × Unit)))) : fnK (impl_JoinMaps_cx FUEL) 8 30 impl_JoinMaps_i impl_JoinMaps_sh [.pv (.slice (.pair .str (.pair .str .unit))) a0, .pv (.slice (.pair .str (.pair .str .unit))) a1, .pv (.slice (.pair .str (.pair .str .unit))) a2] = impl_JoinMaps_r a0 a1 a2 :=
 (impl_JoinMaps_start FUEL a0 a1 a2).trans (rfl)

noncomputable def impl_JoinMaps_con : Con := { ps := (.pair (.slice (.pair .str (.pair .str .unit))) (.pair (.slice (.pair .str (.pair .str .unit))) (.pair (.slice (.pair .str (.pair .str .unit))) .unit))), sh := impl_JoinMaps_sh, raw := fun x => impl_JoinMaps_r x.1 x.2.1 x.2.2.1 }
theorem impl_JoinMaps_conOk : ConOk Try.prog 30 impl_JoinMaps_con := con_of_fn (impl_JoinMaps_tabs FUEL) (depth := 8) impl_JoinMaps_ok fun x y h => (impl_JoinMaps_run x.1 x.2.1 x.2.2.1).trans h

noncomputable def laws_eqEntry_inls : List (Nat × Inl) := []
noncomputable def laws_eqEntry_cons : List (Nat × Con) := []
noncomputable def laws_eqEntry_taks : List (Nat × ConT) := []
noncomputable def laws_eqEntry_inps : List (Nat × ConI) := []
noncomputable def laws_eqEntry_cuts : List (Nat × List (Nat × Cut)) := []
noncomputable def laws_eqEntry_cx (k : Nat) : Cx := mkCx tys tbytes telem nozero (Ai.look laws_eqEntry_inls) (Ai.look laws_eqEntry_cons) (Ai.look laws_eqEntry_taks) (Ai.look laws_eqEntry_inps) (fun f id => match Ai.look laws_eqEntry_cuts f with | some l => Ai.look l id | none => none) k []
theorem laws_eqEntry_tabs (k : Nat) : TabsOk Try.prog (laws_eqEntry_cx k) := ⟨tab_mk tabs_ok _ _ _ _ _ _ _, look_all (Q := ConOk Try.prog) _ trivial, look_all (Q := TakOk Try.prog) _ trivial, look_all (Q := InpOk Try.prog) _ trivial, look_all (Q := InlOk Try.prog) _ trivial, mixed_ok⟩
abbrev laws_eqEntry_sh : List Sh := [.pl .bool]
noncomputable def laws_eqEntry_r (a0 : (List Int × (List Int × Unit))) (a1 : (List Int × (List Int × Unit))) : Option (shDen laws_eqEntry_sh) :=
 (cond (!(decide (a0.1 = a1.1)))
 (some false)
 (cond (!(decide (a0.2.1 = a1.2.1)))
 (some false)
 (some true)))
theorem laws_eqEntry_start (k : Nat) (a0 : (List Int × (List Int × Unit))) (a1 : (List Int × (List Int × Unit))) : fnK (laws_eqEntry_cx k) 8 76 laws_eqEntry_i laws_eqEntry_sh [.pv (.pair .str (.pair .str .unit)) a0, .pv (.pair .str (.pair .str .unit)) a1] =
 ((cond (!(decide (a0.1 = a1.1)))
 (some false)
 (cond (!(decide (a0.2.1 = a1.2.1)))
 (some false)
 (some true))) : Option (shDen laws_eqEntry_sh)) := by kernel_rfl

theorem laws_eqEntry_run (a0 : (List Int × (List Int × Unit))) (a1 : (List Int × (List Int × Unit))) : fnK (laws_eqEntry_cx FUEL) 8 76 laws_eqEntry_i laws_eqEntry_sh [.pv (.pair .str (.pair .str .unit)) a0, .pv (.pair .str (.pair .str .unit)) a1] = laws_eqEntry_r a0 a1 :=
 (laws_eqEntry_start FUEL a0 a1).trans (rfl)

noncomputable def laws_eqEntry_con : Con := { ps := (.pair (.pair .str (.pair .str .unit)) (.pair (.pair .str (.pair .str .unit)) .unit)), sh := laws_eqEntry_sh, raw := fun x => laws_eqEntry_r x.1 x.2.1 }
theorem laws_eqEntry_conOk : ConOk Try.prog 76 laws_eqEntry_con := con_of_fn (laws_eqEntry_tabs FUEL) (depth := 8) laws_eqEntry_ok fun x y h => (laws_eqEntry_run x.1 x.2.1).trans h

noncomputable def laws_eqEntryS_l0_cut : Cut := { keep := [0, 1, 5], stk := [], ids := [], own := [], outs := [(0, [4], []), (1, [], [])] }
noncomputable def laws_eqEntryS_inls : List (Nat × Inl) := []
noncomputable def laws_eqEntryS_cons : List (Nat × Con) := [(76, laws_eqEntry_con)]
noncomputable def laws_eqEntryS_taks : List (Nat × ConT) := []
noncomputable def laws_eqEntryS_inps : List (Nat × ConI) := []
noncomputable def laws_eqEntryS_cuts : List (Nat × List (Nat × Cut)) := [(31, [(0, laws_eqEntryS_l0_cut)])]
noncomputable def laws_eqEntryS_cx (k : Nat) : Cx := mkCx tys tbytes telem nozero (Ai.look laws_eqEntryS_inls) (Ai.look laws_eqEntryS_cons) (Ai.look laws_eqEntryS_taks) (Ai.look laws_eqEntryS_inps) (fun f id => match Ai.look laws_eqEntryS_cuts f with | some l => Ai.look l id | none => none) k []
theorem laws_eqEntryS_tabs (k : Nat) : TabsOk Try.prog (laws_eqEntryS_cx k) := ⟨tab_mk tabs_ok _ _ _ _ _ _ _, look_all (Q := ConOk Try.prog) _ ⟨laws_eqEntry_conOk, trivial⟩, look_all (Q := TakOk Try.prog) _ trivial, look_all (Q := InpOk Try.prog) _ trivial, look_all (Q := InlOk Try.prog) _ trivial, mixed_ok⟩
abbrev laws_eqEntryS_sh : List Sh := [.pl .bool]
noncomputable def laws_eqEntryS_l0_s (a0 : (List (List Int × (List Int × Unit)))) (a1 : (List (List Int × (List Int × Unit)))) (x5 : Int) : St := { env := [.pv (.slice (.pair .str (.pair .str .unit))) a0, .pv (.slice (.pair .str (.pair .str .unit))) a1, .dead, .dead, .dead, .pv (.int .i64) x5, .dead, .dead, .dead, .dead, .dead, .dead, .dead, .dead, .dead, .dead, .dead, .dead, .dead, .dead, .dead, .dead, .dead, .dead, .dead, .dead, .dead], stk := [], heap := [] }
noncomputable def laws_eqEntryS_l0_o  : St := { env := [.dead, .dead, .dead, .dead, .pv .bool false, .dead, .dead, .dead, .dead, .dead, .dead, .dead, .dead, .dead, .dead, .dead, .dead, .dead, .dead, .dead, .dead, .dead, .dead, .dead, .dead, .dead, .dead], stk := [], heap := [] }
noncomputable def laws_eqEntryS_l0_o0  : St := { env := [.dead, .dead, .dead, .dead, .dead, .dead, .dead, .dead, .dead, .dead, .dead, .dead, .dead, .dead, .dead, .dead, .dead, .dead, .dead, .dead, .dead, .dead, .dead, .dead, .dead, .dead, .dead], stk := [], heap := [] }
noncomputable def laws_eqEntryS_l0_b (rec : Int → Option (shDen laws_eqEntryS_sh)) (kr : Option (shDen laws_eqEntryS_sh)) (ke0 : Option (shDen laws_eqEntryS_sh)) (a0 : (List (List Int × (List Int × Unit)))) (a1 : (List (List Int × (List Int × Unit)))) (x5 : Int) : Option (shDen laws_eqEntryS_sh) :=
 (cond (decide (x5 < (a0.length : Int)))
 (cond ((decide ((0 : Int) ≤ x5)) && (decide (x5 < (a0.length : Int))))
 (cond ((decide ((0 : Int) ≤ x5)) && (decide (x5 < (a1.length : Int))))
 (bindO (laws_eqEntry_r (a0.getD (x5.toNat) ([], ([], ()))) (a1.getD (x5.toNat) ([], ([], ())))) fun (b2 : Bool) => (cond (!b2)
 (kr)
 (rec (IntKind.wrap .i64 (x5 + (1 : Int))))))
 none)
 none)
 (ke0))
noncomputable def laws_eqEntryS_l0_L (kr : Option (shDen laws_eqEntryS_sh)) (ke0 : Option (shDen laws_eqEntryS_sh)) (a0 : (List (List Int × (List Int × Unit)))) (a1 : (List (List Int × (List Int × Unit)))) : Nat → Int → Option (shDen laws_eqEntryS_sh)
 | 0 => fun _ => none
 | n + 1 => laws_eqEntryS_l0_b (laws_eqEntryS_l0_L kr ke0 a0 a1 n) kr ke0 a0 a1
noncomputable def laws_eqEntryS_r (a0 : (List (List Int × (List Int × Unit)))) (a1 : (List (List Int × (List Int × Unit)))) : Option (shDen laws_eqEntryS_sh) :=
 (cond (!(decide ((a0.length : Int) = (a1.length : Int))))
 (some false)
 (laws_eqEntryS_l0_L (some false) (some true) a0 a1 FUEL (0 : Int)))
theorem laws_eqEntryS_l0_round (k : Nat) (K : Ex → St → Option (shDen laws_eqEntryS_sh)) (n : Nat) (a0 : (List (List Int × (List Int × Unit)))) (a1 : (List (List Int × (List Int × Unit)))) (x5 : Int) : (loopK (laws_eqEntryS_cx k) 0 (execK (laws_eqEntryS_cx k) (callK (laws_eqEntryS_cx k) 8) 0 31 (sub laws_eqEntryS_c [1, 1, 0, 1, 0, 0])) laws_eqEntryS_l0_cut K (n + 1) (laws_eqEntryS_l0_s a0 a1 x5) : Option (shDen laws_eqEntryS_sh)) =
 ((cond (decide (x5 < (a0.length : Int)))
 (cond ((decide ((0 : Int) ≤ x5)) && (decide (x5 < (a0.length : Int))))
 (cond ((decide ((0 : Int) ≤ x5)) && (decide (x5 < (a1.length : Int))))
 (bindO (laws_eqEntry_r (a0.getD (x5.toNat) ([], ([], ()))) (a1.getD (x5.toNat) ([], ([], ())))) fun (b2 : Bool) => (cond (!b2)
 (K .ret (laws_eqEntryS_l0_o ))
 (loopK (laws_eqEntryS_cx k) 0 (execK (laws_eqEntryS_cx k) (callK (laws_eqEntryS_cx k) 8) 0 31 (sub laws_eqEntryS_c [1, 1, 0, 1, 0, 0])) laws_eqEntryS_l0_cut K n (laws_eqEntryS_l0_s a0 a1 (IntKind.wrap .i64 (x5 + (1 : Int)))))))
 none)
 none)
 (K (.exit 0) (laws_eqEntryS_l0_o0 ))) : Option (shDen laws_eqEntryS_sh)) := by kernel_rfl

theorem laws_eqEntryS_l0_ret (k : Nat)   : ((blkK 0 (seqK (execK (laws_eqEntryS_cx k) (callK (laws_eqEntryS_cx k) 8) 0 31 (sub laws_eqEntryS_c [1, 1, 1])) (finK (laws_eqEntryS_cx k) laws_eqEntryS_i laws_eqEntryS_sh))) .ret (laws_eqEntryS_l0_o) : Option (shDen laws_eqEntryS_sh)) =
 ((some false) : Option (shDen laws_eqEntryS_sh)) := by kernel_rfl

theorem laws_eqEntryS_l0_exit0 (k : Nat)   : ((blkK 0 (seqK (execK (laws_eqEntryS_cx k) (callK (laws_eqEntryS_cx k) 8) 0 31 (sub laws_eqEntryS_c [1, 1, 1])) (finK (laws_eqEntryS_cx k) laws_eqEntryS_i laws_eqEntryS_sh))) (.exit 0) (laws_eqEntryS_l0_o0) : Option (shDen laws_eqEntryS_sh)) =
 ((some true) : Option (shDen laws_eqEntryS_sh)) := by kernel_rfl

theorem laws_eqEntryS_l0_congr (kr : Option (shDen laws_eqEntryS_sh)) (ke0 : Option (shDen laws_eqEntryS_sh)) (kr' : Option (shDen laws_eqEntryS_sh)) (ke0' : Option (shDen laws_eqEntryS_sh)) (a0 : (List (List Int × (List Int × Unit)))) (a1 : (List (List Int × (List Int × Unit)))) (n : Nat) (x5 : Int) (hkr : ∀ (_ : Unit), kr  = kr' ) (hke0 : ∀ (_ : Unit), ke0  = ke0' ) : laws_eqEntryS_l0_L kr ke0 a0 a1 n x5 = laws_eqEntryS_l0_L kr' ke0' a0 a1 n x5 := by
 have : kr = kr' := hkr (); subst this; have : ke0 = ke0' := hke0 (); subst this; rfl

theorem laws_eqEntryS_l0_L_eq (K : Ex → St → Option (shDen laws_eqEntryS_sh)) (a0 : (List (List Int × (List Int × Unit)))) (a1 : (List (List Int × (List Int × Unit)))) : ∀ (n : Nat) (x5 : Int), (loopK (laws_eqEntryS_cx FUEL) 0 (execK (laws_eqEntryS_cx FUEL) (callK (laws_eqEntryS_cx FUEL) 8) 0 31 (sub laws_eqEntryS_c [1, 1, 0, 1, 0, 0])) laws_eqEntryS_l0_cut K n (laws_eqEntryS_l0_s a0 a1 x5) : Option (shDen laws_eqEntryS_sh)) = laws_eqEntryS_l0_L (K .ret (laws_eqEntryS_l0_o)) (K (.exit 0) (laws_eqEntryS_l0_o0)) a0 a1 n x5 := by
 intro n
 induction n with
 | zero => intros; rfl
 | succ n ih =>
  intro x5
  exact (laws_eqEntryS_l0_round FUEL K n a0 a1 x5).trans (condC (condC (condC (bindC (fun b2 => condC (rfl) (ih (IntKind.wrap .i64 (x5 + (1 : Int)))))) (rfl)) (rfl)) (rfl))

theorem laws_eqEntryS_start (k : Nat) (a0 : (List (List Int × (List Int × Unit)))) (a1 : (List (List Int × (List Int × Unit)))) : fnK (laws_eqEntryS_cx k) 8 31 laws_eqEntryS_i laws_eqEntryS_sh [.pv (.slice (.pair .str (.pair .str .unit))) a0, .pv (.slice (.pair .str (.pair .str .unit))) a1] =
 ((cond (!(decide ((a0.length : Int) = (a1.length : Int))))
 (some false)
 (loopK (laws_eqEntryS_cx k) 0 (execK (laws_eqEntryS_cx k) (callK (laws_eqEntryS_cx k) 8) 0 31 (sub laws_eqEntryS_c [1, 1, 0, 1, 0, 0])) laws_eqEntryS_l0_cut (blkK 0 (seqK (execK (laws_eqEntryS_cx k) (callK (laws_eqEntryS_cx k) 8) 0 31 (sub laws_eqEntryS_c [1, 1, 1])) (finK (laws_eqEntryS_cx k) laws_eqEntryS_i laws_eqEntryS_sh))) k (laws_eqEntryS_l0_s a0 a1 (0 : Int)))) : Option (shDen laws_eqEntryS_sh)) := by kernel_rfl

theorem laws_eqEntryS_run (a0 : (List (List Int × (List Int × Unit)))) (a1 : (List (List Int × (List Int × Unit)))) : fnK (laws_eqEntryS_cx FUEL) 8 31 laws_eqEntryS_i laws_eqEntryS_sh [.pv (.slice (.pair .str (.pair .str .unit))) a0, .pv (.slice (.pair .str (.pair .str .unit))) a1] = laws_eqEntryS_r a0 a1 :=
 (laws_eqEntryS_start FUEL a0 a1).trans (condC (rfl) ((laws_eqEntryS_l0_L_eq _ a0 a1 FUEL (0 : Int)).trans (laws_eqEntryS_l0_congr _ _ _ _ a0 a1 FUEL (0 : Int) (fun _ => (laws_eqEntryS_l0_ret FUEL  ).trans (rfl)) (fun _ => (laws_eqEntryS_l0_exit0 FUEL  ).trans (rfl)))))

noncomputable def laws_eqEntryS_con : Con := { ps := (.pair (.slice (.pair .str (.pair .str .unit))) (.pair (.slice (.pair .str (.pair .str .unit))) .unit)), sh := laws_eqEntryS_sh, raw := fun x => laws_eqEntryS_r x.1 x.2.1 }
theorem laws_eqEntryS_conOk : ConOk Try.prog 31 laws_eqEntryS_con := con_of_fn (laws_eqEntryS_tabs FUEL) (depth := 8) laws_eqEntryS_ok fun x y h => (laws_eqEntryS_run x.1 x.2.1).trans h

noncomputable def laws_markText_l0_cut : Cut := { keep := [0, 3], stk := [], ids := [], own := [], outs := [(1, [3], [])] }
noncomputable def laws_markText_inls : List (Nat × Inl) := []
noncomputable def laws_markText_cons : List (Nat × Con) := []
noncomputable def laws_markText_taks : List (Nat × ConT) := []
noncomputable def laws_markText_inps : List (Nat × ConI) := []
noncomputable def laws_markText_cuts : List (Nat × List (Nat × Cut)) := [(77, [(0, laws_markText_l0_cut)])]
noncomputable def laws_markText_cx (k : Nat) : Cx := mkCx tys tbytes telem nozero (Ai.look laws_markText_inls) (Ai.look laws_markText_cons) (Ai.look laws_markText_taks) (Ai.look laws_markText_inps) (fun f id => match Ai.look laws_markText_cuts f with | some l => Ai.look l id | none => none) k []
theorem laws_markText_tabs (k : Nat) : TabsOk Try.prog (laws_markText_cx k) := ⟨tab_mk tabs_ok _ _ _ _ _ _ _, look_all (Q := ConOk Try.prog) _ trivial, look_all (Q := TakOk Try.prog) _ trivial, look_all (Q := InpOk Try.prog) _ trivial, look_all (Q := InlOk Try.prog) _ trivial, mixed_ok⟩
abbrev laws_markText_sh : List Sh := [.pl .str]
noncomputable def laws_markText_l0_s (x0 : Int) (x3 : List Int) : St := { env := [.pv (.int .i64) x0, .dead, .dead, .pv .str x3, .dead, .dead, .dead, .dead, .dead, .dead, .dead, .dead, .dead, .dead, .dead, .dead, .dead, .dead, .dead, .dead], stk := [], heap := [] }
noncomputable def laws_markText_l0_o0 (x3 : List Int) : St := { env := [.dead, .dead, .dead, .pv .str x3, .dead, .dead, .dead, .dead, .dead, .dead, .dead, .dead, .dead, .dead, .dead, .dead, .dead, .dead, .dead, .dead], stk := [], heap := [] }
noncomputable def laws_markText_l0_b (rec : Int → (List Int) → Option (shDen laws_markText_sh)) (ke0 : (List Int) → Option (shDen laws_markText_sh)) (x0 : Int) (x3 : List Int) : Option (shDen laws_markText_sh) :=
 (cond (decide ((0 : Int) < x0))
 (cond (decide ([(IntKind.wrap .u8 (IntKind.wrap .i64 ((48 : Int) + (Int.tmod x0 (10 : Int)))))].length + x3.length ≤ 9223372036854775807))
 (rec (IntKind.wrap .i64 (Int.tdiv x0 (10 : Int))) ([(IntKind.wrap .u8 (IntKind.wrap .i64 ((48 : Int) + (Int.tmod x0 (10 : Int)))))] ++ x3))
 none)
 (ke0 x3))
noncomputable def laws_markText_l0_L (ke0 : (List Int) → Option (shDen laws_markText_sh))  : Nat → Int → (List Int) → Option (shDen laws_markText_sh)
 | 0 => fun _ _ => none
 | n + 1 => laws_markText_l0_b (laws_markText_l0_L ke0  n) ke0 
noncomputable def laws_markText_r (a0 : Int) : Option (shDen laws_markText_sh) :=
 (cond (decide (a0 ≤ (0 : Int)))
 (some [(109 : Int), (48 : Int)])
 (laws_markText_l0_L (fun x3 => (cond (decide ([(109 : Int)].length + x3.length ≤ 9223372036854775807))
 (some ([(109 : Int)] ++ x3))
 none)) FUEL a0 []))
theorem laws_markText_l0_round (k : Nat) (K : Ex → St → Option (shDen laws_markText_sh)) (n : Nat) (x0 : Int) (x3 : List Int) : (loopK (laws_markText_cx k) 0 (execK (laws_markText_cx k) (callK (laws_markText_cx k) 8) 0 77 (sub laws_markText_c [1, 1, 1, 0, 0, 0])) laws_markText_l0_cut K (n + 1) (laws_markText_l0_s x0 x3) : Option (shDen laws_markText_sh)) =
 ((cond (decide ((0 : Int) < x0))
 (cond (decide ([(IntKind.wrap .u8 (IntKind.wrap .i64 ((48 : Int) + (Int.tmod x0 (10 : Int)))))].length + x3.length ≤ 9223372036854775807))
 (loopK (laws_markText_cx k) 0 (execK (laws_markText_cx k) (callK (laws_markText_cx k) 8) 0 77 (sub laws_markText_c [1, 1, 1, 0, 0, 0])) laws_markText_l0_cut K n (laws_markText_l0_s (IntKind.wrap .i64 (Int.tdiv x0 (10 : Int))) ([(IntKind.wrap .u8 (IntKind.wrap .i64 ((48 : Int) + (Int.tmod x0 (10 : Int)))))] ++ x3)))
 none)
 (K (.exit 0) (laws_markText_l0_o0 x3))) : Option (shDen laws_markText_sh)) := by kernel_rfl

theorem laws_markText_l0_exit0 (k : Nat)  (x3 : List Int) : ((blkK 0 (seqK (execK (laws_markText_cx k) (callK (laws_markText_cx k) 8) 0 77 (sub laws_markText_c [1, 1, 1, 1])) (finK (laws_markText_cx k) laws_markText_i laws_markText_sh))) (.exit 0) (laws_markText_l0_o0 x3) : Option (shDen laws_markText_sh)) =
 ((cond (decide ([(109 : Int)].length + x3.length ≤ 9223372036854775807))
 (some ([(109 : Int)] ++ x3))
 none) : Option (shDen laws_markText_sh)) := by kernel_rfl

theorem laws_markText_l0_congr (ke0 : (List Int) → Option (shDen laws_markText_sh)) (ke0' : (List Int) → Option (shDen laws_markText_sh))  (n : Nat) (x0 : Int) (x3 : List Int) (hke0 : ∀ x3, ke0 x3 = ke0' x3) : laws_markText_l0_L ke0  n x0 x3 = laws_markText_l0_L ke0'  n x0 x3 := by
 have : ke0 = ke0' := (by funext x3; exact hke0 x3); subst this; rfl

theorem laws_markText_l0_L_eq (K : Ex → St → Option (shDen laws_markText_sh))  : ∀ (n : Nat) (x0 : Int) (x3 : List Int), (loopK (laws_markText_cx FUEL) 0 (execK (laws_markText_cx FUEL) (callK (laws_markText_cx FUEL) 8) 0 77 (sub laws_markText_c [1, 1, 1, 0, 0, 0])) laws_markText_l0_cut K n (laws_markText_l0_s x0 x3) : Option (shDen laws_markText_sh)) = laws_markText_l0_L (fun x3 => K (.exit 0) (laws_markText_l0_o0 x3))  n x0 x3 := by
 intro n
 induction n with
 | zero => intros; rfl
 | succ n ih =>
  intro x0 x3
  exact (laws_markText_l0_round FUEL K n  x0 x3).trans (condC (condC (ih (IntKind.wrap .i64 (Int.tdiv x0 (10 : Int))) ([(IntKind.wrap .u8 (IntKind.wrap .i64 ((48 : Int) + (Int.tmod x0 (10 : Int)))))] ++ x3)) (rfl)) (rfl))

theorem laws_markText_start (k : Nat) (a0 : Int) : fnK (laws_markText_cx k) 8 77 laws_markText_i laws_markText_sh [.pv (.int .i64) a0] =
 ((cond (decide (a0 ≤ (0 : Int)))
 (some [(109 : Int), (48 : Int)])
 (loopK (laws_markText_cx k) 0 (execK (laws_markText_cx k) (callK (laws_markText_cx k) 8) 0 77 (sub laws_markText_c [1, 1, 1, 0, 0, 0])) laws_markText_l0_cut (blkK 0 (seqK (execK (laws_markText_cx k) (callK (laws_markText_cx k) 8) 0 77 (sub laws_markText_c [1, 1, 1, 1])) (finK (laws_markText_cx k) laws_markText_i laws_markText_sh))) k (laws_markText_l0_s a0 []))) : Option (shDen laws_markText_sh)) := by kernel_rfl

theorem laws_markText_run (a0 : Int) : fnK (laws_markText_cx FUEL) 8 77 laws_markText_i laws_markText_sh [.pv (.int .i64) a0] = laws_markText_r a0 :=
 (laws_markText_start FUEL a0).trans (condC (rfl) ((laws_markText_l0_L_eq _  FUEL a0 []).trans (laws_markText_l0_congr _ _  FUEL a0 [] (fun x3 => (laws_markText_l0_exit0 FUEL  x3).trans (rfl)))))

noncomputable def laws_markText_con : Con := { ps := (.pair (.int .i64) .unit), sh := laws_markText_sh, raw := fun x => laws_markText_r x.1 }
theorem laws_markText_conOk : ConOk Try.prog 77 laws_markText_con := con_of_fn (laws_markText_tabs FUEL) (depth := 8) laws_markText_ok fun x y h => (laws_markText_run x.1).trans h

noncomputable def laws_markEntryS_l0_cut : Cut := { keep := [0, 1, 5], stk := [], ids := [7], own := [], outs := [(1, [1], [7])] }
noncomputable def laws_markEntryS_inls : List (Nat × Inl) := []
noncomputable def laws_markEntryS_cons : List (Nat × Con) := [(77, laws_markText_con)]
noncomputable def laws_markEntryS_taks : List (Nat × ConT) := []
noncomputable def laws_markEntryS_inps : List (Nat × ConI) := []
noncomputable def laws_markEntryS_cuts : List (Nat × List (Nat × Cut)) := [(32, [(0, laws_markEntryS_l0_cut)])]
noncomputable def laws_markEntryS_cx (k : Nat) : Cx := mkCx tys tbytes telem nozero (Ai.look laws_markEntryS_inls) (Ai.look laws_markEntryS_cons) (Ai.look laws_markEntryS_taks) (Ai.look laws_markEntryS_inps) (fun f id => match Ai.look laws_markEntryS_cuts f with | some l => Ai.look l id | none => none) k []
theorem laws_markEntryS_tabs (k : Nat) : TabsOk Try.prog (laws_markEntryS_cx k) := ⟨tab_mk tabs_ok _ _ _ _ _ _ _, look_all (Q := ConOk Try.prog) _ ⟨laws_markText_conOk, trivial⟩, look_all (Q := TakOk Try.prog) _ trivial, look_all (Q := InpOk Try.prog) _ trivial, look_all (Q := InlOk Try.prog) _ trivial, mixed_ok⟩
abbrev laws_markEntryS_sh : List Sh := [.pl (.int .i64)]
noncomputable def laws_markEntryS_l0_s (x1 : Int) (x5 : Int) (z7 : (List (List Int × (List Int × Unit)))) : St := { env := [.sl 7 (.pair .str (.pair .str .unit)), .pv (.int .i64) x1, .dead, .dead, .dead, .pv (.int .i64) x5, .dead, .dead, .dead, .dead, .dead, .dead, .dead, .dead, .dead, .dead, .dead, .dead, .dead, .dead, .dead, .dead, .dead, .dead, .dead, .dead, .dead, .dead, .dead], stk := [], heap := [(7, .arr 108 (.pair .str (.pair .str .unit)) z7)] }
noncomputable def laws_markEntryS_l0_o0 (x1 : Int) (z7 : (List (List Int × (List Int × Unit)))) : St := { env := [.dead, .pv (.int .i64) x1, .dead, .dead, .dead, .dead, .dead, .dead, .dead, .dead, .dead, .dead, .dead, .dead, .dead, .dead, .dead, .dead, .dead, .dead, .dead, .dead, .dead, .dead, .dead, .dead, .dead, .dead, .dead], stk := [], heap := [(7, .arr 108 (.pair .str (.pair .str .unit)) z7)] }
noncomputable def laws_markEntryS_l0_b (rec : Int → Int → (List (List Int × (List Int × Unit))) → Option ((List (List Int × (List Int × Unit))) × shDen laws_markEntryS_sh)) (ke0 : Int → (List (List Int × (List Int × Unit))) → Option ((List (List Int × (List Int × Unit))) × shDen laws_markEntryS_sh)) (x1 : Int) (x5 : Int) (z7 : (List (List Int × (List Int × Unit)))) : Option ((List (List Int × (List Int × Unit))) × shDen laws_markEntryS_sh) :=
 (cond (decide (x5 < (z7.length : Int)))
 (bindO (laws_markText_r x1) fun (b3 : List Int) => (cond ((decide ((0 : Int) ≤ x5)) && (decide (x5 < (z7.length : Int))))
 (bindO (laws_markText_r (IntKind.wrap .i64 (x1 + (1 : Int)))) fun (b4 : List Int) => (cond ((decide ((0 : Int) ≤ x5)) && (decide (x5 < ((z7.set (x5.toNat) (b3, (z7.getD (x5.toNat) ([], ([], ()))).2)).length : Int))))
 (rec (IntKind.wrap .i64 ((IntKind.wrap .i64 (x1 + (1 : Int))) + (1 : Int))) (IntKind.wrap .i64 (x5 + (1 : Int))) ((z7.set (x5.toNat) (b3, (z7.getD (x5.toNat) ([], ([], ()))).2)).set (x5.toNat) (((z7.set (x5.toNat) (b3, (z7.getD (x5.toNat) ([], ([], ()))).2)).getD (x5.toNat) ([], ([], ()))).1, (b4, (((z7.set (x5.toNat) (b3, (z7.getD (x5.toNat) ([], ([], ()))).2)).getD (x5.toNat) ([], ([], ()))).2).2))))
 none))
 none))
 (ke0 x1 z7))
noncomputable def laws_markEntryS_l0_L (ke0 : Int → (List (List Int × (List Int × Unit))) → Option ((List (List Int × (List Int × Unit))) × shDen laws_markEntryS_sh))  : Nat → Int → Int → (List (List Int × (List Int × Unit))) → Option ((List (List Int × (List Int × Unit))) × shDen laws_markEntryS_sh)
 | 0 => fun _ _ _ => none
 | n + 1 => laws_markEntryS_l0_b (laws_markEntryS_l0_L ke0  n) ke0 
noncomputable def laws_markEntryS_r (a0 : (List (List Int × (List Int × Unit)))) (a1 : Int) : Option ((List (List Int × (List Int × Unit))) × shDen laws_markEntryS_sh) :=
 (laws_markEntryS_l0_L (fun x1 z7 => (some (z7, x1))) FUEL a1 (0 : Int) a0)
theorem laws_markEntryS_l0_round (k : Nat) (K : Ex → St → Option ((List (List Int × (List Int × Unit))) × shDen laws_markEntryS_sh)) (n : Nat) (x1 : Int) (x5 : Int) (z7 : (List (List Int × (List Int × Unit)))) : (loopK (laws_markEntryS_cx k) 0 (execK (laws_markEntryS_cx k) (callK (laws_markEntryS_cx k) 8) 0 32 (sub laws_markEntryS_c [1, 0, 1, 0, 0])) laws_markEntryS_l0_cut K (n + 1) (laws_markEntryS_l0_s x1 x5 z7) : Option ((List (List Int × (List Int × Unit))) × shDen laws_markEntryS_sh)) =
 ((cond (decide (x5 < (z7.length : Int)))
 (bindO (laws_markText_r x1) fun (b3 : List Int) => (cond ((decide ((0 : Int) ≤ x5)) && (decide (x5 < (z7.length : Int))))
 (bindO (laws_markText_r (IntKind.wrap .i64 (x1 + (1 : Int)))) fun (b4 : List Int) => (cond ((decide ((0 : Int) ≤ x5)) && (decide (x5 < ((z7.set (x5.toNat) (b3, (z7.getD (x5.toNat) ([], ([], ()))).2)).length : Int))))
 (loopK (laws_markEntryS_cx k) 0 (execK (laws_markEntryS_cx k) (callK (laws_markEntryS_cx k) 8) 0 32 (sub laws_markEntryS_c [1, 0, 1, 0, 0])) laws_markEntryS_l0_cut K n (laws_markEntryS_l0_s (IntKind.wrap .i64 ((IntKind.wrap .i64 (x1 + (1 : Int))) + (1 : Int))) (IntKind.wrap .i64 (x5 + (1 : Int))) ((z7.set (x5.toNat) (b3, (z7.getD (x5.toNat) ([], ([], ()))).2)).set (x5.toNat) (((z7.set (x5.toNat) (b3, (z7.getD (x5.toNat) ([], ([], ()))).2)).getD (x5.toNat) ([], ([], ()))).1, (b4, (((z7.set (x5.toNat) (b3, (z7.getD (x5.toNat) ([], ([], ()))).2)).getD (x5.toNat) ([], ([], ()))).2).2)))))
 none))
 none))
 (K (.exit 0) (laws_markEntryS_l0_o0 x1 z7))) : Option ((List (List Int × (List Int × Unit))) × shDen laws_markEntryS_sh)) := by kernel_rfl

theorem laws_markEntryS_l0_exit0 (k : Nat)  (x1 : Int) (z7 : (List (List Int × (List Int × Unit)))) : ((blkK 0 (seqK (execK (laws_markEntryS_cx k) (callK (laws_markEntryS_cx k) 8) 0 32 (sub laws_markEntryS_c [1, 1])) (finIK (laws_markEntryS_cx k) laws_markEntryS_i (.arr 108 (.pair .str (.pair .str .unit))) laws_markEntryS_sh))) (.exit 0) (laws_markEntryS_l0_o0 x1 z7) : Option ((List (List Int × (List Int × Unit))) × shDen laws_markEntryS_sh)) =
 ((some (z7, x1)) : Option ((List (List Int × (List Int × Unit))) × shDen laws_markEntryS_sh)) := by kernel_rfl

theorem laws_markEntryS_l0_congr (ke0 : Int → (List (List Int × (List Int × Unit))) → Option ((List (List Int × (List Int × Unit))) × shDen laws_markEntryS_sh)) (ke0' : Int → (List (List Int × (List Int × Unit))) → Option ((List (List Int × (List Int × Unit))) × shDen laws_markEntryS_sh))  (n : Nat) (x1 : Int) (x5 : Int) (z7 : (List (List Int × (List Int × Unit)))) (hke0 : ∀ x1 z7, ke0 x1 z7 = ke0' x1 z7) : laws_markEntryS_l0_L ke0  n x1 x5 z7 = laws_markEntryS_l0_L ke0'  n x1 x5 z7 := by
 have : ke0 = ke0' := (by funext x1 z7; exact hke0 x1 z7); subst this; rfl

theorem laws_markEntryS_l0_L_eq (K : Ex → St → Option ((List (List Int × (List Int × Unit))) × shDen laws_markEntryS_sh))  : ∀ (n : Nat) (x1 : Int) (x5 : Int) (z7 : (List (List Int × (List Int × Unit)))), (loopK (laws_markEntryS_cx FUEL) 0 (execK (laws_markEntryS_cx FUEL) (callK (laws_markEntryS_cx FUEL) 8) 0 32 (sub laws_markEntryS_c [1, 0, 1, 0, 0])) laws_markEntryS_l0_cut K n (laws_markEntryS_l0_s x1 x5 z7) : Option ((List (List Int × (List Int × Unit))) × shDen laws_markEntryS_sh)) = laws_markEntryS_l0_L (fun x1 z7 => K (.exit 0) (laws_markEntryS_l0_o0 x1 z7))  n x1 x5 z7 := by
 intro n
 induction n with
 | zero => intros; rfl
 | succ n ih =>
  intro x1 x5 z7
  exact (laws_markEntryS_l0_round FUEL K n  x1 x5 z7).trans (condC (bindC (fun b3 => condC (bindC (fun b4 => condC (ih (IntKind.wrap .i64 ((IntKind.wrap .i64 (x1 + (1 : Int))) + (1 : Int))) (IntKind.wrap .i64 (x5 + (1 : Int))) ((z7.set (x5.toNat) (b3, (z7.getD (x5.toNat) ([], ([], ()))).2)).set (x5.toNat) (((z7.set (x5.toNat) (b3, (z7.getD (x5.toNat) ([], ([], ()))).2)).getD (x5.toNat) ([], ([], ()))).1, (b4, (((z7.set (x5.toNat) (b3, (z7.getD (x5.toNat) ([], ([], ()))).2)).getD (x5.toNat) ([], ([], ()))).2).2)))) (rfl))) (rfl))) (rfl))

theorem laws_markEntryS_start (k : Nat) (a0 : (List (List Int × (List Int × Unit)))) (a1 : Int) : fnIK (laws_markEntryS_cx k) 8 32 laws_markEntryS_i (.arr 108 (.pair .str (.pair .str .unit))) laws_markEntryS_sh a0 [.pv (.int .i64) a1] =
 ((loopK (laws_markEntryS_cx k) 0 (execK (laws_markEntryS_cx k) (callK (laws_markEntryS_cx k) 8) 0 32 (sub laws_markEntryS_c [1, 0, 1, 0, 0])) laws_markEntryS_l0_cut (blkK 0 (seqK (execK (laws_markEntryS_cx k) (callK (laws_markEntryS_cx k) 8) 0 32 (sub laws_markEntryS_c [1, 1])) (finIK (laws_markEntryS_cx k) laws_markEntryS_i (.arr 108 (.pair .str (.pair .str .unit))) laws_markEntryS_sh))) k (laws_markEntryS_l0_s a1 (0 : Int) a0)) : Option ((List (List Int × (List Int × Unit))) × shDen laws_markEntryS_sh)) := by kernel_rfl

theorem laws_markEntryS_run (a0 : (List (List Int × (List Int × Unit)))) (a1 : Int) : fnIK (laws_markEntryS_cx FUEL) 8 32 laws_markEntryS_i (.arr 108 (.pair .str (.pair .str .unit))) laws_markEntryS_sh a0 [.pv (.int .i64) a1] = laws_markEntryS_r a0 a1 :=
 (laws_markEntryS_start FUEL a0 a1).trans ((laws_markEntryS_l0_L_eq _  FUEL a1 (0 : Int) a0).trans (laws_markEntryS_l0_congr _ _  FUEL a1 (0 : Int) a0 (fun x1 z7 => (laws_markEntryS_l0_exit0 FUEL  x1 z7).trans (rfl))))

noncomputable def laws_markEntryS_inp : ConI := { k := (.arr 108 (.pair .str (.pair .str .unit))), ps := (.pair (.int .i64) .unit), sh := laws_markEntryS_sh, raw := fun x q => laws_markEntryS_r x q.1 }
theorem laws_markEntryS_inpOk : InpOk Try.prog 32 laws_markEntryS_inp := inp_of_fn (laws_markEntryS_tabs FUEL) (depth := 8) laws_markEntryS_ok fun x q z h => (laws_markEntryS_run x q.1).trans h

noncomputable def laws_heldEntryS_l0_cut : Cut := { keep := [0, 1, 5], stk := [], ids := [], own := [], outs := [(0, [4], []), (1, [1], [])] }
noncomputable def laws_heldEntryS_inls : List (Nat × Inl) := []
noncomputable def laws_heldEntryS_cons : List (Nat × Con) := [(77, laws_markText_con)]
noncomputable def laws_heldEntryS_taks : List (Nat × ConT) := []
noncomputable def laws_heldEntryS_inps : List (Nat × ConI) := []
noncomputable def laws_heldEntryS_cuts : List (Nat × List (Nat × Cut)) := [(33, [(0, laws_heldEntryS_l0_cut)])]
noncomputable def laws_heldEntryS_cx (k : Nat) : Cx := mkCx tys tbytes telem nozero (Ai.look laws_heldEntryS_inls) (Ai.look laws_heldEntryS_cons) (Ai.look laws_heldEntryS_taks) (Ai.look laws_heldEntryS_inps) (fun f id => match Ai.look laws_heldEntryS_cuts f with | some l => Ai.look l id | none => none) k []
theorem laws_heldEntryS_tabs (k : Nat) : TabsOk Try.prog (laws_heldEntryS_cx k) := ⟨tab_mk tabs_ok _ _ _ _ _ _ _, look_all (Q := ConOk Try.prog) _ ⟨laws_markText_conOk, trivial⟩, look_all (Q := TakOk Try.prog) _ trivial, look_all (Q := InpOk Try.prog) _ trivial, look_all (Q := InlOk Try.prog) _ trivial, mixed_ok⟩
abbrev laws_heldEntryS_sh : List Sh := [.pl (.int .i64)]
noncomputable def laws_heldEntryS_l0_s (a0 : (List (List Int × (List Int × Unit)))) (x1 : Int) (x5 : Int) : St := { env := [.pv (.slice (.pair .str (.pair .str .unit))) a0, .pv (.int .i64) x1, .dead, .dead, .dead, .pv (.int .i64) x5, .dead, .dead, .dead, .dead, .dead, .dead, .dead, .dead, .dead, .dead, .dead, .dead, .dead, .dead, .dead, .dead, .dead, .dead, .dead, .dead, .dead, .dead, .dead, .dead, .dead, .dead, .dead], stk := [], heap := [] }
noncomputable def laws_heldEntryS_l0_o  : St := { env := [.dead, .dead, .dead, .dead, .pv (.int .i64) (-1 : Int), .dead, .dead, .dead, .dead, .dead, .dead, .dead, .dead, .dead, .dead, .dead, .dead, .dead, .dead, .dead, .dead, .dead, .dead, .dead, .dead, .dead, .dead, .dead, .dead, .dead, .dead, .dead, .dead], stk := [], heap := [] }
noncomputable def laws_heldEntryS_l0_o0 (x1 : Int) : St := { env := [.dead, .pv (.int .i64) x1, .dead, .dead, .dead, .dead, .dead, .dead, .dead, .dead, .dead, .dead, .dead, .dead, .dead, .dead, .dead, .dead, .dead, .dead, .dead, .dead, .dead, .dead, .dead, .dead, .dead, .dead, .dead, .dead, .dead, .dead, .dead], stk := [], heap := [] }
noncomputable def laws_heldEntryS_l0_b (rec : Int → Int → Option (shDen laws_heldEntryS_sh)) (kr : Option (shDen laws_heldEntryS_sh)) (ke0 : Int → Option (shDen laws_heldEntryS_sh)) (a0 : (List (List Int × (List Int × Unit)))) (x1 : Int) (x5 : Int) : Option (shDen laws_heldEntryS_sh) :=
 (cond (decide (x5 < (a0.length : Int)))
 (cond ((decide ((0 : Int) ≤ x5)) && (decide (x5 < (a0.length : Int))))
 (bindO (laws_markText_r x1) fun (b3 : List Int) => (cond (!(decide ((a0.getD (x5.toNat) ([], ([], ()))).1 = b3)))
 (kr)
 (cond ((decide ((0 : Int) ≤ x5)) && (decide (x5 < (a0.length : Int))))
 (bindO (laws_markText_r (IntKind.wrap .i64 (x1 + (1 : Int)))) fun (b4 : List Int) => (cond (!(decide (((a0.getD (x5.toNat) ([], ([], ()))).2).1 = b4)))
 (kr)
 (rec (IntKind.wrap .i64 ((IntKind.wrap .i64 (x1 + (1 : Int))) + (1 : Int))) (IntKind.wrap .i64 (x5 + (1 : Int))))))
 none)))
 none)
 (ke0 x1))
noncomputable def laws_heldEntryS_l0_L (kr : Option (shDen laws_heldEntryS_sh)) (ke0 : Int → Option (shDen laws_heldEntryS_sh)) (a0 : (List (List Int × (List Int × Unit)))) : Nat → Int → Int → Option (shDen laws_heldEntryS_sh)
 | 0 => fun _ _ => none
 | n + 1 => laws_heldEntryS_l0_b (laws_heldEntryS_l0_L kr ke0 a0 n) kr ke0 a0
noncomputable def laws_heldEntryS_r (a0 : (List (List Int × (List Int × Unit)))) (a1 : Int) : Option (shDen laws_heldEntryS_sh) :=
 (laws_heldEntryS_l0_L (some (-1 : Int)) (fun x1 => (some x1)) a0 FUEL a1 (0 : Int))
theorem laws_heldEntryS_l0_round (k : Nat) (K : Ex → St → Option (shDen laws_heldEntryS_sh)) (n : Nat) (a0 : (List (List Int × (List Int × Unit)))) (x1 : Int) (x5 : Int) : (loopK (laws_heldEntryS_cx k) 0 (execK (laws_heldEntryS_cx k) (callK (laws_heldEntryS_cx k) 8) 0 33 (sub laws_heldEntryS_c [1, 0, 1, 0, 0])) laws_heldEntryS_l0_cut K (n + 1) (laws_heldEntryS_l0_s a0 x1 x5) : Option (shDen laws_heldEntryS_sh)) =
 ((cond (decide (x5 < (a0.length : Int)))
 (cond ((decide ((0 : Int) ≤ x5)) && (decide (x5 < (a0.length : Int))))
 (bindO (laws_markText_r x1) fun (b3 : List Int) => (cond (!(decide ((a0.getD (x5.toNat) ([], ([], ()))).1 = b3)))
 (K .ret (laws_heldEntryS_l0_o ))
 (cond ((decide ((0 : Int) ≤ x5)) && (decide (x5 < (a0.length : Int))))
 (bindO (laws_markText_r (IntKind.wrap .i64 (x1 + (1 : Int)))) fun (b4 : List Int) => (cond (!(decide (((a0.getD (x5.toNat) ([], ([], ()))).2).1 = b4)))
 (K .ret (laws_heldEntryS_l0_o ))
 (loopK (laws_heldEntryS_cx k) 0 (execK (laws_heldEntryS_cx k) (callK (laws_heldEntryS_cx k) 8) 0 33 (sub laws_heldEntryS_c [1, 0, 1, 0, 0])) laws_heldEntryS_l0_cut K n (laws_heldEntryS_l0_s a0 (IntKind.wrap .i64 ((IntKind.wrap .i64 (x1 + (1 : Int))) + (1 : Int))) (IntKind.wrap .i64 (x5 + (1 : Int)))))))
 none)))
 none)
 (K (.exit 0) (laws_heldEntryS_l0_o0 x1))) : Option (shDen laws_heldEntryS_sh)) := by kernel_rfl

theorem laws_heldEntryS_l0_ret (k : Nat)   : ((blkK 0 (seqK (execK (laws_heldEntryS_cx k) (callK (laws_heldEntryS_cx k) 8) 0 33 (sub laws_heldEntryS_c [1, 1])) (finK (laws_heldEntryS_cx k) laws_heldEntryS_i laws_heldEntryS_sh))) .ret (laws_heldEntryS_l0_o) : Option (shDen laws_heldEntryS_sh)) =
 ((some (-1 : Int)) : Option (shDen laws_heldEntryS_sh)) := by kernel_rfl

theorem laws_heldEntryS_l0_exit0 (k : Nat)  (x1 : Int) : ((blkK 0 (seqK (execK (laws_heldEntryS_cx k) (callK (laws_heldEntryS_cx k) 8) 0 33 (sub laws_heldEntryS_c [1, 1])) (finK (laws_heldEntryS_cx k) laws_heldEntryS_i laws_heldEntryS_sh))) (.exit 0) (laws_heldEntryS_l0_o0 x1) : Option (shDen laws_heldEntryS_sh)) =
 ((some x1) : Option (shDen laws_heldEntryS_sh)) := by kernel_rfl

theorem laws_heldEntryS_l0_congr (kr : Option (shDen laws_heldEntryS_sh)) (ke0 : Int → Option (shDen laws_heldEntryS_sh)) (kr' : Option (shDen laws_heldEntryS_sh)) (ke0' : Int → Option (shDen laws_heldEntryS_sh)) (a0 : (List (List Int × (List Int × Unit)))) (n : Nat) (x1 : Int) (x5 : Int) (hkr : ∀ (_ : Unit), kr  = kr' ) (hke0 : ∀ x1, ke0 x1 = ke0' x1) : laws_heldEntryS_l0_L kr ke0 a0 n x1 x5 = laws_heldEntryS_l0_L kr' ke0' a0 n x1 x5 := by
 have : kr = kr' := hkr (); subst this; have : ke0 = ke0' := (by funext x1; exact hke0 x1); subst this; rfl

theorem laws_heldEntryS_l0_L_eq (K : Ex → St → Option (shDen laws_heldEntryS_sh)) (a0 : (List (List Int × (List Int × Unit)))) : ∀ (n : Nat) (x1 : Int) (x5 : Int), (loopK (laws_heldEntryS_cx FUEL) 0 (execK (laws_heldEntryS_cx FUEL) (callK (laws_heldEntryS_cx FUEL) 8) 0 33 (sub laws_heldEntryS_c [1, 0, 1, 0, 0])) laws_heldEntryS_l0_cut K n (laws_heldEntryS_l0_s a0 x1 x5) : Option (shDen laws_heldEntryS_sh)) = laws_heldEntryS_l0_L (K .ret (laws_heldEntryS_l0_o)) (fun x1 => K (.exit 0) (laws_heldEntryS_l0_o0 x1)) a0 n x1 x5 := by
 intro n
 induction n with
 | zero => intros; rfl
 | succ n ih =>
  intro x1 x5
  exact (laws_heldEntryS_l0_round FUEL K n a0 x1 x5).trans (condC (condC (bindC (fun b3 => condC (rfl) (condC (bindC (fun b4 => condC (rfl) (ih (IntKind.wrap .i64 ((IntKind.wrap .i64 (x1 + (1 : Int))) + (1 : Int))) (IntKind.wrap .i64 (x5 + (1 : Int)))))) (rfl)))) (rfl)) (rfl))

theorem laws_heldEntryS_start (k : Nat) (a0 : (List (List Int × (List Int × Unit)))) (a1 : Int) : fnK (laws_heldEntryS_cx k) 8 33 laws_heldEntryS_i laws_heldEntryS_sh [.pv (.slice (.pair .str (.pair .str .unit))) a0, .pv (.int .i64) a1] =
 ((loopK (laws_heldEntryS_cx k) 0 (execK (laws_heldEntryS_cx k) (callK (laws_heldEntryS_cx k) 8) 0 33 (sub laws_heldEntryS_c [1, 0, 1, 0, 0])) laws_heldEntryS_l0_cut (blkK 0 (seqK (execK (laws_heldEntryS_cx k) (callK (laws_heldEntryS_cx k) 8) 0 33 (sub laws_heldEntryS_c [1, 1])) (finK (laws_heldEntryS_cx k) laws_heldEntryS_i laws_heldEntryS_sh))) k (laws_heldEntryS_l0_s a0 a1 (0 : Int))) : Option (shDen laws_heldEntryS_sh)) := by kernel_rfl

theorem laws_heldEntryS_run (a0 : (List (List Int × (List Int × Unit)))) (a1 : Int) : fnK (laws_heldEntryS_cx FUEL) 8 33 laws_heldEntryS_i laws_heldEntryS_sh [.pv (.slice (.pair .str (.pair .str .unit))) a0, .pv (.int .i64) a1] = laws_heldEntryS_r a0 a1 :=
 (laws_heldEntryS_start FUEL a0 a1).trans ((laws_heldEntryS_l0_L_eq _ a0 FUEL a1 (0 : Int)).trans (laws_heldEntryS_l0_congr _ _ _ _ a0 FUEL a1 (0 : Int) (fun _ => (laws_heldEntryS_l0_ret FUEL  ).trans (rfl)) (fun x1 => (laws_heldEntryS_l0_exit0 FUEL  x1).trans (rfl))))

noncomputable def laws_heldEntryS_con : Con := { ps := (.pair (.slice (.pair .str (.pair .str .unit))) (.pair (.int .i64) .unit)), sh := laws_heldEntryS_sh, raw := fun x => laws_heldEntryS_r x.1 x.2.1 }
theorem laws_heldEntryS_conOk : ConOk Try.prog 33 laws_heldEntryS_con := con_of_fn (laws_heldEntryS_tabs FUEL) (depth := 8) laws_heldEntryS_ok fun x y h => (laws_heldEntryS_run x.1 x.2.1).trans h

noncomputable def laws_FnExactJoinMaps_inls : List (Nat × Inl) := []
noncomputable def laws_FnExactJoinMaps_cons : List (Nat × Con) := [(27, laws_szEntryS_con), (28, spec_JoinMaps_con), (29, laws_toEntryS_con), (30, impl_JoinMaps_con), (31, laws_eqEntryS_con), (33, laws_heldEntryS_con)]
noncomputable def laws_FnExactJoinMaps_taks : List (Nat × ConT) := []
noncomputable def laws_FnExactJoinMaps_inps : List (Nat × ConI) := [(32, laws_markEntryS_inp)]
noncomputable def laws_FnExactJoinMaps_cuts : List (Nat × List (Nat × Cut)) := []
noncomputable def laws_FnExactJoinMaps_cx (k : Nat) : Cx := mkCx tys tbytes telem nozero (Ai.look laws_FnExactJoinMaps_inls) (Ai.look laws_FnExactJoinMaps_cons) (Ai.look laws_FnExactJoinMaps_taks) (Ai.look laws_FnExactJoinMaps_inps) (fun f id => match Ai.look laws_FnExactJoinMaps_cuts f with | some l => Ai.look l id | none => none) k []
theorem laws_FnExactJoinMaps_tabs (k : Nat) : TabsOk Try.prog (laws_FnExactJoinMaps_cx k) := ⟨tab_mk tabs_ok _ _ _ _ _ _ _, look_all (Q := ConOk Try.prog) _ ⟨laws_szEntryS_conOk, spec_JoinMaps_conOk, laws_toEntryS_conOk, impl_JoinMaps_conOk, laws_eqEntryS_conOk, laws_heldEntryS_conOk, trivial⟩, look_all (Q := TakOk Try.prog) _ trivial, look_all (Q := InpOk Try.prog) _ ⟨laws_markEntryS_inpOk, trivial⟩, look_all (Q := InlOk Try.prog) _ trivial, mixed_ok⟩
abbrev laws_FnExactJoinMaps_sh : List Sh := [.pl .bool]
noncomputable def laws_FnExactJoinMaps_r (a0 : (List (List Int × (List Int × Unit)))) (a1 : (List (List Int × (List Int × Unit)))) (a2 : (List (List Int × (List Int × Unit)))) : Option (shDen laws_FnExactJoinMaps_sh) :=
 (bindO (laws_szEntryS_r a0 (1048576 : Int)) fun (b1 : Int) => (cond (decide (b1 < (0 : Int)))
 (some true)
 (bindO (laws_szEntryS_r a1 b1) fun (b2 : Int) => (cond (decide (b2 < (0 : Int)))
 (some true)
 (bindO (laws_szEntryS_r a2 b2) fun (b3 : Int) => (cond (decide (b3 < (0 : Int)))
 (some true)
 (bindO (laws_toEntryS_r a0) fun (b4 : (List (List Int × (List Int × Unit)))) => (bindO (laws_toEntryS_r a1) fun (b5 : (List (List Int × (List Int × Unit)))) => (bindO (laws_toEntryS_r a2) fun (b6 : (List (List Int × (List Int × Unit)))) => (bindO (spec_JoinMaps_r b4 b5 b6) fun (b7 : ((List (List Int × (List Int × Unit))) × Int)) => (bindO (laws_toEntryS_r a0) fun (b8 : (List (List Int × (List Int × Unit)))) => (bindO (laws_toEntryS_r a1) fun (b9 : (List (List Int × (List Int × Unit)))) => (bindO (laws_toEntryS_r a2) fun (b10 : (List (List Int × (List Int × Unit)))) => (bindO (impl_JoinMaps_r b8 b9 b10) fun (b11 : ((List (List Int × (List Int × Unit))) × Int)) => (bindO (laws_eqEntryS_r b11.1 b7.1) fun (b12 : Bool) => (cond (!b12)
 (some false)
 (cond (!(decide (b11.2 = b7.2)))
 (some false)
 (bindO (laws_toEntryS_r a0) fun (b13 : (List (List Int × (List Int × Unit)))) => (bindO (laws_eqEntryS_r b8 b13) fun (b14 : Bool) => (cond (!b14)
 (some false)
 (bindO (laws_toEntryS_r a1) fun (b15 : (List (List Int × (List Int × Unit)))) => (bindO (laws_eqEntryS_r b9 b15) fun (b16 : Bool) => (cond (!b16)
 (some false)
 (bindO (laws_toEntryS_r a2) fun (b17 : (List (List Int × (List Int × Unit)))) => (bindO (laws_eqEntryS_r b10 b17) fun (b18 : Bool) => (cond (!b18)
 (some false)
 (bindO (laws_markEntryS_r b8 (1 : Int)) fun (b19 : ((List (List Int × (List Int × Unit))) × Int)) => (bindO (laws_markEntryS_r b9 b19.2) fun (b20 : ((List (List Int × (List Int × Unit))) × Int)) => (bindO (laws_markEntryS_r b10 b20.2) fun (b21 : ((List (List Int × (List Int × Unit))) × Int)) => (cond (decide (b21.2 < (0 : Int)))
 (some false)
 (bindO (laws_eqEntryS_r b11.1 b7.1) fun (b22 : Bool) => (cond (!b22)
 (some false)
 (cond (!(decide (b11.2 = b7.2)))
 (some false)
 (bindO (laws_markEntryS_r b11.1 (1 : Int)) fun (b23 : ((List (List Int × (List Int × Unit))) × Int)) => (bindO (laws_heldEntryS_r b23.1 (1 : Int)) fun (b24 : Int) => (cond (decide (b24 < (0 : Int)))
 (some false)
 (cond (!(decide (b24 = b23.2)))
 (some false)
 (bindO (laws_toEntryS_r a0) fun (b25 : (List (List Int × (List Int × Unit)))) => (bindO (laws_toEntryS_r a1) fun (b26 : (List (List Int × (List Int × Unit)))) => (bindO (laws_toEntryS_r a2) fun (b27 : (List (List Int × (List Int × Unit)))) => (bindO (impl_JoinMaps_r b25 b26 b27) fun (b28 : ((List (List Int × (List Int × Unit))) × Int)) => (bindO (laws_eqEntryS_r b28.1 b7.1) fun (b29 : Bool) => (cond (!b29)
 (some false)
 (cond (!(decide (b28.2 = b7.2)))
 (some false)
 (bindO (laws_heldEntryS_r b23.1 (1 : Int)) fun (b30 : Int) => (cond (decide (b30 < (0 : Int)))
 (some false)
 (cond (!(decide (b30 = b23.2)))
 (some false)
 (some true))))))))))))))))))))))))))))))))))))))))))))))))
theorem laws_FnExactJoinMaps_start (k : Nat) (a0 : (List (List Int × (List Int × Unit)))) (a1 : (List (List Int × (List Int × Unit)))) (a2 : (List (List Int × (List Int × Unit)))) : fnK (laws_FnExactJoinMaps_cx k) 8 5 laws_FnExactJoinMaps_i laws_FnExactJoinMaps_sh [.pv (.slice (.pair .str (.pair .str .unit))) a0, .pv (.slice (.pair .str (.pair .str .unit))) a1, .pv (.slice (.pair .str (.pair .str .unit))) a2] =
 ((bindO (laws_szEntryS_r a0 (1048576 : Int)) fun (b1 : Int) => (cond (decide (b1 < (0 : Int)))
 (some true)
 (bindO (laws_szEntryS_r a1 b1) fun (b2 : Int) => (cond (decide (b2 < (0 : Int)))
 (some true)
 (bindO (laws_szEntryS_r a2 b2) fun (b3 : Int) => (cond (decide (b3 < (0 : Int)))
 (some true)
 (bindO (laws_toEntryS_r a0) fun (b4 : (List (List Int × (List Int × Unit)))) => (bindO (laws_toEntryS_r a1) fun (b5 : (List (List Int × (List Int × Unit)))) => (bindO (laws_toEntryS_r a2) fun (b6 : (List (List Int × (List Int × Unit)))) => (bindO (spec_JoinMaps_r b4 b5 b6) fun (b7 : ((List (List Int × (List Int × Unit))) × Int)) => (bindO (laws_toEntryS_r a0) fun (b8 : (List (List Int × (List Int × Unit)))) => (bindO (laws_toEntryS_r a1) fun (b9 : (List (List Int × (List Int × Unit)))) => (bindO (laws_toEntryS_r a2) fun (b10 : (List (List Int × (List Int × Unit)))) => (bindO (impl_JoinMaps_r b8 b9 b10) fun (b11 : ((List (List Int × (List Int × Unit))) × Int)) => (bindO (laws_eqEntryS_r b11.1 b7.1) fun (b12 : Bool) => (cond (!b12)
 (some false)
 (cond (!(decide (b11.2 = b7.2)))
 (some false)
 (bindO (laws_toEntryS_r a0) fun (b13 : (List (List Int × (List Int × Unit)))) => (bindO (laws_eqEntryS_r b8 b13) fun (b14 : Bool) => (cond (!b14)
 (some false)
 (bindO (laws_toEntryS_r a1) fun (b15 : (List (List Int × (List Int × Unit)))) => (bindO (laws_eqEntryS_r b9 b15) fun (b16 : Bool) => (cond (!b16)
 (some false)
 (bindO (laws_toEntryS_r a2) fun (b17 : (List (List Int × (List Int × Unit)))) => (bindO (laws_eqEntryS_r b10 b17) fun (b18 : Bool) => (cond (!b18)
 (some false)
 (bindO (laws_markEntryS_r b8 (1 : Int)) fun (b19 : ((List (List Int × (List Int × Unit))) × Int)) => (bindO (laws_markEntryS_r b9 b19.2) fun (b20 : ((List (List Int × (List Int × Unit))) × Int)) => (bindO (laws_markEntryS_r b10 b20.2) fun (b21 : ((List (List Int × (List Int × Unit))) × Int)) => (cond (decide (b21.2 < (0 : Int)))
 (some false)
 (bindO (laws_eqEntryS_r b11.1 b7.1) fun (b22 : Bool) => (cond (!b22)
 (some false)
 (cond (!(decide (b11.2 = b7.2)))
 (some false)
 (bindO (laws_markEntryS_r b11.1 (1 : Int)) fun (b23 : ((List (List Int × (List Int × Unit))) × Int)) => (bindO (laws_heldEntryS_r b23.1 (1 : Int)) fun (b24 : Int) => (cond (decide (b24 < (0 : Int)))
 (some false)
 (cond (!(decide (b24 = b23.2)))
 (some false)
 (bindO (laws_toEntryS_r a0) fun (b25 : (List (List Int × (List Int × Unit)))) => (bindO (laws_toEntryS_r a1) fun (b26 : (List (List Int × (List Int × Unit)))) => (bindO (laws_toEntryS_r a2) fun (b27 : (List (List Int × (List Int × Unit)))) => (bindO (impl_JoinMaps_r b25 b26 b27) fun (b28 : ((List (List Int × (List Int × Unit))) × Int)) => (bindO (laws_eqEntryS_r b28.1 b7.1) fun (b29 : Bool) => (cond (!b29)
 (some false)
 (cond (!(decide (b28.2 = b7.2)))
 (some false)
 (bindO (laws_heldEntryS_r b23.1 (1 : Int)) fun (b30 : Int) => (cond (decide (b30 < (0 : Int)))
 (some false)
 (cond (!(decide (b30 = b23.2)))
 (some false)
 (some true)))))))))))))))))))))))))))))))))))))))))))))))) : Option (shDen laws_FnExactJoinMaps_sh)) := by kernel_rfl

theorem laws_FnExactJoinMaps_run (a0 : (List (List Int × (List Int × Unit)))) (a1 : (List (List Int × (List Int × Unit)))) (a2 : (List (List Int × (List Int × Unit)))) : fnK (laws_FnExactJoinMaps_cx FUEL) 8 5 laws_FnExactJoinMaps_i laws_FnExactJoinMaps_sh [.pv (.slice (.pair .str (.pair .str .unit))) a0, .pv (.slice (.pair .str (.pair .str .unit))) a1, .pv (.slice (.pair .str (.pair .str .unit))) a2] = laws_FnExactJoinMaps_r a0 a1 a2 :=
 (laws_FnExactJoinMaps_start FUEL a0 a1 a2).trans (rfl)

noncomputable def laws_FnExactJoinMaps_con : Con := { ps := (.pair (.slice (.pair .str (.pair .str .unit))) (.pair (.slice (.pair .str (.pair .str .unit))) (.pair (.slice (.pair .str (.pair .str .unit))) .unit))), sh := laws_FnExactJoinMaps_sh, raw := fun x => laws_FnExactJoinMaps_r x.1 x.2.1 x.2.2.1 }
theorem laws_FnExactJoinMaps_conOk : ConOk Try.prog 5 laws_FnExactJoinMaps_con := con_of_fn (laws_FnExactJoinMaps_tabs FUEL) (depth := 8) laws_FnExactJoinMaps_ok fun x y h => (laws_FnExactJoinMaps_run x.1 x.2.1 x.2.2.1).trans h

end Go.Ai.G
