/- Made by a program of this work out of the program: tables and plain functions, with the proof that each Go function does what its plain function says. No conditions. -/
import Derived.Test.YtafhfllnkijfhabExactRecipeOfFn0
namespace Go.Ai.G
open Go.Proofs
open Go.Ai
set_option linter.unusedVariables false
set_option linter.unusedSimpArgs false
set_option maxRecDepth 100000

noncomputable def impl_CutRule_cut_l0_cut : Cut := { keep := [1, 4, 11, 12, 13, 14], stk := [], ids := [40, 160, 90110], own := [(11, 90110, 32)], outs := [(1, [1, 11, 12, 13], [160, 90110])] }
noncomputable def impl_CutRule_cut_inls : List (Nat × Inl) := [(87, impl_newRoller_i)]
noncomputable def impl_CutRule_cut_cons : List (Nat × Con) := [(91, slices_Clone_byte_byte_con), (95, impl_CutRule_ends_con), (118, impl_RollTable_con)]
noncomputable def impl_CutRule_cut_taks : List (Nat × ConT) := []
noncomputable def impl_CutRule_cut_inps : List (Nat × ConI) := [(88, impl_roller_add_inp)]
noncomputable def impl_CutRule_cut_cuts : List (Nat × List (Nat × Cut)) := [(58, [(0, impl_CutRule_cut_l0_cut)])]
noncomputable def impl_CutRule_cut_cx (k : Nat) : Cx := mkCx tys tbytes telem nozero (Ai.look impl_CutRule_cut_inls) (Ai.look impl_CutRule_cut_cons) (Ai.look impl_CutRule_cut_taks) (Ai.look impl_CutRule_cut_inps) (fun f id => match Ai.look impl_CutRule_cut_cuts f with | some l => Ai.look l id | none => none) k []
theorem impl_CutRule_cut_tabs (k : Nat) : TabsOk Try.prog (impl_CutRule_cut_cx k) := ⟨tab_mk tabs_ok _ _ _ _ _ _ _, look_all (Q := ConOk Try.prog) _ ⟨slices_Clone_byte_byte_conOk, impl_CutRule_ends_conOk, impl_RollTable_conOk, trivial⟩, look_all (Q := TakOk Try.prog) _ trivial, look_all (Q := InpOk Try.prog) _ ⟨impl_roller_add_inpOk, trivial⟩, look_all (Q := InlOk Try.prog) _ ⟨impl_newRoller_ok, trivial⟩, mixed_ok⟩
abbrev impl_CutRule_cut_sh : List Sh := [.own 25 (.slice (.int .u8)), .own 5 (.int .u8), .pl (.int .u32)]
noncomputable def impl_CutRule_cut_l0_s (a0 : (Int × (Int × (Int × Unit)))) (a1 : (List Int)) (y160 : ((List Int) × (Int × Unit))) (x13 : Int) (x14 : Int) (z90110 : (List (List Int))) : St := { env := [.dead, .pv (.slice (.int .u8)) a1, .dead, .dead, .ptr 40 (.pair (.int .i64) (.pair (.int .i64) (.pair (.int .i64) .unit))) [], .dead, .dead, .dead, .dead, .dead, .dead, .sl 90110 (.slice (.int .u8)), .ptr 160 (.pair (.arr 256 (.int .u32)) (.pair (.int .u32) .unit)) [], .pv (.int .i64) x13, .pv (.int .i64) x14, .dead, .dead, .dead, .dead, .dead, .dead, .dead, .dead, .dead, .dead, .dead, .dead, .dead, .dead, .dead, .dead, .dead, .dead, .dead, .dead, .dead, .dead, .dead, .dead, .dead, .dead, .dead, .dead, .dead, .dead, .dead, .dead, .dead, .dead, .dead, .dead, .dead, .dead, .dead, .dead, .dead, .dead, .dead, .dead, .dead, .dead, .dead, .dead, .dead, .dead, .dead, .dead], stk := [], heap := [(90110, .arr 25 (.slice (.int .u8)) z90110), (160, .var (.pair (.arr 256 (.int .u32)) (.pair (.int .u32) .unit)) (.pv (.pair (.arr 256 (.int .u32)) (.pair (.int .u32) .unit)) y160)), (40, .var (.pair (.int .i64) (.pair (.int .i64) (.pair (.int .i64) .unit))) (.pv (.pair (.int .i64) (.pair (.int .i64) (.pair (.int .i64) .unit))) a0))] }
noncomputable def impl_CutRule_cut_l0_o0 (a1 : (List Int)) (y160 : ((List Int) × (Int × Unit))) (x13 : Int) (z90110 : (List (List Int))) : St := { env := [.dead, .pv (.slice (.int .u8)) a1, .dead, .dead, .dead, .dead, .dead, .dead, .dead, .dead, .dead, .sl 90110 (.slice (.int .u8)), .ptr 160 (.pair (.arr 256 (.int .u32)) (.pair (.int .u32) .unit)) [], .pv (.int .i64) x13, .dead, .dead, .dead, .dead, .dead, .dead, .dead, .dead, .dead, .dead, .dead, .dead, .dead, .dead, .dead, .dead, .dead, .dead, .dead, .dead, .dead, .dead, .dead, .dead, .dead, .dead, .dead, .dead, .dead, .dead, .dead, .dead, .dead, .dead, .dead, .dead, .dead, .dead, .dead, .dead, .dead, .dead, .dead, .dead, .dead, .dead, .dead, .dead, .dead, .dead, .dead, .dead, .dead], stk := [], heap := [(90110, .arr 25 (.slice (.int .u8)) z90110), (160, .var (.pair (.arr 256 (.int .u32)) (.pair (.int .u32) .unit)) (.pv (.pair (.arr 256 (.int .u32)) (.pair (.int .u32) .unit)) y160))] }
noncomputable def impl_CutRule_cut_l0_b (rec : ((List Int) × (Int × Unit)) → Int → Int → (List (List Int)) → Option (shDen impl_CutRule_cut_sh)) (ke0 : ((List Int) × (Int × Unit)) → Int → (List (List Int)) → Option (shDen impl_CutRule_cut_sh)) (a0 : (Int × (Int × (Int × Unit)))) (a1 : (List Int)) (y160 : ((List Int) × (Int × Unit))) (x13 : Int) (x14 : Int) (z90110 : (List (List Int))) : Option (shDen impl_CutRule_cut_sh) :=
 (cond (decide (x14 < (a1.length : Int)))
 (cond ((decide ((0 : Int) ≤ x14)) && (decide (x14 < (a1.length : Int))))
 (bindO (impl_roller_add_r y160 (a1.getD (x14.toNat) (0 : Int))) fun (b5 : (((List Int) × (Int × Unit)) × Unit)) => (bindO (impl_CutRule_ends_r a0 (IntKind.wrap .i64 ((IntKind.wrap .i64 (x14 + (1 : Int))) - x13)) b5.1.2.1) fun (b6 : Bool) => (cond b6
 (cond ((decide ((0 : Int) ≤ (IntKind.wrap .i64 (x14 + (1 : Int))))) && (decide ((IntKind.wrap .i64 (x14 + (1 : Int))) ≤ (a1.length : Int))))
 (cond ((decide ((0 : Int) ≤ x13)) && (decide (x13 ≤ (IntKind.wrap .i64 (x14 + (1 : Int))))))
 (bindO (slices_Clone_byte_byte_r (cutL a1 (x13.toNat) ((IntKind.wrap .i64 (x14 + (1 : Int))).toNat))) fun (b7 : (List Int)) => (cond (decide ((z90110.length + 1) * 24 ≤ 140737488355328) && decide (z90110.length + 1 ≤ 9223372036854775807))
 (rec (b5.1.1, ((0 : Int), b5.1.2.2)) (IntKind.wrap .i64 (x14 + (1 : Int))) (IntKind.wrap .i64 (x14 + (1 : Int))) (z90110 ++ [b7]))
 none))
 none)
 none)
 (rec b5.1 x13 (IntKind.wrap .i64 (x14 + (1 : Int))) z90110))))
 none)
 (ke0 y160 x13 z90110))
noncomputable def impl_CutRule_cut_l0_L (ke0 : ((List Int) × (Int × Unit)) → Int → (List (List Int)) → Option (shDen impl_CutRule_cut_sh)) (a0 : (Int × (Int × (Int × Unit)))) (a1 : (List Int)) : Nat → ((List Int) × (Int × Unit)) → Int → Int → (List (List Int)) → Option (shDen impl_CutRule_cut_sh)
 | 0 => fun _ _ _ _ => none
 | n + 1 => impl_CutRule_cut_l0_b (impl_CutRule_cut_l0_L ke0 a0 a1 n) ke0 a0 a1
noncomputable def impl_CutRule_cut_r (a0 : (Int × (Int × (Int × Unit)))) (a1 : (List Int)) (a2 : Int) (a3 : Int) : Option (shDen impl_CutRule_cut_sh) :=
 (bindO (impl_RollTable_r) fun (b1 : (List Int)) => (impl_CutRule_cut_l0_L (fun y160 x13 z90110 => (cond ((decide ((0 : Int) ≤ x13)) && (decide (x13 ≤ (a1.length : Int))))
 (bindO (slices_Clone_byte_byte_r (cutL a1 (x13.toNat) (a1.length))) fun (b8 : (List Int)) => (some (z90110, (b8, y160.2.1))))
 none)) a0 a1 FUEL (b1, (a3, ())) (0 : Int) a2 []))
theorem impl_CutRule_cut_l0_round (k : Nat) (K : Ex → St → Option (shDen impl_CutRule_cut_sh)) (n : Nat) (a0 : (Int × (Int × (Int × Unit)))) (a1 : (List Int)) (y160 : ((List Int) × (Int × Unit))) (x13 : Int) (x14 : Int) (z90110 : (List (List Int))) : (loopK (impl_CutRule_cut_cx k) 0 (execK (impl_CutRule_cut_cx k) (callK (impl_CutRule_cut_cx k) 8) 0 58 (sub impl_CutRule_cut_c [1, 1, 1, 1, 0, 1, 0, 0])) impl_CutRule_cut_l0_cut K (n + 1) (impl_CutRule_cut_l0_s a0 a1 y160 x13 x14 z90110) : Option (shDen impl_CutRule_cut_sh)) =
 ((cond (decide (x14 < (a1.length : Int)))
 (cond ((decide ((0 : Int) ≤ x14)) && (decide (x14 < (a1.length : Int))))
 (bindO (impl_roller_add_r y160 (a1.getD (x14.toNat) (0 : Int))) fun (b5 : (((List Int) × (Int × Unit)) × Unit)) => (bindO (impl_CutRule_ends_r a0 (IntKind.wrap .i64 ((IntKind.wrap .i64 (x14 + (1 : Int))) - x13)) b5.1.2.1) fun (b6 : Bool) => (cond b6
 (cond ((decide ((0 : Int) ≤ (IntKind.wrap .i64 (x14 + (1 : Int))))) && (decide ((IntKind.wrap .i64 (x14 + (1 : Int))) ≤ (a1.length : Int))))
 (cond ((decide ((0 : Int) ≤ x13)) && (decide (x13 ≤ (IntKind.wrap .i64 (x14 + (1 : Int))))))
 (bindO (slices_Clone_byte_byte_r (cutL a1 (x13.toNat) ((IntKind.wrap .i64 (x14 + (1 : Int))).toNat))) fun (b7 : (List Int)) => (cond (decide ((z90110.length + 1) * 24 ≤ 140737488355328) && decide (z90110.length + 1 ≤ 9223372036854775807))
 (loopK (impl_CutRule_cut_cx k) 0 (execK (impl_CutRule_cut_cx k) (callK (impl_CutRule_cut_cx k) 8) 0 58 (sub impl_CutRule_cut_c [1, 1, 1, 1, 0, 1, 0, 0])) impl_CutRule_cut_l0_cut K n (impl_CutRule_cut_l0_s a0 a1 (b5.1.1, ((0 : Int), b5.1.2.2)) (IntKind.wrap .i64 (x14 + (1 : Int))) (IntKind.wrap .i64 (x14 + (1 : Int))) (z90110 ++ [b7])))
 none))
 none)
 none)
 (loopK (impl_CutRule_cut_cx k) 0 (execK (impl_CutRule_cut_cx k) (callK (impl_CutRule_cut_cx k) 8) 0 58 (sub impl_CutRule_cut_c [1, 1, 1, 1, 0, 1, 0, 0])) impl_CutRule_cut_l0_cut K n (impl_CutRule_cut_l0_s a0 a1 b5.1 x13 (IntKind.wrap .i64 (x14 + (1 : Int))) z90110)))))
 none)
 (K (.exit 0) (impl_CutRule_cut_l0_o0 a1 y160 x13 z90110))) : Option (shDen impl_CutRule_cut_sh)) := by kernel_rfl

theorem impl_CutRule_cut_l0_exit0 (k : Nat)  (a1 : (List Int)) (y160 : ((List Int) × (Int × Unit))) (x13 : Int) (z90110 : (List (List Int))) : ((blkK 0 (seqK (execK (impl_CutRule_cut_cx k) (callK (impl_CutRule_cut_cx k) 8) 0 58 (sub impl_CutRule_cut_c [1, 1, 1, 1, 1])) (finK (impl_CutRule_cut_cx k) impl_CutRule_cut_i impl_CutRule_cut_sh))) (.exit 0) (impl_CutRule_cut_l0_o0 a1 y160 x13 z90110) : Option (shDen impl_CutRule_cut_sh)) =
 ((cond ((decide ((0 : Int) ≤ x13)) && (decide (x13 ≤ (a1.length : Int))))
 (bindO (slices_Clone_byte_byte_r (cutL a1 (x13.toNat) (a1.length))) fun (b8 : (List Int)) => (some (z90110, (b8, y160.2.1))))
 none) : Option (shDen impl_CutRule_cut_sh)) := by kernel_rfl

theorem impl_CutRule_cut_l0_congr (ke0 : ((List Int) × (Int × Unit)) → Int → (List (List Int)) → Option (shDen impl_CutRule_cut_sh)) (ke0' : ((List Int) × (Int × Unit)) → Int → (List (List Int)) → Option (shDen impl_CutRule_cut_sh)) (a0 : (Int × (Int × (Int × Unit)))) (a1 : (List Int)) (n : Nat) (y160 : ((List Int) × (Int × Unit))) (x13 : Int) (x14 : Int) (z90110 : (List (List Int))) (hke0 : ∀ y160 x13 z90110, ke0 y160 x13 z90110 = ke0' y160 x13 z90110) : impl_CutRule_cut_l0_L ke0 a0 a1 n y160 x13 x14 z90110 = impl_CutRule_cut_l0_L ke0' a0 a1 n y160 x13 x14 z90110 := by
 have : ke0 = ke0' := (by funext y160 x13 z90110; exact hke0 y160 x13 z90110); subst this; rfl

theorem impl_CutRule_cut_l0_L_eq (K : Ex → St → Option (shDen impl_CutRule_cut_sh)) (a0 : (Int × (Int × (Int × Unit)))) (a1 : (List Int)) : ∀ (n : Nat) (y160 : ((List Int) × (Int × Unit))) (x13 : Int) (x14 : Int) (z90110 : (List (List Int))), (loopK (impl_CutRule_cut_cx FUEL) 0 (execK (impl_CutRule_cut_cx FUEL) (callK (impl_CutRule_cut_cx FUEL) 8) 0 58 (sub impl_CutRule_cut_c [1, 1, 1, 1, 0, 1, 0, 0])) impl_CutRule_cut_l0_cut K n (impl_CutRule_cut_l0_s a0 a1 y160 x13 x14 z90110) : Option (shDen impl_CutRule_cut_sh)) = impl_CutRule_cut_l0_L (fun y160 x13 z90110 => K (.exit 0) (impl_CutRule_cut_l0_o0 a1 y160 x13 z90110)) a0 a1 n y160 x13 x14 z90110 := by
 intro n
 induction n with
 | zero => intros; rfl
 | succ n ih =>
  intro y160 x13 x14 z90110
  exact (impl_CutRule_cut_l0_round FUEL K n a0 a1 y160 x13 x14 z90110).trans (condC (condC (bindC (fun b5 => bindC (fun b6 => condC (condC (condC (bindC (fun b7 => condC (ih (b5.1.1, ((0 : Int), b5.1.2.2)) (IntKind.wrap .i64 (x14 + (1 : Int))) (IntKind.wrap .i64 (x14 + (1 : Int))) (z90110 ++ [b7])) (rfl))) (rfl)) (rfl)) (ih b5.1 x13 (IntKind.wrap .i64 (x14 + (1 : Int))) z90110)))) (rfl)) (rfl))

theorem impl_CutRule_cut_start (k : Nat) (a0 : (Int × (Int × (Int × Unit)))) (a1 : (List Int)) (a2 : Int) (a3 : Int) : fnK (impl_CutRule_cut_cx k) 8 58 impl_CutRule_cut_i impl_CutRule_cut_sh [.pv (.pair (.int .i64) (.pair (.int .i64) (.pair (.int .i64) .unit))) a0, .pv (.slice (.int .u8)) a1, .pv (.int .i64) a2, .pv (.int .u32) a3] =
 ((bindO (impl_RollTable_r) fun (b1 : (List Int)) => (loopK (impl_CutRule_cut_cx k) 0 (execK (impl_CutRule_cut_cx k) (callK (impl_CutRule_cut_cx k) 8) 0 58 (sub impl_CutRule_cut_c [1, 1, 1, 1, 0, 1, 0, 0])) impl_CutRule_cut_l0_cut (blkK 0 (seqK (execK (impl_CutRule_cut_cx k) (callK (impl_CutRule_cut_cx k) 8) 0 58 (sub impl_CutRule_cut_c [1, 1, 1, 1, 1])) (finK (impl_CutRule_cut_cx k) impl_CutRule_cut_i impl_CutRule_cut_sh))) k (impl_CutRule_cut_l0_s a0 a1 (b1, (a3, ())) (0 : Int) a2 []))) : Option (shDen impl_CutRule_cut_sh)) := by kernel_rfl

theorem impl_CutRule_cut_run (a0 : (Int × (Int × (Int × Unit)))) (a1 : (List Int)) (a2 : Int) (a3 : Int) : fnK (impl_CutRule_cut_cx FUEL) 8 58 impl_CutRule_cut_i impl_CutRule_cut_sh [.pv (.pair (.int .i64) (.pair (.int .i64) (.pair (.int .i64) .unit))) a0, .pv (.slice (.int .u8)) a1, .pv (.int .i64) a2, .pv (.int .u32) a3] = impl_CutRule_cut_r a0 a1 a2 a3 :=
 (impl_CutRule_cut_start FUEL a0 a1 a2 a3).trans (bindC (fun b1 => (impl_CutRule_cut_l0_L_eq _ a0 a1 FUEL (b1, (a3, ())) (0 : Int) a2 []).trans (impl_CutRule_cut_l0_congr _ _ a0 a1 FUEL (b1, (a3, ())) (0 : Int) a2 [] (fun y160 x13 z90110 => (impl_CutRule_cut_l0_exit0 FUEL  a1 y160 x13 z90110).trans (rfl)))))

noncomputable def impl_CutRule_cut_con : Con := { ps := (.pair (.pair (.int .i64) (.pair (.int .i64) (.pair (.int .i64) .unit))) (.pair (.slice (.int .u8)) (.pair (.int .i64) (.pair (.int .u32) .unit)))), sh := impl_CutRule_cut_sh, raw := fun x => impl_CutRule_cut_r x.1 x.2.1 x.2.2.1 x.2.2.2.1 }
theorem impl_CutRule_cut_conOk : ConOk Try.prog 58 impl_CutRule_cut_con := con_of_fn (impl_CutRule_cut_tabs FUEL) (depth := 8) impl_CutRule_cut_ok fun x y h => (impl_CutRule_cut_run x.1 x.2.1 x.2.2.1 x.2.2.2.1).trans h

noncomputable def impl_CutRule_chunks_inls : List (Nat × Inl) := []
noncomputable def impl_CutRule_chunks_cons : List (Nat × Con) := [(58, impl_CutRule_cut_con)]
noncomputable def impl_CutRule_chunks_taks : List (Nat × ConT) := []
noncomputable def impl_CutRule_chunks_inps : List (Nat × ConI) := []
noncomputable def impl_CutRule_chunks_cuts : List (Nat × List (Nat × Cut)) := []
noncomputable def impl_CutRule_chunks_cx (k : Nat) : Cx := mkCx tys tbytes telem nozero (Ai.look impl_CutRule_chunks_inls) (Ai.look impl_CutRule_chunks_cons) (Ai.look impl_CutRule_chunks_taks) (Ai.look impl_CutRule_chunks_inps) (fun f id => match Ai.look impl_CutRule_chunks_cuts f with | some l => Ai.look l id | none => none) k []
theorem impl_CutRule_chunks_tabs (k : Nat) : TabsOk Try.prog (impl_CutRule_chunks_cx k) := ⟨tab_mk tabs_ok _ _ _ _ _ _ _, look_all (Q := ConOk Try.prog) _ ⟨impl_CutRule_cut_conOk, trivial⟩, look_all (Q := TakOk Try.prog) _ trivial, look_all (Q := InpOk Try.prog) _ trivial, look_all (Q := InlOk Try.prog) _ trivial, mixed_ok⟩
abbrev impl_CutRule_chunks_sh : List Sh := [.own 25 (.slice (.int .u8))]
noncomputable def impl_CutRule_chunks_r (a0 : (Int × (Int × (Int × Unit)))) (a1 : (List Int)) : Option (shDen impl_CutRule_chunks_sh) :=
 (bindO (impl_CutRule_cut_r a0 a1 (0 : Int) (0 : Int)) fun (b1 : ((List (List Int)) × ((List Int) × Int))) => (cond (decide ((0 : Int) < (b1.2.1.length : Int)))
 (cond (decide ((b1.1.length + 1) * 24 ≤ 140737488355328) && decide (b1.1.length + 1 ≤ 9223372036854775807))
 (some (b1.1 ++ [b1.2.1]))
 none)
 (some b1.1)))
theorem impl_CutRule_chunks_start (k : Nat) (a0 : (Int × (Int × (Int × Unit)))) (a1 : (List Int)) : fnK (impl_CutRule_chunks_cx k) 8 66 impl_CutRule_chunks_i impl_CutRule_chunks_sh [.pv (.pair (.int .i64) (.pair (.int .i64) (.pair (.int .i64) .unit))) a0, .pv (.slice (.int .u8)) a1] =
 ((bindO (impl_CutRule_cut_r a0 a1 (0 : Int) (0 : Int)) fun (b1 : ((List (List Int)) × ((List Int) × Int))) => (cond (decide ((0 : Int) < (b1.2.1.length : Int)))
 (cond (decide ((b1.1.length + 1) * 24 ≤ 140737488355328) && decide (b1.1.length + 1 ≤ 9223372036854775807))
 (some (b1.1 ++ [b1.2.1]))
 none)
 (some b1.1))) : Option (shDen impl_CutRule_chunks_sh)) := by kernel_rfl

theorem impl_CutRule_chunks_run (a0 : (Int × (Int × (Int × Unit)))) (a1 : (List Int)) : fnK (impl_CutRule_chunks_cx FUEL) 8 66 impl_CutRule_chunks_i impl_CutRule_chunks_sh [.pv (.pair (.int .i64) (.pair (.int .i64) (.pair (.int .i64) .unit))) a0, .pv (.slice (.int .u8)) a1] = impl_CutRule_chunks_r a0 a1 :=
 (impl_CutRule_chunks_start FUEL a0 a1).trans (rfl)

noncomputable def impl_CutRule_chunks_con : Con := { ps := (.pair (.pair (.int .i64) (.pair (.int .i64) (.pair (.int .i64) .unit))) (.pair (.slice (.int .u8)) .unit)), sh := impl_CutRule_chunks_sh, raw := fun x => impl_CutRule_chunks_r x.1 x.2.1 }
theorem impl_CutRule_chunks_conOk : ConOk Try.prog 66 impl_CutRule_chunks_con := con_of_fn (impl_CutRule_chunks_tabs FUEL) (depth := 8) impl_CutRule_chunks_ok fun x y h => (impl_CutRule_chunks_run x.1 x.2.1).trans h

noncomputable def impl_size_byte_inls : List (Nat × Inl) := []
noncomputable def impl_size_byte_cons : List (Nat × Con) := []
noncomputable def impl_size_byte_taks : List (Nat × ConT) := []
noncomputable def impl_size_byte_inps : List (Nat × ConI) := []
noncomputable def impl_size_byte_cuts : List (Nat × List (Nat × Cut)) := []
noncomputable def impl_size_byte_cx (k : Nat) : Cx := mkCx tys tbytes telem nozero (Ai.look impl_size_byte_inls) (Ai.look impl_size_byte_cons) (Ai.look impl_size_byte_taks) (Ai.look impl_size_byte_inps) (fun f id => match Ai.look impl_size_byte_cuts f with | some l => Ai.look l id | none => none) k []
theorem impl_size_byte_tabs (k : Nat) : TabsOk Try.prog (impl_size_byte_cx k) := ⟨tab_mk tabs_ok _ _ _ _ _ _ _, look_all (Q := ConOk Try.prog) _ trivial, look_all (Q := TakOk Try.prog) _ trivial, look_all (Q := InpOk Try.prog) _ trivial, look_all (Q := InlOk Try.prog) _ trivial, mixed_ok⟩
abbrev impl_size_byte_sh : List Sh := [.pl (.int .i64)]
noncomputable def impl_size_byte_r (a0 : (List Int)) : Option (shDen impl_size_byte_sh) :=
 (some (a0.length : Int))
theorem impl_size_byte_start (k : Nat) (a0 : (List Int)) : fnK (impl_size_byte_cx k) 8 68 impl_size_byte_i impl_size_byte_sh [.pv (.slice (.int .u8)) a0] =
 ((some (a0.length : Int)) : Option (shDen impl_size_byte_sh)) := by kernel_rfl

theorem impl_size_byte_run (a0 : (List Int)) : fnK (impl_size_byte_cx FUEL) 8 68 impl_size_byte_i impl_size_byte_sh [.pv (.slice (.int .u8)) a0] = impl_size_byte_r a0 :=
 (impl_size_byte_start FUEL a0).trans (rfl)

noncomputable def impl_size_byte_con : Con := { ps := (.pair (.slice (.int .u8)) .unit), sh := impl_size_byte_sh, raw := fun x => impl_size_byte_r x.1 }
theorem impl_size_byte_conOk : ConOk Try.prog 68 impl_size_byte_con := con_of_fn (impl_size_byte_tabs FUEL) (depth := 8) impl_size_byte_ok fun x y h => (impl_size_byte_run x.1).trans h

noncomputable def impl_appendLittle_l0_cut : Cut := { keep := [0, 1, 8, 9], stk := [], ids := [90000], own := [(0, 90000, 25)], outs := [(1, [0], [90000])] }
noncomputable def impl_appendLittle_inls : List (Nat × Inl) := []
noncomputable def impl_appendLittle_cons : List (Nat × Con) := []
noncomputable def impl_appendLittle_taks : List (Nat × ConT) := []
noncomputable def impl_appendLittle_inps : List (Nat × ConI) := []
noncomputable def impl_appendLittle_cuts : List (Nat × List (Nat × Cut)) := [(125, [(0, impl_appendLittle_l0_cut)])]
noncomputable def impl_appendLittle_cx (k : Nat) : Cx := mkCx tys tbytes telem nozero (Ai.look impl_appendLittle_inls) (Ai.look impl_appendLittle_cons) (Ai.look impl_appendLittle_taks) (Ai.look impl_appendLittle_inps) (fun f id => match Ai.look impl_appendLittle_cuts f with | some l => Ai.look l id | none => none) k []
theorem impl_appendLittle_tabs (k : Nat) : TabsOk Try.prog (impl_appendLittle_cx k) := ⟨tab_mk tabs_ok _ _ _ _ _ _ _, look_all (Q := ConOk Try.prog) _ trivial, look_all (Q := TakOk Try.prog) _ trivial, look_all (Q := InpOk Try.prog) _ trivial, look_all (Q := InlOk Try.prog) _ trivial, mixed_ok⟩
noncomputable def impl_appendLittle_l0_s (a1 : Int) (a2 : Int) (x9 : Int) (z90000 : (List Int)) : St := { env := [.sl 90000 (.int .u8), .pv (.int .u64) a1, .dead, .dead, .dead, .dead, .dead, .dead, .pv (.int .i64) a2, .pv (.int .i64) x9, .dead, .dead, .dead, .dead, .dead, .dead, .dead, .dead, .dead, .dead, .dead, .dead], stk := [], heap := [(90000, .arr 5 (.int .u8) z90000)] }
noncomputable def impl_appendLittle_l0_o0 (z90000 : (List Int)) : St := { env := [.sl 90000 (.int .u8), .dead, .dead, .dead, .dead, .dead, .dead, .dead, .dead, .dead, .dead, .dead, .dead, .dead, .dead, .dead, .dead, .dead, .dead, .dead, .dead, .dead], stk := [], heap := [(90000, .arr 5 (.int .u8) z90000)] }
noncomputable def impl_appendLittle_l0_b (rec : Int → (List Int) → Option (List Int)) (ke0 : (List Int) → Option (List Int)) (a1 : Int) (a2 : Int) (x9 : Int) (z90000 : (List Int)) : Option (List Int) :=
 (cond (decide (x9 < a2))
 (cond (decide ((IntKind.wrap .i64 ((8 : Int) * x9)) < (0 : Int)))
 none
 (cond (decide ((z90000.length + 1) * 1 ≤ 140737488355328) && decide (z90000.length + 1 ≤ 9223372036854775807))
 (rec (IntKind.wrap .i64 (x9 + (1 : Int))) (z90000 ++ [(IntKind.wrap .u8 (shrI .u64 a1 (IntKind.wrap .i64 ((8 : Int) * x9))))]))
 none))
 (ke0 z90000))
noncomputable def impl_appendLittle_l0_L (ke0 : (List Int) → Option (List Int)) (a1 : Int) (a2 : Int) : Nat → Int → (List Int) → Option (List Int)
 | 0 => fun _ _ => none
 | n + 1 => impl_appendLittle_l0_b (impl_appendLittle_l0_L ke0 a1 a2 n) ke0 a1 a2
noncomputable def impl_appendLittle_r (a0 : (List Int)) (a1 : Int) (a2 : Int) : Option (List Int) :=
 (impl_appendLittle_l0_L (fun z90000 => (some z90000)) a1 a2 FUEL (0 : Int) a0)
theorem impl_appendLittle_l0_round (k : Nat) (K : Ex → St → Option (List Int)) (n : Nat) (a1 : Int) (a2 : Int) (x9 : Int) (z90000 : (List Int)) : (loopK (impl_appendLittle_cx k) 0 (execK (impl_appendLittle_cx k) (callK (impl_appendLittle_cx k) 8) 0 125 (sub impl_appendLittle_c [1, 0, 1, 0, 0])) impl_appendLittle_l0_cut K (n + 1) (impl_appendLittle_l0_s a1 a2 x9 z90000) : Option (List Int)) =
 ((cond (decide (x9 < a2))
 (cond (decide ((IntKind.wrap .i64 ((8 : Int) * x9)) < (0 : Int)))
 none
 (cond (decide ((z90000.length + 1) * 1 ≤ 140737488355328) && decide (z90000.length + 1 ≤ 9223372036854775807))
 (loopK (impl_appendLittle_cx k) 0 (execK (impl_appendLittle_cx k) (callK (impl_appendLittle_cx k) 8) 0 125 (sub impl_appendLittle_c [1, 0, 1, 0, 0])) impl_appendLittle_l0_cut K n (impl_appendLittle_l0_s a1 a2 (IntKind.wrap .i64 (x9 + (1 : Int))) (z90000 ++ [(IntKind.wrap .u8 (shrI .u64 a1 (IntKind.wrap .i64 ((8 : Int) * x9))))])))
 none))
 (K (.exit 0) (impl_appendLittle_l0_o0 z90000))) : Option (List Int)) := by kernel_rfl

theorem impl_appendLittle_l0_exit0 (k : Nat)  (z90000 : (List Int)) : ((blkK 0 (seqK (execK (impl_appendLittle_cx k) (callK (impl_appendLittle_cx k) 8) 0 125 (sub impl_appendLittle_c [1, 1])) (finTK (impl_appendLittle_cx k) impl_appendLittle_i 5 (.int .u8)))) (.exit 0) (impl_appendLittle_l0_o0 z90000) : Option (List Int)) =
 ((some z90000) : Option (List Int)) := by kernel_rfl

theorem impl_appendLittle_l0_congr (ke0 : (List Int) → Option (List Int)) (ke0' : (List Int) → Option (List Int)) (a1 : Int) (a2 : Int) (n : Nat) (x9 : Int) (z90000 : (List Int)) (hke0 : ∀ z90000, ke0 z90000 = ke0' z90000) : impl_appendLittle_l0_L ke0 a1 a2 n x9 z90000 = impl_appendLittle_l0_L ke0' a1 a2 n x9 z90000 := by
 have : ke0 = ke0' := (by funext z90000; exact hke0 z90000); subst this; rfl

theorem impl_appendLittle_l0_L_eq (K : Ex → St → Option (List Int)) (a1 : Int) (a2 : Int) : ∀ (n : Nat) (x9 : Int) (z90000 : (List Int)), (loopK (impl_appendLittle_cx FUEL) 0 (execK (impl_appendLittle_cx FUEL) (callK (impl_appendLittle_cx FUEL) 8) 0 125 (sub impl_appendLittle_c [1, 0, 1, 0, 0])) impl_appendLittle_l0_cut K n (impl_appendLittle_l0_s a1 a2 x9 z90000) : Option (List Int)) = impl_appendLittle_l0_L (fun z90000 => K (.exit 0) (impl_appendLittle_l0_o0 z90000)) a1 a2 n x9 z90000 := by
 intro n
 induction n with
 | zero => intros; rfl
 | succ n ih =>
  intro x9 z90000
  exact (impl_appendLittle_l0_round FUEL K n a1 a2 x9 z90000).trans (condC (condC (rfl) (condC (ih (IntKind.wrap .i64 (x9 + (1 : Int))) (z90000 ++ [(IntKind.wrap .u8 (shrI .u64 a1 (IntKind.wrap .i64 ((8 : Int) * x9))))])) (rfl))) (rfl))

theorem impl_appendLittle_start (k : Nat) (a0 : (List Int)) (a1 : Int) (a2 : Int) : fnTK (impl_appendLittle_cx k) 8 125 impl_appendLittle_i 5 (.int .u8) a0 [.pv (.int .u64) a1, .pv (.int .i64) a2] =
 ((loopK (impl_appendLittle_cx k) 0 (execK (impl_appendLittle_cx k) (callK (impl_appendLittle_cx k) 8) 0 125 (sub impl_appendLittle_c [1, 0, 1, 0, 0])) impl_appendLittle_l0_cut (blkK 0 (seqK (execK (impl_appendLittle_cx k) (callK (impl_appendLittle_cx k) 8) 0 125 (sub impl_appendLittle_c [1, 1])) (finTK (impl_appendLittle_cx k) impl_appendLittle_i 5 (.int .u8)))) k (impl_appendLittle_l0_s a1 a2 (0 : Int) a0)) : Option (List Int)) := by kernel_rfl

theorem impl_appendLittle_run (a0 : (List Int)) (a1 : Int) (a2 : Int) : fnTK (impl_appendLittle_cx FUEL) 8 125 impl_appendLittle_i 5 (.int .u8) a0 [.pv (.int .u64) a1, .pv (.int .i64) a2] = impl_appendLittle_r a0 a1 a2 :=
 (impl_appendLittle_start FUEL a0 a1 a2).trans ((impl_appendLittle_l0_L_eq _ a1 a2 FUEL (0 : Int) a0).trans (impl_appendLittle_l0_congr _ _ a1 a2 FUEL (0 : Int) a0 (fun z90000 => (impl_appendLittle_l0_exit0 FUEL  z90000).trans (rfl))))

noncomputable def impl_appendLittle_tak : ConT := { E := 5, e := (.int .u8), ps := (.pair (.int .u64) (.pair (.int .i64) .unit)), raw := fun x q => impl_appendLittle_r x q.1 q.2.1 }
theorem impl_appendLittle_takOk : TakOk Try.prog 125 impl_appendLittle_tak := tak_of_fn (impl_appendLittle_tabs FUEL) (depth := 8) impl_appendLittle_ok rfl fun xs q z h => (impl_appendLittle_run xs q.1 q.2.1).trans h

noncomputable def impl_padding_l0_cut : Cut := { keep := [0, 3], stk := [], ids := [90030], own := [(3, 90030, 25)], outs := [(1, [0, 3], [90030])] }
noncomputable def impl_padding_inls : List (Nat × Inl) := []
noncomputable def impl_padding_cons : List (Nat × Con) := [(68, impl_size_byte_con)]
noncomputable def impl_padding_taks : List (Nat × ConT) := [(125, impl_appendLittle_tak)]
noncomputable def impl_padding_inps : List (Nat × ConI) := []
noncomputable def impl_padding_cuts : List (Nat × List (Nat × Cut)) := [(102, [(0, impl_padding_l0_cut)])]
noncomputable def impl_padding_cx (k : Nat) : Cx := mkCx tys tbytes telem nozero (Ai.look impl_padding_inls) (Ai.look impl_padding_cons) (Ai.look impl_padding_taks) (Ai.look impl_padding_inps) (fun f id => match Ai.look impl_padding_cuts f with | some l => Ai.look l id | none => none) k []
theorem impl_padding_tabs (k : Nat) : TabsOk Try.prog (impl_padding_cx k) := ⟨tab_mk tabs_ok _ _ _ _ _ _ _, look_all (Q := ConOk Try.prog) _ ⟨impl_size_byte_conOk, trivial⟩, look_all (Q := TakOk Try.prog) _ ⟨impl_appendLittle_takOk, trivial⟩, look_all (Q := InpOk Try.prog) _ trivial, look_all (Q := InlOk Try.prog) _ trivial, mixed_ok⟩
abbrev impl_padding_sh : List Sh := [.own 5 (.int .u8)]
noncomputable def impl_padding_l0_s (a0 : Int) (z90030 : (List Int)) : St := { env := [.pv (.int .i64) a0, .dead, .dead, .sl 90030 (.int .u8), .dead, .dead, .dead, .dead, .dead, .dead, .dead, .dead, .dead, .dead, .dead, .dead, .dead, .dead], stk := [], heap := [(90030, .arr 5 (.int .u8) z90030)] }
noncomputable def impl_padding_l0_o0 (a0 : Int) (z90030 : (List Int)) : St := { env := [.pv (.int .i64) a0, .dead, .dead, .sl 90030 (.int .u8), .dead, .dead, .dead, .dead, .dead, .dead, .dead, .dead, .dead, .dead, .dead, .dead, .dead, .dead], stk := [], heap := [(90030, .arr 5 (.int .u8) z90030)] }
noncomputable def impl_padding_l0_b (rec : (List Int) → Option (shDen impl_padding_sh)) (ke0 : (List Int) → Option (shDen impl_padding_sh)) (a0 : Int) (z90030 : (List Int)) : Option (shDen impl_padding_sh) :=
 (bindO (impl_size_byte_r z90030) fun (b2 : Int) => (cond (!(decide ((Int.tmod (IntKind.wrap .i64 (a0 + b2)) (32 : Int)) = (24 : Int))))
 (cond (decide ((z90030.length + 1) * 1 ≤ 140737488355328) && decide (z90030.length + 1 ≤ 9223372036854775807))
 (rec (z90030 ++ [(0 : Int)]))
 none)
 (ke0 z90030)))
noncomputable def impl_padding_l0_L (ke0 : (List Int) → Option (shDen impl_padding_sh)) (a0 : Int) : Nat → (List Int) → Option (shDen impl_padding_sh)
 | 0 => fun _ => none
 | n + 1 => impl_padding_l0_b (impl_padding_l0_L ke0 a0 n) ke0 a0
noncomputable def impl_padding_r (a0 : Int) : Option (shDen impl_padding_sh) :=
 (impl_padding_l0_L (fun z90030 => (bindO (impl_appendLittle_r z90030 (IntKind.wrap .u64 a0) (8 : Int)) fun (b3 : (List Int)) => (some b3))) a0 FUEL [(128 : Int)])
theorem impl_padding_l0_round (k : Nat) (K : Ex → St → Option (shDen impl_padding_sh)) (n : Nat) (a0 : Int) (z90030 : (List Int)) : (loopK (impl_padding_cx k) 0 (execK (impl_padding_cx k) (callK (impl_padding_cx k) 8) 0 102 (sub impl_padding_c [1, 1, 0, 0, 0])) impl_padding_l0_cut K (n + 1) (impl_padding_l0_s a0 z90030) : Option (shDen impl_padding_sh)) =
 ((bindO (impl_size_byte_r z90030) fun (b2 : Int) => (cond (!(decide ((Int.tmod (IntKind.wrap .i64 (a0 + b2)) (32 : Int)) = (24 : Int))))
 (cond (decide ((z90030.length + 1) * 1 ≤ 140737488355328) && decide (z90030.length + 1 ≤ 9223372036854775807))
 (loopK (impl_padding_cx k) 0 (execK (impl_padding_cx k) (callK (impl_padding_cx k) 8) 0 102 (sub impl_padding_c [1, 1, 0, 0, 0])) impl_padding_l0_cut K n (impl_padding_l0_s a0 (z90030 ++ [(0 : Int)])))
 none)
 (K (.exit 0) (impl_padding_l0_o0 a0 z90030)))) : Option (shDen impl_padding_sh)) := by kernel_rfl

theorem impl_padding_l0_exit0 (k : Nat)  (a0 : Int) (z90030 : (List Int)) : ((blkK 0 (seqK (execK (impl_padding_cx k) (callK (impl_padding_cx k) 8) 0 102 (sub impl_padding_c [1, 1, 1])) (finK (impl_padding_cx k) impl_padding_i impl_padding_sh))) (.exit 0) (impl_padding_l0_o0 a0 z90030) : Option (shDen impl_padding_sh)) =
 ((bindO (impl_appendLittle_r z90030 (IntKind.wrap .u64 a0) (8 : Int)) fun (b3 : (List Int)) => (some b3)) : Option (shDen impl_padding_sh)) := by kernel_rfl

theorem impl_padding_l0_congr (ke0 : (List Int) → Option (shDen impl_padding_sh)) (ke0' : (List Int) → Option (shDen impl_padding_sh)) (a0 : Int) (n : Nat) (z90030 : (List Int)) (hke0 : ∀ z90030, ke0 z90030 = ke0' z90030) : impl_padding_l0_L ke0 a0 n z90030 = impl_padding_l0_L ke0' a0 n z90030 := by
 have : ke0 = ke0' := (by funext z90030; exact hke0 z90030); subst this; rfl

theorem impl_padding_l0_L_eq (K : Ex → St → Option (shDen impl_padding_sh)) (a0 : Int) : ∀ (n : Nat) (z90030 : (List Int)), (loopK (impl_padding_cx FUEL) 0 (execK (impl_padding_cx FUEL) (callK (impl_padding_cx FUEL) 8) 0 102 (sub impl_padding_c [1, 1, 0, 0, 0])) impl_padding_l0_cut K n (impl_padding_l0_s a0 z90030) : Option (shDen impl_padding_sh)) = impl_padding_l0_L (fun z90030 => K (.exit 0) (impl_padding_l0_o0 a0 z90030)) a0 n z90030 := by
 intro n
 induction n with
 | zero => intros; rfl
 | succ n ih =>
  intro z90030
  exact (impl_padding_l0_round FUEL K n a0 z90030).trans (bindC (fun b2 => condC (condC (ih (z90030 ++ [(0 : Int)])) (rfl)) (rfl)))

theorem impl_padding_start (k : Nat) (a0 : Int) : fnK (impl_padding_cx k) 8 102 impl_padding_i impl_padding_sh [.pv (.int .i64) a0] =
 ((loopK (impl_padding_cx k) 0 (execK (impl_padding_cx k) (callK (impl_padding_cx k) 8) 0 102 (sub impl_padding_c [1, 1, 0, 0, 0])) impl_padding_l0_cut (blkK 0 (seqK (execK (impl_padding_cx k) (callK (impl_padding_cx k) 8) 0 102 (sub impl_padding_c [1, 1, 1])) (finK (impl_padding_cx k) impl_padding_i impl_padding_sh))) k (impl_padding_l0_s a0 [(128 : Int)])) : Option (shDen impl_padding_sh)) := by kernel_rfl

theorem impl_padding_run (a0 : Int) : fnK (impl_padding_cx FUEL) 8 102 impl_padding_i impl_padding_sh [.pv (.int .i64) a0] = impl_padding_r a0 :=
 (impl_padding_start FUEL a0).trans ((impl_padding_l0_L_eq _ a0 FUEL [(128 : Int)]).trans (impl_padding_l0_congr _ _ a0 FUEL [(128 : Int)] (fun z90030 => (impl_padding_l0_exit0 FUEL  a0 z90030).trans (rfl))))

noncomputable def impl_padding_con : Con := { ps := (.pair (.int .i64) .unit), sh := impl_padding_sh, raw := fun x => impl_padding_r x.1 }
theorem impl_padding_conOk : ConOk Try.prog 102 impl_padding_con := con_of_fn (impl_padding_tabs FUEL) (depth := 8) impl_padding_ok fun x y h => (impl_padding_run x.1).trans h

noncomputable def slices_Concat_byte_byte_l0_cut : Cut := { keep := [0, 3, 9, 10, 11], stk := [], ids := [], own := [], outs := [(1, [0, 3], [])] }
noncomputable def slices_Concat_byte_byte_l1_cut : Cut := { keep := [6, 25, 26, 27], stk := [], ids := [90060], own := [(6, 90060, 25)], outs := [(3, [6], [90060])] }
noncomputable def slices_Concat_byte_byte_inls : List (Nat × Inl) := []
noncomputable def slices_Concat_byte_byte_cons : List (Nat × Con) := []
noncomputable def slices_Concat_byte_byte_taks : List (Nat × ConT) := [(96, slices_Grow_byte_byte_tak)]
noncomputable def slices_Concat_byte_byte_inps : List (Nat × ConI) := []
noncomputable def slices_Concat_byte_byte_cuts : List (Nat × List (Nat × Cut)) := [(59, [(0, slices_Concat_byte_byte_l0_cut), (2, slices_Concat_byte_byte_l1_cut)])]
noncomputable def slices_Concat_byte_byte_cx (k : Nat) : Cx := mkCx tys tbytes telem nozero (Ai.look slices_Concat_byte_byte_inls) (Ai.look slices_Concat_byte_byte_cons) (Ai.look slices_Concat_byte_byte_taks) (Ai.look slices_Concat_byte_byte_inps) (fun f id => match Ai.look slices_Concat_byte_byte_cuts f with | some l => Ai.look l id | none => none) k []
theorem slices_Concat_byte_byte_tabs (k : Nat) : TabsOk Try.prog (slices_Concat_byte_byte_cx k) := ⟨tab_mk tabs_ok _ _ _ _ _ _ _, look_all (Q := ConOk Try.prog) _ trivial, look_all (Q := TakOk Try.prog) _ ⟨slices_Grow_byte_byte_takOk, trivial⟩, look_all (Q := InpOk Try.prog) _ trivial, look_all (Q := InlOk Try.prog) _ trivial, mixed_ok⟩
abbrev slices_Concat_byte_byte_sh : List Sh := [.own 5 (.int .u8)]
noncomputable def slices_Concat_byte_byte_l0_s (a0 : (List (List Int))) (x3 : Int) (x11 : Int) : St := { env := [.pv (.slice (.slice (.int .u8))) a0, .dead, .dead, .pv (.int .i64) x3, .dead, .dead, .dead, .dead, .dead, .pv (.slice (.slice (.int .u8))) a0, .pv (.int .i64) (a0.length : Int), .pv (.int .i64) x11, .dead, .dead, .dead, .dead, .dead, .dead, .dead, .dead, .dead, .dead, .dead, .dead, .dead, .dead, .dead, .dead, .dead, .dead, .dead, .dead, .dead, .dead, .dead, .dead], stk := [], heap := [] }
noncomputable def slices_Concat_byte_byte_l0_o0 (a0 : (List (List Int))) (x3 : Int) : St := { env := [.pv (.slice (.slice (.int .u8))) a0, .dead, .dead, .pv (.int .i64) x3, .dead, .dead, .dead, .dead, .dead, .dead, .dead, .dead, .dead, .dead, .dead, .dead, .dead, .dead, .dead, .dead, .dead, .dead, .dead, .dead, .dead, .dead, .dead, .dead, .dead, .dead, .dead, .dead, .dead, .dead, .dead, .dead], stk := [], heap := [] }
noncomputable def slices_Concat_byte_byte_l1_s (a0 : (List (List Int))) (z90060 : (List Int)) (x27 : Int) : St := { env := [.dead, .dead, .dead, .dead, .dead, .dead, .sl 90060 (.int .u8), .dead, .dead, .dead, .dead, .dead, .dead, .dead, .dead, .dead, .dead, .dead, .dead, .dead, .dead, .dead, .dead, .dead, .dead, .pv (.slice (.slice (.int .u8))) a0, .pv (.int .i64) (a0.length : Int), .pv (.int .i64) x27, .dead, .dead, .dead, .dead, .dead, .dead, .dead, .dead], stk := [], heap := [(90060, .arr 5 (.int .u8) z90060)] }
noncomputable def slices_Concat_byte_byte_l1_o2 (z90060 : (List Int)) : St := { env := [.dead, .dead, .dead, .dead, .dead, .dead, .sl 90060 (.int .u8), .dead, .dead, .dead, .dead, .dead, .dead, .dead, .dead, .dead, .dead, .dead, .dead, .dead, .dead, .dead, .dead, .dead, .dead, .dead, .dead, .dead, .dead, .dead, .dead, .dead, .dead, .dead, .dead, .dead], stk := [], heap := [(90060, .arr 5 (.int .u8) z90060)] }
noncomputable def slices_Concat_byte_byte_l1_b (rec : (List Int) → Int → Option (shDen slices_Concat_byte_byte_sh)) (ke2 : (List Int) → Option (shDen slices_Concat_byte_byte_sh)) (a0 : (List (List Int))) (z90060 : (List Int)) (x27 : Int) : Option (shDen slices_Concat_byte_byte_sh) :=
 (cond (decide (x27 < (a0.length : Int)))
 (cond ((decide ((0 : Int) ≤ x27)) && (decide (x27 < (a0.length : Int))))
 (cond (decide ((z90060.length + (a0.getD (x27.toNat) []).length) * 1 ≤ 140737488355328) && decide (z90060.length + (a0.getD (x27.toNat) []).length ≤ 9223372036854775807))
 (rec (z90060 ++ (a0.getD (x27.toNat) [])) (IntKind.wrap .i64 (x27 + (1 : Int))))
 none)
 none)
 (ke2 z90060))
noncomputable def slices_Concat_byte_byte_l1_L (ke2 : (List Int) → Option (shDen slices_Concat_byte_byte_sh)) (a0 : (List (List Int))) : Nat → (List Int) → Int → Option (shDen slices_Concat_byte_byte_sh)
 | 0 => fun _ _ => none
 | n + 1 => slices_Concat_byte_byte_l1_b (slices_Concat_byte_byte_l1_L ke2 a0 n) ke2 a0
noncomputable def slices_Concat_byte_byte_l0_b (rec : Int → Int → Option (shDen slices_Concat_byte_byte_sh)) (ke0 : Int → Option (shDen slices_Concat_byte_byte_sh)) (a0 : (List (List Int))) (x3 : Int) (x11 : Int) : Option (shDen slices_Concat_byte_byte_sh) :=
 (cond (decide (x11 < (a0.length : Int)))
 (cond ((decide ((0 : Int) ≤ x11)) && (decide (x11 < (a0.length : Int))))
 (cond (decide ((IntKind.wrap .i64 (x3 + ((a0.getD (x11.toNat) []).length : Int))) < (0 : Int)))
 none
 (rec (IntKind.wrap .i64 (x3 + ((a0.getD (x11.toNat) []).length : Int))) (IntKind.wrap .i64 (x11 + (1 : Int)))))
 none)
 (ke0 x3))
noncomputable def slices_Concat_byte_byte_l0_L (ke0 : Int → Option (shDen slices_Concat_byte_byte_sh)) (a0 : (List (List Int))) : Nat → Int → Int → Option (shDen slices_Concat_byte_byte_sh)
 | 0 => fun _ _ => none
 | n + 1 => slices_Concat_byte_byte_l0_b (slices_Concat_byte_byte_l0_L ke0 a0 n) ke0 a0
noncomputable def slices_Concat_byte_byte_r (a0 : (List (List Int))) : Option (shDen slices_Concat_byte_byte_sh) :=
 (slices_Concat_byte_byte_l0_L (fun x3 => (bindO (slices_Grow_byte_byte_tr [] x3) fun (b1 : (List Int)) => (slices_Concat_byte_byte_l1_L (fun z90060 => (some z90060)) a0 FUEL b1 (0 : Int)))) a0 FUEL (0 : Int) (0 : Int))
theorem slices_Concat_byte_byte_l1_round (k : Nat) (K : Ex → St → Option (shDen slices_Concat_byte_byte_sh)) (n : Nat) (a0 : (List (List Int))) (z90060 : (List Int)) (x27 : Int) : (loopK (slices_Concat_byte_byte_cx k) 0 (execK (slices_Concat_byte_byte_cx k) (callK (slices_Concat_byte_byte_cx k) 8) 0 59 (sub slices_Concat_byte_byte_c [1, 1, 1, 1, 0, 1, 0, 0])) slices_Concat_byte_byte_l1_cut K (n + 1) (slices_Concat_byte_byte_l1_s a0 z90060 x27) : Option (shDen slices_Concat_byte_byte_sh)) =
 ((cond (decide (x27 < (a0.length : Int)))
 (cond ((decide ((0 : Int) ≤ x27)) && (decide (x27 < (a0.length : Int))))
 (cond (decide ((z90060.length + (a0.getD (x27.toNat) []).length) * 1 ≤ 140737488355328) && decide (z90060.length + (a0.getD (x27.toNat) []).length ≤ 9223372036854775807))
 (loopK (slices_Concat_byte_byte_cx k) 0 (execK (slices_Concat_byte_byte_cx k) (callK (slices_Concat_byte_byte_cx k) 8) 0 59 (sub slices_Concat_byte_byte_c [1, 1, 1, 1, 0, 1, 0, 0])) slices_Concat_byte_byte_l1_cut K n (slices_Concat_byte_byte_l1_s a0 (z90060 ++ (a0.getD (x27.toNat) [])) (IntKind.wrap .i64 (x27 + (1 : Int)))))
 none)
 none)
 (K (.exit 2) (slices_Concat_byte_byte_l1_o2 z90060))) : Option (shDen slices_Concat_byte_byte_sh)) := by kernel_rfl

theorem slices_Concat_byte_byte_l1_exit2 (k : Nat)  (z90060 : (List Int)) : ((blkK 2 (seqK (execK (slices_Concat_byte_byte_cx k) (callK (slices_Concat_byte_byte_cx k) 8) 0 59 (sub slices_Concat_byte_byte_c [1, 1, 1, 1, 1])) (finK (slices_Concat_byte_byte_cx k) slices_Concat_byte_byte_i slices_Concat_byte_byte_sh))) (.exit 2) (slices_Concat_byte_byte_l1_o2 z90060) : Option (shDen slices_Concat_byte_byte_sh)) =
 ((some z90060) : Option (shDen slices_Concat_byte_byte_sh)) := by kernel_rfl

theorem slices_Concat_byte_byte_l1_congr (ke2 : (List Int) → Option (shDen slices_Concat_byte_byte_sh)) (ke2' : (List Int) → Option (shDen slices_Concat_byte_byte_sh)) (a0 : (List (List Int))) (n : Nat) (z90060 : (List Int)) (x27 : Int) (hke2 : ∀ z90060, ke2 z90060 = ke2' z90060) : slices_Concat_byte_byte_l1_L ke2 a0 n z90060 x27 = slices_Concat_byte_byte_l1_L ke2' a0 n z90060 x27 := by
 have : ke2 = ke2' := (by funext z90060; exact hke2 z90060); subst this; rfl

theorem slices_Concat_byte_byte_l1_L_eq (K : Ex → St → Option (shDen slices_Concat_byte_byte_sh)) (a0 : (List (List Int))) : ∀ (n : Nat) (z90060 : (List Int)) (x27 : Int), (loopK (slices_Concat_byte_byte_cx FUEL) 0 (execK (slices_Concat_byte_byte_cx FUEL) (callK (slices_Concat_byte_byte_cx FUEL) 8) 0 59 (sub slices_Concat_byte_byte_c [1, 1, 1, 1, 0, 1, 0, 0])) slices_Concat_byte_byte_l1_cut K n (slices_Concat_byte_byte_l1_s a0 z90060 x27) : Option (shDen slices_Concat_byte_byte_sh)) = slices_Concat_byte_byte_l1_L (fun z90060 => K (.exit 2) (slices_Concat_byte_byte_l1_o2 z90060)) a0 n z90060 x27 := by
 intro n
 induction n with
 | zero => intros; rfl
 | succ n ih =>
  intro z90060 x27
  exact (slices_Concat_byte_byte_l1_round FUEL K n a0 z90060 x27).trans (condC (condC (condC (ih (z90060 ++ (a0.getD (x27.toNat) [])) (IntKind.wrap .i64 (x27 + (1 : Int)))) (rfl)) (rfl)) (rfl))

theorem slices_Concat_byte_byte_l0_round (k : Nat) (K : Ex → St → Option (shDen slices_Concat_byte_byte_sh)) (n : Nat) (a0 : (List (List Int))) (x3 : Int) (x11 : Int) : (loopK (slices_Concat_byte_byte_cx k) 0 (execK (slices_Concat_byte_byte_cx k) (callK (slices_Concat_byte_byte_cx k) 8) 0 59 (sub slices_Concat_byte_byte_c [1, 1, 0, 1, 0, 0])) slices_Concat_byte_byte_l0_cut K (n + 1) (slices_Concat_byte_byte_l0_s a0 x3 x11) : Option (shDen slices_Concat_byte_byte_sh)) =
 ((cond (decide (x11 < (a0.length : Int)))
 (cond ((decide ((0 : Int) ≤ x11)) && (decide (x11 < (a0.length : Int))))
 (cond (decide ((IntKind.wrap .i64 (x3 + ((a0.getD (x11.toNat) []).length : Int))) < (0 : Int)))
 none
 (loopK (slices_Concat_byte_byte_cx k) 0 (execK (slices_Concat_byte_byte_cx k) (callK (slices_Concat_byte_byte_cx k) 8) 0 59 (sub slices_Concat_byte_byte_c [1, 1, 0, 1, 0, 0])) slices_Concat_byte_byte_l0_cut K n (slices_Concat_byte_byte_l0_s a0 (IntKind.wrap .i64 (x3 + ((a0.getD (x11.toNat) []).length : Int))) (IntKind.wrap .i64 (x11 + (1 : Int))))))
 none)
 (K (.exit 0) (slices_Concat_byte_byte_l0_o0 a0 x3))) : Option (shDen slices_Concat_byte_byte_sh)) := by kernel_rfl

theorem slices_Concat_byte_byte_l0_exit0 (k : Nat)  (a0 : (List (List Int))) (x3 : Int) : ((blkK 0 (seqK (execK (slices_Concat_byte_byte_cx k) (callK (slices_Concat_byte_byte_cx k) 8) 0 59 (sub slices_Concat_byte_byte_c [1, 1, 1])) (finK (slices_Concat_byte_byte_cx k) slices_Concat_byte_byte_i slices_Concat_byte_byte_sh))) (.exit 0) (slices_Concat_byte_byte_l0_o0 a0 x3) : Option (shDen slices_Concat_byte_byte_sh)) =
 ((bindO (slices_Grow_byte_byte_tr [] x3) fun (b1 : (List Int)) => (loopK (slices_Concat_byte_byte_cx k) 0 (execK (slices_Concat_byte_byte_cx k) (callK (slices_Concat_byte_byte_cx k) 8) 0 59 (sub slices_Concat_byte_byte_c [1, 1, 1, 1, 0, 1, 0, 0])) slices_Concat_byte_byte_l1_cut (blkK 2 (seqK (execK (slices_Concat_byte_byte_cx k) (callK (slices_Concat_byte_byte_cx k) 8) 0 59 (sub slices_Concat_byte_byte_c [1, 1, 1, 1, 1])) (finK (slices_Concat_byte_byte_cx k) slices_Concat_byte_byte_i slices_Concat_byte_byte_sh))) k (slices_Concat_byte_byte_l1_s a0 b1 (0 : Int)))) : Option (shDen slices_Concat_byte_byte_sh)) := by kernel_rfl

theorem slices_Concat_byte_byte_l0_congr (ke0 : Int → Option (shDen slices_Concat_byte_byte_sh)) (ke0' : Int → Option (shDen slices_Concat_byte_byte_sh)) (a0 : (List (List Int))) (n : Nat) (x3 : Int) (x11 : Int) (hke0 : ∀ x3, ke0 x3 = ke0' x3) : slices_Concat_byte_byte_l0_L ke0 a0 n x3 x11 = slices_Concat_byte_byte_l0_L ke0' a0 n x3 x11 := by
 have : ke0 = ke0' := (by funext x3; exact hke0 x3); subst this; rfl

theorem slices_Concat_byte_byte_l0_L_eq (K : Ex → St → Option (shDen slices_Concat_byte_byte_sh)) (a0 : (List (List Int))) : ∀ (n : Nat) (x3 : Int) (x11 : Int), (loopK (slices_Concat_byte_byte_cx FUEL) 0 (execK (slices_Concat_byte_byte_cx FUEL) (callK (slices_Concat_byte_byte_cx FUEL) 8) 0 59 (sub slices_Concat_byte_byte_c [1, 1, 0, 1, 0, 0])) slices_Concat_byte_byte_l0_cut K n (slices_Concat_byte_byte_l0_s a0 x3 x11) : Option (shDen slices_Concat_byte_byte_sh)) = slices_Concat_byte_byte_l0_L (fun x3 => K (.exit 0) (slices_Concat_byte_byte_l0_o0 a0 x3)) a0 n x3 x11 := by
 intro n
 induction n with
 | zero => intros; rfl
 | succ n ih =>
  intro x3 x11
  exact (slices_Concat_byte_byte_l0_round FUEL K n a0 x3 x11).trans (condC (condC (condC (rfl) (ih (IntKind.wrap .i64 (x3 + ((a0.getD (x11.toNat) []).length : Int))) (IntKind.wrap .i64 (x11 + (1 : Int))))) (rfl)) (rfl))

theorem slices_Concat_byte_byte_start (k : Nat) (a0 : (List (List Int))) : fnK (slices_Concat_byte_byte_cx k) 8 59 slices_Concat_byte_byte_i slices_Concat_byte_byte_sh [.pv (.slice (.slice (.int .u8))) a0] =
 ((loopK (slices_Concat_byte_byte_cx k) 0 (execK (slices_Concat_byte_byte_cx k) (callK (slices_Concat_byte_byte_cx k) 8) 0 59 (sub slices_Concat_byte_byte_c [1, 1, 0, 1, 0, 0])) slices_Concat_byte_byte_l0_cut (blkK 0 (seqK (execK (slices_Concat_byte_byte_cx k) (callK (slices_Concat_byte_byte_cx k) 8) 0 59 (sub slices_Concat_byte_byte_c [1, 1, 1])) (finK (slices_Concat_byte_byte_cx k) slices_Concat_byte_byte_i slices_Concat_byte_byte_sh))) k (slices_Concat_byte_byte_l0_s a0 (0 : Int) (0 : Int))) : Option (shDen slices_Concat_byte_byte_sh)) := by kernel_rfl

theorem slices_Concat_byte_byte_run (a0 : (List (List Int))) : fnK (slices_Concat_byte_byte_cx FUEL) 8 59 slices_Concat_byte_byte_i slices_Concat_byte_byte_sh [.pv (.slice (.slice (.int .u8))) a0] = slices_Concat_byte_byte_r a0 :=
 (slices_Concat_byte_byte_start FUEL a0).trans ((slices_Concat_byte_byte_l0_L_eq _ a0 FUEL (0 : Int) (0 : Int)).trans (slices_Concat_byte_byte_l0_congr _ _ a0 FUEL (0 : Int) (0 : Int) (fun x3 => (slices_Concat_byte_byte_l0_exit0 FUEL  a0 x3).trans (bindC (fun b1 => (slices_Concat_byte_byte_l1_L_eq _ a0 FUEL b1 (0 : Int)).trans (slices_Concat_byte_byte_l1_congr _ _ a0 FUEL b1 (0 : Int) (fun z90060 => (slices_Concat_byte_byte_l1_exit2 FUEL  z90060).trans (rfl))))))))

noncomputable def slices_Concat_byte_byte_con : Con := { ps := (.pair (.slice (.slice (.int .u8))) .unit), sh := slices_Concat_byte_byte_sh, raw := fun x => slices_Concat_byte_byte_r x.1 }
theorem slices_Concat_byte_byte_conOk : ConOk Try.prog 59 slices_Concat_byte_byte_con := con_of_fn (slices_Concat_byte_byte_tabs FUEL) (depth := 8) slices_Concat_byte_byte_ok fun x y h => (slices_Concat_byte_byte_run x.1).trans h

noncomputable def impl_blocks_l0_cut : Cut := { keep := [0, 4], stk := [], ids := [90040], own := [(4, 90040, 140)], outs := [(1, [0, 4], [90040])] }
noncomputable def impl_blocks_inls : List (Nat × Inl) := []
noncomputable def impl_blocks_cons : List (Nat × Con) := []
noncomputable def impl_blocks_taks : List (Nat × ConT) := []
noncomputable def impl_blocks_inps : List (Nat × ConI) := []
noncomputable def impl_blocks_cuts : List (Nat × List (Nat × Cut)) := [(101, [(0, impl_blocks_l0_cut)])]
noncomputable def impl_blocks_cx (k : Nat) : Cx := mkCx tys tbytes telem nozero (Ai.look impl_blocks_inls) (Ai.look impl_blocks_cons) (Ai.look impl_blocks_taks) (Ai.look impl_blocks_inps) (fun f id => match Ai.look impl_blocks_cuts f with | some l => Ai.look l id | none => none) k []
theorem impl_blocks_tabs (k : Nat) : TabsOk Try.prog (impl_blocks_cx k) := ⟨tab_mk tabs_ok _ _ _ _ _ _ _, look_all (Q := ConOk Try.prog) _ trivial, look_all (Q := TakOk Try.prog) _ trivial, look_all (Q := InpOk Try.prog) _ trivial, look_all (Q := InlOk Try.prog) _ trivial, mixed_ok⟩
abbrev impl_blocks_sh : List Sh := [.own 95 (.arr 32 (.int .u8)), .pl (.slice (.int .u8))]
noncomputable def impl_blocks_l0_s (x0 : (List Int)) (z90040 : (List (List Int))) : St := { env := [.pv (.slice (.int .u8)) x0, .dead, .dead, .dead, .sl 90040 (.arr 32 (.int .u8)), .dead, .dead, .dead, .dead, .dead, .dead, .dead, .dead, .dead, .dead, .dead, .dead, .dead, .dead], stk := [], heap := [(90040, .arr 95 (.arr 32 (.int .u8)) z90040)] }
noncomputable def impl_blocks_l0_o0 (x0 : (List Int)) (z90040 : (List (List Int))) : St := { env := [.pv (.slice (.int .u8)) x0, .dead, .dead, .dead, .sl 90040 (.arr 32 (.int .u8)), .dead, .dead, .dead, .dead, .dead, .dead, .dead, .dead, .dead, .dead, .dead, .dead, .dead, .dead], stk := [], heap := [(90040, .arr 95 (.arr 32 (.int .u8)) z90040)] }
noncomputable def impl_blocks_l0_b (rec : (List Int) → (List (List Int)) → Option (shDen impl_blocks_sh)) (ke0 : (List Int) → (List (List Int)) → Option (shDen impl_blocks_sh)) (x0 : (List Int)) (z90040 : (List (List Int))) : Option (shDen impl_blocks_sh) :=
 (cond (decide ((32 : Int) ≤ (x0.length : Int)))
 (cond (decide (32 ≤ x0.length))
 (cond (decide ((z90040.length + 1) * 32 ≤ 140737488355328) && decide (z90040.length + 1 ≤ 9223372036854775807))
 (cond (decide ((32 : Int) ≤ (x0.length : Int)))
 (rec (cutL x0 32 (x0.length)) (z90040 ++ [(x0.take 32)]))
 none)
 none)
 none)
 (ke0 x0 z90040))
noncomputable def impl_blocks_l0_L (ke0 : (List Int) → (List (List Int)) → Option (shDen impl_blocks_sh))  : Nat → (List Int) → (List (List Int)) → Option (shDen impl_blocks_sh)
 | 0 => fun _ _ => none
 | n + 1 => impl_blocks_l0_b (impl_blocks_l0_L ke0  n) ke0 
noncomputable def impl_blocks_r (a0 : (List Int)) : Option (shDen impl_blocks_sh) :=
 (impl_blocks_l0_L (fun x0 z90040 => (some (z90040, x0))) FUEL a0 [])
theorem impl_blocks_l0_round (k : Nat) (K : Ex → St → Option (shDen impl_blocks_sh)) (n : Nat) (x0 : (List Int)) (z90040 : (List (List Int))) : (loopK (impl_blocks_cx k) 0 (execK (impl_blocks_cx k) (callK (impl_blocks_cx k) 8) 0 101 (sub impl_blocks_c [1, 1, 0, 0, 0])) impl_blocks_l0_cut K (n + 1) (impl_blocks_l0_s x0 z90040) : Option (shDen impl_blocks_sh)) =
 ((cond (decide ((32 : Int) ≤ (x0.length : Int)))
 (cond (decide (32 ≤ x0.length))
 (cond (decide ((z90040.length + 1) * 32 ≤ 140737488355328) && decide (z90040.length + 1 ≤ 9223372036854775807))
 (cond (decide ((32 : Int) ≤ (x0.length : Int)))
 (loopK (impl_blocks_cx k) 0 (execK (impl_blocks_cx k) (callK (impl_blocks_cx k) 8) 0 101 (sub impl_blocks_c [1, 1, 0, 0, 0])) impl_blocks_l0_cut K n (impl_blocks_l0_s (cutL x0 32 (x0.length)) (z90040 ++ [(x0.take 32)])))
 none)
 none)
 none)
 (K (.exit 0) (impl_blocks_l0_o0 x0 z90040))) : Option (shDen impl_blocks_sh)) := by kernel_rfl

theorem impl_blocks_l0_exit0 (k : Nat)  (x0 : (List Int)) (z90040 : (List (List Int))) : ((blkK 0 (seqK (execK (impl_blocks_cx k) (callK (impl_blocks_cx k) 8) 0 101 (sub impl_blocks_c [1, 1, 1])) (finK (impl_blocks_cx k) impl_blocks_i impl_blocks_sh))) (.exit 0) (impl_blocks_l0_o0 x0 z90040) : Option (shDen impl_blocks_sh)) =
 ((some (z90040, x0)) : Option (shDen impl_blocks_sh)) := by kernel_rfl

theorem impl_blocks_l0_congr (ke0 : (List Int) → (List (List Int)) → Option (shDen impl_blocks_sh)) (ke0' : (List Int) → (List (List Int)) → Option (shDen impl_blocks_sh))  (n : Nat) (x0 : (List Int)) (z90040 : (List (List Int))) (hke0 : ∀ x0 z90040, ke0 x0 z90040 = ke0' x0 z90040) : impl_blocks_l0_L ke0  n x0 z90040 = impl_blocks_l0_L ke0'  n x0 z90040 := by
 have : ke0 = ke0' := (by funext x0 z90040; exact hke0 x0 z90040); subst this; rfl

theorem impl_blocks_l0_L_eq (K : Ex → St → Option (shDen impl_blocks_sh))  : ∀ (n : Nat) (x0 : (List Int)) (z90040 : (List (List Int))), (loopK (impl_blocks_cx FUEL) 0 (execK (impl_blocks_cx FUEL) (callK (impl_blocks_cx FUEL) 8) 0 101 (sub impl_blocks_c [1, 1, 0, 0, 0])) impl_blocks_l0_cut K n (impl_blocks_l0_s x0 z90040) : Option (shDen impl_blocks_sh)) = impl_blocks_l0_L (fun x0 z90040 => K (.exit 0) (impl_blocks_l0_o0 x0 z90040))  n x0 z90040 := by
 intro n
 induction n with
 | zero => intros; rfl
 | succ n ih =>
  intro x0 z90040
  exact (impl_blocks_l0_round FUEL K n  x0 z90040).trans (condC (condC (condC (condC (ih (cutL x0 32 (x0.length)) (z90040 ++ [(x0.take 32)])) (rfl)) (rfl)) (rfl)) (rfl))

theorem impl_blocks_start (k : Nat) (a0 : (List Int)) : fnK (impl_blocks_cx k) 8 101 impl_blocks_i impl_blocks_sh [.pv (.slice (.int .u8)) a0] =
 ((loopK (impl_blocks_cx k) 0 (execK (impl_blocks_cx k) (callK (impl_blocks_cx k) 8) 0 101 (sub impl_blocks_c [1, 1, 0, 0, 0])) impl_blocks_l0_cut (blkK 0 (seqK (execK (impl_blocks_cx k) (callK (impl_blocks_cx k) 8) 0 101 (sub impl_blocks_c [1, 1, 1])) (finK (impl_blocks_cx k) impl_blocks_i impl_blocks_sh))) k (impl_blocks_l0_s a0 [])) : Option (shDen impl_blocks_sh)) := by kernel_rfl

theorem impl_blocks_run (a0 : (List Int)) : fnK (impl_blocks_cx FUEL) 8 101 impl_blocks_i impl_blocks_sh [.pv (.slice (.int .u8)) a0] = impl_blocks_r a0 :=
 (impl_blocks_start FUEL a0).trans ((impl_blocks_l0_L_eq _  FUEL a0 []).trans (impl_blocks_l0_congr _ _  FUEL a0 [] (fun x0 z90040 => (impl_blocks_l0_exit0 FUEL  x0 z90040).trans (rfl))))

noncomputable def impl_blocks_con : Con := { ps := (.pair (.slice (.int .u8)) .unit), sh := impl_blocks_sh, raw := fun x => impl_blocks_r x.1 }
theorem impl_blocks_conOk : ConOk Try.prog 101 impl_blocks_con := con_of_fn (impl_blocks_tabs FUEL) (depth := 8) impl_blocks_ok fun x y h => (impl_blocks_run x.1).trans h

noncomputable def impl_mixed_l0_cut : Cut := { keep := [2, 4, 7, 8, 9], stk := [], ids := [20, 40], own := [], outs := [(1, [2, 4], [20, 40])] }
noncomputable def impl_mixed_inls : List (Nat × Inl) := []
noncomputable def impl_mixed_cons : List (Nat × Con) := [(126, impl_MixBlock_con)]
noncomputable def impl_mixed_taks : List (Nat × ConT) := []
noncomputable def impl_mixed_inps : List (Nat × ConI) := []
noncomputable def impl_mixed_cuts : List (Nat × List (Nat × Cut)) := [(104, [(0, impl_mixed_l0_cut)])]
noncomputable def impl_mixed_cx (k : Nat) : Cx := mkCx tys tbytes telem nozero (Ai.look impl_mixed_inls) (Ai.look impl_mixed_cons) (Ai.look impl_mixed_taks) (Ai.look impl_mixed_inps) (fun f id => match Ai.look impl_mixed_cuts f with | some l => Ai.look l id | none => none) k []
theorem impl_mixed_tabs (k : Nat) : TabsOk Try.prog (impl_mixed_cx k) := ⟨tab_mk tabs_ok _ _ _ _ _ _ _, look_all (Q := ConOk Try.prog) _ ⟨impl_MixBlock_conOk, trivial⟩, look_all (Q := TakOk Try.prog) _ trivial, look_all (Q := InpOk Try.prog) _ trivial, look_all (Q := InlOk Try.prog) _ trivial, mixed_ok⟩
abbrev impl_mixed_sh : List Sh := [.pl (.arr 8 (.int .u32))]
noncomputable def impl_mixed_l0_s (a1 : (List (List Int))) (x9 : Int) (y20 : (List Int)) : St := { env := [.dead, .dead, .ptr 20 (.arr 8 (.int .u32)) [], .dead, .ptr 40 (.arr 8 (.int .u32)) [], .dead, .dead, .pv (.slice (.arr 32 (.int .u8))) a1, .pv (.int .i64) (a1.length : Int), .pv (.int .i64) x9, .dead, .dead, .dead, .dead, .dead, .dead, .dead, .dead], stk := [], heap := [(40, .var (.arr 8 (.int .u32)) (.pv (.arr 8 (.int .u32)) (List.replicate 8 (0 : Int)))), (20, .var (.arr 8 (.int .u32)) (.pv (.arr 8 (.int .u32)) y20))] }
noncomputable def impl_mixed_l0_o0 (y20 : (List Int)) : St := { env := [.dead, .dead, .ptr 20 (.arr 8 (.int .u32)) [], .dead, .ptr 40 (.arr 8 (.int .u32)) [], .dead, .dead, .dead, .dead, .dead, .dead, .dead, .dead, .dead, .dead, .dead, .dead, .dead], stk := [], heap := [(40, .var (.arr 8 (.int .u32)) (.pv (.arr 8 (.int .u32)) (List.replicate 8 (0 : Int)))), (20, .var (.arr 8 (.int .u32)) (.pv (.arr 8 (.int .u32)) y20))] }
noncomputable def impl_mixed_l0_b (rec : Int → (List Int) → Option (shDen impl_mixed_sh)) (ke0 : (List Int) → Option (shDen impl_mixed_sh)) (a1 : (List (List Int))) (x9 : Int) (y20 : (List Int)) : Option (shDen impl_mixed_sh) :=
 (cond (decide (x9 < (a1.length : Int)))
 (cond ((decide ((0 : Int) ≤ x9)) && (decide (x9 < (a1.length : Int))))
 (bindO (impl_MixBlock_r y20 (a1.getD (x9.toNat) (List.replicate 32 (0 : Int)))) fun (b2 : (List Int)) => (rec (IntKind.wrap .i64 (x9 + (1 : Int))) b2))
 none)
 (ke0 y20))
noncomputable def impl_mixed_l0_L (ke0 : (List Int) → Option (shDen impl_mixed_sh)) (a1 : (List (List Int))) : Nat → Int → (List Int) → Option (shDen impl_mixed_sh)
 | 0 => fun _ _ => none
 | n + 1 => impl_mixed_l0_b (impl_mixed_l0_L ke0 a1 n) ke0 a1
noncomputable def impl_mixed_r (a0 : (List Int)) (a1 : (List (List Int))) : Option (shDen impl_mixed_sh) :=
 (impl_mixed_l0_L (fun y20 => (some y20)) a1 FUEL (0 : Int) a0)
theorem impl_mixed_l0_round (k : Nat) (K : Ex → St → Option (shDen impl_mixed_sh)) (n : Nat) (a1 : (List (List Int))) (x9 : Int) (y20 : (List Int)) : (loopK (impl_mixed_cx k) 0 (execK (impl_mixed_cx k) (callK (impl_mixed_cx k) 8) 0 104 (sub impl_mixed_c [1, 0, 1, 0, 0])) impl_mixed_l0_cut K (n + 1) (impl_mixed_l0_s a1 x9 y20) : Option (shDen impl_mixed_sh)) =
 ((cond (decide (x9 < (a1.length : Int)))
 (cond ((decide ((0 : Int) ≤ x9)) && (decide (x9 < (a1.length : Int))))
 (bindO (impl_MixBlock_r y20 (a1.getD (x9.toNat) (List.replicate 32 (0 : Int)))) fun (b2 : (List Int)) => (loopK (impl_mixed_cx k) 0 (execK (impl_mixed_cx k) (callK (impl_mixed_cx k) 8) 0 104 (sub impl_mixed_c [1, 0, 1, 0, 0])) impl_mixed_l0_cut K n (impl_mixed_l0_s a1 (IntKind.wrap .i64 (x9 + (1 : Int))) b2)))
 none)
 (K (.exit 0) (impl_mixed_l0_o0 y20))) : Option (shDen impl_mixed_sh)) := by kernel_rfl

theorem impl_mixed_l0_exit0 (k : Nat)  (y20 : (List Int)) : ((blkK 0 (seqK (execK (impl_mixed_cx k) (callK (impl_mixed_cx k) 8) 0 104 (sub impl_mixed_c [1, 1])) (finK (impl_mixed_cx k) impl_mixed_i impl_mixed_sh))) (.exit 0) (impl_mixed_l0_o0 y20) : Option (shDen impl_mixed_sh)) =
 ((some y20) : Option (shDen impl_mixed_sh)) := by kernel_rfl

theorem impl_mixed_l0_congr (ke0 : (List Int) → Option (shDen impl_mixed_sh)) (ke0' : (List Int) → Option (shDen impl_mixed_sh)) (a1 : (List (List Int))) (n : Nat) (x9 : Int) (y20 : (List Int)) (hke0 : ∀ y20, ke0 y20 = ke0' y20) : impl_mixed_l0_L ke0 a1 n x9 y20 = impl_mixed_l0_L ke0' a1 n x9 y20 := by
 have : ke0 = ke0' := (by funext y20; exact hke0 y20); subst this; rfl

theorem impl_mixed_l0_L_eq (K : Ex → St → Option (shDen impl_mixed_sh)) (a1 : (List (List Int))) : ∀ (n : Nat) (x9 : Int) (y20 : (List Int)), (loopK (impl_mixed_cx FUEL) 0 (execK (impl_mixed_cx FUEL) (callK (impl_mixed_cx FUEL) 8) 0 104 (sub impl_mixed_c [1, 0, 1, 0, 0])) impl_mixed_l0_cut K n (impl_mixed_l0_s a1 x9 y20) : Option (shDen impl_mixed_sh)) = impl_mixed_l0_L (fun y20 => K (.exit 0) (impl_mixed_l0_o0 y20)) a1 n x9 y20 := by
 intro n
 induction n with
 | zero => intros; rfl
 | succ n ih =>
  intro x9 y20
  exact (impl_mixed_l0_round FUEL K n a1 x9 y20).trans (condC (condC (bindC (fun b2 => ih (IntKind.wrap .i64 (x9 + (1 : Int))) b2)) (rfl)) (rfl))

theorem impl_mixed_start (k : Nat) (a0 : (List Int)) (a1 : (List (List Int))) : fnK (impl_mixed_cx k) 8 104 impl_mixed_i impl_mixed_sh [.pv (.arr 8 (.int .u32)) a0, .pv (.slice (.arr 32 (.int .u8))) a1] =
 ((loopK (impl_mixed_cx k) 0 (execK (impl_mixed_cx k) (callK (impl_mixed_cx k) 8) 0 104 (sub impl_mixed_c [1, 0, 1, 0, 0])) impl_mixed_l0_cut (blkK 0 (seqK (execK (impl_mixed_cx k) (callK (impl_mixed_cx k) 8) 0 104 (sub impl_mixed_c [1, 1])) (finK (impl_mixed_cx k) impl_mixed_i impl_mixed_sh))) k (impl_mixed_l0_s a1 (0 : Int) a0)) : Option (shDen impl_mixed_sh)) := by kernel_rfl

theorem impl_mixed_run (a0 : (List Int)) (a1 : (List (List Int))) : fnK (impl_mixed_cx FUEL) 8 104 impl_mixed_i impl_mixed_sh [.pv (.arr 8 (.int .u32)) a0, .pv (.slice (.arr 32 (.int .u8))) a1] = impl_mixed_r a0 a1 :=
 (impl_mixed_start FUEL a0 a1).trans ((impl_mixed_l0_L_eq _ a1 FUEL (0 : Int) a0).trans (impl_mixed_l0_congr _ _ a1 FUEL (0 : Int) a0 (fun y20 => (impl_mixed_l0_exit0 FUEL  y20).trans (rfl))))

noncomputable def impl_mixed_con : Con := { ps := (.pair (.arr 8 (.int .u32)) (.pair (.slice (.arr 32 (.int .u8))) .unit)), sh := impl_mixed_sh, raw := fun x => impl_mixed_r x.1 x.2.1 }
theorem impl_mixed_conOk : ConOk Try.prog 104 impl_mixed_con := con_of_fn (impl_mixed_tabs FUEL) (depth := 8) impl_mixed_ok fun x y h => (impl_mixed_run x.1 x.2.1).trans h

noncomputable def impl_keyOf_l0_cut : Cut := { keep := [2, 3, 7, 8], stk := [], ids := [20, 30], own := [], outs := [(1, [2, 3], [20, 30])] }
noncomputable def impl_keyOf_inls : List (Nat × Inl) := []
noncomputable def impl_keyOf_cons : List (Nat × Con) := []
noncomputable def impl_keyOf_taks : List (Nat × ConT) := [(125, impl_appendLittle_tak)]
noncomputable def impl_keyOf_inps : List (Nat × ConI) := []
noncomputable def impl_keyOf_cuts : List (Nat × List (Nat × Cut)) := [(103, [(0, impl_keyOf_l0_cut)])]
noncomputable def impl_keyOf_cx (k : Nat) : Cx := mkCx tys tbytes telem nozero (Ai.look impl_keyOf_inls) (Ai.look impl_keyOf_cons) (Ai.look impl_keyOf_taks) (Ai.look impl_keyOf_inps) (fun f id => match Ai.look impl_keyOf_cuts f with | some l => Ai.look l id | none => none) k []
theorem impl_keyOf_tabs (k : Nat) : TabsOk Try.prog (impl_keyOf_cx k) := ⟨tab_mk tabs_ok _ _ _ _ _ _ _, look_all (Q := ConOk Try.prog) _ trivial, look_all (Q := TakOk Try.prog) _ ⟨impl_appendLittle_takOk, trivial⟩, look_all (Q := InpOk Try.prog) _ trivial, look_all (Q := InlOk Try.prog) _ trivial, mixed_ok⟩
abbrev impl_keyOf_sh : List Sh := [.pl (.arr 32 (.int .u8))]
noncomputable def impl_keyOf_l0_s (a0 : (List Int)) (x8 : Int) (y30 : (List Int)) : St := { env := [.dead, .dead, .ptr 20 (.arr 32 (.int .u8)) [], .ptr 30 (.arr 32 (.int .u8)) [], .dead, .dead, .dead, .pv (.arr 8 (.int .u32)) a0, .pv (.int .i64) x8, .dead, .dead, .dead, .dead, .dead, .dead, .dead, .dead, .dead, .dead, .dead, .dead], stk := [], heap := [(30, .var (.arr 32 (.int .u8)) (.pv (.arr 32 (.int .u8)) y30)), (20, .var (.arr 32 (.int .u8)) (.pv (.arr 32 (.int .u8)) (List.replicate 32 (0 : Int))))] }
noncomputable def impl_keyOf_l0_o0 (y30 : (List Int)) : St := { env := [.dead, .dead, .ptr 20 (.arr 32 (.int .u8)) [], .ptr 30 (.arr 32 (.int .u8)) [], .dead, .dead, .dead, .dead, .dead, .dead, .dead, .dead, .dead, .dead, .dead, .dead, .dead, .dead, .dead, .dead, .dead], stk := [], heap := [(30, .var (.arr 32 (.int .u8)) (.pv (.arr 32 (.int .u8)) y30)), (20, .var (.arr 32 (.int .u8)) (.pv (.arr 32 (.int .u8)) (List.replicate 32 (0 : Int))))] }
noncomputable def impl_keyOf_l0_b (rec : Int → (List Int) → Option (shDen impl_keyOf_sh)) (ke0 : (List Int) → Option (shDen impl_keyOf_sh)) (a0 : (List Int)) (x8 : Int) (y30 : (List Int)) : Option (shDen impl_keyOf_sh) :=
 (cond (decide (x8 < (8 : Int)))
 (cond ((decide ((0 : Int) ≤ x8)) && (decide (x8 < (8 : Int))))
 (cond ((decide ((0 : Int) ≤ (IntKind.wrap .i64 ((4 : Int) * x8)))) && (decide ((IntKind.wrap .i64 ((4 : Int) * x8)) ≤ (32 : Int))))
 (bindO (impl_appendLittle_r [] (IntKind.wrap .u64 (a0.getD (x8.toNat) (0 : Int))) (4 : Int)) fun (b2 : (List Int)) => (rec (IntKind.wrap .i64 (x8 + (1 : Int))) (splL y30 ((IntKind.wrap .i64 ((4 : Int) * x8)).toNat) (List.take (32 - ((IntKind.wrap .i64 ((4 : Int) * x8)).toNat)) b2))))
 none)
 none)
 (ke0 y30))
noncomputable def impl_keyOf_l0_L (ke0 : (List Int) → Option (shDen impl_keyOf_sh)) (a0 : (List Int)) : Nat → Int → (List Int) → Option (shDen impl_keyOf_sh)
 | 0 => fun _ _ => none
 | n + 1 => impl_keyOf_l0_b (impl_keyOf_l0_L ke0 a0 n) ke0 a0
noncomputable def impl_keyOf_r (a0 : (List Int)) : Option (shDen impl_keyOf_sh) :=
 (impl_keyOf_l0_L (fun y30 => (some y30)) a0 FUEL (0 : Int) (List.replicate 32 (0 : Int)))
theorem impl_keyOf_l0_round (k : Nat) (K : Ex → St → Option (shDen impl_keyOf_sh)) (n : Nat) (a0 : (List Int)) (x8 : Int) (y30 : (List Int)) : (loopK (impl_keyOf_cx k) 0 (execK (impl_keyOf_cx k) (callK (impl_keyOf_cx k) 8) 0 103 (sub impl_keyOf_c [1, 1, 0, 1, 0, 0])) impl_keyOf_l0_cut K (n + 1) (impl_keyOf_l0_s a0 x8 y30) : Option (shDen impl_keyOf_sh)) =
 ((cond (decide (x8 < (8 : Int)))
 (cond ((decide ((0 : Int) ≤ x8)) && (decide (x8 < (8 : Int))))
 (cond ((decide ((0 : Int) ≤ (IntKind.wrap .i64 ((4 : Int) * x8)))) && (decide ((IntKind.wrap .i64 ((4 : Int) * x8)) ≤ (32 : Int))))
 (bindO (impl_appendLittle_r [] (IntKind.wrap .u64 (a0.getD (x8.toNat) (0 : Int))) (4 : Int)) fun (b2 : (List Int)) => (loopK (impl_keyOf_cx k) 0 (execK (impl_keyOf_cx k) (callK (impl_keyOf_cx k) 8) 0 103 (sub impl_keyOf_c [1, 1, 0, 1, 0, 0])) impl_keyOf_l0_cut K n (impl_keyOf_l0_s a0 (IntKind.wrap .i64 (x8 + (1 : Int))) (splL y30 ((IntKind.wrap .i64 ((4 : Int) * x8)).toNat) (List.take (32 - ((IntKind.wrap .i64 ((4 : Int) * x8)).toNat)) b2)))))
 none)
 none)
 (K (.exit 0) (impl_keyOf_l0_o0 y30))) : Option (shDen impl_keyOf_sh)) := by kernel_rfl

theorem impl_keyOf_l0_exit0 (k : Nat)  (y30 : (List Int)) : ((blkK 0 (seqK (execK (impl_keyOf_cx k) (callK (impl_keyOf_cx k) 8) 0 103 (sub impl_keyOf_c [1, 1, 1])) (finK (impl_keyOf_cx k) impl_keyOf_i impl_keyOf_sh))) (.exit 0) (impl_keyOf_l0_o0 y30) : Option (shDen impl_keyOf_sh)) =
 ((some y30) : Option (shDen impl_keyOf_sh)) := by kernel_rfl

theorem impl_keyOf_l0_congr (ke0 : (List Int) → Option (shDen impl_keyOf_sh)) (ke0' : (List Int) → Option (shDen impl_keyOf_sh)) (a0 : (List Int)) (n : Nat) (x8 : Int) (y30 : (List Int)) (hke0 : ∀ y30, ke0 y30 = ke0' y30) : impl_keyOf_l0_L ke0 a0 n x8 y30 = impl_keyOf_l0_L ke0' a0 n x8 y30 := by
 have : ke0 = ke0' := (by funext y30; exact hke0 y30); subst this; rfl

theorem impl_keyOf_l0_L_eq (K : Ex → St → Option (shDen impl_keyOf_sh)) (a0 : (List Int)) : ∀ (n : Nat) (x8 : Int) (y30 : (List Int)), (loopK (impl_keyOf_cx FUEL) 0 (execK (impl_keyOf_cx FUEL) (callK (impl_keyOf_cx FUEL) 8) 0 103 (sub impl_keyOf_c [1, 1, 0, 1, 0, 0])) impl_keyOf_l0_cut K n (impl_keyOf_l0_s a0 x8 y30) : Option (shDen impl_keyOf_sh)) = impl_keyOf_l0_L (fun y30 => K (.exit 0) (impl_keyOf_l0_o0 y30)) a0 n x8 y30 := by
 intro n
 induction n with
 | zero => intros; rfl
 | succ n ih =>
  intro x8 y30
  exact (impl_keyOf_l0_round FUEL K n a0 x8 y30).trans (condC (condC (condC (bindC (fun b2 => ih (IntKind.wrap .i64 (x8 + (1 : Int))) (splL y30 ((IntKind.wrap .i64 ((4 : Int) * x8)).toNat) (List.take (32 - ((IntKind.wrap .i64 ((4 : Int) * x8)).toNat)) b2)))) (rfl)) (rfl)) (rfl))

theorem impl_keyOf_start (k : Nat) (a0 : (List Int)) : fnK (impl_keyOf_cx k) 8 103 impl_keyOf_i impl_keyOf_sh [.pv (.arr 8 (.int .u32)) a0] =
 ((loopK (impl_keyOf_cx k) 0 (execK (impl_keyOf_cx k) (callK (impl_keyOf_cx k) 8) 0 103 (sub impl_keyOf_c [1, 1, 0, 1, 0, 0])) impl_keyOf_l0_cut (blkK 0 (seqK (execK (impl_keyOf_cx k) (callK (impl_keyOf_cx k) 8) 0 103 (sub impl_keyOf_c [1, 1, 1])) (finK (impl_keyOf_cx k) impl_keyOf_i impl_keyOf_sh))) k (impl_keyOf_l0_s a0 (0 : Int) (List.replicate 32 (0 : Int)))) : Option (shDen impl_keyOf_sh)) := by kernel_rfl

theorem impl_keyOf_run (a0 : (List Int)) : fnK (impl_keyOf_cx FUEL) 8 103 impl_keyOf_i impl_keyOf_sh [.pv (.arr 8 (.int .u32)) a0] = impl_keyOf_r a0 :=
 (impl_keyOf_start FUEL a0).trans ((impl_keyOf_l0_L_eq _ a0 FUEL (0 : Int) (List.replicate 32 (0 : Int))).trans (impl_keyOf_l0_congr _ _ a0 FUEL (0 : Int) (List.replicate 32 (0 : Int)) (fun y30 => (impl_keyOf_l0_exit0 FUEL  y30).trans (rfl))))

noncomputable def impl_keyOf_con : Con := { ps := (.pair (.arr 8 (.int .u32)) .unit), sh := impl_keyOf_sh, raw := fun x => impl_keyOf_r x.1 }
theorem impl_keyOf_conOk : ConOk Try.prog 103 impl_keyOf_con := con_of_fn (impl_keyOf_tabs FUEL) (depth := 8) impl_keyOf_ok fun x y h => (impl_keyOf_run x.1).trans h

noncomputable def impl_hash_inls : List (Nat × Inl) := []
noncomputable def impl_hash_cons : List (Nat × Con) := [(59, slices_Concat_byte_byte_con), (68, impl_size_byte_con), (101, impl_blocks_con), (102, impl_padding_con), (103, impl_keyOf_con), (104, impl_mixed_con), (105, impl_StartState_con)]
noncomputable def impl_hash_taks : List (Nat × ConT) := []
noncomputable def impl_hash_inps : List (Nat × ConI) := []
noncomputable def impl_hash_cuts : List (Nat × List (Nat × Cut)) := []
noncomputable def impl_hash_cx (k : Nat) : Cx := mkCx tys tbytes telem nozero (Ai.look impl_hash_inls) (Ai.look impl_hash_cons) (Ai.look impl_hash_taks) (Ai.look impl_hash_inps) (fun f id => match Ai.look impl_hash_cuts f with | some l => Ai.look l id | none => none) k []
theorem impl_hash_tabs (k : Nat) : TabsOk Try.prog (impl_hash_cx k) := ⟨tab_mk tabs_ok _ _ _ _ _ _ _, look_all (Q := ConOk Try.prog) _ ⟨slices_Concat_byte_byte_conOk, impl_size_byte_conOk, impl_blocks_conOk, impl_padding_conOk, impl_keyOf_conOk, impl_mixed_conOk, impl_StartState_conOk, trivial⟩, look_all (Q := TakOk Try.prog) _ trivial, look_all (Q := InpOk Try.prog) _ trivial, look_all (Q := InlOk Try.prog) _ trivial, mixed_ok⟩
abbrev impl_hash_sh : List Sh := [.pl (.arr 32 (.int .u8))]
noncomputable def impl_hash_r (a0 : Int) (a1 : (List Int)) : Option (shDen impl_hash_sh) :=
 (bindO (impl_size_byte_r a1) fun (b1 : Int) => (bindO (impl_padding_r b1) fun (b2 : (List Int)) => (bindO (slices_Concat_byte_byte_r [a1, b2]) fun (b3 : (List Int)) => (bindO (impl_blocks_r b3) fun (b4 : ((List (List Int)) × (List Int))) => (bindO (impl_StartState_r a0) fun (b5 : (List Int)) => (bindO (impl_mixed_r b5 b4.1) fun (b6 : (List Int)) => (bindO (impl_keyOf_r b6) fun (b7 : (List Int)) => (some b7))))))))
theorem impl_hash_start (k : Nat) (a0 : Int) (a1 : (List Int)) : fnK (impl_hash_cx k) 8 67 impl_hash_i impl_hash_sh [.pv (.int .u8) a0, .pv (.slice (.int .u8)) a1] =
 ((bindO (impl_size_byte_r a1) fun (b1 : Int) => (bindO (impl_padding_r b1) fun (b2 : (List Int)) => (bindO (slices_Concat_byte_byte_r [a1, b2]) fun (b3 : (List Int)) => (bindO (impl_blocks_r b3) fun (b4 : ((List (List Int)) × (List Int))) => (bindO (impl_StartState_r a0) fun (b5 : (List Int)) => (bindO (impl_mixed_r b5 b4.1) fun (b6 : (List Int)) => (bindO (impl_keyOf_r b6) fun (b7 : (List Int)) => (some b7)))))))) : Option (shDen impl_hash_sh)) := by kernel_rfl

theorem impl_hash_run (a0 : Int) (a1 : (List Int)) : fnK (impl_hash_cx FUEL) 8 67 impl_hash_i impl_hash_sh [.pv (.int .u8) a0, .pv (.slice (.int .u8)) a1] = impl_hash_r a0 a1 :=
 (impl_hash_start FUEL a0 a1).trans (rfl)

noncomputable def impl_hash_con : Con := { ps := (.pair (.int .u8) (.pair (.slice (.int .u8)) .unit)), sh := impl_hash_sh, raw := fun x => impl_hash_r x.1 x.2.1 }
theorem impl_hash_conOk : ConOk Try.prog 67 impl_hash_con := con_of_fn (impl_hash_tabs FUEL) (depth := 8) impl_hash_ok fun x y h => (impl_hash_run x.1 x.2.1).trans h

noncomputable def impl_RecipeOf_l0_cut : Cut := { keep := [7, 20, 21, 22], stk := [], ids := [200, 90070], own := [(7, 90070, 44)], outs := [(1, [7], [90070])] }
noncomputable def impl_RecipeOf_inls : List (Nat × Inl) := []
noncomputable def impl_RecipeOf_cons : List (Nat × Con) := [(65, impl_ruleCode_con), (66, impl_CutRule_chunks_con), (67, impl_hash_con), (68, impl_size_byte_con)]
noncomputable def impl_RecipeOf_taks : List (Nat × ConT) := []
noncomputable def impl_RecipeOf_inps : List (Nat × ConI) := []
noncomputable def impl_RecipeOf_cuts : List (Nat × List (Nat × Cut)) := [(23, [(0, impl_RecipeOf_l0_cut)])]
noncomputable def impl_RecipeOf_cx (k : Nat) : Cx := mkCx tys tbytes telem nozero (Ai.look impl_RecipeOf_inls) (Ai.look impl_RecipeOf_cons) (Ai.look impl_RecipeOf_taks) (Ai.look impl_RecipeOf_inps) (fun f id => match Ai.look impl_RecipeOf_cuts f with | some l => Ai.look l id | none => none) k []
theorem impl_RecipeOf_tabs (k : Nat) : TabsOk Try.prog (impl_RecipeOf_cx k) := ⟨tab_mk tabs_ok _ _ _ _ _ _ _, look_all (Q := ConOk Try.prog) _ ⟨impl_ruleCode_conOk, impl_CutRule_chunks_conOk, impl_hash_conOk, impl_size_byte_conOk, trivial⟩, look_all (Q := TakOk Try.prog) _ trivial, look_all (Q := InpOk Try.prog) _ trivial, look_all (Q := InlOk Try.prog) _ trivial, mixed_ok⟩
abbrev impl_RecipeOf_sh : List Sh := [.own 99 (.pair (.arr 32 (.int .u8)) (.pair (.int .i64) .unit)), .pl (.int .i64)]
noncomputable def impl_RecipeOf_l0_s (x21 : Int) (z200 : (List (List Int))) (x22 : Int) (z90070 : (List ((List Int) × (Int × Unit)))) : St := { env := [.dead, .dead, .dead, .dead, .dead, .dead, .dead, .sl 90070 (.pair (.arr 32 (.int .u8)) (.pair (.int .i64) .unit)), .dead, .dead, .dead, .dead, .dead, .dead, .dead, .dead, .dead, .dead, .dead, .dead, .sl 200 (.slice (.int .u8)), .pv (.int .i64) x21, .pv (.int .i64) x22, .dead, .dead, .dead, .dead, .dead, .dead, .dead, .dead, .dead, .dead, .dead, .dead, .dead], stk := [], heap := [(90070, .arr 99 (.pair (.arr 32 (.int .u8)) (.pair (.int .i64) .unit)) z90070), (200, .arr 25 (.slice (.int .u8)) z200)] }
noncomputable def impl_RecipeOf_l0_o0 (z90070 : (List ((List Int) × (Int × Unit)))) : St := { env := [.dead, .dead, .dead, .dead, .dead, .dead, .dead, .sl 90070 (.pair (.arr 32 (.int .u8)) (.pair (.int .i64) .unit)), .dead, .dead, .dead, .dead, .dead, .dead, .dead, .dead, .dead, .dead, .dead, .dead, .dead, .dead, .dead, .dead, .dead, .dead, .dead, .dead, .dead, .dead, .dead, .dead, .dead, .dead, .dead, .dead], stk := [], heap := [(90070, .arr 99 (.pair (.arr 32 (.int .u8)) (.pair (.int .i64) .unit)) z90070)] }
noncomputable def impl_RecipeOf_l0_b (rec : Int → (List (List Int)) → Int → (List ((List Int) × (Int × Unit))) → Option (shDen impl_RecipeOf_sh)) (ke0 : (List ((List Int) × (Int × Unit))) → Option (shDen impl_RecipeOf_sh)) (x21 : Int) (z200 : (List (List Int))) (x22 : Int) (z90070 : (List ((List Int) × (Int × Unit)))) : Option (shDen impl_RecipeOf_sh) :=
 (cond (decide (x22 < x21))
 (cond ((decide ((0 : Int) ≤ x22)) && (decide (x22 < (z200.length : Int))))
 (bindO (impl_hash_r (1 : Int) (z200.getD (x22.toNat) [])) fun (b5 : (List Int)) => (bindO (impl_size_byte_r (z200.getD (x22.toNat) [])) fun (b6 : Int) => (cond (decide ((z90070.length + 1) * 40 ≤ 140737488355328) && decide (z90070.length + 1 ≤ 9223372036854775807))
 (rec x21 z200 (IntKind.wrap .i64 (x22 + (1 : Int))) (z90070 ++ [(b5, (b6, ()))]))
 none)))
 none)
 (ke0 z90070))
noncomputable def impl_RecipeOf_l0_L (ke0 : (List ((List Int) × (Int × Unit))) → Option (shDen impl_RecipeOf_sh))  : Nat → Int → (List (List Int)) → Int → (List ((List Int) × (Int × Unit))) → Option (shDen impl_RecipeOf_sh)
 | 0 => fun _ _ _ _ => none
 | n + 1 => impl_RecipeOf_l0_b (impl_RecipeOf_l0_L ke0  n) ke0 
noncomputable def impl_RecipeOf_r (a0 : (Int × (Int × (Int × Unit)))) (a1 : (List Int)) : Option (shDen impl_RecipeOf_sh) :=
 (bindO (impl_ruleCode_r a0 [a1]) fun (b1 : Int) => (cond (!(decide (b1 = (0 : Int))))
 (some ([], b1))
 (bindO (impl_CutRule_chunks_r a0 a1) fun (b2 : (List (List Int))) => (impl_RecipeOf_l0_L (fun z90070 => (some (z90070, (0 : Int)))) FUEL (b2.length : Int) b2 (0 : Int) []))))
theorem impl_RecipeOf_l0_round (k : Nat) (K : Ex → St → Option (shDen impl_RecipeOf_sh)) (n : Nat) (x21 : Int) (z200 : (List (List Int))) (x22 : Int) (z90070 : (List ((List Int) × (Int × Unit)))) : (loopK (impl_RecipeOf_cx k) 0 (execK (impl_RecipeOf_cx k) (callK (impl_RecipeOf_cx k) 8) 0 23 (sub impl_RecipeOf_c [1, 1, 1, 0, 1, 0, 0])) impl_RecipeOf_l0_cut K (n + 1) (impl_RecipeOf_l0_s x21 z200 x22 z90070) : Option (shDen impl_RecipeOf_sh)) =
 ((cond (decide (x22 < x21))
 (cond ((decide ((0 : Int) ≤ x22)) && (decide (x22 < (z200.length : Int))))
 (bindO (impl_hash_r (1 : Int) (z200.getD (x22.toNat) [])) fun (b5 : (List Int)) => (bindO (impl_size_byte_r (z200.getD (x22.toNat) [])) fun (b6 : Int) => (cond (decide ((z90070.length + 1) * 40 ≤ 140737488355328) && decide (z90070.length + 1 ≤ 9223372036854775807))
 (loopK (impl_RecipeOf_cx k) 0 (execK (impl_RecipeOf_cx k) (callK (impl_RecipeOf_cx k) 8) 0 23 (sub impl_RecipeOf_c [1, 1, 1, 0, 1, 0, 0])) impl_RecipeOf_l0_cut K n (impl_RecipeOf_l0_s x21 z200 (IntKind.wrap .i64 (x22 + (1 : Int))) (z90070 ++ [(b5, (b6, ()))])))
 none)))
 none)
 (K (.exit 0) (impl_RecipeOf_l0_o0 z90070))) : Option (shDen impl_RecipeOf_sh)) := by kernel_rfl

theorem impl_RecipeOf_l0_exit0 (k : Nat)  (z90070 : (List ((List Int) × (Int × Unit)))) : ((blkK 0 (seqK (execK (impl_RecipeOf_cx k) (callK (impl_RecipeOf_cx k) 8) 0 23 (sub impl_RecipeOf_c [1, 1, 1, 1])) (finK (impl_RecipeOf_cx k) impl_RecipeOf_i impl_RecipeOf_sh))) (.exit 0) (impl_RecipeOf_l0_o0 z90070) : Option (shDen impl_RecipeOf_sh)) =
 ((some (z90070, (0 : Int))) : Option (shDen impl_RecipeOf_sh)) := by kernel_rfl

theorem impl_RecipeOf_l0_congr (ke0 : (List ((List Int) × (Int × Unit))) → Option (shDen impl_RecipeOf_sh)) (ke0' : (List ((List Int) × (Int × Unit))) → Option (shDen impl_RecipeOf_sh))  (n : Nat) (x21 : Int) (z200 : (List (List Int))) (x22 : Int) (z90070 : (List ((List Int) × (Int × Unit)))) (hke0 : ∀ z90070, ke0 z90070 = ke0' z90070) : impl_RecipeOf_l0_L ke0  n x21 z200 x22 z90070 = impl_RecipeOf_l0_L ke0'  n x21 z200 x22 z90070 := by
 have : ke0 = ke0' := (by funext z90070; exact hke0 z90070); subst this; rfl

theorem impl_RecipeOf_l0_L_eq (K : Ex → St → Option (shDen impl_RecipeOf_sh))  : ∀ (n : Nat) (x21 : Int) (z200 : (List (List Int))) (x22 : Int) (z90070 : (List ((List Int) × (Int × Unit)))), (loopK (impl_RecipeOf_cx FUEL) 0 (execK (impl_RecipeOf_cx FUEL) (callK (impl_RecipeOf_cx FUEL) 8) 0 23 (sub impl_RecipeOf_c [1, 1, 1, 0, 1, 0, 0])) impl_RecipeOf_l0_cut K n (impl_RecipeOf_l0_s x21 z200 x22 z90070) : Option (shDen impl_RecipeOf_sh)) = impl_RecipeOf_l0_L (fun z90070 => K (.exit 0) (impl_RecipeOf_l0_o0 z90070))  n x21 z200 x22 z90070 := by
 intro n
 induction n with
 | zero => intros; rfl
 | succ n ih =>
  intro x21 z200 x22 z90070
  exact (impl_RecipeOf_l0_round FUEL K n  x21 z200 x22 z90070).trans (condC (condC (bindC (fun b5 => bindC (fun b6 => condC (ih x21 z200 (IntKind.wrap .i64 (x22 + (1 : Int))) (z90070 ++ [(b5, (b6, ()))])) (rfl)))) (rfl)) (rfl))

theorem impl_RecipeOf_start (k : Nat) (a0 : (Int × (Int × (Int × Unit)))) (a1 : (List Int)) : fnK (impl_RecipeOf_cx k) 8 23 impl_RecipeOf_i impl_RecipeOf_sh [.pv (.pair (.int .i64) (.pair (.int .i64) (.pair (.int .i64) .unit))) a0, .pv (.slice (.int .u8)) a1] =
 ((bindO (impl_ruleCode_r a0 [a1]) fun (b1 : Int) => (cond (!(decide (b1 = (0 : Int))))
 (some ([], b1))
 (bindO (impl_CutRule_chunks_r a0 a1) fun (b2 : (List (List Int))) => (loopK (impl_RecipeOf_cx k) 0 (execK (impl_RecipeOf_cx k) (callK (impl_RecipeOf_cx k) 8) 0 23 (sub impl_RecipeOf_c [1, 1, 1, 0, 1, 0, 0])) impl_RecipeOf_l0_cut (blkK 0 (seqK (execK (impl_RecipeOf_cx k) (callK (impl_RecipeOf_cx k) 8) 0 23 (sub impl_RecipeOf_c [1, 1, 1, 1])) (finK (impl_RecipeOf_cx k) impl_RecipeOf_i impl_RecipeOf_sh))) k (impl_RecipeOf_l0_s (b2.length : Int) b2 (0 : Int) []))))) : Option (shDen impl_RecipeOf_sh)) := by kernel_rfl

theorem impl_RecipeOf_run (a0 : (Int × (Int × (Int × Unit)))) (a1 : (List Int)) : fnK (impl_RecipeOf_cx FUEL) 8 23 impl_RecipeOf_i impl_RecipeOf_sh [.pv (.pair (.int .i64) (.pair (.int .i64) (.pair (.int .i64) .unit))) a0, .pv (.slice (.int .u8)) a1] = impl_RecipeOf_r a0 a1 :=
 (impl_RecipeOf_start FUEL a0 a1).trans (bindC (fun b1 => condC (rfl) (bindC (fun b2 => (impl_RecipeOf_l0_L_eq _  FUEL (b2.length : Int) b2 (0 : Int) []).trans (impl_RecipeOf_l0_congr _ _  FUEL (b2.length : Int) b2 (0 : Int) [] (fun z90070 => (impl_RecipeOf_l0_exit0 FUEL  z90070).trans (rfl)))))))

noncomputable def impl_RecipeOf_con : Con := { ps := (.pair (.pair (.int .i64) (.pair (.int .i64) (.pair (.int .i64) .unit))) (.pair (.slice (.int .u8)) .unit)), sh := impl_RecipeOf_sh, raw := fun x => impl_RecipeOf_r x.1 x.2.1 }
theorem impl_RecipeOf_conOk : ConOk Try.prog 23 impl_RecipeOf_con := con_of_fn (impl_RecipeOf_tabs FUEL) (depth := 8) impl_RecipeOf_ok fun x y h => (impl_RecipeOf_run x.1 x.2.1).trans h

noncomputable def laws_eqKey_l0_cut : Cut := { keep := [2, 3, 5], stk := [], ids := [20, 30], own := [], outs := [(0, [4], []), (1, [], [])] }
noncomputable def laws_eqKey_inls : List (Nat × Inl) := []
noncomputable def laws_eqKey_cons : List (Nat × Con) := []
noncomputable def laws_eqKey_taks : List (Nat × ConT) := []
noncomputable def laws_eqKey_inps : List (Nat × ConI) := []
noncomputable def laws_eqKey_cuts : List (Nat × List (Nat × Cut)) := [(106, [(0, laws_eqKey_l0_cut)])]
noncomputable def laws_eqKey_cx (k : Nat) : Cx := mkCx tys tbytes telem nozero (Ai.look laws_eqKey_inls) (Ai.look laws_eqKey_cons) (Ai.look laws_eqKey_taks) (Ai.look laws_eqKey_inps) (fun f id => match Ai.look laws_eqKey_cuts f with | some l => Ai.look l id | none => none) k []
theorem laws_eqKey_tabs (k : Nat) : TabsOk Try.prog (laws_eqKey_cx k) := ⟨tab_mk tabs_ok _ _ _ _ _ _ _, look_all (Q := ConOk Try.prog) _ trivial, look_all (Q := TakOk Try.prog) _ trivial, look_all (Q := InpOk Try.prog) _ trivial, look_all (Q := InlOk Try.prog) _ trivial, mixed_ok⟩
abbrev laws_eqKey_sh : List Sh := [.pl .bool]
noncomputable def laws_eqKey_l0_s (a0 : (List Int)) (a1 : (List Int)) (x5 : Int) : St := { env := [.dead, .dead, .ptr 20 (.arr 32 (.int .u8)) [], .ptr 30 (.arr 32 (.int .u8)) [], .dead, .pv (.int .i64) x5, .dead, .dead, .dead, .dead, .dead, .dead, .dead, .dead, .dead, .dead, .dead], stk := [], heap := [(30, .var (.arr 32 (.int .u8)) (.pv (.arr 32 (.int .u8)) a1)), (20, .var (.arr 32 (.int .u8)) (.pv (.arr 32 (.int .u8)) a0))] }
noncomputable def laws_eqKey_l0_o  : St := { env := [.dead, .dead, .dead, .dead, .pv .bool false, .dead, .dead, .dead, .dead, .dead, .dead, .dead, .dead, .dead, .dead, .dead, .dead], stk := [], heap := [] }
noncomputable def laws_eqKey_l0_o0  : St := { env := [.dead, .dead, .dead, .dead, .dead, .dead, .dead, .dead, .dead, .dead, .dead, .dead, .dead, .dead, .dead, .dead, .dead], stk := [], heap := [] }
noncomputable def laws_eqKey_l0_b (rec : Int → Option (shDen laws_eqKey_sh)) (kr : Option (shDen laws_eqKey_sh)) (ke0 : Option (shDen laws_eqKey_sh)) (a0 : (List Int)) (a1 : (List Int)) (x5 : Int) : Option (shDen laws_eqKey_sh) :=
 (cond (decide (x5 < (32 : Int)))
 (cond ((decide ((0 : Int) ≤ x5)) && (decide (x5 < (32 : Int))))
 (cond ((decide ((0 : Int) ≤ x5)) && (decide (x5 < (32 : Int))))
 (cond (!(decide ((a0.getD (x5.toNat) (0 : Int)) = (a1.getD (x5.toNat) (0 : Int)))))
 (kr)
 (rec (IntKind.wrap .i64 (x5 + (1 : Int)))))
 none)
 none)
 (ke0))
noncomputable def laws_eqKey_l0_L (kr : Option (shDen laws_eqKey_sh)) (ke0 : Option (shDen laws_eqKey_sh)) (a0 : (List Int)) (a1 : (List Int)) : Nat → Int → Option (shDen laws_eqKey_sh)
 | 0 => fun _ => none
 | n + 1 => laws_eqKey_l0_b (laws_eqKey_l0_L kr ke0 a0 a1 n) kr ke0 a0 a1
noncomputable def laws_eqKey_r (a0 : (List Int)) (a1 : (List Int)) : Option (shDen laws_eqKey_sh) :=
 (laws_eqKey_l0_L (some false) (some true) a0 a1 FUEL (0 : Int))
theorem laws_eqKey_l0_round (k : Nat) (K : Ex → St → Option (shDen laws_eqKey_sh)) (n : Nat) (a0 : (List Int)) (a1 : (List Int)) (x5 : Int) : (loopK (laws_eqKey_cx k) 0 (execK (laws_eqKey_cx k) (callK (laws_eqKey_cx k) 8) 0 106 (sub laws_eqKey_c [1, 0, 1, 0, 0])) laws_eqKey_l0_cut K (n + 1) (laws_eqKey_l0_s a0 a1 x5) : Option (shDen laws_eqKey_sh)) =
 ((cond (decide (x5 < (32 : Int)))
 (cond ((decide ((0 : Int) ≤ x5)) && (decide (x5 < (32 : Int))))
 (cond ((decide ((0 : Int) ≤ x5)) && (decide (x5 < (32 : Int))))
 (cond (!(decide ((a0.getD (x5.toNat) (0 : Int)) = (a1.getD (x5.toNat) (0 : Int)))))
 (K .ret (laws_eqKey_l0_o ))
 (loopK (laws_eqKey_cx k) 0 (execK (laws_eqKey_cx k) (callK (laws_eqKey_cx k) 8) 0 106 (sub laws_eqKey_c [1, 0, 1, 0, 0])) laws_eqKey_l0_cut K n (laws_eqKey_l0_s a0 a1 (IntKind.wrap .i64 (x5 + (1 : Int))))))
 none)
 none)
 (K (.exit 0) (laws_eqKey_l0_o0 ))) : Option (shDen laws_eqKey_sh)) := by kernel_rfl

theorem laws_eqKey_l0_ret (k : Nat)   : ((blkK 0 (seqK (execK (laws_eqKey_cx k) (callK (laws_eqKey_cx k) 8) 0 106 (sub laws_eqKey_c [1, 1])) (finK (laws_eqKey_cx k) laws_eqKey_i laws_eqKey_sh))) .ret (laws_eqKey_l0_o) : Option (shDen laws_eqKey_sh)) =
 ((some false) : Option (shDen laws_eqKey_sh)) := by kernel_rfl

theorem laws_eqKey_l0_exit0 (k : Nat)   : ((blkK 0 (seqK (execK (laws_eqKey_cx k) (callK (laws_eqKey_cx k) 8) 0 106 (sub laws_eqKey_c [1, 1])) (finK (laws_eqKey_cx k) laws_eqKey_i laws_eqKey_sh))) (.exit 0) (laws_eqKey_l0_o0) : Option (shDen laws_eqKey_sh)) =
 ((some true) : Option (shDen laws_eqKey_sh)) := by kernel_rfl

theorem laws_eqKey_l0_congr (kr : Option (shDen laws_eqKey_sh)) (ke0 : Option (shDen laws_eqKey_sh)) (kr' : Option (shDen laws_eqKey_sh)) (ke0' : Option (shDen laws_eqKey_sh)) (a0 : (List Int)) (a1 : (List Int)) (n : Nat) (x5 : Int) (hkr : ∀ (_ : Unit), kr  = kr' ) (hke0 : ∀ (_ : Unit), ke0  = ke0' ) : laws_eqKey_l0_L kr ke0 a0 a1 n x5 = laws_eqKey_l0_L kr' ke0' a0 a1 n x5 := by
 have : kr = kr' := hkr (); subst this; have : ke0 = ke0' := hke0 (); subst this; rfl

theorem laws_eqKey_l0_L_eq (K : Ex → St → Option (shDen laws_eqKey_sh)) (a0 : (List Int)) (a1 : (List Int)) : ∀ (n : Nat) (x5 : Int), (loopK (laws_eqKey_cx FUEL) 0 (execK (laws_eqKey_cx FUEL) (callK (laws_eqKey_cx FUEL) 8) 0 106 (sub laws_eqKey_c [1, 0, 1, 0, 0])) laws_eqKey_l0_cut K n (laws_eqKey_l0_s a0 a1 x5) : Option (shDen laws_eqKey_sh)) = laws_eqKey_l0_L (K .ret (laws_eqKey_l0_o)) (K (.exit 0) (laws_eqKey_l0_o0)) a0 a1 n x5 := by
 intro n
 induction n with
 | zero => intros; rfl
 | succ n ih =>
  intro x5
  exact (laws_eqKey_l0_round FUEL K n a0 a1 x5).trans (condC (condC (condC (condC (rfl) (ih (IntKind.wrap .i64 (x5 + (1 : Int))))) (rfl)) (rfl)) (rfl))

theorem laws_eqKey_start (k : Nat) (a0 : (List Int)) (a1 : (List Int)) : fnK (laws_eqKey_cx k) 8 106 laws_eqKey_i laws_eqKey_sh [.pv (.arr 32 (.int .u8)) a0, .pv (.arr 32 (.int .u8)) a1] =
 ((loopK (laws_eqKey_cx k) 0 (execK (laws_eqKey_cx k) (callK (laws_eqKey_cx k) 8) 0 106 (sub laws_eqKey_c [1, 0, 1, 0, 0])) laws_eqKey_l0_cut (blkK 0 (seqK (execK (laws_eqKey_cx k) (callK (laws_eqKey_cx k) 8) 0 106 (sub laws_eqKey_c [1, 1])) (finK (laws_eqKey_cx k) laws_eqKey_i laws_eqKey_sh))) k (laws_eqKey_l0_s a0 a1 (0 : Int))) : Option (shDen laws_eqKey_sh)) := by kernel_rfl

theorem laws_eqKey_run (a0 : (List Int)) (a1 : (List Int)) : fnK (laws_eqKey_cx FUEL) 8 106 laws_eqKey_i laws_eqKey_sh [.pv (.arr 32 (.int .u8)) a0, .pv (.arr 32 (.int .u8)) a1] = laws_eqKey_r a0 a1 :=
 (laws_eqKey_start FUEL a0 a1).trans ((laws_eqKey_l0_L_eq _ a0 a1 FUEL (0 : Int)).trans (laws_eqKey_l0_congr _ _ _ _ a0 a1 FUEL (0 : Int) (fun _ => (laws_eqKey_l0_ret FUEL  ).trans (rfl)) (fun _ => (laws_eqKey_l0_exit0 FUEL  ).trans (rfl))))

noncomputable def laws_eqKey_con : Con := { ps := (.pair (.arr 32 (.int .u8)) (.pair (.arr 32 (.int .u8)) .unit)), sh := laws_eqKey_sh, raw := fun x => laws_eqKey_r x.1 x.2.1 }
theorem laws_eqKey_conOk : ConOk Try.prog 106 laws_eqKey_con := con_of_fn (laws_eqKey_tabs FUEL) (depth := 8) laws_eqKey_ok fun x y h => (laws_eqKey_run x.1 x.2.1).trans h

noncomputable def laws_eqPiece_inls : List (Nat × Inl) := []
noncomputable def laws_eqPiece_cons : List (Nat × Con) := [(106, laws_eqKey_con)]
noncomputable def laws_eqPiece_taks : List (Nat × ConT) := []
noncomputable def laws_eqPiece_inps : List (Nat × ConI) := []
noncomputable def laws_eqPiece_cuts : List (Nat × List (Nat × Cut)) := []
noncomputable def laws_eqPiece_cx (k : Nat) : Cx := mkCx tys tbytes telem nozero (Ai.look laws_eqPiece_inls) (Ai.look laws_eqPiece_cons) (Ai.look laws_eqPiece_taks) (Ai.look laws_eqPiece_inps) (fun f id => match Ai.look laws_eqPiece_cuts f with | some l => Ai.look l id | none => none) k []
theorem laws_eqPiece_tabs (k : Nat) : TabsOk Try.prog (laws_eqPiece_cx k) := ⟨tab_mk tabs_ok _ _ _ _ _ _ _, look_all (Q := ConOk Try.prog) _ ⟨laws_eqKey_conOk, trivial⟩, look_all (Q := TakOk Try.prog) _ trivial, look_all (Q := InpOk Try.prog) _ trivial, look_all (Q := InlOk Try.prog) _ trivial, mixed_ok⟩
abbrev laws_eqPiece_sh : List Sh := [.pl .bool]
noncomputable def laws_eqPiece_r (a0 : ((List Int) × (Int × Unit))) (a1 : ((List Int) × (Int × Unit))) : Option (shDen laws_eqPiece_sh) :=
 (bindO (laws_eqKey_r a0.1 a1.1) fun (b1 : Bool) => (cond (!b1)
 (some false)
 (cond (!(decide (a0.2.1 = a1.2.1)))
 (some false)
 (some true))))
theorem laws_eqPiece_start (k : Nat) (a0 : ((List Int) × (Int × Unit))) (a1 : ((List Int) × (Int × Unit))) : fnK (laws_eqPiece_cx k) 8 69 laws_eqPiece_i laws_eqPiece_sh [.pv (.pair (.arr 32 (.int .u8)) (.pair (.int .i64) .unit)) a0, .pv (.pair (.arr 32 (.int .u8)) (.pair (.int .i64) .unit)) a1] =
 ((bindO (laws_eqKey_r a0.1 a1.1) fun (b1 : Bool) => (cond (!b1)
 (some false)
 (cond (!(decide (a0.2.1 = a1.2.1)))
 (some false)
 (some true)))) : Option (shDen laws_eqPiece_sh)) := by kernel_rfl

theorem laws_eqPiece_run (a0 : ((List Int) × (Int × Unit))) (a1 : ((List Int) × (Int × Unit))) : fnK (laws_eqPiece_cx FUEL) 8 69 laws_eqPiece_i laws_eqPiece_sh [.pv (.pair (.arr 32 (.int .u8)) (.pair (.int .i64) .unit)) a0, .pv (.pair (.arr 32 (.int .u8)) (.pair (.int .i64) .unit)) a1] = laws_eqPiece_r a0 a1 :=
 (laws_eqPiece_start FUEL a0 a1).trans (rfl)

noncomputable def laws_eqPiece_con : Con := { ps := (.pair (.pair (.arr 32 (.int .u8)) (.pair (.int .i64) .unit)) (.pair (.pair (.arr 32 (.int .u8)) (.pair (.int .i64) .unit)) .unit)), sh := laws_eqPiece_sh, raw := fun x => laws_eqPiece_r x.1 x.2.1 }
theorem laws_eqPiece_conOk : ConOk Try.prog 69 laws_eqPiece_con := con_of_fn (laws_eqPiece_tabs FUEL) (depth := 8) laws_eqPiece_ok fun x y h => (laws_eqPiece_run x.1 x.2.1).trans h

noncomputable def laws_eqPieceS_l0_cut : Cut := { keep := [0, 1, 5], stk := [], ids := [], own := [], outs := [(0, [4], []), (1, [], [])] }
noncomputable def laws_eqPieceS_inls : List (Nat × Inl) := []
noncomputable def laws_eqPieceS_cons : List (Nat × Con) := [(69, laws_eqPiece_con)]
noncomputable def laws_eqPieceS_taks : List (Nat × ConT) := []
noncomputable def laws_eqPieceS_inps : List (Nat × ConI) := []
noncomputable def laws_eqPieceS_cuts : List (Nat × List (Nat × Cut)) := [(24, [(0, laws_eqPieceS_l0_cut)])]
noncomputable def laws_eqPieceS_cx (k : Nat) : Cx := mkCx tys tbytes telem nozero (Ai.look laws_eqPieceS_inls) (Ai.look laws_eqPieceS_cons) (Ai.look laws_eqPieceS_taks) (Ai.look laws_eqPieceS_inps) (fun f id => match Ai.look laws_eqPieceS_cuts f with | some l => Ai.look l id | none => none) k []
theorem laws_eqPieceS_tabs (k : Nat) : TabsOk Try.prog (laws_eqPieceS_cx k) := ⟨tab_mk tabs_ok _ _ _ _ _ _ _, look_all (Q := ConOk Try.prog) _ ⟨laws_eqPiece_conOk, trivial⟩, look_all (Q := TakOk Try.prog) _ trivial, look_all (Q := InpOk Try.prog) _ trivial, look_all (Q := InlOk Try.prog) _ trivial, mixed_ok⟩
abbrev laws_eqPieceS_sh : List Sh := [.pl .bool]
noncomputable def laws_eqPieceS_l0_s (a0 : (List ((List Int) × (Int × Unit)))) (a1 : (List ((List Int) × (Int × Unit)))) (x5 : Int) : St := { env := [.pv (.slice (.pair (.arr 32 (.int .u8)) (.pair (.int .i64) .unit))) a0, .pv (.slice (.pair (.arr 32 (.int .u8)) (.pair (.int .i64) .unit))) a1, .dead, .dead, .dead, .pv (.int .i64) x5, .dead, .dead, .dead, .dead, .dead, .dead, .dead, .dead, .dead, .dead, .dead, .dead, .dead, .dead, .dead, .dead, .dead, .dead, .dead, .dead, .dead], stk := [], heap := [] }
noncomputable def laws_eqPieceS_l0_o  : St := { env := [.dead, .dead, .dead, .dead, .pv .bool false, .dead, .dead, .dead, .dead, .dead, .dead, .dead, .dead, .dead, .dead, .dead, .dead, .dead, .dead, .dead, .dead, .dead, .dead, .dead, .dead, .dead, .dead], stk := [], heap := [] }
noncomputable def laws_eqPieceS_l0_o0  : St := { env := [.dead, .dead, .dead, .dead, .dead, .dead, .dead, .dead, .dead, .dead, .dead, .dead, .dead, .dead, .dead, .dead, .dead, .dead, .dead, .dead, .dead, .dead, .dead, .dead, .dead, .dead, .dead], stk := [], heap := [] }
noncomputable def laws_eqPieceS_l0_b (rec : Int → Option (shDen laws_eqPieceS_sh)) (kr : Option (shDen laws_eqPieceS_sh)) (ke0 : Option (shDen laws_eqPieceS_sh)) (a0 : (List ((List Int) × (Int × Unit)))) (a1 : (List ((List Int) × (Int × Unit)))) (x5 : Int) : Option (shDen laws_eqPieceS_sh) :=
 (cond (decide (x5 < (a0.length : Int)))
 (cond ((decide ((0 : Int) ≤ x5)) && (decide (x5 < (a0.length : Int))))
 (cond ((decide ((0 : Int) ≤ x5)) && (decide (x5 < (a1.length : Int))))
 (bindO (laws_eqPiece_r (a0.getD (x5.toNat) ((List.replicate 32 (0 : Int)), ((0 : Int), ()))) (a1.getD (x5.toNat) ((List.replicate 32 (0 : Int)), ((0 : Int), ())))) fun (b2 : Bool) => (cond (!b2)
 (kr)
 (rec (IntKind.wrap .i64 (x5 + (1 : Int))))))
 none)
 none)
 (ke0))
noncomputable def laws_eqPieceS_l0_L (kr : Option (shDen laws_eqPieceS_sh)) (ke0 : Option (shDen laws_eqPieceS_sh)) (a0 : (List ((List Int) × (Int × Unit)))) (a1 : (List ((List Int) × (Int × Unit)))) : Nat → Int → Option (shDen laws_eqPieceS_sh)
 | 0 => fun _ => none
 | n + 1 => laws_eqPieceS_l0_b (laws_eqPieceS_l0_L kr ke0 a0 a1 n) kr ke0 a0 a1
noncomputable def laws_eqPieceS_r (a0 : (List ((List Int) × (Int × Unit)))) (a1 : (List ((List Int) × (Int × Unit)))) : Option (shDen laws_eqPieceS_sh) :=
 (cond (!(decide ((a0.length : Int) = (a1.length : Int))))
 (some false)
 (laws_eqPieceS_l0_L (some false) (some true) a0 a1 FUEL (0 : Int)))
theorem laws_eqPieceS_l0_round (k : Nat) (K : Ex → St → Option (shDen laws_eqPieceS_sh)) (n : Nat) (a0 : (List ((List Int) × (Int × Unit)))) (a1 : (List ((List Int) × (Int × Unit)))) (x5 : Int) : (loopK (laws_eqPieceS_cx k) 0 (execK (laws_eqPieceS_cx k) (callK (laws_eqPieceS_cx k) 8) 0 24 (sub laws_eqPieceS_c [1, 1, 0, 1, 0, 0])) laws_eqPieceS_l0_cut K (n + 1) (laws_eqPieceS_l0_s a0 a1 x5) : Option (shDen laws_eqPieceS_sh)) =
 ((cond (decide (x5 < (a0.length : Int)))
 (cond ((decide ((0 : Int) ≤ x5)) && (decide (x5 < (a0.length : Int))))
 (cond ((decide ((0 : Int) ≤ x5)) && (decide (x5 < (a1.length : Int))))
 (bindO (laws_eqPiece_r (a0.getD (x5.toNat) ((List.replicate 32 (0 : Int)), ((0 : Int), ()))) (a1.getD (x5.toNat) ((List.replicate 32 (0 : Int)), ((0 : Int), ())))) fun (b2 : Bool) => (cond (!b2)
 (K .ret (laws_eqPieceS_l0_o ))
 (loopK (laws_eqPieceS_cx k) 0 (execK (laws_eqPieceS_cx k) (callK (laws_eqPieceS_cx k) 8) 0 24 (sub laws_eqPieceS_c [1, 1, 0, 1, 0, 0])) laws_eqPieceS_l0_cut K n (laws_eqPieceS_l0_s a0 a1 (IntKind.wrap .i64 (x5 + (1 : Int)))))))
 none)
 none)
 (K (.exit 0) (laws_eqPieceS_l0_o0 ))) : Option (shDen laws_eqPieceS_sh)) := by kernel_rfl

theorem laws_eqPieceS_l0_ret (k : Nat)   : ((blkK 0 (seqK (execK (laws_eqPieceS_cx k) (callK (laws_eqPieceS_cx k) 8) 0 24 (sub laws_eqPieceS_c [1, 1, 1])) (finK (laws_eqPieceS_cx k) laws_eqPieceS_i laws_eqPieceS_sh))) .ret (laws_eqPieceS_l0_o) : Option (shDen laws_eqPieceS_sh)) =
 ((some false) : Option (shDen laws_eqPieceS_sh)) := by kernel_rfl

theorem laws_eqPieceS_l0_exit0 (k : Nat)   : ((blkK 0 (seqK (execK (laws_eqPieceS_cx k) (callK (laws_eqPieceS_cx k) 8) 0 24 (sub laws_eqPieceS_c [1, 1, 1])) (finK (laws_eqPieceS_cx k) laws_eqPieceS_i laws_eqPieceS_sh))) (.exit 0) (laws_eqPieceS_l0_o0) : Option (shDen laws_eqPieceS_sh)) =
 ((some true) : Option (shDen laws_eqPieceS_sh)) := by kernel_rfl

theorem laws_eqPieceS_l0_congr (kr : Option (shDen laws_eqPieceS_sh)) (ke0 : Option (shDen laws_eqPieceS_sh)) (kr' : Option (shDen laws_eqPieceS_sh)) (ke0' : Option (shDen laws_eqPieceS_sh)) (a0 : (List ((List Int) × (Int × Unit)))) (a1 : (List ((List Int) × (Int × Unit)))) (n : Nat) (x5 : Int) (hkr : ∀ (_ : Unit), kr  = kr' ) (hke0 : ∀ (_ : Unit), ke0  = ke0' ) : laws_eqPieceS_l0_L kr ke0 a0 a1 n x5 = laws_eqPieceS_l0_L kr' ke0' a0 a1 n x5 := by
 have : kr = kr' := hkr (); subst this; have : ke0 = ke0' := hke0 (); subst this; rfl

theorem laws_eqPieceS_l0_L_eq (K : Ex → St → Option (shDen laws_eqPieceS_sh)) (a0 : (List ((List Int) × (Int × Unit)))) (a1 : (List ((List Int) × (Int × Unit)))) : ∀ (n : Nat) (x5 : Int), (loopK (laws_eqPieceS_cx FUEL) 0 (execK (laws_eqPieceS_cx FUEL) (callK (laws_eqPieceS_cx FUEL) 8) 0 24 (sub laws_eqPieceS_c [1, 1, 0, 1, 0, 0])) laws_eqPieceS_l0_cut K n (laws_eqPieceS_l0_s a0 a1 x5) : Option (shDen laws_eqPieceS_sh)) = laws_eqPieceS_l0_L (K .ret (laws_eqPieceS_l0_o)) (K (.exit 0) (laws_eqPieceS_l0_o0)) a0 a1 n x5 := by
 intro n
 induction n with
 | zero => intros; rfl
 | succ n ih =>
  intro x5
  exact (laws_eqPieceS_l0_round FUEL K n a0 a1 x5).trans (condC (condC (condC (bindC (fun b2 => condC (rfl) (ih (IntKind.wrap .i64 (x5 + (1 : Int)))))) (rfl)) (rfl)) (rfl))

theorem laws_eqPieceS_start (k : Nat) (a0 : (List ((List Int) × (Int × Unit)))) (a1 : (List ((List Int) × (Int × Unit)))) : fnK (laws_eqPieceS_cx k) 8 24 laws_eqPieceS_i laws_eqPieceS_sh [.pv (.slice (.pair (.arr 32 (.int .u8)) (.pair (.int .i64) .unit))) a0, .pv (.slice (.pair (.arr 32 (.int .u8)) (.pair (.int .i64) .unit))) a1] =
 ((cond (!(decide ((a0.length : Int) = (a1.length : Int))))
 (some false)
 (loopK (laws_eqPieceS_cx k) 0 (execK (laws_eqPieceS_cx k) (callK (laws_eqPieceS_cx k) 8) 0 24 (sub laws_eqPieceS_c [1, 1, 0, 1, 0, 0])) laws_eqPieceS_l0_cut (blkK 0 (seqK (execK (laws_eqPieceS_cx k) (callK (laws_eqPieceS_cx k) 8) 0 24 (sub laws_eqPieceS_c [1, 1, 1])) (finK (laws_eqPieceS_cx k) laws_eqPieceS_i laws_eqPieceS_sh))) k (laws_eqPieceS_l0_s a0 a1 (0 : Int)))) : Option (shDen laws_eqPieceS_sh)) := by kernel_rfl

theorem laws_eqPieceS_run (a0 : (List ((List Int) × (Int × Unit)))) (a1 : (List ((List Int) × (Int × Unit)))) : fnK (laws_eqPieceS_cx FUEL) 8 24 laws_eqPieceS_i laws_eqPieceS_sh [.pv (.slice (.pair (.arr 32 (.int .u8)) (.pair (.int .i64) .unit))) a0, .pv (.slice (.pair (.arr 32 (.int .u8)) (.pair (.int .i64) .unit))) a1] = laws_eqPieceS_r a0 a1 :=
 (laws_eqPieceS_start FUEL a0 a1).trans (condC (rfl) ((laws_eqPieceS_l0_L_eq _ a0 a1 FUEL (0 : Int)).trans (laws_eqPieceS_l0_congr _ _ _ _ a0 a1 FUEL (0 : Int) (fun _ => (laws_eqPieceS_l0_ret FUEL  ).trans (rfl)) (fun _ => (laws_eqPieceS_l0_exit0 FUEL  ).trans (rfl)))))

noncomputable def laws_eqPieceS_con : Con := { ps := (.pair (.slice (.pair (.arr 32 (.int .u8)) (.pair (.int .i64) .unit))) (.pair (.slice (.pair (.arr 32 (.int .u8)) (.pair (.int .i64) .unit))) .unit)), sh := laws_eqPieceS_sh, raw := fun x => laws_eqPieceS_r x.1 x.2.1 }
theorem laws_eqPieceS_conOk : ConOk Try.prog 24 laws_eqPieceS_con := con_of_fn (laws_eqPieceS_tabs FUEL) (depth := 8) laws_eqPieceS_ok fun x y h => (laws_eqPieceS_run x.1 x.2.1).trans h

noncomputable def laws_eqByteS_l0_cut : Cut := { keep := [0, 1, 5], stk := [], ids := [], own := [], outs := [(0, [4], []), (1, [], [])] }
noncomputable def laws_eqByteS_inls : List (Nat × Inl) := []
noncomputable def laws_eqByteS_cons : List (Nat × Con) := []
noncomputable def laws_eqByteS_taks : List (Nat × ConT) := []
noncomputable def laws_eqByteS_inps : List (Nat × ConI) := []
noncomputable def laws_eqByteS_cuts : List (Nat × List (Nat × Cut)) := [(15, [(0, laws_eqByteS_l0_cut)])]
noncomputable def laws_eqByteS_cx (k : Nat) : Cx := mkCx tys tbytes telem nozero (Ai.look laws_eqByteS_inls) (Ai.look laws_eqByteS_cons) (Ai.look laws_eqByteS_taks) (Ai.look laws_eqByteS_inps) (fun f id => match Ai.look laws_eqByteS_cuts f with | some l => Ai.look l id | none => none) k []
theorem laws_eqByteS_tabs (k : Nat) : TabsOk Try.prog (laws_eqByteS_cx k) := ⟨tab_mk tabs_ok _ _ _ _ _ _ _, look_all (Q := ConOk Try.prog) _ trivial, look_all (Q := TakOk Try.prog) _ trivial, look_all (Q := InpOk Try.prog) _ trivial, look_all (Q := InlOk Try.prog) _ trivial, mixed_ok⟩
abbrev laws_eqByteS_sh : List Sh := [.pl .bool]
noncomputable def laws_eqByteS_l0_s (a0 : (List Int)) (a1 : (List Int)) (x5 : Int) : St := { env := [.pv (.slice (.int .u8)) a0, .pv (.slice (.int .u8)) a1, .dead, .dead, .dead, .pv (.int .i64) x5, .dead, .dead, .dead, .dead, .dead, .dead, .dead, .dead, .dead, .dead, .dead, .dead, .dead, .dead, .dead, .dead, .dead, .dead, .dead, .dead], stk := [], heap := [] }
noncomputable def laws_eqByteS_l0_o  : St := { env := [.dead, .dead, .dead, .dead, .pv .bool false, .dead, .dead, .dead, .dead, .dead, .dead, .dead, .dead, .dead, .dead, .dead, .dead, .dead, .dead, .dead, .dead, .dead, .dead, .dead, .dead, .dead], stk := [], heap := [] }
noncomputable def laws_eqByteS_l0_o0  : St := { env := [.dead, .dead, .dead, .dead, .dead, .dead, .dead, .dead, .dead, .dead, .dead, .dead, .dead, .dead, .dead, .dead, .dead, .dead, .dead, .dead, .dead, .dead, .dead, .dead, .dead, .dead], stk := [], heap := [] }
noncomputable def laws_eqByteS_l0_b (rec : Int → Option (shDen laws_eqByteS_sh)) (kr : Option (shDen laws_eqByteS_sh)) (ke0 : Option (shDen laws_eqByteS_sh)) (a0 : (List Int)) (a1 : (List Int)) (x5 : Int) : Option (shDen laws_eqByteS_sh) :=
 (cond (decide (x5 < (a0.length : Int)))
 (cond ((decide ((0 : Int) ≤ x5)) && (decide (x5 < (a0.length : Int))))
 (cond ((decide ((0 : Int) ≤ x5)) && (decide (x5 < (a1.length : Int))))
 (cond (!(decide ((a0.getD (x5.toNat) (0 : Int)) = (a1.getD (x5.toNat) (0 : Int)))))
 (kr)
 (rec (IntKind.wrap .i64 (x5 + (1 : Int)))))
 none)
 none)
 (ke0))
noncomputable def laws_eqByteS_l0_L (kr : Option (shDen laws_eqByteS_sh)) (ke0 : Option (shDen laws_eqByteS_sh)) (a0 : (List Int)) (a1 : (List Int)) : Nat → Int → Option (shDen laws_eqByteS_sh)
 | 0 => fun _ => none
 | n + 1 => laws_eqByteS_l0_b (laws_eqByteS_l0_L kr ke0 a0 a1 n) kr ke0 a0 a1
noncomputable def laws_eqByteS_r (a0 : (List Int)) (a1 : (List Int)) : Option (shDen laws_eqByteS_sh) :=
 (cond (!(decide ((a0.length : Int) = (a1.length : Int))))
 (some false)
 (laws_eqByteS_l0_L (some false) (some true) a0 a1 FUEL (0 : Int)))
theorem laws_eqByteS_l0_round (k : Nat) (K : Ex → St → Option (shDen laws_eqByteS_sh)) (n : Nat) (a0 : (List Int)) (a1 : (List Int)) (x5 : Int) : (loopK (laws_eqByteS_cx k) 0 (execK (laws_eqByteS_cx k) (callK (laws_eqByteS_cx k) 8) 0 15 (sub laws_eqByteS_c [1, 1, 0, 1, 0, 0])) laws_eqByteS_l0_cut K (n + 1) (laws_eqByteS_l0_s a0 a1 x5) : Option (shDen laws_eqByteS_sh)) =
 ((cond (decide (x5 < (a0.length : Int)))
 (cond ((decide ((0 : Int) ≤ x5)) && (decide (x5 < (a0.length : Int))))
 (cond ((decide ((0 : Int) ≤ x5)) && (decide (x5 < (a1.length : Int))))
 (cond (!(decide ((a0.getD (x5.toNat) (0 : Int)) = (a1.getD (x5.toNat) (0 : Int)))))
 (K .ret (laws_eqByteS_l0_o ))
 (loopK (laws_eqByteS_cx k) 0 (execK (laws_eqByteS_cx k) (callK (laws_eqByteS_cx k) 8) 0 15 (sub laws_eqByteS_c [1, 1, 0, 1, 0, 0])) laws_eqByteS_l0_cut K n (laws_eqByteS_l0_s a0 a1 (IntKind.wrap .i64 (x5 + (1 : Int))))))
 none)
 none)
 (K (.exit 0) (laws_eqByteS_l0_o0 ))) : Option (shDen laws_eqByteS_sh)) := by kernel_rfl

theorem laws_eqByteS_l0_ret (k : Nat)   : ((blkK 0 (seqK (execK (laws_eqByteS_cx k) (callK (laws_eqByteS_cx k) 8) 0 15 (sub laws_eqByteS_c [1, 1, 1])) (finK (laws_eqByteS_cx k) laws_eqByteS_i laws_eqByteS_sh))) .ret (laws_eqByteS_l0_o) : Option (shDen laws_eqByteS_sh)) =
 ((some false) : Option (shDen laws_eqByteS_sh)) := by kernel_rfl

theorem laws_eqByteS_l0_exit0 (k : Nat)   : ((blkK 0 (seqK (execK (laws_eqByteS_cx k) (callK (laws_eqByteS_cx k) 8) 0 15 (sub laws_eqByteS_c [1, 1, 1])) (finK (laws_eqByteS_cx k) laws_eqByteS_i laws_eqByteS_sh))) (.exit 0) (laws_eqByteS_l0_o0) : Option (shDen laws_eqByteS_sh)) =
 ((some true) : Option (shDen laws_eqByteS_sh)) := by kernel_rfl

theorem laws_eqByteS_l0_congr (kr : Option (shDen laws_eqByteS_sh)) (ke0 : Option (shDen laws_eqByteS_sh)) (kr' : Option (shDen laws_eqByteS_sh)) (ke0' : Option (shDen laws_eqByteS_sh)) (a0 : (List Int)) (a1 : (List Int)) (n : Nat) (x5 : Int) (hkr : ∀ (_ : Unit), kr  = kr' ) (hke0 : ∀ (_ : Unit), ke0  = ke0' ) : laws_eqByteS_l0_L kr ke0 a0 a1 n x5 = laws_eqByteS_l0_L kr' ke0' a0 a1 n x5 := by
 have : kr = kr' := hkr (); subst this; have : ke0 = ke0' := hke0 (); subst this; rfl

theorem laws_eqByteS_l0_L_eq (K : Ex → St → Option (shDen laws_eqByteS_sh)) (a0 : (List Int)) (a1 : (List Int)) : ∀ (n : Nat) (x5 : Int), (loopK (laws_eqByteS_cx FUEL) 0 (execK (laws_eqByteS_cx FUEL) (callK (laws_eqByteS_cx FUEL) 8) 0 15 (sub laws_eqByteS_c [1, 1, 0, 1, 0, 0])) laws_eqByteS_l0_cut K n (laws_eqByteS_l0_s a0 a1 x5) : Option (shDen laws_eqByteS_sh)) = laws_eqByteS_l0_L (K .ret (laws_eqByteS_l0_o)) (K (.exit 0) (laws_eqByteS_l0_o0)) a0 a1 n x5 := by
 intro n
 induction n with
 | zero => intros; rfl
 | succ n ih =>
  intro x5
  exact (laws_eqByteS_l0_round FUEL K n a0 a1 x5).trans (condC (condC (condC (condC (rfl) (ih (IntKind.wrap .i64 (x5 + (1 : Int))))) (rfl)) (rfl)) (rfl))

theorem laws_eqByteS_start (k : Nat) (a0 : (List Int)) (a1 : (List Int)) : fnK (laws_eqByteS_cx k) 8 15 laws_eqByteS_i laws_eqByteS_sh [.pv (.slice (.int .u8)) a0, .pv (.slice (.int .u8)) a1] =
 ((cond (!(decide ((a0.length : Int) = (a1.length : Int))))
 (some false)
 (loopK (laws_eqByteS_cx k) 0 (execK (laws_eqByteS_cx k) (callK (laws_eqByteS_cx k) 8) 0 15 (sub laws_eqByteS_c [1, 1, 0, 1, 0, 0])) laws_eqByteS_l0_cut (blkK 0 (seqK (execK (laws_eqByteS_cx k) (callK (laws_eqByteS_cx k) 8) 0 15 (sub laws_eqByteS_c [1, 1, 1])) (finK (laws_eqByteS_cx k) laws_eqByteS_i laws_eqByteS_sh))) k (laws_eqByteS_l0_s a0 a1 (0 : Int)))) : Option (shDen laws_eqByteS_sh)) := by kernel_rfl

theorem laws_eqByteS_run (a0 : (List Int)) (a1 : (List Int)) : fnK (laws_eqByteS_cx FUEL) 8 15 laws_eqByteS_i laws_eqByteS_sh [.pv (.slice (.int .u8)) a0, .pv (.slice (.int .u8)) a1] = laws_eqByteS_r a0 a1 :=
 (laws_eqByteS_start FUEL a0 a1).trans (condC (rfl) ((laws_eqByteS_l0_L_eq _ a0 a1 FUEL (0 : Int)).trans (laws_eqByteS_l0_congr _ _ _ _ a0 a1 FUEL (0 : Int) (fun _ => (laws_eqByteS_l0_ret FUEL  ).trans (rfl)) (fun _ => (laws_eqByteS_l0_exit0 FUEL  ).trans (rfl)))))

noncomputable def laws_eqByteS_con : Con := { ps := (.pair (.slice (.int .u8)) (.pair (.slice (.int .u8)) .unit)), sh := laws_eqByteS_sh, raw := fun x => laws_eqByteS_r x.1 x.2.1 }
theorem laws_eqByteS_conOk : ConOk Try.prog 15 laws_eqByteS_con := con_of_fn (laws_eqByteS_tabs FUEL) (depth := 8) laws_eqByteS_ok fun x y h => (laws_eqByteS_run x.1 x.2.1).trans h

noncomputable def laws_markByteS_l0_cut : Cut := { keep := [0, 1, 5], stk := [], ids := [7], own := [], outs := [(1, [1], [7])] }
noncomputable def laws_markByteS_inls : List (Nat × Inl) := []
noncomputable def laws_markByteS_cons : List (Nat × Con) := []
noncomputable def laws_markByteS_taks : List (Nat × ConT) := []
noncomputable def laws_markByteS_inps : List (Nat × ConI) := []
noncomputable def laws_markByteS_cuts : List (Nat × List (Nat × Cut)) := [(17, [(0, laws_markByteS_l0_cut)])]
noncomputable def laws_markByteS_cx (k : Nat) : Cx := mkCx tys tbytes telem nozero (Ai.look laws_markByteS_inls) (Ai.look laws_markByteS_cons) (Ai.look laws_markByteS_taks) (Ai.look laws_markByteS_inps) (fun f id => match Ai.look laws_markByteS_cuts f with | some l => Ai.look l id | none => none) k []
theorem laws_markByteS_tabs (k : Nat) : TabsOk Try.prog (laws_markByteS_cx k) := ⟨tab_mk tabs_ok _ _ _ _ _ _ _, look_all (Q := ConOk Try.prog) _ trivial, look_all (Q := TakOk Try.prog) _ trivial, look_all (Q := InpOk Try.prog) _ trivial, look_all (Q := InlOk Try.prog) _ trivial, mixed_ok⟩
abbrev laws_markByteS_sh : List Sh := [.pl (.int .i64)]
noncomputable def laws_markByteS_l0_s (x1 : Int) (x5 : Int) (z7 : (List Int)) : St := { env := [.sl 7 (.int .u8), .pv (.int .i64) x1, .dead, .dead, .dead, .pv (.int .i64) x5, .dead, .dead, .dead, .dead, .dead, .dead, .dead, .dead, .dead, .dead, .dead, .dead, .dead, .dead], stk := [], heap := [(7, .arr 5 (.int .u8) z7)] }
noncomputable def laws_markByteS_l0_o0 (x1 : Int) (z7 : (List Int)) : St := { env := [.dead, .pv (.int .i64) x1, .dead, .dead, .dead, .dead, .dead, .dead, .dead, .dead, .dead, .dead, .dead, .dead, .dead, .dead, .dead, .dead, .dead, .dead], stk := [], heap := [(7, .arr 5 (.int .u8) z7)] }
noncomputable def laws_markByteS_l0_b (rec : Int → Int → (List Int) → Option ((List Int) × shDen laws_markByteS_sh)) (ke0 : Int → (List Int) → Option ((List Int) × shDen laws_markByteS_sh)) (x1 : Int) (x5 : Int) (z7 : (List Int)) : Option ((List Int) × shDen laws_markByteS_sh) :=
 (cond (decide (x5 < (z7.length : Int)))
 (cond ((decide ((0 : Int) ≤ x5)) && (decide (x5 < (z7.length : Int))))
 (rec (IntKind.wrap .i64 (x1 + (1 : Int))) (IntKind.wrap .i64 (x5 + (1 : Int))) (z7.set (x5.toNat) (IntKind.wrap .u8 x1)))
 none)
 (ke0 x1 z7))
noncomputable def laws_markByteS_l0_L (ke0 : Int → (List Int) → Option ((List Int) × shDen laws_markByteS_sh))  : Nat → Int → Int → (List Int) → Option ((List Int) × shDen laws_markByteS_sh)
 | 0 => fun _ _ _ => none
 | n + 1 => laws_markByteS_l0_b (laws_markByteS_l0_L ke0  n) ke0 
noncomputable def laws_markByteS_r (a0 : (List Int)) (a1 : Int) : Option ((List Int) × shDen laws_markByteS_sh) :=
 (laws_markByteS_l0_L (fun x1 z7 => (some (z7, x1))) FUEL a1 (0 : Int) a0)
theorem laws_markByteS_l0_round (k : Nat) (K : Ex → St → Option ((List Int) × shDen laws_markByteS_sh)) (n : Nat) (x1 : Int) (x5 : Int) (z7 : (List Int)) : (loopK (laws_markByteS_cx k) 0 (execK (laws_markByteS_cx k) (callK (laws_markByteS_cx k) 8) 0 17 (sub laws_markByteS_c [1, 0, 1, 0, 0])) laws_markByteS_l0_cut K (n + 1) (laws_markByteS_l0_s x1 x5 z7) : Option ((List Int) × shDen laws_markByteS_sh)) =
 ((cond (decide (x5 < (z7.length : Int)))
 (cond ((decide ((0 : Int) ≤ x5)) && (decide (x5 < (z7.length : Int))))
 (loopK (laws_markByteS_cx k) 0 (execK (laws_markByteS_cx k) (callK (laws_markByteS_cx k) 8) 0 17 (sub laws_markByteS_c [1, 0, 1, 0, 0])) laws_markByteS_l0_cut K n (laws_markByteS_l0_s (IntKind.wrap .i64 (x1 + (1 : Int))) (IntKind.wrap .i64 (x5 + (1 : Int))) (z7.set (x5.toNat) (IntKind.wrap .u8 x1))))
 none)
 (K (.exit 0) (laws_markByteS_l0_o0 x1 z7))) : Option ((List Int) × shDen laws_markByteS_sh)) := by kernel_rfl

theorem laws_markByteS_l0_exit0 (k : Nat)  (x1 : Int) (z7 : (List Int)) : ((blkK 0 (seqK (execK (laws_markByteS_cx k) (callK (laws_markByteS_cx k) 8) 0 17 (sub laws_markByteS_c [1, 1])) (finIK (laws_markByteS_cx k) laws_markByteS_i (.arr 5 (.int .u8)) laws_markByteS_sh))) (.exit 0) (laws_markByteS_l0_o0 x1 z7) : Option ((List Int) × shDen laws_markByteS_sh)) =
 ((some (z7, x1)) : Option ((List Int) × shDen laws_markByteS_sh)) := by kernel_rfl

theorem laws_markByteS_l0_congr (ke0 : Int → (List Int) → Option ((List Int) × shDen laws_markByteS_sh)) (ke0' : Int → (List Int) → Option ((List Int) × shDen laws_markByteS_sh))  (n : Nat) (x1 : Int) (x5 : Int) (z7 : (List Int)) (hke0 : ∀ x1 z7, ke0 x1 z7 = ke0' x1 z7) : laws_markByteS_l0_L ke0  n x1 x5 z7 = laws_markByteS_l0_L ke0'  n x1 x5 z7 := by
 have : ke0 = ke0' := (by funext x1 z7; exact hke0 x1 z7); subst this; rfl

theorem laws_markByteS_l0_L_eq (K : Ex → St → Option ((List Int) × shDen laws_markByteS_sh))  : ∀ (n : Nat) (x1 : Int) (x5 : Int) (z7 : (List Int)), (loopK (laws_markByteS_cx FUEL) 0 (execK (laws_markByteS_cx FUEL) (callK (laws_markByteS_cx FUEL) 8) 0 17 (sub laws_markByteS_c [1, 0, 1, 0, 0])) laws_markByteS_l0_cut K n (laws_markByteS_l0_s x1 x5 z7) : Option ((List Int) × shDen laws_markByteS_sh)) = laws_markByteS_l0_L (fun x1 z7 => K (.exit 0) (laws_markByteS_l0_o0 x1 z7))  n x1 x5 z7 := by
 intro n
 induction n with
 | zero => intros; rfl
 | succ n ih =>
  intro x1 x5 z7
  exact (laws_markByteS_l0_round FUEL K n  x1 x5 z7).trans (condC (condC (ih (IntKind.wrap .i64 (x1 + (1 : Int))) (IntKind.wrap .i64 (x5 + (1 : Int))) (z7.set (x5.toNat) (IntKind.wrap .u8 x1))) (rfl)) (rfl))

theorem laws_markByteS_start (k : Nat) (a0 : (List Int)) (a1 : Int) : fnIK (laws_markByteS_cx k) 8 17 laws_markByteS_i (.arr 5 (.int .u8)) laws_markByteS_sh a0 [.pv (.int .i64) a1] =
 ((loopK (laws_markByteS_cx k) 0 (execK (laws_markByteS_cx k) (callK (laws_markByteS_cx k) 8) 0 17 (sub laws_markByteS_c [1, 0, 1, 0, 0])) laws_markByteS_l0_cut (blkK 0 (seqK (execK (laws_markByteS_cx k) (callK (laws_markByteS_cx k) 8) 0 17 (sub laws_markByteS_c [1, 1])) (finIK (laws_markByteS_cx k) laws_markByteS_i (.arr 5 (.int .u8)) laws_markByteS_sh))) k (laws_markByteS_l0_s a1 (0 : Int) a0)) : Option ((List Int) × shDen laws_markByteS_sh)) := by kernel_rfl

theorem laws_markByteS_run (a0 : (List Int)) (a1 : Int) : fnIK (laws_markByteS_cx FUEL) 8 17 laws_markByteS_i (.arr 5 (.int .u8)) laws_markByteS_sh a0 [.pv (.int .i64) a1] = laws_markByteS_r a0 a1 :=
 (laws_markByteS_start FUEL a0 a1).trans ((laws_markByteS_l0_L_eq _  FUEL a1 (0 : Int) a0).trans (laws_markByteS_l0_congr _ _  FUEL a1 (0 : Int) a0 (fun x1 z7 => (laws_markByteS_l0_exit0 FUEL  x1 z7).trans (rfl))))

noncomputable def laws_markByteS_inp : ConI := { k := (.arr 5 (.int .u8)), ps := (.pair (.int .i64) .unit), sh := laws_markByteS_sh, raw := fun x q => laws_markByteS_r x q.1 }
theorem laws_markByteS_inpOk : InpOk Try.prog 17 laws_markByteS_inp := inp_of_fn (laws_markByteS_tabs FUEL) (depth := 8) laws_markByteS_ok fun x q z h => (laws_markByteS_run x q.1).trans h

noncomputable def laws_markPieceS_l0_cut : Cut := { keep := [0, 1, 5], stk := [], ids := [7], own := [], outs := [(1, [1], [7])] }
noncomputable def laws_markPieceS_l1_cut : Cut := { keep := [0, 1, 5, 6], stk := [], ids := [7], own := [], outs := [(3, [0, 1, 5], [7])] }
noncomputable def laws_markPieceS_inls : List (Nat × Inl) := []
noncomputable def laws_markPieceS_cons : List (Nat × Con) := []
noncomputable def laws_markPieceS_taks : List (Nat × ConT) := []
noncomputable def laws_markPieceS_inps : List (Nat × ConI) := []
noncomputable def laws_markPieceS_cuts : List (Nat × List (Nat × Cut)) := [(25, [(0, laws_markPieceS_l0_cut), (2, laws_markPieceS_l1_cut)])]
noncomputable def laws_markPieceS_cx (k : Nat) : Cx := mkCx tys tbytes telem nozero (Ai.look laws_markPieceS_inls) (Ai.look laws_markPieceS_cons) (Ai.look laws_markPieceS_taks) (Ai.look laws_markPieceS_inps) (fun f id => match Ai.look laws_markPieceS_cuts f with | some l => Ai.look l id | none => none) k []
theorem laws_markPieceS_tabs (k : Nat) : TabsOk Try.prog (laws_markPieceS_cx k) := ⟨tab_mk tabs_ok _ _ _ _ _ _ _, look_all (Q := ConOk Try.prog) _ trivial, look_all (Q := TakOk Try.prog) _ trivial, look_all (Q := InpOk Try.prog) _ trivial, look_all (Q := InlOk Try.prog) _ trivial, mixed_ok⟩
abbrev laws_markPieceS_sh : List Sh := [.pl (.int .i64)]
noncomputable def laws_markPieceS_l0_s (x1 : Int) (x5 : Int) (z7 : (List ((List Int) × (Int × Unit)))) : St := { env := [.sl 7 (.pair (.arr 32 (.int .u8)) (.pair (.int .i64) .unit)), .pv (.int .i64) x1, .dead, .dead, .dead, .pv (.int .i64) x5, .dead, .dead, .dead, .dead, .dead, .dead, .dead, .dead, .dead, .dead, .dead, .dead, .dead, .dead, .dead, .dead, .dead, .dead, .dead, .dead, .dead, .dead, .dead, .dead, .dead, .dead, .dead, .dead, .dead], stk := [], heap := [(7, .arr 99 (.pair (.arr 32 (.int .u8)) (.pair (.int .i64) .unit)) z7)] }
noncomputable def laws_markPieceS_l0_o0 (x1 : Int) (z7 : (List ((List Int) × (Int × Unit)))) : St := { env := [.dead, .pv (.int .i64) x1, .dead, .dead, .dead, .dead, .dead, .dead, .dead, .dead, .dead, .dead, .dead, .dead, .dead, .dead, .dead, .dead, .dead, .dead, .dead, .dead, .dead, .dead, .dead, .dead, .dead, .dead, .dead, .dead, .dead, .dead, .dead, .dead, .dead], stk := [], heap := [(7, .arr 99 (.pair (.arr 32 (.int .u8)) (.pair (.int .i64) .unit)) z7)] }
noncomputable def laws_markPieceS_l1_s (x5 : Int) (x1 : Int) (x6 : Int) (z7 : (List ((List Int) × (Int × Unit)))) : St := { env := [.sl 7 (.pair (.arr 32 (.int .u8)) (.pair (.int .i64) .unit)), .pv (.int .i64) x1, .dead, .dead, .dead, .pv (.int .i64) x5, .pv (.int .i64) x6, .dead, .dead, .dead, .dead, .dead, .dead, .dead, .dead, .dead, .dead, .dead, .dead, .dead, .dead, .dead, .dead, .dead, .dead, .dead, .dead, .dead, .dead, .dead, .dead, .dead, .dead, .dead, .dead], stk := [], heap := [(7, .arr 99 (.pair (.arr 32 (.int .u8)) (.pair (.int .i64) .unit)) z7)] }
noncomputable def laws_markPieceS_l1_o2 (x5 : Int) (x1 : Int) (z7 : (List ((List Int) × (Int × Unit)))) : St := { env := [.sl 7 (.pair (.arr 32 (.int .u8)) (.pair (.int .i64) .unit)), .pv (.int .i64) x1, .dead, .dead, .dead, .pv (.int .i64) x5, .dead, .dead, .dead, .dead, .dead, .dead, .dead, .dead, .dead, .dead, .dead, .dead, .dead, .dead, .dead, .dead, .dead, .dead, .dead, .dead, .dead, .dead, .dead, .dead, .dead, .dead, .dead, .dead, .dead], stk := [], heap := [(7, .arr 99 (.pair (.arr 32 (.int .u8)) (.pair (.int .i64) .unit)) z7)] }
noncomputable def laws_markPieceS_l1_b (rec : Int → Int → (List ((List Int) × (Int × Unit))) → Option ((List ((List Int) × (Int × Unit))) × shDen laws_markPieceS_sh)) (ke2 : Int → (List ((List Int) × (Int × Unit))) → Option ((List ((List Int) × (Int × Unit))) × shDen laws_markPieceS_sh)) (x5 : Int) (x1 : Int) (x6 : Int) (z7 : (List ((List Int) × (Int × Unit)))) : Option ((List ((List Int) × (Int × Unit))) × shDen laws_markPieceS_sh) :=
 (cond (decide (x6 < (32 : Int)))
 (cond ((decide ((0 : Int) ≤ x5)) && (decide (x5 < (z7.length : Int))))
 (cond ((decide ((0 : Int) ≤ x6)) && (decide (x6 < (32 : Int))))
 (rec (IntKind.wrap .i64 (x1 + (1 : Int))) (IntKind.wrap .i64 (x6 + (1 : Int))) (z7.set (x5.toNat) ((((z7.getD (x5.toNat) ((List.replicate 32 (0 : Int)), ((0 : Int), ()))).1).set (x6.toNat) (IntKind.wrap .u8 x1)), (z7.getD (x5.toNat) ((List.replicate 32 (0 : Int)), ((0 : Int), ()))).2)))
 none)
 none)
 (ke2 x1 z7))
noncomputable def laws_markPieceS_l1_L (ke2 : Int → (List ((List Int) × (Int × Unit))) → Option ((List ((List Int) × (Int × Unit))) × shDen laws_markPieceS_sh)) (x5 : Int) : Nat → Int → Int → (List ((List Int) × (Int × Unit))) → Option ((List ((List Int) × (Int × Unit))) × shDen laws_markPieceS_sh)
 | 0 => fun _ _ _ => none
 | n + 1 => laws_markPieceS_l1_b (laws_markPieceS_l1_L ke2 x5 n) ke2 x5
noncomputable def laws_markPieceS_l0_b (rec : Int → Int → (List ((List Int) × (Int × Unit))) → Option ((List ((List Int) × (Int × Unit))) × shDen laws_markPieceS_sh)) (ke0 : Int → (List ((List Int) × (Int × Unit))) → Option ((List ((List Int) × (Int × Unit))) × shDen laws_markPieceS_sh)) (x1 : Int) (x5 : Int) (z7 : (List ((List Int) × (Int × Unit)))) : Option ((List ((List Int) × (Int × Unit))) × shDen laws_markPieceS_sh) :=
 (cond (decide (x5 < (z7.length : Int)))
 (laws_markPieceS_l1_L (fun x1 z7 => (cond ((decide ((0 : Int) ≤ x5)) && (decide (x5 < (z7.length : Int))))
 (rec (IntKind.wrap .i64 (x1 + (1 : Int))) (IntKind.wrap .i64 (x5 + (1 : Int))) (z7.set (x5.toNat) ((z7.getD (x5.toNat) ((List.replicate 32 (0 : Int)), ((0 : Int), ()))).1, (x1, ((z7.getD (x5.toNat) ((List.replicate 32 (0 : Int)), ((0 : Int), ()))).2).2))))
 none)) x5 FUEL x1 (0 : Int) z7)
 (ke0 x1 z7))
noncomputable def laws_markPieceS_l0_L (ke0 : Int → (List ((List Int) × (Int × Unit))) → Option ((List ((List Int) × (Int × Unit))) × shDen laws_markPieceS_sh))  : Nat → Int → Int → (List ((List Int) × (Int × Unit))) → Option ((List ((List Int) × (Int × Unit))) × shDen laws_markPieceS_sh)
 | 0 => fun _ _ _ => none
 | n + 1 => laws_markPieceS_l0_b (laws_markPieceS_l0_L ke0  n) ke0 
noncomputable def laws_markPieceS_r (a0 : (List ((List Int) × (Int × Unit)))) (a1 : Int) : Option ((List ((List Int) × (Int × Unit))) × shDen laws_markPieceS_sh) :=
 (laws_markPieceS_l0_L (fun x1 z7 => (some (z7, x1))) FUEL a1 (0 : Int) a0)
theorem laws_markPieceS_l1_round (k : Nat) (K : Ex → St → Option ((List ((List Int) × (Int × Unit))) × shDen laws_markPieceS_sh)) (n : Nat) (x5 : Int) (x1 : Int) (x6 : Int) (z7 : (List ((List Int) × (Int × Unit)))) : (loopK (laws_markPieceS_cx k) 0 (execK (laws_markPieceS_cx k) (callK (laws_markPieceS_cx k) 8) 0 25 (sub laws_markPieceS_c [1, 0, 1, 0, 0, 1, 0, 0, 0, 1, 0, 0])) laws_markPieceS_l1_cut K (n + 1) (laws_markPieceS_l1_s x5 x1 x6 z7) : Option ((List ((List Int) × (Int × Unit))) × shDen laws_markPieceS_sh)) =
 ((cond (decide (x6 < (32 : Int)))
 (cond ((decide ((0 : Int) ≤ x5)) && (decide (x5 < (z7.length : Int))))
 (cond ((decide ((0 : Int) ≤ x6)) && (decide (x6 < (32 : Int))))
 (loopK (laws_markPieceS_cx k) 0 (execK (laws_markPieceS_cx k) (callK (laws_markPieceS_cx k) 8) 0 25 (sub laws_markPieceS_c [1, 0, 1, 0, 0, 1, 0, 0, 0, 1, 0, 0])) laws_markPieceS_l1_cut K n (laws_markPieceS_l1_s x5 (IntKind.wrap .i64 (x1 + (1 : Int))) (IntKind.wrap .i64 (x6 + (1 : Int))) (z7.set (x5.toNat) ((((z7.getD (x5.toNat) ((List.replicate 32 (0 : Int)), ((0 : Int), ()))).1).set (x6.toNat) (IntKind.wrap .u8 x1)), (z7.getD (x5.toNat) ((List.replicate 32 (0 : Int)), ((0 : Int), ()))).2))))
 none)
 none)
 (K (.exit 2) (laws_markPieceS_l1_o2 x5 x1 z7))) : Option ((List ((List Int) × (Int × Unit))) × shDen laws_markPieceS_sh)) := by kernel_rfl

theorem laws_markPieceS_l1_exit2 (k : Nat) (K : Ex → St → Option ((List ((List Int) × (Int × Unit))) × shDen laws_markPieceS_sh)) (n : Nat) (x5 : Int) (x1 : Int) (z7 : (List ((List Int) × (Int × Unit)))) : ((blkK 2 (seqK (execK (laws_markPieceS_cx k) (callK (laws_markPieceS_cx k) 8) 0 25 (sub laws_markPieceS_c [1, 0, 1, 0, 0, 1, 0, 0, 1])) (blkK 1 (seqK (execK (laws_markPieceS_cx k) (callK (laws_markPieceS_cx k) 8) 0 25 (sub laws_markPieceS_c [1, 0, 1, 0, 0, 1, 1])) (iterK (laws_markPieceS_cx k) 0 laws_markPieceS_l0_cut (loopK (laws_markPieceS_cx k) 0 (execK (laws_markPieceS_cx k) (callK (laws_markPieceS_cx k) 8) 0 25 (sub laws_markPieceS_c [1, 0, 1, 0, 0])) laws_markPieceS_l0_cut K n) K))))) (.exit 2) (laws_markPieceS_l1_o2 x5 x1 z7) : Option ((List ((List Int) × (Int × Unit))) × shDen laws_markPieceS_sh)) =
 ((cond ((decide ((0 : Int) ≤ x5)) && (decide (x5 < (z7.length : Int))))
 (loopK (laws_markPieceS_cx k) 0 (execK (laws_markPieceS_cx k) (callK (laws_markPieceS_cx k) 8) 0 25 (sub laws_markPieceS_c [1, 0, 1, 0, 0])) laws_markPieceS_l0_cut K n (laws_markPieceS_l0_s (IntKind.wrap .i64 (x1 + (1 : Int))) (IntKind.wrap .i64 (x5 + (1 : Int))) (z7.set (x5.toNat) ((z7.getD (x5.toNat) ((List.replicate 32 (0 : Int)), ((0 : Int), ()))).1, (x1, ((z7.getD (x5.toNat) ((List.replicate 32 (0 : Int)), ((0 : Int), ()))).2).2)))))
 none) : Option ((List ((List Int) × (Int × Unit))) × shDen laws_markPieceS_sh)) := by kernel_rfl

theorem laws_markPieceS_l1_congr (ke2 : Int → (List ((List Int) × (Int × Unit))) → Option ((List ((List Int) × (Int × Unit))) × shDen laws_markPieceS_sh)) (ke2' : Int → (List ((List Int) × (Int × Unit))) → Option ((List ((List Int) × (Int × Unit))) × shDen laws_markPieceS_sh)) (x5 : Int) (n : Nat) (x1 : Int) (x6 : Int) (z7 : (List ((List Int) × (Int × Unit)))) (hke2 : ∀ x1 z7, ke2 x1 z7 = ke2' x1 z7) : laws_markPieceS_l1_L ke2 x5 n x1 x6 z7 = laws_markPieceS_l1_L ke2' x5 n x1 x6 z7 := by
 have : ke2 = ke2' := (by funext x1 z7; exact hke2 x1 z7); subst this; rfl

theorem laws_markPieceS_l1_L_eq (K : Ex → St → Option ((List ((List Int) × (Int × Unit))) × shDen laws_markPieceS_sh)) (x5 : Int) : ∀ (n : Nat) (x1 : Int) (x6 : Int) (z7 : (List ((List Int) × (Int × Unit)))), (loopK (laws_markPieceS_cx FUEL) 0 (execK (laws_markPieceS_cx FUEL) (callK (laws_markPieceS_cx FUEL) 8) 0 25 (sub laws_markPieceS_c [1, 0, 1, 0, 0, 1, 0, 0, 0, 1, 0, 0])) laws_markPieceS_l1_cut K n (laws_markPieceS_l1_s x5 x1 x6 z7) : Option ((List ((List Int) × (Int × Unit))) × shDen laws_markPieceS_sh)) = laws_markPieceS_l1_L (fun x1 z7 => K (.exit 2) (laws_markPieceS_l1_o2 x5 x1 z7)) x5 n x1 x6 z7 := by
 intro n
 induction n with
 | zero => intros; rfl
 | succ n ih =>
  intro x1 x6 z7
  exact (laws_markPieceS_l1_round FUEL K n x5 x1 x6 z7).trans (condC (condC (condC (ih (IntKind.wrap .i64 (x1 + (1 : Int))) (IntKind.wrap .i64 (x6 + (1 : Int))) (z7.set (x5.toNat) ((((z7.getD (x5.toNat) ((List.replicate 32 (0 : Int)), ((0 : Int), ()))).1).set (x6.toNat) (IntKind.wrap .u8 x1)), (z7.getD (x5.toNat) ((List.replicate 32 (0 : Int)), ((0 : Int), ()))).2))) (rfl)) (rfl)) (rfl))

theorem laws_markPieceS_l0_round (k : Nat) (K : Ex → St → Option ((List ((List Int) × (Int × Unit))) × shDen laws_markPieceS_sh)) (n : Nat) (x1 : Int) (x5 : Int) (z7 : (List ((List Int) × (Int × Unit)))) : (loopK (laws_markPieceS_cx k) 0 (execK (laws_markPieceS_cx k) (callK (laws_markPieceS_cx k) 8) 0 25 (sub laws_markPieceS_c [1, 0, 1, 0, 0])) laws_markPieceS_l0_cut K (n + 1) (laws_markPieceS_l0_s x1 x5 z7) : Option ((List ((List Int) × (Int × Unit))) × shDen laws_markPieceS_sh)) =
 ((cond (decide (x5 < (z7.length : Int)))
 (loopK (laws_markPieceS_cx k) 0 (execK (laws_markPieceS_cx k) (callK (laws_markPieceS_cx k) 8) 0 25 (sub laws_markPieceS_c [1, 0, 1, 0, 0, 1, 0, 0, 0, 1, 0, 0])) laws_markPieceS_l1_cut (blkK 2 (seqK (execK (laws_markPieceS_cx k) (callK (laws_markPieceS_cx k) 8) 0 25 (sub laws_markPieceS_c [1, 0, 1, 0, 0, 1, 0, 0, 1])) (blkK 1 (seqK (execK (laws_markPieceS_cx k) (callK (laws_markPieceS_cx k) 8) 0 25 (sub laws_markPieceS_c [1, 0, 1, 0, 0, 1, 1])) (iterK (laws_markPieceS_cx k) 0 laws_markPieceS_l0_cut (loopK (laws_markPieceS_cx k) 0 (execK (laws_markPieceS_cx k) (callK (laws_markPieceS_cx k) 8) 0 25 (sub laws_markPieceS_c [1, 0, 1, 0, 0])) laws_markPieceS_l0_cut K n) K))))) k (laws_markPieceS_l1_s x5 x1 (0 : Int) z7))
 (K (.exit 0) (laws_markPieceS_l0_o0 x1 z7))) : Option ((List ((List Int) × (Int × Unit))) × shDen laws_markPieceS_sh)) := by kernel_rfl

theorem laws_markPieceS_l0_exit0 (k : Nat)  (x1 : Int) (z7 : (List ((List Int) × (Int × Unit)))) : ((blkK 0 (seqK (execK (laws_markPieceS_cx k) (callK (laws_markPieceS_cx k) 8) 0 25 (sub laws_markPieceS_c [1, 1])) (finIK (laws_markPieceS_cx k) laws_markPieceS_i (.arr 99 (.pair (.arr 32 (.int .u8)) (.pair (.int .i64) .unit))) laws_markPieceS_sh))) (.exit 0) (laws_markPieceS_l0_o0 x1 z7) : Option ((List ((List Int) × (Int × Unit))) × shDen laws_markPieceS_sh)) =
 ((some (z7, x1)) : Option ((List ((List Int) × (Int × Unit))) × shDen laws_markPieceS_sh)) := by kernel_rfl

theorem laws_markPieceS_l0_congr (ke0 : Int → (List ((List Int) × (Int × Unit))) → Option ((List ((List Int) × (Int × Unit))) × shDen laws_markPieceS_sh)) (ke0' : Int → (List ((List Int) × (Int × Unit))) → Option ((List ((List Int) × (Int × Unit))) × shDen laws_markPieceS_sh))  (n : Nat) (x1 : Int) (x5 : Int) (z7 : (List ((List Int) × (Int × Unit)))) (hke0 : ∀ x1 z7, ke0 x1 z7 = ke0' x1 z7) : laws_markPieceS_l0_L ke0  n x1 x5 z7 = laws_markPieceS_l0_L ke0'  n x1 x5 z7 := by
 have : ke0 = ke0' := (by funext x1 z7; exact hke0 x1 z7); subst this; rfl

theorem laws_markPieceS_l0_L_eq (K : Ex → St → Option ((List ((List Int) × (Int × Unit))) × shDen laws_markPieceS_sh))  : ∀ (n : Nat) (x1 : Int) (x5 : Int) (z7 : (List ((List Int) × (Int × Unit)))), (loopK (laws_markPieceS_cx FUEL) 0 (execK (laws_markPieceS_cx FUEL) (callK (laws_markPieceS_cx FUEL) 8) 0 25 (sub laws_markPieceS_c [1, 0, 1, 0, 0])) laws_markPieceS_l0_cut K n (laws_markPieceS_l0_s x1 x5 z7) : Option ((List ((List Int) × (Int × Unit))) × shDen laws_markPieceS_sh)) = laws_markPieceS_l0_L (fun x1 z7 => K (.exit 0) (laws_markPieceS_l0_o0 x1 z7))  n x1 x5 z7 := by
 intro n
 induction n with
 | zero => intros; rfl
 | succ n ih =>
  intro x1 x5 z7
  exact (laws_markPieceS_l0_round FUEL K n  x1 x5 z7).trans (condC ((laws_markPieceS_l1_L_eq _ x5 FUEL x1 (0 : Int) z7).trans (laws_markPieceS_l1_congr _ _ x5 FUEL x1 (0 : Int) z7 (fun x1 z7 => (laws_markPieceS_l1_exit2 FUEL K n x5 x1 z7).trans (condC (ih (IntKind.wrap .i64 (x1 + (1 : Int))) (IntKind.wrap .i64 (x5 + (1 : Int))) (z7.set (x5.toNat) ((z7.getD (x5.toNat) ((List.replicate 32 (0 : Int)), ((0 : Int), ()))).1, (x1, ((z7.getD (x5.toNat) ((List.replicate 32 (0 : Int)), ((0 : Int), ()))).2).2)))) (rfl))))) (rfl))

theorem laws_markPieceS_start (k : Nat) (a0 : (List ((List Int) × (Int × Unit)))) (a1 : Int) : fnIK (laws_markPieceS_cx k) 8 25 laws_markPieceS_i (.arr 99 (.pair (.arr 32 (.int .u8)) (.pair (.int .i64) .unit))) laws_markPieceS_sh a0 [.pv (.int .i64) a1] =
 ((loopK (laws_markPieceS_cx k) 0 (execK (laws_markPieceS_cx k) (callK (laws_markPieceS_cx k) 8) 0 25 (sub laws_markPieceS_c [1, 0, 1, 0, 0])) laws_markPieceS_l0_cut (blkK 0 (seqK (execK (laws_markPieceS_cx k) (callK (laws_markPieceS_cx k) 8) 0 25 (sub laws_markPieceS_c [1, 1])) (finIK (laws_markPieceS_cx k) laws_markPieceS_i (.arr 99 (.pair (.arr 32 (.int .u8)) (.pair (.int .i64) .unit))) laws_markPieceS_sh))) k (laws_markPieceS_l0_s a1 (0 : Int) a0)) : Option ((List ((List Int) × (Int × Unit))) × shDen laws_markPieceS_sh)) := by kernel_rfl

theorem laws_markPieceS_run (a0 : (List ((List Int) × (Int × Unit)))) (a1 : Int) : fnIK (laws_markPieceS_cx FUEL) 8 25 laws_markPieceS_i (.arr 99 (.pair (.arr 32 (.int .u8)) (.pair (.int .i64) .unit))) laws_markPieceS_sh a0 [.pv (.int .i64) a1] = laws_markPieceS_r a0 a1 :=
 (laws_markPieceS_start FUEL a0 a1).trans ((laws_markPieceS_l0_L_eq _  FUEL a1 (0 : Int) a0).trans (laws_markPieceS_l0_congr _ _  FUEL a1 (0 : Int) a0 (fun x1 z7 => (laws_markPieceS_l0_exit0 FUEL  x1 z7).trans (rfl))))

noncomputable def laws_markPieceS_inp : ConI := { k := (.arr 99 (.pair (.arr 32 (.int .u8)) (.pair (.int .i64) .unit))), ps := (.pair (.int .i64) .unit), sh := laws_markPieceS_sh, raw := fun x q => laws_markPieceS_r x q.1 }
theorem laws_markPieceS_inpOk : InpOk Try.prog 25 laws_markPieceS_inp := inp_of_fn (laws_markPieceS_tabs FUEL) (depth := 8) laws_markPieceS_ok fun x q z h => (laws_markPieceS_run x q.1).trans h

noncomputable def laws_heldPieceS_l0_cut : Cut := { keep := [0, 1, 5], stk := [], ids := [], own := [], outs := [(1, [1], []), (0, [4], [])] }
noncomputable def laws_heldPieceS_l1_cut : Cut := { keep := [0, 1, 5, 6], stk := [], ids := [], own := [], outs := [(0, [4], []), (3, [0, 1, 5], [])] }
noncomputable def laws_heldPieceS_inls : List (Nat × Inl) := []
noncomputable def laws_heldPieceS_cons : List (Nat × Con) := []
noncomputable def laws_heldPieceS_taks : List (Nat × ConT) := []
noncomputable def laws_heldPieceS_inps : List (Nat × ConI) := []
noncomputable def laws_heldPieceS_cuts : List (Nat × List (Nat × Cut)) := [(26, [(0, laws_heldPieceS_l0_cut), (2, laws_heldPieceS_l1_cut)])]
noncomputable def laws_heldPieceS_cx (k : Nat) : Cx := mkCx tys tbytes telem nozero (Ai.look laws_heldPieceS_inls) (Ai.look laws_heldPieceS_cons) (Ai.look laws_heldPieceS_taks) (Ai.look laws_heldPieceS_inps) (fun f id => match Ai.look laws_heldPieceS_cuts f with | some l => Ai.look l id | none => none) k []
theorem laws_heldPieceS_tabs (k : Nat) : TabsOk Try.prog (laws_heldPieceS_cx k) := ⟨tab_mk tabs_ok _ _ _ _ _ _ _, look_all (Q := ConOk Try.prog) _ trivial, look_all (Q := TakOk Try.prog) _ trivial, look_all (Q := InpOk Try.prog) _ trivial, look_all (Q := InlOk Try.prog) _ trivial, mixed_ok⟩
abbrev laws_heldPieceS_sh : List Sh := [.pl (.int .i64)]
noncomputable def laws_heldPieceS_l0_s (a0 : (List ((List Int) × (Int × Unit)))) (x1 : Int) (x5 : Int) : St := { env := [.pv (.slice (.pair (.arr 32 (.int .u8)) (.pair (.int .i64) .unit))) a0, .pv (.int .i64) x1, .dead, .dead, .dead, .pv (.int .i64) x5, .dead, .dead, .dead, .dead, .dead, .dead, .dead, .dead, .dead, .dead, .dead, .dead, .dead, .dead, .dead, .dead, .dead, .dead, .dead, .dead, .dead, .dead, .dead, .dead, .dead, .dead, .dead, .dead, .dead, .dead, .dead, .dead, .dead], stk := [], heap := [] }
noncomputable def laws_heldPieceS_l0_o0 (x1 : Int) : St := { env := [.dead, .pv (.int .i64) x1, .dead, .dead, .dead, .dead, .dead, .dead, .dead, .dead, .dead, .dead, .dead, .dead, .dead, .dead, .dead, .dead, .dead, .dead, .dead, .dead, .dead, .dead, .dead, .dead, .dead, .dead, .dead, .dead, .dead, .dead, .dead, .dead, .dead, .dead, .dead, .dead, .dead], stk := [], heap := [] }
noncomputable def laws_heldPieceS_l0_o  : St := { env := [.dead, .dead, .dead, .dead, .pv (.int .i64) (-1 : Int), .dead, .dead, .dead, .dead, .dead, .dead, .dead, .dead, .dead, .dead, .dead, .dead, .dead, .dead, .dead, .dead, .dead, .dead, .dead, .dead, .dead, .dead, .dead, .dead, .dead, .dead, .dead, .dead, .dead, .dead, .dead, .dead, .dead, .dead], stk := [], heap := [] }
noncomputable def laws_heldPieceS_l1_s (a0 : (List ((List Int) × (Int × Unit)))) (x5 : Int) (x1 : Int) (x6 : Int) : St := { env := [.pv (.slice (.pair (.arr 32 (.int .u8)) (.pair (.int .i64) .unit))) a0, .pv (.int .i64) x1, .dead, .dead, .dead, .pv (.int .i64) x5, .pv (.int .i64) x6, .dead, .dead, .dead, .dead, .dead, .dead, .dead, .dead, .dead, .dead, .dead, .dead, .dead, .dead, .dead, .dead, .dead, .dead, .dead, .dead, .dead, .dead, .dead, .dead, .dead, .dead, .dead, .dead, .dead, .dead, .dead, .dead], stk := [], heap := [] }
noncomputable def laws_heldPieceS_l1_o  : St := { env := [.dead, .dead, .dead, .dead, .pv (.int .i64) (-1 : Int), .dead, .dead, .dead, .dead, .dead, .dead, .dead, .dead, .dead, .dead, .dead, .dead, .dead, .dead, .dead, .dead, .dead, .dead, .dead, .dead, .dead, .dead, .dead, .dead, .dead, .dead, .dead, .dead, .dead, .dead, .dead, .dead, .dead, .dead], stk := [], heap := [] }
noncomputable def laws_heldPieceS_l1_o2 (a0 : (List ((List Int) × (Int × Unit)))) (x5 : Int) (x1 : Int) : St := { env := [.pv (.slice (.pair (.arr 32 (.int .u8)) (.pair (.int .i64) .unit))) a0, .pv (.int .i64) x1, .dead, .dead, .dead, .pv (.int .i64) x5, .dead, .dead, .dead, .dead, .dead, .dead, .dead, .dead, .dead, .dead, .dead, .dead, .dead, .dead, .dead, .dead, .dead, .dead, .dead, .dead, .dead, .dead, .dead, .dead, .dead, .dead, .dead, .dead, .dead, .dead, .dead, .dead, .dead], stk := [], heap := [] }
noncomputable def laws_heldPieceS_l1_b (rec : Int → Int → Option (shDen laws_heldPieceS_sh)) (kr : Option (shDen laws_heldPieceS_sh)) (ke2 : Int → Option (shDen laws_heldPieceS_sh)) (a0 : (List ((List Int) × (Int × Unit)))) (x5 : Int) (x1 : Int) (x6 : Int) : Option (shDen laws_heldPieceS_sh) :=
 (cond (decide (x6 < (32 : Int)))
 (cond ((decide ((0 : Int) ≤ x5)) && (decide (x5 < (a0.length : Int))))
 (cond ((decide ((0 : Int) ≤ x6)) && (decide (x6 < (32 : Int))))
 (cond (!(decide ((((a0.getD (x5.toNat) ((List.replicate 32 (0 : Int)), ((0 : Int), ()))).1).getD (x6.toNat) (0 : Int)) = (IntKind.wrap .u8 x1))))
 (kr)
 (rec (IntKind.wrap .i64 (x1 + (1 : Int))) (IntKind.wrap .i64 (x6 + (1 : Int)))))
 none)
 none)
 (ke2 x1))
noncomputable def laws_heldPieceS_l1_L (kr : Option (shDen laws_heldPieceS_sh)) (ke2 : Int → Option (shDen laws_heldPieceS_sh)) (a0 : (List ((List Int) × (Int × Unit)))) (x5 : Int) : Nat → Int → Int → Option (shDen laws_heldPieceS_sh)
 | 0 => fun _ _ => none
 | n + 1 => laws_heldPieceS_l1_b (laws_heldPieceS_l1_L kr ke2 a0 x5 n) kr ke2 a0 x5
noncomputable def laws_heldPieceS_l0_b (rec : Int → Int → Option (shDen laws_heldPieceS_sh)) (ke0 : Int → Option (shDen laws_heldPieceS_sh)) (kr : Option (shDen laws_heldPieceS_sh)) (a0 : (List ((List Int) × (Int × Unit)))) (x1 : Int) (x5 : Int) : Option (shDen laws_heldPieceS_sh) :=
 (cond (decide (x5 < (a0.length : Int)))
 (laws_heldPieceS_l1_L (kr) (fun x1 => (cond ((decide ((0 : Int) ≤ x5)) && (decide (x5 < (a0.length : Int))))
 (cond (!(decide (((a0.getD (x5.toNat) ((List.replicate 32 (0 : Int)), ((0 : Int), ()))).2).1 = x1)))
 (kr)
 (rec (IntKind.wrap .i64 (x1 + (1 : Int))) (IntKind.wrap .i64 (x5 + (1 : Int)))))
 none)) a0 x5 FUEL x1 (0 : Int))
 (ke0 x1))
noncomputable def laws_heldPieceS_l0_L (ke0 : Int → Option (shDen laws_heldPieceS_sh)) (kr : Option (shDen laws_heldPieceS_sh)) (a0 : (List ((List Int) × (Int × Unit)))) : Nat → Int → Int → Option (shDen laws_heldPieceS_sh)
 | 0 => fun _ _ => none
 | n + 1 => laws_heldPieceS_l0_b (laws_heldPieceS_l0_L ke0 kr a0 n) ke0 kr a0
noncomputable def laws_heldPieceS_r (a0 : (List ((List Int) × (Int × Unit)))) (a1 : Int) : Option (shDen laws_heldPieceS_sh) :=
 (laws_heldPieceS_l0_L (fun x1 => (some x1)) (some (-1 : Int)) a0 FUEL a1 (0 : Int))
theorem laws_heldPieceS_l1_round (k : Nat) (K : Ex → St → Option (shDen laws_heldPieceS_sh)) (n : Nat) (a0 : (List ((List Int) × (Int × Unit)))) (x5 : Int) (x1 : Int) (x6 : Int) : (loopK (laws_heldPieceS_cx k) 0 (execK (laws_heldPieceS_cx k) (callK (laws_heldPieceS_cx k) 8) 0 26 (sub laws_heldPieceS_c [1, 0, 1, 0, 0, 1, 0, 0, 0, 1, 0, 0])) laws_heldPieceS_l1_cut K (n + 1) (laws_heldPieceS_l1_s a0 x5 x1 x6) : Option (shDen laws_heldPieceS_sh)) =
 ((cond (decide (x6 < (32 : Int)))
 (cond ((decide ((0 : Int) ≤ x5)) && (decide (x5 < (a0.length : Int))))
 (cond ((decide ((0 : Int) ≤ x6)) && (decide (x6 < (32 : Int))))
 (cond (!(decide ((((a0.getD (x5.toNat) ((List.replicate 32 (0 : Int)), ((0 : Int), ()))).1).getD (x6.toNat) (0 : Int)) = (IntKind.wrap .u8 x1))))
 (K .ret (laws_heldPieceS_l1_o ))
 (loopK (laws_heldPieceS_cx k) 0 (execK (laws_heldPieceS_cx k) (callK (laws_heldPieceS_cx k) 8) 0 26 (sub laws_heldPieceS_c [1, 0, 1, 0, 0, 1, 0, 0, 0, 1, 0, 0])) laws_heldPieceS_l1_cut K n (laws_heldPieceS_l1_s a0 x5 (IntKind.wrap .i64 (x1 + (1 : Int))) (IntKind.wrap .i64 (x6 + (1 : Int))))))
 none)
 none)
 (K (.exit 2) (laws_heldPieceS_l1_o2 a0 x5 x1))) : Option (shDen laws_heldPieceS_sh)) := by kernel_rfl

theorem laws_heldPieceS_l1_ret (k : Nat) (K : Ex → St → Option (shDen laws_heldPieceS_sh)) (n : Nat)  : ((blkK 2 (seqK (execK (laws_heldPieceS_cx k) (callK (laws_heldPieceS_cx k) 8) 0 26 (sub laws_heldPieceS_c [1, 0, 1, 0, 0, 1, 0, 0, 1])) (blkK 1 (seqK (execK (laws_heldPieceS_cx k) (callK (laws_heldPieceS_cx k) 8) 0 26 (sub laws_heldPieceS_c [1, 0, 1, 0, 0, 1, 1])) (iterK (laws_heldPieceS_cx k) 0 laws_heldPieceS_l0_cut (loopK (laws_heldPieceS_cx k) 0 (execK (laws_heldPieceS_cx k) (callK (laws_heldPieceS_cx k) 8) 0 26 (sub laws_heldPieceS_c [1, 0, 1, 0, 0])) laws_heldPieceS_l0_cut K n) K))))) .ret (laws_heldPieceS_l1_o) : Option (shDen laws_heldPieceS_sh)) =
 ((K .ret (laws_heldPieceS_l0_o )) : Option (shDen laws_heldPieceS_sh)) := by kernel_rfl

theorem laws_heldPieceS_l1_exit2 (k : Nat) (K : Ex → St → Option (shDen laws_heldPieceS_sh)) (n : Nat) (a0 : (List ((List Int) × (Int × Unit)))) (x5 : Int) (x1 : Int) : ((blkK 2 (seqK (execK (laws_heldPieceS_cx k) (callK (laws_heldPieceS_cx k) 8) 0 26 (sub laws_heldPieceS_c [1, 0, 1, 0, 0, 1, 0, 0, 1])) (blkK 1 (seqK (execK (laws_heldPieceS_cx k) (callK (laws_heldPieceS_cx k) 8) 0 26 (sub laws_heldPieceS_c [1, 0, 1, 0, 0, 1, 1])) (iterK (laws_heldPieceS_cx k) 0 laws_heldPieceS_l0_cut (loopK (laws_heldPieceS_cx k) 0 (execK (laws_heldPieceS_cx k) (callK (laws_heldPieceS_cx k) 8) 0 26 (sub laws_heldPieceS_c [1, 0, 1, 0, 0])) laws_heldPieceS_l0_cut K n) K))))) (.exit 2) (laws_heldPieceS_l1_o2 a0 x5 x1) : Option (shDen laws_heldPieceS_sh)) =
 ((cond ((decide ((0 : Int) ≤ x5)) && (decide (x5 < (a0.length : Int))))
 (cond (!(decide (((a0.getD (x5.toNat) ((List.replicate 32 (0 : Int)), ((0 : Int), ()))).2).1 = x1)))
 (K .ret (laws_heldPieceS_l0_o ))
 (loopK (laws_heldPieceS_cx k) 0 (execK (laws_heldPieceS_cx k) (callK (laws_heldPieceS_cx k) 8) 0 26 (sub laws_heldPieceS_c [1, 0, 1, 0, 0])) laws_heldPieceS_l0_cut K n (laws_heldPieceS_l0_s a0 (IntKind.wrap .i64 (x1 + (1 : Int))) (IntKind.wrap .i64 (x5 + (1 : Int))))))
 none) : Option (shDen laws_heldPieceS_sh)) := by kernel_rfl

theorem laws_heldPieceS_l1_congr (kr : Option (shDen laws_heldPieceS_sh)) (ke2 : Int → Option (shDen laws_heldPieceS_sh)) (kr' : Option (shDen laws_heldPieceS_sh)) (ke2' : Int → Option (shDen laws_heldPieceS_sh)) (a0 : (List ((List Int) × (Int × Unit)))) (x5 : Int) (n : Nat) (x1 : Int) (x6 : Int) (hkr : ∀ (_ : Unit), kr  = kr' ) (hke2 : ∀ x1, ke2 x1 = ke2' x1) : laws_heldPieceS_l1_L kr ke2 a0 x5 n x1 x6 = laws_heldPieceS_l1_L kr' ke2' a0 x5 n x1 x6 := by
 have : kr = kr' := hkr (); subst this; have : ke2 = ke2' := (by funext x1; exact hke2 x1); subst this; rfl

theorem laws_heldPieceS_l1_L_eq (K : Ex → St → Option (shDen laws_heldPieceS_sh)) (a0 : (List ((List Int) × (Int × Unit)))) (x5 : Int) : ∀ (n : Nat) (x1 : Int) (x6 : Int), (loopK (laws_heldPieceS_cx FUEL) 0 (execK (laws_heldPieceS_cx FUEL) (callK (laws_heldPieceS_cx FUEL) 8) 0 26 (sub laws_heldPieceS_c [1, 0, 1, 0, 0, 1, 0, 0, 0, 1, 0, 0])) laws_heldPieceS_l1_cut K n (laws_heldPieceS_l1_s a0 x5 x1 x6) : Option (shDen laws_heldPieceS_sh)) = laws_heldPieceS_l1_L (K .ret (laws_heldPieceS_l1_o)) (fun x1 => K (.exit 2) (laws_heldPieceS_l1_o2 a0 x5 x1)) a0 x5 n x1 x6 := by
 intro n
 induction n with
 | zero => intros; rfl
 | succ n ih =>
  intro x1 x6
  exact (laws_heldPieceS_l1_round FUEL K n a0 x5 x1 x6).trans (condC (condC (condC (condC (rfl) (ih (IntKind.wrap .i64 (x1 + (1 : Int))) (IntKind.wrap .i64 (x6 + (1 : Int))))) (rfl)) (rfl)) (rfl))

theorem laws_heldPieceS_l0_round (k : Nat) (K : Ex → St → Option (shDen laws_heldPieceS_sh)) (n : Nat) (a0 : (List ((List Int) × (Int × Unit)))) (x1 : Int) (x5 : Int) : (loopK (laws_heldPieceS_cx k) 0 (execK (laws_heldPieceS_cx k) (callK (laws_heldPieceS_cx k) 8) 0 26 (sub laws_heldPieceS_c [1, 0, 1, 0, 0])) laws_heldPieceS_l0_cut K (n + 1) (laws_heldPieceS_l0_s a0 x1 x5) : Option (shDen laws_heldPieceS_sh)) =
 ((cond (decide (x5 < (a0.length : Int)))
 (loopK (laws_heldPieceS_cx k) 0 (execK (laws_heldPieceS_cx k) (callK (laws_heldPieceS_cx k) 8) 0 26 (sub laws_heldPieceS_c [1, 0, 1, 0, 0, 1, 0, 0, 0, 1, 0, 0])) laws_heldPieceS_l1_cut (blkK 2 (seqK (execK (laws_heldPieceS_cx k) (callK (laws_heldPieceS_cx k) 8) 0 26 (sub laws_heldPieceS_c [1, 0, 1, 0, 0, 1, 0, 0, 1])) (blkK 1 (seqK (execK (laws_heldPieceS_cx k) (callK (laws_heldPieceS_cx k) 8) 0 26 (sub laws_heldPieceS_c [1, 0, 1, 0, 0, 1, 1])) (iterK (laws_heldPieceS_cx k) 0 laws_heldPieceS_l0_cut (loopK (laws_heldPieceS_cx k) 0 (execK (laws_heldPieceS_cx k) (callK (laws_heldPieceS_cx k) 8) 0 26 (sub laws_heldPieceS_c [1, 0, 1, 0, 0])) laws_heldPieceS_l0_cut K n) K))))) k (laws_heldPieceS_l1_s a0 x5 x1 (0 : Int)))
 (K (.exit 0) (laws_heldPieceS_l0_o0 x1))) : Option (shDen laws_heldPieceS_sh)) := by kernel_rfl

theorem laws_heldPieceS_l0_exit0 (k : Nat)  (x1 : Int) : ((blkK 0 (seqK (execK (laws_heldPieceS_cx k) (callK (laws_heldPieceS_cx k) 8) 0 26 (sub laws_heldPieceS_c [1, 1])) (finK (laws_heldPieceS_cx k) laws_heldPieceS_i laws_heldPieceS_sh))) (.exit 0) (laws_heldPieceS_l0_o0 x1) : Option (shDen laws_heldPieceS_sh)) =
 ((some x1) : Option (shDen laws_heldPieceS_sh)) := by kernel_rfl

theorem laws_heldPieceS_l0_ret (k : Nat)   : ((blkK 0 (seqK (execK (laws_heldPieceS_cx k) (callK (laws_heldPieceS_cx k) 8) 0 26 (sub laws_heldPieceS_c [1, 1])) (finK (laws_heldPieceS_cx k) laws_heldPieceS_i laws_heldPieceS_sh))) .ret (laws_heldPieceS_l0_o) : Option (shDen laws_heldPieceS_sh)) =
 ((some (-1 : Int)) : Option (shDen laws_heldPieceS_sh)) := by kernel_rfl

theorem laws_heldPieceS_l0_congr (ke0 : Int → Option (shDen laws_heldPieceS_sh)) (kr : Option (shDen laws_heldPieceS_sh)) (ke0' : Int → Option (shDen laws_heldPieceS_sh)) (kr' : Option (shDen laws_heldPieceS_sh)) (a0 : (List ((List Int) × (Int × Unit)))) (n : Nat) (x1 : Int) (x5 : Int) (hke0 : ∀ x1, ke0 x1 = ke0' x1) (hkr : ∀ (_ : Unit), kr  = kr' ) : laws_heldPieceS_l0_L ke0 kr a0 n x1 x5 = laws_heldPieceS_l0_L ke0' kr' a0 n x1 x5 := by
 have : ke0 = ke0' := (by funext x1; exact hke0 x1); subst this; have : kr = kr' := hkr (); subst this; rfl

theorem laws_heldPieceS_l0_L_eq (K : Ex → St → Option (shDen laws_heldPieceS_sh)) (a0 : (List ((List Int) × (Int × Unit)))) : ∀ (n : Nat) (x1 : Int) (x5 : Int), (loopK (laws_heldPieceS_cx FUEL) 0 (execK (laws_heldPieceS_cx FUEL) (callK (laws_heldPieceS_cx FUEL) 8) 0 26 (sub laws_heldPieceS_c [1, 0, 1, 0, 0])) laws_heldPieceS_l0_cut K n (laws_heldPieceS_l0_s a0 x1 x5) : Option (shDen laws_heldPieceS_sh)) = laws_heldPieceS_l0_L (fun x1 => K (.exit 0) (laws_heldPieceS_l0_o0 x1)) (K .ret (laws_heldPieceS_l0_o)) a0 n x1 x5 := by
 intro n
 induction n with
 | zero => intros; rfl
 | succ n ih =>
  intro x1 x5
  exact (laws_heldPieceS_l0_round FUEL K n a0 x1 x5).trans (condC ((laws_heldPieceS_l1_L_eq _ a0 x5 FUEL x1 (0 : Int)).trans (laws_heldPieceS_l1_congr _ _ _ _ a0 x5 FUEL x1 (0 : Int) (fun _ => (laws_heldPieceS_l1_ret FUEL K n ).trans (rfl)) (fun x1 => (laws_heldPieceS_l1_exit2 FUEL K n a0 x5 x1).trans (condC (condC (rfl) (ih (IntKind.wrap .i64 (x1 + (1 : Int))) (IntKind.wrap .i64 (x5 + (1 : Int))))) (rfl))))) (rfl))

theorem laws_heldPieceS_start (k : Nat) (a0 : (List ((List Int) × (Int × Unit)))) (a1 : Int) : fnK (laws_heldPieceS_cx k) 8 26 laws_heldPieceS_i laws_heldPieceS_sh [.pv (.slice (.pair (.arr 32 (.int .u8)) (.pair (.int .i64) .unit))) a0, .pv (.int .i64) a1] =
 ((loopK (laws_heldPieceS_cx k) 0 (execK (laws_heldPieceS_cx k) (callK (laws_heldPieceS_cx k) 8) 0 26 (sub laws_heldPieceS_c [1, 0, 1, 0, 0])) laws_heldPieceS_l0_cut (blkK 0 (seqK (execK (laws_heldPieceS_cx k) (callK (laws_heldPieceS_cx k) 8) 0 26 (sub laws_heldPieceS_c [1, 1])) (finK (laws_heldPieceS_cx k) laws_heldPieceS_i laws_heldPieceS_sh))) k (laws_heldPieceS_l0_s a0 a1 (0 : Int))) : Option (shDen laws_heldPieceS_sh)) := by kernel_rfl

theorem laws_heldPieceS_run (a0 : (List ((List Int) × (Int × Unit)))) (a1 : Int) : fnK (laws_heldPieceS_cx FUEL) 8 26 laws_heldPieceS_i laws_heldPieceS_sh [.pv (.slice (.pair (.arr 32 (.int .u8)) (.pair (.int .i64) .unit))) a0, .pv (.int .i64) a1] = laws_heldPieceS_r a0 a1 :=
 (laws_heldPieceS_start FUEL a0 a1).trans ((laws_heldPieceS_l0_L_eq _ a0 FUEL a1 (0 : Int)).trans (laws_heldPieceS_l0_congr _ _ _ _ a0 FUEL a1 (0 : Int) (fun x1 => (laws_heldPieceS_l0_exit0 FUEL  x1).trans (rfl)) (fun _ => (laws_heldPieceS_l0_ret FUEL  ).trans (rfl))))

noncomputable def laws_heldPieceS_con : Con := { ps := (.pair (.slice (.pair (.arr 32 (.int .u8)) (.pair (.int .i64) .unit))) (.pair (.int .i64) .unit)), sh := laws_heldPieceS_sh, raw := fun x => laws_heldPieceS_r x.1 x.2.1 }
theorem laws_heldPieceS_conOk : ConOk Try.prog 26 laws_heldPieceS_con := con_of_fn (laws_heldPieceS_tabs FUEL) (depth := 8) laws_heldPieceS_ok fun x y h => (laws_heldPieceS_run x.1 x.2.1).trans h

noncomputable def laws_FnExactRecipeOf_inls : List (Nat × Inl) := []
noncomputable def laws_FnExactRecipeOf_cons : List (Nat × Con) := [(11, laws_toByteS_con), (15, laws_eqByteS_con), (21, spec_RecipeOf_con), (22, laws_toCutRule_con), (23, impl_RecipeOf_con), (24, laws_eqPieceS_con), (26, laws_heldPieceS_con)]
noncomputable def laws_FnExactRecipeOf_taks : List (Nat × ConT) := []
noncomputable def laws_FnExactRecipeOf_inps : List (Nat × ConI) := [(17, laws_markByteS_inp), (25, laws_markPieceS_inp)]
noncomputable def laws_FnExactRecipeOf_cuts : List (Nat × List (Nat × Cut)) := []
noncomputable def laws_FnExactRecipeOf_cx (k : Nat) : Cx := mkCx tys tbytes telem nozero (Ai.look laws_FnExactRecipeOf_inls) (Ai.look laws_FnExactRecipeOf_cons) (Ai.look laws_FnExactRecipeOf_taks) (Ai.look laws_FnExactRecipeOf_inps) (fun f id => match Ai.look laws_FnExactRecipeOf_cuts f with | some l => Ai.look l id | none => none) k []
theorem laws_FnExactRecipeOf_tabs (k : Nat) : TabsOk Try.prog (laws_FnExactRecipeOf_cx k) := ⟨tab_mk tabs_ok _ _ _ _ _ _ _, look_all (Q := ConOk Try.prog) _ ⟨laws_toByteS_conOk, laws_eqByteS_conOk, spec_RecipeOf_conOk, laws_toCutRule_conOk, impl_RecipeOf_conOk, laws_eqPieceS_conOk, laws_heldPieceS_conOk, trivial⟩, look_all (Q := TakOk Try.prog) _ trivial, look_all (Q := InpOk Try.prog) _ ⟨laws_markByteS_inpOk, laws_markPieceS_inpOk, trivial⟩, look_all (Q := InlOk Try.prog) _ trivial, mixed_ok⟩
abbrev laws_FnExactRecipeOf_sh : List Sh := [.pl .bool]
noncomputable def laws_FnExactRecipeOf_r (a0 : (Int × (Int × (Int × Unit)))) (a1 : (List Int)) : Option (shDen laws_FnExactRecipeOf_sh) :=
 (cond (decide ((1048576 : Int) < (a1.length : Int)))
 (some true)
 (bindO (laws_toCutRule_r a0) fun (b1 : (Int × (Int × (Int × Unit)))) => (bindO (laws_toByteS_r a1) fun (b2 : (List Int)) => (bindO (spec_RecipeOf_r b1 b2) fun (b3 : ((List ((List Int) × (Int × Unit))) × Int)) => (bindO (laws_toByteS_r a1) fun (b4 : (List Int)) => (bindO (laws_toCutRule_r a0) fun (b5 : (Int × (Int × (Int × Unit)))) => (bindO (impl_RecipeOf_r b5 b4) fun (b6 : ((List ((List Int) × (Int × Unit))) × Int)) => (bindO (laws_eqPieceS_r b6.1 b3.1) fun (b7 : Bool) => (cond (!b7)
 (some false)
 (cond (!(decide (b6.2 = b3.2)))
 (some false)
 (bindO (laws_toByteS_r a1) fun (b8 : (List Int)) => (bindO (laws_eqByteS_r b4 b8) fun (b9 : Bool) => (cond (!b9)
 (some false)
 (bindO (laws_markByteS_r b4 (1 : Int)) fun (b10 : ((List Int) × Int)) => (cond (decide (b10.2 < (0 : Int)))
 (some false)
 (bindO (laws_eqPieceS_r b6.1 b3.1) fun (b11 : Bool) => (cond (!b11)
 (some false)
 (cond (!(decide (b6.2 = b3.2)))
 (some false)
 (bindO (laws_markPieceS_r b6.1 (1 : Int)) fun (b12 : ((List ((List Int) × (Int × Unit))) × Int)) => (bindO (laws_heldPieceS_r b12.1 (1 : Int)) fun (b13 : Int) => (cond (decide (b13 < (0 : Int)))
 (some false)
 (cond (!(decide (b13 = b12.2)))
 (some false)
 (bindO (laws_toCutRule_r a0) fun (b14 : (Int × (Int × (Int × Unit)))) => (bindO (laws_toByteS_r a1) fun (b15 : (List Int)) => (bindO (impl_RecipeOf_r b14 b15) fun (b16 : ((List ((List Int) × (Int × Unit))) × Int)) => (bindO (laws_eqPieceS_r b16.1 b3.1) fun (b17 : Bool) => (cond (!b17)
 (some false)
 (cond (!(decide (b16.2 = b3.2)))
 (some false)
 (bindO (laws_heldPieceS_r b12.1 (1 : Int)) fun (b18 : Int) => (cond (decide (b18 < (0 : Int)))
 (some false)
 (cond (!(decide (b18 = b12.2)))
 (some false)
 (some true))))))))))))))))))))))))))))))))
theorem laws_FnExactRecipeOf_start (k : Nat) (a0 : (Int × (Int × (Int × Unit)))) (a1 : (List Int)) : fnK (laws_FnExactRecipeOf_cx k) 8 4 laws_FnExactRecipeOf_i laws_FnExactRecipeOf_sh [.pv (.pair (.int .i64) (.pair (.int .i64) (.pair (.int .i64) .unit))) a0, .pv (.slice (.int .u8)) a1] =
 ((cond (decide ((1048576 : Int) < (a1.length : Int)))
 (some true)
 (bindO (laws_toCutRule_r a0) fun (b1 : (Int × (Int × (Int × Unit)))) => (bindO (laws_toByteS_r a1) fun (b2 : (List Int)) => (bindO (spec_RecipeOf_r b1 b2) fun (b3 : ((List ((List Int) × (Int × Unit))) × Int)) => (bindO (laws_toByteS_r a1) fun (b4 : (List Int)) => (bindO (laws_toCutRule_r a0) fun (b5 : (Int × (Int × (Int × Unit)))) => (bindO (impl_RecipeOf_r b5 b4) fun (b6 : ((List ((List Int) × (Int × Unit))) × Int)) => (bindO (laws_eqPieceS_r b6.1 b3.1) fun (b7 : Bool) => (cond (!b7)
 (some false)
 (cond (!(decide (b6.2 = b3.2)))
 (some false)
 (bindO (laws_toByteS_r a1) fun (b8 : (List Int)) => (bindO (laws_eqByteS_r b4 b8) fun (b9 : Bool) => (cond (!b9)
 (some false)
 (bindO (laws_markByteS_r b4 (1 : Int)) fun (b10 : ((List Int) × Int)) => (cond (decide (b10.2 < (0 : Int)))
 (some false)
 (bindO (laws_eqPieceS_r b6.1 b3.1) fun (b11 : Bool) => (cond (!b11)
 (some false)
 (cond (!(decide (b6.2 = b3.2)))
 (some false)
 (bindO (laws_markPieceS_r b6.1 (1 : Int)) fun (b12 : ((List ((List Int) × (Int × Unit))) × Int)) => (bindO (laws_heldPieceS_r b12.1 (1 : Int)) fun (b13 : Int) => (cond (decide (b13 < (0 : Int)))
 (some false)
 (cond (!(decide (b13 = b12.2)))
 (some false)
 (bindO (laws_toCutRule_r a0) fun (b14 : (Int × (Int × (Int × Unit)))) => (bindO (laws_toByteS_r a1) fun (b15 : (List Int)) => (bindO (impl_RecipeOf_r b14 b15) fun (b16 : ((List ((List Int) × (Int × Unit))) × Int)) => (bindO (laws_eqPieceS_r b16.1 b3.1) fun (b17 : Bool) => (cond (!b17)
 (some false)
 (cond (!(decide (b16.2 = b3.2)))
 (some false)
 (bindO (laws_heldPieceS_r b12.1 (1 : Int)) fun (b18 : Int) => (cond (decide (b18 < (0 : Int)))
 (some false)
 (cond (!(decide (b18 = b12.2)))
 (some false)
 (some true)))))))))))))))))))))))))))))))) : Option (shDen laws_FnExactRecipeOf_sh)) := by kernel_rfl

theorem laws_FnExactRecipeOf_run (a0 : (Int × (Int × (Int × Unit)))) (a1 : (List Int)) : fnK (laws_FnExactRecipeOf_cx FUEL) 8 4 laws_FnExactRecipeOf_i laws_FnExactRecipeOf_sh [.pv (.pair (.int .i64) (.pair (.int .i64) (.pair (.int .i64) .unit))) a0, .pv (.slice (.int .u8)) a1] = laws_FnExactRecipeOf_r a0 a1 :=
 (laws_FnExactRecipeOf_start FUEL a0 a1).trans (rfl)

noncomputable def laws_FnExactRecipeOf_con : Con := { ps := (.pair (.pair (.int .i64) (.pair (.int .i64) (.pair (.int .i64) .unit))) (.pair (.slice (.int .u8)) .unit)), sh := laws_FnExactRecipeOf_sh, raw := fun x => laws_FnExactRecipeOf_r x.1 x.2.1 }
theorem laws_FnExactRecipeOf_conOk : ConOk Try.prog 4 laws_FnExactRecipeOf_con := con_of_fn (laws_FnExactRecipeOf_tabs FUEL) (depth := 8) laws_FnExactRecipeOf_ok fun x y h => (laws_FnExactRecipeOf_run x.1 x.2.1).trans h

end Go.Ai.G
