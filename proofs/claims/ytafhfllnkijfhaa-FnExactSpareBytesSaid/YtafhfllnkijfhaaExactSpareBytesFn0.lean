/- Made by a program of this work out of the program: tables and plain functions, with the proof that each Go function does what its plain function says. No conditions. -/
import Derived.Test.YtafhfllnkijfhaaExactSpareBytesTab
namespace Go.Ai.G
open Go.Proofs
open Go.Ai
set_option linter.unusedVariables false
set_option linter.unusedSimpArgs false
set_option maxRecDepth 100000

noncomputable def f9_cx (k : Nat) : Cx := mkC [] [] [] [] [] k [] false
theorem f9_tabs (k : Nat) : TabsOk Try.prog (f9_cx k) := mkC_ok trivial trivial trivial trivial
abbrev laws_toCutRule_sh : List Sh := [.pl K0]
noncomputable def laws_toCutRule_r (a0 : T0) : Option (shDen laws_toCutRule_sh) :=
 (some (a0.1, (a0.2.1, (a0.2.2.1, ()))))
theorem f9_run (a0 : T0) : fnK (f9_cx FUEL) 8 9 f9_i laws_toCutRule_sh [.pv K0 a0] = laws_toCutRule_r a0 := by kernel_rfl

noncomputable def f9_con : Con := { ps := (.pair K0 .unit), sh := laws_toCutRule_sh, raw := fun x => laws_toCutRule_r x.1 }
theorem f9_conOk : ConOk Try.prog 9 f9_con := con_of_fn (f9_tabs FUEL) (depth := 8) f9_ok fun x y h => (f9_run x.1).trans h

noncomputable def f10_l0_cut : Cut := { keep := [0, 3, 4], stk := [], ids := [70], own := [], outs := [(1, [3], [70])] }
noncomputable def f10_cx (k : Nat) : Cx := mkC [] [] [] [] [(10, [(0, f10_l0_cut)])] k [] false
theorem f10_tabs (k : Nat) : TabsOk Try.prog (f10_cx k) := mkC_ok trivial trivial trivial trivial
abbrev laws_toByteS_sh : List Sh := [.own 5 (.int .u8)]
noncomputable def f10_l0_s (a0 : (List Int)) (x4 : Int) (z70 : (List Int)) : St := { env := (.pv K9 a0 :: .dead :: .dead :: .sl 70 (.int .u8) :: .pv (.int .i64) x4 :: (dd 17 [])), stk := [], heap := [(70, .arr 5 (.int .u8) z70)] }
noncomputable def f10_l0_o0 (z70 : (List Int)) : St := { env := (dd 3 (.sl 70 (.int .u8) :: (dd 18 []))), stk := [], heap := [(70, .arr 5 (.int .u8) z70)] }
noncomputable def laws_toByteS_l0_b (rec : Int → (List Int) → Option (shDen laws_toByteS_sh)) (ke0 : (List Int) → Option (shDen laws_toByteS_sh)) (a0 : (List Int)) (x4 : Int) (z70 : (List Int)) : Option (shDen laws_toByteS_sh) :=
 (cond (decide (x4 < (a0.length : Int)))
 (cond ((decide ((0 : Int) ≤ x4)) && (decide (x4 < (a0.length : Int))))
 (cond ((decide ((0 : Int) ≤ x4)) && (decide (x4 < (z70.length : Int))))
 (rec (IntKind.wrap .i64 (x4 + (1 : Int))) (z70.set (x4.toNat) (a0.getD (x4.toNat) (0 : Int))))
 none)
 none)
 (ke0 z70))
noncomputable def laws_toByteS_l0_L (ke0 : (List Int) → Option (shDen laws_toByteS_sh)) (a0 : (List Int)) : Nat → Int → (List Int) → Option (shDen laws_toByteS_sh)
 | 0 => fun _ _ => none
 | n + 1 => laws_toByteS_l0_b (laws_toByteS_l0_L ke0 a0 n) ke0 a0
noncomputable def laws_toByteS_r (a0 : (List Int)) : Option (shDen laws_toByteS_sh) :=
 (cond (((decide ((0 : Int) ≤ (a0.length : Int))) && (decide (((a0.length : Int) * (1 : Int)) ≤ (140737488355328 : Int)))) && (decide ((a0.length : Int) ≤ (9223372036854775807 : Int))))
 (laws_toByteS_l0_L (fun z70 => (some z70)) a0 FUEL (0 : Int) (List.replicate ((a0.length : Int).toNat) (0 : Int)))
 none)
noncomputable def f10_l0_p (k : Nat) (K : Ex → St → Option (shDen laws_toByteS_sh)) (n : Nat) (a0 : (List Int)) (x4 : Int) (z70 : (List Int)) : Option (shDen laws_toByteS_sh) := loopK (f10_cx k) 0 (execK (f10_cx k) (callK (f10_cx k) 8) 0 10 (sub f10_c [1, 1, 0, 1, 0, 0])) f10_l0_cut K n (f10_l0_s a0 x4 z70)

theorem f10_l0_exit0 (k : Nat)  (z70 : (List Int)) : ((blkK 0 (seqK (execK (f10_cx k) (callK (f10_cx k) 8) 0 10 (sub f10_c [1, 1, 1])) (finK (f10_cx k) f10_i laws_toByteS_sh))) (.exit 0) (f10_l0_o0 z70) : Option (shDen laws_toByteS_sh)) =
 ((some z70) : Option (shDen laws_toByteS_sh)) := by kernel_rfl

theorem f10_l0_round (k : Nat) (K : Ex → St → Option (shDen laws_toByteS_sh)) (n : Nat) (a0 : (List Int)) (x4 : Int) (z70 : (List Int)) : (f10_l0_p k K (n + 1) a0 x4 z70 : Option (shDen laws_toByteS_sh)) = laws_toByteS_l0_b ((fun x4 z70 => f10_l0_p k K n a0 x4 z70)) (fun z70 => K (.exit 0) (f10_l0_o0 z70)) a0 x4 z70 := by kernel_rfl

theorem f10_l0_L_eq (K : Ex → St → Option (shDen laws_toByteS_sh)) (a0 : (List Int)) : ∀ (n : Nat) (x4 : Int) (z70 : (List Int)), (f10_l0_p FUEL K n a0 x4 z70 : Option (shDen laws_toByteS_sh)) = laws_toByteS_l0_L (fun z70 => K (.exit 0) (f10_l0_o0 z70)) a0 n x4 z70 := by
 intro n
 induction n with
 | zero => intros; rfl
 | succ n ih =>
  intro x4 z70
  exact (f10_l0_round FUEL K n a0 x4 z70).trans (congrArg (fun f => laws_toByteS_l0_b f (fun z70 => K (.exit 0) (f10_l0_o0 z70)) a0 x4 z70) (funext fun x4 => funext fun z70 => ih x4 z70))

theorem f10_start (k : Nat) (a0 : (List Int)) : fnK (f10_cx k) 8 10 f10_i laws_toByteS_sh [.pv K9 a0] =
 ((cond (((decide ((0 : Int) ≤ (a0.length : Int))) && (decide (((a0.length : Int) * (1 : Int)) ≤ (140737488355328 : Int)))) && (decide ((a0.length : Int) ≤ (9223372036854775807 : Int))))
 (loopK (f10_cx k) 0 (execK (f10_cx k) (callK (f10_cx k) 8) 0 10 (sub f10_c [1, 1, 0, 1, 0, 0])) f10_l0_cut (blkK 0 (seqK (execK (f10_cx k) (callK (f10_cx k) 8) 0 10 (sub f10_c [1, 1, 1])) (finK (f10_cx k) f10_i laws_toByteS_sh))) k (f10_l0_s a0 (0 : Int) (List.replicate ((a0.length : Int).toNat) (0 : Int))))
 none) : Option (shDen laws_toByteS_sh)) := by kernel_rfl

theorem f10_run (a0 : (List Int)) : fnK (f10_cx FUEL) 8 10 f10_i laws_toByteS_sh [.pv K9 a0] = laws_toByteS_r a0 :=
 (f10_start FUEL a0).trans (condC ((f10_l0_L_eq _ a0 FUEL (0 : Int) (List.replicate ((a0.length : Int).toNat) (0 : Int))).trans (congrArg (fun e0 => laws_toByteS_l0_L e0 a0 FUEL (0 : Int) (List.replicate ((a0.length : Int).toNat) (0 : Int))) (funext fun z70 => (f10_l0_exit0 FUEL  z70).trans (rfl)))) (rfl))

noncomputable def f10_con : Con := { ps := K4, sh := laws_toByteS_sh, raw := fun x => laws_toByteS_r x.1 }
theorem f10_conOk : ConOk Try.prog 10 f10_con := con_of_fn (f10_tabs FUEL) (depth := 8) f10_ok fun x y h => (f10_run x.1).trans h

noncomputable def f51_cx (k : Nat) : Cx := mkC [] [] [] [] [] k [] false
theorem f51_tabs (k : Nat) : TabsOk Try.prog (f51_cx k) := mkC_ok trivial trivial trivial trivial
abbrev spec_l00In_sh : List Sh := [.pl .bool]
noncomputable def spec_l00In_r (a0 : Int) (a1 : Int) (a2 : Int) : Option (shDen spec_l00In_sh) :=
 (cond (decide (a1 ≤ a0))
 (some (decide (a0 ≤ a2)))
 (some false))
theorem f51_run (a0 : Int) (a1 : Int) (a2 : Int) : fnK (f51_cx FUEL) 8 51 f51_i spec_l00In_sh [.pv (.int .i64) a0, .pv (.int .i64) a1, .pv (.int .i64) a2] = spec_l00In_r a0 a1 a2 := by kernel_rfl

noncomputable def f51_con : Con := { ps := K0, sh := spec_l00In_sh, raw := fun x => spec_l00In_r x.1 x.2.1 x.2.2.1 }
theorem f51_conOk : ConOk Try.prog 51 f51_con := con_of_fn (f51_tabs FUEL) (depth := 8) f51_ok fun x y h => (f51_run x.1 x.2.1 x.2.2.1).trans h

noncomputable def f45_cx (k : Nat) : Cx := mkC [] [(51, f51_con)] [] [] [] k [] false
theorem f45_tabs (k : Nat) : TabsOk Try.prog (f45_cx k) := mkC_ok ⟨f51_conOk, trivial⟩ trivial trivial trivial
abbrev spec_l02Ok_sh : List Sh := [.pl .bool]
noncomputable def spec_l02Ok_r (a0 : T0) : Option (shDen spec_l02Ok_sh) :=
 (bindO (spec_l00In_r a0.1 (1 : Int) (64 : Int)) fun (b1 : Bool) => (cond b1
 (bindO (spec_l00In_r a0.2.1 a0.1 (256 : Int)) fun (b2 : Bool) => (cond b2
 (bindO (spec_l00In_r a0.2.2.1 (0 : Int) (8 : Int)) fun (b3 : Bool) => (some b3))
 (some false)))
 (some false)))
theorem f45_run (a0 : T0) : fnK (f45_cx FUEL) 8 45 f45_i spec_l02Ok_sh [.pv (.ref K0) a0] = spec_l02Ok_r a0 := by kernel_rfl

noncomputable def f45_con : Con := { ps := (.pair (.ref K0) .unit), sh := spec_l02Ok_sh, raw := fun x => spec_l02Ok_r x.1 }
theorem f45_conOk : ConOk Try.prog 45 f45_con := con_of_fn (f45_tabs FUEL) (depth := 8) f45_ok fun x y h => (f45_run x.1).trans h

noncomputable def f33_cx (k : Nat) : Cx := mkC [] [(45, f45_con)] [] [] [] k [] false
theorem f33_tabs (k : Nat) : TabsOk Try.prog (f33_cx k) := mkC_ok ⟨f45_conOk, trivial⟩ trivial trivial trivial
abbrev spec_l02Given_sh : List Sh := [.pl (.int .i64)]
noncomputable def spec_l02Given_r (a0 : T0) (a1 : (List Int)) : Option (shDen spec_l02Given_sh) :=
 (bindO (spec_l02Ok_r a0) fun (b1 : Bool) => (cond (!b1)
 (some (1 : Int))
 (cond (decide ((4096 : Int) < (a1.length : Int)))
 (some (3 : Int))
 (some (0 : Int)))))
theorem f33_run (a0 : T0) (a1 : (List Int)) : fnK (f33_cx FUEL) 8 33 f33_i spec_l02Given_sh [.pv (.ref K0) a0, .pv K9 a1] = spec_l02Given_r a0 a1 := by kernel_rfl

noncomputable def f33_con : Con := { ps := (.pair (.ref K0) K4), sh := spec_l02Given_sh, raw := fun x => spec_l02Given_r x.1 x.2.1 }
theorem f33_conOk : ConOk Try.prog 33 f33_con := con_of_fn (f33_tabs FUEL) (depth := 8) f33_ok fun x y h => (f33_run x.1 x.2.1).trans h

noncomputable def f62_l0_cut : Cut := { keep := [0, 2, 3, 4], stk := [], ids := [20, 30], own := [], outs := [(1, [2, 3], [20, 30])] }
noncomputable def f62_cx (k : Nat) : Cx := mkC [] [] [] [] [(62, [(0, f62_l0_cut)])] k [] false
theorem f62_tabs (k : Nat) : TabsOk Try.prog (f62_cx k) := mkC_ok trivial trivial trivial trivial
abbrev spec_l01Start_sh : List Sh := [.pl (.arr 8 (.int .u32))]
noncomputable def f62_l0_s (a0 : Int) (x4 : Int) (y30 : (List Int)) : St := { env := (.pv (.int .u8) a0 :: .dead :: .ptr 20 (.arr 8 (.int .u32)) [] :: .ptr 30 (.arr 8 (.int .u32)) [] :: .pv (.int .i64) x4 :: (dd 15 [])), stk := [], heap := [(20, .var (.arr 8 (.int .u32)) (.pv (.arr 8 (.int .u32)) (List.replicate 8 (0 : Int)))), (30, .var (.arr 8 (.int .u32)) (.pv (.arr 8 (.int .u32)) y30))] }
noncomputable def f62_l0_o0 (y30 : (List Int)) : St := { env := (.dead :: .dead :: .ptr 20 (.arr 8 (.int .u32)) [] :: .ptr 30 (.arr 8 (.int .u32)) [] :: (dd 16 [])), stk := [], heap := [(20, .var (.arr 8 (.int .u32)) (.pv (.arr 8 (.int .u32)) (List.replicate 8 (0 : Int)))), (30, .var (.arr 8 (.int .u32)) (.pv (.arr 8 (.int .u32)) y30))] }
noncomputable def spec_l01Start_l0_b (rec : Int → (List Int) → Option (shDen spec_l01Start_sh)) (ke0 : (List Int) → Option (shDen spec_l01Start_sh)) (a0 : Int) (x4 : Int) (y30 : (List Int)) : Option (shDen spec_l01Start_sh) :=
 (cond (decide (x4 < (8 : Int)))
 (cond ((decide ((0 : Int) ≤ x4)) && (decide (x4 < (8 : Int))))
 (rec (IntKind.wrap .i64 (x4 + (1 : Int))) (y30.set (x4.toNat) (IntKind.wrap .u32 ((IntKind.wrap .u32 ((16777619 : Int) * (IntKind.wrap .u32 (IntKind.wrap .i64 (x4 + (1 : Int)))))) + (IntKind.wrap .u32 a0)))))
 none)
 (ke0 y30))
noncomputable def spec_l01Start_l0_L (ke0 : (List Int) → Option (shDen spec_l01Start_sh)) (a0 : Int) : Nat → Int → (List Int) → Option (shDen spec_l01Start_sh)
 | 0 => fun _ _ => none
 | n + 1 => spec_l01Start_l0_b (spec_l01Start_l0_L ke0 a0 n) ke0 a0
noncomputable def spec_l01Start_r (a0 : Int) : Option (shDen spec_l01Start_sh) :=
 (spec_l01Start_l0_L (fun y30 => (some y30)) a0 FUEL (0 : Int) (List.replicate 8 (0 : Int)))
noncomputable def f62_l0_p (k : Nat) (K : Ex → St → Option (shDen spec_l01Start_sh)) (n : Nat) (a0 : Int) (x4 : Int) (y30 : (List Int)) : Option (shDen spec_l01Start_sh) := loopK (f62_cx k) 0 (execK (f62_cx k) (callK (f62_cx k) 8) 0 62 (sub f62_c [1, 1, 0, 1, 0, 0])) f62_l0_cut K n (f62_l0_s a0 x4 y30)

theorem f62_l0_exit0 (k : Nat)  (y30 : (List Int)) : ((blkK 0 (seqK (execK (f62_cx k) (callK (f62_cx k) 8) 0 62 (sub f62_c [1, 1, 1])) (finK (f62_cx k) f62_i spec_l01Start_sh))) (.exit 0) (f62_l0_o0 y30) : Option (shDen spec_l01Start_sh)) =
 ((some y30) : Option (shDen spec_l01Start_sh)) := by kernel_rfl

theorem f62_l0_round (k : Nat) (K : Ex → St → Option (shDen spec_l01Start_sh)) (n : Nat) (a0 : Int) (x4 : Int) (y30 : (List Int)) : (f62_l0_p k K (n + 1) a0 x4 y30 : Option (shDen spec_l01Start_sh)) = spec_l01Start_l0_b ((fun x4 y30 => f62_l0_p k K n a0 x4 y30)) (fun y30 => K (.exit 0) (f62_l0_o0 y30)) a0 x4 y30 := by kernel_rfl

theorem f62_l0_L_eq (K : Ex → St → Option (shDen spec_l01Start_sh)) (a0 : Int) : ∀ (n : Nat) (x4 : Int) (y30 : (List Int)), (f62_l0_p FUEL K n a0 x4 y30 : Option (shDen spec_l01Start_sh)) = spec_l01Start_l0_L (fun y30 => K (.exit 0) (f62_l0_o0 y30)) a0 n x4 y30 := by
 intro n
 induction n with
 | zero => intros; rfl
 | succ n ih =>
  intro x4 y30
  exact (f62_l0_round FUEL K n a0 x4 y30).trans (congrArg (fun f => spec_l01Start_l0_b f (fun y30 => K (.exit 0) (f62_l0_o0 y30)) a0 x4 y30) (funext fun x4 => funext fun y30 => ih x4 y30))

theorem f62_start (k : Nat) (a0 : Int) : fnK (f62_cx k) 8 62 f62_i spec_l01Start_sh [.pv (.int .u8) a0] =
 ((loopK (f62_cx k) 0 (execK (f62_cx k) (callK (f62_cx k) 8) 0 62 (sub f62_c [1, 1, 0, 1, 0, 0])) f62_l0_cut (blkK 0 (seqK (execK (f62_cx k) (callK (f62_cx k) 8) 0 62 (sub f62_c [1, 1, 1])) (finK (f62_cx k) f62_i spec_l01Start_sh))) k (f62_l0_s a0 (0 : Int) (List.replicate 8 (0 : Int)))) : Option (shDen spec_l01Start_sh)) := by kernel_rfl

theorem f62_run (a0 : Int) : fnK (f62_cx FUEL) 8 62 f62_i spec_l01Start_sh [.pv (.int .u8) a0] = spec_l01Start_r a0 :=
 (f62_start FUEL a0).trans ((f62_l0_L_eq _ a0 FUEL (0 : Int) (List.replicate 8 (0 : Int))).trans (congrArg (fun e0 => spec_l01Start_l0_L e0 a0 FUEL (0 : Int) (List.replicate 8 (0 : Int))) (funext fun y30 => (f62_l0_exit0 FUEL  y30).trans (rfl))))

noncomputable def f62_con : Con := { ps := K8, sh := spec_l01Start_sh, raw := fun x => spec_l01Start_r x.1 }
theorem f62_conOk : ConOk Try.prog 62 f62_con := con_of_fn (f62_tabs FUEL) (depth := 8) f62_ok fun x y h => (f62_run x.1).trans h

noncomputable def f65_cx (k : Nat) : Cx := mkC [] [] [] [] [] k [] false
theorem f65_tabs (k : Nat) : TabsOk Try.prog (f65_cx k) := mkC_ok trivial trivial trivial trivial
abbrev spec_l01Turn_sh : List Sh := [.pl (.int .u32)]
noncomputable def spec_l01Turn_r (a0 : Int) (a1 : Int) : Option (shDen spec_l01Turn_sh) :=
 (cond (decide (a1 < (0 : Int)))
 none
 (cond (decide ((IntKind.wrap .u64 ((32 : Int) - a1)) < (0 : Int)))
 none
 (some (bitI .or .u32 (shlI .u32 a0 a1) (shrI .u32 a0 (IntKind.wrap .u64 ((32 : Int) - a1)))))))
theorem f65_run (a0 : Int) (a1 : Int) : fnK (f65_cx FUEL) 8 65 f65_i spec_l01Turn_sh [.pv (.int .u32) a0, .pv (.int .u64) a1] = spec_l01Turn_r a0 a1 := by kernel_rfl

noncomputable def f65_con : Con := { ps := (.pair (.int .u32) (.pair (.int .u64) .unit)), sh := spec_l01Turn_sh, raw := fun x => spec_l01Turn_r x.1 x.2.1 }
theorem f65_conOk : ConOk Try.prog 65 f65_con := con_of_fn (f65_tabs FUEL) (depth := 8) f65_ok fun x y h => (f65_run x.1 x.2.1).trans h

noncomputable def f61_l0_cut : Cut := { keep := [2, 3, 4, 5, 6], stk := [], ids := [20, 30, 40, 50], own := [], outs := [(1, [2, 4, 5], [20, 40, 50])] }
noncomputable def f61_l1_cut : Cut := { keep := [2, 3, 4, 5, 6, 7], stk := [], ids := [20, 30, 40, 50], own := [], outs := [(3, [2, 3, 4, 5, 6], [20, 30, 40, 50])] }
noncomputable def f61_l2_cut : Cut := { keep := [2, 4, 5, 8, 9], stk := [], ids := [20, 40, 50, 80], own := [], outs := [(5, [2, 4, 8], [20, 40, 80])] }
noncomputable def f61_l3_cut : Cut := { keep := [2, 4, 5, 8, 9, 10], stk := [], ids := [20, 40, 50, 80], own := [], outs := [(7, [2, 4, 5, 8, 9], [20, 40, 50, 80])] }
noncomputable def f61_l4_cut : Cut := { keep := [2, 4, 8, 13], stk := [], ids := [20, 40, 80], own := [], outs := [(9, [4, 8], [40, 80])] }
noncomputable def f61_cx (k : Nat) : Cx := mkC [] [(65, f65_con)] [] [] [(61, [(0, f61_l0_cut), (2, f61_l1_cut), (4, f61_l2_cut), (6, f61_l3_cut), (8, f61_l4_cut)])] k [] false
theorem f61_tabs (k : Nat) : TabsOk Try.prog (f61_cx k) := mkC_ok ⟨f65_conOk, trivial⟩ trivial trivial trivial
abbrev spec_l01Mix_sh : List Sh := [.pl (.arr 8 (.int .u32))]
noncomputable def f61_l0_s (a0 : (List Int)) (a1 : (List Int)) (x6 : Int) (y50 : (List Int)) : St := { env := (.dead :: .dead :: .ptr 20 (.arr 8 (.int .u32)) [] :: .ptr 30 (.arr 32 (.int .u8)) [] :: .ptr 40 (.arr 8 (.int .u32)) [] :: .ptr 50 (.arr 8 (.int .u32)) [] :: .pv (.int .i64) x6 :: (dd 89 [])), stk := [], heap := [(20, .var (.arr 8 (.int .u32)) (.pv (.arr 8 (.int .u32)) a0)), (30, .var (.arr 32 (.int .u8)) (.pv (.arr 32 (.int .u8)) a1)), (40, .var (.arr 8 (.int .u32)) (.pv (.arr 8 (.int .u32)) (List.replicate 8 (0 : Int)))), (50, .var (.arr 8 (.int .u32)) (.pv (.arr 8 (.int .u32)) y50))] }
noncomputable def f61_l0_o0 (a0 : (List Int)) (y50 : (List Int)) : St := { env := (.dead :: .dead :: .ptr 20 (.arr 8 (.int .u32)) [] :: .dead :: .ptr 40 (.arr 8 (.int .u32)) [] :: .ptr 50 (.arr 8 (.int .u32)) [] :: (dd 90 [])), stk := [], heap := [(20, .var (.arr 8 (.int .u32)) (.pv (.arr 8 (.int .u32)) a0)), (40, .var (.arr 8 (.int .u32)) (.pv (.arr 8 (.int .u32)) (List.replicate 8 (0 : Int)))), (50, .var (.arr 8 (.int .u32)) (.pv (.arr 8 (.int .u32)) y50))] }
noncomputable def f61_l1_s (a0 : (List Int)) (a1 : (List Int)) (x6 : Int) (x7 : Int) (y50 : (List Int)) : St := { env := (.dead :: .dead :: .ptr 20 (.arr 8 (.int .u32)) [] :: .ptr 30 (.arr 32 (.int .u8)) [] :: .ptr 40 (.arr 8 (.int .u32)) [] :: .ptr 50 (.arr 8 (.int .u32)) [] :: .pv (.int .i64) x6 :: .pv (.int .i64) x7 :: (dd 88 [])), stk := [], heap := [(20, .var (.arr 8 (.int .u32)) (.pv (.arr 8 (.int .u32)) a0)), (30, .var (.arr 32 (.int .u8)) (.pv (.arr 32 (.int .u8)) a1)), (40, .var (.arr 8 (.int .u32)) (.pv (.arr 8 (.int .u32)) (List.replicate 8 (0 : Int)))), (50, .var (.arr 8 (.int .u32)) (.pv (.arr 8 (.int .u32)) y50))] }
noncomputable def f61_l1_o2 (a0 : (List Int)) (a1 : (List Int)) (x6 : Int) (y50 : (List Int)) : St := { env := (.dead :: .dead :: .ptr 20 (.arr 8 (.int .u32)) [] :: .ptr 30 (.arr 32 (.int .u8)) [] :: .ptr 40 (.arr 8 (.int .u32)) [] :: .ptr 50 (.arr 8 (.int .u32)) [] :: .pv (.int .i64) x6 :: (dd 89 [])), stk := [], heap := [(20, .var (.arr 8 (.int .u32)) (.pv (.arr 8 (.int .u32)) a0)), (30, .var (.arr 32 (.int .u8)) (.pv (.arr 32 (.int .u8)) a1)), (40, .var (.arr 8 (.int .u32)) (.pv (.arr 8 (.int .u32)) (List.replicate 8 (0 : Int)))), (50, .var (.arr 8 (.int .u32)) (.pv (.arr 8 (.int .u32)) y50))] }
noncomputable def f61_l2_s (a0 : (List Int)) (y50 : (List Int)) (x9 : Int) (y80 : (List Int)) : St := { env := (.dead :: .dead :: .ptr 20 (.arr 8 (.int .u32)) [] :: .dead :: .ptr 40 (.arr 8 (.int .u32)) [] :: .ptr 50 (.arr 8 (.int .u32)) [] :: .dead :: .dead :: .ptr 80 (.arr 8 (.int .u32)) [] :: .pv (.int .i64) x9 :: (dd 86 [])), stk := [], heap := [(20, .var (.arr 8 (.int .u32)) (.pv (.arr 8 (.int .u32)) a0)), (40, .var (.arr 8 (.int .u32)) (.pv (.arr 8 (.int .u32)) (List.replicate 8 (0 : Int)))), (50, .var (.arr 8 (.int .u32)) (.pv (.arr 8 (.int .u32)) y50)), (80, .var (.arr 8 (.int .u32)) (.pv (.arr 8 (.int .u32)) y80))] }
noncomputable def f61_l2_o4 (a0 : (List Int)) (y80 : (List Int)) : St := { env := (.dead :: .dead :: .ptr 20 (.arr 8 (.int .u32)) [] :: .dead :: .ptr 40 (.arr 8 (.int .u32)) [] :: (dd 3 (.ptr 80 (.arr 8 (.int .u32)) [] :: (dd 87 [])))), stk := [], heap := [(20, .var (.arr 8 (.int .u32)) (.pv (.arr 8 (.int .u32)) a0)), (40, .var (.arr 8 (.int .u32)) (.pv (.arr 8 (.int .u32)) (List.replicate 8 (0 : Int)))), (80, .var (.arr 8 (.int .u32)) (.pv (.arr 8 (.int .u32)) y80))] }
noncomputable def f61_l3_s (a0 : (List Int)) (y50 : (List Int)) (x9 : Int) (x10 : Int) (y80 : (List Int)) : St := { env := (.dead :: .dead :: .ptr 20 (.arr 8 (.int .u32)) [] :: .dead :: .ptr 40 (.arr 8 (.int .u32)) [] :: .ptr 50 (.arr 8 (.int .u32)) [] :: .dead :: .dead :: .ptr 80 (.arr 8 (.int .u32)) [] :: .pv (.int .i64) x9 :: .pv (.int .i64) x10 :: (dd 85 [])), stk := [], heap := [(20, .var (.arr 8 (.int .u32)) (.pv (.arr 8 (.int .u32)) a0)), (40, .var (.arr 8 (.int .u32)) (.pv (.arr 8 (.int .u32)) (List.replicate 8 (0 : Int)))), (50, .var (.arr 8 (.int .u32)) (.pv (.arr 8 (.int .u32)) y50)), (80, .var (.arr 8 (.int .u32)) (.pv (.arr 8 (.int .u32)) y80))] }
noncomputable def f61_l3_o6 (a0 : (List Int)) (y50 : (List Int)) (x9 : Int) (y80 : (List Int)) : St := { env := (.dead :: .dead :: .ptr 20 (.arr 8 (.int .u32)) [] :: .dead :: .ptr 40 (.arr 8 (.int .u32)) [] :: .ptr 50 (.arr 8 (.int .u32)) [] :: .dead :: .dead :: .ptr 80 (.arr 8 (.int .u32)) [] :: .pv (.int .i64) x9 :: (dd 86 [])), stk := [], heap := [(20, .var (.arr 8 (.int .u32)) (.pv (.arr 8 (.int .u32)) a0)), (40, .var (.arr 8 (.int .u32)) (.pv (.arr 8 (.int .u32)) (List.replicate 8 (0 : Int)))), (50, .var (.arr 8 (.int .u32)) (.pv (.arr 8 (.int .u32)) y50)), (80, .var (.arr 8 (.int .u32)) (.pv (.arr 8 (.int .u32)) y80))] }
noncomputable def f61_l4_s (a0 : (List Int)) (y80 : (List Int)) (x13 : Int) : St := { env := (.dead :: .dead :: .ptr 20 (.arr 8 (.int .u32)) [] :: .dead :: .ptr 40 (.arr 8 (.int .u32)) [] :: (dd 3 (.ptr 80 (.arr 8 (.int .u32)) [] :: (dd 4 (.pv (.int .i64) x13 :: (dd 82 [])))))), stk := [], heap := [(20, .var (.arr 8 (.int .u32)) (.pv (.arr 8 (.int .u32)) a0)), (40, .var (.arr 8 (.int .u32)) (.pv (.arr 8 (.int .u32)) (List.replicate 8 (0 : Int)))), (80, .var (.arr 8 (.int .u32)) (.pv (.arr 8 (.int .u32)) y80))] }
noncomputable def f61_l4_o8 (y80 : (List Int)) : St := { env := (dd 4 (.ptr 40 (.arr 8 (.int .u32)) [] :: (dd 3 (.ptr 80 (.arr 8 (.int .u32)) [] :: (dd 87 []))))), stk := [], heap := [(40, .var (.arr 8 (.int .u32)) (.pv (.arr 8 (.int .u32)) (List.replicate 8 (0 : Int)))), (80, .var (.arr 8 (.int .u32)) (.pv (.arr 8 (.int .u32)) y80))] }
noncomputable def spec_l01Mix_l4_b (rec : (List Int) → Int → Option (shDen spec_l01Mix_sh)) (ke8 : (List Int) → Option (shDen spec_l01Mix_sh)) (a0 : (List Int)) (y80 : (List Int)) (x13 : Int) : Option (shDen spec_l01Mix_sh) :=
 (cond (decide (x13 < (8 : Int)))
 (cond ((decide ((0 : Int) ≤ x13)) && (decide (x13 < (8 : Int))))
 (cond ((decide ((0 : Int) ≤ x13)) && (decide (x13 < (8 : Int))))
 (cond ((decide ((0 : Int) ≤ x13)) && (decide (x13 < (8 : Int))))
 (rec (y80.set (x13.toNat) (bitI .xor .u32 (y80.getD (x13.toNat) (0 : Int)) (a0.getD (x13.toNat) (0 : Int)))) (IntKind.wrap .i64 (x13 + (1 : Int))))
 none)
 none)
 none)
 (ke8 y80))
noncomputable def spec_l01Mix_l4_L (ke8 : (List Int) → Option (shDen spec_l01Mix_sh)) (a0 : (List Int)) : Nat → (List Int) → Int → Option (shDen spec_l01Mix_sh)
 | 0 => fun _ _ => none
 | n + 1 => spec_l01Mix_l4_b (spec_l01Mix_l4_L ke8 a0 n) ke8 a0
noncomputable def spec_l01Mix_l3_b (rec : Int → (List Int) → Option (shDen spec_l01Mix_sh)) (ke6 : (List Int) → Option (shDen spec_l01Mix_sh)) (a0 : (List Int)) (y50 : (List Int)) (x9 : Int) (x10 : Int) (y80 : (List Int)) : Option (shDen spec_l01Mix_sh) :=
 (cond (decide (x10 < (8 : Int)))
 (cond ((decide ((0 : Int) ≤ x10)) && (decide (x10 < (8 : Int))))
 (cond ((decide ((0 : Int) ≤ (Int.tmod (IntKind.wrap .i64 (x10 + (IntKind.wrap .i64 ((3 : Int) * x9)))) (8 : Int)))) && (decide ((Int.tmod (IntKind.wrap .i64 (x10 + (IntKind.wrap .i64 ((3 : Int) * x9)))) (8 : Int)) < (8 : Int))))
 (bindO (spec_l01Turn_r (IntKind.wrap .u32 ((IntKind.wrap .u32 ((y80.getD (x10.toNat) (0 : Int)) + (y50.getD ((Int.tmod (IntKind.wrap .i64 (x10 + (IntKind.wrap .i64 ((3 : Int) * x9)))) (8 : Int)).toNat) (0 : Int)))) + (IntKind.wrap .u32 ((2654435769 : Int) * (IntKind.wrap .u32 (IntKind.wrap .i64 ((IntKind.wrap .i64 ((IntKind.wrap .i64 ((8 : Int) * x9)) + x10)) + (1 : Int)))))))) (7 : Int)) fun (b7 : Int) => (cond ((decide ((0 : Int) ≤ (Int.tmod (IntKind.wrap .i64 (x10 + (1 : Int))) (8 : Int)))) && (decide ((Int.tmod (IntKind.wrap .i64 (x10 + (1 : Int))) (8 : Int)) < (8 : Int))))
 (cond ((decide ((0 : Int) ≤ (Int.tmod (IntKind.wrap .i64 (x10 + (5 : Int))) (8 : Int)))) && (decide ((Int.tmod (IntKind.wrap .i64 (x10 + (5 : Int))) (8 : Int)) < (8 : Int))))
 (bindO (spec_l01Turn_r (y80.getD ((Int.tmod (IntKind.wrap .i64 (x10 + (5 : Int))) (8 : Int)).toNat) (0 : Int)) (13 : Int)) fun (b8 : Int) => (cond ((decide ((0 : Int) ≤ x10)) && (decide (x10 < (8 : Int))))
 (rec (IntKind.wrap .i64 (x10 + (1 : Int))) (y80.set (x10.toNat) (IntKind.wrap .u32 ((bitI .xor .u32 b7 (y80.getD ((Int.tmod (IntKind.wrap .i64 (x10 + (1 : Int))) (8 : Int)).toNat) (0 : Int))) + b8))))
 none))
 none)
 none))
 none)
 none)
 (ke6 y80))
noncomputable def spec_l01Mix_l3_L (ke6 : (List Int) → Option (shDen spec_l01Mix_sh)) (a0 : (List Int)) (y50 : (List Int)) (x9 : Int) : Nat → Int → (List Int) → Option (shDen spec_l01Mix_sh)
 | 0 => fun _ _ => none
 | n + 1 => spec_l01Mix_l3_b (spec_l01Mix_l3_L ke6 a0 y50 x9 n) ke6 a0 y50 x9
noncomputable def spec_l01Mix_l2_b (rec : (List Int) → Int → (List Int) → Option (shDen spec_l01Mix_sh)) (ke4 : (List Int) → Option (shDen spec_l01Mix_sh)) (a0 : (List Int)) (y50 : (List Int)) (x9 : Int) (y80 : (List Int)) : Option (shDen spec_l01Mix_sh) :=
 (cond (decide (x9 < (12 : Int)))
 (spec_l01Mix_l3_L (fun y80 => (rec y50 (IntKind.wrap .i64 (x9 + (1 : Int))) y80)) a0 y50 x9 FUEL (0 : Int) y80)
 (ke4 y80))
noncomputable def spec_l01Mix_l2_L (ke4 : (List Int) → Option (shDen spec_l01Mix_sh)) (a0 : (List Int)) : Nat → (List Int) → Int → (List Int) → Option (shDen spec_l01Mix_sh)
 | 0 => fun _ _ _ => none
 | n + 1 => spec_l01Mix_l2_b (spec_l01Mix_l2_L ke4 a0 n) ke4 a0
noncomputable def spec_l01Mix_l1_b (rec : Int → (List Int) → Option (shDen spec_l01Mix_sh)) (ke2 : (List Int) → Option (shDen spec_l01Mix_sh)) (a0 : (List Int)) (a1 : (List Int)) (x6 : Int) (x7 : Int) (y50 : (List Int)) : Option (shDen spec_l01Mix_sh) :=
 (cond (decide ((0 : Int) ≤ x7))
 (cond ((decide ((0 : Int) ≤ x6)) && (decide (x6 < (8 : Int))))
 (cond ((decide ((0 : Int) ≤ (IntKind.wrap .i64 ((IntKind.wrap .i64 ((4 : Int) * x6)) + x7)))) && (decide ((IntKind.wrap .i64 ((IntKind.wrap .i64 ((4 : Int) * x6)) + x7)) < (32 : Int))))
 (cond ((decide ((0 : Int) ≤ x6)) && (decide (x6 < (8 : Int))))
 (rec (IntKind.wrap .i64 (x7 - (1 : Int))) (y50.set (x6.toNat) (bitI .or .u32 (shlI .u32 (y50.getD (x6.toNat) (0 : Int)) (8 : Int)) (IntKind.wrap .u32 (a1.getD ((IntKind.wrap .i64 ((IntKind.wrap .i64 ((4 : Int) * x6)) + x7)).toNat) (0 : Int))))))
 none)
 none)
 none)
 (ke2 y50))
noncomputable def spec_l01Mix_l1_L (ke2 : (List Int) → Option (shDen spec_l01Mix_sh)) (a0 : (List Int)) (a1 : (List Int)) (x6 : Int) : Nat → Int → (List Int) → Option (shDen spec_l01Mix_sh)
 | 0 => fun _ _ => none
 | n + 1 => spec_l01Mix_l1_b (spec_l01Mix_l1_L ke2 a0 a1 x6 n) ke2 a0 a1 x6
noncomputable def spec_l01Mix_l0_b (rec : Int → (List Int) → Option (shDen spec_l01Mix_sh)) (ke0 : (List Int) → Option (shDen spec_l01Mix_sh)) (a0 : (List Int)) (a1 : (List Int)) (x6 : Int) (y50 : (List Int)) : Option (shDen spec_l01Mix_sh) :=
 (cond (decide (x6 < (8 : Int)))
 (spec_l01Mix_l1_L (fun y50 => (rec (IntKind.wrap .i64 (x6 + (1 : Int))) y50)) a0 a1 x6 FUEL (3 : Int) y50)
 (ke0 y50))
noncomputable def spec_l01Mix_l0_L (ke0 : (List Int) → Option (shDen spec_l01Mix_sh)) (a0 : (List Int)) (a1 : (List Int)) : Nat → Int → (List Int) → Option (shDen spec_l01Mix_sh)
 | 0 => fun _ _ => none
 | n + 1 => spec_l01Mix_l0_b (spec_l01Mix_l0_L ke0 a0 a1 n) ke0 a0 a1
noncomputable def spec_l01Mix_r (a0 : (List Int)) (a1 : (List Int)) : Option (shDen spec_l01Mix_sh) :=
 (spec_l01Mix_l0_L (fun y50 => (spec_l01Mix_l2_L (fun y80 => (spec_l01Mix_l4_L (fun y80 => (some y80)) a0 FUEL y80 (0 : Int))) a0 FUEL y50 (0 : Int) a0)) a0 a1 FUEL (0 : Int) (List.replicate 8 (0 : Int)))
noncomputable def f61_l4_p (k : Nat) (K : Ex → St → Option (shDen spec_l01Mix_sh)) (n : Nat) (a0 : (List Int)) (y80 : (List Int)) (x13 : Int) : Option (shDen spec_l01Mix_sh) := loopK (f61_cx k) 0 (execK (f61_cx k) (callK (f61_cx k) 8) 0 61 (sub f61_c [1, 1, 1, 1, 1, 0, 1, 0, 0])) f61_l4_cut K n (f61_l4_s a0 y80 x13)

theorem f61_l4_exit8 (k : Nat)  (y80 : (List Int)) : ((blkK 8 (seqK (execK (f61_cx k) (callK (f61_cx k) 8) 0 61 (sub f61_c [1, 1, 1, 1, 1, 1])) (finK (f61_cx k) f61_i spec_l01Mix_sh))) (.exit 8) (f61_l4_o8 y80) : Option (shDen spec_l01Mix_sh)) =
 ((some y80) : Option (shDen spec_l01Mix_sh)) := by kernel_rfl

theorem f61_l4_round (k : Nat) (K : Ex → St → Option (shDen spec_l01Mix_sh)) (n : Nat) (a0 : (List Int)) (y80 : (List Int)) (x13 : Int) : (f61_l4_p k K (n + 1) a0 y80 x13 : Option (shDen spec_l01Mix_sh)) = spec_l01Mix_l4_b ((fun y80 x13 => f61_l4_p k K n a0 y80 x13)) (fun y80 => K (.exit 8) (f61_l4_o8 y80)) a0 y80 x13 := by kernel_rfl

theorem f61_l4_L_eq (K : Ex → St → Option (shDen spec_l01Mix_sh)) (a0 : (List Int)) : ∀ (n : Nat) (y80 : (List Int)) (x13 : Int), (f61_l4_p FUEL K n a0 y80 x13 : Option (shDen spec_l01Mix_sh)) = spec_l01Mix_l4_L (fun y80 => K (.exit 8) (f61_l4_o8 y80)) a0 n y80 x13 := by
 intro n
 induction n with
 | zero => intros; rfl
 | succ n ih =>
  intro y80 x13
  exact (f61_l4_round FUEL K n a0 y80 x13).trans (congrArg (fun f => spec_l01Mix_l4_b f (fun y80 => K (.exit 8) (f61_l4_o8 y80)) a0 y80 x13) (funext fun y80 => funext fun x13 => ih y80 x13))

noncomputable def f61_l3_p (k : Nat) (K : Ex → St → Option (shDen spec_l01Mix_sh)) (n : Nat) (a0 : (List Int)) (y50 : (List Int)) (x9 : Int) (x10 : Int) (y80 : (List Int)) : Option (shDen spec_l01Mix_sh) := loopK (f61_cx k) 0 (execK (f61_cx k) (callK (f61_cx k) 8) 0 61 (sub f61_c [1, 1, 1, 1, 0, 1, 0, 0, 1, 0, 0, 1, 0, 0])) f61_l3_cut K n (f61_l3_s a0 y50 x9 x10 y80)

theorem f61_l3_exit6 (k : Nat) (K : Ex → St → Option (shDen spec_l01Mix_sh)) (n : Nat) (a0 : (List Int)) (y50 : (List Int)) (x9 : Int) (y80 : (List Int)) : ((blkK 6 (blkK 5 (seqK (execK (f61_cx k) (callK (f61_cx k) 8) 0 61 (sub f61_c [1, 1, 1, 1, 0, 1, 0, 0, 1, 1])) (iterK (f61_cx k) 0 f61_l2_cut (loopK (f61_cx k) 0 (execK (f61_cx k) (callK (f61_cx k) 8) 0 61 (sub f61_c [1, 1, 1, 1, 0, 1, 0, 0])) f61_l2_cut K n) K)))) (.exit 6) (f61_l3_o6 a0 y50 x9 y80) : Option (shDen spec_l01Mix_sh)) =
 ((loopK (f61_cx k) 0 (execK (f61_cx k) (callK (f61_cx k) 8) 0 61 (sub f61_c [1, 1, 1, 1, 0, 1, 0, 0])) f61_l2_cut K n (f61_l2_s a0 y50 (IntKind.wrap .i64 (x9 + (1 : Int))) y80)) : Option (shDen spec_l01Mix_sh)) := by kernel_rfl

theorem f61_l3_round (k : Nat) (K : Ex → St → Option (shDen spec_l01Mix_sh)) (n : Nat) (a0 : (List Int)) (y50 : (List Int)) (x9 : Int) (x10 : Int) (y80 : (List Int)) : (f61_l3_p k K (n + 1) a0 y50 x9 x10 y80 : Option (shDen spec_l01Mix_sh)) = spec_l01Mix_l3_b ((fun x10 y80 => f61_l3_p k K n a0 y50 x9 x10 y80)) (fun y80 => K (.exit 6) (f61_l3_o6 a0 y50 x9 y80)) a0 y50 x9 x10 y80 := by kernel_rfl

theorem f61_l3_L_eq (K : Ex → St → Option (shDen spec_l01Mix_sh)) (a0 : (List Int)) (y50 : (List Int)) (x9 : Int) : ∀ (n : Nat) (x10 : Int) (y80 : (List Int)), (f61_l3_p FUEL K n a0 y50 x9 x10 y80 : Option (shDen spec_l01Mix_sh)) = spec_l01Mix_l3_L (fun y80 => K (.exit 6) (f61_l3_o6 a0 y50 x9 y80)) a0 y50 x9 n x10 y80 := by
 intro n
 induction n with
 | zero => intros; rfl
 | succ n ih =>
  intro x10 y80
  exact (f61_l3_round FUEL K n a0 y50 x9 x10 y80).trans (congrArg (fun f => spec_l01Mix_l3_b f (fun y80 => K (.exit 6) (f61_l3_o6 a0 y50 x9 y80)) a0 y50 x9 x10 y80) (funext fun x10 => funext fun y80 => ih x10 y80))

noncomputable def f61_l2_p (k : Nat) (K : Ex → St → Option (shDen spec_l01Mix_sh)) (n : Nat) (a0 : (List Int)) (y50 : (List Int)) (x9 : Int) (y80 : (List Int)) : Option (shDen spec_l01Mix_sh) := loopK (f61_cx k) 0 (execK (f61_cx k) (callK (f61_cx k) 8) 0 61 (sub f61_c [1, 1, 1, 1, 0, 1, 0, 0])) f61_l2_cut K n (f61_l2_s a0 y50 x9 y80)

theorem f61_l2_round (k : Nat) (K : Ex → St → Option (shDen spec_l01Mix_sh)) (n : Nat) (a0 : (List Int)) (y50 : (List Int)) (x9 : Int) (y80 : (List Int)) : (f61_l2_p k K (n + 1) a0 y50 x9 y80 : Option (shDen spec_l01Mix_sh)) =
 ((cond (decide (x9 < (12 : Int)))
 (loopK (f61_cx k) 0 (execK (f61_cx k) (callK (f61_cx k) 8) 0 61 (sub f61_c [1, 1, 1, 1, 0, 1, 0, 0, 1, 0, 0, 1, 0, 0])) f61_l3_cut (blkK 6 (blkK 5 (seqK (execK (f61_cx k) (callK (f61_cx k) 8) 0 61 (sub f61_c [1, 1, 1, 1, 0, 1, 0, 0, 1, 1])) (iterK (f61_cx k) 0 f61_l2_cut (loopK (f61_cx k) 0 (execK (f61_cx k) (callK (f61_cx k) 8) 0 61 (sub f61_c [1, 1, 1, 1, 0, 1, 0, 0])) f61_l2_cut K n) K)))) k (f61_l3_s a0 y50 x9 (0 : Int) y80))
 (K (.exit 4) (f61_l2_o4 a0 y80))) : Option (shDen spec_l01Mix_sh)) := by kernel_rfl

theorem f61_l2_exit4 (k : Nat)  (a0 : (List Int)) (y80 : (List Int)) : ((blkK 4 (seqK (execK (f61_cx k) (callK (f61_cx k) 8) 0 61 (sub f61_c [1, 1, 1, 1, 1])) (finK (f61_cx k) f61_i spec_l01Mix_sh))) (.exit 4) (f61_l2_o4 a0 y80) : Option (shDen spec_l01Mix_sh)) =
 ((loopK (f61_cx k) 0 (execK (f61_cx k) (callK (f61_cx k) 8) 0 61 (sub f61_c [1, 1, 1, 1, 1, 0, 1, 0, 0])) f61_l4_cut (blkK 8 (seqK (execK (f61_cx k) (callK (f61_cx k) 8) 0 61 (sub f61_c [1, 1, 1, 1, 1, 1])) (finK (f61_cx k) f61_i spec_l01Mix_sh))) k (f61_l4_s a0 y80 (0 : Int))) : Option (shDen spec_l01Mix_sh)) := by kernel_rfl

theorem f61_l2_L_eq (K : Ex → St → Option (shDen spec_l01Mix_sh)) (a0 : (List Int)) : ∀ (n : Nat) (y50 : (List Int)) (x9 : Int) (y80 : (List Int)), (f61_l2_p FUEL K n a0 y50 x9 y80 : Option (shDen spec_l01Mix_sh)) = spec_l01Mix_l2_L (fun y80 => K (.exit 4) (f61_l2_o4 a0 y80)) a0 n y50 x9 y80 := by
 intro n
 induction n with
 | zero => intros; rfl
 | succ n ih =>
  intro y50 x9 y80
  exact (f61_l2_round FUEL K n a0 y50 x9 y80).trans (condC ((f61_l3_L_eq _ a0 y50 x9 FUEL (0 : Int) y80).trans (congrArg (fun e0 => spec_l01Mix_l3_L e0 a0 y50 x9 FUEL (0 : Int) y80) (funext fun y80 => (f61_l3_exit6 FUEL K n a0 y50 x9 y80).trans (ih y50 (IntKind.wrap .i64 (x9 + (1 : Int))) y80)))) (rfl))

noncomputable def f61_l1_p (k : Nat) (K : Ex → St → Option (shDen spec_l01Mix_sh)) (n : Nat) (a0 : (List Int)) (a1 : (List Int)) (x6 : Int) (x7 : Int) (y50 : (List Int)) : Option (shDen spec_l01Mix_sh) := loopK (f61_cx k) 0 (execK (f61_cx k) (callK (f61_cx k) 8) 0 61 (sub f61_c [1, 1, 0, 1, 0, 0, 1, 0, 0, 1, 0, 0])) f61_l1_cut K n (f61_l1_s a0 a1 x6 x7 y50)

theorem f61_l1_exit2 (k : Nat) (K : Ex → St → Option (shDen spec_l01Mix_sh)) (n : Nat) (a0 : (List Int)) (a1 : (List Int)) (x6 : Int) (y50 : (List Int)) : ((blkK 2 (blkK 1 (seqK (execK (f61_cx k) (callK (f61_cx k) 8) 0 61 (sub f61_c [1, 1, 0, 1, 0, 0, 1, 1])) (iterK (f61_cx k) 0 f61_l0_cut (loopK (f61_cx k) 0 (execK (f61_cx k) (callK (f61_cx k) 8) 0 61 (sub f61_c [1, 1, 0, 1, 0, 0])) f61_l0_cut K n) K)))) (.exit 2) (f61_l1_o2 a0 a1 x6 y50) : Option (shDen spec_l01Mix_sh)) =
 ((loopK (f61_cx k) 0 (execK (f61_cx k) (callK (f61_cx k) 8) 0 61 (sub f61_c [1, 1, 0, 1, 0, 0])) f61_l0_cut K n (f61_l0_s a0 a1 (IntKind.wrap .i64 (x6 + (1 : Int))) y50)) : Option (shDen spec_l01Mix_sh)) := by kernel_rfl

theorem f61_l1_round (k : Nat) (K : Ex → St → Option (shDen spec_l01Mix_sh)) (n : Nat) (a0 : (List Int)) (a1 : (List Int)) (x6 : Int) (x7 : Int) (y50 : (List Int)) : (f61_l1_p k K (n + 1) a0 a1 x6 x7 y50 : Option (shDen spec_l01Mix_sh)) = spec_l01Mix_l1_b ((fun x7 y50 => f61_l1_p k K n a0 a1 x6 x7 y50)) (fun y50 => K (.exit 2) (f61_l1_o2 a0 a1 x6 y50)) a0 a1 x6 x7 y50 := by kernel_rfl

theorem f61_l1_L_eq (K : Ex → St → Option (shDen spec_l01Mix_sh)) (a0 : (List Int)) (a1 : (List Int)) (x6 : Int) : ∀ (n : Nat) (x7 : Int) (y50 : (List Int)), (f61_l1_p FUEL K n a0 a1 x6 x7 y50 : Option (shDen spec_l01Mix_sh)) = spec_l01Mix_l1_L (fun y50 => K (.exit 2) (f61_l1_o2 a0 a1 x6 y50)) a0 a1 x6 n x7 y50 := by
 intro n
 induction n with
 | zero => intros; rfl
 | succ n ih =>
  intro x7 y50
  exact (f61_l1_round FUEL K n a0 a1 x6 x7 y50).trans (congrArg (fun f => spec_l01Mix_l1_b f (fun y50 => K (.exit 2) (f61_l1_o2 a0 a1 x6 y50)) a0 a1 x6 x7 y50) (funext fun x7 => funext fun y50 => ih x7 y50))

noncomputable def f61_l0_p (k : Nat) (K : Ex → St → Option (shDen spec_l01Mix_sh)) (n : Nat) (a0 : (List Int)) (a1 : (List Int)) (x6 : Int) (y50 : (List Int)) : Option (shDen spec_l01Mix_sh) := loopK (f61_cx k) 0 (execK (f61_cx k) (callK (f61_cx k) 8) 0 61 (sub f61_c [1, 1, 0, 1, 0, 0])) f61_l0_cut K n (f61_l0_s a0 a1 x6 y50)

theorem f61_l0_round (k : Nat) (K : Ex → St → Option (shDen spec_l01Mix_sh)) (n : Nat) (a0 : (List Int)) (a1 : (List Int)) (x6 : Int) (y50 : (List Int)) : (f61_l0_p k K (n + 1) a0 a1 x6 y50 : Option (shDen spec_l01Mix_sh)) =
 ((cond (decide (x6 < (8 : Int)))
 (loopK (f61_cx k) 0 (execK (f61_cx k) (callK (f61_cx k) 8) 0 61 (sub f61_c [1, 1, 0, 1, 0, 0, 1, 0, 0, 1, 0, 0])) f61_l1_cut (blkK 2 (blkK 1 (seqK (execK (f61_cx k) (callK (f61_cx k) 8) 0 61 (sub f61_c [1, 1, 0, 1, 0, 0, 1, 1])) (iterK (f61_cx k) 0 f61_l0_cut (loopK (f61_cx k) 0 (execK (f61_cx k) (callK (f61_cx k) 8) 0 61 (sub f61_c [1, 1, 0, 1, 0, 0])) f61_l0_cut K n) K)))) k (f61_l1_s a0 a1 x6 (3 : Int) y50))
 (K (.exit 0) (f61_l0_o0 a0 y50))) : Option (shDen spec_l01Mix_sh)) := by kernel_rfl

theorem f61_l0_exit0 (k : Nat)  (a0 : (List Int)) (y50 : (List Int)) : ((blkK 0 (seqK (execK (f61_cx k) (callK (f61_cx k) 8) 0 61 (sub f61_c [1, 1, 1])) (finK (f61_cx k) f61_i spec_l01Mix_sh))) (.exit 0) (f61_l0_o0 a0 y50) : Option (shDen spec_l01Mix_sh)) =
 ((loopK (f61_cx k) 0 (execK (f61_cx k) (callK (f61_cx k) 8) 0 61 (sub f61_c [1, 1, 1, 1, 0, 1, 0, 0])) f61_l2_cut (blkK 4 (seqK (execK (f61_cx k) (callK (f61_cx k) 8) 0 61 (sub f61_c [1, 1, 1, 1, 1])) (finK (f61_cx k) f61_i spec_l01Mix_sh))) k (f61_l2_s a0 y50 (0 : Int) a0)) : Option (shDen spec_l01Mix_sh)) := by kernel_rfl

theorem f61_l0_L_eq (K : Ex → St → Option (shDen spec_l01Mix_sh)) (a0 : (List Int)) (a1 : (List Int)) : ∀ (n : Nat) (x6 : Int) (y50 : (List Int)), (f61_l0_p FUEL K n a0 a1 x6 y50 : Option (shDen spec_l01Mix_sh)) = spec_l01Mix_l0_L (fun y50 => K (.exit 0) (f61_l0_o0 a0 y50)) a0 a1 n x6 y50 := by
 intro n
 induction n with
 | zero => intros; rfl
 | succ n ih =>
  intro x6 y50
  exact (f61_l0_round FUEL K n a0 a1 x6 y50).trans (condC ((f61_l1_L_eq _ a0 a1 x6 FUEL (3 : Int) y50).trans (congrArg (fun e0 => spec_l01Mix_l1_L e0 a0 a1 x6 FUEL (3 : Int) y50) (funext fun y50 => (f61_l1_exit2 FUEL K n a0 a1 x6 y50).trans (ih (IntKind.wrap .i64 (x6 + (1 : Int))) y50)))) (rfl))

theorem f61_start (k : Nat) (a0 : (List Int)) (a1 : (List Int)) : fnK (f61_cx k) 8 61 f61_i spec_l01Mix_sh [.pv (.arr 8 (.int .u32)) a0, .pv (.arr 32 (.int .u8)) a1] =
 ((loopK (f61_cx k) 0 (execK (f61_cx k) (callK (f61_cx k) 8) 0 61 (sub f61_c [1, 1, 0, 1, 0, 0])) f61_l0_cut (blkK 0 (seqK (execK (f61_cx k) (callK (f61_cx k) 8) 0 61 (sub f61_c [1, 1, 1])) (finK (f61_cx k) f61_i spec_l01Mix_sh))) k (f61_l0_s a0 a1 (0 : Int) (List.replicate 8 (0 : Int)))) : Option (shDen spec_l01Mix_sh)) := by kernel_rfl

theorem f61_run (a0 : (List Int)) (a1 : (List Int)) : fnK (f61_cx FUEL) 8 61 f61_i spec_l01Mix_sh [.pv (.arr 8 (.int .u32)) a0, .pv (.arr 32 (.int .u8)) a1] = spec_l01Mix_r a0 a1 :=
 (f61_start FUEL a0 a1).trans ((f61_l0_L_eq _ a0 a1 FUEL (0 : Int) (List.replicate 8 (0 : Int))).trans (congrArg (fun e0 => spec_l01Mix_l0_L e0 a0 a1 FUEL (0 : Int) (List.replicate 8 (0 : Int))) (funext fun y50 => (f61_l0_exit0 FUEL  a0 y50).trans ((f61_l2_L_eq _ a0 FUEL y50 (0 : Int) a0).trans (congrArg (fun e0 => spec_l01Mix_l2_L e0 a0 FUEL y50 (0 : Int) a0) (funext fun y80 => (f61_l2_exit4 FUEL  a0 y80).trans ((f61_l4_L_eq _ a0 FUEL y80 (0 : Int)).trans (congrArg (fun e0 => spec_l01Mix_l4_L e0 a0 FUEL y80 (0 : Int)) (funext fun y80 => (f61_l4_exit8 FUEL  y80).trans (rfl))))))))))

noncomputable def f61_con : Con := { ps := (.pair (.arr 8 (.int .u32)) (.pair (.arr 32 (.int .u8)) .unit)), sh := spec_l01Mix_sh, raw := fun x => spec_l01Mix_r x.1 x.2.1 }
theorem f61_conOk : ConOk Try.prog 61 f61_con := con_of_fn (f61_tabs FUEL) (depth := 8) f61_ok fun x y h => (f61_run x.1 x.2.1).trans h

noncomputable def f59_cx (k : Nat) : Cx := mkC [] [(61, f61_con), (62, f62_con)] [] [] [] k [] false
theorem f59_tabs (k : Nat) : TabsOk Try.prog (f59_cx k) := mkC_ok ⟨f61_conOk, f62_conOk, trivial⟩ trivial trivial trivial
abbrev spec_l02Word_sh : List Sh := [.pl (.int .u32)]
noncomputable def spec_l02Word_r (a0 : Int) : Option (shDen spec_l02Word_sh) :=
 (bindO (spec_l01Start_r (7 : Int)) fun (b1 : (List Int)) => (bindO (spec_l01Mix_r b1 ((List.replicate 32 (0 : Int)).set 0 a0)) fun (b2 : (List Int)) => (some (b2.getD 0 (0 : Int)))))
theorem f59_run (a0 : Int) : fnK (f59_cx FUEL) 8 59 f59_i spec_l02Word_sh [.pv (.int .u8) a0] = spec_l02Word_r a0 := by kernel_rfl

noncomputable def f59_con : Con := { ps := K8, sh := spec_l02Word_sh, raw := fun x => spec_l02Word_r x.1 }
theorem f59_conOk : ConOk Try.prog 59 f59_con := con_of_fn (f59_tabs FUEL) (depth := 8) f59_ok fun x y h => (f59_run x.1).trans h

noncomputable def f52_cx (k : Nat) : Cx := mkC [] [(59, f59_con)] [] [] [] k [] false
theorem f52_tabs (k : Nat) : TabsOk Try.prog (f52_cx k) := mkC_ok ⟨f59_conOk, trivial⟩ trivial trivial trivial
abbrev spec_l02Roll_sh : List Sh := [.pl (.int .u32)]
noncomputable def spec_l02Roll_r (a0 : Int) (a1 : Int) : Option (shDen spec_l02Roll_sh) :=
 (bindO (spec_l02Word_r a1) fun (b1 : Int) => (some (IntKind.wrap .u32 ((IntKind.wrap .u32 ((2 : Int) * a0)) + b1))))
theorem f52_run (a0 : Int) (a1 : Int) : fnK (f52_cx FUEL) 8 52 f52_i spec_l02Roll_sh [.pv (.int .u32) a0, .pv (.int .u8) a1] = spec_l02Roll_r a0 a1 := by kernel_rfl

noncomputable def f52_con : Con := { ps := (.pair (.int .u32) K8), sh := spec_l02Roll_sh, raw := fun x => spec_l02Roll_r x.1 x.2.1 }
theorem f52_conOk : ConOk Try.prog 52 f52_con := con_of_fn (f52_tabs FUEL) (depth := 8) f52_ok fun x y h => (f52_run x.1 x.2.1).trans h

noncomputable def f53_cx (k : Nat) : Cx := mkC [] [] [] [] [] k [] false
theorem f53_tabs (k : Nat) : TabsOk Try.prog (f53_cx k) := mkC_ok trivial trivial trivial trivial
abbrev spec_l02Ends_sh : List Sh := [.pl .bool]
noncomputable def spec_l02Ends_r (a0 : T0) (a1 : Int) (a2 : Int) : Option (shDen spec_l02Ends_sh) :=
 (cond (decide (a1 = a0.2.1))
 (some true)
 (cond (decide (a0.1 ≤ a1))
 (cond (decide ((IntKind.wrap .u64 a0.2.2.1) < (0 : Int)))
 none
 (some (decide ((bitI .and .u32 a2 (IntKind.wrap .u32 ((shlI .u32 (1 : Int) (IntKind.wrap .u64 a0.2.2.1)) - (1 : Int)))) = (0 : Int)))))
 (some false)))
theorem f53_run (a0 : T0) (a1 : Int) (a2 : Int) : fnK (f53_cx FUEL) 8 53 f53_i spec_l02Ends_sh [.pv (.ref K0) a0, .pv (.int .i64) a1, .pv (.int .u32) a2] = spec_l02Ends_r a0 a1 a2 := by kernel_rfl

noncomputable def f53_con : Con := { ps := (.pair (.ref K0) (.pair (.int .i64) K7)), sh := spec_l02Ends_sh, raw := fun x => spec_l02Ends_r x.1 x.2.1 x.2.2.1 }
theorem f53_conOk : ConOk Try.prog 53 f53_con := con_of_fn (f53_tabs FUEL) (depth := 8) f53_ok fun x y h => (f53_run x.1 x.2.1 x.2.2.1).trans h

noncomputable def f46_l0_cut : Cut := { keep := [0, 1, 3, 11, 12, 13], stk := [], ids := [90110, 90120], own := [(11, 90110, 47), (12, 90120, 24)], outs := [(1, [1, 11, 12], [90110, 90120])] }
noncomputable def f46_cx (k : Nat) : Cx := mkC [] [(52, f52_con), (53, f53_con)] [] [] [(46, [(0, f46_l0_cut)])] k [] false
theorem f46_tabs (k : Nat) : TabsOk Try.prog (f46_cx k) := mkC_ok ⟨f52_conOk, f53_conOk, trivial⟩ trivial trivial trivial
abbrev spec_l02Feed_sh : List Sh := [.own 24 K9, .pl (.int .u32), .own 5 (.int .u8)]
noncomputable def f46_l0_s (a0 : T0) (a3 : (List Int)) (x1 : Int) (x13 : Int) (z90110 : T4) (z90120 : (List Int)) : St := { env := (.pv (.ref K0) a0 :: .pv (.int .u32) x1 :: .dead :: .pv K9 a3 :: (dd 7 (.sl 90110 K9 :: .sl 90120 (.int .u8) :: .pv (.int .i64) x13 :: (dd 36 [])))), stk := [], heap := [(90110, .arr 24 K9 z90110), (90120, .arr 5 (.int .u8) z90120)] }
noncomputable def f46_l0_o0 (x1 : Int) (z90110 : T4) (z90120 : (List Int)) : St := { env := (.dead :: .pv (.int .u32) x1 :: (dd 9 (.sl 90110 K9 :: .sl 90120 (.int .u8) :: (dd 37 [])))), stk := [], heap := [(90110, .arr 24 K9 z90110), (90120, .arr 5 (.int .u8) z90120)] }
noncomputable def spec_l02Feed_l0_b (rec : Int → Int → T4 → (List Int) → Option (shDen spec_l02Feed_sh)) (ke0 : Int → T4 → (List Int) → Option (shDen spec_l02Feed_sh)) (a0 : T0) (a3 : (List Int)) (x1 : Int) (x13 : Int) (z90110 : T4) (z90120 : (List Int)) : Option (shDen spec_l02Feed_sh) :=
 (cond (decide (x13 < (a3.length : Int)))
 (cond ((decide ((0 : Int) ≤ x13)) && (decide (x13 < (a3.length : Int))))
 (cond (decide ((z90120.length + 1) * 1 ≤ 140737488355328) && decide (z90120.length + 1 ≤ 9223372036854775807))
 (cond ((decide ((0 : Int) ≤ x13)) && (decide (x13 < (a3.length : Int))))
 (bindO (spec_l02Roll_r x1 (a3.getD (x13.toNat) (0 : Int))) fun (b3 : Int) => (bindO (spec_l02Ends_r a0 ((z90120 ++ [(a3.getD (x13.toNat) (0 : Int))]).length : Int) b3) fun (b4 : Bool) => (cond b4
 (cond (decide ((z90110.length + 1) * 24 ≤ 140737488355328) && decide (z90110.length + 1 ≤ 9223372036854775807))
 (rec (0 : Int) (IntKind.wrap .i64 (x13 + (1 : Int))) (z90110 ++ [(z90120 ++ [(a3.getD (x13.toNat) (0 : Int))])]) [])
 none)
 (rec b3 (IntKind.wrap .i64 (x13 + (1 : Int))) z90110 (z90120 ++ [(a3.getD (x13.toNat) (0 : Int))])))))
 none)
 none)
 none)
 (ke0 x1 z90110 z90120))
noncomputable def spec_l02Feed_l0_L (ke0 : Int → T4 → (List Int) → Option (shDen spec_l02Feed_sh)) (a0 : T0) (a3 : (List Int)) : Nat → Int → Int → T4 → (List Int) → Option (shDen spec_l02Feed_sh)
 | 0 => fun _ _ _ _ => none
 | n + 1 => spec_l02Feed_l0_b (spec_l02Feed_l0_L ke0 a0 a3 n) ke0 a0 a3
noncomputable def spec_l02Feed_r (a0 : T0) (a1 : Int) (a2 : (List Int)) (a3 : (List Int)) : Option (shDen spec_l02Feed_sh) :=
 (cond (decide ((0 + a2.length) * 1 ≤ 140737488355328) && decide (0 + a2.length ≤ 9223372036854775807))
 (spec_l02Feed_l0_L (fun x1 z90110 z90120 => (some (z90110, (x1, z90120)))) a0 a3 FUEL a1 (0 : Int) [] ([] ++ a2))
 none)
noncomputable def f46_l0_p (k : Nat) (K : Ex → St → Option (shDen spec_l02Feed_sh)) (n : Nat) (a0 : T0) (a3 : (List Int)) (x1 : Int) (x13 : Int) (z90110 : T4) (z90120 : (List Int)) : Option (shDen spec_l02Feed_sh) := loopK (f46_cx k) 0 (execK (f46_cx k) (callK (f46_cx k) 8) 0 46 (sub f46_c [1, 1, 1, 0, 1, 0, 0])) f46_l0_cut K n (f46_l0_s a0 a3 x1 x13 z90110 z90120)

theorem f46_l0_exit0 (k : Nat)  (x1 : Int) (z90110 : T4) (z90120 : (List Int)) : ((blkK 0 (seqK (execK (f46_cx k) (callK (f46_cx k) 8) 0 46 (sub f46_c [1, 1, 1, 1])) (finK (f46_cx k) f46_i spec_l02Feed_sh))) (.exit 0) (f46_l0_o0 x1 z90110 z90120) : Option (shDen spec_l02Feed_sh)) =
 ((some (z90110, (x1, z90120))) : Option (shDen spec_l02Feed_sh)) := by kernel_rfl

theorem f46_l0_round (k : Nat) (K : Ex → St → Option (shDen spec_l02Feed_sh)) (n : Nat) (a0 : T0) (a3 : (List Int)) (x1 : Int) (x13 : Int) (z90110 : T4) (z90120 : (List Int)) : (f46_l0_p k K (n + 1) a0 a3 x1 x13 z90110 z90120 : Option (shDen spec_l02Feed_sh)) = spec_l02Feed_l0_b ((fun x1 x13 z90110 z90120 => f46_l0_p k K n a0 a3 x1 x13 z90110 z90120)) (fun x1 z90110 z90120 => K (.exit 0) (f46_l0_o0 x1 z90110 z90120)) a0 a3 x1 x13 z90110 z90120 := by kernel_rfl

theorem f46_l0_L_eq (K : Ex → St → Option (shDen spec_l02Feed_sh)) (a0 : T0) (a3 : (List Int)) : ∀ (n : Nat) (x1 : Int) (x13 : Int) (z90110 : T4) (z90120 : (List Int)), (f46_l0_p FUEL K n a0 a3 x1 x13 z90110 z90120 : Option (shDen spec_l02Feed_sh)) = spec_l02Feed_l0_L (fun x1 z90110 z90120 => K (.exit 0) (f46_l0_o0 x1 z90110 z90120)) a0 a3 n x1 x13 z90110 z90120 := by
 intro n
 induction n with
 | zero => intros; rfl
 | succ n ih =>
  intro x1 x13 z90110 z90120
  exact (f46_l0_round FUEL K n a0 a3 x1 x13 z90110 z90120).trans (congrArg (fun f => spec_l02Feed_l0_b f (fun x1 z90110 z90120 => K (.exit 0) (f46_l0_o0 x1 z90110 z90120)) a0 a3 x1 x13 z90110 z90120) (funext fun x1 => funext fun x13 => funext fun z90110 => funext fun z90120 => ih x1 x13 z90110 z90120))

theorem f46_start (k : Nat) (a0 : T0) (a1 : Int) (a2 : (List Int)) (a3 : (List Int)) : fnK (f46_cx k) 8 46 f46_i spec_l02Feed_sh [.pv (.ref K0) a0, .pv (.int .u32) a1, .pv K9 a2, .pv K9 a3] =
 ((cond (decide ((0 + a2.length) * 1 ≤ 140737488355328) && decide (0 + a2.length ≤ 9223372036854775807))
 (loopK (f46_cx k) 0 (execK (f46_cx k) (callK (f46_cx k) 8) 0 46 (sub f46_c [1, 1, 1, 0, 1, 0, 0])) f46_l0_cut (blkK 0 (seqK (execK (f46_cx k) (callK (f46_cx k) 8) 0 46 (sub f46_c [1, 1, 1, 1])) (finK (f46_cx k) f46_i spec_l02Feed_sh))) k (f46_l0_s a0 a3 a1 (0 : Int) [] ([] ++ a2)))
 none) : Option (shDen spec_l02Feed_sh)) := by kernel_rfl

theorem f46_run (a0 : T0) (a1 : Int) (a2 : (List Int)) (a3 : (List Int)) : fnK (f46_cx FUEL) 8 46 f46_i spec_l02Feed_sh [.pv (.ref K0) a0, .pv (.int .u32) a1, .pv K9 a2, .pv K9 a3] = spec_l02Feed_r a0 a1 a2 a3 :=
 (f46_start FUEL a0 a1 a2 a3).trans (condC ((f46_l0_L_eq _ a0 a3 FUEL a1 (0 : Int) [] ([] ++ a2)).trans (congrArg (fun e0 => spec_l02Feed_l0_L e0 a0 a3 FUEL a1 (0 : Int) [] ([] ++ a2)) (funext fun x1 => funext fun z90110 => funext fun z90120 => (f46_l0_exit0 FUEL  x1 z90110 z90120).trans (rfl)))) (rfl))

noncomputable def f46_con : Con := { ps := (.pair (.ref K0) (.pair (.int .u32) K1)), sh := spec_l02Feed_sh, raw := fun x => spec_l02Feed_r x.1 x.2.1 x.2.2.1 x.2.2.2.1 }
theorem f46_conOk : ConOk Try.prog 46 f46_con := con_of_fn (f46_tabs FUEL) (depth := 8) f46_ok fun x y h => (f46_run x.1 x.2.1 x.2.2.1 x.2.2.2.1).trans h

noncomputable def f34_cx (k : Nat) : Cx := mkC [] [(46, f46_con)] [] [] [] k [] false
theorem f34_tabs (k : Nat) : TabsOk Try.prog (f34_cx k) := mkC_ok ⟨f46_conOk, trivial⟩ trivial trivial trivial
abbrev spec_l02Chunks_sh : List Sh := [.own 24 K9]
noncomputable def spec_l02Chunks_r (a0 : T0) (a1 : (List Int)) : Option (shDen spec_l02Chunks_sh) :=
 (bindO (spec_l02Feed_r a0 (0 : Int) [] a1) fun (b1 : (T4 × (Int × (List Int)))) => (cond (decide ((0 : Int) < (b1.2.2.length : Int)))
 (cond (decide ((b1.1.length + 1) * 24 ≤ 140737488355328) && decide (b1.1.length + 1 ≤ 9223372036854775807))
 (some (b1.1 ++ [b1.2.2]))
 none)
 (some b1.1)))
theorem f34_run (a0 : T0) (a1 : (List Int)) : fnK (f34_cx FUEL) 8 34 f34_i spec_l02Chunks_sh [.pv (.ref K0) a0, .pv K9 a1] = spec_l02Chunks_r a0 a1 := by kernel_rfl

noncomputable def f34_con : Con := { ps := (.pair (.ref K0) K4), sh := spec_l02Chunks_sh, raw := fun x => spec_l02Chunks_r x.1 x.2.1 }
theorem f34_conOk : ConOk Try.prog 34 f34_con := con_of_fn (f34_tabs FUEL) (depth := 8) f34_ok fun x y h => (f34_run x.1 x.2.1).trans h

noncomputable def f35_l0_cut : Cut := { keep := [0, 1, 5], stk := [], ids := [], own := [], outs := [(0, [4], []), (1, [], [])] }
noncomputable def f35_cx (k : Nat) : Cx := mkC [] [] [] [] [(35, [(0, f35_l0_cut)])] k [] false
theorem f35_tabs (k : Nat) : TabsOk Try.prog (f35_cx k) := mkC_ok trivial trivial trivial trivial
abbrev spec_l01Bytes_sh : List Sh := [.pl .bool]
noncomputable def f35_l0_s (a0 : (List Int)) (a1 : (List Int)) (x5 : Int) : St := { env := (.pv K9 a0 :: .pv K9 a1 :: (dd 3 (.pv (.int .i64) x5 :: (dd 20 [])))), stk := [], heap := [] }
noncomputable def f35_l0_o  : St := { env := (dd 4 (.pv .bool false :: (dd 21 []))), stk := [], heap := [] }
noncomputable def f35_l0_o0  : St := { env := (dd 26 []), stk := [], heap := [] }
noncomputable def spec_l01Bytes_l0_b (rec : Int → Option (shDen spec_l01Bytes_sh)) (kr : Option (shDen spec_l01Bytes_sh)) (ke0 : Option (shDen spec_l01Bytes_sh)) (a0 : (List Int)) (a1 : (List Int)) (x5 : Int) : Option (shDen spec_l01Bytes_sh) :=
 (cond (decide (x5 < (a0.length : Int)))
 (cond ((decide ((0 : Int) ≤ x5)) && (decide (x5 < (a0.length : Int))))
 (cond ((decide ((0 : Int) ≤ x5)) && (decide (x5 < (a1.length : Int))))
 (cond (!(decide ((a0.getD (x5.toNat) (0 : Int)) = (a1.getD (x5.toNat) (0 : Int)))))
 (kr)
 (rec (IntKind.wrap .i64 (x5 + (1 : Int)))))
 none)
 none)
 (ke0))
noncomputable def spec_l01Bytes_l0_L (kr : Option (shDen spec_l01Bytes_sh)) (ke0 : Option (shDen spec_l01Bytes_sh)) (a0 : (List Int)) (a1 : (List Int)) : Nat → Int → Option (shDen spec_l01Bytes_sh)
 | 0 => fun _ => none
 | n + 1 => spec_l01Bytes_l0_b (spec_l01Bytes_l0_L kr ke0 a0 a1 n) kr ke0 a0 a1
noncomputable def spec_l01Bytes_r (a0 : (List Int)) (a1 : (List Int)) : Option (shDen spec_l01Bytes_sh) :=
 (cond (!(decide ((a0.length : Int) = (a1.length : Int))))
 (some false)
 (spec_l01Bytes_l0_L (some false) (some true) a0 a1 FUEL (0 : Int)))
noncomputable def f35_l0_p (k : Nat) (K : Ex → St → Option (shDen spec_l01Bytes_sh)) (n : Nat) (a0 : (List Int)) (a1 : (List Int)) (x5 : Int) : Option (shDen spec_l01Bytes_sh) := loopK (f35_cx k) 0 (execK (f35_cx k) (callK (f35_cx k) 8) 0 35 (sub f35_c [1, 1, 0, 1, 0, 0])) f35_l0_cut K n (f35_l0_s a0 a1 x5)

theorem f35_l0_ret (k : Nat)   : ((blkK 0 (seqK (execK (f35_cx k) (callK (f35_cx k) 8) 0 35 (sub f35_c [1, 1, 1])) (finK (f35_cx k) f35_i spec_l01Bytes_sh))) .ret (f35_l0_o) : Option (shDen spec_l01Bytes_sh)) =
 ((some false) : Option (shDen spec_l01Bytes_sh)) := by kernel_rfl

theorem f35_l0_exit0 (k : Nat)   : ((blkK 0 (seqK (execK (f35_cx k) (callK (f35_cx k) 8) 0 35 (sub f35_c [1, 1, 1])) (finK (f35_cx k) f35_i spec_l01Bytes_sh))) (.exit 0) (f35_l0_o0) : Option (shDen spec_l01Bytes_sh)) =
 ((some true) : Option (shDen spec_l01Bytes_sh)) := by kernel_rfl

theorem f35_l0_round (k : Nat) (K : Ex → St → Option (shDen spec_l01Bytes_sh)) (n : Nat) (a0 : (List Int)) (a1 : (List Int)) (x5 : Int) : (f35_l0_p k K (n + 1) a0 a1 x5 : Option (shDen spec_l01Bytes_sh)) = spec_l01Bytes_l0_b ((fun x5 => f35_l0_p k K n a0 a1 x5)) (K .ret (f35_l0_o)) (K (.exit 0) (f35_l0_o0)) a0 a1 x5 := by kernel_rfl

theorem f35_l0_L_eq (K : Ex → St → Option (shDen spec_l01Bytes_sh)) (a0 : (List Int)) (a1 : (List Int)) : ∀ (n : Nat) (x5 : Int), (f35_l0_p FUEL K n a0 a1 x5 : Option (shDen spec_l01Bytes_sh)) = spec_l01Bytes_l0_L (K .ret (f35_l0_o)) (K (.exit 0) (f35_l0_o0)) a0 a1 n x5 := by
 intro n
 induction n with
 | zero => intros; rfl
 | succ n ih =>
  intro x5
  exact (f35_l0_round FUEL K n a0 a1 x5).trans (congrArg (fun f => spec_l01Bytes_l0_b f (K .ret (f35_l0_o)) (K (.exit 0) (f35_l0_o0)) a0 a1 x5) (funext fun x5 => ih x5))

theorem f35_start (k : Nat) (a0 : (List Int)) (a1 : (List Int)) : fnK (f35_cx k) 8 35 f35_i spec_l01Bytes_sh [.pv K9 a0, .pv K9 a1] =
 ((cond (!(decide ((a0.length : Int) = (a1.length : Int))))
 (some false)
 (loopK (f35_cx k) 0 (execK (f35_cx k) (callK (f35_cx k) 8) 0 35 (sub f35_c [1, 1, 0, 1, 0, 0])) f35_l0_cut (blkK 0 (seqK (execK (f35_cx k) (callK (f35_cx k) 8) 0 35 (sub f35_c [1, 1, 1])) (finK (f35_cx k) f35_i spec_l01Bytes_sh))) k (f35_l0_s a0 a1 (0 : Int)))) : Option (shDen spec_l01Bytes_sh)) := by kernel_rfl

theorem f35_run (a0 : (List Int)) (a1 : (List Int)) : fnK (f35_cx FUEL) 8 35 f35_i spec_l01Bytes_sh [.pv K9 a0, .pv K9 a1] = spec_l01Bytes_r a0 a1 :=
 (f35_start FUEL a0 a1).trans (condC (rfl) ((f35_l0_L_eq _ a0 a1 FUEL (0 : Int)).trans (cong2 (fun e0 e1 => spec_l01Bytes_l0_L e0 e1 a0 a1 FUEL (0 : Int)) ( (f35_l0_ret FUEL  ).trans (rfl)) ( (f35_l0_exit0 FUEL  ).trans (rfl)))))

noncomputable def f35_con : Con := { ps := K1, sh := spec_l01Bytes_sh, raw := fun x => spec_l01Bytes_r x.1 x.2.1 }
theorem f35_conOk : ConOk Try.prog 35 f35_con := con_of_fn (f35_tabs FUEL) (depth := 8) f35_ok fun x y h => (f35_run x.1 x.2.1).trans h

noncomputable def f13_l0_cut : Cut := { keep := [9, 10, 11, 12], stk := [], ids := [250, 270], own := [], outs := [(1, [11], [])] }
noncomputable def f13_l1_cut : Cut := { keep := [9, 10, 11, 12, 13, 14], stk := [], ids := [250, 270], own := [], outs := [(3, [9, 10, 11, 12, 13], [250, 270])] }
noncomputable def f13_cx (k : Nat) : Cx := mkC [] [(33, f33_con), (34, f34_con), (35, f35_con)] [] [] [(13, [(0, f13_l0_cut), (2, f13_l1_cut)])] k [] false
theorem f13_tabs (k : Nat) : TabsOk Try.prog (f13_cx k) := mkC_ok ⟨f33_conOk, f34_conOk, f35_conOk, trivial⟩ trivial trivial trivial
abbrev spec_SpareBytes_sh : List Sh := [.pl (.int .i64), .pl (.int .i64)]
noncomputable def f13_l0_s (z250 : T4) (z270 : T4) (x11 : Int) (x12 : Int) : St := { env := (dd 9 (.sl 250 K9 :: .sl 270 K9 :: .pv (.int .i64) x11 :: .pv (.int .i64) x12 :: (dd 50 []))), stk := [], heap := [(250, .arr 24 K9 z250), (270, .arr 24 K9 z270)] }
noncomputable def f13_l0_o0 (x11 : Int) : St := { env := (dd 11 (.pv (.int .i64) x11 :: (dd 51 []))), stk := [], heap := [] }
noncomputable def f13_l1_s (z250 : T4) (z270 : T4) (x11 : Int) (x12 : Int) (x13 : Bool) (x14 : Int) : St := { env := (dd 9 (.sl 250 K9 :: .sl 270 K9 :: .pv (.int .i64) x11 :: .pv (.int .i64) x12 :: .pv .bool x13 :: .pv (.int .i64) x14 :: (dd 48 []))), stk := [], heap := [(250, .arr 24 K9 z250), (270, .arr 24 K9 z270)] }
noncomputable def f13_l1_o2 (z250 : T4) (z270 : T4) (x11 : Int) (x12 : Int) (x13 : Bool) : St := { env := (dd 9 (.sl 250 K9 :: .sl 270 K9 :: .pv (.int .i64) x11 :: .pv (.int .i64) x12 :: .pv .bool x13 :: (dd 49 []))), stk := [], heap := [(250, .arr 24 K9 z250), (270, .arr 24 K9 z270)] }
noncomputable def spec_SpareBytes_l1_b (rec : Bool → Int → Option (shDen spec_SpareBytes_sh)) (ke2 : Bool → Option (shDen spec_SpareBytes_sh)) (z250 : T4) (z270 : T4) (x11 : Int) (x12 : Int) (x13 : Bool) (x14 : Int) : Option (shDen spec_SpareBytes_sh) :=
 (cond (decide (x14 < (z250.length : Int)))
 (cond (!x13)
 (cond ((decide ((0 : Int) ≤ x14)) && (decide (x14 < (z250.length : Int))))
 (cond ((decide ((0 : Int) ≤ x12)) && (decide (x12 < (z270.length : Int))))
 (bindO (spec_l01Bytes_r (z250.getD (x14.toNat) []) (z270.getD (x12.toNat) [])) fun (b10 : Bool) => (rec b10 (IntKind.wrap .i64 (x14 + (1 : Int)))))
 none)
 none)
 (ke2 x13))
 (ke2 x13))
noncomputable def spec_SpareBytes_l1_L (ke2 : Bool → Option (shDen spec_SpareBytes_sh)) (z250 : T4) (z270 : T4) (x11 : Int) (x12 : Int) : Nat → Bool → Int → Option (shDen spec_SpareBytes_sh)
 | 0 => fun _ _ => none
 | n + 1 => spec_SpareBytes_l1_b (spec_SpareBytes_l1_L ke2 z250 z270 x11 x12 n) ke2 z250 z270 x11 x12
noncomputable def spec_SpareBytes_l0_b (rec : T4 → T4 → Int → Int → Option (shDen spec_SpareBytes_sh)) (ke0 : Int → Option (shDen spec_SpareBytes_sh)) (z250 : T4) (z270 : T4) (x11 : Int) (x12 : Int) : Option (shDen spec_SpareBytes_sh) :=
 (cond (decide (x12 < (z270.length : Int)))
 (spec_SpareBytes_l1_L (fun x13 => (cond (!x13)
 (cond ((decide ((0 : Int) ≤ x12)) && (decide (x12 < (z270.length : Int))))
 (rec z250 z270 (IntKind.wrap .i64 (x11 + ((z270.getD (x12.toNat) []).length : Int))) (IntKind.wrap .i64 (x12 + (1 : Int))))
 none)
 (rec z250 z270 x11 (IntKind.wrap .i64 (x12 + (1 : Int)))))) z250 z270 x11 x12 FUEL false (0 : Int))
 (ke0 x11))
noncomputable def spec_SpareBytes_l0_L (ke0 : Int → Option (shDen spec_SpareBytes_sh))  : Nat → T4 → T4 → Int → Int → Option (shDen spec_SpareBytes_sh)
 | 0 => fun _ _ _ _ => none
 | n + 1 => spec_SpareBytes_l0_b (spec_SpareBytes_l0_L ke0  n) ke0 
noncomputable def spec_SpareBytes_r (a0 : T0) (a1 : (List Int)) (a2 : (List Int)) : Option (shDen spec_SpareBytes_sh) :=
 (bindO (spec_l02Given_r a0 a1) fun (b1 : Int) => (cond (decide (b1 = (0 : Int)))
 (bindO (spec_l02Given_r a0 a2) fun (b2 : Int) => (cond (!(decide (b2 = (0 : Int))))
 (some ((0 : Int), b2))
 (bindO (spec_l02Chunks_r a0 a1) fun (b3 : T4) => (bindO (spec_l02Chunks_r a0 a2) fun (b4 : T4) => (spec_SpareBytes_l0_L (fun x11 => (some (x11, (0 : Int)))) FUEL b3 b4 (0 : Int) (0 : Int))))))
 (cond (!(decide (b1 = (0 : Int))))
 (some ((0 : Int), b1))
 (bindO (spec_l02Chunks_r a0 a1) fun (b5 : T4) => (bindO (spec_l02Chunks_r a0 a2) fun (b6 : T4) => (spec_SpareBytes_l0_L (fun x11 => (some (x11, (0 : Int)))) FUEL b5 b6 (0 : Int) (0 : Int)))))))
noncomputable def f13_l1_p (k : Nat) (K : Ex → St → Option (shDen spec_SpareBytes_sh)) (n : Nat) (z250 : T4) (z270 : T4) (x11 : Int) (x12 : Int) (x13 : Bool) (x14 : Int) : Option (shDen spec_SpareBytes_sh) := loopK (f13_cx k) 0 (execK (f13_cx k) (callK (f13_cx k) 8) 0 13 (sub f13_c [1, 1, 1, 1, 1, 1, 1, 0, 1, 0, 0, 1, 0, 0, 1, 0, 1, 0, 0])) f13_l1_cut K n (f13_l1_s z250 z270 x11 x12 x13 x14)

theorem f13_l1_exit2 (k : Nat) (K : Ex → St → Option (shDen spec_SpareBytes_sh)) (n : Nat) (z250 : T4) (z270 : T4) (x11 : Int) (x12 : Int) (x13 : Bool) : ((blkK 2 (seqK (execK (f13_cx k) (callK (f13_cx k) 8) 0 13 (sub f13_c [1, 1, 1, 1, 1, 1, 1, 0, 1, 0, 0, 1, 0, 0, 1, 1])) (blkK 1 (seqK (execK (f13_cx k) (callK (f13_cx k) 8) 0 13 (sub f13_c [1, 1, 1, 1, 1, 1, 1, 0, 1, 0, 0, 1, 1])) (iterK (f13_cx k) 0 f13_l0_cut (loopK (f13_cx k) 0 (execK (f13_cx k) (callK (f13_cx k) 8) 0 13 (sub f13_c [1, 1, 1, 1, 1, 1, 1, 0, 1, 0, 0])) f13_l0_cut K n) K))))) (.exit 2) (f13_l1_o2 z250 z270 x11 x12 x13) : Option (shDen spec_SpareBytes_sh)) =
 ((cond (!x13)
 (cond ((decide ((0 : Int) ≤ x12)) && (decide (x12 < (z270.length : Int))))
 (loopK (f13_cx k) 0 (execK (f13_cx k) (callK (f13_cx k) 8) 0 13 (sub f13_c [1, 1, 1, 1, 1, 1, 1, 0, 1, 0, 0])) f13_l0_cut K n (f13_l0_s z250 z270 (IntKind.wrap .i64 (x11 + ((z270.getD (x12.toNat) []).length : Int))) (IntKind.wrap .i64 (x12 + (1 : Int)))))
 none)
 (loopK (f13_cx k) 0 (execK (f13_cx k) (callK (f13_cx k) 8) 0 13 (sub f13_c [1, 1, 1, 1, 1, 1, 1, 0, 1, 0, 0])) f13_l0_cut K n (f13_l0_s z250 z270 x11 (IntKind.wrap .i64 (x12 + (1 : Int)))))) : Option (shDen spec_SpareBytes_sh)) := by kernel_rfl

theorem f13_l1_round (k : Nat) (K : Ex → St → Option (shDen spec_SpareBytes_sh)) (n : Nat) (z250 : T4) (z270 : T4) (x11 : Int) (x12 : Int) (x13 : Bool) (x14 : Int) : (f13_l1_p k K (n + 1) z250 z270 x11 x12 x13 x14 : Option (shDen spec_SpareBytes_sh)) = spec_SpareBytes_l1_b ((fun x13 x14 => f13_l1_p k K n z250 z270 x11 x12 x13 x14)) (fun x13 => K (.exit 2) (f13_l1_o2 z250 z270 x11 x12 x13)) z250 z270 x11 x12 x13 x14 := by kernel_rfl

theorem f13_l1_L_eq (K : Ex → St → Option (shDen spec_SpareBytes_sh)) (z250 : T4) (z270 : T4) (x11 : Int) (x12 : Int) : ∀ (n : Nat) (x13 : Bool) (x14 : Int), (f13_l1_p FUEL K n z250 z270 x11 x12 x13 x14 : Option (shDen spec_SpareBytes_sh)) = spec_SpareBytes_l1_L (fun x13 => K (.exit 2) (f13_l1_o2 z250 z270 x11 x12 x13)) z250 z270 x11 x12 n x13 x14 := by
 intro n
 induction n with
 | zero => intros; rfl
 | succ n ih =>
  intro x13 x14
  exact (f13_l1_round FUEL K n z250 z270 x11 x12 x13 x14).trans (congrArg (fun f => spec_SpareBytes_l1_b f (fun x13 => K (.exit 2) (f13_l1_o2 z250 z270 x11 x12 x13)) z250 z270 x11 x12 x13 x14) (funext fun x13 => funext fun x14 => ih x13 x14))

noncomputable def f13_l0_p (k : Nat) (K : Ex → St → Option (shDen spec_SpareBytes_sh)) (n : Nat) (z250 : T4) (z270 : T4) (x11 : Int) (x12 : Int) : Option (shDen spec_SpareBytes_sh) := loopK (f13_cx k) 0 (execK (f13_cx k) (callK (f13_cx k) 8) 0 13 (sub f13_c [1, 1, 1, 1, 1, 1, 1, 0, 1, 0, 0])) f13_l0_cut K n (f13_l0_s z250 z270 x11 x12)

theorem f13_l0_round (k : Nat) (K : Ex → St → Option (shDen spec_SpareBytes_sh)) (n : Nat) (z250 : T4) (z270 : T4) (x11 : Int) (x12 : Int) : (f13_l0_p k K (n + 1)  z250 z270 x11 x12 : Option (shDen spec_SpareBytes_sh)) =
 ((cond (decide (x12 < (z270.length : Int)))
 (loopK (f13_cx k) 0 (execK (f13_cx k) (callK (f13_cx k) 8) 0 13 (sub f13_c [1, 1, 1, 1, 1, 1, 1, 0, 1, 0, 0, 1, 0, 0, 1, 0, 1, 0, 0])) f13_l1_cut (blkK 2 (seqK (execK (f13_cx k) (callK (f13_cx k) 8) 0 13 (sub f13_c [1, 1, 1, 1, 1, 1, 1, 0, 1, 0, 0, 1, 0, 0, 1, 1])) (blkK 1 (seqK (execK (f13_cx k) (callK (f13_cx k) 8) 0 13 (sub f13_c [1, 1, 1, 1, 1, 1, 1, 0, 1, 0, 0, 1, 1])) (iterK (f13_cx k) 0 f13_l0_cut (loopK (f13_cx k) 0 (execK (f13_cx k) (callK (f13_cx k) 8) 0 13 (sub f13_c [1, 1, 1, 1, 1, 1, 1, 0, 1, 0, 0])) f13_l0_cut K n) K))))) k (f13_l1_s z250 z270 x11 x12 false (0 : Int)))
 (K (.exit 0) (f13_l0_o0 x11))) : Option (shDen spec_SpareBytes_sh)) := by kernel_rfl

theorem f13_l0_exit0 (k : Nat)  (x11 : Int) : ((blkK 0 (seqK (execK (f13_cx k) (callK (f13_cx k) 8) 0 13 (sub f13_c [1, 1, 1, 1, 1, 1, 1, 1])) (finK (f13_cx k) f13_i spec_SpareBytes_sh))) (.exit 0) (f13_l0_o0 x11) : Option (shDen spec_SpareBytes_sh)) =
 ((some (x11, (0 : Int))) : Option (shDen spec_SpareBytes_sh)) := by kernel_rfl

theorem f13_l0_L_eq (K : Ex → St → Option (shDen spec_SpareBytes_sh))  : ∀ (n : Nat) (z250 : T4) (z270 : T4) (x11 : Int) (x12 : Int), (f13_l0_p FUEL K n  z250 z270 x11 x12 : Option (shDen spec_SpareBytes_sh)) = spec_SpareBytes_l0_L (fun x11 => K (.exit 0) (f13_l0_o0 x11))  n z250 z270 x11 x12 := by
 intro n
 induction n with
 | zero => intros; rfl
 | succ n ih =>
  intro z250 z270 x11 x12
  exact (f13_l0_round FUEL K n  z250 z270 x11 x12).trans (condC ((f13_l1_L_eq _ z250 z270 x11 x12 FUEL false (0 : Int)).trans (congrArg (fun e0 => spec_SpareBytes_l1_L e0 z250 z270 x11 x12 FUEL false (0 : Int)) (funext fun x13 => (f13_l1_exit2 FUEL K n z250 z270 x11 x12 x13).trans (condC (condC (ih z250 z270 (IntKind.wrap .i64 (x11 + ((z270.getD (x12.toNat) []).length : Int))) (IntKind.wrap .i64 (x12 + (1 : Int)))) (rfl)) (ih z250 z270 x11 (IntKind.wrap .i64 (x12 + (1 : Int)))))))) (rfl))

theorem f13_start (k : Nat) (a0 : T0) (a1 : (List Int)) (a2 : (List Int)) : fnK (f13_cx k) 8 13 f13_i spec_SpareBytes_sh [.pv K0 a0, .pv K9 a1, .pv K9 a2] =
 ((bindO (spec_l02Given_r a0 a1) fun (b1 : Int) => (cond (decide (b1 = (0 : Int)))
 (bindO (spec_l02Given_r a0 a2) fun (b2 : Int) => (cond (!(decide (b2 = (0 : Int))))
 (some ((0 : Int), b2))
 (bindO (spec_l02Chunks_r a0 a1) fun (b3 : T4) => (bindO (spec_l02Chunks_r a0 a2) fun (b4 : T4) => (loopK (f13_cx k) 0 (execK (f13_cx k) (callK (f13_cx k) 8) 0 13 (sub f13_c [1, 1, 1, 1, 1, 1, 1, 0, 1, 0, 0])) f13_l0_cut (blkK 0 (seqK (execK (f13_cx k) (callK (f13_cx k) 8) 0 13 (sub f13_c [1, 1, 1, 1, 1, 1, 1, 1])) (finK (f13_cx k) f13_i spec_SpareBytes_sh))) k (f13_l0_s b3 b4 (0 : Int) (0 : Int)))))))
 (cond (!(decide (b1 = (0 : Int))))
 (some ((0 : Int), b1))
 (bindO (spec_l02Chunks_r a0 a1) fun (b5 : T4) => (bindO (spec_l02Chunks_r a0 a2) fun (b6 : T4) => (loopK (f13_cx k) 0 (execK (f13_cx k) (callK (f13_cx k) 8) 0 13 (sub f13_c [1, 1, 1, 1, 1, 1, 1, 0, 1, 0, 0])) f13_l0_cut (blkK 0 (seqK (execK (f13_cx k) (callK (f13_cx k) 8) 0 13 (sub f13_c [1, 1, 1, 1, 1, 1, 1, 1])) (finK (f13_cx k) f13_i spec_SpareBytes_sh))) k (f13_l0_s b5 b6 (0 : Int) (0 : Int)))))))) : Option (shDen spec_SpareBytes_sh)) := by kernel_rfl

theorem f13_run (a0 : T0) (a1 : (List Int)) (a2 : (List Int)) : fnK (f13_cx FUEL) 8 13 f13_i spec_SpareBytes_sh [.pv K0 a0, .pv K9 a1, .pv K9 a2] = spec_SpareBytes_r a0 a1 a2 :=
 (f13_start FUEL a0 a1 a2).trans (bindC (fun b1 => condC (bindC (fun b2 => condC (rfl) (bindC (fun b3 => bindC (fun b4 => (f13_l0_L_eq _  FUEL b3 b4 (0 : Int) (0 : Int)).trans (congrArg (fun e0 => spec_SpareBytes_l0_L e0  FUEL b3 b4 (0 : Int) (0 : Int)) (funext fun x11 => (f13_l0_exit0 FUEL  x11).trans (rfl)))))))) (condC (rfl) (bindC (fun b5 => bindC (fun b6 => (f13_l0_L_eq _  FUEL b5 b6 (0 : Int) (0 : Int)).trans (congrArg (fun e0 => spec_SpareBytes_l0_L e0  FUEL b5 b6 (0 : Int) (0 : Int)) (funext fun x11 => (f13_l0_exit0 FUEL  x11).trans (rfl)))))))))

noncomputable def f13_con : Con := { ps := (.pair K0 K1), sh := spec_SpareBytes_sh, raw := fun x => spec_SpareBytes_r x.1 x.2.1 x.2.2.1 }
theorem f13_conOk : ConOk Try.prog 13 f13_con := con_of_fn (f13_tabs FUEL) (depth := 8) f13_ok fun x y h => (f13_run x.1 x.2.1 x.2.2.1).trans h

noncomputable def f54_cx (k : Nat) : Cx := mkC [] [] [] [] [] k [] false
theorem f54_tabs (k : Nat) : TabsOk Try.prog (f54_cx k) := mkC_ok trivial trivial trivial trivial
abbrev impl_within_sh : List Sh := [.pl .bool]
noncomputable def impl_within_r (a0 : Int) (a1 : Int) (a2 : Int) : Option (shDen impl_within_sh) :=
 (cond (decide (a1 ≤ a0))
 (some (decide (a0 ≤ a2)))
 (some false))
theorem f54_run (a0 : Int) (a1 : Int) (a2 : Int) : fnK (f54_cx FUEL) 8 54 f54_i impl_within_sh [.pv (.int .i64) a0, .pv (.int .i64) a1, .pv (.int .i64) a2] = impl_within_r a0 a1 a2 := by kernel_rfl

noncomputable def f54_con : Con := { ps := K0, sh := impl_within_sh, raw := fun x => impl_within_r x.1 x.2.1 x.2.2.1 }
theorem f54_conOk : ConOk Try.prog 54 f54_con := con_of_fn (f54_tabs FUEL) (depth := 8) f54_ok fun x y h => (f54_run x.1 x.2.1 x.2.2.1).trans h

noncomputable def f47_cx (k : Nat) : Cx := mkC [] [(54, f54_con)] [] [] [] k [] false
theorem f47_tabs (k : Nat) : TabsOk Try.prog (f47_cx k) := mkC_ok ⟨f54_conOk, trivial⟩ trivial trivial trivial
abbrev impl_ValidRule_sh : List Sh := [.pl .bool]
noncomputable def impl_ValidRule_r (a0 : T0) : Option (shDen impl_ValidRule_sh) :=
 (bindO (impl_within_r a0.1 (1 : Int) (64 : Int)) fun (b1 : Bool) => (cond b1
 (bindO (impl_within_r a0.2.1 a0.1 (256 : Int)) fun (b2 : Bool) => (cond b2
 (bindO (impl_within_r a0.2.2.1 (0 : Int) (8 : Int)) fun (b3 : Bool) => (some b3))
 (some false)))
 (some false)))
theorem f47_run (a0 : T0) : fnK (f47_cx FUEL) 8 47 f47_i impl_ValidRule_sh [.pv K0 a0] = impl_ValidRule_r a0 := by kernel_rfl

noncomputable def f47_con : Con := { ps := (.pair K0 .unit), sh := impl_ValidRule_sh, raw := fun x => impl_ValidRule_r x.1 }
theorem f47_conOk : ConOk Try.prog 47 f47_con := con_of_fn (f47_tabs FUEL) (depth := 8) f47_ok fun x y h => (f47_run x.1).trans h

noncomputable def f49_cx (k : Nat) : Cx := mkC [] [] [] [] [] k [] false
theorem f49_tabs (k : Nat) : TabsOk Try.prog (f49_cx k) := mkC_ok trivial trivial trivial trivial
abbrev impl_ruleCode_1_sh : List Sh := [.pl .bool]
noncomputable def impl_ruleCode_1_r (a0 : (List Int)) : Option (shDen impl_ruleCode_1_sh) :=
 (some (decide ((4096 : Int) < (a0.length : Int))))
theorem f49_run (a0 : (List Int)) : fnK (f49_cx FUEL) 8 49 f49_i impl_ruleCode_1_sh [.pv K9 a0] = impl_ruleCode_1_r a0 := by kernel_rfl

noncomputable def f49_con : Con := { ps := K4, sh := impl_ruleCode_1_sh, raw := fun x => impl_ruleCode_1_r x.1 }
theorem f49_conOk : ConOk Try.prog 49 f49_con := con_of_fn (f49_tabs FUEL) (depth := 8) f49_ok fun x y h => (f49_run x.1).trans h

noncomputable def f36_l0_cut : Cut := { keep := [0, 1, 7, 8], stk := [[], []], ids := [], own := [], outs := [(0, [4], []), (1, [], [])] }
noncomputable def f36_cx (k : Nat) : Cx := mkC [(48, f48_i), (55, f55_i)] [(47, f47_con), (49, f49_con)] [] [] [(360011004800070055, [(0, f36_l0_cut)])] k [] false
theorem f36_tabs (k : Nat) : TabsOk Try.prog (f36_cx k) := mkC_ok ⟨f47_conOk, f49_conOk, trivial⟩ trivial trivial ⟨f48_ok, f55_ok, trivial⟩
abbrev impl_ruleCode_sh : List Sh := [.pl (.int .i64)]
noncomputable def f36_l0_s (a0 : T0) (a1 : T4) (x8 : Int) : St := { env := (.pv K5 a1 :: .fn 49 (.pv .unit ()) :: (dd 5 (.pv (.int .i64) (a1.length : Int) :: .pv (.int .i64) x8 :: (dd 10 [])))), stk := [(dd 9 []), (dd 12 [])], heap := [(20, .var K0 (.pv K0 a0))] }
noncomputable def f36_l0_o (a0 : T0) (x4 : Int) : St := { env := (dd 4 (.pv (.int .i64) x4 :: (dd 14 []))), stk := [(dd 9 []), (dd 12 [])], heap := [(20, .var K0 (.pv K0 a0))] }
noncomputable def f36_l0_o0 (a0 : T0) : St := { env := (dd 19 []), stk := [(dd 9 []), (dd 12 [])], heap := [(20, .var K0 (.pv K0 a0))] }
noncomputable def impl_ruleCode_l0_b (rec : Int → Option (shDen impl_ruleCode_sh)) (kr : Int → Option (shDen impl_ruleCode_sh)) (ke0 : Option (shDen impl_ruleCode_sh)) (a0 : T0) (a1 : T4) (x8 : Int) : Option (shDen impl_ruleCode_sh) :=
 (cond (decide (x8 < (a1.length : Int)))
 (cond ((decide ((0 : Int) ≤ x8)) && (decide (x8 < (a1.length : Int))))
 (bindO (impl_ruleCode_1_r (a1.getD (x8.toNat) [])) fun (b3 : Bool) => (cond b3
 (kr x8)
 (rec (IntKind.wrap .i64 (x8 + (1 : Int))))))
 none)
 (ke0))
noncomputable def impl_ruleCode_l0_L (kr : Int → Option (shDen impl_ruleCode_sh)) (ke0 : Option (shDen impl_ruleCode_sh)) (a0 : T0) (a1 : T4) : Nat → Int → Option (shDen impl_ruleCode_sh)
 | 0 => fun _ => none
 | n + 1 => impl_ruleCode_l0_b (impl_ruleCode_l0_L kr ke0 a0 a1 n) kr ke0 a0 a1
noncomputable def impl_ruleCode_r (a0 : T0) (a1 : T4) : Option (shDen impl_ruleCode_sh) :=
 (bindO (impl_ValidRule_r a0) fun (b1 : Bool) => (cond (!b1)
 (some (1 : Int))
 (impl_ruleCode_l0_L (fun x4 => (cond (decide ((0 : Int) ≤ x4))
 (some (3 : Int))
 (some (0 : Int)))) (some (0 : Int)) a0 a1 FUEL (0 : Int))))
noncomputable def f36_l0_p (k : Nat) (K : Ex → St → Option (shDen impl_ruleCode_sh)) (n : Nat) (a0 : T0) (a1 : T4) (x8 : Int) : Option (shDen impl_ruleCode_sh) := loopK (f36_cx k) 2 (execK (f36_cx k) (callK (f36_cx k) 6) 2 360011004800070055 (sub f55_c [1, 0, 1, 0, 0])) f36_l0_cut K n (f36_l0_s a0 a1 x8)

theorem f36_l0_ret (k : Nat)  (a0 : T0) (x4 : Int) : ((blkK 0 (seqK (execK (f36_cx k) (callK (f36_cx k) 6) 2 360011004800070055 (sub f55_c [1, 1])) (retK (f36_cx k) f55_i (some 7) 1 (opsRest (f36_cx k) (callK (f36_cx k) 7) 1 3600110048 false (regOps (sub f48_c [1, 0])) 2 (seqK (execK (f36_cx k) (callK (f36_cx k) 7) 1 3600110048 (sub f48_c [1, 1])) (retK (f36_cx k) f48_i (some 11) 0 (opsRest (f36_cx k) (callK (f36_cx k) 8) 0 36 false (regOps (sub f36_c [1, 0, 0, 1, 1, 0])) 1 (seqK (execK (f36_cx k) (callK (f36_cx k) 8) 0 36 (sub f36_c [1, 0, 0, 1, 1, 1])) (blkK 0 (seqK (execK (f36_cx k) (callK (f36_cx k) 8) 0 36 (sub f36_c [1, 1])) (finK (f36_cx k) f36_i impl_ruleCode_sh))))))))))) .ret (f36_l0_o a0 x4) : Option (shDen impl_ruleCode_sh)) =
 ((cond (decide ((0 : Int) ≤ x4))
 (some (3 : Int))
 (some (0 : Int))) : Option (shDen impl_ruleCode_sh)) := by kernel_rfl

theorem f36_l0_exit0 (k : Nat)  (a0 : T0) : ((blkK 0 (seqK (execK (f36_cx k) (callK (f36_cx k) 6) 2 360011004800070055 (sub f55_c [1, 1])) (retK (f36_cx k) f55_i (some 7) 1 (opsRest (f36_cx k) (callK (f36_cx k) 7) 1 3600110048 false (regOps (sub f48_c [1, 0])) 2 (seqK (execK (f36_cx k) (callK (f36_cx k) 7) 1 3600110048 (sub f48_c [1, 1])) (retK (f36_cx k) f48_i (some 11) 0 (opsRest (f36_cx k) (callK (f36_cx k) 8) 0 36 false (regOps (sub f36_c [1, 0, 0, 1, 1, 0])) 1 (seqK (execK (f36_cx k) (callK (f36_cx k) 8) 0 36 (sub f36_c [1, 0, 0, 1, 1, 1])) (blkK 0 (seqK (execK (f36_cx k) (callK (f36_cx k) 8) 0 36 (sub f36_c [1, 1])) (finK (f36_cx k) f36_i impl_ruleCode_sh))))))))))) (.exit 0) (f36_l0_o0 a0) : Option (shDen impl_ruleCode_sh)) =
 ((some (0 : Int)) : Option (shDen impl_ruleCode_sh)) := by kernel_rfl

theorem f36_l0_round (k : Nat) (K : Ex → St → Option (shDen impl_ruleCode_sh)) (n : Nat) (a0 : T0) (a1 : T4) (x8 : Int) : (f36_l0_p k K (n + 1) a0 a1 x8 : Option (shDen impl_ruleCode_sh)) = impl_ruleCode_l0_b ((fun x8 => f36_l0_p k K n a0 a1 x8)) (fun x4 => K .ret (f36_l0_o a0 x4)) (K (.exit 0) (f36_l0_o0 a0)) a0 a1 x8 := by kernel_rfl

theorem f36_l0_L_eq (K : Ex → St → Option (shDen impl_ruleCode_sh)) (a0 : T0) (a1 : T4) : ∀ (n : Nat) (x8 : Int), (f36_l0_p FUEL K n a0 a1 x8 : Option (shDen impl_ruleCode_sh)) = impl_ruleCode_l0_L (fun x4 => K .ret (f36_l0_o a0 x4)) (K (.exit 0) (f36_l0_o0 a0)) a0 a1 n x8 := by
 intro n
 induction n with
 | zero => intros; rfl
 | succ n ih =>
  intro x8
  exact (f36_l0_round FUEL K n a0 a1 x8).trans (congrArg (fun f => impl_ruleCode_l0_b f (fun x4 => K .ret (f36_l0_o a0 x4)) (K (.exit 0) (f36_l0_o0 a0)) a0 a1 x8) (funext fun x8 => ih x8))

theorem f36_start (k : Nat) (a0 : T0) (a1 : T4) : fnK (f36_cx k) 8 36 f36_i impl_ruleCode_sh [.pv K0 a0, .pv K5 a1] =
 ((bindO (impl_ValidRule_r a0) fun (b1 : Bool) => (cond (!b1)
 (some (1 : Int))
 (loopK (f36_cx k) 2 (execK (f36_cx k) (callK (f36_cx k) 6) 2 360011004800070055 (sub f55_c [1, 0, 1, 0, 0])) f36_l0_cut (blkK 0 (seqK (execK (f36_cx k) (callK (f36_cx k) 6) 2 360011004800070055 (sub f55_c [1, 1])) (retK (f36_cx k) f55_i (some 7) 1 (opsRest (f36_cx k) (callK (f36_cx k) 7) 1 3600110048 false (regOps (sub f48_c [1, 0])) 2 (seqK (execK (f36_cx k) (callK (f36_cx k) 7) 1 3600110048 (sub f48_c [1, 1])) (retK (f36_cx k) f48_i (some 11) 0 (opsRest (f36_cx k) (callK (f36_cx k) 8) 0 36 false (regOps (sub f36_c [1, 0, 0, 1, 1, 0])) 1 (seqK (execK (f36_cx k) (callK (f36_cx k) 8) 0 36 (sub f36_c [1, 0, 0, 1, 1, 1])) (blkK 0 (seqK (execK (f36_cx k) (callK (f36_cx k) 8) 0 36 (sub f36_c [1, 1])) (finK (f36_cx k) f36_i impl_ruleCode_sh))))))))))) k (f36_l0_s a0 a1 (0 : Int))))) : Option (shDen impl_ruleCode_sh)) := by kernel_rfl

theorem f36_run (a0 : T0) (a1 : T4) : fnK (f36_cx FUEL) 8 36 f36_i impl_ruleCode_sh [.pv K0 a0, .pv K5 a1] = impl_ruleCode_r a0 a1 :=
 (f36_start FUEL a0 a1).trans (bindC (fun b1 => condC (rfl) ((f36_l0_L_eq _ a0 a1 FUEL (0 : Int)).trans (cong2 (fun e0 e1 => impl_ruleCode_l0_L e0 e1 a0 a1 FUEL (0 : Int)) (funext fun x4 => (f36_l0_ret FUEL  a0 x4).trans (rfl)) ( (f36_l0_exit0 FUEL  a0).trans (rfl))))))

noncomputable def f36_con : Con := { ps := (.pair K0 (.pair K5 .unit)), sh := impl_ruleCode_sh, raw := fun x => impl_ruleCode_r x.1 x.2.1 }
theorem f36_conOk : ConOk Try.prog 36 f36_con := con_of_fn (f36_tabs FUEL) (depth := 8) f36_ok fun x y h => (f36_run x.1 x.2.1).trans h

noncomputable def f63_l0_cut : Cut := { keep := [0, 2, 3, 6], stk := [], ids := [20, 30], own := [], outs := [(1, [2, 3], [20, 30])] }
noncomputable def f63_cx (k : Nat) : Cx := mkC [] [] [] [] [(63, [(0, f63_l0_cut)])] k [] false
theorem f63_tabs (k : Nat) : TabsOk Try.prog (f63_cx k) := mkC_ok trivial trivial trivial trivial
abbrev impl_StartState_sh : List Sh := [.pl (.arr 8 (.int .u32))]
noncomputable def f63_l0_s (a0 : Int) (x6 : Int) (y30 : (List Int)) : St := { env := (.pv (.int .u8) a0 :: .dead :: .ptr 20 (.arr 8 (.int .u32)) [] :: .ptr 30 (.arr 8 (.int .u32)) [] :: .dead :: .dead :: .pv (.int .i64) x6 :: (dd 13 [])), stk := [], heap := [(20, .var (.arr 8 (.int .u32)) (.pv (.arr 8 (.int .u32)) (List.replicate 8 (0 : Int)))), (30, .var (.arr 8 (.int .u32)) (.pv (.arr 8 (.int .u32)) y30))] }
noncomputable def f63_l0_o0 (y30 : (List Int)) : St := { env := (.dead :: .dead :: .ptr 20 (.arr 8 (.int .u32)) [] :: .ptr 30 (.arr 8 (.int .u32)) [] :: (dd 16 [])), stk := [], heap := [(20, .var (.arr 8 (.int .u32)) (.pv (.arr 8 (.int .u32)) (List.replicate 8 (0 : Int)))), (30, .var (.arr 8 (.int .u32)) (.pv (.arr 8 (.int .u32)) y30))] }
noncomputable def impl_StartState_l0_b (rec : Int → (List Int) → Option (shDen impl_StartState_sh)) (ke0 : (List Int) → Option (shDen impl_StartState_sh)) (a0 : Int) (x6 : Int) (y30 : (List Int)) : Option (shDen impl_StartState_sh) :=
 (cond (decide (x6 < (8 : Int)))
 (cond ((decide ((0 : Int) ≤ x6)) && (decide (x6 < (8 : Int))))
 (rec (IntKind.wrap .i64 (x6 + (1 : Int))) (y30.set (x6.toNat) (IntKind.wrap .u32 ((IntKind.wrap .u32 ((16777619 : Int) * (IntKind.wrap .u32 (IntKind.wrap .i64 (x6 + (1 : Int)))))) + (IntKind.wrap .u32 a0)))))
 none)
 (ke0 y30))
noncomputable def impl_StartState_l0_L (ke0 : (List Int) → Option (shDen impl_StartState_sh)) (a0 : Int) : Nat → Int → (List Int) → Option (shDen impl_StartState_sh)
 | 0 => fun _ _ => none
 | n + 1 => impl_StartState_l0_b (impl_StartState_l0_L ke0 a0 n) ke0 a0
noncomputable def impl_StartState_r (a0 : Int) : Option (shDen impl_StartState_sh) :=
 (impl_StartState_l0_L (fun y30 => (some y30)) a0 FUEL (0 : Int) (List.replicate 8 (0 : Int)))
noncomputable def f63_l0_p (k : Nat) (K : Ex → St → Option (shDen impl_StartState_sh)) (n : Nat) (a0 : Int) (x6 : Int) (y30 : (List Int)) : Option (shDen impl_StartState_sh) := loopK (f63_cx k) 0 (execK (f63_cx k) (callK (f63_cx k) 8) 0 63 (sub f63_c [1, 1, 0, 1, 0, 0])) f63_l0_cut K n (f63_l0_s a0 x6 y30)

theorem f63_l0_exit0 (k : Nat)  (y30 : (List Int)) : ((blkK 0 (seqK (execK (f63_cx k) (callK (f63_cx k) 8) 0 63 (sub f63_c [1, 1, 1])) (finK (f63_cx k) f63_i impl_StartState_sh))) (.exit 0) (f63_l0_o0 y30) : Option (shDen impl_StartState_sh)) =
 ((some y30) : Option (shDen impl_StartState_sh)) := by kernel_rfl

theorem f63_l0_round (k : Nat) (K : Ex → St → Option (shDen impl_StartState_sh)) (n : Nat) (a0 : Int) (x6 : Int) (y30 : (List Int)) : (f63_l0_p k K (n + 1) a0 x6 y30 : Option (shDen impl_StartState_sh)) = impl_StartState_l0_b ((fun x6 y30 => f63_l0_p k K n a0 x6 y30)) (fun y30 => K (.exit 0) (f63_l0_o0 y30)) a0 x6 y30 := by kernel_rfl

theorem f63_l0_L_eq (K : Ex → St → Option (shDen impl_StartState_sh)) (a0 : Int) : ∀ (n : Nat) (x6 : Int) (y30 : (List Int)), (f63_l0_p FUEL K n a0 x6 y30 : Option (shDen impl_StartState_sh)) = impl_StartState_l0_L (fun y30 => K (.exit 0) (f63_l0_o0 y30)) a0 n x6 y30 := by
 intro n
 induction n with
 | zero => intros; rfl
 | succ n ih =>
  intro x6 y30
  exact (f63_l0_round FUEL K n a0 x6 y30).trans (congrArg (fun f => impl_StartState_l0_b f (fun y30 => K (.exit 0) (f63_l0_o0 y30)) a0 x6 y30) (funext fun x6 => funext fun y30 => ih x6 y30))

theorem f63_start (k : Nat) (a0 : Int) : fnK (f63_cx k) 8 63 f63_i impl_StartState_sh [.pv (.int .u8) a0] =
 ((loopK (f63_cx k) 0 (execK (f63_cx k) (callK (f63_cx k) 8) 0 63 (sub f63_c [1, 1, 0, 1, 0, 0])) f63_l0_cut (blkK 0 (seqK (execK (f63_cx k) (callK (f63_cx k) 8) 0 63 (sub f63_c [1, 1, 1])) (finK (f63_cx k) f63_i impl_StartState_sh))) k (f63_l0_s a0 (0 : Int) (List.replicate 8 (0 : Int)))) : Option (shDen impl_StartState_sh)) := by kernel_rfl

theorem f63_run (a0 : Int) : fnK (f63_cx FUEL) 8 63 f63_i impl_StartState_sh [.pv (.int .u8) a0] = impl_StartState_r a0 :=
 (f63_start FUEL a0).trans ((f63_l0_L_eq _ a0 FUEL (0 : Int) (List.replicate 8 (0 : Int))).trans (congrArg (fun e0 => impl_StartState_l0_L e0 a0 FUEL (0 : Int) (List.replicate 8 (0 : Int))) (funext fun y30 => (f63_l0_exit0 FUEL  y30).trans (rfl))))

noncomputable def f63_con : Con := { ps := K8, sh := impl_StartState_sh, raw := fun x => impl_StartState_r x.1 }
theorem f63_conOk : ConOk Try.prog 63 f63_con := con_of_fn (f63_tabs FUEL) (depth := 8) f63_ok fun x y h => (f63_run x.1).trans h

noncomputable def f66_l0_cut : Cut := { keep := [3, 6, 7, 8], stk := [], ids := [], own := [], outs := [(1, [3], [])] }
noncomputable def f66_cx (k : Nat) : Cx := mkC [] [] [] [] [(66, [(0, f66_l0_cut)])] k [] false
theorem f66_tabs (k : Nat) : TabsOk Try.prog (f66_cx k) := mkC_ok trivial trivial trivial trivial
abbrev impl_littleNumber_sh : List Sh := [.pl (.int .u64)]
noncomputable def f66_l0_s (a0 : (List Int)) (x3 : Int) (x8 : Int) : St := { env := (dd 3 (.pv (.int .u64) x3 :: .dead :: .dead :: .pv K9 a0 :: .pv (.int .i64) (a0.length : Int) :: .pv (.int .i64) x8 :: (dd 13 []))), stk := [], heap := [] }
noncomputable def f66_l0_o0 (x3 : Int) : St := { env := (dd 3 (.pv (.int .u64) x3 :: (dd 18 []))), stk := [], heap := [] }
noncomputable def impl_littleNumber_l0_b (rec : Int → Int → Option (shDen impl_littleNumber_sh)) (ke0 : Int → Option (shDen impl_littleNumber_sh)) (a0 : (List Int)) (x3 : Int) (x8 : Int) : Option (shDen impl_littleNumber_sh) :=
 (cond (decide (x8 < (a0.length : Int)))
 (cond ((decide ((0 : Int) ≤ x8)) && (decide (x8 < (a0.length : Int))))
 (cond (decide ((IntKind.wrap .i64 ((8 : Int) * x8)) < (0 : Int)))
 none
 (rec (bitI .or .u64 x3 (shlI .u64 (IntKind.wrap .u64 (a0.getD (x8.toNat) (0 : Int))) (IntKind.wrap .i64 ((8 : Int) * x8)))) (IntKind.wrap .i64 (x8 + (1 : Int)))))
 none)
 (ke0 x3))
noncomputable def impl_littleNumber_l0_L (ke0 : Int → Option (shDen impl_littleNumber_sh)) (a0 : (List Int)) : Nat → Int → Int → Option (shDen impl_littleNumber_sh)
 | 0 => fun _ _ => none
 | n + 1 => impl_littleNumber_l0_b (impl_littleNumber_l0_L ke0 a0 n) ke0 a0
noncomputable def impl_littleNumber_r (a0 : (List Int)) : Option (shDen impl_littleNumber_sh) :=
 (impl_littleNumber_l0_L (fun x3 => (some x3)) a0 FUEL (0 : Int) (0 : Int))
noncomputable def f66_l0_p (k : Nat) (K : Ex → St → Option (shDen impl_littleNumber_sh)) (n : Nat) (a0 : (List Int)) (x3 : Int) (x8 : Int) : Option (shDen impl_littleNumber_sh) := loopK (f66_cx k) 0 (execK (f66_cx k) (callK (f66_cx k) 8) 0 66 (sub f66_c [1, 1, 0, 1, 0, 0])) f66_l0_cut K n (f66_l0_s a0 x3 x8)

theorem f66_l0_exit0 (k : Nat)  (x3 : Int) : ((blkK 0 (seqK (execK (f66_cx k) (callK (f66_cx k) 8) 0 66 (sub f66_c [1, 1, 1])) (finK (f66_cx k) f66_i impl_littleNumber_sh))) (.exit 0) (f66_l0_o0 x3) : Option (shDen impl_littleNumber_sh)) =
 ((some x3) : Option (shDen impl_littleNumber_sh)) := by kernel_rfl

theorem f66_l0_round (k : Nat) (K : Ex → St → Option (shDen impl_littleNumber_sh)) (n : Nat) (a0 : (List Int)) (x3 : Int) (x8 : Int) : (f66_l0_p k K (n + 1) a0 x3 x8 : Option (shDen impl_littleNumber_sh)) = impl_littleNumber_l0_b ((fun x3 x8 => f66_l0_p k K n a0 x3 x8)) (fun x3 => K (.exit 0) (f66_l0_o0 x3)) a0 x3 x8 := by kernel_rfl

theorem f66_l0_L_eq (K : Ex → St → Option (shDen impl_littleNumber_sh)) (a0 : (List Int)) : ∀ (n : Nat) (x3 : Int) (x8 : Int), (f66_l0_p FUEL K n a0 x3 x8 : Option (shDen impl_littleNumber_sh)) = impl_littleNumber_l0_L (fun x3 => K (.exit 0) (f66_l0_o0 x3)) a0 n x3 x8 := by
 intro n
 induction n with
 | zero => intros; rfl
 | succ n ih =>
  intro x3 x8
  exact (f66_l0_round FUEL K n a0 x3 x8).trans (congrArg (fun f => impl_littleNumber_l0_b f (fun x3 => K (.exit 0) (f66_l0_o0 x3)) a0 x3 x8) (funext fun x3 => funext fun x8 => ih x3 x8))

theorem f66_start (k : Nat) (a0 : (List Int)) : fnK (f66_cx k) 8 66 f66_i impl_littleNumber_sh [.pv K9 a0] =
 ((loopK (f66_cx k) 0 (execK (f66_cx k) (callK (f66_cx k) 8) 0 66 (sub f66_c [1, 1, 0, 1, 0, 0])) f66_l0_cut (blkK 0 (seqK (execK (f66_cx k) (callK (f66_cx k) 8) 0 66 (sub f66_c [1, 1, 1])) (finK (f66_cx k) f66_i impl_littleNumber_sh))) k (f66_l0_s a0 (0 : Int) (0 : Int))) : Option (shDen impl_littleNumber_sh)) := by kernel_rfl

theorem f66_run (a0 : (List Int)) : fnK (f66_cx FUEL) 8 66 f66_i impl_littleNumber_sh [.pv K9 a0] = impl_littleNumber_r a0 :=
 (f66_start FUEL a0).trans ((f66_l0_L_eq _ a0 FUEL (0 : Int) (0 : Int)).trans (congrArg (fun e0 => impl_littleNumber_l0_L e0 a0 FUEL (0 : Int) (0 : Int)) (funext fun x3 => (f66_l0_exit0 FUEL  x3).trans (rfl))))

noncomputable def f66_con : Con := { ps := K4, sh := impl_littleNumber_sh, raw := fun x => impl_littleNumber_r x.1 }
theorem f66_conOk : ConOk Try.prog 66 f66_con := con_of_fn (f66_tabs FUEL) (depth := 8) f66_ok fun x y h => (f66_run x.1).trans h

noncomputable def f67_cx (k : Nat) : Cx := mkC [] [] [] [] [] k [] false
theorem f67_tabs (k : Nat) : TabsOk Try.prog (f67_cx k) := mkC_ok trivial trivial trivial trivial
abbrev math_bits_RotateLeft32_sh : List Sh := [.pl (.int .u32)]
noncomputable def math_bits_RotateLeft32_r (a0 : Int) (a1 : Int) : Option (shDen math_bits_RotateLeft32_sh) :=
 (cond (decide ((bitI .and .u64 (IntKind.wrap .u64 a1) (31 : Int)) < (0 : Int)))
 none
 (cond (decide ((IntKind.wrap .u64 ((32 : Int) - (bitI .and .u64 (IntKind.wrap .u64 a1) (31 : Int)))) < (0 : Int)))
 none
 (some (bitI .or .u32 (shlI .u32 a0 (bitI .and .u64 (IntKind.wrap .u64 a1) (31 : Int))) (shrI .u32 a0 (IntKind.wrap .u64 ((32 : Int) - (bitI .and .u64 (IntKind.wrap .u64 a1) (31 : Int)))))))))
theorem f67_run (a0 : Int) (a1 : Int) : fnK (f67_cx FUEL) 8 67 f67_i math_bits_RotateLeft32_sh [.pv (.int .u32) a0, .pv (.int .i64) a1] = math_bits_RotateLeft32_r a0 a1 := by kernel_rfl

noncomputable def f67_con : Con := { ps := (.pair (.int .u32) K6), sh := math_bits_RotateLeft32_sh, raw := fun x => math_bits_RotateLeft32_r x.1 x.2.1 }
theorem f67_conOk : ConOk Try.prog 67 f67_con := con_of_fn (f67_tabs FUEL) (depth := 8) f67_ok fun x y h => (f67_run x.1 x.2.1).trans h

noncomputable def f64_l0_cut : Cut := { keep := [2, 3, 4, 5, 14], stk := [], ids := [20, 30, 40, 50], own := [], outs := [(1, [2, 4, 5], [20, 40, 50])] }
noncomputable def f64_l1_cut : Cut := { keep := [2, 4, 5, 7, 29], stk := [], ids := [20, 40, 50, 70], own := [], outs := [(3, [2, 4, 7], [20, 40, 70])] }
noncomputable def f64_l2_cut : Cut := { keep := [2, 4, 5, 7, 8, 29, 32], stk := [], ids := [20, 40, 50, 70], own := [], outs := [(5, [2, 4, 5, 7, 29], [20, 40, 50, 70])] }
noncomputable def f64_l3_cut : Cut := { keep := [2, 4, 7, 74], stk := [], ids := [20, 40, 70], own := [], outs := [(7, [4, 7], [40, 70])] }
noncomputable def f64_cx (k : Nat) : Cx := mkC [] [(66, f66_con), (67, f67_con)] [] [] [(64, [(0, f64_l0_cut), (2, f64_l1_cut), (4, f64_l2_cut), (6, f64_l3_cut)])] k [] false
theorem f64_tabs (k : Nat) : TabsOk Try.prog (f64_cx k) := mkC_ok ⟨f66_conOk, f67_conOk, trivial⟩ trivial trivial trivial
abbrev impl_MixBlock_sh : List Sh := [.pl (.arr 8 (.int .u32))]
noncomputable def f64_l0_s (a0 : (List Int)) (a1 : (List Int)) (x14 : Int) (y50 : (List Int)) : St := { env := (.dead :: .dead :: .ptr 20 (.arr 8 (.int .u32)) [] :: .ptr 30 (.arr 32 (.int .u8)) [] :: .ptr 40 (.arr 8 (.int .u32)) [] :: .ptr 50 (.arr 8 (.int .u32)) [] :: (dd 8 (.pv (.int .i64) x14 :: (dd 72 [])))), stk := [], heap := [(20, .var (.arr 8 (.int .u32)) (.pv (.arr 8 (.int .u32)) a0)), (30, .var (.arr 32 (.int .u8)) (.pv (.arr 32 (.int .u8)) a1)), (40, .var (.arr 8 (.int .u32)) (.pv (.arr 8 (.int .u32)) (List.replicate 8 (0 : Int)))), (50, .var (.arr 8 (.int .u32)) (.pv (.arr 8 (.int .u32)) y50))] }
noncomputable def f64_l0_o0 (a0 : (List Int)) (y50 : (List Int)) : St := { env := (.dead :: .dead :: .ptr 20 (.arr 8 (.int .u32)) [] :: .dead :: .ptr 40 (.arr 8 (.int .u32)) [] :: .ptr 50 (.arr 8 (.int .u32)) [] :: (dd 81 [])), stk := [], heap := [(20, .var (.arr 8 (.int .u32)) (.pv (.arr 8 (.int .u32)) a0)), (40, .var (.arr 8 (.int .u32)) (.pv (.arr 8 (.int .u32)) (List.replicate 8 (0 : Int)))), (50, .var (.arr 8 (.int .u32)) (.pv (.arr 8 (.int .u32)) y50))] }
noncomputable def f64_l1_s (a0 : (List Int)) (y50 : (List Int)) (x29 : Int) (y70 : (List Int)) : St := { env := (.dead :: .dead :: .ptr 20 (.arr 8 (.int .u32)) [] :: .dead :: .ptr 40 (.arr 8 (.int .u32)) [] :: .ptr 50 (.arr 8 (.int .u32)) [] :: .dead :: .ptr 70 (.arr 8 (.int .u32)) [] :: (dd 21 (.pv (.int .i64) x29 :: (dd 57 [])))), stk := [], heap := [(20, .var (.arr 8 (.int .u32)) (.pv (.arr 8 (.int .u32)) a0)), (40, .var (.arr 8 (.int .u32)) (.pv (.arr 8 (.int .u32)) (List.replicate 8 (0 : Int)))), (50, .var (.arr 8 (.int .u32)) (.pv (.arr 8 (.int .u32)) y50)), (70, .var (.arr 8 (.int .u32)) (.pv (.arr 8 (.int .u32)) y70))] }
noncomputable def f64_l1_o2 (a0 : (List Int)) (y70 : (List Int)) : St := { env := (.dead :: .dead :: .ptr 20 (.arr 8 (.int .u32)) [] :: .dead :: .ptr 40 (.arr 8 (.int .u32)) [] :: .dead :: .dead :: .ptr 70 (.arr 8 (.int .u32)) [] :: (dd 79 [])), stk := [], heap := [(20, .var (.arr 8 (.int .u32)) (.pv (.arr 8 (.int .u32)) a0)), (40, .var (.arr 8 (.int .u32)) (.pv (.arr 8 (.int .u32)) (List.replicate 8 (0 : Int)))), (70, .var (.arr 8 (.int .u32)) (.pv (.arr 8 (.int .u32)) y70))] }
noncomputable def f64_l2_s (a0 : (List Int)) (y50 : (List Int)) (x29 : Int) (x32 : Int) (y70 : (List Int)) : St := { env := (.dead :: .dead :: .ptr 20 (.arr 8 (.int .u32)) [] :: .dead :: .ptr 40 (.arr 8 (.int .u32)) [] :: .ptr 50 (.arr 8 (.int .u32)) [] :: .dead :: .ptr 70 (.arr 8 (.int .u32)) [] :: .pv (.int .i64) x29 :: (dd 20 (.pv (.int .i64) x29 :: .dead :: .dead :: .pv (.int .i64) x32 :: (dd 54 [])))), stk := [], heap := [(20, .var (.arr 8 (.int .u32)) (.pv (.arr 8 (.int .u32)) a0)), (40, .var (.arr 8 (.int .u32)) (.pv (.arr 8 (.int .u32)) (List.replicate 8 (0 : Int)))), (50, .var (.arr 8 (.int .u32)) (.pv (.arr 8 (.int .u32)) y50)), (70, .var (.arr 8 (.int .u32)) (.pv (.arr 8 (.int .u32)) y70))] }
noncomputable def f64_l2_o4 (a0 : (List Int)) (y50 : (List Int)) (x29 : Int) (y70 : (List Int)) : St := { env := (.dead :: .dead :: .ptr 20 (.arr 8 (.int .u32)) [] :: .dead :: .ptr 40 (.arr 8 (.int .u32)) [] :: .ptr 50 (.arr 8 (.int .u32)) [] :: .dead :: .ptr 70 (.arr 8 (.int .u32)) [] :: (dd 21 (.pv (.int .i64) x29 :: (dd 57 [])))), stk := [], heap := [(20, .var (.arr 8 (.int .u32)) (.pv (.arr 8 (.int .u32)) a0)), (40, .var (.arr 8 (.int .u32)) (.pv (.arr 8 (.int .u32)) (List.replicate 8 (0 : Int)))), (50, .var (.arr 8 (.int .u32)) (.pv (.arr 8 (.int .u32)) y50)), (70, .var (.arr 8 (.int .u32)) (.pv (.arr 8 (.int .u32)) y70))] }
noncomputable def f64_l3_s (a0 : (List Int)) (y70 : (List Int)) (x74 : Int) : St := { env := (.dead :: .dead :: .ptr 20 (.arr 8 (.int .u32)) [] :: .dead :: .ptr 40 (.arr 8 (.int .u32)) [] :: .dead :: .dead :: .ptr 70 (.arr 8 (.int .u32)) [] :: (dd 66 (.pv (.int .i64) x74 :: (dd 12 [])))), stk := [], heap := [(20, .var (.arr 8 (.int .u32)) (.pv (.arr 8 (.int .u32)) a0)), (40, .var (.arr 8 (.int .u32)) (.pv (.arr 8 (.int .u32)) (List.replicate 8 (0 : Int)))), (70, .var (.arr 8 (.int .u32)) (.pv (.arr 8 (.int .u32)) y70))] }
noncomputable def f64_l3_o6 (y70 : (List Int)) : St := { env := (dd 4 (.ptr 40 (.arr 8 (.int .u32)) [] :: .dead :: .dead :: .ptr 70 (.arr 8 (.int .u32)) [] :: (dd 79 []))), stk := [], heap := [(40, .var (.arr 8 (.int .u32)) (.pv (.arr 8 (.int .u32)) (List.replicate 8 (0 : Int)))), (70, .var (.arr 8 (.int .u32)) (.pv (.arr 8 (.int .u32)) y70))] }
noncomputable def impl_MixBlock_l3_b (rec : (List Int) → Int → Option (shDen impl_MixBlock_sh)) (ke6 : (List Int) → Option (shDen impl_MixBlock_sh)) (a0 : (List Int)) (y70 : (List Int)) (x74 : Int) : Option (shDen impl_MixBlock_sh) :=
 (cond (decide (x74 < (8 : Int)))
 (cond ((decide ((0 : Int) ≤ x74)) && (decide (x74 < (8 : Int))))
 (cond ((decide ((0 : Int) ≤ x74)) && (decide (x74 < (8 : Int))))
 (cond ((decide ((0 : Int) ≤ x74)) && (decide (x74 < (8 : Int))))
 (rec (y70.set (x74.toNat) (bitI .xor .u32 (y70.getD (x74.toNat) (0 : Int)) (a0.getD (x74.toNat) (0 : Int)))) (IntKind.wrap .i64 (x74 + (1 : Int))))
 none)
 none)
 none)
 (ke6 y70))
noncomputable def impl_MixBlock_l3_L (ke6 : (List Int) → Option (shDen impl_MixBlock_sh)) (a0 : (List Int)) : Nat → (List Int) → Int → Option (shDen impl_MixBlock_sh)
 | 0 => fun _ _ => none
 | n + 1 => impl_MixBlock_l3_b (impl_MixBlock_l3_L ke6 a0 n) ke6 a0
noncomputable def impl_MixBlock_l2_b (rec : Int → (List Int) → Option (shDen impl_MixBlock_sh)) (ke4 : (List Int) → Option (shDen impl_MixBlock_sh)) (a0 : (List Int)) (y50 : (List Int)) (x29 : Int) (x32 : Int) (y70 : (List Int)) : Option (shDen impl_MixBlock_sh) :=
 (cond (decide (x32 < (8 : Int)))
 (cond ((decide ((0 : Int) ≤ x32)) && (decide (x32 < (8 : Int))))
 (cond ((decide ((0 : Int) ≤ (Int.tmod (IntKind.wrap .i64 (x32 + (IntKind.wrap .i64 ((3 : Int) * x29)))) (8 : Int)))) && (decide ((Int.tmod (IntKind.wrap .i64 (x32 + (IntKind.wrap .i64 ((3 : Int) * x29)))) (8 : Int)) < (8 : Int))))
 (bindO (math_bits_RotateLeft32_r (IntKind.wrap .u32 ((IntKind.wrap .u32 ((y70.getD (x32.toNat) (0 : Int)) + (y50.getD ((Int.tmod (IntKind.wrap .i64 (x32 + (IntKind.wrap .i64 ((3 : Int) * x29)))) (8 : Int)).toNat) (0 : Int)))) + (IntKind.wrap .u32 ((2654435769 : Int) * (IntKind.wrap .u32 (IntKind.wrap .i64 ((IntKind.wrap .i64 ((IntKind.wrap .i64 ((8 : Int) * x29)) + x32)) + (1 : Int)))))))) (7 : Int)) fun (b9 : Int) => (cond ((decide ((0 : Int) ≤ (Int.tmod (IntKind.wrap .i64 (x32 + (1 : Int))) (8 : Int)))) && (decide ((Int.tmod (IntKind.wrap .i64 (x32 + (1 : Int))) (8 : Int)) < (8 : Int))))
 (cond ((decide ((0 : Int) ≤ (Int.tmod (IntKind.wrap .i64 (x32 + (5 : Int))) (8 : Int)))) && (decide ((Int.tmod (IntKind.wrap .i64 (x32 + (5 : Int))) (8 : Int)) < (8 : Int))))
 (bindO (math_bits_RotateLeft32_r (y70.getD ((Int.tmod (IntKind.wrap .i64 (x32 + (5 : Int))) (8 : Int)).toNat) (0 : Int)) (13 : Int)) fun (b10 : Int) => (cond ((decide ((0 : Int) ≤ x32)) && (decide (x32 < (8 : Int))))
 (rec (IntKind.wrap .i64 (x32 + (1 : Int))) (y70.set (x32.toNat) (IntKind.wrap .u32 ((bitI .xor .u32 b9 (y70.getD ((Int.tmod (IntKind.wrap .i64 (x32 + (1 : Int))) (8 : Int)).toNat) (0 : Int))) + b10))))
 none))
 none)
 none))
 none)
 none)
 (ke4 y70))
noncomputable def impl_MixBlock_l2_L (ke4 : (List Int) → Option (shDen impl_MixBlock_sh)) (a0 : (List Int)) (y50 : (List Int)) (x29 : Int) : Nat → Int → (List Int) → Option (shDen impl_MixBlock_sh)
 | 0 => fun _ _ => none
 | n + 1 => impl_MixBlock_l2_b (impl_MixBlock_l2_L ke4 a0 y50 x29 n) ke4 a0 y50 x29
noncomputable def impl_MixBlock_l1_b (rec : (List Int) → Int → (List Int) → Option (shDen impl_MixBlock_sh)) (ke2 : (List Int) → Option (shDen impl_MixBlock_sh)) (a0 : (List Int)) (y50 : (List Int)) (x29 : Int) (y70 : (List Int)) : Option (shDen impl_MixBlock_sh) :=
 (cond (decide (x29 < (12 : Int)))
 (impl_MixBlock_l2_L (fun y70 => (rec y50 (IntKind.wrap .i64 (x29 + (1 : Int))) y70)) a0 y50 x29 FUEL (0 : Int) y70)
 (ke2 y70))
noncomputable def impl_MixBlock_l1_L (ke2 : (List Int) → Option (shDen impl_MixBlock_sh)) (a0 : (List Int)) : Nat → (List Int) → Int → (List Int) → Option (shDen impl_MixBlock_sh)
 | 0 => fun _ _ _ => none
 | n + 1 => impl_MixBlock_l1_b (impl_MixBlock_l1_L ke2 a0 n) ke2 a0
noncomputable def impl_MixBlock_l0_b (rec : Int → (List Int) → Option (shDen impl_MixBlock_sh)) (ke0 : (List Int) → Option (shDen impl_MixBlock_sh)) (a0 : (List Int)) (a1 : (List Int)) (x14 : Int) (y50 : (List Int)) : Option (shDen impl_MixBlock_sh) :=
 (cond (decide (x14 < (8 : Int)))
 (cond ((decide ((0 : Int) ≤ (IntKind.wrap .i64 ((IntKind.wrap .i64 ((4 : Int) * x14)) + (4 : Int))))) && (decide ((IntKind.wrap .i64 ((IntKind.wrap .i64 ((4 : Int) * x14)) + (4 : Int))) ≤ (32 : Int))))
 (cond ((decide ((0 : Int) ≤ (IntKind.wrap .i64 ((4 : Int) * x14)))) && (decide ((IntKind.wrap .i64 ((4 : Int) * x14)) ≤ (IntKind.wrap .i64 ((IntKind.wrap .i64 ((4 : Int) * x14)) + (4 : Int))))))
 (bindO (impl_littleNumber_r (cutL a1 ((IntKind.wrap .i64 ((4 : Int) * x14)).toNat) ((IntKind.wrap .i64 ((IntKind.wrap .i64 ((4 : Int) * x14)) + (4 : Int))).toNat))) fun (b2 : Int) => (cond ((decide ((0 : Int) ≤ x14)) && (decide (x14 < (8 : Int))))
 (rec (IntKind.wrap .i64 (x14 + (1 : Int))) (y50.set (x14.toNat) (IntKind.wrap .u32 b2)))
 none))
 none)
 none)
 (ke0 y50))
noncomputable def impl_MixBlock_l0_L (ke0 : (List Int) → Option (shDen impl_MixBlock_sh)) (a0 : (List Int)) (a1 : (List Int)) : Nat → Int → (List Int) → Option (shDen impl_MixBlock_sh)
 | 0 => fun _ _ => none
 | n + 1 => impl_MixBlock_l0_b (impl_MixBlock_l0_L ke0 a0 a1 n) ke0 a0 a1
noncomputable def impl_MixBlock_r (a0 : (List Int)) (a1 : (List Int)) : Option (shDen impl_MixBlock_sh) :=
 (impl_MixBlock_l0_L (fun y50 => (impl_MixBlock_l1_L (fun y70 => (impl_MixBlock_l3_L (fun y70 => (some y70)) a0 FUEL y70 (0 : Int))) a0 FUEL y50 (0 : Int) a0)) a0 a1 FUEL (0 : Int) (List.replicate 8 (0 : Int)))
noncomputable def f64_l3_p (k : Nat) (K : Ex → St → Option (shDen impl_MixBlock_sh)) (n : Nat) (a0 : (List Int)) (y70 : (List Int)) (x74 : Int) : Option (shDen impl_MixBlock_sh) := loopK (f64_cx k) 0 (execK (f64_cx k) (callK (f64_cx k) 8) 0 64 (sub f64_c [1, 1, 1, 1, 1, 0, 1, 0, 0])) f64_l3_cut K n (f64_l3_s a0 y70 x74)

theorem f64_l3_exit6 (k : Nat)  (y70 : (List Int)) : ((blkK 6 (seqK (execK (f64_cx k) (callK (f64_cx k) 8) 0 64 (sub f64_c [1, 1, 1, 1, 1, 1])) (finK (f64_cx k) f64_i impl_MixBlock_sh))) (.exit 6) (f64_l3_o6 y70) : Option (shDen impl_MixBlock_sh)) =
 ((some y70) : Option (shDen impl_MixBlock_sh)) := by kernel_rfl

theorem f64_l3_round (k : Nat) (K : Ex → St → Option (shDen impl_MixBlock_sh)) (n : Nat) (a0 : (List Int)) (y70 : (List Int)) (x74 : Int) : (f64_l3_p k K (n + 1) a0 y70 x74 : Option (shDen impl_MixBlock_sh)) = impl_MixBlock_l3_b ((fun y70 x74 => f64_l3_p k K n a0 y70 x74)) (fun y70 => K (.exit 6) (f64_l3_o6 y70)) a0 y70 x74 := by kernel_rfl

theorem f64_l3_L_eq (K : Ex → St → Option (shDen impl_MixBlock_sh)) (a0 : (List Int)) : ∀ (n : Nat) (y70 : (List Int)) (x74 : Int), (f64_l3_p FUEL K n a0 y70 x74 : Option (shDen impl_MixBlock_sh)) = impl_MixBlock_l3_L (fun y70 => K (.exit 6) (f64_l3_o6 y70)) a0 n y70 x74 := by
 intro n
 induction n with
 | zero => intros; rfl
 | succ n ih =>
  intro y70 x74
  exact (f64_l3_round FUEL K n a0 y70 x74).trans (congrArg (fun f => impl_MixBlock_l3_b f (fun y70 => K (.exit 6) (f64_l3_o6 y70)) a0 y70 x74) (funext fun y70 => funext fun x74 => ih y70 x74))

noncomputable def f64_l2_p (k : Nat) (K : Ex → St → Option (shDen impl_MixBlock_sh)) (n : Nat) (a0 : (List Int)) (y50 : (List Int)) (x29 : Int) (x32 : Int) (y70 : (List Int)) : Option (shDen impl_MixBlock_sh) := loopK (f64_cx k) 0 (execK (f64_cx k) (callK (f64_cx k) 8) 0 64 (sub f64_c [1, 1, 1, 1, 0, 1, 0, 0, 1, 1, 0, 0, 1, 1, 0, 0])) f64_l2_cut K n (f64_l2_s a0 y50 x29 x32 y70)

theorem f64_l2_exit4 (k : Nat) (K : Ex → St → Option (shDen impl_MixBlock_sh)) (n : Nat) (a0 : (List Int)) (y50 : (List Int)) (x29 : Int) (y70 : (List Int)) : ((blkK 4 (blkK 3 (seqK (execK (f64_cx k) (callK (f64_cx k) 8) 0 64 (sub f64_c [1, 1, 1, 1, 0, 1, 0, 0, 1, 1, 1])) (iterK (f64_cx k) 0 f64_l1_cut (loopK (f64_cx k) 0 (execK (f64_cx k) (callK (f64_cx k) 8) 0 64 (sub f64_c [1, 1, 1, 1, 0, 1, 0, 0])) f64_l1_cut K n) K)))) (.exit 4) (f64_l2_o4 a0 y50 x29 y70) : Option (shDen impl_MixBlock_sh)) =
 ((loopK (f64_cx k) 0 (execK (f64_cx k) (callK (f64_cx k) 8) 0 64 (sub f64_c [1, 1, 1, 1, 0, 1, 0, 0])) f64_l1_cut K n (f64_l1_s a0 y50 (IntKind.wrap .i64 (x29 + (1 : Int))) y70)) : Option (shDen impl_MixBlock_sh)) := by kernel_rfl

theorem f64_l2_round (k : Nat) (K : Ex → St → Option (shDen impl_MixBlock_sh)) (n : Nat) (a0 : (List Int)) (y50 : (List Int)) (x29 : Int) (x32 : Int) (y70 : (List Int)) : (f64_l2_p k K (n + 1) a0 y50 x29 x32 y70 : Option (shDen impl_MixBlock_sh)) = impl_MixBlock_l2_b ((fun x32 y70 => f64_l2_p k K n a0 y50 x29 x32 y70)) (fun y70 => K (.exit 4) (f64_l2_o4 a0 y50 x29 y70)) a0 y50 x29 x32 y70 := by kernel_rfl

theorem f64_l2_L_eq (K : Ex → St → Option (shDen impl_MixBlock_sh)) (a0 : (List Int)) (y50 : (List Int)) (x29 : Int) : ∀ (n : Nat) (x32 : Int) (y70 : (List Int)), (f64_l2_p FUEL K n a0 y50 x29 x32 y70 : Option (shDen impl_MixBlock_sh)) = impl_MixBlock_l2_L (fun y70 => K (.exit 4) (f64_l2_o4 a0 y50 x29 y70)) a0 y50 x29 n x32 y70 := by
 intro n
 induction n with
 | zero => intros; rfl
 | succ n ih =>
  intro x32 y70
  exact (f64_l2_round FUEL K n a0 y50 x29 x32 y70).trans (congrArg (fun f => impl_MixBlock_l2_b f (fun y70 => K (.exit 4) (f64_l2_o4 a0 y50 x29 y70)) a0 y50 x29 x32 y70) (funext fun x32 => funext fun y70 => ih x32 y70))

noncomputable def f64_l1_p (k : Nat) (K : Ex → St → Option (shDen impl_MixBlock_sh)) (n : Nat) (a0 : (List Int)) (y50 : (List Int)) (x29 : Int) (y70 : (List Int)) : Option (shDen impl_MixBlock_sh) := loopK (f64_cx k) 0 (execK (f64_cx k) (callK (f64_cx k) 8) 0 64 (sub f64_c [1, 1, 1, 1, 0, 1, 0, 0])) f64_l1_cut K n (f64_l1_s a0 y50 x29 y70)

theorem f64_l1_round (k : Nat) (K : Ex → St → Option (shDen impl_MixBlock_sh)) (n : Nat) (a0 : (List Int)) (y50 : (List Int)) (x29 : Int) (y70 : (List Int)) : (f64_l1_p k K (n + 1) a0 y50 x29 y70 : Option (shDen impl_MixBlock_sh)) =
 ((cond (decide (x29 < (12 : Int)))
 (loopK (f64_cx k) 0 (execK (f64_cx k) (callK (f64_cx k) 8) 0 64 (sub f64_c [1, 1, 1, 1, 0, 1, 0, 0, 1, 1, 0, 0, 1, 1, 0, 0])) f64_l2_cut (blkK 4 (blkK 3 (seqK (execK (f64_cx k) (callK (f64_cx k) 8) 0 64 (sub f64_c [1, 1, 1, 1, 0, 1, 0, 0, 1, 1, 1])) (iterK (f64_cx k) 0 f64_l1_cut (loopK (f64_cx k) 0 (execK (f64_cx k) (callK (f64_cx k) 8) 0 64 (sub f64_c [1, 1, 1, 1, 0, 1, 0, 0])) f64_l1_cut K n) K)))) k (f64_l2_s a0 y50 x29 (0 : Int) y70))
 (K (.exit 2) (f64_l1_o2 a0 y70))) : Option (shDen impl_MixBlock_sh)) := by kernel_rfl

theorem f64_l1_exit2 (k : Nat)  (a0 : (List Int)) (y70 : (List Int)) : ((blkK 2 (seqK (execK (f64_cx k) (callK (f64_cx k) 8) 0 64 (sub f64_c [1, 1, 1, 1, 1])) (finK (f64_cx k) f64_i impl_MixBlock_sh))) (.exit 2) (f64_l1_o2 a0 y70) : Option (shDen impl_MixBlock_sh)) =
 ((loopK (f64_cx k) 0 (execK (f64_cx k) (callK (f64_cx k) 8) 0 64 (sub f64_c [1, 1, 1, 1, 1, 0, 1, 0, 0])) f64_l3_cut (blkK 6 (seqK (execK (f64_cx k) (callK (f64_cx k) 8) 0 64 (sub f64_c [1, 1, 1, 1, 1, 1])) (finK (f64_cx k) f64_i impl_MixBlock_sh))) k (f64_l3_s a0 y70 (0 : Int))) : Option (shDen impl_MixBlock_sh)) := by kernel_rfl

theorem f64_l1_L_eq (K : Ex → St → Option (shDen impl_MixBlock_sh)) (a0 : (List Int)) : ∀ (n : Nat) (y50 : (List Int)) (x29 : Int) (y70 : (List Int)), (f64_l1_p FUEL K n a0 y50 x29 y70 : Option (shDen impl_MixBlock_sh)) = impl_MixBlock_l1_L (fun y70 => K (.exit 2) (f64_l1_o2 a0 y70)) a0 n y50 x29 y70 := by
 intro n
 induction n with
 | zero => intros; rfl
 | succ n ih =>
  intro y50 x29 y70
  exact (f64_l1_round FUEL K n a0 y50 x29 y70).trans (condC ((f64_l2_L_eq _ a0 y50 x29 FUEL (0 : Int) y70).trans (congrArg (fun e0 => impl_MixBlock_l2_L e0 a0 y50 x29 FUEL (0 : Int) y70) (funext fun y70 => (f64_l2_exit4 FUEL K n a0 y50 x29 y70).trans (ih y50 (IntKind.wrap .i64 (x29 + (1 : Int))) y70)))) (rfl))

noncomputable def f64_l0_p (k : Nat) (K : Ex → St → Option (shDen impl_MixBlock_sh)) (n : Nat) (a0 : (List Int)) (a1 : (List Int)) (x14 : Int) (y50 : (List Int)) : Option (shDen impl_MixBlock_sh) := loopK (f64_cx k) 0 (execK (f64_cx k) (callK (f64_cx k) 8) 0 64 (sub f64_c [1, 1, 0, 1, 0, 0])) f64_l0_cut K n (f64_l0_s a0 a1 x14 y50)

theorem f64_l0_exit0 (k : Nat)  (a0 : (List Int)) (y50 : (List Int)) : ((blkK 0 (seqK (execK (f64_cx k) (callK (f64_cx k) 8) 0 64 (sub f64_c [1, 1, 1])) (finK (f64_cx k) f64_i impl_MixBlock_sh))) (.exit 0) (f64_l0_o0 a0 y50) : Option (shDen impl_MixBlock_sh)) =
 ((loopK (f64_cx k) 0 (execK (f64_cx k) (callK (f64_cx k) 8) 0 64 (sub f64_c [1, 1, 1, 1, 0, 1, 0, 0])) f64_l1_cut (blkK 2 (seqK (execK (f64_cx k) (callK (f64_cx k) 8) 0 64 (sub f64_c [1, 1, 1, 1, 1])) (finK (f64_cx k) f64_i impl_MixBlock_sh))) k (f64_l1_s a0 y50 (0 : Int) a0)) : Option (shDen impl_MixBlock_sh)) := by kernel_rfl

theorem f64_l0_round (k : Nat) (K : Ex → St → Option (shDen impl_MixBlock_sh)) (n : Nat) (a0 : (List Int)) (a1 : (List Int)) (x14 : Int) (y50 : (List Int)) : (f64_l0_p k K (n + 1) a0 a1 x14 y50 : Option (shDen impl_MixBlock_sh)) = impl_MixBlock_l0_b ((fun x14 y50 => f64_l0_p k K n a0 a1 x14 y50)) (fun y50 => K (.exit 0) (f64_l0_o0 a0 y50)) a0 a1 x14 y50 := by kernel_rfl

theorem f64_l0_L_eq (K : Ex → St → Option (shDen impl_MixBlock_sh)) (a0 : (List Int)) (a1 : (List Int)) : ∀ (n : Nat) (x14 : Int) (y50 : (List Int)), (f64_l0_p FUEL K n a0 a1 x14 y50 : Option (shDen impl_MixBlock_sh)) = impl_MixBlock_l0_L (fun y50 => K (.exit 0) (f64_l0_o0 a0 y50)) a0 a1 n x14 y50 := by
 intro n
 induction n with
 | zero => intros; rfl
 | succ n ih =>
  intro x14 y50
  exact (f64_l0_round FUEL K n a0 a1 x14 y50).trans (congrArg (fun f => impl_MixBlock_l0_b f (fun y50 => K (.exit 0) (f64_l0_o0 a0 y50)) a0 a1 x14 y50) (funext fun x14 => funext fun y50 => ih x14 y50))

theorem f64_start (k : Nat) (a0 : (List Int)) (a1 : (List Int)) : fnK (f64_cx k) 8 64 f64_i impl_MixBlock_sh [.pv (.arr 8 (.int .u32)) a0, .pv (.arr 32 (.int .u8)) a1] =
 ((loopK (f64_cx k) 0 (execK (f64_cx k) (callK (f64_cx k) 8) 0 64 (sub f64_c [1, 1, 0, 1, 0, 0])) f64_l0_cut (blkK 0 (seqK (execK (f64_cx k) (callK (f64_cx k) 8) 0 64 (sub f64_c [1, 1, 1])) (finK (f64_cx k) f64_i impl_MixBlock_sh))) k (f64_l0_s a0 a1 (0 : Int) (List.replicate 8 (0 : Int)))) : Option (shDen impl_MixBlock_sh)) := by kernel_rfl

theorem f64_run (a0 : (List Int)) (a1 : (List Int)) : fnK (f64_cx FUEL) 8 64 f64_i impl_MixBlock_sh [.pv (.arr 8 (.int .u32)) a0, .pv (.arr 32 (.int .u8)) a1] = impl_MixBlock_r a0 a1 :=
 (f64_start FUEL a0 a1).trans ((f64_l0_L_eq _ a0 a1 FUEL (0 : Int) (List.replicate 8 (0 : Int))).trans (congrArg (fun e0 => impl_MixBlock_l0_L e0 a0 a1 FUEL (0 : Int) (List.replicate 8 (0 : Int))) (funext fun y50 => (f64_l0_exit0 FUEL  a0 y50).trans ((f64_l1_L_eq _ a0 FUEL y50 (0 : Int) a0).trans (congrArg (fun e0 => impl_MixBlock_l1_L e0 a0 FUEL y50 (0 : Int) a0) (funext fun y70 => (f64_l1_exit2 FUEL  a0 y70).trans ((f64_l3_L_eq _ a0 FUEL y70 (0 : Int)).trans (congrArg (fun e0 => impl_MixBlock_l3_L e0 a0 FUEL y70 (0 : Int)) (funext fun y70 => (f64_l3_exit6 FUEL  y70).trans (rfl))))))))))

noncomputable def f64_con : Con := { ps := (.pair (.arr 8 (.int .u32)) (.pair (.arr 32 (.int .u8)) .unit)), sh := impl_MixBlock_sh, raw := fun x => impl_MixBlock_r x.1 x.2.1 }
theorem f64_conOk : ConOk Try.prog 64 f64_con := con_of_fn (f64_tabs FUEL) (depth := 8) f64_ok fun x y h => (f64_run x.1 x.2.1).trans h

noncomputable def f60_l0_cut : Cut := { keep := [0, 1, 2, 6], stk := [], ids := [0, 10, 20], own := [], outs := [(1, [0, 1], [0, 10])] }
noncomputable def f60_cx (k : Nat) : Cx := mkC [] [(63, f63_con), (64, f64_con)] [] [] [(60, [(0, f60_l0_cut)])] k [] false
theorem f60_tabs (k : Nat) : TabsOk Try.prog (f60_cx k) := mkC_ok ⟨f63_conOk, f64_conOk, trivial⟩ trivial trivial trivial
abbrev impl_RollTable_sh : List Sh := [.pl (.arr 256 (.int .u32))]
noncomputable def f60_l0_s (y20 : (List Int)) (x6 : Int) (y10 : (List Int)) : St := { env := (.ptr 0 (.arr 256 (.int .u32)) [] :: .ptr 10 (.arr 256 (.int .u32)) [] :: .ptr 20 (.arr 8 (.int .u32)) [] :: (dd 3 (.pv (.int .i64) x6 :: (dd 12 [])))), stk := [], heap := [(0, .var (.arr 256 (.int .u32)) (.pv (.arr 256 (.int .u32)) (List.replicate 256 (0 : Int)))), (10, .var (.arr 256 (.int .u32)) (.pv (.arr 256 (.int .u32)) y10)), (20, .var (.arr 8 (.int .u32)) (.pv (.arr 8 (.int .u32)) y20))] }
noncomputable def f60_l0_o0 (y10 : (List Int)) : St := { env := (.ptr 0 (.arr 256 (.int .u32)) [] :: .ptr 10 (.arr 256 (.int .u32)) [] :: (dd 17 [])), stk := [], heap := [(0, .var (.arr 256 (.int .u32)) (.pv (.arr 256 (.int .u32)) (List.replicate 256 (0 : Int)))), (10, .var (.arr 256 (.int .u32)) (.pv (.arr 256 (.int .u32)) y10))] }
noncomputable def impl_RollTable_l0_b (rec : (List Int) → Int → (List Int) → Option (shDen impl_RollTable_sh)) (ke0 : (List Int) → Option (shDen impl_RollTable_sh)) (y20 : (List Int)) (x6 : Int) (y10 : (List Int)) : Option (shDen impl_RollTable_sh) :=
 (cond (decide (x6 < (256 : Int)))
 (bindO (impl_MixBlock_r y20 ((List.replicate 32 (0 : Int)).set 0 (IntKind.wrap .u8 x6))) fun (b3 : (List Int)) => (cond ((decide ((0 : Int) ≤ x6)) && (decide (x6 < (256 : Int))))
 (rec y20 (IntKind.wrap .i64 (x6 + (1 : Int))) (y10.set (x6.toNat) (b3.getD 0 (0 : Int))))
 none))
 (ke0 y10))
noncomputable def impl_RollTable_l0_L (ke0 : (List Int) → Option (shDen impl_RollTable_sh))  : Nat → (List Int) → Int → (List Int) → Option (shDen impl_RollTable_sh)
 | 0 => fun _ _ _ => none
 | n + 1 => impl_RollTable_l0_b (impl_RollTable_l0_L ke0  n) ke0 
noncomputable def impl_RollTable_r  : Option (shDen impl_RollTable_sh) :=
 (bindO (impl_StartState_r (7 : Int)) fun (b1 : (List Int)) => (impl_RollTable_l0_L (fun y10 => (some y10)) FUEL b1 (0 : Int) (List.replicate 256 (0 : Int))))
noncomputable def f60_l0_p (k : Nat) (K : Ex → St → Option (shDen impl_RollTable_sh)) (n : Nat) (y20 : (List Int)) (x6 : Int) (y10 : (List Int)) : Option (shDen impl_RollTable_sh) := loopK (f60_cx k) 0 (execK (f60_cx k) (callK (f60_cx k) 8) 0 60 (sub f60_c [1, 1, 0, 1, 0, 0])) f60_l0_cut K n (f60_l0_s y20 x6 y10)

theorem f60_l0_exit0 (k : Nat)  (y10 : (List Int)) : ((blkK 0 (seqK (execK (f60_cx k) (callK (f60_cx k) 8) 0 60 (sub f60_c [1, 1, 1])) (finK (f60_cx k) f60_i impl_RollTable_sh))) (.exit 0) (f60_l0_o0 y10) : Option (shDen impl_RollTable_sh)) =
 ((some y10) : Option (shDen impl_RollTable_sh)) := by kernel_rfl

theorem f60_l0_round (k : Nat) (K : Ex → St → Option (shDen impl_RollTable_sh)) (n : Nat) (y20 : (List Int)) (x6 : Int) (y10 : (List Int)) : (f60_l0_p k K (n + 1)  y20 x6 y10 : Option (shDen impl_RollTable_sh)) = impl_RollTable_l0_b ((fun y20 x6 y10 => f60_l0_p k K n  y20 x6 y10)) (fun y10 => K (.exit 0) (f60_l0_o0 y10))  y20 x6 y10 := by kernel_rfl

theorem f60_l0_L_eq (K : Ex → St → Option (shDen impl_RollTable_sh))  : ∀ (n : Nat) (y20 : (List Int)) (x6 : Int) (y10 : (List Int)), (f60_l0_p FUEL K n  y20 x6 y10 : Option (shDen impl_RollTable_sh)) = impl_RollTable_l0_L (fun y10 => K (.exit 0) (f60_l0_o0 y10))  n y20 x6 y10 := by
 intro n
 induction n with
 | zero => intros; rfl
 | succ n ih =>
  intro y20 x6 y10
  exact (f60_l0_round FUEL K n  y20 x6 y10).trans (congrArg (fun f => impl_RollTable_l0_b f (fun y10 => K (.exit 0) (f60_l0_o0 y10))  y20 x6 y10) (funext fun y20 => funext fun x6 => funext fun y10 => ih y20 x6 y10))

theorem f60_start (k : Nat)  : fnK (f60_cx k) 8 60 f60_i impl_RollTable_sh [] =
 ((bindO (impl_StartState_r (7 : Int)) fun (b1 : (List Int)) => (loopK (f60_cx k) 0 (execK (f60_cx k) (callK (f60_cx k) 8) 0 60 (sub f60_c [1, 1, 0, 1, 0, 0])) f60_l0_cut (blkK 0 (seqK (execK (f60_cx k) (callK (f60_cx k) 8) 0 60 (sub f60_c [1, 1, 1])) (finK (f60_cx k) f60_i impl_RollTable_sh))) k (f60_l0_s b1 (0 : Int) (List.replicate 256 (0 : Int))))) : Option (shDen impl_RollTable_sh)) := by kernel_rfl

theorem f60_run  : fnK (f60_cx FUEL) 8 60 f60_i impl_RollTable_sh [] = impl_RollTable_r  :=
 (f60_start FUEL ).trans (bindC (fun b1 => (f60_l0_L_eq _  FUEL b1 (0 : Int) (List.replicate 256 (0 : Int))).trans (congrArg (fun e0 => impl_RollTable_l0_L e0  FUEL b1 (0 : Int) (List.replicate 256 (0 : Int))) (funext fun y10 => (f60_l0_exit0 FUEL  y10).trans (rfl)))))

noncomputable def f60_con : Con := { ps := .unit, sh := impl_RollTable_sh, raw := fun x => impl_RollTable_r  }
theorem f60_conOk : ConOk Try.prog 60 f60_con := con_of_fn (f60_tabs FUEL) (depth := 8) f60_ok fun x y h => (f60_run ).trans h

noncomputable def f57_cx (k : Nat) : Cx := mkC [] [] [] [] [] k [] false
theorem f57_tabs (k : Nat) : TabsOk Try.prog (f57_cx k) := mkC_ok trivial trivial trivial trivial
abbrev impl_roller_add_sh : List Sh := []
noncomputable def impl_roller_add_r (a0 : T1) (a1 : Int) : Option (T1 × shDen impl_roller_add_sh) :=
 (cond ((decide ((0 : Int) ≤ a1)) && (decide (a1 < (256 : Int))))
 (some ((a0.1, ((IntKind.wrap .u32 ((IntKind.wrap .u32 ((2 : Int) * a0.2.1)) + (a0.1.getD (a1.toNat) (0 : Int)))), a0.2.2)), ()))
 none)
theorem f57_run (a0 : T1) (a1 : Int) : fnIK (f57_cx FUEL) 8 57 f57_i (.var K2) impl_roller_add_sh a0 [.pv (.int .u8) a1] = impl_roller_add_r a0 a1 := by kernel_rfl

noncomputable def f57_inp : ConI := { k := (.var K2), ps := K8, sh := impl_roller_add_sh, raw := fun x q => impl_roller_add_r x q.1 }
theorem f57_inpOk : InpOk Try.prog 57 f57_inp := inp_of_fn (f57_tabs FUEL) (depth := 8) f57_ok fun x q z h => (f57_run x q.1).trans h

noncomputable def f58_cx (k : Nat) : Cx := mkC [] [] [] [] [] k [] false
theorem f58_tabs (k : Nat) : TabsOk Try.prog (f58_cx k) := mkC_ok trivial trivial trivial trivial
abbrev impl_CutRule_ends_sh : List Sh := [.pl .bool]
noncomputable def impl_CutRule_ends_r (a0 : T0) (a1 : Int) (a2 : Int) : Option (shDen impl_CutRule_ends_sh) :=
 (cond (decide (a1 = a0.2.1))
 (some true)
 (cond (decide (a0.1 ≤ a1))
 (cond (decide (a0.2.2.1 < (0 : Int)))
 none
 (some (decide ((bitI .and .u32 a2 (IntKind.wrap .u32 ((shlI .u32 (1 : Int) a0.2.2.1) - (1 : Int)))) = (0 : Int)))))
 (some false)))
theorem f58_run (a0 : T0) (a1 : Int) (a2 : Int) : fnK (f58_cx FUEL) 8 58 f58_i impl_CutRule_ends_sh [.pv K0 a0, .pv (.int .i64) a1, .pv (.int .u32) a2] = impl_CutRule_ends_r a0 a1 a2 := by kernel_rfl

noncomputable def f58_con : Con := { ps := (.pair K0 (.pair (.int .i64) K7)), sh := impl_CutRule_ends_sh, raw := fun x => impl_CutRule_ends_r x.1 x.2.1 x.2.2.1 }
theorem f58_conOk : ConOk Try.prog 58 f58_con := con_of_fn (f58_tabs FUEL) (depth := 8) f58_ok fun x y h => (f58_run x.1 x.2.1 x.2.2.1).trans h

noncomputable def f43_cx (k : Nat) : Cx := mkC [] [] [] [] [] k [] false
theorem f43_tabs (k : Nat) : TabsOk Try.prog (f43_cx k) := mkC_ok trivial trivial trivial trivial
abbrev slices_Clone_byte_byte_sh : List Sh := [.own 5 (.int .u8)]
noncomputable def slices_Clone_byte_byte_r (a0 : (List Int)) : Option (shDen slices_Clone_byte_byte_sh) :=
 (cond (List.isEmpty a0) (bothO (some []) (cond (decide ((0 + a0.length) * 1 ≤ 140737488355328) && decide (0 + a0.length ≤ 9223372036854775807))
 (some ([] ++ a0))
 none)) (cond (decide ((0 + a0.length) * 1 ≤ 140737488355328) && decide (0 + a0.length ≤ 9223372036854775807))
 (some ([] ++ a0))
 none))
theorem f43_run (a0 : (List Int)) : fnK (f43_cx FUEL) 8 43 f43_i slices_Clone_byte_byte_sh [.pv K9 a0] = slices_Clone_byte_byte_r a0 := by kernel_rfl

noncomputable def f43_con : Con := { ps := K4, sh := slices_Clone_byte_byte_sh, raw := fun x => slices_Clone_byte_byte_r x.1 }
theorem f43_conOk : ConOk Try.prog 43 f43_con := con_of_fn (f43_tabs FUEL) (depth := 8) f43_ok fun x y h => (f43_run x.1).trans h

noncomputable def f50_l0_cut : Cut := { keep := [1, 4, 11, 12, 13, 14], stk := [], ids := [40, 160, 90110], own := [(11, 90110, 47)], outs := [(1, [1, 11, 12, 13], [160, 90110])] }
noncomputable def f50_cx (k : Nat) : Cx := mkC [(56, f56_i)] [(43, f43_con), (58, f58_con), (60, f60_con)] [] [(57, f57_inp)] [(50, [(0, f50_l0_cut)])] k [] false
theorem f50_tabs (k : Nat) : TabsOk Try.prog (f50_cx k) := mkC_ok ⟨f43_conOk, f58_conOk, f60_conOk, trivial⟩ trivial ⟨f57_inpOk, trivial⟩ ⟨f56_ok, trivial⟩
abbrev impl_CutRule_cut_sh : List Sh := [.own 24 K9, .own 5 (.int .u8), .pl (.int .u32)]
noncomputable def f50_l0_s (a0 : T0) (a1 : (List Int)) (y160 : T1) (x13 : Int) (x14 : Int) (z90110 : T4) : St := { env := (.dead :: .pv K9 a1 :: .dead :: .dead :: .ptr 40 K0 [] :: (dd 6 (.sl 90110 K9 :: .ptr 160 K2 [] :: .pv (.int .i64) x13 :: .pv (.int .i64) x14 :: (dd 52 [])))), stk := [], heap := [(40, .var K0 (.pv K0 a0)), (160, .var K2 (.pv K2 y160)), (90110, .arr 24 K9 z90110)] }
noncomputable def f50_l0_o0 (a1 : (List Int)) (y160 : T1) (x13 : Int) (z90110 : T4) : St := { env := (.dead :: .pv K9 a1 :: (dd 9 (.sl 90110 K9 :: .ptr 160 K2 [] :: .pv (.int .i64) x13 :: (dd 53 [])))), stk := [], heap := [(160, .var K2 (.pv K2 y160)), (90110, .arr 24 K9 z90110)] }
noncomputable def impl_CutRule_cut_l0_b (rec : T1 → Int → Int → T4 → Option (shDen impl_CutRule_cut_sh)) (ke0 : T1 → Int → T4 → Option (shDen impl_CutRule_cut_sh)) (a0 : T0) (a1 : (List Int)) (y160 : T1) (x13 : Int) (x14 : Int) (z90110 : T4) : Option (shDen impl_CutRule_cut_sh) :=
 (cond (decide (x14 < (a1.length : Int)))
 (cond ((decide ((0 : Int) ≤ x14)) && (decide (x14 < (a1.length : Int))))
 (bindO (impl_roller_add_r y160 (a1.getD (x14.toNat) (0 : Int))) fun (b5 : (T1 × Unit)) => (bindO (impl_CutRule_ends_r a0 (IntKind.wrap .i64 ((IntKind.wrap .i64 (x14 + (1 : Int))) - x13)) b5.1.2.1) fun (b6 : Bool) => (cond b6
 (cond ((decide ((0 : Int) ≤ (IntKind.wrap .i64 (x14 + (1 : Int))))) && (decide ((IntKind.wrap .i64 (x14 + (1 : Int))) ≤ (a1.length : Int))))
 (cond ((decide ((0 : Int) ≤ x13)) && (decide (x13 ≤ (IntKind.wrap .i64 (x14 + (1 : Int))))))
 (bindO (slices_Clone_byte_byte_r (cutL a1 (x13.toNat) ((IntKind.wrap .i64 (x14 + (1 : Int))).toNat))) fun (b7 : (List Int)) => (cond (decide ((z90110.length + 1) * 24 ≤ 140737488355328) && decide (z90110.length + 1 ≤ 9223372036854775807))
 (rec (b5.1.1, ((0 : Int), b5.1.2.2)) (IntKind.wrap .i64 (x14 + (1 : Int))) (IntKind.wrap .i64 (x14 + (1 : Int))) (z90110 ++ [b7]))
 none))
 none)
 none)
 (rec b5.1 x13 (IntKind.wrap .i64 (x14 + (1 : Int))) z90110))))
 none)
 (ke0 y160 x13 z90110))
noncomputable def impl_CutRule_cut_l0_L (ke0 : T1 → Int → T4 → Option (shDen impl_CutRule_cut_sh)) (a0 : T0) (a1 : (List Int)) : Nat → T1 → Int → Int → T4 → Option (shDen impl_CutRule_cut_sh)
 | 0 => fun _ _ _ _ => none
 | n + 1 => impl_CutRule_cut_l0_b (impl_CutRule_cut_l0_L ke0 a0 a1 n) ke0 a0 a1
noncomputable def impl_CutRule_cut_r (a0 : T0) (a1 : (List Int)) (a2 : Int) (a3 : Int) : Option (shDen impl_CutRule_cut_sh) :=
 (bindO (impl_RollTable_r) fun (b1 : (List Int)) => (impl_CutRule_cut_l0_L (fun y160 x13 z90110 => (cond ((decide ((0 : Int) ≤ x13)) && (decide (x13 ≤ (a1.length : Int))))
 (bindO (slices_Clone_byte_byte_r (cutL a1 (x13.toNat) (a1.length))) fun (b8 : (List Int)) => (some (z90110, (b8, y160.2.1))))
 none)) a0 a1 FUEL (b1, (a3, ())) (0 : Int) a2 []))
noncomputable def f50_l0_p (k : Nat) (K : Ex → St → Option (shDen impl_CutRule_cut_sh)) (n : Nat) (a0 : T0) (a1 : (List Int)) (y160 : T1) (x13 : Int) (x14 : Int) (z90110 : T4) : Option (shDen impl_CutRule_cut_sh) := loopK (f50_cx k) 0 (execK (f50_cx k) (callK (f50_cx k) 8) 0 50 (sub f50_c [1, 1, 1, 1, 0, 1, 0, 0])) f50_l0_cut K n (f50_l0_s a0 a1 y160 x13 x14 z90110)

theorem f50_l0_exit0 (k : Nat)  (a1 : (List Int)) (y160 : T1) (x13 : Int) (z90110 : T4) : ((blkK 0 (seqK (execK (f50_cx k) (callK (f50_cx k) 8) 0 50 (sub f50_c [1, 1, 1, 1, 1])) (finK (f50_cx k) f50_i impl_CutRule_cut_sh))) (.exit 0) (f50_l0_o0 a1 y160 x13 z90110) : Option (shDen impl_CutRule_cut_sh)) =
 ((cond ((decide ((0 : Int) ≤ x13)) && (decide (x13 ≤ (a1.length : Int))))
 (bindO (slices_Clone_byte_byte_r (cutL a1 (x13.toNat) (a1.length))) fun (b8 : (List Int)) => (some (z90110, (b8, y160.2.1))))
 none) : Option (shDen impl_CutRule_cut_sh)) := by kernel_rfl

theorem f50_l0_round (k : Nat) (K : Ex → St → Option (shDen impl_CutRule_cut_sh)) (n : Nat) (a0 : T0) (a1 : (List Int)) (y160 : T1) (x13 : Int) (x14 : Int) (z90110 : T4) : (f50_l0_p k K (n + 1) a0 a1 y160 x13 x14 z90110 : Option (shDen impl_CutRule_cut_sh)) = impl_CutRule_cut_l0_b ((fun y160 x13 x14 z90110 => f50_l0_p k K n a0 a1 y160 x13 x14 z90110)) (fun y160 x13 z90110 => K (.exit 0) (f50_l0_o0 a1 y160 x13 z90110)) a0 a1 y160 x13 x14 z90110 := by kernel_rfl

theorem f50_l0_L_eq (K : Ex → St → Option (shDen impl_CutRule_cut_sh)) (a0 : T0) (a1 : (List Int)) : ∀ (n : Nat) (y160 : T1) (x13 : Int) (x14 : Int) (z90110 : T4), (f50_l0_p FUEL K n a0 a1 y160 x13 x14 z90110 : Option (shDen impl_CutRule_cut_sh)) = impl_CutRule_cut_l0_L (fun y160 x13 z90110 => K (.exit 0) (f50_l0_o0 a1 y160 x13 z90110)) a0 a1 n y160 x13 x14 z90110 := by
 intro n
 induction n with
 | zero => intros; rfl
 | succ n ih =>
  intro y160 x13 x14 z90110
  exact (f50_l0_round FUEL K n a0 a1 y160 x13 x14 z90110).trans (congrArg (fun f => impl_CutRule_cut_l0_b f (fun y160 x13 z90110 => K (.exit 0) (f50_l0_o0 a1 y160 x13 z90110)) a0 a1 y160 x13 x14 z90110) (funext fun y160 => funext fun x13 => funext fun x14 => funext fun z90110 => ih y160 x13 x14 z90110))

theorem f50_start (k : Nat) (a0 : T0) (a1 : (List Int)) (a2 : Int) (a3 : Int) : fnK (f50_cx k) 8 50 f50_i impl_CutRule_cut_sh [.pv K0 a0, .pv K9 a1, .pv (.int .i64) a2, .pv (.int .u32) a3] =
 ((bindO (impl_RollTable_r) fun (b1 : (List Int)) => (loopK (f50_cx k) 0 (execK (f50_cx k) (callK (f50_cx k) 8) 0 50 (sub f50_c [1, 1, 1, 1, 0, 1, 0, 0])) f50_l0_cut (blkK 0 (seqK (execK (f50_cx k) (callK (f50_cx k) 8) 0 50 (sub f50_c [1, 1, 1, 1, 1])) (finK (f50_cx k) f50_i impl_CutRule_cut_sh))) k (f50_l0_s a0 a1 (b1, (a3, ())) (0 : Int) a2 []))) : Option (shDen impl_CutRule_cut_sh)) := by kernel_rfl

theorem f50_run (a0 : T0) (a1 : (List Int)) (a2 : Int) (a3 : Int) : fnK (f50_cx FUEL) 8 50 f50_i impl_CutRule_cut_sh [.pv K0 a0, .pv K9 a1, .pv (.int .i64) a2, .pv (.int .u32) a3] = impl_CutRule_cut_r a0 a1 a2 a3 :=
 (f50_start FUEL a0 a1 a2 a3).trans (bindC (fun b1 => (f50_l0_L_eq _ a0 a1 FUEL (b1, (a3, ())) (0 : Int) a2 []).trans (congrArg (fun e0 => impl_CutRule_cut_l0_L e0 a0 a1 FUEL (b1, (a3, ())) (0 : Int) a2 []) (funext fun y160 => funext fun x13 => funext fun z90110 => (f50_l0_exit0 FUEL  a1 y160 x13 z90110).trans (rfl)))))

noncomputable def f50_con : Con := { ps := (.pair K0 (.pair K9 (.pair (.int .i64) K7))), sh := impl_CutRule_cut_sh, raw := fun x => impl_CutRule_cut_r x.1 x.2.1 x.2.2.1 x.2.2.2.1 }
theorem f50_conOk : ConOk Try.prog 50 f50_con := con_of_fn (f50_tabs FUEL) (depth := 8) f50_ok fun x y h => (f50_run x.1 x.2.1 x.2.2.1 x.2.2.2.1).trans h

noncomputable def f37_cx (k : Nat) : Cx := mkC [] [(50, f50_con)] [] [] [] k [] false
theorem f37_tabs (k : Nat) : TabsOk Try.prog (f37_cx k) := mkC_ok ⟨f50_conOk, trivial⟩ trivial trivial trivial
abbrev impl_CutRule_chunks_sh : List Sh := [.own 24 K9]
noncomputable def impl_CutRule_chunks_r (a0 : T0) (a1 : (List Int)) : Option (shDen impl_CutRule_chunks_sh) :=
 (bindO (impl_CutRule_cut_r a0 a1 (0 : Int) (0 : Int)) fun (b1 : (T4 × ((List Int) × Int))) => (cond (decide ((0 : Int) < (b1.2.1.length : Int)))
 (cond (decide ((b1.1.length + 1) * 24 ≤ 140737488355328) && decide (b1.1.length + 1 ≤ 9223372036854775807))
 (some (b1.1 ++ [b1.2.1]))
 none)
 (some b1.1)))
theorem f37_run (a0 : T0) (a1 : (List Int)) : fnK (f37_cx FUEL) 8 37 f37_i impl_CutRule_chunks_sh [.pv K0 a0, .pv K9 a1] = impl_CutRule_chunks_r a0 a1 := by kernel_rfl

noncomputable def f37_con : Con := { ps := (.pair K0 K4), sh := impl_CutRule_chunks_sh, raw := fun x => impl_CutRule_chunks_r x.1 x.2.1 }
theorem f37_conOk : ConOk Try.prog 37 f37_con := con_of_fn (f37_tabs FUEL) (depth := 8) f37_ok fun x y h => (f37_run x.1 x.2.1).trans h

noncomputable def f39_cx (k : Nat) : Cx := mkC [] [] [] [] [] k [] false
theorem f39_tabs (k : Nat) : TabsOk Try.prog (f39_cx k) := mkC_ok trivial trivial trivial trivial
abbrev impl_size_byte_sh : List Sh := [.pl (.int .i64)]
noncomputable def impl_size_byte_r (a0 : (List Int)) : Option (shDen impl_size_byte_sh) :=
 (some (a0.length : Int))
theorem f39_run (a0 : (List Int)) : fnK (f39_cx FUEL) 8 39 f39_i impl_size_byte_sh [.pv K9 a0] = impl_size_byte_r a0 := by kernel_rfl

noncomputable def f39_con : Con := { ps := K4, sh := impl_size_byte_sh, raw := fun x => impl_size_byte_r x.1 }
theorem f39_conOk : ConOk Try.prog 39 f39_con := con_of_fn (f39_tabs FUEL) (depth := 8) f39_ok fun x y h => (f39_run x.1).trans h

noncomputable def f14_l0_cut : Cut := { keep := [2, 3, 9, 10, 26, 27, 28], stk := [], ids := [30, 230, 260], own := [], outs := [(1, [2, 3, 9, 10], [30, 230])] }
noncomputable def f14_l1_cut : Cut := { keep := [9, 10, 38, 39, 40], stk := [], ids := [230, 380], own := [], outs := [(3, [10], [])] }
noncomputable def f14_cx (k : Nat) : Cx := mkC [] [(36, f36_con), (37, f37_con), (39, f39_con)] [] [] [(14, [(0, f14_l0_cut), (2, f14_l1_cut)])] k [] false
theorem f14_tabs (k : Nat) : TabsOk Try.prog (f14_cx k) := mkC_ok ⟨f36_conOk, f37_conOk, f39_conOk, trivial⟩ trivial trivial trivial
abbrev impl_SpareBytes_sh : List Sh := [.pl (.int .i64), .pl (.int .i64)]
noncomputable def f14_l0_s (a0 : T0) (a2 : (List Int)) (x27 : Int) (z260 : T4) (x28 : Int) (z230 : T2) : St := { env := (.dead :: .dead :: .pv K9 a2 :: .ptr 30 K0 [] :: (dd 5 (.inn 230 [] .bool :: .pv (.int .i64) (0 : Int) :: (dd 15 (.sl 260 K9 :: .pv (.int .i64) x27 :: .pv (.int .i64) x28 :: (dd 26 [])))))), stk := [], heap := [(30, .var K0 (.pv K0 a0)), (230, .map .str .bool z230), (260, .arr 24 K9 z260)] }
noncomputable def f14_l0_o0 (a0 : T0) (a2 : (List Int)) (z230 : T2) : St := { env := (.dead :: .dead :: .pv K9 a2 :: .ptr 30 K0 [] :: (dd 5 (.inn 230 [] .bool :: .pv (.int .i64) (0 : Int) :: (dd 44 [])))), stk := [], heap := [(30, .var K0 (.pv K0 a0)), (230, .map .str .bool z230)] }
noncomputable def f14_l1_s (x39 : Int) (z230 : T2) (z380 : T4) (x10 : Int) (x40 : Int) : St := { env := (dd 9 (.inn 230 [] .bool :: .pv (.int .i64) x10 :: (dd 27 (.sl 380 K9 :: .pv (.int .i64) x39 :: .pv (.int .i64) x40 :: (dd 14 []))))), stk := [], heap := [(230, .map .str .bool z230), (380, .arr 24 K9 z380)] }
noncomputable def f14_l1_o2 (x10 : Int) : St := { env := (dd 10 (.pv (.int .i64) x10 :: (dd 44 []))), stk := [], heap := [] }
noncomputable def impl_SpareBytes_l1_b (rec : Int → T2 → T4 → Int → Int → Option (shDen impl_SpareBytes_sh)) (ke2 : Int → Option (shDen impl_SpareBytes_sh)) (x39 : Int) (z230 : T2) (z380 : T4) (x10 : Int) (x40 : Int) : Option (shDen impl_SpareBytes_sh) :=
 (cond (decide (x40 < x39))
 (cond ((decide ((0 : Int) ≤ x40)) && (decide (x40 < (z380.length : Int))))
 (cond (!((lookM .str .bool z230 (z380.getD (x40.toNat) [])).getD false))
 (bindO (impl_size_byte_r (z380.getD (x40.toNat) [])) fun (b5 : Int) => (rec x39 z230 z380 (IntKind.wrap .i64 (x10 + b5)) (IntKind.wrap .i64 (x40 + (1 : Int)))))
 (rec x39 z230 z380 x10 (IntKind.wrap .i64 (x40 + (1 : Int)))))
 none)
 (ke2 x10))
noncomputable def impl_SpareBytes_l1_L (ke2 : Int → Option (shDen impl_SpareBytes_sh))  : Nat → Int → T2 → T4 → Int → Int → Option (shDen impl_SpareBytes_sh)
 | 0 => fun _ _ _ _ _ => none
 | n + 1 => impl_SpareBytes_l1_b (impl_SpareBytes_l1_L ke2  n) ke2 
noncomputable def impl_SpareBytes_l0_b (rec : Int → T4 → Int → T2 → Option (shDen impl_SpareBytes_sh)) (ke0 : T2 → Option (shDen impl_SpareBytes_sh)) (a0 : T0) (a2 : (List Int)) (x27 : Int) (z260 : T4) (x28 : Int) (z230 : T2) : Option (shDen impl_SpareBytes_sh) :=
 (cond (decide (x28 < x27))
 (cond ((decide ((0 : Int) ≤ x28)) && (decide (x28 < (z260.length : Int))))
 (rec x27 z260 (IntKind.wrap .i64 (x28 + (1 : Int))) (setM .str .bool z230 (z260.getD (x28.toNat) []) true))
 none)
 (ke0 z230))
noncomputable def impl_SpareBytes_l0_L (ke0 : T2 → Option (shDen impl_SpareBytes_sh)) (a0 : T0) (a2 : (List Int)) : Nat → Int → T4 → Int → T2 → Option (shDen impl_SpareBytes_sh)
 | 0 => fun _ _ _ _ => none
 | n + 1 => impl_SpareBytes_l0_b (impl_SpareBytes_l0_L ke0 a0 a2 n) ke0 a0 a2
noncomputable def impl_SpareBytes_r (a0 : T0) (a1 : (List Int)) (a2 : (List Int)) : Option (shDen impl_SpareBytes_sh) :=
 (bindO (impl_ruleCode_r a0 [a1, a2]) fun (b1 : Int) => (cond (!(decide (b1 = (0 : Int))))
 (some ((0 : Int), b1))
 (bindO (impl_CutRule_chunks_r a0 a1) fun (b2 : T4) => (impl_SpareBytes_l0_L (fun z230 => (bindO (impl_CutRule_chunks_r a0 a2) fun (b3 : T4) => (impl_SpareBytes_l1_L (fun x10 => (some (x10, (0 : Int)))) FUEL (b3.length : Int) z230 b3 (0 : Int) (0 : Int)))) a0 a2 FUEL (b2.length : Int) b2 (0 : Int) []))))
noncomputable def f14_l1_p (k : Nat) (K : Ex → St → Option (shDen impl_SpareBytes_sh)) (n : Nat) (x39 : Int) (z230 : T2) (z380 : T4) (x10 : Int) (x40 : Int) : Option (shDen impl_SpareBytes_sh) := loopK (f14_cx k) 0 (execK (f14_cx k) (callK (f14_cx k) 8) 0 14 (sub f14_c [1, 1, 1, 1, 0, 1, 0, 0])) f14_l1_cut K n (f14_l1_s x39 z230 z380 x10 x40)

theorem f14_l1_exit2 (k : Nat)  (x10 : Int) : ((blkK 2 (seqK (execK (f14_cx k) (callK (f14_cx k) 8) 0 14 (sub f14_c [1, 1, 1, 1, 1])) (finK (f14_cx k) f14_i impl_SpareBytes_sh))) (.exit 2) (f14_l1_o2 x10) : Option (shDen impl_SpareBytes_sh)) =
 ((some (x10, (0 : Int))) : Option (shDen impl_SpareBytes_sh)) := by kernel_rfl

theorem f14_l1_round (k : Nat) (K : Ex → St → Option (shDen impl_SpareBytes_sh)) (n : Nat) (x39 : Int) (z230 : T2) (z380 : T4) (x10 : Int) (x40 : Int) : (f14_l1_p k K (n + 1)  x39 z230 z380 x10 x40 : Option (shDen impl_SpareBytes_sh)) = impl_SpareBytes_l1_b ((fun x39 z230 z380 x10 x40 => f14_l1_p k K n  x39 z230 z380 x10 x40)) (fun x10 => K (.exit 2) (f14_l1_o2 x10))  x39 z230 z380 x10 x40 := by kernel_rfl

theorem f14_l1_L_eq (K : Ex → St → Option (shDen impl_SpareBytes_sh))  : ∀ (n : Nat) (x39 : Int) (z230 : T2) (z380 : T4) (x10 : Int) (x40 : Int), (f14_l1_p FUEL K n  x39 z230 z380 x10 x40 : Option (shDen impl_SpareBytes_sh)) = impl_SpareBytes_l1_L (fun x10 => K (.exit 2) (f14_l1_o2 x10))  n x39 z230 z380 x10 x40 := by
 intro n
 induction n with
 | zero => intros; rfl
 | succ n ih =>
  intro x39 z230 z380 x10 x40
  exact (f14_l1_round FUEL K n  x39 z230 z380 x10 x40).trans (congrArg (fun f => impl_SpareBytes_l1_b f (fun x10 => K (.exit 2) (f14_l1_o2 x10))  x39 z230 z380 x10 x40) (funext fun x39 => funext fun z230 => funext fun z380 => funext fun x10 => funext fun x40 => ih x39 z230 z380 x10 x40))

noncomputable def f14_l0_p (k : Nat) (K : Ex → St → Option (shDen impl_SpareBytes_sh)) (n : Nat) (a0 : T0) (a2 : (List Int)) (x27 : Int) (z260 : T4) (x28 : Int) (z230 : T2) : Option (shDen impl_SpareBytes_sh) := loopK (f14_cx k) 0 (execK (f14_cx k) (callK (f14_cx k) 8) 0 14 (sub f14_c [1, 1, 1, 0, 1, 0, 0])) f14_l0_cut K n (f14_l0_s a0 a2 x27 z260 x28 z230)

theorem f14_l0_exit0 (k : Nat)  (a0 : T0) (a2 : (List Int)) (z230 : T2) : ((blkK 0 (seqK (execK (f14_cx k) (callK (f14_cx k) 8) 0 14 (sub f14_c [1, 1, 1, 1])) (finK (f14_cx k) f14_i impl_SpareBytes_sh))) (.exit 0) (f14_l0_o0 a0 a2 z230) : Option (shDen impl_SpareBytes_sh)) =
 ((bindO (impl_CutRule_chunks_r a0 a2) fun (b3 : T4) => (loopK (f14_cx k) 0 (execK (f14_cx k) (callK (f14_cx k) 8) 0 14 (sub f14_c [1, 1, 1, 1, 0, 1, 0, 0])) f14_l1_cut (blkK 2 (seqK (execK (f14_cx k) (callK (f14_cx k) 8) 0 14 (sub f14_c [1, 1, 1, 1, 1])) (finK (f14_cx k) f14_i impl_SpareBytes_sh))) k (f14_l1_s (b3.length : Int) z230 b3 (0 : Int) (0 : Int)))) : Option (shDen impl_SpareBytes_sh)) := by kernel_rfl

theorem f14_l0_round (k : Nat) (K : Ex → St → Option (shDen impl_SpareBytes_sh)) (n : Nat) (a0 : T0) (a2 : (List Int)) (x27 : Int) (z260 : T4) (x28 : Int) (z230 : T2) : (f14_l0_p k K (n + 1) a0 a2 x27 z260 x28 z230 : Option (shDen impl_SpareBytes_sh)) = impl_SpareBytes_l0_b ((fun x27 z260 x28 z230 => f14_l0_p k K n a0 a2 x27 z260 x28 z230)) (fun z230 => K (.exit 0) (f14_l0_o0 a0 a2 z230)) a0 a2 x27 z260 x28 z230 := by kernel_rfl

theorem f14_l0_L_eq (K : Ex → St → Option (shDen impl_SpareBytes_sh)) (a0 : T0) (a2 : (List Int)) : ∀ (n : Nat) (x27 : Int) (z260 : T4) (x28 : Int) (z230 : T2), (f14_l0_p FUEL K n a0 a2 x27 z260 x28 z230 : Option (shDen impl_SpareBytes_sh)) = impl_SpareBytes_l0_L (fun z230 => K (.exit 0) (f14_l0_o0 a0 a2 z230)) a0 a2 n x27 z260 x28 z230 := by
 intro n
 induction n with
 | zero => intros; rfl
 | succ n ih =>
  intro x27 z260 x28 z230
  exact (f14_l0_round FUEL K n a0 a2 x27 z260 x28 z230).trans (congrArg (fun f => impl_SpareBytes_l0_b f (fun z230 => K (.exit 0) (f14_l0_o0 a0 a2 z230)) a0 a2 x27 z260 x28 z230) (funext fun x27 => funext fun z260 => funext fun x28 => funext fun z230 => ih x27 z260 x28 z230))

theorem f14_start (k : Nat) (a0 : T0) (a1 : (List Int)) (a2 : (List Int)) : fnK (f14_cx k) 8 14 f14_i impl_SpareBytes_sh [.pv K0 a0, .pv K9 a1, .pv K9 a2] =
 ((bindO (impl_ruleCode_r a0 [a1, a2]) fun (b1 : Int) => (cond (!(decide (b1 = (0 : Int))))
 (some ((0 : Int), b1))
 (bindO (impl_CutRule_chunks_r a0 a1) fun (b2 : T4) => (loopK (f14_cx k) 0 (execK (f14_cx k) (callK (f14_cx k) 8) 0 14 (sub f14_c [1, 1, 1, 0, 1, 0, 0])) f14_l0_cut (blkK 0 (seqK (execK (f14_cx k) (callK (f14_cx k) 8) 0 14 (sub f14_c [1, 1, 1, 1])) (finK (f14_cx k) f14_i impl_SpareBytes_sh))) k (f14_l0_s a0 a2 (b2.length : Int) b2 (0 : Int) []))))) : Option (shDen impl_SpareBytes_sh)) := by kernel_rfl

theorem f14_run (a0 : T0) (a1 : (List Int)) (a2 : (List Int)) : fnK (f14_cx FUEL) 8 14 f14_i impl_SpareBytes_sh [.pv K0 a0, .pv K9 a1, .pv K9 a2] = impl_SpareBytes_r a0 a1 a2 :=
 (f14_start FUEL a0 a1 a2).trans (bindC (fun b1 => condC (rfl) (bindC (fun b2 => (f14_l0_L_eq _ a0 a2 FUEL (b2.length : Int) b2 (0 : Int) []).trans (congrArg (fun e0 => impl_SpareBytes_l0_L e0 a0 a2 FUEL (b2.length : Int) b2 (0 : Int) []) (funext fun z230 => (f14_l0_exit0 FUEL  a0 a2 z230).trans (bindC (fun b3 => (f14_l1_L_eq _  FUEL (b3.length : Int) z230 b3 (0 : Int) (0 : Int)).trans (congrArg (fun e0 => impl_SpareBytes_l1_L e0  FUEL (b3.length : Int) z230 b3 (0 : Int) (0 : Int)) (funext fun x10 => (f14_l1_exit2 FUEL  x10).trans (rfl)))))))))))

noncomputable def f14_con : Con := { ps := (.pair K0 K1), sh := impl_SpareBytes_sh, raw := fun x => impl_SpareBytes_r x.1 x.2.1 x.2.2.1 }
theorem f14_conOk : ConOk Try.prog 14 f14_con := con_of_fn (f14_tabs FUEL) (depth := 8) f14_ok fun x y h => (f14_run x.1 x.2.1 x.2.2.1).trans h

noncomputable def f12_l0_cut : Cut := { keep := [0, 1, 5], stk := [], ids := [], own := [], outs := [(0, [4], []), (1, [], [])] }
noncomputable def f12_cx (k : Nat) : Cx := mkC [] [] [] [] [(12, [(0, f12_l0_cut)])] k [] false
theorem f12_tabs (k : Nat) : TabsOk Try.prog (f12_cx k) := mkC_ok trivial trivial trivial trivial
abbrev laws_eqByteS_sh : List Sh := [.pl .bool]
noncomputable def f12_l0_s (a0 : (List Int)) (a1 : (List Int)) (x5 : Int) : St := { env := (.pv K9 a0 :: .pv K9 a1 :: (dd 3 (.pv (.int .i64) x5 :: (dd 20 [])))), stk := [], heap := [] }
noncomputable def f12_l0_o  : St := { env := (dd 4 (.pv .bool false :: (dd 21 []))), stk := [], heap := [] }
noncomputable def f12_l0_o0  : St := { env := (dd 26 []), stk := [], heap := [] }
noncomputable def laws_eqByteS_l0_b (rec : Int → Option (shDen laws_eqByteS_sh)) (kr : Option (shDen laws_eqByteS_sh)) (ke0 : Option (shDen laws_eqByteS_sh)) (a0 : (List Int)) (a1 : (List Int)) (x5 : Int) : Option (shDen laws_eqByteS_sh) :=
 (cond (decide (x5 < (a0.length : Int)))
 (cond ((decide ((0 : Int) ≤ x5)) && (decide (x5 < (a0.length : Int))))
 (cond ((decide ((0 : Int) ≤ x5)) && (decide (x5 < (a1.length : Int))))
 (cond (!(decide ((a0.getD (x5.toNat) (0 : Int)) = (a1.getD (x5.toNat) (0 : Int)))))
 (kr)
 (rec (IntKind.wrap .i64 (x5 + (1 : Int)))))
 none)
 none)
 (ke0))
noncomputable def laws_eqByteS_l0_L (kr : Option (shDen laws_eqByteS_sh)) (ke0 : Option (shDen laws_eqByteS_sh)) (a0 : (List Int)) (a1 : (List Int)) : Nat → Int → Option (shDen laws_eqByteS_sh)
 | 0 => fun _ => none
 | n + 1 => laws_eqByteS_l0_b (laws_eqByteS_l0_L kr ke0 a0 a1 n) kr ke0 a0 a1
noncomputable def laws_eqByteS_r (a0 : (List Int)) (a1 : (List Int)) : Option (shDen laws_eqByteS_sh) :=
 (cond (!(decide ((a0.length : Int) = (a1.length : Int))))
 (some false)
 (laws_eqByteS_l0_L (some false) (some true) a0 a1 FUEL (0 : Int)))
noncomputable def f12_l0_p (k : Nat) (K : Ex → St → Option (shDen laws_eqByteS_sh)) (n : Nat) (a0 : (List Int)) (a1 : (List Int)) (x5 : Int) : Option (shDen laws_eqByteS_sh) := loopK (f12_cx k) 0 (execK (f12_cx k) (callK (f12_cx k) 8) 0 12 (sub f12_c [1, 1, 0, 1, 0, 0])) f12_l0_cut K n (f12_l0_s a0 a1 x5)

theorem f12_l0_ret (k : Nat)   : ((blkK 0 (seqK (execK (f12_cx k) (callK (f12_cx k) 8) 0 12 (sub f12_c [1, 1, 1])) (finK (f12_cx k) f12_i laws_eqByteS_sh))) .ret (f12_l0_o) : Option (shDen laws_eqByteS_sh)) =
 ((some false) : Option (shDen laws_eqByteS_sh)) := by kernel_rfl

theorem f12_l0_exit0 (k : Nat)   : ((blkK 0 (seqK (execK (f12_cx k) (callK (f12_cx k) 8) 0 12 (sub f12_c [1, 1, 1])) (finK (f12_cx k) f12_i laws_eqByteS_sh))) (.exit 0) (f12_l0_o0) : Option (shDen laws_eqByteS_sh)) =
 ((some true) : Option (shDen laws_eqByteS_sh)) := by kernel_rfl

theorem f12_l0_round (k : Nat) (K : Ex → St → Option (shDen laws_eqByteS_sh)) (n : Nat) (a0 : (List Int)) (a1 : (List Int)) (x5 : Int) : (f12_l0_p k K (n + 1) a0 a1 x5 : Option (shDen laws_eqByteS_sh)) = laws_eqByteS_l0_b ((fun x5 => f12_l0_p k K n a0 a1 x5)) (K .ret (f12_l0_o)) (K (.exit 0) (f12_l0_o0)) a0 a1 x5 := by kernel_rfl

theorem f12_l0_L_eq (K : Ex → St → Option (shDen laws_eqByteS_sh)) (a0 : (List Int)) (a1 : (List Int)) : ∀ (n : Nat) (x5 : Int), (f12_l0_p FUEL K n a0 a1 x5 : Option (shDen laws_eqByteS_sh)) = laws_eqByteS_l0_L (K .ret (f12_l0_o)) (K (.exit 0) (f12_l0_o0)) a0 a1 n x5 := by
 intro n
 induction n with
 | zero => intros; rfl
 | succ n ih =>
  intro x5
  exact (f12_l0_round FUEL K n a0 a1 x5).trans (congrArg (fun f => laws_eqByteS_l0_b f (K .ret (f12_l0_o)) (K (.exit 0) (f12_l0_o0)) a0 a1 x5) (funext fun x5 => ih x5))

theorem f12_start (k : Nat) (a0 : (List Int)) (a1 : (List Int)) : fnK (f12_cx k) 8 12 f12_i laws_eqByteS_sh [.pv K9 a0, .pv K9 a1] =
 ((cond (!(decide ((a0.length : Int) = (a1.length : Int))))
 (some false)
 (loopK (f12_cx k) 0 (execK (f12_cx k) (callK (f12_cx k) 8) 0 12 (sub f12_c [1, 1, 0, 1, 0, 0])) f12_l0_cut (blkK 0 (seqK (execK (f12_cx k) (callK (f12_cx k) 8) 0 12 (sub f12_c [1, 1, 1])) (finK (f12_cx k) f12_i laws_eqByteS_sh))) k (f12_l0_s a0 a1 (0 : Int)))) : Option (shDen laws_eqByteS_sh)) := by kernel_rfl

theorem f12_run (a0 : (List Int)) (a1 : (List Int)) : fnK (f12_cx FUEL) 8 12 f12_i laws_eqByteS_sh [.pv K9 a0, .pv K9 a1] = laws_eqByteS_r a0 a1 :=
 (f12_start FUEL a0 a1).trans (condC (rfl) ((f12_l0_L_eq _ a0 a1 FUEL (0 : Int)).trans (cong2 (fun e0 e1 => laws_eqByteS_l0_L e0 e1 a0 a1 FUEL (0 : Int)) ( (f12_l0_ret FUEL  ).trans (rfl)) ( (f12_l0_exit0 FUEL  ).trans (rfl)))))

noncomputable def f12_con : Con := { ps := K1, sh := laws_eqByteS_sh, raw := fun x => laws_eqByteS_r x.1 x.2.1 }
theorem f12_conOk : ConOk Try.prog 12 f12_con := con_of_fn (f12_tabs FUEL) (depth := 8) f12_ok fun x y h => (f12_run x.1 x.2.1).trans h

noncomputable def laws_FnExactSpareBytes_cx (k : Nat) : Cx := mkC [] [(9, f9_con), (10, f10_con), (12, f12_con), (13, f13_con), (14, f14_con)] [] [] [] k [] false
theorem laws_FnExactSpareBytes_tabs (k : Nat) : TabsOk Try.prog (laws_FnExactSpareBytes_cx k) := mkC_ok ⟨f9_conOk, f10_conOk, f12_conOk, f13_conOk, f14_conOk, trivial⟩ trivial trivial trivial
abbrev laws_FnExactSpareBytes_sh : List Sh := [.pl .bool]
noncomputable def laws_FnExactSpareBytes_r (a0 : T0) (a1 : (List Int)) (a2 : (List Int)) : Option (shDen laws_FnExactSpareBytes_sh) :=
 (cond (decide ((1048576 : Int) < (a1.length : Int)))
 (some true)
 (cond (decide ((1048576 : Int) < (a2.length : Int)))
 (some true)
 (bindO (laws_toCutRule_r a0) fun (b1 : T0) => (bindO (laws_toByteS_r a1) fun (b2 : (List Int)) => (bindO (laws_toByteS_r a2) fun (b3 : (List Int)) => (bindO (spec_SpareBytes_r b1 b2 b3) fun (b4 : (Int × Int)) => (bindO (laws_toByteS_r a1) fun (b5 : (List Int)) => (bindO (laws_toByteS_r a2) fun (b6 : (List Int)) => (bindO (laws_toCutRule_r a0) fun (b7 : T0) => (bindO (impl_SpareBytes_r b7 b5 b6) fun (b8 : (Int × Int)) => (cond (!(decide (b8.1 = b4.1)))
 (some false)
 (cond (!(decide (b8.2 = b4.2)))
 (some false)
 (bindO (laws_toByteS_r a1) fun (b9 : (List Int)) => (bindO (laws_eqByteS_r b5 b9) fun (b10 : Bool) => (cond (!b10)
 (some false)
 (bindO (laws_toByteS_r a2) fun (b11 : (List Int)) => (bindO (laws_eqByteS_r b6 b11) fun (b12 : Bool) => (cond (!b12)
 (some false)
 (some true)))))))))))))))))))
theorem laws_FnExactSpareBytes_run (a0 : T0) (a1 : (List Int)) (a2 : (List Int)) : fnK (laws_FnExactSpareBytes_cx FUEL) 8 4 laws_FnExactSpareBytes_i laws_FnExactSpareBytes_sh [.pv K0 a0, .pv K9 a1, .pv K9 a2] = laws_FnExactSpareBytes_r a0 a1 a2 := by kernel_rfl

noncomputable def laws_FnExactSpareBytes_con : Con := { ps := (.pair K0 K1), sh := laws_FnExactSpareBytes_sh, raw := fun x => laws_FnExactSpareBytes_r x.1 x.2.1 x.2.2.1 }
theorem laws_FnExactSpareBytes_conOk : ConOk Try.prog 4 laws_FnExactSpareBytes_con := con_of_fn (laws_FnExactSpareBytes_tabs FUEL) (depth := 8) laws_FnExactSpareBytes_ok fun x y h => (laws_FnExactSpareBytes_run x.1 x.2.1 x.2.2.1).trans h

end Go.Ai.G
