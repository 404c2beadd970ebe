/- Made by a program of this work out of the program: tables and plain functions, with the proof that each Go function does what its plain function says. No conditions. -/
import Derived.Test.YtgchclimojffeaaGreatExactProofFromCopyTab
namespace Go.Ai.G
open Go.Proofs
open Go.Ai
set_option linter.unusedVariables false
set_option linter.unusedSimpArgs false
set_option maxRecDepth 100000

noncomputable def f80_cx (k : Nat) : Cx := mkC [] [] [] [] [] k [] false
theorem f80_tabs (k : Nat) : TabsOk Tryz.prog (f80_cx k) := mkC_ok trivial trivial trivial trivial
abbrev laws_szByteS_sh : List Sh := [.pl (.int .i64)]
noncomputable def laws_szByteS_r (a0 : (List Int)) (a1 : Int) : Option (shDen laws_szByteS_sh) :=
 (cond (decide ((IntKind.wrap .i64 (a1 - (a0.length : Int))) < (0 : Int)))
 (some (-1 : Int))
 (some (IntKind.wrap .i64 (a1 - (a0.length : Int)))))
theorem f80_run (a0 : (List Int)) (a1 : Int) : fnK (f80_cx FUEL) 8 80 f80_i laws_szByteS_sh [.pv K25 a0, .pv (.int .i64) a1] = laws_szByteS_r a0 a1 := by kernel_rfl

noncomputable def f80_con : Con := { ps := K12, sh := laws_szByteS_sh, raw := fun x => laws_szByteS_r x.1 x.2.1 }
theorem f80_conOk : ConOk Tryz.prog 80 f80_con := con_of_fn (f80_tabs FUEL) (depth := 8) f80_ok fun x y h => (f80_run x.1 x.2.1).trans h

noncomputable def f49_cx (k : Nat) : Cx := mkC [] [(80, f80_con)] [] [] [] k [] false
theorem f49_tabs (k : Nat) : TabsOk Tryz.prog (f49_cx k) := mkC_ok ⟨f80_conOk, trivial⟩ trivial trivial trivial
abbrev laws_szBlob_sh : List Sh := [.pl (.int .i64)]
noncomputable def laws_szBlob_r (a0 : T10) (a1 : Int) : Option (shDen laws_szBlob_sh) :=
 (bindO (laws_szByteS_r a0.2.1 a1) fun (b1 : Int) => (cond (decide (b1 < (0 : Int)))
 (some (-1 : Int))
 (some b1)))
theorem f49_run (a0 : T10) (a1 : Int) : fnK (f49_cx FUEL) 8 49 f49_i laws_szBlob_sh [.pv K13 a0, .pv (.int .i64) a1] = laws_szBlob_r a0 a1 := by kernel_rfl

noncomputable def f49_con : Con := { ps := (.pair K13 K23), sh := laws_szBlob_sh, raw := fun x => laws_szBlob_r x.1 x.2.1 }
theorem f49_conOk : ConOk Tryz.prog 49 f49_con := con_of_fn (f49_tabs FUEL) (depth := 8) f49_ok fun x y h => (f49_run x.1 x.2.1).trans h

noncomputable def f26_l0_cut : Cut := { keep := [0, 1, 5], stk := [], ids := [], own := [], outs := [(0, [4], []), (1, [1], [])] }
noncomputable def f26_cx (k : Nat) : Cx := mkC [] [(49, f49_con)] [] [] [(26, [(0, f26_l0_cut)])] k [] false
theorem f26_tabs (k : Nat) : TabsOk Tryz.prog (f26_cx k) := mkC_ok ⟨f49_conOk, trivial⟩ trivial trivial trivial
abbrev laws_szBlobS_sh : List Sh := [.pl (.int .i64)]
noncomputable def f26_l0_s (a0 : T8) (x1 : Int) (x5 : Int) : St := { env := (.pv K11 a0 :: .pv (.int .i64) x1 :: (dd 3 (.pv (.int .i64) x5 :: (dd 21 [])))), stk := [], heap := [] }
noncomputable def f26_l0_o  : St := { env := (dd 4 (.pv (.int .i64) (-1 : Int) :: (dd 22 []))), stk := [], heap := [] }
noncomputable def f26_l0_o0 (x1 : Int) : St := { env := (.dead :: .pv (.int .i64) x1 :: (dd 25 [])), stk := [], heap := [] }
noncomputable def laws_szBlobS_l0_b (rec : Int → Int → Option (shDen laws_szBlobS_sh)) (kr : Option (shDen laws_szBlobS_sh)) (ke0 : Int → Option (shDen laws_szBlobS_sh)) (a0 : T8) (x1 : Int) (x5 : Int) : Option (shDen laws_szBlobS_sh) :=
 (cond (decide (x5 < (a0.length : Int)))
 (cond ((decide ((0 : Int) ≤ x5)) && (decide (x5 < (a0.length : Int))))
 (bindO (laws_szBlob_r (a0.getD (x5.toNat) ((0 : Int), ([], ()))) x1) fun (b2 : Int) => (cond (decide (b2 < (0 : Int)))
 (kr)
 (rec b2 (IntKind.wrap .i64 (x5 + (1 : Int))))))
 none)
 (ke0 x1))
noncomputable def laws_szBlobS_l0_L (kr : Option (shDen laws_szBlobS_sh)) (ke0 : Int → Option (shDen laws_szBlobS_sh)) (a0 : T8) : Nat → Int → Int → Option (shDen laws_szBlobS_sh)
 | 0 => fun _ _ => none
 | n + 1 => laws_szBlobS_l0_b (laws_szBlobS_l0_L kr ke0 a0 n) kr ke0 a0
noncomputable def laws_szBlobS_r (a0 : T8) (a1 : Int) : Option (shDen laws_szBlobS_sh) :=
 (cond (decide ((IntKind.wrap .i64 (a1 - (a0.length : Int))) < (0 : Int)))
 (some (-1 : Int))
 (laws_szBlobS_l0_L (some (-1 : Int)) (fun x1 => (some x1)) a0 FUEL (IntKind.wrap .i64 (a1 - (a0.length : Int))) (0 : Int)))
noncomputable def f26_l0_p (k : Nat) (K : Ex → St → Option (shDen laws_szBlobS_sh)) (n : Nat) (a0 : T8) (x1 : Int) (x5 : Int) : Option (shDen laws_szBlobS_sh) := loopK (f26_cx k) 0 (execK (f26_cx k) (callK (f26_cx k) 8) 0 26 (sub f26_c [1, 1, 1, 0, 1, 0, 0])) f26_l0_cut K n (f26_l0_s a0 x1 x5)

theorem f26_l0_ret (k : Nat)   : ((blkK 0 (seqK (execK (f26_cx k) (callK (f26_cx k) 8) 0 26 (sub f26_c [1, 1, 1, 1])) (finK (f26_cx k) f26_i laws_szBlobS_sh))) .ret (f26_l0_o) : Option (shDen laws_szBlobS_sh)) =
 ((some (-1 : Int)) : Option (shDen laws_szBlobS_sh)) := by kernel_rfl

theorem f26_l0_exit0 (k : Nat)  (x1 : Int) : ((blkK 0 (seqK (execK (f26_cx k) (callK (f26_cx k) 8) 0 26 (sub f26_c [1, 1, 1, 1])) (finK (f26_cx k) f26_i laws_szBlobS_sh))) (.exit 0) (f26_l0_o0 x1) : Option (shDen laws_szBlobS_sh)) =
 ((some x1) : Option (shDen laws_szBlobS_sh)) := by kernel_rfl

theorem f26_l0_round (k : Nat) (K : Ex → St → Option (shDen laws_szBlobS_sh)) (n : Nat) (a0 : T8) (x1 : Int) (x5 : Int) : (f26_l0_p k K (n + 1) a0 x1 x5 : Option (shDen laws_szBlobS_sh)) = laws_szBlobS_l0_b ((fun x1 x5 => f26_l0_p k K n a0 x1 x5)) (K .ret (f26_l0_o)) (fun x1 => K (.exit 0) (f26_l0_o0 x1)) a0 x1 x5 := by kernel_rfl

theorem f26_l0_L_eq (K : Ex → St → Option (shDen laws_szBlobS_sh)) (a0 : T8) : ∀ (n : Nat) (x1 : Int) (x5 : Int), (f26_l0_p FUEL K n a0 x1 x5 : Option (shDen laws_szBlobS_sh)) = laws_szBlobS_l0_L (K .ret (f26_l0_o)) (fun x1 => K (.exit 0) (f26_l0_o0 x1)) a0 n x1 x5 := by
 intro n
 induction n with
 | zero => intros; rfl
 | succ n ih =>
  intro x1 x5
  exact (f26_l0_round FUEL K n a0 x1 x5).trans (congrArg (fun f => laws_szBlobS_l0_b f (K .ret (f26_l0_o)) (fun x1 => K (.exit 0) (f26_l0_o0 x1)) a0 x1 x5) (funext fun x1 => funext fun x5 => ih x1 x5))

theorem f26_start (k : Nat) (a0 : T8) (a1 : Int) : fnK (f26_cx k) 8 26 f26_i laws_szBlobS_sh [.pv K11 a0, .pv (.int .i64) a1] =
 ((cond (decide ((IntKind.wrap .i64 (a1 - (a0.length : Int))) < (0 : Int)))
 (some (-1 : Int))
 (loopK (f26_cx k) 0 (execK (f26_cx k) (callK (f26_cx k) 8) 0 26 (sub f26_c [1, 1, 1, 0, 1, 0, 0])) f26_l0_cut (blkK 0 (seqK (execK (f26_cx k) (callK (f26_cx k) 8) 0 26 (sub f26_c [1, 1, 1, 1])) (finK (f26_cx k) f26_i laws_szBlobS_sh))) k (f26_l0_s a0 (IntKind.wrap .i64 (a1 - (a0.length : Int))) (0 : Int)))) : Option (shDen laws_szBlobS_sh)) := by kernel_rfl

theorem f26_run (a0 : T8) (a1 : Int) : fnK (f26_cx FUEL) 8 26 f26_i laws_szBlobS_sh [.pv K11 a0, .pv (.int .i64) a1] = laws_szBlobS_r a0 a1 :=
 (f26_start FUEL a0 a1).trans (condC (rfl) ((f26_l0_L_eq _ a0 FUEL (IntKind.wrap .i64 (a1 - (a0.length : Int))) (0 : Int)).trans (cong2 (fun e0 e1 => laws_szBlobS_l0_L e0 e1 a0 FUEL (IntKind.wrap .i64 (a1 - (a0.length : Int))) (0 : Int)) ( (f26_l0_ret FUEL  ).trans (rfl)) (funext fun x1 => (f26_l0_exit0 FUEL  x1).trans (rfl)))))

noncomputable def f26_con : Con := { ps := (.pair K11 K23), sh := laws_szBlobS_sh, raw := fun x => laws_szBlobS_r x.1 x.2.1 }
theorem f26_conOk : ConOk Tryz.prog 26 f26_con := con_of_fn (f26_tabs FUEL) (depth := 8) f26_ok fun x y h => (f26_run x.1 x.2.1).trans h

noncomputable def f6_cx (k : Nat) : Cx := mkC [] [(26, f26_con)] [] [] [] k [] false
theorem f6_tabs (k : Nat) : TabsOk Tryz.prog (f6_cx k) := mkC_ok ⟨f26_conOk, trivial⟩ trivial trivial trivial
abbrev laws_szStore_sh : List Sh := [.pl (.int .i64)]
noncomputable def laws_szStore_r (a0 : T6) (a1 : Int) : Option (shDen laws_szStore_sh) :=
 (bindO (laws_szBlobS_r a0.1 a1) fun (b1 : Int) => (cond (decide (b1 < (0 : Int)))
 (some (-1 : Int))
 (some b1)))
theorem f6_run (a0 : T6) (a1 : Int) : fnK (f6_cx FUEL) 8 6 f6_i laws_szStore_sh [.pv K7 a0, .pv (.int .i64) a1] = laws_szStore_r a0 a1 := by kernel_rfl

noncomputable def f6_con : Con := { ps := (.pair K7 K23), sh := laws_szStore_sh, raw := fun x => laws_szStore_r x.1 x.2.1 }
theorem f6_conOk : ConOk Tryz.prog 6 f6_con := con_of_fn (f6_tabs FUEL) (depth := 8) f6_ok fun x y h => (f6_run x.1 x.2.1).trans h

noncomputable def f83_l0_cut : Cut := { keep := [0, 3, 4], stk := [], ids := [70], own := [], outs := [(1, [3], [70])] }
noncomputable def f83_cx (k : Nat) : Cx := mkC [] [] [] [] [(83, [(0, f83_l0_cut)])] k [] false
theorem f83_tabs (k : Nat) : TabsOk Tryz.prog (f83_cx k) := mkC_ok trivial trivial trivial trivial
abbrev laws_toByteS_sh : List Sh := [.own 5 (.int .u8)]
noncomputable def f83_l0_s (a0 : (List Int)) (x4 : Int) (z70 : (List Int)) : St := { env := (.pv K25 a0 :: .dead :: .dead :: .sl 70 (.int .u8) :: .pv (.int .i64) x4 :: (dd 17 [])), stk := [], heap := [(70, .arr 5 (.int .u8) z70)] }
noncomputable def f83_l0_o0 (z70 : (List Int)) : St := { env := (dd 3 (.sl 70 (.int .u8) :: (dd 18 []))), stk := [], heap := [(70, .arr 5 (.int .u8) z70)] }
noncomputable def laws_toByteS_l0_b (rec : Int → (List Int) → Option (shDen laws_toByteS_sh)) (ke0 : (List Int) → Option (shDen laws_toByteS_sh)) (a0 : (List Int)) (x4 : Int) (z70 : (List Int)) : Option (shDen laws_toByteS_sh) :=
 (cond (decide (x4 < (a0.length : Int)))
 (cond ((decide ((0 : Int) ≤ x4)) && (decide (x4 < (a0.length : Int))))
 (cond ((decide ((0 : Int) ≤ x4)) && (decide (x4 < (z70.length : Int))))
 (rec (IntKind.wrap .i64 (x4 + (1 : Int))) (z70.set (x4.toNat) (a0.getD (x4.toNat) (0 : Int))))
 none)
 none)
 (ke0 z70))
noncomputable def laws_toByteS_l0_L (ke0 : (List Int) → Option (shDen laws_toByteS_sh)) (a0 : (List Int)) : Nat → Int → (List Int) → Option (shDen laws_toByteS_sh)
 | 0 => fun _ _ => none
 | n + 1 => laws_toByteS_l0_b (laws_toByteS_l0_L ke0 a0 n) ke0 a0
noncomputable def laws_toByteS_r (a0 : (List Int)) : Option (shDen laws_toByteS_sh) :=
 (cond (((decide ((0 : Int) ≤ (a0.length : Int))) && (decide (((a0.length : Int) * (1 : Int)) ≤ (140737488355328 : Int)))) && (decide ((a0.length : Int) ≤ (9223372036854775807 : Int))))
 (laws_toByteS_l0_L (fun z70 => (some z70)) a0 FUEL (0 : Int) (List.replicate ((a0.length : Int).toNat) (0 : Int)))
 none)
noncomputable def f83_l0_p (k : Nat) (K : Ex → St → Option (shDen laws_toByteS_sh)) (n : Nat) (a0 : (List Int)) (x4 : Int) (z70 : (List Int)) : Option (shDen laws_toByteS_sh) := loopK (f83_cx k) 0 (execK (f83_cx k) (callK (f83_cx k) 8) 0 83 (sub f83_c [1, 1, 0, 1, 0, 0])) f83_l0_cut K n (f83_l0_s a0 x4 z70)

theorem f83_l0_exit0 (k : Nat)  (z70 : (List Int)) : ((blkK 0 (seqK (execK (f83_cx k) (callK (f83_cx k) 8) 0 83 (sub f83_c [1, 1, 1])) (finK (f83_cx k) f83_i laws_toByteS_sh))) (.exit 0) (f83_l0_o0 z70) : Option (shDen laws_toByteS_sh)) =
 ((some z70) : Option (shDen laws_toByteS_sh)) := by kernel_rfl

theorem f83_l0_round (k : Nat) (K : Ex → St → Option (shDen laws_toByteS_sh)) (n : Nat) (a0 : (List Int)) (x4 : Int) (z70 : (List Int)) : (f83_l0_p k K (n + 1) a0 x4 z70 : Option (shDen laws_toByteS_sh)) = laws_toByteS_l0_b ((fun x4 z70 => f83_l0_p k K n a0 x4 z70)) (fun z70 => K (.exit 0) (f83_l0_o0 z70)) a0 x4 z70 := by kernel_rfl

theorem f83_l0_L_eq (K : Ex → St → Option (shDen laws_toByteS_sh)) (a0 : (List Int)) : ∀ (n : Nat) (x4 : Int) (z70 : (List Int)), (f83_l0_p FUEL K n a0 x4 z70 : Option (shDen laws_toByteS_sh)) = laws_toByteS_l0_L (fun z70 => K (.exit 0) (f83_l0_o0 z70)) a0 n x4 z70 := by
 intro n
 induction n with
 | zero => intros; rfl
 | succ n ih =>
  intro x4 z70
  exact (f83_l0_round FUEL K n a0 x4 z70).trans (congrArg (fun f => laws_toByteS_l0_b f (fun z70 => K (.exit 0) (f83_l0_o0 z70)) a0 x4 z70) (funext fun x4 => funext fun z70 => ih x4 z70))

theorem f83_start (k : Nat) (a0 : (List Int)) : fnK (f83_cx k) 8 83 f83_i laws_toByteS_sh [.pv K25 a0] =
 ((cond (((decide ((0 : Int) ≤ (a0.length : Int))) && (decide (((a0.length : Int) * (1 : Int)) ≤ (140737488355328 : Int)))) && (decide ((a0.length : Int) ≤ (9223372036854775807 : Int))))
 (loopK (f83_cx k) 0 (execK (f83_cx k) (callK (f83_cx k) 8) 0 83 (sub f83_c [1, 1, 0, 1, 0, 0])) f83_l0_cut (blkK 0 (seqK (execK (f83_cx k) (callK (f83_cx k) 8) 0 83 (sub f83_c [1, 1, 1])) (finK (f83_cx k) f83_i laws_toByteS_sh))) k (f83_l0_s a0 (0 : Int) (List.replicate ((a0.length : Int).toNat) (0 : Int))))
 none) : Option (shDen laws_toByteS_sh)) := by kernel_rfl

theorem f83_run (a0 : (List Int)) : fnK (f83_cx FUEL) 8 83 f83_i laws_toByteS_sh [.pv K25 a0] = laws_toByteS_r a0 :=
 (f83_start FUEL a0).trans (condC ((f83_l0_L_eq _ a0 FUEL (0 : Int) (List.replicate ((a0.length : Int).toNat) (0 : Int))).trans (congrArg (fun e0 => laws_toByteS_l0_L e0 a0 FUEL (0 : Int) (List.replicate ((a0.length : Int).toNat) (0 : Int))) (funext fun z70 => (f83_l0_exit0 FUEL  z70).trans (rfl)))) (rfl))

noncomputable def f83_con : Con := { ps := K19, sh := laws_toByteS_sh, raw := fun x => laws_toByteS_r x.1 }
theorem f83_conOk : ConOk Tryz.prog 83 f83_con := con_of_fn (f83_tabs FUEL) (depth := 8) f83_ok fun x y h => (f83_run x.1).trans h

noncomputable def f53_cx (k : Nat) : Cx := mkC [] [(83, f83_con)] [] [] [] k [] false
theorem f53_tabs (k : Nat) : TabsOk Tryz.prog (f53_cx k) := mkC_ok ⟨f83_conOk, trivial⟩ trivial trivial trivial
abbrev laws_toBlob_sh : List Sh := [.pr (.pl (.int .u8)) (.pr (.own 5 (.int .u8)) (.pl .unit))]
noncomputable def laws_toBlob_r (a0 : T10) : Option (shDen laws_toBlob_sh) :=
 (bindO (laws_toByteS_r a0.2.1) fun (b1 : (List Int)) => (some (a0.1, (b1, ()))))
theorem f53_run (a0 : T10) : fnK (f53_cx FUEL) 8 53 f53_i laws_toBlob_sh [.pv K13 a0] = laws_toBlob_r a0 := by kernel_rfl

noncomputable def f53_con : Con := { ps := K10, sh := laws_toBlob_sh, raw := fun x => laws_toBlob_r x.1 }
theorem f53_conOk : ConOk Tryz.prog 53 f53_con := con_of_fn (f53_tabs FUEL) (depth := 8) f53_ok fun x y h => (f53_run x.1).trans h

noncomputable def f28_d_l0_cut : Cut := { keep := [0, 3, 4], stk := [], ids := [70], own := [], outs := [(1, [3], [70])] }
noncomputable def f28_d_cx (k : Nat) : Cx := mkC [] [(53, f53_con)] [] [] [(28, [(0, f28_d_l0_cut)])] k dps false
theorem f28_d_tabs (k : Nat) : TabsOk Tryz.prog (f28_d_cx k) := mkC_ok ⟨f53_conOk, trivial⟩ trivial trivial trivial
abbrev laws_toBlobS_d_sh : List Sh := [.tre 72 (.pr (.pl (.int .u8)) (.pr (.sl 5 (.pl (.int .u8))) (.pl .unit)))]
noncomputable def f28_d_l0_s (a0 : T8) (x4 : Int) (z70 : T8) : St := { env := (.pv K11 a0 :: .dead :: .dead :: .inn 70 [] K13 :: .pv (.int .i64) x4 :: (dd 18 [])), stk := [], heap := [(70, .tre 72 (.pr (.pl (.int .u8)) (.pr (.sl 5 (.pl (.int .u8))) (.pl .unit))) z70)] }
noncomputable def f28_d_l0_o0 (z70 : T8) : St := { env := (dd 3 (.inn 70 [] K13 :: (dd 19 []))), stk := [], heap := [(70, .tre 72 (.pr (.pl (.int .u8)) (.pr (.sl 5 (.pl (.int .u8))) (.pl .unit))) z70)] }
noncomputable def laws_toBlobS_d_l0_b (rec : Int → T8 → Option (shDen laws_toBlobS_d_sh)) (ke0 : T8 → Option (shDen laws_toBlobS_d_sh)) (a0 : T8) (x4 : Int) (z70 : T8) : Option (shDen laws_toBlobS_d_sh) :=
 (cond (decide (x4 < (a0.length : Int)))
 (cond ((decide ((0 : Int) ≤ x4)) && (decide (x4 < (a0.length : Int))))
 (bindO (laws_toBlob_r (a0.getD (x4.toNat) ((0 : Int), ([], ())))) fun (b2 : T10) => (cond ((decide ((0 : Int) ≤ x4)) && (decide (x4 < (z70.length : Int))))
 (rec (IntKind.wrap .i64 (x4 + (1 : Int))) (z70.set (x4.toNat) (b2.1, (b2.2.1, ()))))
 none))
 none)
 (ke0 z70))
noncomputable def laws_toBlobS_d_l0_L (ke0 : T8 → Option (shDen laws_toBlobS_d_sh)) (a0 : T8) : Nat → Int → T8 → Option (shDen laws_toBlobS_d_sh)
 | 0 => fun _ _ => none
 | n + 1 => laws_toBlobS_d_l0_b (laws_toBlobS_d_l0_L ke0 a0 n) ke0 a0
noncomputable def laws_toBlobS_d_r (a0 : T8) : Option (shDen laws_toBlobS_d_sh) :=
 (cond (((decide ((0 : Int) ≤ (a0.length : Int))) && (decide (((a0.length : Int) * (32 : Int)) ≤ (140737488355328 : Int)))) && (decide ((a0.length : Int) ≤ (9223372036854775807 : Int))))
 (laws_toBlobS_d_l0_L (fun z70 => (some z70)) a0 FUEL (0 : Int) (List.replicate ((a0.length : Int).toNat) ((0 : Int), ([], ()))))
 none)
noncomputable def f28_d_l0_p (k : Nat) (K : Ex → St → Option (shDen laws_toBlobS_d_sh)) (n : Nat) (a0 : T8) (x4 : Int) (z70 : T8) : Option (shDen laws_toBlobS_d_sh) := loopK (f28_d_cx k) 0 (execK (f28_d_cx k) (callK (f28_d_cx k) 8) 0 28 (sub f28_c [1, 1, 0, 1, 0, 0])) f28_d_l0_cut K n (f28_d_l0_s a0 x4 z70)

theorem f28_d_l0_exit0 (k : Nat)  (z70 : T8) : ((blkK 0 (seqK (execK (f28_d_cx k) (callK (f28_d_cx k) 8) 0 28 (sub f28_c [1, 1, 1])) (finK (f28_d_cx k) f28_i laws_toBlobS_d_sh))) (.exit 0) (f28_d_l0_o0 z70) : Option (shDen laws_toBlobS_d_sh)) =
 ((some z70) : Option (shDen laws_toBlobS_d_sh)) := by kernel_rfl

theorem f28_d_l0_round (k : Nat) (K : Ex → St → Option (shDen laws_toBlobS_d_sh)) (n : Nat) (a0 : T8) (x4 : Int) (z70 : T8) : (f28_d_l0_p k K (n + 1) a0 x4 z70 : Option (shDen laws_toBlobS_d_sh)) = laws_toBlobS_d_l0_b ((fun x4 z70 => f28_d_l0_p k K n a0 x4 z70)) (fun z70 => K (.exit 0) (f28_d_l0_o0 z70)) a0 x4 z70 := by kernel_rfl

theorem f28_d_l0_L_eq (K : Ex → St → Option (shDen laws_toBlobS_d_sh)) (a0 : T8) : ∀ (n : Nat) (x4 : Int) (z70 : T8), (f28_d_l0_p FUEL K n a0 x4 z70 : Option (shDen laws_toBlobS_d_sh)) = laws_toBlobS_d_l0_L (fun z70 => K (.exit 0) (f28_d_l0_o0 z70)) a0 n x4 z70 := by
 intro n
 induction n with
 | zero => intros; rfl
 | succ n ih =>
  intro x4 z70
  exact (f28_d_l0_round FUEL K n a0 x4 z70).trans (congrArg (fun f => laws_toBlobS_d_l0_b f (fun z70 => K (.exit 0) (f28_d_l0_o0 z70)) a0 x4 z70) (funext fun x4 => funext fun z70 => ih x4 z70))

theorem f28_d_start (k : Nat) (a0 : T8) : fnK (f28_d_cx k) 8 28 f28_i laws_toBlobS_d_sh [.pv K11 a0] =
 ((cond (((decide ((0 : Int) ≤ (a0.length : Int))) && (decide (((a0.length : Int) * (32 : Int)) ≤ (140737488355328 : Int)))) && (decide ((a0.length : Int) ≤ (9223372036854775807 : Int))))
 (loopK (f28_d_cx k) 0 (execK (f28_d_cx k) (callK (f28_d_cx k) 8) 0 28 (sub f28_c [1, 1, 0, 1, 0, 0])) f28_d_l0_cut (blkK 0 (seqK (execK (f28_d_cx k) (callK (f28_d_cx k) 8) 0 28 (sub f28_c [1, 1, 1])) (finK (f28_d_cx k) f28_i laws_toBlobS_d_sh))) k (f28_d_l0_s a0 (0 : Int) (List.replicate ((a0.length : Int).toNat) ((0 : Int), ([], ())))))
 none) : Option (shDen laws_toBlobS_d_sh)) := by kernel_rfl

theorem f28_d_run (a0 : T8) : fnK (f28_d_cx FUEL) 8 28 f28_i laws_toBlobS_d_sh [.pv K11 a0] = laws_toBlobS_d_r a0 :=
 (f28_d_start FUEL a0).trans (condC ((f28_d_l0_L_eq _ a0 FUEL (0 : Int) (List.replicate ((a0.length : Int).toNat) ((0 : Int), ([], ())))).trans (congrArg (fun e0 => laws_toBlobS_d_l0_L e0 a0 FUEL (0 : Int) (List.replicate ((a0.length : Int).toNat) ((0 : Int), ([], ())))) (funext fun z70 => (f28_d_l0_exit0 FUEL  z70).trans (rfl)))) (rfl))

noncomputable def f28_d_con : Con := { ps := K7, sh := laws_toBlobS_d_sh, raw := fun x => laws_toBlobS_d_r x.1 }
theorem f28_d_conOk : ConOk Tryz.prog 28 f28_d_con := con_of_fn (f28_d_tabs FUEL) (depth := 8) f28_ok fun x y h => (f28_d_run x.1).trans h

noncomputable def f9_d_cx (k : Nat) : Cx := mkC [] [(28, f28_d_con)] [] [] [] k dps false
theorem f9_d_tabs (k : Nat) : TabsOk Tryz.prog (f9_d_cx k) := mkC_ok ⟨f28_d_conOk, trivial⟩ trivial trivial trivial
abbrev laws_toStore_d_sh : List Sh := [.pr (.tre 72 (.pr (.pl (.int .u8)) (.pr (.sl 5 (.pl (.int .u8))) (.pl .unit)))) (.pl .unit)]
noncomputable def laws_toStore_d_r (a0 : T6) : Option (shDen laws_toStore_d_sh) :=
 (bindO (laws_toBlobS_d_r a0.1) fun (b1 : T8) => (some (b1, ())))
theorem f9_d_run (a0 : T6) : fnK (f9_d_cx FUEL) 8 9 f9_i laws_toStore_d_sh [.pv K7 a0] = laws_toStore_d_r a0 := by kernel_rfl

noncomputable def f9_d_con : Con := { ps := K6, sh := laws_toStore_d_sh, raw := fun x => laws_toStore_d_r x.1 }
theorem f9_d_conOk : ConOk Tryz.prog 9 f9_d_con := con_of_fn (f9_d_tabs FUEL) (depth := 8) f9_ok fun x y h => (f9_d_run x.1).trans h

noncomputable def f20_l0_cut : Cut := { keep := [1, 2, 3, 4], stk := [], ids := [10, 20, 30], own := [], outs := [(1, [2, 3], [20, 30])] }
noncomputable def f20_cx (k : Nat) : Cx := mkC [] [] [] [] [(20, [(0, f20_l0_cut)])] k [] false
theorem f20_tabs (k : Nat) : TabsOk Tryz.prog (f20_cx k) := mkC_ok trivial trivial trivial trivial
abbrev laws_toKey_sh : List Sh := [.pl (.arr 32 (.int .u8))]
noncomputable def f20_l0_s (a0 : (List Int)) (x4 : Int) (y30 : (List Int)) : St := { env := (.dead :: .ptr 10 (.arr 32 (.int .u8)) [] :: .ptr 20 (.arr 32 (.int .u8)) [] :: .ptr 30 (.arr 32 (.int .u8)) [] :: .pv (.int .i64) x4 :: (dd 10 [])), stk := [], heap := [(10, .var (.arr 32 (.int .u8)) (.pv (.arr 32 (.int .u8)) a0)), (20, .var (.arr 32 (.int .u8)) (.pv (.arr 32 (.int .u8)) (List.replicate 32 (0 : Int)))), (30, .var (.arr 32 (.int .u8)) (.pv (.arr 32 (.int .u8)) y30))] }
noncomputable def f20_l0_o0 (y30 : (List Int)) : St := { env := (.dead :: .dead :: .ptr 20 (.arr 32 (.int .u8)) [] :: .ptr 30 (.arr 32 (.int .u8)) [] :: (dd 11 [])), stk := [], heap := [(20, .var (.arr 32 (.int .u8)) (.pv (.arr 32 (.int .u8)) (List.replicate 32 (0 : Int)))), (30, .var (.arr 32 (.int .u8)) (.pv (.arr 32 (.int .u8)) y30))] }
noncomputable def laws_toKey_l0_b (rec : Int → (List Int) → Option (shDen laws_toKey_sh)) (ke0 : (List Int) → Option (shDen laws_toKey_sh)) (a0 : (List Int)) (x4 : Int) (y30 : (List Int)) : Option (shDen laws_toKey_sh) :=
 (cond (decide (x4 < (32 : Int)))
 (cond ((decide ((0 : Int) ≤ x4)) && (decide (x4 < (32 : Int))))
 (cond ((decide ((0 : Int) ≤ x4)) && (decide (x4 < (32 : Int))))
 (rec (IntKind.wrap .i64 (x4 + (1 : Int))) (y30.set (x4.toNat) (a0.getD (x4.toNat) (0 : Int))))
 none)
 none)
 (ke0 y30))
noncomputable def laws_toKey_l0_L (ke0 : (List Int) → Option (shDen laws_toKey_sh)) (a0 : (List Int)) : Nat → Int → (List Int) → Option (shDen laws_toKey_sh)
 | 0 => fun _ _ => none
 | n + 1 => laws_toKey_l0_b (laws_toKey_l0_L ke0 a0 n) ke0 a0
noncomputable def laws_toKey_r (a0 : (List Int)) : Option (shDen laws_toKey_sh) :=
 (laws_toKey_l0_L (fun y30 => (some y30)) a0 FUEL (0 : Int) (List.replicate 32 (0 : Int)))
noncomputable def f20_l0_p (k : Nat) (K : Ex → St → Option (shDen laws_toKey_sh)) (n : Nat) (a0 : (List Int)) (x4 : Int) (y30 : (List Int)) : Option (shDen laws_toKey_sh) := loopK (f20_cx k) 0 (execK (f20_cx k) (callK (f20_cx k) 8) 0 20 (sub f20_c [1, 1, 0, 1, 0, 0])) f20_l0_cut K n (f20_l0_s a0 x4 y30)

theorem f20_l0_exit0 (k : Nat)  (y30 : (List Int)) : ((blkK 0 (seqK (execK (f20_cx k) (callK (f20_cx k) 8) 0 20 (sub f20_c [1, 1, 1])) (finK (f20_cx k) f20_i laws_toKey_sh))) (.exit 0) (f20_l0_o0 y30) : Option (shDen laws_toKey_sh)) =
 ((some y30) : Option (shDen laws_toKey_sh)) := by kernel_rfl

theorem f20_l0_round (k : Nat) (K : Ex → St → Option (shDen laws_toKey_sh)) (n : Nat) (a0 : (List Int)) (x4 : Int) (y30 : (List Int)) : (f20_l0_p k K (n + 1) a0 x4 y30 : Option (shDen laws_toKey_sh)) = laws_toKey_l0_b ((fun x4 y30 => f20_l0_p k K n a0 x4 y30)) (fun y30 => K (.exit 0) (f20_l0_o0 y30)) a0 x4 y30 := by kernel_rfl

theorem f20_l0_L_eq (K : Ex → St → Option (shDen laws_toKey_sh)) (a0 : (List Int)) : ∀ (n : Nat) (x4 : Int) (y30 : (List Int)), (f20_l0_p FUEL K n a0 x4 y30 : Option (shDen laws_toKey_sh)) = laws_toKey_l0_L (fun y30 => K (.exit 0) (f20_l0_o0 y30)) a0 n x4 y30 := by
 intro n
 induction n with
 | zero => intros; rfl
 | succ n ih =>
  intro x4 y30
  exact (f20_l0_round FUEL K n a0 x4 y30).trans (congrArg (fun f => laws_toKey_l0_b f (fun y30 => K (.exit 0) (f20_l0_o0 y30)) a0 x4 y30) (funext fun x4 => funext fun y30 => ih x4 y30))

theorem f20_start (k : Nat) (a0 : (List Int)) : fnK (f20_cx k) 8 20 f20_i laws_toKey_sh [.pv (.arr 32 (.int .u8)) a0] =
 ((loopK (f20_cx k) 0 (execK (f20_cx k) (callK (f20_cx k) 8) 0 20 (sub f20_c [1, 1, 0, 1, 0, 0])) f20_l0_cut (blkK 0 (seqK (execK (f20_cx k) (callK (f20_cx k) 8) 0 20 (sub f20_c [1, 1, 1])) (finK (f20_cx k) f20_i laws_toKey_sh))) k (f20_l0_s a0 (0 : Int) (List.replicate 32 (0 : Int)))) : Option (shDen laws_toKey_sh)) := by kernel_rfl

theorem f20_run (a0 : (List Int)) : fnK (f20_cx FUEL) 8 20 f20_i laws_toKey_sh [.pv (.arr 32 (.int .u8)) a0] = laws_toKey_r a0 :=
 (f20_start FUEL a0).trans ((f20_l0_L_eq _ a0 FUEL (0 : Int) (List.replicate 32 (0 : Int))).trans (congrArg (fun e0 => laws_toKey_l0_L e0 a0 FUEL (0 : Int) (List.replicate 32 (0 : Int))) (funext fun y30 => (f20_l0_exit0 FUEL  y30).trans (rfl))))

noncomputable def f20_con : Con := { ps := K18, sh := laws_toKey_sh, raw := fun x => laws_toKey_r x.1 }
theorem f20_conOk : ConOk Tryz.prog 20 f20_con := con_of_fn (f20_tabs FUEL) (depth := 8) f20_ok fun x y h => (f20_run x.1).trans h

noncomputable def f50_cx (k : Nat) : Cx := mkC [] [] [] [] [] k [] false
theorem f50_tabs (k : Nat) : TabsOk Tryz.prog (f50_cx k) := mkC_ok trivial trivial trivial trivial
abbrev spec_l05Blob_sh : List Sh := [.pl .bool]
noncomputable def spec_l05Blob_r (a0 : T10) : Option (shDen spec_l05Blob_sh) :=
 (some (decide ((a0.2.1.length : Int) ≤ (1024 : Int))))
theorem f50_run (a0 : T10) : fnK (f50_cx FUEL) 8 50 f50_i spec_l05Blob_sh [.pv (.ref K13) a0] = spec_l05Blob_r a0 := by kernel_rfl

noncomputable def f50_con : Con := { ps := (.pair (.ref K13) .unit), sh := spec_l05Blob_sh, raw := fun x => spec_l05Blob_r x.1 }
theorem f50_conOk : ConOk Tryz.prog 50 f50_con := con_of_fn (f50_tabs FUEL) (depth := 8) f50_ok fun x y h => (f50_run x.1).trans h

noncomputable def f108_l0_cut : Cut := { keep := [0, 2, 3, 4], stk := [], ids := [20, 30], own := [], outs := [(1, [2, 3], [20, 30])] }
noncomputable def f108_cx (k : Nat) : Cx := mkC [] [] [] [] [(108, [(0, f108_l0_cut)])] k [] false
theorem f108_tabs (k : Nat) : TabsOk Tryz.prog (f108_cx k) := mkC_ok trivial trivial trivial trivial
abbrev spec_l01Start_sh : List Sh := [.pl (.arr 8 (.int .u32))]
noncomputable def f108_l0_s (a0 : Int) (x4 : Int) (y30 : (List Int)) : St := { env := (.pv (.int .u8) a0 :: .dead :: .ptr 20 (.arr 8 (.int .u32)) [] :: .ptr 30 (.arr 8 (.int .u32)) [] :: .pv (.int .i64) x4 :: (dd 15 [])), stk := [], heap := [(20, .var (.arr 8 (.int .u32)) (.pv (.arr 8 (.int .u32)) (List.replicate 8 (0 : Int)))), (30, .var (.arr 8 (.int .u32)) (.pv (.arr 8 (.int .u32)) y30))] }
noncomputable def f108_l0_o0 (y30 : (List Int)) : St := { env := (.dead :: .dead :: .ptr 20 (.arr 8 (.int .u32)) [] :: .ptr 30 (.arr 8 (.int .u32)) [] :: (dd 16 [])), stk := [], heap := [(20, .var (.arr 8 (.int .u32)) (.pv (.arr 8 (.int .u32)) (List.replicate 8 (0 : Int)))), (30, .var (.arr 8 (.int .u32)) (.pv (.arr 8 (.int .u32)) y30))] }
noncomputable def spec_l01Start_l0_b (rec : Int → (List Int) → Option (shDen spec_l01Start_sh)) (ke0 : (List Int) → Option (shDen spec_l01Start_sh)) (a0 : Int) (x4 : Int) (y30 : (List Int)) : Option (shDen spec_l01Start_sh) :=
 (cond (decide (x4 < (8 : Int)))
 (cond ((decide ((0 : Int) ≤ x4)) && (decide (x4 < (8 : Int))))
 (rec (IntKind.wrap .i64 (x4 + (1 : Int))) (y30.set (x4.toNat) (IntKind.wrap .u32 ((IntKind.wrap .u32 ((16777619 : Int) * (IntKind.wrap .u32 (IntKind.wrap .i64 (x4 + (1 : Int)))))) + (IntKind.wrap .u32 a0)))))
 none)
 (ke0 y30))
noncomputable def spec_l01Start_l0_L (ke0 : (List Int) → Option (shDen spec_l01Start_sh)) (a0 : Int) : Nat → Int → (List Int) → Option (shDen spec_l01Start_sh)
 | 0 => fun _ _ => none
 | n + 1 => spec_l01Start_l0_b (spec_l01Start_l0_L ke0 a0 n) ke0 a0
noncomputable def spec_l01Start_r (a0 : Int) : Option (shDen spec_l01Start_sh) :=
 (spec_l01Start_l0_L (fun y30 => (some y30)) a0 FUEL (0 : Int) (List.replicate 8 (0 : Int)))
noncomputable def f108_l0_p (k : Nat) (K : Ex → St → Option (shDen spec_l01Start_sh)) (n : Nat) (a0 : Int) (x4 : Int) (y30 : (List Int)) : Option (shDen spec_l01Start_sh) := loopK (f108_cx k) 0 (execK (f108_cx k) (callK (f108_cx k) 8) 0 108 (sub f108_c [1, 1, 0, 1, 0, 0])) f108_l0_cut K n (f108_l0_s a0 x4 y30)

theorem f108_l0_exit0 (k : Nat)  (y30 : (List Int)) : ((blkK 0 (seqK (execK (f108_cx k) (callK (f108_cx k) 8) 0 108 (sub f108_c [1, 1, 1])) (finK (f108_cx k) f108_i spec_l01Start_sh))) (.exit 0) (f108_l0_o0 y30) : Option (shDen spec_l01Start_sh)) =
 ((some y30) : Option (shDen spec_l01Start_sh)) := by kernel_rfl

theorem f108_l0_round (k : Nat) (K : Ex → St → Option (shDen spec_l01Start_sh)) (n : Nat) (a0 : Int) (x4 : Int) (y30 : (List Int)) : (f108_l0_p k K (n + 1) a0 x4 y30 : Option (shDen spec_l01Start_sh)) = spec_l01Start_l0_b ((fun x4 y30 => f108_l0_p k K n a0 x4 y30)) (fun y30 => K (.exit 0) (f108_l0_o0 y30)) a0 x4 y30 := by kernel_rfl

theorem f108_l0_L_eq (K : Ex → St → Option (shDen spec_l01Start_sh)) (a0 : Int) : ∀ (n : Nat) (x4 : Int) (y30 : (List Int)), (f108_l0_p FUEL K n a0 x4 y30 : Option (shDen spec_l01Start_sh)) = spec_l01Start_l0_L (fun y30 => K (.exit 0) (f108_l0_o0 y30)) a0 n x4 y30 := by
 intro n
 induction n with
 | zero => intros; rfl
 | succ n ih =>
  intro x4 y30
  exact (f108_l0_round FUEL K n a0 x4 y30).trans (congrArg (fun f => spec_l01Start_l0_b f (fun y30 => K (.exit 0) (f108_l0_o0 y30)) a0 x4 y30) (funext fun x4 => funext fun y30 => ih x4 y30))

theorem f108_start (k : Nat) (a0 : Int) : fnK (f108_cx k) 8 108 f108_i spec_l01Start_sh [.pv (.int .u8) a0] =
 ((loopK (f108_cx k) 0 (execK (f108_cx k) (callK (f108_cx k) 8) 0 108 (sub f108_c [1, 1, 0, 1, 0, 0])) f108_l0_cut (blkK 0 (seqK (execK (f108_cx k) (callK (f108_cx k) 8) 0 108 (sub f108_c [1, 1, 1])) (finK (f108_cx k) f108_i spec_l01Start_sh))) k (f108_l0_s a0 (0 : Int) (List.replicate 8 (0 : Int)))) : Option (shDen spec_l01Start_sh)) := by kernel_rfl

theorem f108_run (a0 : Int) : fnK (f108_cx FUEL) 8 108 f108_i spec_l01Start_sh [.pv (.int .u8) a0] = spec_l01Start_r a0 :=
 (f108_start FUEL a0).trans ((f108_l0_L_eq _ a0 FUEL (0 : Int) (List.replicate 8 (0 : Int))).trans (congrArg (fun e0 => spec_l01Start_l0_L e0 a0 FUEL (0 : Int) (List.replicate 8 (0 : Int))) (funext fun y30 => (f108_l0_exit0 FUEL  y30).trans (rfl))))

noncomputable def f108_con : Con := { ps := K24, sh := spec_l01Start_sh, raw := fun x => spec_l01Start_r x.1 }
theorem f108_conOk : ConOk Tryz.prog 108 f108_con := con_of_fn (f108_tabs FUEL) (depth := 8) f108_ok fun x y h => (f108_run x.1).trans h

noncomputable def f127_l0_cut : Cut := { keep := [1, 5], stk := [], ids := [90050], own := [(5, 90050, 70)], outs := [(1, [1, 5], [90050])] }
noncomputable def f127_l1_cut : Cut := { keep := [1, 5, 6], stk := [], ids := [90050], own := [(5, 90050, 70)], outs := [(3, [5], [90050])] }
noncomputable def f127_cx (k : Nat) : Cx := mkC [] [] [] [] [(127, [(0, f127_l0_cut), (2, f127_l1_cut)])] k [] false
theorem f127_tabs (k : Nat) : TabsOk Tryz.prog (f127_cx k) := mkC_ok trivial trivial trivial trivial
abbrev spec_l01Padded_sh : List Sh := [.own 5 (.int .u8)]
noncomputable def f127_l0_s (a1 : Int) (z90050 : (List Int)) : St := { env := (.dead :: .pv (.int .i64) a1 :: (dd 3 (.sl 90050 (.int .u8) :: (dd 26 [])))), stk := [], heap := [(90050, .arr 5 (.int .u8) z90050)] }
noncomputable def f127_l0_o0 (a1 : Int) (z90050 : (List Int)) : St := { env := (.dead :: .pv (.int .i64) a1 :: (dd 3 (.sl 90050 (.int .u8) :: (dd 26 [])))), stk := [], heap := [(90050, .arr 5 (.int .u8) z90050)] }
noncomputable def f127_l1_s (z90050 : (List Int)) (x1 : Int) (x6 : Int) : St := { env := (.dead :: .pv (.int .i64) x1 :: (dd 3 (.sl 90050 (.int .u8) :: .pv (.int .i64) x6 :: (dd 25 [])))), stk := [], heap := [(90050, .arr 5 (.int .u8) z90050)] }
noncomputable def f127_l1_o2 (z90050 : (List Int)) : St := { env := (dd 5 (.sl 90050 (.int .u8) :: (dd 26 []))), stk := [], heap := [(90050, .arr 5 (.int .u8) z90050)] }
noncomputable def spec_l01Padded_l1_b (rec : (List Int) → Int → Int → Option (shDen spec_l01Padded_sh)) (ke2 : (List Int) → Option (shDen spec_l01Padded_sh)) (z90050 : (List Int)) (x1 : Int) (x6 : Int) : Option (shDen spec_l01Padded_sh) :=
 (cond (decide (x6 < (8 : Int)))
 (cond (decide ((z90050.length + 1) * 1 ≤ 140737488355328) && decide (z90050.length + 1 ≤ 9223372036854775807))
 (rec (z90050 ++ [(IntKind.wrap .u8 (Int.tmod x1 (256 : Int)))]) (IntKind.wrap .i64 (Int.tdiv x1 (256 : Int))) (IntKind.wrap .i64 (x6 + (1 : Int))))
 none)
 (ke2 z90050))
noncomputable def spec_l01Padded_l1_L (ke2 : (List Int) → Option (shDen spec_l01Padded_sh))  : Nat → (List Int) → Int → Int → Option (shDen spec_l01Padded_sh)
 | 0 => fun _ _ _ => none
 | n + 1 => spec_l01Padded_l1_b (spec_l01Padded_l1_L ke2  n) ke2 
noncomputable def spec_l01Padded_l0_b (rec : (List Int) → Option (shDen spec_l01Padded_sh)) (ke0 : (List Int) → Option (shDen spec_l01Padded_sh)) (a1 : Int) (z90050 : (List Int)) : Option (shDen spec_l01Padded_sh) :=
 (cond (!(decide ((Int.tmod (z90050.length : Int) (32 : Int)) = (24 : Int))))
 (cond (decide ((z90050.length + 1) * 1 ≤ 140737488355328) && decide (z90050.length + 1 ≤ 9223372036854775807))
 (rec (z90050 ++ [(0 : Int)]))
 none)
 (ke0 z90050))
noncomputable def spec_l01Padded_l0_L (ke0 : (List Int) → Option (shDen spec_l01Padded_sh)) (a1 : Int) : Nat → (List Int) → Option (shDen spec_l01Padded_sh)
 | 0 => fun _ => none
 | n + 1 => spec_l01Padded_l0_b (spec_l01Padded_l0_L ke0 a1 n) ke0 a1
noncomputable def spec_l01Padded_r (a0 : (List Int)) (a1 : Int) : Option (shDen spec_l01Padded_sh) :=
 (cond (decide ((0 + a0.length) * 1 ≤ 140737488355328) && decide (0 + a0.length ≤ 9223372036854775807))
 (cond (decide ((([] ++ a0).length + 1) * 1 ≤ 140737488355328) && decide (([] ++ a0).length + 1 ≤ 9223372036854775807))
 (spec_l01Padded_l0_L (fun z90050 => (spec_l01Padded_l1_L (fun z90050 => (some z90050)) FUEL z90050 a1 (0 : Int))) a1 FUEL (([] ++ a0) ++ [(128 : Int)]))
 none)
 none)
noncomputable def f127_l1_p (k : Nat) (K : Ex → St → Option (shDen spec_l01Padded_sh)) (n : Nat) (z90050 : (List Int)) (x1 : Int) (x6 : Int) : Option (shDen spec_l01Padded_sh) := loopK (f127_cx k) 0 (execK (f127_cx k) (callK (f127_cx k) 8) 0 127 (sub f127_c [1, 1, 1, 0, 1, 0, 0])) f127_l1_cut K n (f127_l1_s z90050 x1 x6)

theorem f127_l1_exit2 (k : Nat)  (z90050 : (List Int)) : ((blkK 2 (seqK (execK (f127_cx k) (callK (f127_cx k) 8) 0 127 (sub f127_c [1, 1, 1, 1])) (finK (f127_cx k) f127_i spec_l01Padded_sh))) (.exit 2) (f127_l1_o2 z90050) : Option (shDen spec_l01Padded_sh)) =
 ((some z90050) : Option (shDen spec_l01Padded_sh)) := by kernel_rfl

theorem f127_l1_round (k : Nat) (K : Ex → St → Option (shDen spec_l01Padded_sh)) (n : Nat) (z90050 : (List Int)) (x1 : Int) (x6 : Int) : (f127_l1_p k K (n + 1)  z90050 x1 x6 : Option (shDen spec_l01Padded_sh)) = spec_l01Padded_l1_b ((fun z90050 x1 x6 => f127_l1_p k K n  z90050 x1 x6)) (fun z90050 => K (.exit 2) (f127_l1_o2 z90050))  z90050 x1 x6 := by kernel_rfl

theorem f127_l1_L_eq (K : Ex → St → Option (shDen spec_l01Padded_sh))  : ∀ (n : Nat) (z90050 : (List Int)) (x1 : Int) (x6 : Int), (f127_l1_p FUEL K n  z90050 x1 x6 : Option (shDen spec_l01Padded_sh)) = spec_l01Padded_l1_L (fun z90050 => K (.exit 2) (f127_l1_o2 z90050))  n z90050 x1 x6 := by
 intro n
 induction n with
 | zero => intros; rfl
 | succ n ih =>
  intro z90050 x1 x6
  exact (f127_l1_round FUEL K n  z90050 x1 x6).trans (congrArg (fun f => spec_l01Padded_l1_b f (fun z90050 => K (.exit 2) (f127_l1_o2 z90050))  z90050 x1 x6) (funext fun z90050 => funext fun x1 => funext fun x6 => ih z90050 x1 x6))

noncomputable def f127_l0_p (k : Nat) (K : Ex → St → Option (shDen spec_l01Padded_sh)) (n : Nat) (a1 : Int) (z90050 : (List Int)) : Option (shDen spec_l01Padded_sh) := loopK (f127_cx k) 0 (execK (f127_cx k) (callK (f127_cx k) 8) 0 127 (sub f127_c [1, 1, 0, 0, 0])) f127_l0_cut K n (f127_l0_s a1 z90050)

theorem f127_l0_exit0 (k : Nat)  (a1 : Int) (z90050 : (List Int)) : ((blkK 0 (seqK (execK (f127_cx k) (callK (f127_cx k) 8) 0 127 (sub f127_c [1, 1, 1])) (finK (f127_cx k) f127_i spec_l01Padded_sh))) (.exit 0) (f127_l0_o0 a1 z90050) : Option (shDen spec_l01Padded_sh)) =
 ((loopK (f127_cx k) 0 (execK (f127_cx k) (callK (f127_cx k) 8) 0 127 (sub f127_c [1, 1, 1, 0, 1, 0, 0])) f127_l1_cut (blkK 2 (seqK (execK (f127_cx k) (callK (f127_cx k) 8) 0 127 (sub f127_c [1, 1, 1, 1])) (finK (f127_cx k) f127_i spec_l01Padded_sh))) k (f127_l1_s z90050 a1 (0 : Int))) : Option (shDen spec_l01Padded_sh)) := by kernel_rfl

theorem f127_l0_round (k : Nat) (K : Ex → St → Option (shDen spec_l01Padded_sh)) (n : Nat) (a1 : Int) (z90050 : (List Int)) : (f127_l0_p k K (n + 1) a1 z90050 : Option (shDen spec_l01Padded_sh)) = spec_l01Padded_l0_b ((fun z90050 => f127_l0_p k K n a1 z90050)) (fun z90050 => K (.exit 0) (f127_l0_o0 a1 z90050)) a1 z90050 := by kernel_rfl

theorem f127_l0_L_eq (K : Ex → St → Option (shDen spec_l01Padded_sh)) (a1 : Int) : ∀ (n : Nat) (z90050 : (List Int)), (f127_l0_p FUEL K n a1 z90050 : Option (shDen spec_l01Padded_sh)) = spec_l01Padded_l0_L (fun z90050 => K (.exit 0) (f127_l0_o0 a1 z90050)) a1 n z90050 := by
 intro n
 induction n with
 | zero => intros; rfl
 | succ n ih =>
  intro z90050
  exact (f127_l0_round FUEL K n a1 z90050).trans (congrArg (fun f => spec_l01Padded_l0_b f (fun z90050 => K (.exit 0) (f127_l0_o0 a1 z90050)) a1 z90050) (funext fun z90050 => ih z90050))

theorem f127_start (k : Nat) (a0 : (List Int)) (a1 : Int) : fnK (f127_cx k) 8 127 f127_i spec_l01Padded_sh [.pv K25 a0, .pv (.int .i64) a1] =
 ((cond (decide ((0 + a0.length) * 1 ≤ 140737488355328) && decide (0 + a0.length ≤ 9223372036854775807))
 (cond (decide ((([] ++ a0).length + 1) * 1 ≤ 140737488355328) && decide (([] ++ a0).length + 1 ≤ 9223372036854775807))
 (loopK (f127_cx k) 0 (execK (f127_cx k) (callK (f127_cx k) 8) 0 127 (sub f127_c [1, 1, 0, 0, 0])) f127_l0_cut (blkK 0 (seqK (execK (f127_cx k) (callK (f127_cx k) 8) 0 127 (sub f127_c [1, 1, 1])) (finK (f127_cx k) f127_i spec_l01Padded_sh))) k (f127_l0_s a1 (([] ++ a0) ++ [(128 : Int)])))
 none)
 none) : Option (shDen spec_l01Padded_sh)) := by kernel_rfl

theorem f127_run (a0 : (List Int)) (a1 : Int) : fnK (f127_cx FUEL) 8 127 f127_i spec_l01Padded_sh [.pv K25 a0, .pv (.int .i64) a1] = spec_l01Padded_r a0 a1 :=
 (f127_start FUEL a0 a1).trans (condC (condC ((f127_l0_L_eq _ a1 FUEL (([] ++ a0) ++ [(128 : Int)])).trans (congrArg (fun e0 => spec_l01Padded_l0_L e0 a1 FUEL (([] ++ a0) ++ [(128 : Int)])) (funext fun z90050 => (f127_l0_exit0 FUEL  a1 z90050).trans ((f127_l1_L_eq _  FUEL z90050 a1 (0 : Int)).trans (congrArg (fun e0 => spec_l01Padded_l1_L e0  FUEL z90050 a1 (0 : Int)) (funext fun z90050 => (f127_l1_exit2 FUEL  z90050).trans (rfl))))))) (rfl)) (rfl))

noncomputable def f127_con : Con := { ps := K12, sh := spec_l01Padded_sh, raw := fun x => spec_l01Padded_r x.1 x.2.1 }
theorem f127_conOk : ConOk Tryz.prog 127 f127_con := con_of_fn (f127_tabs FUEL) (depth := 8) f127_ok fun x y h => (f127_run x.1 x.2.1).trans h

noncomputable def f129_l0_cut : Cut := { keep := [0, 1, 4, 5, 6], stk := [], ids := [40, 50], own := [], outs := [(1, [4, 5], [40, 50])] }
noncomputable def f129_cx (k : Nat) : Cx := mkC [] [] [] [] [(129, [(0, f129_l0_cut)])] k [] false
theorem f129_tabs (k : Nat) : TabsOk Tryz.prog (f129_cx k) := mkC_ok trivial trivial trivial trivial
abbrev spec_l01Block_sh : List Sh := [.pl (.arr 32 (.int .u8))]
noncomputable def f129_l0_s (a0 : (List Int)) (a1 : Int) (x6 : Int) (y50 : (List Int)) : St := { env := (.pv K25 a0 :: .pv (.int .i64) a1 :: .dead :: .dead :: .ptr 40 (.arr 32 (.int .u8)) [] :: .ptr 50 (.arr 32 (.int .u8)) [] :: .pv (.int .i64) x6 :: (dd 14 [])), stk := [], heap := [(40, .var (.arr 32 (.int .u8)) (.pv (.arr 32 (.int .u8)) (List.replicate 32 (0 : Int)))), (50, .var (.arr 32 (.int .u8)) (.pv (.arr 32 (.int .u8)) y50))] }
noncomputable def f129_l0_o0 (y50 : (List Int)) : St := { env := (dd 4 (.ptr 40 (.arr 32 (.int .u8)) [] :: .ptr 50 (.arr 32 (.int .u8)) [] :: (dd 15 []))), stk := [], heap := [(40, .var (.arr 32 (.int .u8)) (.pv (.arr 32 (.int .u8)) (List.replicate 32 (0 : Int)))), (50, .var (.arr 32 (.int .u8)) (.pv (.arr 32 (.int .u8)) y50))] }
noncomputable def spec_l01Block_l0_b (rec : Int → (List Int) → Option (shDen spec_l01Block_sh)) (ke0 : (List Int) → Option (shDen spec_l01Block_sh)) (a0 : (List Int)) (a1 : Int) (x6 : Int) (y50 : (List Int)) : Option (shDen spec_l01Block_sh) :=
 (cond (decide (x6 < (32 : Int)))
 (cond ((decide ((0 : Int) ≤ (IntKind.wrap .i64 (a1 + x6)))) && (decide ((IntKind.wrap .i64 (a1 + x6)) < (a0.length : Int))))
 (cond ((decide ((0 : Int) ≤ x6)) && (decide (x6 < (32 : Int))))
 (rec (IntKind.wrap .i64 (x6 + (1 : Int))) (y50.set (x6.toNat) (a0.getD ((IntKind.wrap .i64 (a1 + x6)).toNat) (0 : Int))))
 none)
 none)
 (ke0 y50))
noncomputable def spec_l01Block_l0_L (ke0 : (List Int) → Option (shDen spec_l01Block_sh)) (a0 : (List Int)) (a1 : Int) : Nat → Int → (List Int) → Option (shDen spec_l01Block_sh)
 | 0 => fun _ _ => none
 | n + 1 => spec_l01Block_l0_b (spec_l01Block_l0_L ke0 a0 a1 n) ke0 a0 a1
noncomputable def spec_l01Block_r (a0 : (List Int)) (a1 : Int) : Option (shDen spec_l01Block_sh) :=
 (spec_l01Block_l0_L (fun y50 => (some y50)) a0 a1 FUEL (0 : Int) (List.replicate 32 (0 : Int)))
noncomputable def f129_l0_p (k : Nat) (K : Ex → St → Option (shDen spec_l01Block_sh)) (n : Nat) (a0 : (List Int)) (a1 : Int) (x6 : Int) (y50 : (List Int)) : Option (shDen spec_l01Block_sh) := loopK (f129_cx k) 0 (execK (f129_cx k) (callK (f129_cx k) 8) 0 129 (sub f129_c [1, 1, 0, 1, 0, 0])) f129_l0_cut K n (f129_l0_s a0 a1 x6 y50)

theorem f129_l0_exit0 (k : Nat)  (y50 : (List Int)) : ((blkK 0 (seqK (execK (f129_cx k) (callK (f129_cx k) 8) 0 129 (sub f129_c [1, 1, 1])) (finK (f129_cx k) f129_i spec_l01Block_sh))) (.exit 0) (f129_l0_o0 y50) : Option (shDen spec_l01Block_sh)) =
 ((some y50) : Option (shDen spec_l01Block_sh)) := by kernel_rfl

theorem f129_l0_round (k : Nat) (K : Ex → St → Option (shDen spec_l01Block_sh)) (n : Nat) (a0 : (List Int)) (a1 : Int) (x6 : Int) (y50 : (List Int)) : (f129_l0_p k K (n + 1) a0 a1 x6 y50 : Option (shDen spec_l01Block_sh)) = spec_l01Block_l0_b ((fun x6 y50 => f129_l0_p k K n a0 a1 x6 y50)) (fun y50 => K (.exit 0) (f129_l0_o0 y50)) a0 a1 x6 y50 := by kernel_rfl

theorem f129_l0_L_eq (K : Ex → St → Option (shDen spec_l01Block_sh)) (a0 : (List Int)) (a1 : Int) : ∀ (n : Nat) (x6 : Int) (y50 : (List Int)), (f129_l0_p FUEL K n a0 a1 x6 y50 : Option (shDen spec_l01Block_sh)) = spec_l01Block_l0_L (fun y50 => K (.exit 0) (f129_l0_o0 y50)) a0 a1 n x6 y50 := by
 intro n
 induction n with
 | zero => intros; rfl
 | succ n ih =>
  intro x6 y50
  exact (f129_l0_round FUEL K n a0 a1 x6 y50).trans (congrArg (fun f => spec_l01Block_l0_b f (fun y50 => K (.exit 0) (f129_l0_o0 y50)) a0 a1 x6 y50) (funext fun x6 => funext fun y50 => ih x6 y50))

theorem f129_start (k : Nat) (a0 : (List Int)) (a1 : Int) : fnK (f129_cx k) 8 129 f129_i spec_l01Block_sh [.pv K25 a0, .pv (.int .i64) a1] =
 ((loopK (f129_cx k) 0 (execK (f129_cx k) (callK (f129_cx k) 8) 0 129 (sub f129_c [1, 1, 0, 1, 0, 0])) f129_l0_cut (blkK 0 (seqK (execK (f129_cx k) (callK (f129_cx k) 8) 0 129 (sub f129_c [1, 1, 1])) (finK (f129_cx k) f129_i spec_l01Block_sh))) k (f129_l0_s a0 a1 (0 : Int) (List.replicate 32 (0 : Int)))) : Option (shDen spec_l01Block_sh)) := by kernel_rfl

theorem f129_run (a0 : (List Int)) (a1 : Int) : fnK (f129_cx FUEL) 8 129 f129_i spec_l01Block_sh [.pv K25 a0, .pv (.int .i64) a1] = spec_l01Block_r a0 a1 :=
 (f129_start FUEL a0 a1).trans ((f129_l0_L_eq _ a0 a1 FUEL (0 : Int) (List.replicate 32 (0 : Int))).trans (congrArg (fun e0 => spec_l01Block_l0_L e0 a0 a1 FUEL (0 : Int) (List.replicate 32 (0 : Int))) (funext fun y50 => (f129_l0_exit0 FUEL  y50).trans (rfl))))

noncomputable def f129_con : Con := { ps := K12, sh := spec_l01Block_sh, raw := fun x => spec_l01Block_r x.1 x.2.1 }
theorem f129_conOk : ConOk Tryz.prog 129 f129_con := con_of_fn (f129_tabs FUEL) (depth := 8) f129_ok fun x y h => (f129_run x.1 x.2.1).trans h

noncomputable def f138_cx (k : Nat) : Cx := mkC [] [] [] [] [] k [] false
theorem f138_tabs (k : Nat) : TabsOk Tryz.prog (f138_cx k) := mkC_ok trivial trivial trivial trivial
abbrev spec_l01Turn_sh : List Sh := [.pl (.int .u32)]
noncomputable def spec_l01Turn_r (a0 : Int) (a1 : Int) : Option (shDen spec_l01Turn_sh) :=
 (cond (decide (a1 < (0 : Int)))
 none
 (cond (decide ((IntKind.wrap .u64 ((32 : Int) - a1)) < (0 : Int)))
 none
 (some (bitI .or .u32 (shlI .u32 a0 a1) (shrI .u32 a0 (IntKind.wrap .u64 ((32 : Int) - a1)))))))
theorem f138_run (a0 : Int) (a1 : Int) : fnK (f138_cx FUEL) 8 138 f138_i spec_l01Turn_sh [.pv (.int .u32) a0, .pv (.int .u64) a1] = spec_l01Turn_r a0 a1 := by kernel_rfl

noncomputable def f138_con : Con := { ps := (.pair (.int .u32) (.pair (.int .u64) .unit)), sh := spec_l01Turn_sh, raw := fun x => spec_l01Turn_r x.1 x.2.1 }
theorem f138_conOk : ConOk Tryz.prog 138 f138_con := con_of_fn (f138_tabs FUEL) (depth := 8) f138_ok fun x y h => (f138_run x.1 x.2.1).trans h

noncomputable def f128_l0_cut : Cut := { keep := [2, 3, 4, 5, 6], stk := [], ids := [20, 30, 40, 50], own := [], outs := [(1, [2, 4, 5], [20, 40, 50])] }
noncomputable def f128_l1_cut : Cut := { keep := [2, 3, 4, 5, 6, 7], stk := [], ids := [20, 30, 40, 50], own := [], outs := [(3, [2, 3, 4, 5, 6], [20, 30, 40, 50])] }
noncomputable def f128_l2_cut : Cut := { keep := [2, 4, 5, 8, 9], stk := [], ids := [20, 40, 50, 80], own := [], outs := [(5, [2, 4, 8], [20, 40, 80])] }
noncomputable def f128_l3_cut : Cut := { keep := [2, 4, 5, 8, 9, 10], stk := [], ids := [20, 40, 50, 80], own := [], outs := [(7, [2, 4, 5, 8, 9], [20, 40, 50, 80])] }
noncomputable def f128_l4_cut : Cut := { keep := [2, 4, 8, 13], stk := [], ids := [20, 40, 80], own := [], outs := [(9, [4, 8], [40, 80])] }
noncomputable def f128_cx (k : Nat) : Cx := mkC [] [(138, f138_con)] [] [] [(128, [(0, f128_l0_cut), (2, f128_l1_cut), (4, f128_l2_cut), (6, f128_l3_cut), (8, f128_l4_cut)])] k [] false
theorem f128_tabs (k : Nat) : TabsOk Tryz.prog (f128_cx k) := mkC_ok ⟨f138_conOk, trivial⟩ trivial trivial trivial
abbrev spec_l01Mix_sh : List Sh := [.pl (.arr 8 (.int .u32))]
noncomputable def f128_l0_s (a0 : (List Int)) (a1 : (List Int)) (x6 : Int) (y50 : (List Int)) : St := { env := (.dead :: .dead :: .ptr 20 (.arr 8 (.int .u32)) [] :: .ptr 30 (.arr 32 (.int .u8)) [] :: .ptr 40 (.arr 8 (.int .u32)) [] :: .ptr 50 (.arr 8 (.int .u32)) [] :: .pv (.int .i64) x6 :: (dd 89 [])), stk := [], heap := [(20, .var (.arr 8 (.int .u32)) (.pv (.arr 8 (.int .u32)) a0)), (30, .var (.arr 32 (.int .u8)) (.pv (.arr 32 (.int .u8)) a1)), (40, .var (.arr 8 (.int .u32)) (.pv (.arr 8 (.int .u32)) (List.replicate 8 (0 : Int)))), (50, .var (.arr 8 (.int .u32)) (.pv (.arr 8 (.int .u32)) y50))] }
noncomputable def f128_l0_o0 (a0 : (List Int)) (y50 : (List Int)) : St := { env := (.dead :: .dead :: .ptr 20 (.arr 8 (.int .u32)) [] :: .dead :: .ptr 40 (.arr 8 (.int .u32)) [] :: .ptr 50 (.arr 8 (.int .u32)) [] :: (dd 90 [])), stk := [], heap := [(20, .var (.arr 8 (.int .u32)) (.pv (.arr 8 (.int .u32)) a0)), (40, .var (.arr 8 (.int .u32)) (.pv (.arr 8 (.int .u32)) (List.replicate 8 (0 : Int)))), (50, .var (.arr 8 (.int .u32)) (.pv (.arr 8 (.int .u32)) y50))] }
noncomputable def f128_l1_s (a0 : (List Int)) (a1 : (List Int)) (x6 : Int) (x7 : Int) (y50 : (List Int)) : St := { env := (.dead :: .dead :: .ptr 20 (.arr 8 (.int .u32)) [] :: .ptr 30 (.arr 32 (.int .u8)) [] :: .ptr 40 (.arr 8 (.int .u32)) [] :: .ptr 50 (.arr 8 (.int .u32)) [] :: .pv (.int .i64) x6 :: .pv (.int .i64) x7 :: (dd 88 [])), stk := [], heap := [(20, .var (.arr 8 (.int .u32)) (.pv (.arr 8 (.int .u32)) a0)), (30, .var (.arr 32 (.int .u8)) (.pv (.arr 32 (.int .u8)) a1)), (40, .var (.arr 8 (.int .u32)) (.pv (.arr 8 (.int .u32)) (List.replicate 8 (0 : Int)))), (50, .var (.arr 8 (.int .u32)) (.pv (.arr 8 (.int .u32)) y50))] }
noncomputable def f128_l1_o2 (a0 : (List Int)) (a1 : (List Int)) (x6 : Int) (y50 : (List Int)) : St := { env := (.dead :: .dead :: .ptr 20 (.arr 8 (.int .u32)) [] :: .ptr 30 (.arr 32 (.int .u8)) [] :: .ptr 40 (.arr 8 (.int .u32)) [] :: .ptr 50 (.arr 8 (.int .u32)) [] :: .pv (.int .i64) x6 :: (dd 89 [])), stk := [], heap := [(20, .var (.arr 8 (.int .u32)) (.pv (.arr 8 (.int .u32)) a0)), (30, .var (.arr 32 (.int .u8)) (.pv (.arr 32 (.int .u8)) a1)), (40, .var (.arr 8 (.int .u32)) (.pv (.arr 8 (.int .u32)) (List.replicate 8 (0 : Int)))), (50, .var (.arr 8 (.int .u32)) (.pv (.arr 8 (.int .u32)) y50))] }
noncomputable def f128_l2_s (a0 : (List Int)) (y50 : (List Int)) (x9 : Int) (y80 : (List Int)) : St := { env := (.dead :: .dead :: .ptr 20 (.arr 8 (.int .u32)) [] :: .dead :: .ptr 40 (.arr 8 (.int .u32)) [] :: .ptr 50 (.arr 8 (.int .u32)) [] :: .dead :: .dead :: .ptr 80 (.arr 8 (.int .u32)) [] :: .pv (.int .i64) x9 :: (dd 86 [])), stk := [], heap := [(20, .var (.arr 8 (.int .u32)) (.pv (.arr 8 (.int .u32)) a0)), (40, .var (.arr 8 (.int .u32)) (.pv (.arr 8 (.int .u32)) (List.replicate 8 (0 : Int)))), (50, .var (.arr 8 (.int .u32)) (.pv (.arr 8 (.int .u32)) y50)), (80, .var (.arr 8 (.int .u32)) (.pv (.arr 8 (.int .u32)) y80))] }
noncomputable def f128_l2_o4 (a0 : (List Int)) (y80 : (List Int)) : St := { env := (.dead :: .dead :: .ptr 20 (.arr 8 (.int .u32)) [] :: .dead :: .ptr 40 (.arr 8 (.int .u32)) [] :: (dd 3 (.ptr 80 (.arr 8 (.int .u32)) [] :: (dd 87 [])))), stk := [], heap := [(20, .var (.arr 8 (.int .u32)) (.pv (.arr 8 (.int .u32)) a0)), (40, .var (.arr 8 (.int .u32)) (.pv (.arr 8 (.int .u32)) (List.replicate 8 (0 : Int)))), (80, .var (.arr 8 (.int .u32)) (.pv (.arr 8 (.int .u32)) y80))] }
noncomputable def f128_l3_s (a0 : (List Int)) (y50 : (List Int)) (x9 : Int) (x10 : Int) (y80 : (List Int)) : St := { env := (.dead :: .dead :: .ptr 20 (.arr 8 (.int .u32)) [] :: .dead :: .ptr 40 (.arr 8 (.int .u32)) [] :: .ptr 50 (.arr 8 (.int .u32)) [] :: .dead :: .dead :: .ptr 80 (.arr 8 (.int .u32)) [] :: .pv (.int .i64) x9 :: .pv (.int .i64) x10 :: (dd 85 [])), stk := [], heap := [(20, .var (.arr 8 (.int .u32)) (.pv (.arr 8 (.int .u32)) a0)), (40, .var (.arr 8 (.int .u32)) (.pv (.arr 8 (.int .u32)) (List.replicate 8 (0 : Int)))), (50, .var (.arr 8 (.int .u32)) (.pv (.arr 8 (.int .u32)) y50)), (80, .var (.arr 8 (.int .u32)) (.pv (.arr 8 (.int .u32)) y80))] }
noncomputable def f128_l3_o6 (a0 : (List Int)) (y50 : (List Int)) (x9 : Int) (y80 : (List Int)) : St := { env := (.dead :: .dead :: .ptr 20 (.arr 8 (.int .u32)) [] :: .dead :: .ptr 40 (.arr 8 (.int .u32)) [] :: .ptr 50 (.arr 8 (.int .u32)) [] :: .dead :: .dead :: .ptr 80 (.arr 8 (.int .u32)) [] :: .pv (.int .i64) x9 :: (dd 86 [])), stk := [], heap := [(20, .var (.arr 8 (.int .u32)) (.pv (.arr 8 (.int .u32)) a0)), (40, .var (.arr 8 (.int .u32)) (.pv (.arr 8 (.int .u32)) (List.replicate 8 (0 : Int)))), (50, .var (.arr 8 (.int .u32)) (.pv (.arr 8 (.int .u32)) y50)), (80, .var (.arr 8 (.int .u32)) (.pv (.arr 8 (.int .u32)) y80))] }
noncomputable def f128_l4_s (a0 : (List Int)) (y80 : (List Int)) (x13 : Int) : St := { env := (.dead :: .dead :: .ptr 20 (.arr 8 (.int .u32)) [] :: .dead :: .ptr 40 (.arr 8 (.int .u32)) [] :: (dd 3 (.ptr 80 (.arr 8 (.int .u32)) [] :: (dd 4 (.pv (.int .i64) x13 :: (dd 82 [])))))), stk := [], heap := [(20, .var (.arr 8 (.int .u32)) (.pv (.arr 8 (.int .u32)) a0)), (40, .var (.arr 8 (.int .u32)) (.pv (.arr 8 (.int .u32)) (List.replicate 8 (0 : Int)))), (80, .var (.arr 8 (.int .u32)) (.pv (.arr 8 (.int .u32)) y80))] }
noncomputable def f128_l4_o8 (y80 : (List Int)) : St := { env := (dd 4 (.ptr 40 (.arr 8 (.int .u32)) [] :: (dd 3 (.ptr 80 (.arr 8 (.int .u32)) [] :: (dd 87 []))))), stk := [], heap := [(40, .var (.arr 8 (.int .u32)) (.pv (.arr 8 (.int .u32)) (List.replicate 8 (0 : Int)))), (80, .var (.arr 8 (.int .u32)) (.pv (.arr 8 (.int .u32)) y80))] }
noncomputable def spec_l01Mix_l4_b (rec : (List Int) → Int → Option (shDen spec_l01Mix_sh)) (ke8 : (List Int) → Option (shDen spec_l01Mix_sh)) (a0 : (List Int)) (y80 : (List Int)) (x13 : Int) : Option (shDen spec_l01Mix_sh) :=
 (cond (decide (x13 < (8 : Int)))
 (cond ((decide ((0 : Int) ≤ x13)) && (decide (x13 < (8 : Int))))
 (cond ((decide ((0 : Int) ≤ x13)) && (decide (x13 < (8 : Int))))
 (cond ((decide ((0 : Int) ≤ x13)) && (decide (x13 < (8 : Int))))
 (rec (y80.set (x13.toNat) (bitI .xor .u32 (y80.getD (x13.toNat) (0 : Int)) (a0.getD (x13.toNat) (0 : Int)))) (IntKind.wrap .i64 (x13 + (1 : Int))))
 none)
 none)
 none)
 (ke8 y80))
noncomputable def spec_l01Mix_l4_L (ke8 : (List Int) → Option (shDen spec_l01Mix_sh)) (a0 : (List Int)) : Nat → (List Int) → Int → Option (shDen spec_l01Mix_sh)
 | 0 => fun _ _ => none
 | n + 1 => spec_l01Mix_l4_b (spec_l01Mix_l4_L ke8 a0 n) ke8 a0
noncomputable def spec_l01Mix_l3_b (rec : Int → (List Int) → Option (shDen spec_l01Mix_sh)) (ke6 : (List Int) → Option (shDen spec_l01Mix_sh)) (a0 : (List Int)) (y50 : (List Int)) (x9 : Int) (x10 : Int) (y80 : (List Int)) : Option (shDen spec_l01Mix_sh) :=
 (cond (decide (x10 < (8 : Int)))
 (cond ((decide ((0 : Int) ≤ x10)) && (decide (x10 < (8 : Int))))
 (cond ((decide ((0 : Int) ≤ (Int.tmod (IntKind.wrap .i64 (x10 + (IntKind.wrap .i64 ((3 : Int) * x9)))) (8 : Int)))) && (decide ((Int.tmod (IntKind.wrap .i64 (x10 + (IntKind.wrap .i64 ((3 : Int) * x9)))) (8 : Int)) < (8 : Int))))
 (bindO (spec_l01Turn_r (IntKind.wrap .u32 ((IntKind.wrap .u32 ((y80.getD (x10.toNat) (0 : Int)) + (y50.getD ((Int.tmod (IntKind.wrap .i64 (x10 + (IntKind.wrap .i64 ((3 : Int) * x9)))) (8 : Int)).toNat) (0 : Int)))) + (IntKind.wrap .u32 ((2654435769 : Int) * (IntKind.wrap .u32 (IntKind.wrap .i64 ((IntKind.wrap .i64 ((IntKind.wrap .i64 ((8 : Int) * x9)) + x10)) + (1 : Int)))))))) (7 : Int)) fun (b7 : Int) => (cond ((decide ((0 : Int) ≤ (Int.tmod (IntKind.wrap .i64 (x10 + (1 : Int))) (8 : Int)))) && (decide ((Int.tmod (IntKind.wrap .i64 (x10 + (1 : Int))) (8 : Int)) < (8 : Int))))
 (cond ((decide ((0 : Int) ≤ (Int.tmod (IntKind.wrap .i64 (x10 + (5 : Int))) (8 : Int)))) && (decide ((Int.tmod (IntKind.wrap .i64 (x10 + (5 : Int))) (8 : Int)) < (8 : Int))))
 (bindO (spec_l01Turn_r (y80.getD ((Int.tmod (IntKind.wrap .i64 (x10 + (5 : Int))) (8 : Int)).toNat) (0 : Int)) (13 : Int)) fun (b8 : Int) => (cond ((decide ((0 : Int) ≤ x10)) && (decide (x10 < (8 : Int))))
 (rec (IntKind.wrap .i64 (x10 + (1 : Int))) (y80.set (x10.toNat) (IntKind.wrap .u32 ((bitI .xor .u32 b7 (y80.getD ((Int.tmod (IntKind.wrap .i64 (x10 + (1 : Int))) (8 : Int)).toNat) (0 : Int))) + b8))))
 none))
 none)
 none))
 none)
 none)
 (ke6 y80))
noncomputable def spec_l01Mix_l3_L (ke6 : (List Int) → Option (shDen spec_l01Mix_sh)) (a0 : (List Int)) (y50 : (List Int)) (x9 : Int) : Nat → Int → (List Int) → Option (shDen spec_l01Mix_sh)
 | 0 => fun _ _ => none
 | n + 1 => spec_l01Mix_l3_b (spec_l01Mix_l3_L ke6 a0 y50 x9 n) ke6 a0 y50 x9
noncomputable def spec_l01Mix_l2_b (rec : (List Int) → Int → (List Int) → Option (shDen spec_l01Mix_sh)) (ke4 : (List Int) → Option (shDen spec_l01Mix_sh)) (a0 : (List Int)) (y50 : (List Int)) (x9 : Int) (y80 : (List Int)) : Option (shDen spec_l01Mix_sh) :=
 (cond (decide (x9 < (12 : Int)))
 (spec_l01Mix_l3_L (fun y80 => (rec y50 (IntKind.wrap .i64 (x9 + (1 : Int))) y80)) a0 y50 x9 FUEL (0 : Int) y80)
 (ke4 y80))
noncomputable def spec_l01Mix_l2_L (ke4 : (List Int) → Option (shDen spec_l01Mix_sh)) (a0 : (List Int)) : Nat → (List Int) → Int → (List Int) → Option (shDen spec_l01Mix_sh)
 | 0 => fun _ _ _ => none
 | n + 1 => spec_l01Mix_l2_b (spec_l01Mix_l2_L ke4 a0 n) ke4 a0
noncomputable def spec_l01Mix_l1_b (rec : Int → (List Int) → Option (shDen spec_l01Mix_sh)) (ke2 : (List Int) → Option (shDen spec_l01Mix_sh)) (a0 : (List Int)) (a1 : (List Int)) (x6 : Int) (x7 : Int) (y50 : (List Int)) : Option (shDen spec_l01Mix_sh) :=
 (cond (decide ((0 : Int) ≤ x7))
 (cond ((decide ((0 : Int) ≤ x6)) && (decide (x6 < (8 : Int))))
 (cond ((decide ((0 : Int) ≤ (IntKind.wrap .i64 ((IntKind.wrap .i64 ((4 : Int) * x6)) + x7)))) && (decide ((IntKind.wrap .i64 ((IntKind.wrap .i64 ((4 : Int) * x6)) + x7)) < (32 : Int))))
 (cond ((decide ((0 : Int) ≤ x6)) && (decide (x6 < (8 : Int))))
 (rec (IntKind.wrap .i64 (x7 - (1 : Int))) (y50.set (x6.toNat) (bitI .or .u32 (shlI .u32 (y50.getD (x6.toNat) (0 : Int)) (8 : Int)) (IntKind.wrap .u32 (a1.getD ((IntKind.wrap .i64 ((IntKind.wrap .i64 ((4 : Int) * x6)) + x7)).toNat) (0 : Int))))))
 none)
 none)
 none)
 (ke2 y50))
noncomputable def spec_l01Mix_l1_L (ke2 : (List Int) → Option (shDen spec_l01Mix_sh)) (a0 : (List Int)) (a1 : (List Int)) (x6 : Int) : Nat → Int → (List Int) → Option (shDen spec_l01Mix_sh)
 | 0 => fun _ _ => none
 | n + 1 => spec_l01Mix_l1_b (spec_l01Mix_l1_L ke2 a0 a1 x6 n) ke2 a0 a1 x6
noncomputable def spec_l01Mix_l0_b (rec : Int → (List Int) → Option (shDen spec_l01Mix_sh)) (ke0 : (List Int) → Option (shDen spec_l01Mix_sh)) (a0 : (List Int)) (a1 : (List Int)) (x6 : Int) (y50 : (List Int)) : Option (shDen spec_l01Mix_sh) :=
 (cond (decide (x6 < (8 : Int)))
 (spec_l01Mix_l1_L (fun y50 => (rec (IntKind.wrap .i64 (x6 + (1 : Int))) y50)) a0 a1 x6 FUEL (3 : Int) y50)
 (ke0 y50))
noncomputable def spec_l01Mix_l0_L (ke0 : (List Int) → Option (shDen spec_l01Mix_sh)) (a0 : (List Int)) (a1 : (List Int)) : Nat → Int → (List Int) → Option (shDen spec_l01Mix_sh)
 | 0 => fun _ _ => none
 | n + 1 => spec_l01Mix_l0_b (spec_l01Mix_l0_L ke0 a0 a1 n) ke0 a0 a1
noncomputable def spec_l01Mix_r (a0 : (List Int)) (a1 : (List Int)) : Option (shDen spec_l01Mix_sh) :=
 (spec_l01Mix_l0_L (fun y50 => (spec_l01Mix_l2_L (fun y80 => (spec_l01Mix_l4_L (fun y80 => (some y80)) a0 FUEL y80 (0 : Int))) a0 FUEL y50 (0 : Int) a0)) a0 a1 FUEL (0 : Int) (List.replicate 8 (0 : Int)))
noncomputable def f128_l4_p (k : Nat) (K : Ex → St → Option (shDen spec_l01Mix_sh)) (n : Nat) (a0 : (List Int)) (y80 : (List Int)) (x13 : Int) : Option (shDen spec_l01Mix_sh) := loopK (f128_cx k) 0 (execK (f128_cx k) (callK (f128_cx k) 8) 0 128 (sub f128_c [1, 1, 1, 1, 1, 0, 1, 0, 0])) f128_l4_cut K n (f128_l4_s a0 y80 x13)

theorem f128_l4_exit8 (k : Nat)  (y80 : (List Int)) : ((blkK 8 (seqK (execK (f128_cx k) (callK (f128_cx k) 8) 0 128 (sub f128_c [1, 1, 1, 1, 1, 1])) (finK (f128_cx k) f128_i spec_l01Mix_sh))) (.exit 8) (f128_l4_o8 y80) : Option (shDen spec_l01Mix_sh)) =
 ((some y80) : Option (shDen spec_l01Mix_sh)) := by kernel_rfl

theorem f128_l4_round (k : Nat) (K : Ex → St → Option (shDen spec_l01Mix_sh)) (n : Nat) (a0 : (List Int)) (y80 : (List Int)) (x13 : Int) : (f128_l4_p k K (n + 1) a0 y80 x13 : Option (shDen spec_l01Mix_sh)) = spec_l01Mix_l4_b ((fun y80 x13 => f128_l4_p k K n a0 y80 x13)) (fun y80 => K (.exit 8) (f128_l4_o8 y80)) a0 y80 x13 := by kernel_rfl

theorem f128_l4_L_eq (K : Ex → St → Option (shDen spec_l01Mix_sh)) (a0 : (List Int)) : ∀ (n : Nat) (y80 : (List Int)) (x13 : Int), (f128_l4_p FUEL K n a0 y80 x13 : Option (shDen spec_l01Mix_sh)) = spec_l01Mix_l4_L (fun y80 => K (.exit 8) (f128_l4_o8 y80)) a0 n y80 x13 := by
 intro n
 induction n with
 | zero => intros; rfl
 | succ n ih =>
  intro y80 x13
  exact (f128_l4_round FUEL K n a0 y80 x13).trans (congrArg (fun f => spec_l01Mix_l4_b f (fun y80 => K (.exit 8) (f128_l4_o8 y80)) a0 y80 x13) (funext fun y80 => funext fun x13 => ih y80 x13))

noncomputable def f128_l3_p (k : Nat) (K : Ex → St → Option (shDen spec_l01Mix_sh)) (n : Nat) (a0 : (List Int)) (y50 : (List Int)) (x9 : Int) (x10 : Int) (y80 : (List Int)) : Option (shDen spec_l01Mix_sh) := loopK (f128_cx k) 0 (execK (f128_cx k) (callK (f128_cx k) 8) 0 128 (sub f128_c [1, 1, 1, 1, 0, 1, 0, 0, 1, 0, 0, 1, 0, 0])) f128_l3_cut K n (f128_l3_s a0 y50 x9 x10 y80)

theorem f128_l3_exit6 (k : Nat) (K : Ex → St → Option (shDen spec_l01Mix_sh)) (n : Nat) (a0 : (List Int)) (y50 : (List Int)) (x9 : Int) (y80 : (List Int)) : ((blkK 6 (blkK 5 (seqK (execK (f128_cx k) (callK (f128_cx k) 8) 0 128 (sub f128_c [1, 1, 1, 1, 0, 1, 0, 0, 1, 1])) (iterK (f128_cx k) 0 f128_l2_cut (loopK (f128_cx k) 0 (execK (f128_cx k) (callK (f128_cx k) 8) 0 128 (sub f128_c [1, 1, 1, 1, 0, 1, 0, 0])) f128_l2_cut K n) K)))) (.exit 6) (f128_l3_o6 a0 y50 x9 y80) : Option (shDen spec_l01Mix_sh)) =
 ((loopK (f128_cx k) 0 (execK (f128_cx k) (callK (f128_cx k) 8) 0 128 (sub f128_c [1, 1, 1, 1, 0, 1, 0, 0])) f128_l2_cut K n (f128_l2_s a0 y50 (IntKind.wrap .i64 (x9 + (1 : Int))) y80)) : Option (shDen spec_l01Mix_sh)) := by kernel_rfl

theorem f128_l3_round (k : Nat) (K : Ex → St → Option (shDen spec_l01Mix_sh)) (n : Nat) (a0 : (List Int)) (y50 : (List Int)) (x9 : Int) (x10 : Int) (y80 : (List Int)) : (f128_l3_p k K (n + 1) a0 y50 x9 x10 y80 : Option (shDen spec_l01Mix_sh)) = spec_l01Mix_l3_b ((fun x10 y80 => f128_l3_p k K n a0 y50 x9 x10 y80)) (fun y80 => K (.exit 6) (f128_l3_o6 a0 y50 x9 y80)) a0 y50 x9 x10 y80 := by kernel_rfl

theorem f128_l3_L_eq (K : Ex → St → Option (shDen spec_l01Mix_sh)) (a0 : (List Int)) (y50 : (List Int)) (x9 : Int) : ∀ (n : Nat) (x10 : Int) (y80 : (List Int)), (f128_l3_p FUEL K n a0 y50 x9 x10 y80 : Option (shDen spec_l01Mix_sh)) = spec_l01Mix_l3_L (fun y80 => K (.exit 6) (f128_l3_o6 a0 y50 x9 y80)) a0 y50 x9 n x10 y80 := by
 intro n
 induction n with
 | zero => intros; rfl
 | succ n ih =>
  intro x10 y80
  exact (f128_l3_round FUEL K n a0 y50 x9 x10 y80).trans (congrArg (fun f => spec_l01Mix_l3_b f (fun y80 => K (.exit 6) (f128_l3_o6 a0 y50 x9 y80)) a0 y50 x9 x10 y80) (funext fun x10 => funext fun y80 => ih x10 y80))

noncomputable def f128_l2_p (k : Nat) (K : Ex → St → Option (shDen spec_l01Mix_sh)) (n : Nat) (a0 : (List Int)) (y50 : (List Int)) (x9 : Int) (y80 : (List Int)) : Option (shDen spec_l01Mix_sh) := loopK (f128_cx k) 0 (execK (f128_cx k) (callK (f128_cx k) 8) 0 128 (sub f128_c [1, 1, 1, 1, 0, 1, 0, 0])) f128_l2_cut K n (f128_l2_s a0 y50 x9 y80)

theorem f128_l2_round (k : Nat) (K : Ex → St → Option (shDen spec_l01Mix_sh)) (n : Nat) (a0 : (List Int)) (y50 : (List Int)) (x9 : Int) (y80 : (List Int)) : (f128_l2_p k K (n + 1) a0 y50 x9 y80 : Option (shDen spec_l01Mix_sh)) =
 ((cond (decide (x9 < (12 : Int)))
 (loopK (f128_cx k) 0 (execK (f128_cx k) (callK (f128_cx k) 8) 0 128 (sub f128_c [1, 1, 1, 1, 0, 1, 0, 0, 1, 0, 0, 1, 0, 0])) f128_l3_cut (blkK 6 (blkK 5 (seqK (execK (f128_cx k) (callK (f128_cx k) 8) 0 128 (sub f128_c [1, 1, 1, 1, 0, 1, 0, 0, 1, 1])) (iterK (f128_cx k) 0 f128_l2_cut (loopK (f128_cx k) 0 (execK (f128_cx k) (callK (f128_cx k) 8) 0 128 (sub f128_c [1, 1, 1, 1, 0, 1, 0, 0])) f128_l2_cut K n) K)))) k (f128_l3_s a0 y50 x9 (0 : Int) y80))
 (K (.exit 4) (f128_l2_o4 a0 y80))) : Option (shDen spec_l01Mix_sh)) := by kernel_rfl

theorem f128_l2_exit4 (k : Nat)  (a0 : (List Int)) (y80 : (List Int)) : ((blkK 4 (seqK (execK (f128_cx k) (callK (f128_cx k) 8) 0 128 (sub f128_c [1, 1, 1, 1, 1])) (finK (f128_cx k) f128_i spec_l01Mix_sh))) (.exit 4) (f128_l2_o4 a0 y80) : Option (shDen spec_l01Mix_sh)) =
 ((loopK (f128_cx k) 0 (execK (f128_cx k) (callK (f128_cx k) 8) 0 128 (sub f128_c [1, 1, 1, 1, 1, 0, 1, 0, 0])) f128_l4_cut (blkK 8 (seqK (execK (f128_cx k) (callK (f128_cx k) 8) 0 128 (sub f128_c [1, 1, 1, 1, 1, 1])) (finK (f128_cx k) f128_i spec_l01Mix_sh))) k (f128_l4_s a0 y80 (0 : Int))) : Option (shDen spec_l01Mix_sh)) := by kernel_rfl

theorem f128_l2_L_eq (K : Ex → St → Option (shDen spec_l01Mix_sh)) (a0 : (List Int)) : ∀ (n : Nat) (y50 : (List Int)) (x9 : Int) (y80 : (List Int)), (f128_l2_p FUEL K n a0 y50 x9 y80 : Option (shDen spec_l01Mix_sh)) = spec_l01Mix_l2_L (fun y80 => K (.exit 4) (f128_l2_o4 a0 y80)) a0 n y50 x9 y80 := by
 intro n
 induction n with
 | zero => intros; rfl
 | succ n ih =>
  intro y50 x9 y80
  exact (f128_l2_round FUEL K n a0 y50 x9 y80).trans (condC ((f128_l3_L_eq _ a0 y50 x9 FUEL (0 : Int) y80).trans (congrArg (fun e0 => spec_l01Mix_l3_L e0 a0 y50 x9 FUEL (0 : Int) y80) (funext fun y80 => (f128_l3_exit6 FUEL K n a0 y50 x9 y80).trans (ih y50 (IntKind.wrap .i64 (x9 + (1 : Int))) y80)))) (rfl))

noncomputable def f128_l1_p (k : Nat) (K : Ex → St → Option (shDen spec_l01Mix_sh)) (n : Nat) (a0 : (List Int)) (a1 : (List Int)) (x6 : Int) (x7 : Int) (y50 : (List Int)) : Option (shDen spec_l01Mix_sh) := loopK (f128_cx k) 0 (execK (f128_cx k) (callK (f128_cx k) 8) 0 128 (sub f128_c [1, 1, 0, 1, 0, 0, 1, 0, 0, 1, 0, 0])) f128_l1_cut K n (f128_l1_s a0 a1 x6 x7 y50)

theorem f128_l1_exit2 (k : Nat) (K : Ex → St → Option (shDen spec_l01Mix_sh)) (n : Nat) (a0 : (List Int)) (a1 : (List Int)) (x6 : Int) (y50 : (List Int)) : ((blkK 2 (blkK 1 (seqK (execK (f128_cx k) (callK (f128_cx k) 8) 0 128 (sub f128_c [1, 1, 0, 1, 0, 0, 1, 1])) (iterK (f128_cx k) 0 f128_l0_cut (loopK (f128_cx k) 0 (execK (f128_cx k) (callK (f128_cx k) 8) 0 128 (sub f128_c [1, 1, 0, 1, 0, 0])) f128_l0_cut K n) K)))) (.exit 2) (f128_l1_o2 a0 a1 x6 y50) : Option (shDen spec_l01Mix_sh)) =
 ((loopK (f128_cx k) 0 (execK (f128_cx k) (callK (f128_cx k) 8) 0 128 (sub f128_c [1, 1, 0, 1, 0, 0])) f128_l0_cut K n (f128_l0_s a0 a1 (IntKind.wrap .i64 (x6 + (1 : Int))) y50)) : Option (shDen spec_l01Mix_sh)) := by kernel_rfl

theorem f128_l1_round (k : Nat) (K : Ex → St → Option (shDen spec_l01Mix_sh)) (n : Nat) (a0 : (List Int)) (a1 : (List Int)) (x6 : Int) (x7 : Int) (y50 : (List Int)) : (f128_l1_p k K (n + 1) a0 a1 x6 x7 y50 : Option (shDen spec_l01Mix_sh)) = spec_l01Mix_l1_b ((fun x7 y50 => f128_l1_p k K n a0 a1 x6 x7 y50)) (fun y50 => K (.exit 2) (f128_l1_o2 a0 a1 x6 y50)) a0 a1 x6 x7 y50 := by kernel_rfl

theorem f128_l1_L_eq (K : Ex → St → Option (shDen spec_l01Mix_sh)) (a0 : (List Int)) (a1 : (List Int)) (x6 : Int) : ∀ (n : Nat) (x7 : Int) (y50 : (List Int)), (f128_l1_p FUEL K n a0 a1 x6 x7 y50 : Option (shDen spec_l01Mix_sh)) = spec_l01Mix_l1_L (fun y50 => K (.exit 2) (f128_l1_o2 a0 a1 x6 y50)) a0 a1 x6 n x7 y50 := by
 intro n
 induction n with
 | zero => intros; rfl
 | succ n ih =>
  intro x7 y50
  exact (f128_l1_round FUEL K n a0 a1 x6 x7 y50).trans (congrArg (fun f => spec_l01Mix_l1_b f (fun y50 => K (.exit 2) (f128_l1_o2 a0 a1 x6 y50)) a0 a1 x6 x7 y50) (funext fun x7 => funext fun y50 => ih x7 y50))

noncomputable def f128_l0_p (k : Nat) (K : Ex → St → Option (shDen spec_l01Mix_sh)) (n : Nat) (a0 : (List Int)) (a1 : (List Int)) (x6 : Int) (y50 : (List Int)) : Option (shDen spec_l01Mix_sh) := loopK (f128_cx k) 0 (execK (f128_cx k) (callK (f128_cx k) 8) 0 128 (sub f128_c [1, 1, 0, 1, 0, 0])) f128_l0_cut K n (f128_l0_s a0 a1 x6 y50)

theorem f128_l0_round (k : Nat) (K : Ex → St → Option (shDen spec_l01Mix_sh)) (n : Nat) (a0 : (List Int)) (a1 : (List Int)) (x6 : Int) (y50 : (List Int)) : (f128_l0_p k K (n + 1) a0 a1 x6 y50 : Option (shDen spec_l01Mix_sh)) =
 ((cond (decide (x6 < (8 : Int)))
 (loopK (f128_cx k) 0 (execK (f128_cx k) (callK (f128_cx k) 8) 0 128 (sub f128_c [1, 1, 0, 1, 0, 0, 1, 0, 0, 1, 0, 0])) f128_l1_cut (blkK 2 (blkK 1 (seqK (execK (f128_cx k) (callK (f128_cx k) 8) 0 128 (sub f128_c [1, 1, 0, 1, 0, 0, 1, 1])) (iterK (f128_cx k) 0 f128_l0_cut (loopK (f128_cx k) 0 (execK (f128_cx k) (callK (f128_cx k) 8) 0 128 (sub f128_c [1, 1, 0, 1, 0, 0])) f128_l0_cut K n) K)))) k (f128_l1_s a0 a1 x6 (3 : Int) y50))
 (K (.exit 0) (f128_l0_o0 a0 y50))) : Option (shDen spec_l01Mix_sh)) := by kernel_rfl

theorem f128_l0_exit0 (k : Nat)  (a0 : (List Int)) (y50 : (List Int)) : ((blkK 0 (seqK (execK (f128_cx k) (callK (f128_cx k) 8) 0 128 (sub f128_c [1, 1, 1])) (finK (f128_cx k) f128_i spec_l01Mix_sh))) (.exit 0) (f128_l0_o0 a0 y50) : Option (shDen spec_l01Mix_sh)) =
 ((loopK (f128_cx k) 0 (execK (f128_cx k) (callK (f128_cx k) 8) 0 128 (sub f128_c [1, 1, 1, 1, 0, 1, 0, 0])) f128_l2_cut (blkK 4 (seqK (execK (f128_cx k) (callK (f128_cx k) 8) 0 128 (sub f128_c [1, 1, 1, 1, 1])) (finK (f128_cx k) f128_i spec_l01Mix_sh))) k (f128_l2_s a0 y50 (0 : Int) a0)) : Option (shDen spec_l01Mix_sh)) := by kernel_rfl

theorem f128_l0_L_eq (K : Ex → St → Option (shDen spec_l01Mix_sh)) (a0 : (List Int)) (a1 : (List Int)) : ∀ (n : Nat) (x6 : Int) (y50 : (List Int)), (f128_l0_p FUEL K n a0 a1 x6 y50 : Option (shDen spec_l01Mix_sh)) = spec_l01Mix_l0_L (fun y50 => K (.exit 0) (f128_l0_o0 a0 y50)) a0 a1 n x6 y50 := by
 intro n
 induction n with
 | zero => intros; rfl
 | succ n ih =>
  intro x6 y50
  exact (f128_l0_round FUEL K n a0 a1 x6 y50).trans (condC ((f128_l1_L_eq _ a0 a1 x6 FUEL (3 : Int) y50).trans (congrArg (fun e0 => spec_l01Mix_l1_L e0 a0 a1 x6 FUEL (3 : Int) y50) (funext fun y50 => (f128_l1_exit2 FUEL K n a0 a1 x6 y50).trans (ih (IntKind.wrap .i64 (x6 + (1 : Int))) y50)))) (rfl))

theorem f128_start (k : Nat) (a0 : (List Int)) (a1 : (List Int)) : fnK (f128_cx k) 8 128 f128_i spec_l01Mix_sh [.pv (.arr 8 (.int .u32)) a0, .pv (.arr 32 (.int .u8)) a1] =
 ((loopK (f128_cx k) 0 (execK (f128_cx k) (callK (f128_cx k) 8) 0 128 (sub f128_c [1, 1, 0, 1, 0, 0])) f128_l0_cut (blkK 0 (seqK (execK (f128_cx k) (callK (f128_cx k) 8) 0 128 (sub f128_c [1, 1, 1])) (finK (f128_cx k) f128_i spec_l01Mix_sh))) k (f128_l0_s a0 a1 (0 : Int) (List.replicate 8 (0 : Int)))) : Option (shDen spec_l01Mix_sh)) := by kernel_rfl

theorem f128_run (a0 : (List Int)) (a1 : (List Int)) : fnK (f128_cx FUEL) 8 128 f128_i spec_l01Mix_sh [.pv (.arr 8 (.int .u32)) a0, .pv (.arr 32 (.int .u8)) a1] = spec_l01Mix_r a0 a1 :=
 (f128_start FUEL a0 a1).trans ((f128_l0_L_eq _ a0 a1 FUEL (0 : Int) (List.replicate 8 (0 : Int))).trans (congrArg (fun e0 => spec_l01Mix_l0_L e0 a0 a1 FUEL (0 : Int) (List.replicate 8 (0 : Int))) (funext fun y50 => (f128_l0_exit0 FUEL  a0 y50).trans ((f128_l2_L_eq _ a0 FUEL y50 (0 : Int) a0).trans (congrArg (fun e0 => spec_l01Mix_l2_L e0 a0 FUEL y50 (0 : Int) a0) (funext fun y80 => (f128_l2_exit4 FUEL  a0 y80).trans ((f128_l4_L_eq _ a0 FUEL y80 (0 : Int)).trans (congrArg (fun e0 => spec_l01Mix_l4_L e0 a0 FUEL y80 (0 : Int)) (funext fun y80 => (f128_l4_exit8 FUEL  y80).trans (rfl))))))))))

noncomputable def f128_con : Con := { ps := (.pair (.arr 8 (.int .u32)) K18), sh := spec_l01Mix_sh, raw := fun x => spec_l01Mix_r x.1 x.2.1 }
theorem f128_conOk : ConOk Tryz.prog 128 f128_con := con_of_fn (f128_tabs FUEL) (depth := 8) f128_ok fun x y h => (f128_run x.1 x.2.1).trans h

noncomputable def f107_l0_cut : Cut := { keep := [3, 6, 7, 8], stk := [], ids := [30, 60, 130], own := [], outs := [(1, [3, 6], [30, 60])] }
noncomputable def f107_l1_cut : Cut := { keep := [3, 6, 9, 10], stk := [], ids := [30, 60, 90], own := [], outs := [(3, [6, 9], [60, 90])] }
noncomputable def f107_cx (k : Nat) : Cx := mkC [] [(127, f127_con), (128, f128_con), (129, f129_con)] [] [] [(107, [(0, f107_l0_cut), (2, f107_l1_cut)])] k [] false
theorem f107_tabs (k : Nat) : TabsOk Tryz.prog (f107_cx k) := mkC_ok ⟨f127_conOk, f128_conOk, f129_conOk, trivial⟩ trivial trivial trivial
abbrev spec_l01End_sh : List Sh := [.pl (.arr 32 (.int .u8))]
noncomputable def f107_l0_s (z130 : (List Int)) (x8 : Int) (y30 : (List Int)) : St := { env := (dd 3 (.ptr 30 (.arr 8 (.int .u32)) [] :: .dead :: .dead :: .ptr 60 (.arr 32 (.int .u8)) [] :: .sl 130 (.int .u8) :: .pv (.int .i64) x8 :: (dd 34 []))), stk := [], heap := [(30, .var (.arr 8 (.int .u32)) (.pv (.arr 8 (.int .u32)) y30)), (60, .var (.arr 32 (.int .u8)) (.pv (.arr 32 (.int .u8)) (List.replicate 32 (0 : Int)))), (130, .arr 5 (.int .u8) z130)] }
noncomputable def f107_l0_o0 (y30 : (List Int)) : St := { env := (dd 3 (.ptr 30 (.arr 8 (.int .u32)) [] :: .dead :: .dead :: .ptr 60 (.arr 32 (.int .u8)) [] :: (dd 36 []))), stk := [], heap := [(30, .var (.arr 8 (.int .u32)) (.pv (.arr 8 (.int .u32)) y30)), (60, .var (.arr 32 (.int .u8)) (.pv (.arr 32 (.int .u8)) (List.replicate 32 (0 : Int))))] }
noncomputable def f107_l1_s (y30 : (List Int)) (x10 : Int) (y90 : (List Int)) : St := { env := (dd 3 (.ptr 30 (.arr 8 (.int .u32)) [] :: .dead :: .dead :: .ptr 60 (.arr 32 (.int .u8)) [] :: .dead :: .dead :: .ptr 90 (.arr 32 (.int .u8)) [] :: .pv (.int .i64) x10 :: (dd 32 []))), stk := [], heap := [(30, .var (.arr 8 (.int .u32)) (.pv (.arr 8 (.int .u32)) y30)), (60, .var (.arr 32 (.int .u8)) (.pv (.arr 32 (.int .u8)) (List.replicate 32 (0 : Int)))), (90, .var (.arr 32 (.int .u8)) (.pv (.arr 32 (.int .u8)) y90))] }
noncomputable def f107_l1_o2 (y90 : (List Int)) : St := { env := (dd 6 (.ptr 60 (.arr 32 (.int .u8)) [] :: .dead :: .dead :: .ptr 90 (.arr 32 (.int .u8)) [] :: (dd 33 []))), stk := [], heap := [(60, .var (.arr 32 (.int .u8)) (.pv (.arr 32 (.int .u8)) (List.replicate 32 (0 : Int)))), (90, .var (.arr 32 (.int .u8)) (.pv (.arr 32 (.int .u8)) y90))] }
noncomputable def spec_l01End_l1_b (rec : (List Int) → Int → (List Int) → Option (shDen spec_l01End_sh)) (ke2 : (List Int) → Option (shDen spec_l01End_sh)) (y30 : (List Int)) (x10 : Int) (y90 : (List Int)) : Option (shDen spec_l01End_sh) :=
 (cond (decide (x10 < (32 : Int)))
 (cond ((decide ((0 : Int) ≤ (IntKind.wrap .i64 (Int.tdiv x10 (4 : Int))))) && (decide ((IntKind.wrap .i64 (Int.tdiv x10 (4 : Int))) < (8 : Int))))
 (cond (decide ((IntKind.wrap .u64 (IntKind.wrap .i64 ((8 : Int) * (Int.tmod x10 (4 : Int))))) < (0 : Int)))
 none
 (cond ((decide ((0 : Int) ≤ x10)) && (decide (x10 < (32 : Int))))
 (rec y30 (IntKind.wrap .i64 (x10 + (1 : Int))) (y90.set (x10.toNat) (IntKind.wrap .u8 (shrI .u32 (y30.getD ((IntKind.wrap .i64 (Int.tdiv x10 (4 : Int))).toNat) (0 : Int)) (IntKind.wrap .u64 (IntKind.wrap .i64 ((8 : Int) * (Int.tmod x10 (4 : Int)))))))))
 none))
 none)
 (ke2 y90))
noncomputable def spec_l01End_l1_L (ke2 : (List Int) → Option (shDen spec_l01End_sh))  : Nat → (List Int) → Int → (List Int) → Option (shDen spec_l01End_sh)
 | 0 => fun _ _ _ => none
 | n + 1 => spec_l01End_l1_b (spec_l01End_l1_L ke2  n) ke2 
noncomputable def spec_l01End_l0_b (rec : (List Int) → Int → (List Int) → Option (shDen spec_l01End_sh)) (ke0 : (List Int) → Option (shDen spec_l01End_sh)) (z130 : (List Int)) (x8 : Int) (y30 : (List Int)) : Option (shDen spec_l01End_sh) :=
 (cond (decide (x8 < (z130.length : Int)))
 (bindO (spec_l01Block_r z130 x8) fun (b4 : (List Int)) => (bindO (spec_l01Mix_r y30 b4) fun (b5 : (List Int)) => (rec z130 (IntKind.wrap .i64 (x8 + (32 : Int))) b5)))
 (ke0 y30))
noncomputable def spec_l01End_l0_L (ke0 : (List Int) → Option (shDen spec_l01End_sh))  : Nat → (List Int) → Int → (List Int) → Option (shDen spec_l01End_sh)
 | 0 => fun _ _ _ => none
 | n + 1 => spec_l01End_l0_b (spec_l01End_l0_L ke0  n) ke0 
noncomputable def spec_l01End_r (a0 : (List Int)) (a1 : (List Int)) (a2 : Int) : Option (shDen spec_l01End_sh) :=
 (bindO (spec_l01Padded_r a1 a2) fun (b1 : (List Int)) => (spec_l01End_l0_L (fun y30 => (spec_l01End_l1_L (fun y90 => (some y90)) FUEL y30 (0 : Int) (List.replicate 32 (0 : Int)))) FUEL b1 (0 : Int) a0))
noncomputable def f107_l1_p (k : Nat) (K : Ex → St → Option (shDen spec_l01End_sh)) (n : Nat) (y30 : (List Int)) (x10 : Int) (y90 : (List Int)) : Option (shDen spec_l01End_sh) := loopK (f107_cx k) 0 (execK (f107_cx k) (callK (f107_cx k) 8) 0 107 (sub f107_c [1, 1, 1, 1, 0, 1, 0, 0])) f107_l1_cut K n (f107_l1_s y30 x10 y90)

theorem f107_l1_exit2 (k : Nat)  (y90 : (List Int)) : ((blkK 2 (seqK (execK (f107_cx k) (callK (f107_cx k) 8) 0 107 (sub f107_c [1, 1, 1, 1, 1])) (finK (f107_cx k) f107_i spec_l01End_sh))) (.exit 2) (f107_l1_o2 y90) : Option (shDen spec_l01End_sh)) =
 ((some y90) : Option (shDen spec_l01End_sh)) := by kernel_rfl

theorem f107_l1_round (k : Nat) (K : Ex → St → Option (shDen spec_l01End_sh)) (n : Nat) (y30 : (List Int)) (x10 : Int) (y90 : (List Int)) : (f107_l1_p k K (n + 1)  y30 x10 y90 : Option (shDen spec_l01End_sh)) = spec_l01End_l1_b ((fun y30 x10 y90 => f107_l1_p k K n  y30 x10 y90)) (fun y90 => K (.exit 2) (f107_l1_o2 y90))  y30 x10 y90 := by kernel_rfl

theorem f107_l1_L_eq (K : Ex → St → Option (shDen spec_l01End_sh))  : ∀ (n : Nat) (y30 : (List Int)) (x10 : Int) (y90 : (List Int)), (f107_l1_p FUEL K n  y30 x10 y90 : Option (shDen spec_l01End_sh)) = spec_l01End_l1_L (fun y90 => K (.exit 2) (f107_l1_o2 y90))  n y30 x10 y90 := by
 intro n
 induction n with
 | zero => intros; rfl
 | succ n ih =>
  intro y30 x10 y90
  exact (f107_l1_round FUEL K n  y30 x10 y90).trans (congrArg (fun f => spec_l01End_l1_b f (fun y90 => K (.exit 2) (f107_l1_o2 y90))  y30 x10 y90) (funext fun y30 => funext fun x10 => funext fun y90 => ih y30 x10 y90))

noncomputable def f107_l0_p (k : Nat) (K : Ex → St → Option (shDen spec_l01End_sh)) (n : Nat) (z130 : (List Int)) (x8 : Int) (y30 : (List Int)) : Option (shDen spec_l01End_sh) := loopK (f107_cx k) 0 (execK (f107_cx k) (callK (f107_cx k) 8) 0 107 (sub f107_c [1, 1, 0, 1, 0, 0])) f107_l0_cut K n (f107_l0_s z130 x8 y30)

theorem f107_l0_exit0 (k : Nat)  (y30 : (List Int)) : ((blkK 0 (seqK (execK (f107_cx k) (callK (f107_cx k) 8) 0 107 (sub f107_c [1, 1, 1])) (finK (f107_cx k) f107_i spec_l01End_sh))) (.exit 0) (f107_l0_o0 y30) : Option (shDen spec_l01End_sh)) =
 ((loopK (f107_cx k) 0 (execK (f107_cx k) (callK (f107_cx k) 8) 0 107 (sub f107_c [1, 1, 1, 1, 0, 1, 0, 0])) f107_l1_cut (blkK 2 (seqK (execK (f107_cx k) (callK (f107_cx k) 8) 0 107 (sub f107_c [1, 1, 1, 1, 1])) (finK (f107_cx k) f107_i spec_l01End_sh))) k (f107_l1_s y30 (0 : Int) (List.replicate 32 (0 : Int)))) : Option (shDen spec_l01End_sh)) := by kernel_rfl

theorem f107_l0_round (k : Nat) (K : Ex → St → Option (shDen spec_l01End_sh)) (n : Nat) (z130 : (List Int)) (x8 : Int) (y30 : (List Int)) : (f107_l0_p k K (n + 1)  z130 x8 y30 : Option (shDen spec_l01End_sh)) = spec_l01End_l0_b ((fun z130 x8 y30 => f107_l0_p k K n  z130 x8 y30)) (fun y30 => K (.exit 0) (f107_l0_o0 y30))  z130 x8 y30 := by kernel_rfl

theorem f107_l0_L_eq (K : Ex → St → Option (shDen spec_l01End_sh))  : ∀ (n : Nat) (z130 : (List Int)) (x8 : Int) (y30 : (List Int)), (f107_l0_p FUEL K n  z130 x8 y30 : Option (shDen spec_l01End_sh)) = spec_l01End_l0_L (fun y30 => K (.exit 0) (f107_l0_o0 y30))  n z130 x8 y30 := by
 intro n
 induction n with
 | zero => intros; rfl
 | succ n ih =>
  intro z130 x8 y30
  exact (f107_l0_round FUEL K n  z130 x8 y30).trans (congrArg (fun f => spec_l01End_l0_b f (fun y30 => K (.exit 0) (f107_l0_o0 y30))  z130 x8 y30) (funext fun z130 => funext fun x8 => funext fun y30 => ih z130 x8 y30))

theorem f107_start (k : Nat) (a0 : (List Int)) (a1 : (List Int)) (a2 : Int) : fnK (f107_cx k) 8 107 f107_i spec_l01End_sh [.pv (.arr 8 (.int .u32)) a0, .pv K25 a1, .pv (.int .i64) a2] =
 ((bindO (spec_l01Padded_r a1 a2) fun (b1 : (List Int)) => (loopK (f107_cx k) 0 (execK (f107_cx k) (callK (f107_cx k) 8) 0 107 (sub f107_c [1, 1, 0, 1, 0, 0])) f107_l0_cut (blkK 0 (seqK (execK (f107_cx k) (callK (f107_cx k) 8) 0 107 (sub f107_c [1, 1, 1])) (finK (f107_cx k) f107_i spec_l01End_sh))) k (f107_l0_s b1 (0 : Int) a0))) : Option (shDen spec_l01End_sh)) := by kernel_rfl

theorem f107_run (a0 : (List Int)) (a1 : (List Int)) (a2 : Int) : fnK (f107_cx FUEL) 8 107 f107_i spec_l01End_sh [.pv (.arr 8 (.int .u32)) a0, .pv K25 a1, .pv (.int .i64) a2] = spec_l01End_r a0 a1 a2 :=
 (f107_start FUEL a0 a1 a2).trans (bindC (fun b1 => (f107_l0_L_eq _  FUEL b1 (0 : Int) a0).trans (congrArg (fun e0 => spec_l01End_l0_L e0  FUEL b1 (0 : Int) a0) (funext fun y30 => (f107_l0_exit0 FUEL  y30).trans ((f107_l1_L_eq _  FUEL y30 (0 : Int) (List.replicate 32 (0 : Int))).trans (congrArg (fun e0 => spec_l01End_l1_L e0  FUEL y30 (0 : Int) (List.replicate 32 (0 : Int))) (funext fun y90 => (f107_l1_exit2 FUEL  y90).trans (rfl))))))))

noncomputable def f107_con : Con := { ps := (.pair (.arr 8 (.int .u32)) K12), sh := spec_l01End_sh, raw := fun x => spec_l01End_r x.1 x.2.1 x.2.2.1 }
theorem f107_conOk : ConOk Tryz.prog 107 f107_con := con_of_fn (f107_tabs FUEL) (depth := 8) f107_ok fun x y h => (f107_run x.1 x.2.1 x.2.2.1).trans h

noncomputable def f92_cx (k : Nat) : Cx := mkC [] [(107, f107_con), (108, f108_con)] [] [] [] k [] false
theorem f92_tabs (k : Nat) : TabsOk Tryz.prog (f92_cx k) := mkC_ok ⟨f107_conOk, f108_conOk, trivial⟩ trivial trivial trivial
abbrev spec_l01Hash_sh : List Sh := [.pl (.arr 32 (.int .u8))]
noncomputable def spec_l01Hash_r (a0 : Int) (a1 : (List Int)) : Option (shDen spec_l01Hash_sh) :=
 (bindO (spec_l01Start_r a0) fun (b1 : (List Int)) => (bindO (spec_l01End_r b1 a1 (a1.length : Int)) fun (b2 : (List Int)) => (some b2)))
theorem f92_run (a0 : Int) (a1 : (List Int)) : fnK (f92_cx FUEL) 8 92 f92_i spec_l01Hash_sh [.pv (.int .u8) a0, .pv K25 a1] = spec_l01Hash_r a0 a1 := by kernel_rfl

noncomputable def f92_con : Con := { ps := K13, sh := spec_l01Hash_sh, raw := fun x => spec_l01Hash_r x.1 x.2.1 }
theorem f92_conOk : ConOk Tryz.prog 92 f92_con := con_of_fn (f92_tabs FUEL) (depth := 8) f92_ok fun x y h => (f92_run x.1 x.2.1).trans h

noncomputable def f68_cx (k : Nat) : Cx := mkC [] [(92, f92_con)] [] [] [] k [] false
theorem f68_tabs (k : Nat) : TabsOk Tryz.prog (f68_cx k) := mkC_ok ⟨f92_conOk, trivial⟩ trivial trivial trivial
abbrev spec_l05Key_sh : List Sh := [.pl (.arr 32 (.int .u8))]
noncomputable def spec_l05Key_r (a0 : T10) : Option (shDen spec_l05Key_sh) :=
 (bindO (spec_l01Hash_r a0.1 a0.2.1) fun (b1 : (List Int)) => (some b1))
theorem f68_run (a0 : T10) : fnK (f68_cx FUEL) 8 68 f68_i spec_l05Key_sh [.pv (.ref K13) a0] = spec_l05Key_r a0 := by kernel_rfl

noncomputable def f68_con : Con := { ps := (.pair (.ref K13) .unit), sh := spec_l05Key_sh, raw := fun x => spec_l05Key_r x.1 }
theorem f68_conOk : ConOk Tryz.prog 68 f68_con := con_of_fn (f68_tabs FUEL) (depth := 8) f68_ok fun x y h => (f68_run x.1).trans h

noncomputable def f69_l0_cut : Cut := { keep := [2, 3, 5], stk := [], ids := [20, 30], own := [], outs := [(0, [4], []), (1, [], [])] }
noncomputable def f69_cx (k : Nat) : Cx := mkC [] [] [] [] [(69, [(0, f69_l0_cut)])] k [] false
theorem f69_tabs (k : Nat) : TabsOk Tryz.prog (f69_cx k) := mkC_ok trivial trivial trivial trivial
abbrev spec_l01Compare_sh : List Sh := [.pl (.int .i64)]
noncomputable def f69_l0_s (a0 : (List Int)) (a1 : (List Int)) (x5 : Int) : St := { env := (.dead :: .dead :: .ptr 20 (.arr 32 (.int .u8)) [] :: .ptr 30 (.arr 32 (.int .u8)) [] :: .dead :: .pv (.int .i64) x5 :: (dd 18 [])), stk := [], heap := [(20, .var (.arr 32 (.int .u8)) (.pv (.arr 32 (.int .u8)) a0)), (30, .var (.arr 32 (.int .u8)) (.pv (.arr 32 (.int .u8)) a1))] }
noncomputable def f69_l0_o (x4 : Int) : St := { env := (dd 4 (.pv (.int .i64) x4 :: (dd 19 []))), stk := [], heap := [] }
noncomputable def f69_l0_o0  : St := { env := (dd 24 []), stk := [], heap := [] }
noncomputable def spec_l01Compare_l0_b (rec : Int → Option (shDen spec_l01Compare_sh)) (kr : Int → Option (shDen spec_l01Compare_sh)) (ke0 : Option (shDen spec_l01Compare_sh)) (a0 : (List Int)) (a1 : (List Int)) (x5 : Int) : Option (shDen spec_l01Compare_sh) :=
 (cond (decide (x5 < (32 : Int)))
 (cond ((decide ((0 : Int) ≤ x5)) && (decide (x5 < (32 : Int))))
 (cond ((decide ((0 : Int) ≤ x5)) && (decide (x5 < (32 : Int))))
 (cond (!(decide ((a0.getD (x5.toNat) (0 : Int)) = (a1.getD (x5.toNat) (0 : Int)))))
 (cond ((decide ((0 : Int) ≤ x5)) && (decide (x5 < (32 : Int))))
 (cond ((decide ((0 : Int) ≤ x5)) && (decide (x5 < (32 : Int))))
 (cond (decide ((a0.getD (x5.toNat) (0 : Int)) < (a1.getD (x5.toNat) (0 : Int))))
 (kr (-1 : Int))
 (kr (1 : Int)))
 none)
 none)
 (rec (IntKind.wrap .i64 (x5 + (1 : Int)))))
 none)
 none)
 (ke0))
noncomputable def spec_l01Compare_l0_L (kr : Int → Option (shDen spec_l01Compare_sh)) (ke0 : Option (shDen spec_l01Compare_sh)) (a0 : (List Int)) (a1 : (List Int)) : Nat → Int → Option (shDen spec_l01Compare_sh)
 | 0 => fun _ => none
 | n + 1 => spec_l01Compare_l0_b (spec_l01Compare_l0_L kr ke0 a0 a1 n) kr ke0 a0 a1
noncomputable def spec_l01Compare_r (a0 : (List Int)) (a1 : (List Int)) : Option (shDen spec_l01Compare_sh) :=
 (spec_l01Compare_l0_L (fun x4 => (some x4)) (some (0 : Int)) a0 a1 FUEL (0 : Int))
noncomputable def f69_l0_p (k : Nat) (K : Ex → St → Option (shDen spec_l01Compare_sh)) (n : Nat) (a0 : (List Int)) (a1 : (List Int)) (x5 : Int) : Option (shDen spec_l01Compare_sh) := loopK (f69_cx k) 0 (execK (f69_cx k) (callK (f69_cx k) 8) 0 69 (sub f69_c [1, 0, 1, 0, 0])) f69_l0_cut K n (f69_l0_s a0 a1 x5)

theorem f69_l0_ret (k : Nat)  (x4 : Int) : ((blkK 0 (seqK (execK (f69_cx k) (callK (f69_cx k) 8) 0 69 (sub f69_c [1, 1])) (finK (f69_cx k) f69_i spec_l01Compare_sh))) .ret (f69_l0_o x4) : Option (shDen spec_l01Compare_sh)) =
 ((some x4) : Option (shDen spec_l01Compare_sh)) := by kernel_rfl

theorem f69_l0_exit0 (k : Nat)   : ((blkK 0 (seqK (execK (f69_cx k) (callK (f69_cx k) 8) 0 69 (sub f69_c [1, 1])) (finK (f69_cx k) f69_i spec_l01Compare_sh))) (.exit 0) (f69_l0_o0) : Option (shDen spec_l01Compare_sh)) =
 ((some (0 : Int)) : Option (shDen spec_l01Compare_sh)) := by kernel_rfl

theorem f69_l0_round (k : Nat) (K : Ex → St → Option (shDen spec_l01Compare_sh)) (n : Nat) (a0 : (List Int)) (a1 : (List Int)) (x5 : Int) : (f69_l0_p k K (n + 1) a0 a1 x5 : Option (shDen spec_l01Compare_sh)) = spec_l01Compare_l0_b ((fun x5 => f69_l0_p k K n a0 a1 x5)) (fun x4 => K .ret (f69_l0_o x4)) (K (.exit 0) (f69_l0_o0)) a0 a1 x5 := by kernel_rfl

theorem f69_l0_L_eq (K : Ex → St → Option (shDen spec_l01Compare_sh)) (a0 : (List Int)) (a1 : (List Int)) : ∀ (n : Nat) (x5 : Int), (f69_l0_p FUEL K n a0 a1 x5 : Option (shDen spec_l01Compare_sh)) = spec_l01Compare_l0_L (fun x4 => K .ret (f69_l0_o x4)) (K (.exit 0) (f69_l0_o0)) a0 a1 n x5 := by
 intro n
 induction n with
 | zero => intros; rfl
 | succ n ih =>
  intro x5
  exact (f69_l0_round FUEL K n a0 a1 x5).trans (congrArg (fun f => spec_l01Compare_l0_b f (fun x4 => K .ret (f69_l0_o x4)) (K (.exit 0) (f69_l0_o0)) a0 a1 x5) (funext fun x5 => ih x5))

theorem f69_start (k : Nat) (a0 : (List Int)) (a1 : (List Int)) : fnK (f69_cx k) 8 69 f69_i spec_l01Compare_sh [.pv (.arr 32 (.int .u8)) a0, .pv (.arr 32 (.int .u8)) a1] =
 ((loopK (f69_cx k) 0 (execK (f69_cx k) (callK (f69_cx k) 8) 0 69 (sub f69_c [1, 0, 1, 0, 0])) f69_l0_cut (blkK 0 (seqK (execK (f69_cx k) (callK (f69_cx k) 8) 0 69 (sub f69_c [1, 1])) (finK (f69_cx k) f69_i spec_l01Compare_sh))) k (f69_l0_s a0 a1 (0 : Int))) : Option (shDen spec_l01Compare_sh)) := by kernel_rfl

theorem f69_run (a0 : (List Int)) (a1 : (List Int)) : fnK (f69_cx FUEL) 8 69 f69_i spec_l01Compare_sh [.pv (.arr 32 (.int .u8)) a0, .pv (.arr 32 (.int .u8)) a1] = spec_l01Compare_r a0 a1 :=
 (f69_start FUEL a0 a1).trans ((f69_l0_L_eq _ a0 a1 FUEL (0 : Int)).trans (cong2 (fun e0 e1 => spec_l01Compare_l0_L e0 e1 a0 a1 FUEL (0 : Int)) (funext fun x4 => (f69_l0_ret FUEL  x4).trans (rfl)) ( (f69_l0_exit0 FUEL  ).trans (rfl))))

noncomputable def f69_con : Con := { ps := (.pair (.arr 32 (.int .u8)) K18), sh := spec_l01Compare_sh, raw := fun x => spec_l01Compare_r x.1 x.2.1 }
theorem f69_conOk : ConOk Tryz.prog 69 f69_con := con_of_fn (f69_tabs FUEL) (depth := 8) f69_ok fun x y h => (f69_run x.1 x.2.1).trans h

noncomputable def f32_cx (k : Nat) : Cx := mkC [] [] [] [] [] k [] false
theorem f32_tabs (k : Nat) : TabsOk Tryz.prog (f32_cx k) := mkC_ok trivial trivial trivial trivial
abbrev spec_l00In_sh : List Sh := [.pl .bool]
noncomputable def spec_l00In_r (a0 : Int) (a1 : Int) (a2 : Int) : Option (shDen spec_l00In_sh) :=
 (cond (decide (a1 ≤ a0))
 (some (decide (a0 ≤ a2)))
 (some false))
theorem f32_run (a0 : Int) (a1 : Int) (a2 : Int) : fnK (f32_cx FUEL) 8 32 f32_i spec_l00In_sh [.pv (.int .i64) a0, .pv (.int .i64) a1, .pv (.int .i64) a2] = spec_l00In_r a0 a1 a2 := by kernel_rfl

noncomputable def f32_con : Con := { ps := (.pair (.int .i64) (.pair (.int .i64) K23)), sh := spec_l00In_sh, raw := fun x => spec_l00In_r x.1 x.2.1 x.2.2.1 }
theorem f32_conOk : ConOk Tryz.prog 32 f32_con := con_of_fn (f32_tabs FUEL) (depth := 8) f32_ok fun x y h => (f32_run x.1 x.2.1 x.2.2.1).trans h

noncomputable def f41_cx (k : Nat) : Cx := mkC [] [(32, f32_con)] [] [] [] k [] false
theorem f41_tabs (k : Nat) : TabsOk Tryz.prog (f41_cx k) := mkC_ok ⟨f32_conOk, trivial⟩ trivial trivial trivial
abbrev spec_l04Name_sh : List Sh := [.pl .bool]
noncomputable def spec_l04Name_r (a0 : List Int) : Option (shDen spec_l04Name_sh) :=
 (bindO (spec_l00In_r (a0.length : Int) (1 : Int) (24 : Int)) fun (b1 : Bool) => (some b1))
theorem f41_run (a0 : List Int) : fnK (f41_cx FUEL) 8 41 f41_i spec_l04Name_sh [.pv .str a0] = spec_l04Name_r a0 := by kernel_rfl

noncomputable def f41_con : Con := { ps := K26, sh := spec_l04Name_sh, raw := fun x => spec_l04Name_r x.1 }
theorem f41_conOk : ConOk Tryz.prog 41 f41_con := con_of_fn (f41_tabs FUEL) (depth := 8) f41_ok fun x y h => (f41_run x.1).trans h

noncomputable def f70_cx (k : Nat) : Cx := mkC [] [(92, f92_con)] [] [] [] k [] false
theorem f70_tabs (k : Nat) : TabsOk Tryz.prog (f70_cx k) := mkC_ok ⟨f92_conOk, trivial⟩ trivial trivial trivial
abbrev spec_l04Empty_sh : List Sh := [.pl (.arr 32 (.int .u8))]
noncomputable def spec_l04Empty_r  : Option (shDen spec_l04Empty_sh) :=
 (bindO (spec_l01Hash_r (5 : Int) []) fun (b1 : (List Int)) => (some b1))
theorem f70_run  : fnK (f70_cx FUEL) 8 70 f70_i spec_l04Empty_sh [] = spec_l04Empty_r  := by kernel_rfl

noncomputable def f70_con : Con := { ps := .unit, sh := spec_l04Empty_sh, raw := fun x => spec_l04Empty_r  }
theorem f70_conOk : ConOk Tryz.prog 70 f70_con := con_of_fn (f70_tabs FUEL) (depth := 8) f70_ok fun x y h => (f70_run ).trans h

noncomputable def f59_l0_cut : Cut := { keep := [0, 3, 5], stk := [], ids := [30], own := [], outs := [(0, [4], []), (1, [], [])] }
noncomputable def f59_cx (k : Nat) : Cx := mkC [] [] [] [] [(59, [(0, f59_l0_cut)])] k [] false
theorem f59_tabs (k : Nat) : TabsOk Tryz.prog (f59_cx k) := mkC_ok trivial trivial trivial trivial
abbrev spec_l05Store_find_sh : List Sh := [.pl (.int .i64)]
noncomputable def f59_l0_s (a0 : T3) (a1 : (List Int)) (x5 : Int) : St := { env := (.pv (.ref K1) a0 :: .dead :: .dead :: .ptr 30 (.arr 32 (.int .u8)) [] :: .dead :: .pv (.int .i64) x5 :: (dd 19 [])), stk := [], heap := [(30, .var (.arr 32 (.int .u8)) (.pv (.arr 32 (.int .u8)) a1))] }
noncomputable def f59_l0_o (x4 : Int) : St := { env := (dd 4 (.pv (.int .i64) x4 :: (dd 20 []))), stk := [], heap := [] }
noncomputable def f59_l0_o0  : St := { env := (dd 25 []), stk := [], heap := [] }
noncomputable def spec_l05Store_find_l0_b (rec : Int → Option (shDen spec_l05Store_find_sh)) (kr : Int → Option (shDen spec_l05Store_find_sh)) (ke0 : Option (shDen spec_l05Store_find_sh)) (a0 : T3) (a1 : (List Int)) (x5 : Int) : Option (shDen spec_l05Store_find_sh) :=
 (cond (decide (x5 < (a0.2.1.length : Int)))
 (cond ((decide ((0 : Int) ≤ x5)) && (decide (x5 < (a0.2.1.length : Int))))
 (cond (eqd (.arr 32 (.int .u8)) (a0.2.1.getD (x5.toNat) (List.replicate 32 (0 : Int))) a1)
 (kr x5)
 (rec (IntKind.wrap .i64 (x5 + (1 : Int)))))
 none)
 (ke0))
noncomputable def spec_l05Store_find_l0_L (kr : Int → Option (shDen spec_l05Store_find_sh)) (ke0 : Option (shDen spec_l05Store_find_sh)) (a0 : T3) (a1 : (List Int)) : Nat → Int → Option (shDen spec_l05Store_find_sh)
 | 0 => fun _ => none
 | n + 1 => spec_l05Store_find_l0_b (spec_l05Store_find_l0_L kr ke0 a0 a1 n) kr ke0 a0 a1
noncomputable def spec_l05Store_find_r (a0 : T3) (a1 : (List Int)) : Option (shDen spec_l05Store_find_sh) :=
 (spec_l05Store_find_l0_L (fun x4 => (some x4)) (some (-1 : Int)) a0 a1 FUEL (0 : Int))
noncomputable def f59_l0_p (k : Nat) (K : Ex → St → Option (shDen spec_l05Store_find_sh)) (n : Nat) (a0 : T3) (a1 : (List Int)) (x5 : Int) : Option (shDen spec_l05Store_find_sh) := loopK (f59_cx k) 0 (execK (f59_cx k) (callK (f59_cx k) 8) 0 59 (sub f59_c [1, 0, 1, 0, 0])) f59_l0_cut K n (f59_l0_s a0 a1 x5)

theorem f59_l0_ret (k : Nat)  (x4 : Int) : ((blkK 0 (seqK (execK (f59_cx k) (callK (f59_cx k) 8) 0 59 (sub f59_c [1, 1])) (finK (f59_cx k) f59_i spec_l05Store_find_sh))) .ret (f59_l0_o x4) : Option (shDen spec_l05Store_find_sh)) =
 ((some x4) : Option (shDen spec_l05Store_find_sh)) := by kernel_rfl

theorem f59_l0_exit0 (k : Nat)   : ((blkK 0 (seqK (execK (f59_cx k) (callK (f59_cx k) 8) 0 59 (sub f59_c [1, 1])) (finK (f59_cx k) f59_i spec_l05Store_find_sh))) (.exit 0) (f59_l0_o0) : Option (shDen spec_l05Store_find_sh)) =
 ((some (-1 : Int)) : Option (shDen spec_l05Store_find_sh)) := by kernel_rfl

theorem f59_l0_round (k : Nat) (K : Ex → St → Option (shDen spec_l05Store_find_sh)) (n : Nat) (a0 : T3) (a1 : (List Int)) (x5 : Int) : (f59_l0_p k K (n + 1) a0 a1 x5 : Option (shDen spec_l05Store_find_sh)) = spec_l05Store_find_l0_b ((fun x5 => f59_l0_p k K n a0 a1 x5)) (fun x4 => K .ret (f59_l0_o x4)) (K (.exit 0) (f59_l0_o0)) a0 a1 x5 := by kernel_rfl

theorem f59_l0_L_eq (K : Ex → St → Option (shDen spec_l05Store_find_sh)) (a0 : T3) (a1 : (List Int)) : ∀ (n : Nat) (x5 : Int), (f59_l0_p FUEL K n a0 a1 x5 : Option (shDen spec_l05Store_find_sh)) = spec_l05Store_find_l0_L (fun x4 => K .ret (f59_l0_o x4)) (K (.exit 0) (f59_l0_o0)) a0 a1 n x5 := by
 intro n
 induction n with
 | zero => intros; rfl
 | succ n ih =>
  intro x5
  exact (f59_l0_round FUEL K n a0 a1 x5).trans (congrArg (fun f => spec_l05Store_find_l0_b f (fun x4 => K .ret (f59_l0_o x4)) (K (.exit 0) (f59_l0_o0)) a0 a1 x5) (funext fun x5 => ih x5))

theorem f59_start (k : Nat) (a0 : T3) (a1 : (List Int)) : fnK (f59_cx k) 8 59 f59_i spec_l05Store_find_sh [.pv (.ref K1) a0, .pv (.arr 32 (.int .u8)) a1] =
 ((loopK (f59_cx k) 0 (execK (f59_cx k) (callK (f59_cx k) 8) 0 59 (sub f59_c [1, 0, 1, 0, 0])) f59_l0_cut (blkK 0 (seqK (execK (f59_cx k) (callK (f59_cx k) 8) 0 59 (sub f59_c [1, 1])) (finK (f59_cx k) f59_i spec_l05Store_find_sh))) k (f59_l0_s a0 a1 (0 : Int))) : Option (shDen spec_l05Store_find_sh)) := by kernel_rfl

theorem f59_run (a0 : T3) (a1 : (List Int)) : fnK (f59_cx FUEL) 8 59 f59_i spec_l05Store_find_sh [.pv (.ref K1) a0, .pv (.arr 32 (.int .u8)) a1] = spec_l05Store_find_r a0 a1 :=
 (f59_start FUEL a0 a1).trans ((f59_l0_L_eq _ a0 a1 FUEL (0 : Int)).trans (cong2 (fun e0 e1 => spec_l05Store_find_l0_L e0 e1 a0 a1 FUEL (0 : Int)) (funext fun x4 => (f59_l0_ret FUEL  x4).trans (rfl)) ( (f59_l0_exit0 FUEL  ).trans (rfl))))

noncomputable def f59_con : Con := { ps := (.pair (.ref K1) K18), sh := spec_l05Store_find_sh, raw := fun x => spec_l05Store_find_r x.1 x.2.1 }
theorem f59_conOk : ConOk Tryz.prog 59 f59_con := con_of_fn (f59_tabs FUEL) (depth := 8) f59_ok fun x y h => (f59_run x.1 x.2.1).trans h

noncomputable def f109_cx (k : Nat) : Cx := mkC [] [(41, f41_con)] [] [] [] k [] false
theorem f109_tabs (k : Nat) : TabsOk Tryz.prog (f109_cx k) := mkC_ok ⟨f41_conOk, trivial⟩ trivial trivial trivial
abbrev spec_l04Entry_sh : List Sh := [.pl .bool]
noncomputable def spec_l04Entry_r (a0 : T9) : Option (shDen spec_l04Entry_sh) :=
 (bindO (spec_l04Name_r a0.1) fun (b1 : Bool) => (cond b1
 (some (decide ((a0.2.1.length : Int) ≤ (64 : Int))))
 (some false)))
theorem f109_run (a0 : T9) : fnK (f109_cx FUEL) 8 109 f109_i spec_l04Entry_sh [.pv (.ref K20) a0] = spec_l04Entry_r a0 := by kernel_rfl

noncomputable def f109_con : Con := { ps := (.pair (.ref K20) .unit), sh := spec_l04Entry_sh, raw := fun x => spec_l04Entry_r x.1 }
theorem f109_conOk : ConOk Tryz.prog 109 f109_con := con_of_fn (f109_tabs FUEL) (depth := 8) f109_ok fun x y h => (f109_run x.1).trans h

noncomputable def f93_l0_cut : Cut := { keep := [0, 2, 4, 5, 6], stk := [], ids := [20, 40], own := [], outs := [(1, [0, 2, 4, 5], [20, 40])] }
noncomputable def f93_cx (k : Nat) : Cx := mkC [] [(109, f109_con)] [] [] [(93, [(0, f93_l0_cut)])] k [] false
theorem f93_tabs (k : Nat) : TabsOk Tryz.prog (f93_cx k) := mkC_ok ⟨f109_conOk, trivial⟩ trivial trivial trivial
abbrev spec_l04Read_sh : List Sh := [.pl K4, .pl .bool]
noncomputable def f93_l0_s (a0 : (List Int)) (x6 : Int) (y40 : T2) : St := { env := (.pv K25 a0 :: .dead :: .ptr 20 K4 [] :: .dead :: .ptr 40 K4 [] :: .pv (.int .i64) (IntKind.wrap .i64 (a0.getD 64 (0 : Int))) :: .pv (.int .i64) x6 :: (dd 54 [])), stk := [], heap := [(20, .var K4 (.pv K4 ((List.replicate 32 (0 : Int)), ((List.replicate 32 (0 : Int)), (([], ([], ())), ()))))), (40, .var K4 (.pv K4 y40))] }
noncomputable def f93_l0_o0 (a0 : (List Int)) (y40 : T2) : St := { env := (.pv K25 a0 :: .dead :: .ptr 20 K4 [] :: .dead :: .ptr 40 K4 [] :: .pv (.int .i64) (IntKind.wrap .i64 (a0.getD 64 (0 : Int))) :: (dd 55 [])), stk := [], heap := [(20, .var K4 (.pv K4 ((List.replicate 32 (0 : Int)), ((List.replicate 32 (0 : Int)), (([], ([], ())), ()))))), (40, .var K4 (.pv K4 y40))] }
noncomputable def spec_l04Read_l0_b (rec : Int → T2 → Option (shDen spec_l04Read_sh)) (ke0 : T2 → Option (shDen spec_l04Read_sh)) (a0 : (List Int)) (x6 : Int) (y40 : T2) : Option (shDen spec_l04Read_sh) :=
 (cond (decide (x6 < (32 : Int)))
 (cond ((decide ((0 : Int) ≤ x6)) && (decide (x6 < (a0.length : Int))))
 (cond ((decide ((0 : Int) ≤ x6)) && (decide (x6 < (32 : Int))))
 (cond ((decide ((0 : Int) ≤ (IntKind.wrap .i64 ((32 : Int) + x6)))) && (decide ((IntKind.wrap .i64 ((32 : Int) + x6)) < (a0.length : Int))))
 (cond ((decide ((0 : Int) ≤ x6)) && (decide (x6 < (32 : Int))))
 (rec (IntKind.wrap .i64 (x6 + (1 : Int))) ((y40.1.set (x6.toNat) (a0.getD (x6.toNat) (0 : Int))), ((y40.2.1.set (x6.toNat) (a0.getD ((IntKind.wrap .i64 ((32 : Int) + x6)).toNat) (0 : Int))), y40.2.2)))
 none)
 none)
 none)
 none)
 (ke0 y40))
noncomputable def spec_l04Read_l0_L (ke0 : T2 → Option (shDen spec_l04Read_sh)) (a0 : (List Int)) : Nat → Int → T2 → Option (shDen spec_l04Read_sh)
 | 0 => fun _ _ => none
 | n + 1 => spec_l04Read_l0_b (spec_l04Read_l0_L ke0 a0 n) ke0 a0
noncomputable def spec_l04Read_r (a0 : (List Int)) : Option (shDen spec_l04Read_sh) :=
 (cond (decide ((a0.length : Int) < (66 : Int)))
 (some (((List.replicate 32 (0 : Int)), ((List.replicate 32 (0 : Int)), (([], ([], ())), ()))), false))
 (cond (decide ((153 : Int) < (a0.length : Int)))
 (some (((List.replicate 32 (0 : Int)), ((List.replicate 32 (0 : Int)), (([], ([], ())), ()))), false))
 (cond (decide ((64 : Int) < (a0.length : Int)))
 (cond (decide ((a0.length : Int) < (IntKind.wrap .i64 ((65 : Int) + (IntKind.wrap .i64 (a0.getD 64 (0 : Int)))))))
 (some (((List.replicate 32 (0 : Int)), ((List.replicate 32 (0 : Int)), (([], ([], ())), ()))), false))
 (spec_l04Read_l0_L (fun y40 => (cond ((decide ((0 : Int) ≤ (IntKind.wrap .i64 ((65 : Int) + (IntKind.wrap .i64 (a0.getD 64 (0 : Int))))))) && (decide ((IntKind.wrap .i64 ((65 : Int) + (IntKind.wrap .i64 (a0.getD 64 (0 : Int))))) ≤ (a0.length : Int))))
 (cond (decide ((65 : Int) ≤ (IntKind.wrap .i64 ((65 : Int) + (IntKind.wrap .i64 (a0.getD 64 (0 : Int)))))))
 (cond ((decide ((0 : Int) ≤ (IntKind.wrap .i64 ((65 : Int) + (IntKind.wrap .i64 (a0.getD 64 (0 : Int))))))) && (decide ((IntKind.wrap .i64 ((65 : Int) + (IntKind.wrap .i64 (a0.getD 64 (0 : Int))))) ≤ (a0.length : Int))))
 (bindO (spec_l04Entry_r ((cutL a0 65 ((IntKind.wrap .i64 ((65 : Int) + (IntKind.wrap .i64 (a0.getD 64 (0 : Int))))).toNat)), ((cutL a0 ((IntKind.wrap .i64 ((65 : Int) + (IntKind.wrap .i64 (a0.getD 64 (0 : Int))))).toNat) (a0.length)), ()))) fun (b1 : Bool) => (some ((y40.1, (y40.2.1, (((cutL a0 65 ((IntKind.wrap .i64 ((65 : Int) + (IntKind.wrap .i64 (a0.getD 64 (0 : Int))))).toNat)), ((cutL a0 ((IntKind.wrap .i64 ((65 : Int) + (IntKind.wrap .i64 (a0.getD 64 (0 : Int))))).toNat) (a0.length)), ())), y40.2.2.2))), b1)))
 none)
 none)
 none)) a0 FUEL (0 : Int) ((List.replicate 32 (0 : Int)), ((List.replicate 32 (0 : Int)), (([], ([], ())), ())))))
 none)))
noncomputable def f93_l0_p (k : Nat) (K : Ex → St → Option (shDen spec_l04Read_sh)) (n : Nat) (a0 : (List Int)) (x6 : Int) (y40 : T2) : Option (shDen spec_l04Read_sh) := loopK (f93_cx k) 0 (execK (f93_cx k) (callK (f93_cx k) 8) 0 93 (sub f93_c [1, 1, 1, 1, 1, 0, 1, 0, 0])) f93_l0_cut K n (f93_l0_s a0 x6 y40)

theorem f93_l0_exit0 (k : Nat)  (a0 : (List Int)) (y40 : T2) : ((blkK 0 (seqK (execK (f93_cx k) (callK (f93_cx k) 8) 0 93 (sub f93_c [1, 1, 1, 1, 1, 1])) (finK (f93_cx k) f93_i spec_l04Read_sh))) (.exit 0) (f93_l0_o0 a0 y40) : Option (shDen spec_l04Read_sh)) =
 ((cond ((decide ((0 : Int) ≤ (IntKind.wrap .i64 ((65 : Int) + (IntKind.wrap .i64 (a0.getD 64 (0 : Int))))))) && (decide ((IntKind.wrap .i64 ((65 : Int) + (IntKind.wrap .i64 (a0.getD 64 (0 : Int))))) ≤ (a0.length : Int))))
 (cond (decide ((65 : Int) ≤ (IntKind.wrap .i64 ((65 : Int) + (IntKind.wrap .i64 (a0.getD 64 (0 : Int)))))))
 (cond ((decide ((0 : Int) ≤ (IntKind.wrap .i64 ((65 : Int) + (IntKind.wrap .i64 (a0.getD 64 (0 : Int))))))) && (decide ((IntKind.wrap .i64 ((65 : Int) + (IntKind.wrap .i64 (a0.getD 64 (0 : Int))))) ≤ (a0.length : Int))))
 (bindO (spec_l04Entry_r ((cutL a0 65 ((IntKind.wrap .i64 ((65 : Int) + (IntKind.wrap .i64 (a0.getD 64 (0 : Int))))).toNat)), ((cutL a0 ((IntKind.wrap .i64 ((65 : Int) + (IntKind.wrap .i64 (a0.getD 64 (0 : Int))))).toNat) (a0.length)), ()))) fun (b1 : Bool) => (some ((y40.1, (y40.2.1, (((cutL a0 65 ((IntKind.wrap .i64 ((65 : Int) + (IntKind.wrap .i64 (a0.getD 64 (0 : Int))))).toNat)), ((cutL a0 ((IntKind.wrap .i64 ((65 : Int) + (IntKind.wrap .i64 (a0.getD 64 (0 : Int))))).toNat) (a0.length)), ())), y40.2.2.2))), b1)))
 none)
 none)
 none) : Option (shDen spec_l04Read_sh)) := by kernel_rfl

theorem f93_l0_round (k : Nat) (K : Ex → St → Option (shDen spec_l04Read_sh)) (n : Nat) (a0 : (List Int)) (x6 : Int) (y40 : T2) : (f93_l0_p k K (n + 1) a0 x6 y40 : Option (shDen spec_l04Read_sh)) = spec_l04Read_l0_b ((fun x6 y40 => f93_l0_p k K n a0 x6 y40)) (fun y40 => K (.exit 0) (f93_l0_o0 a0 y40)) a0 x6 y40 := by kernel_rfl

theorem f93_l0_L_eq (K : Ex → St → Option (shDen spec_l04Read_sh)) (a0 : (List Int)) : ∀ (n : Nat) (x6 : Int) (y40 : T2), (f93_l0_p FUEL K n a0 x6 y40 : Option (shDen spec_l04Read_sh)) = spec_l04Read_l0_L (fun y40 => K (.exit 0) (f93_l0_o0 a0 y40)) a0 n x6 y40 := by
 intro n
 induction n with
 | zero => intros; rfl
 | succ n ih =>
  intro x6 y40
  exact (f93_l0_round FUEL K n a0 x6 y40).trans (congrArg (fun f => spec_l04Read_l0_b f (fun y40 => K (.exit 0) (f93_l0_o0 a0 y40)) a0 x6 y40) (funext fun x6 => funext fun y40 => ih x6 y40))

theorem f93_start (k : Nat) (a0 : (List Int)) : fnK (f93_cx k) 8 93 f93_i spec_l04Read_sh [.pv K25 a0] =
 ((cond (decide ((a0.length : Int) < (66 : Int)))
 (some (((List.replicate 32 (0 : Int)), ((List.replicate 32 (0 : Int)), (([], ([], ())), ()))), false))
 (cond (decide ((153 : Int) < (a0.length : Int)))
 (some (((List.replicate 32 (0 : Int)), ((List.replicate 32 (0 : Int)), (([], ([], ())), ()))), false))
 (cond (decide ((64 : Int) < (a0.length : Int)))
 (cond (decide ((a0.length : Int) < (IntKind.wrap .i64 ((65 : Int) + (IntKind.wrap .i64 (a0.getD 64 (0 : Int)))))))
 (some (((List.replicate 32 (0 : Int)), ((List.replicate 32 (0 : Int)), (([], ([], ())), ()))), false))
 (loopK (f93_cx k) 0 (execK (f93_cx k) (callK (f93_cx k) 8) 0 93 (sub f93_c [1, 1, 1, 1, 1, 0, 1, 0, 0])) f93_l0_cut (blkK 0 (seqK (execK (f93_cx k) (callK (f93_cx k) 8) 0 93 (sub f93_c [1, 1, 1, 1, 1, 1])) (finK (f93_cx k) f93_i spec_l04Read_sh))) k (f93_l0_s a0 (0 : Int) ((List.replicate 32 (0 : Int)), ((List.replicate 32 (0 : Int)), (([], ([], ())), ()))))))
 none))) : Option (shDen spec_l04Read_sh)) := by kernel_rfl

theorem f93_run (a0 : (List Int)) : fnK (f93_cx FUEL) 8 93 f93_i spec_l04Read_sh [.pv K25 a0] = spec_l04Read_r a0 :=
 (f93_start FUEL a0).trans (condC (rfl) (condC (rfl) (condC (condC (rfl) ((f93_l0_L_eq _ a0 FUEL (0 : Int) ((List.replicate 32 (0 : Int)), ((List.replicate 32 (0 : Int)), (([], ([], ())), ())))).trans (congrArg (fun e0 => spec_l04Read_l0_L e0 a0 FUEL (0 : Int) ((List.replicate 32 (0 : Int)), ((List.replicate 32 (0 : Int)), (([], ([], ())), ())))) (funext fun y40 => (f93_l0_exit0 FUEL  a0 y40).trans (rfl))))) (rfl))))

noncomputable def f93_con : Con := { ps := K19, sh := spec_l04Read_sh, raw := fun x => spec_l04Read_r x.1 }
theorem f93_conOk : ConOk Tryz.prog 93 f93_con := con_of_fn (f93_tabs FUEL) (depth := 8) f93_ok fun x y h => (f93_run x.1).trans h

noncomputable def f71_cx (k : Nat) : Cx := mkC [] [(59, f59_con), (93, f93_con)] [] [] [] k [] false
theorem f71_tabs (k : Nat) : TabsOk Tryz.prog (f71_cx k) := mkC_ok ⟨f59_conOk, f93_conOk, trivial⟩ trivial trivial trivial
abbrev spec_l08Node_sh : List Sh := [.pl K4, .pl (.int .i64)]
noncomputable def spec_l08Node_r (a0 : T3) (a1 : (List Int)) : Option (shDen spec_l08Node_sh) :=
 (bindO (spec_l05Store_find_r a0 a1) fun (b1 : Int) => (cond (decide (b1 < (0 : Int)))
 (some (((List.replicate 32 (0 : Int)), ((List.replicate 32 (0 : Int)), (([], ([], ())), ()))), (4 : Int)))
 (cond ((decide ((0 : Int) ≤ b1)) && (decide (b1 < (a0.1.length : Int))))
 (bindO (spec_l04Read_r (((a0.1.getD (b1.toNat) ((0 : Int), ([], ()))).2).1)) fun (b2 : (T2 × Bool)) => (cond (!b2.2)
 (some (((List.replicate 32 (0 : Int)), ((List.replicate 32 (0 : Int)), (([], ([], ())), ()))), (8 : Int)))
 (cond ((decide ((0 : Int) ≤ b1)) && (decide (b1 < (a0.1.length : Int))))
 (cond (!(decide ((a0.1.getD (b1.toNat) ((0 : Int), ([], ()))).1 = (5 : Int))))
 (some (((List.replicate 32 (0 : Int)), ((List.replicate 32 (0 : Int)), (([], ([], ())), ()))), (8 : Int)))
 (some (b2.1, (0 : Int))))
 none)))
 none)))
theorem f71_run (a0 : T3) (a1 : (List Int)) : fnK (f71_cx FUEL) 8 71 f71_i spec_l08Node_sh [.pv (.ref K1) a0, .pv (.arr 32 (.int .u8)) a1] = spec_l08Node_r a0 a1 := by kernel_rfl

noncomputable def f71_con : Con := { ps := (.pair (.ref K1) K18), sh := spec_l08Node_sh, raw := fun x => spec_l08Node_r x.1 x.2.1 }
theorem f71_conOk : ConOk Tryz.prog 71 f71_con := con_of_fn (f71_tabs FUEL) (depth := 8) f71_ok fun x y h => (f71_run x.1 x.2.1).trans h

noncomputable def f42_l0_cut : Cut := { keep := [0, 2, 7, 9, 10], stk := [], ids := [70, 100, 90090], own := [(9, 90090, 44)], outs := [(0, [6, 7, 8], [70, 60060]), (1, [7, 9], [70, 90090])], oown := [(0, [(6, 60060, 44)])] }
noncomputable def f42_cx (k : Nat) : Cx := mkC [] [(70, f70_con), (71, f71_con)] [] [] [(42, [(0, f42_l0_cut)])] k [] false
theorem f42_tabs (k : Nat) : TabsOk Tryz.prog (f42_cx k) := mkC_ok ⟨f70_conOk, f71_conOk, trivial⟩ trivial trivial trivial
abbrev spec_l08Path_sh : List Sh := [.own 90 K4, .pl (.arr 32 (.int .u8)), .pl (.int .i64)]
noncomputable def f42_l0_s (a0 : T3) (a2 : List Int) (y100 : (List Int)) (z90090 : T1) : St := { env := (.pv (.ref K1) a0 :: .dead :: .pv .str a2 :: (dd 4 (.ptr 70 (.arr 32 (.int .u8)) [] :: .dead :: .sl 90090 K4 :: .ptr 100 (.arr 32 (.int .u8)) [] :: (dd 53 [])))), stk := [], heap := [(70, .var (.arr 32 (.int .u8)) (.pv (.arr 32 (.int .u8)) (List.replicate 32 (0 : Int)))), (100, .var (.arr 32 (.int .u8)) (.pv (.arr 32 (.int .u8)) y100)), (90090, .arr 90 K4 z90090)] }
noncomputable def f42_l0_o (x8 : Int) (y70 : (List Int)) (z60060 : T1) : St := { env := (dd 6 (.sl 60060 K4 :: .ptr 70 (.arr 32 (.int .u8)) [] :: .pv (.int .i64) x8 :: (dd 55 []))), stk := [], heap := [(70, .var (.arr 32 (.int .u8)) (.pv (.arr 32 (.int .u8)) y70)), (60060, .arr 90 K4 z60060)] }
noncomputable def f42_l0_o0 (z90090 : T1) : St := { env := (dd 7 (.ptr 70 (.arr 32 (.int .u8)) [] :: .dead :: .sl 90090 K4 :: (dd 54 []))), stk := [], heap := [(70, .var (.arr 32 (.int .u8)) (.pv (.arr 32 (.int .u8)) (List.replicate 32 (0 : Int)))), (90090, .arr 90 K4 z90090)] }
noncomputable def spec_l08Path_l0_b (rec : (List Int) → T1 → Option (shDen spec_l08Path_sh)) (kr : Int → (List Int) → T1 → Option (shDen spec_l08Path_sh)) (ke0 : T1 → Option (shDen spec_l08Path_sh)) (a0 : T3) (a2 : List Int) (y100 : (List Int)) (z90090 : T1) : Option (shDen spec_l08Path_sh) :=
 (bindO (spec_l04Empty_r) fun (b3 : (List Int)) => (cond (!(eqd (.arr 32 (.int .u8)) y100 b3))
 (bindO (spec_l08Node_r a0 y100) fun (b4 : (T2 × Int)) => (cond (decide (b4.2 = (4 : Int)))
 (kr b4.2 y100 [])
 (cond (!(decide (b4.2 = (0 : Int))))
 (kr b4.2 (List.replicate 32 (0 : Int)) [])
 (cond (decide ((64 : Int) ≤ (z90090.length : Int)))
 (kr (8 : Int) (List.replicate 32 (0 : Int)) [])
 (cond (decide ((z90090.length + 1) * 96 ≤ 140737488355328) && decide (z90090.length + 1 ≤ 9223372036854775807))
 (cond (decide (b4.1.2.2.1.1 = a2))
 (kr (0 : Int) (List.replicate 32 (0 : Int)) (z90090 ++ [b4.1]))
 (cond (ltI a2 b4.1.2.2.1.1)
 (rec b4.1.1 (z90090 ++ [b4.1]))
 (rec b4.1.2.1 (z90090 ++ [b4.1]))))
 none)))))
 (ke0 z90090)))
noncomputable def spec_l08Path_l0_L (kr : Int → (List Int) → T1 → Option (shDen spec_l08Path_sh)) (ke0 : T1 → Option (shDen spec_l08Path_sh)) (a0 : T3) (a2 : List Int) : Nat → (List Int) → T1 → Option (shDen spec_l08Path_sh)
 | 0 => fun _ _ => none
 | n + 1 => spec_l08Path_l0_b (spec_l08Path_l0_L kr ke0 a0 a2 n) kr ke0 a0 a2
noncomputable def spec_l08Path_r (a0 : T3) (a1 : (List Int)) (a2 : List Int) : Option (shDen spec_l08Path_sh) :=
 (spec_l08Path_l0_L (fun x8 y70 z60060 => (some (z60060, (y70, x8)))) (fun z90090 => (some (z90090, ((List.replicate 32 (0 : Int)), (0 : Int))))) a0 a2 FUEL a1 [])
noncomputable def f42_l0_p (k : Nat) (K : Ex → St → Option (shDen spec_l08Path_sh)) (n : Nat) (a0 : T3) (a2 : List Int) (y100 : (List Int)) (z90090 : T1) : Option (shDen spec_l08Path_sh) := loopK (f42_cx k) 0 (execK (f42_cx k) (callK (f42_cx k) 8) 0 42 (sub f42_c [1, 1, 0, 1, 0, 0])) f42_l0_cut K n (f42_l0_s a0 a2 y100 z90090)

theorem f42_l0_ret (k : Nat)  (x8 : Int) (y70 : (List Int)) (z60060 : T1) : ((blkK 0 (seqK (execK (f42_cx k) (callK (f42_cx k) 8) 0 42 (sub f42_c [1, 1, 1])) (finK (f42_cx k) f42_i spec_l08Path_sh))) .ret (f42_l0_o x8 y70 z60060) : Option (shDen spec_l08Path_sh)) =
 ((some (z60060, (y70, x8))) : Option (shDen spec_l08Path_sh)) := by kernel_rfl

theorem f42_l0_exit0 (k : Nat)  (z90090 : T1) : ((blkK 0 (seqK (execK (f42_cx k) (callK (f42_cx k) 8) 0 42 (sub f42_c [1, 1, 1])) (finK (f42_cx k) f42_i spec_l08Path_sh))) (.exit 0) (f42_l0_o0 z90090) : Option (shDen spec_l08Path_sh)) =
 ((some (z90090, ((List.replicate 32 (0 : Int)), (0 : Int)))) : Option (shDen spec_l08Path_sh)) := by kernel_rfl

theorem f42_l0_round (k : Nat) (K : Ex → St → Option (shDen spec_l08Path_sh)) (n : Nat) (a0 : T3) (a2 : List Int) (y100 : (List Int)) (z90090 : T1) : (f42_l0_p k K (n + 1) a0 a2 y100 z90090 : Option (shDen spec_l08Path_sh)) = spec_l08Path_l0_b ((fun y100 z90090 => f42_l0_p k K n a0 a2 y100 z90090)) (fun x8 y70 z60060 => K .ret (f42_l0_o x8 y70 z60060)) (fun z90090 => K (.exit 0) (f42_l0_o0 z90090)) a0 a2 y100 z90090 := by kernel_rfl

theorem f42_l0_L_eq (K : Ex → St → Option (shDen spec_l08Path_sh)) (a0 : T3) (a2 : List Int) : ∀ (n : Nat) (y100 : (List Int)) (z90090 : T1), (f42_l0_p FUEL K n a0 a2 y100 z90090 : Option (shDen spec_l08Path_sh)) = spec_l08Path_l0_L (fun x8 y70 z60060 => K .ret (f42_l0_o x8 y70 z60060)) (fun z90090 => K (.exit 0) (f42_l0_o0 z90090)) a0 a2 n y100 z90090 := by
 intro n
 induction n with
 | zero => intros; rfl
 | succ n ih =>
  intro y100 z90090
  exact (f42_l0_round FUEL K n a0 a2 y100 z90090).trans (congrArg (fun f => spec_l08Path_l0_b f (fun x8 y70 z60060 => K .ret (f42_l0_o x8 y70 z60060)) (fun z90090 => K (.exit 0) (f42_l0_o0 z90090)) a0 a2 y100 z90090) (funext fun y100 => funext fun z90090 => ih y100 z90090))

theorem f42_start (k : Nat) (a0 : T3) (a1 : (List Int)) (a2 : List Int) : fnK (f42_cx k) 8 42 f42_i spec_l08Path_sh [.pv (.ref K1) a0, .pv (.arr 32 (.int .u8)) a1, .pv .str a2] =
 ((loopK (f42_cx k) 0 (execK (f42_cx k) (callK (f42_cx k) 8) 0 42 (sub f42_c [1, 1, 0, 1, 0, 0])) f42_l0_cut (blkK 0 (seqK (execK (f42_cx k) (callK (f42_cx k) 8) 0 42 (sub f42_c [1, 1, 1])) (finK (f42_cx k) f42_i spec_l08Path_sh))) k (f42_l0_s a0 a2 a1 [])) : Option (shDen spec_l08Path_sh)) := by kernel_rfl

theorem f42_run (a0 : T3) (a1 : (List Int)) (a2 : List Int) : fnK (f42_cx FUEL) 8 42 f42_i spec_l08Path_sh [.pv (.ref K1) a0, .pv (.arr 32 (.int .u8)) a1, .pv .str a2] = spec_l08Path_r a0 a1 a2 :=
 (f42_start FUEL a0 a1 a2).trans ((f42_l0_L_eq _ a0 a2 FUEL a1 []).trans (cong2 (fun e0 e1 => spec_l08Path_l0_L e0 e1 a0 a2 FUEL a1 []) (funext fun x8 => funext fun y70 => funext fun z60060 => (f42_l0_ret FUEL  x8 y70 z60060).trans (rfl)) (funext fun z90090 => (f42_l0_exit0 FUEL  z90090).trans (rfl))))

noncomputable def f42_con : Con := { ps := (.pair (.ref K1) K15), sh := spec_l08Path_sh, raw := fun x => spec_l08Path_r x.1 x.2.1 x.2.2.1 }
theorem f42_conOk : ConOk Tryz.prog 42 f42_con := con_of_fn (f42_tabs FUEL) (depth := 8) f42_ok fun x y h => (f42_run x.1 x.2.1 x.2.2.1).trans h

noncomputable def f19_l0_cut : Cut := { keep := [0, 4, 5], stk := [[2, 4, 7]], ids := [30, 40, 70, 100080, 180000, 180010], own := [], outs := [(0, [2, 3], [40, 70, 100080, 180000, 180010]), (1, [4], [40, 70, 100080, 180000, 180010])], fown := [(100080, [.fld 0], 180000, 28), (100080, [.fld 1], 180010, 34)] }
noncomputable def f19_cx (k : Nat) : Cx := mkC [(40, f40_i)] [(41, f41_con), (42, f42_con), (50, f50_con), (68, f68_con), (69, f69_con)] [] [] [(1900120040, [(0, f19_l0_cut)])] k [] false
theorem f19_tabs (k : Nat) : TabsOk Tryz.prog (f19_cx k) := mkC_ok ⟨f41_conOk, f42_conOk, f50_conOk, f68_conOk, f69_conOk, trivial⟩ trivial trivial ⟨f40_ok, trivial⟩
abbrev spec_ProofFromCopy_sh : List Sh := [.own 90 K4, .pl (.arr 32 (.int .u8)), .pl (.int .i64)]
noncomputable def f19_l0_s (a0 : T6) (a1 : (List Int)) (a2 : List Int) (x5 : Int) (z180000 : T8) (z180010 : T14) : St := { env := (.ptr 30 K7 [] :: (dd 3 (.ptr 100080 K1 [] :: .pv (.int .i64) x5 :: (dd 78 [])))), stk := [(.dead :: .dead :: .pv .str a2 :: .dead :: .ptr 40 (.arr 32 (.int .u8)) [] :: .dead :: .dead :: .ptr 70 (.arr 32 (.int .u8)) [] :: (dd 23 []))], heap := [(30, .var K7 (.pv K7 a0)), (40, .var (.arr 32 (.int .u8)) (.pv (.arr 32 (.int .u8)) a1)), (70, .var (.arr 32 (.int .u8)) (.pv (.arr 32 (.int .u8)) (List.replicate 32 (0 : Int)))), (100080, .var K1 (.pr (.sl 180000 K13) (.pr (.sl 180010 (.arr 32 (.int .u8))) (.pv .unit ())))), (180000, .arr 72 K13 z180000), (180010, .arr 45 (.arr 32 (.int .u8)) z180010)] }
noncomputable def f19_l0_o (a0 : T6) (a1 : (List Int)) (a2 : List Int) (z180000 : T8) (z180010 : T14) : St := { env := (.dead :: .dead :: .ptr 100080 K1 [] :: .pv .bool false :: (dd 80 [])), stk := [(.dead :: .dead :: .pv .str a2 :: .dead :: .ptr 40 (.arr 32 (.int .u8)) [] :: .dead :: .dead :: .ptr 70 (.arr 32 (.int .u8)) [] :: (dd 23 []))], heap := [(30, .var K7 (.pv K7 a0)), (40, .var (.arr 32 (.int .u8)) (.pv (.arr 32 (.int .u8)) a1)), (70, .var (.arr 32 (.int .u8)) (.pv (.arr 32 (.int .u8)) (List.replicate 32 (0 : Int)))), (100080, .var K1 (.pr (.sl 180000 K13) (.pr (.sl 180010 (.arr 32 (.int .u8))) (.pv .unit ())))), (180000, .arr 72 K13 z180000), (180010, .arr 45 (.arr 32 (.int .u8)) z180010)] }
noncomputable def f19_l0_o0 (a0 : T6) (a1 : (List Int)) (a2 : List Int) (z180000 : T8) (z180010 : T14) : St := { env := (dd 4 (.ptr 100080 K1 [] :: (dd 79 []))), stk := [(.dead :: .dead :: .pv .str a2 :: .dead :: .ptr 40 (.arr 32 (.int .u8)) [] :: .dead :: .dead :: .ptr 70 (.arr 32 (.int .u8)) [] :: (dd 23 []))], heap := [(30, .var K7 (.pv K7 a0)), (40, .var (.arr 32 (.int .u8)) (.pv (.arr 32 (.int .u8)) a1)), (70, .var (.arr 32 (.int .u8)) (.pv (.arr 32 (.int .u8)) (List.replicate 32 (0 : Int)))), (100080, .var K1 (.pr (.sl 180000 K13) (.pr (.sl 180010 (.arr 32 (.int .u8))) (.pv .unit ())))), (180000, .arr 72 K13 z180000), (180010, .arr 45 (.arr 32 (.int .u8)) z180010)] }
noncomputable def spec_ProofFromCopy_l0_b (rec : Int → T8 → T14 → Option (shDen spec_ProofFromCopy_sh)) (kr : T8 → T14 → Option (shDen spec_ProofFromCopy_sh)) (ke0 : T8 → T14 → Option (shDen spec_ProofFromCopy_sh)) (a0 : T6) (a1 : (List Int)) (a2 : List Int) (x5 : Int) (z180000 : T8) (z180010 : T14) : Option (shDen spec_ProofFromCopy_sh) :=
 (cond (decide (x5 < (a0.1.length : Int)))
 (cond ((decide ((0 : Int) ≤ x5)) && (decide (x5 < (a0.1.length : Int))))
 (bindO (spec_l05Blob_r (a0.1.getD (x5.toNat) ((0 : Int), ([], ())))) fun (b3 : Bool) => (cond (!b3)
 (kr z180000 z180010)
 (cond ((decide ((0 : Int) ≤ x5)) && (decide (x5 < (a0.1.length : Int))))
 (bindO (spec_l05Key_r (a0.1.getD (x5.toNat) ((0 : Int), ([], ())))) fun (b4 : (List Int)) => (cond (decide ((0 : Int) < x5))
 (cond ((decide ((0 : Int) ≤ (IntKind.wrap .i64 (x5 - (1 : Int))))) && (decide ((IntKind.wrap .i64 (x5 - (1 : Int))) < (z180010.length : Int))))
 (bindO (spec_l01Compare_r (z180010.getD ((IntKind.wrap .i64 (x5 - (1 : Int))).toNat) (List.replicate 32 (0 : Int))) b4) fun (b5 : Int) => (cond (decide ((0 : Int) ≤ b5))
 (kr z180000 z180010)
 (cond ((decide ((0 : Int) ≤ x5)) && (decide (x5 < (a0.1.length : Int))))
 (cond (decide ((z180000.length + 1) * 32 ≤ 140737488355328) && decide (z180000.length + 1 ≤ 9223372036854775807))
 (cond (decide ((z180010.length + 1) * 32 ≤ 140737488355328) && decide (z180010.length + 1 ≤ 9223372036854775807))
 (rec (IntKind.wrap .i64 (x5 + (1 : Int))) (z180000 ++ [(a0.1.getD (x5.toNat) ((0 : Int), ([], ())))]) (z180010 ++ [b4]))
 none)
 none)
 none)))
 none)
 (cond ((decide ((0 : Int) ≤ x5)) && (decide (x5 < (a0.1.length : Int))))
 (cond (decide ((z180000.length + 1) * 32 ≤ 140737488355328) && decide (z180000.length + 1 ≤ 9223372036854775807))
 (cond (decide ((z180010.length + 1) * 32 ≤ 140737488355328) && decide (z180010.length + 1 ≤ 9223372036854775807))
 (rec (IntKind.wrap .i64 (x5 + (1 : Int))) (z180000 ++ [(a0.1.getD (x5.toNat) ((0 : Int), ([], ())))]) (z180010 ++ [b4]))
 none)
 none)
 none)))
 none)))
 none)
 (ke0 z180000 z180010))
noncomputable def spec_ProofFromCopy_l0_L (kr : T8 → T14 → Option (shDen spec_ProofFromCopy_sh)) (ke0 : T8 → T14 → Option (shDen spec_ProofFromCopy_sh)) (a0 : T6) (a1 : (List Int)) (a2 : List Int) : Nat → Int → T8 → T14 → Option (shDen spec_ProofFromCopy_sh)
 | 0 => fun _ _ _ => none
 | n + 1 => spec_ProofFromCopy_l0_b (spec_ProofFromCopy_l0_L kr ke0 a0 a1 a2 n) kr ke0 a0 a1 a2
noncomputable def spec_ProofFromCopy_r (a0 : T6) (a1 : (List Int)) (a2 : List Int) : Option (shDen spec_ProofFromCopy_sh) :=
 (cond (decide ((128 : Int) < (a0.1.length : Int)))
 (some ([], ((List.replicate 32 (0 : Int)), (1 : Int))))
 (spec_ProofFromCopy_l0_L (fun z180000 z180010 => (some ([], ((List.replicate 32 (0 : Int)), (1 : Int))))) (fun z180000 z180010 => (bindO (spec_l04Name_r a2) fun (b6 : Bool) => (cond (!b6)
 (some ([], ((List.replicate 32 (0 : Int)), (1 : Int))))
 (bindO (spec_l08Path_r (z180000, (z180010, ())) a1 a2) fun (b7 : T0) => (some (b7.1, (b7.2.1, b7.2.2))))))) a0 a1 a2 FUEL (0 : Int) [] []))
noncomputable def f19_l0_p (k : Nat) (K : Ex → St → Option (shDen spec_ProofFromCopy_sh)) (n : Nat) (a0 : T6) (a1 : (List Int)) (a2 : List Int) (x5 : Int) (z180000 : T8) (z180010 : T14) : Option (shDen spec_ProofFromCopy_sh) := loopK (f19_cx k) 1 (execK (f19_cx k) (callK (f19_cx k) 7) 1 1900120040 (sub f40_c [1, 1, 1, 0, 1, 0, 0])) f19_l0_cut K n (f19_l0_s a0 a1 a2 x5 z180000 z180010)

theorem f19_l0_ret (k : Nat)  (a0 : T6) (a1 : (List Int)) (a2 : List Int) (z180000 : T8) (z180010 : T14) : ((blkK 0 (seqK (execK (f19_cx k) (callK (f19_cx k) 7) 1 1900120040 (sub f40_c [1, 1, 1, 1])) (retK (f19_cx k) f40_i (some 12) 0 (opsRest (f19_cx k) (callK (f19_cx k) 8) 0 19 false (regOps (sub f19_c [1, 0])) 0 (seqK (execK (f19_cx k) (callK (f19_cx k) 8) 0 19 (sub f19_c [1, 1])) (finK (f19_cx k) f19_i spec_ProofFromCopy_sh)))))) .ret (f19_l0_o a0 a1 a2 z180000 z180010) : Option (shDen spec_ProofFromCopy_sh)) =
 ((some ([], ((List.replicate 32 (0 : Int)), (1 : Int)))) : Option (shDen spec_ProofFromCopy_sh)) := by kernel_rfl

theorem f19_l0_exit0 (k : Nat)  (a0 : T6) (a1 : (List Int)) (a2 : List Int) (z180000 : T8) (z180010 : T14) : ((blkK 0 (seqK (execK (f19_cx k) (callK (f19_cx k) 7) 1 1900120040 (sub f40_c [1, 1, 1, 1])) (retK (f19_cx k) f40_i (some 12) 0 (opsRest (f19_cx k) (callK (f19_cx k) 8) 0 19 false (regOps (sub f19_c [1, 0])) 0 (seqK (execK (f19_cx k) (callK (f19_cx k) 8) 0 19 (sub f19_c [1, 1])) (finK (f19_cx k) f19_i spec_ProofFromCopy_sh)))))) (.exit 0) (f19_l0_o0 a0 a1 a2 z180000 z180010) : Option (shDen spec_ProofFromCopy_sh)) =
 ((bindO (spec_l04Name_r a2) fun (b6 : Bool) => (cond (!b6)
 (some ([], ((List.replicate 32 (0 : Int)), (1 : Int))))
 (bindO (spec_l08Path_r (z180000, (z180010, ())) a1 a2) fun (b7 : T0) => (some (b7.1, (b7.2.1, b7.2.2)))))) : Option (shDen spec_ProofFromCopy_sh)) := by kernel_rfl

theorem f19_l0_round (k : Nat) (K : Ex → St → Option (shDen spec_ProofFromCopy_sh)) (n : Nat) (a0 : T6) (a1 : (List Int)) (a2 : List Int) (x5 : Int) (z180000 : T8) (z180010 : T14) : (f19_l0_p k K (n + 1) a0 a1 a2 x5 z180000 z180010 : Option (shDen spec_ProofFromCopy_sh)) = spec_ProofFromCopy_l0_b ((fun x5 z180000 z180010 => f19_l0_p k K n a0 a1 a2 x5 z180000 z180010)) (fun z180000 z180010 => K .ret (f19_l0_o a0 a1 a2 z180000 z180010)) (fun z180000 z180010 => K (.exit 0) (f19_l0_o0 a0 a1 a2 z180000 z180010)) a0 a1 a2 x5 z180000 z180010 := by kernel_rfl

theorem f19_l0_L_eq (K : Ex → St → Option (shDen spec_ProofFromCopy_sh)) (a0 : T6) (a1 : (List Int)) (a2 : List Int) : ∀ (n : Nat) (x5 : Int) (z180000 : T8) (z180010 : T14), (f19_l0_p FUEL K n a0 a1 a2 x5 z180000 z180010 : Option (shDen spec_ProofFromCopy_sh)) = spec_ProofFromCopy_l0_L (fun z180000 z180010 => K .ret (f19_l0_o a0 a1 a2 z180000 z180010)) (fun z180000 z180010 => K (.exit 0) (f19_l0_o0 a0 a1 a2 z180000 z180010)) a0 a1 a2 n x5 z180000 z180010 := by
 intro n
 induction n with
 | zero => intros; rfl
 | succ n ih =>
  intro x5 z180000 z180010
  exact (f19_l0_round FUEL K n a0 a1 a2 x5 z180000 z180010).trans (congrArg (fun f => spec_ProofFromCopy_l0_b f (fun z180000 z180010 => K .ret (f19_l0_o a0 a1 a2 z180000 z180010)) (fun z180000 z180010 => K (.exit 0) (f19_l0_o0 a0 a1 a2 z180000 z180010)) a0 a1 a2 x5 z180000 z180010) (funext fun x5 => funext fun z180000 => funext fun z180010 => ih x5 z180000 z180010))

theorem f19_start (k : Nat) (a0 : T6) (a1 : (List Int)) (a2 : List Int) : fnK (f19_cx k) 8 19 f19_i spec_ProofFromCopy_sh [.pv K7 a0, .pv (.arr 32 (.int .u8)) a1, .pv .str a2] =
 ((cond (decide ((128 : Int) < (a0.1.length : Int)))
 (some ([], ((List.replicate 32 (0 : Int)), (1 : Int))))
 (loopK (f19_cx k) 1 (execK (f19_cx k) (callK (f19_cx k) 7) 1 1900120040 (sub f40_c [1, 1, 1, 0, 1, 0, 0])) f19_l0_cut (blkK 0 (seqK (execK (f19_cx k) (callK (f19_cx k) 7) 1 1900120040 (sub f40_c [1, 1, 1, 1])) (retK (f19_cx k) f40_i (some 12) 0 (opsRest (f19_cx k) (callK (f19_cx k) 8) 0 19 false (regOps (sub f19_c [1, 0])) 0 (seqK (execK (f19_cx k) (callK (f19_cx k) 8) 0 19 (sub f19_c [1, 1])) (finK (f19_cx k) f19_i spec_ProofFromCopy_sh)))))) k (f19_l0_s a0 a1 a2 (0 : Int) [] []))) : Option (shDen spec_ProofFromCopy_sh)) := by kernel_rfl

theorem f19_run (a0 : T6) (a1 : (List Int)) (a2 : List Int) : fnK (f19_cx FUEL) 8 19 f19_i spec_ProofFromCopy_sh [.pv K7 a0, .pv (.arr 32 (.int .u8)) a1, .pv .str a2] = spec_ProofFromCopy_r a0 a1 a2 :=
 (f19_start FUEL a0 a1 a2).trans (condC (rfl) ((f19_l0_L_eq _ a0 a1 a2 FUEL (0 : Int) [] []).trans (cong2 (fun e0 e1 => spec_ProofFromCopy_l0_L e0 e1 a0 a1 a2 FUEL (0 : Int) [] []) (funext fun z180000 => funext fun z180010 => (f19_l0_ret FUEL  a0 a1 a2 z180000 z180010).trans (rfl)) (funext fun z180000 => funext fun z180010 => (f19_l0_exit0 FUEL  a0 a1 a2 z180000 z180010).trans (rfl)))))

noncomputable def f19_con : Con := { ps := (.pair K7 K15), sh := spec_ProofFromCopy_sh, raw := fun x => spec_ProofFromCopy_r x.1 x.2.1 x.2.2.1 }
theorem f19_conOk : ConOk Tryz.prog 19 f19_con := con_of_fn (f19_tabs FUEL) (depth := 8) f19_ok fun x y h => (f19_run x.1 x.2.1 x.2.2.1).trans h

noncomputable def f56_cx (k : Nat) : Cx := mkC [] [] [] [] [] k [] false
theorem f56_tabs (k : Nat) : TabsOk Tryz.prog (f56_cx k) := mkC_ok trivial trivial trivial trivial
abbrev impl_ValidBlob_sh : List Sh := [.pl .bool]
noncomputable def impl_ValidBlob_r (a0 : T10) : Option (shDen impl_ValidBlob_sh) :=
 (some (decide ((a0.2.1.length : Int) ≤ (1024 : Int))))
theorem f56_run (a0 : T10) : fnK (f56_cx FUEL) 8 56 f56_i impl_ValidBlob_sh [.pv K13 a0] = impl_ValidBlob_r a0 := by kernel_rfl

noncomputable def f56_con : Con := { ps := K10, sh := impl_ValidBlob_sh, raw := fun x => impl_ValidBlob_r x.1 }
theorem f56_conOk : ConOk Tryz.prog 56 f56_con := con_of_fn (f56_tabs FUEL) (depth := 8) f56_ok fun x y h => (f56_run x.1).trans h

noncomputable def f94_cx (k : Nat) : Cx := mkC [] [(56, f56_con)] [] [] [] k [] false
theorem f94_tabs (k : Nat) : TabsOk Tryz.prog (f94_cx k) := mkC_ok ⟨f56_conOk, trivial⟩ trivial trivial trivial
abbrev impl_ValidStore_1_sh : List Sh := [.pl .bool]
noncomputable def impl_ValidStore_1_r (a0 : T10) : Option (shDen impl_ValidStore_1_sh) :=
 (bindO (impl_ValidBlob_r a0) fun (b1 : Bool) => (some (!b1)))
theorem f94_run (a0 : T10) : fnK (f94_cx FUEL) 8 94 f94_i impl_ValidStore_1_sh [.pv K13 a0] = impl_ValidStore_1_r a0 := by kernel_rfl

noncomputable def f94_con : Con := { ps := K10, sh := impl_ValidStore_1_sh, raw := fun x => impl_ValidStore_1_r x.1 }
theorem f94_conOk : ConOk Tryz.prog 94 f94_con := con_of_fn (f94_tabs FUEL) (depth := 8) f94_ok fun x y h => (f94_run x.1).trans h

noncomputable def f65_cx (k : Nat) : Cx := mkC [] [] [] [] [] k [] false
theorem f65_tabs (k : Nat) : TabsOk Tryz.prog (f65_cx k) := mkC_ok trivial trivial trivial trivial
abbrev impl_size_byte_sh : List Sh := [.pl (.int .i64)]
noncomputable def impl_size_byte_r (a0 : (List Int)) : Option (shDen impl_size_byte_sh) :=
 (some (a0.length : Int))
theorem f65_run (a0 : (List Int)) : fnK (f65_cx FUEL) 8 65 f65_i impl_size_byte_sh [.pv K25 a0] = impl_size_byte_r a0 := by kernel_rfl

noncomputable def f65_con : Con := { ps := K19, sh := impl_size_byte_sh, raw := fun x => impl_size_byte_r x.1 }
theorem f65_conOk : ConOk Tryz.prog 65 f65_con := con_of_fn (f65_tabs FUEL) (depth := 8) f65_ok fun x y h => (f65_run x.1).trans h

noncomputable def f134_l0_cut : Cut := { keep := [0, 1, 8, 9], stk := [], ids := [90000], own := [(0, 90000, 70)], outs := [(1, [0], [90000])] }
noncomputable def f134_cx (k : Nat) : Cx := mkC [] [] [] [] [(134, [(0, f134_l0_cut)])] k [] false
theorem f134_tabs (k : Nat) : TabsOk Tryz.prog (f134_cx k) := mkC_ok trivial trivial trivial trivial
noncomputable def f134_l0_s (a1 : Int) (a2 : Int) (x9 : Int) (z90000 : (List Int)) : St := { env := (.sl 90000 (.int .u8) :: .pv (.int .u64) a1 :: (dd 6 (.pv (.int .i64) a2 :: .pv (.int .i64) x9 :: (dd 12 [])))), stk := [], heap := [(90000, .arr 5 (.int .u8) z90000)] }
noncomputable def f134_l0_o0 (z90000 : (List Int)) : St := { env := (.sl 90000 (.int .u8) :: (dd 21 [])), stk := [], heap := [(90000, .arr 5 (.int .u8) z90000)] }
noncomputable def impl_appendLittle_l0_b (rec : Int → (List Int) → Option (List Int)) (ke0 : (List Int) → Option (List Int)) (a1 : Int) (a2 : Int) (x9 : Int) (z90000 : (List Int)) : Option (List Int) :=
 (cond (decide (x9 < a2))
 (cond (decide ((IntKind.wrap .i64 ((8 : Int) * x9)) < (0 : Int)))
 none
 (cond (decide ((z90000.length + 1) * 1 ≤ 140737488355328) && decide (z90000.length + 1 ≤ 9223372036854775807))
 (rec (IntKind.wrap .i64 (x9 + (1 : Int))) (z90000 ++ [(IntKind.wrap .u8 (shrI .u64 a1 (IntKind.wrap .i64 ((8 : Int) * x9))))]))
 none))
 (ke0 z90000))
noncomputable def impl_appendLittle_l0_L (ke0 : (List Int) → Option (List Int)) (a1 : Int) (a2 : Int) : Nat → Int → (List Int) → Option (List Int)
 | 0 => fun _ _ => none
 | n + 1 => impl_appendLittle_l0_b (impl_appendLittle_l0_L ke0 a1 a2 n) ke0 a1 a2
noncomputable def impl_appendLittle_r (a0 : (List Int)) (a1 : Int) (a2 : Int) : Option (List Int) :=
 (impl_appendLittle_l0_L (fun z90000 => (some z90000)) a1 a2 FUEL (0 : Int) a0)
noncomputable def f134_l0_p (k : Nat) (K : Ex → St → Option (List Int)) (n : Nat) (a1 : Int) (a2 : Int) (x9 : Int) (z90000 : (List Int)) : Option (List Int) := loopK (f134_cx k) 0 (execK (f134_cx k) (callK (f134_cx k) 8) 0 134 (sub f134_c [1, 0, 1, 0, 0])) f134_l0_cut K n (f134_l0_s a1 a2 x9 z90000)

theorem f134_l0_exit0 (k : Nat)  (z90000 : (List Int)) : ((blkK 0 (seqK (execK (f134_cx k) (callK (f134_cx k) 8) 0 134 (sub f134_c [1, 1])) (finTK (f134_cx k) f134_i 5 (.int .u8)))) (.exit 0) (f134_l0_o0 z90000) : Option (List Int)) =
 ((some z90000) : Option (List Int)) := by kernel_rfl

theorem f134_l0_round (k : Nat) (K : Ex → St → Option (List Int)) (n : Nat) (a1 : Int) (a2 : Int) (x9 : Int) (z90000 : (List Int)) : (f134_l0_p k K (n + 1) a1 a2 x9 z90000 : Option (List Int)) = impl_appendLittle_l0_b ((fun x9 z90000 => f134_l0_p k K n a1 a2 x9 z90000)) (fun z90000 => K (.exit 0) (f134_l0_o0 z90000)) a1 a2 x9 z90000 := by kernel_rfl

theorem f134_l0_L_eq (K : Ex → St → Option (List Int)) (a1 : Int) (a2 : Int) : ∀ (n : Nat) (x9 : Int) (z90000 : (List Int)), (f134_l0_p FUEL K n a1 a2 x9 z90000 : Option (List Int)) = impl_appendLittle_l0_L (fun z90000 => K (.exit 0) (f134_l0_o0 z90000)) a1 a2 n x9 z90000 := by
 intro n
 induction n with
 | zero => intros; rfl
 | succ n ih =>
  intro x9 z90000
  exact (f134_l0_round FUEL K n a1 a2 x9 z90000).trans (congrArg (fun f => impl_appendLittle_l0_b f (fun z90000 => K (.exit 0) (f134_l0_o0 z90000)) a1 a2 x9 z90000) (funext fun x9 => funext fun z90000 => ih x9 z90000))

theorem f134_start (k : Nat) (a0 : (List Int)) (a1 : Int) (a2 : Int) : fnTK (f134_cx k) 8 134 f134_i 5 (.int .u8) a0 [.pv (.int .u64) a1, .pv (.int .i64) a2] =
 ((loopK (f134_cx k) 0 (execK (f134_cx k) (callK (f134_cx k) 8) 0 134 (sub f134_c [1, 0, 1, 0, 0])) f134_l0_cut (blkK 0 (seqK (execK (f134_cx k) (callK (f134_cx k) 8) 0 134 (sub f134_c [1, 1])) (finTK (f134_cx k) f134_i 5 (.int .u8)))) k (f134_l0_s a1 a2 (0 : Int) a0)) : Option (List Int)) := by kernel_rfl

theorem f134_run (a0 : (List Int)) (a1 : Int) (a2 : Int) : fnTK (f134_cx FUEL) 8 134 f134_i 5 (.int .u8) a0 [.pv (.int .u64) a1, .pv (.int .i64) a2] = impl_appendLittle_r a0 a1 a2 :=
 (f134_start FUEL a0 a1 a2).trans ((f134_l0_L_eq _ a1 a2 FUEL (0 : Int) a0).trans (congrArg (fun e0 => impl_appendLittle_l0_L e0 a1 a2 FUEL (0 : Int) a0) (funext fun z90000 => (f134_l0_exit0 FUEL  z90000).trans (rfl))))

noncomputable def f134_tak : ConT := { E := 5, e := (.int .u8), ps := (.pair (.int .u64) K23), raw := fun x q => impl_appendLittle_r x q.1 q.2.1 }
theorem f134_takOk : TakOk Tryz.prog 134 f134_tak := tak_of_fn (f134_tabs FUEL) (depth := 8) f134_ok rfl fun xs q z h => (f134_run xs q.1 q.2.1).trans h

noncomputable def f118_l0_cut : Cut := { keep := [0, 3], stk := [], ids := [90030], own := [(3, 90030, 70)], outs := [(1, [0, 3], [90030])] }
noncomputable def f118_cx (k : Nat) : Cx := mkC [] [(65, f65_con)] [(134, f134_tak)] [] [(118, [(0, f118_l0_cut)])] k [] false
theorem f118_tabs (k : Nat) : TabsOk Tryz.prog (f118_cx k) := mkC_ok ⟨f65_conOk, trivial⟩ ⟨f134_takOk, trivial⟩ trivial trivial
abbrev impl_padding_sh : List Sh := [.own 5 (.int .u8)]
noncomputable def f118_l0_s (a0 : Int) (z90030 : (List Int)) : St := { env := (.pv (.int .i64) a0 :: .dead :: .dead :: .sl 90030 (.int .u8) :: (dd 14 [])), stk := [], heap := [(90030, .arr 5 (.int .u8) z90030)] }
noncomputable def f118_l0_o0 (a0 : Int) (z90030 : (List Int)) : St := { env := (.pv (.int .i64) a0 :: .dead :: .dead :: .sl 90030 (.int .u8) :: (dd 14 [])), stk := [], heap := [(90030, .arr 5 (.int .u8) z90030)] }
noncomputable def impl_padding_l0_b (rec : (List Int) → Option (shDen impl_padding_sh)) (ke0 : (List Int) → Option (shDen impl_padding_sh)) (a0 : Int) (z90030 : (List Int)) : Option (shDen impl_padding_sh) :=
 (bindO (impl_size_byte_r z90030) fun (b2 : Int) => (cond (!(decide ((Int.tmod (IntKind.wrap .i64 (a0 + b2)) (32 : Int)) = (24 : Int))))
 (cond (decide ((z90030.length + 1) * 1 ≤ 140737488355328) && decide (z90030.length + 1 ≤ 9223372036854775807))
 (rec (z90030 ++ [(0 : Int)]))
 none)
 (ke0 z90030)))
noncomputable def impl_padding_l0_L (ke0 : (List Int) → Option (shDen impl_padding_sh)) (a0 : Int) : Nat → (List Int) → Option (shDen impl_padding_sh)
 | 0 => fun _ => none
 | n + 1 => impl_padding_l0_b (impl_padding_l0_L ke0 a0 n) ke0 a0
noncomputable def impl_padding_r (a0 : Int) : Option (shDen impl_padding_sh) :=
 (impl_padding_l0_L (fun z90030 => (bindO (impl_appendLittle_r z90030 (IntKind.wrap .u64 a0) (8 : Int)) fun (b3 : (List Int)) => (some b3))) a0 FUEL [(128 : Int)])
noncomputable def f118_l0_p (k : Nat) (K : Ex → St → Option (shDen impl_padding_sh)) (n : Nat) (a0 : Int) (z90030 : (List Int)) : Option (shDen impl_padding_sh) := loopK (f118_cx k) 0 (execK (f118_cx k) (callK (f118_cx k) 8) 0 118 (sub f118_c [1, 1, 0, 0, 0])) f118_l0_cut K n (f118_l0_s a0 z90030)

theorem f118_l0_exit0 (k : Nat)  (a0 : Int) (z90030 : (List Int)) : ((blkK 0 (seqK (execK (f118_cx k) (callK (f118_cx k) 8) 0 118 (sub f118_c [1, 1, 1])) (finK (f118_cx k) f118_i impl_padding_sh))) (.exit 0) (f118_l0_o0 a0 z90030) : Option (shDen impl_padding_sh)) =
 ((bindO (impl_appendLittle_r z90030 (IntKind.wrap .u64 a0) (8 : Int)) fun (b3 : (List Int)) => (some b3)) : Option (shDen impl_padding_sh)) := by kernel_rfl

theorem f118_l0_round (k : Nat) (K : Ex → St → Option (shDen impl_padding_sh)) (n : Nat) (a0 : Int) (z90030 : (List Int)) : (f118_l0_p k K (n + 1) a0 z90030 : Option (shDen impl_padding_sh)) = impl_padding_l0_b ((fun z90030 => f118_l0_p k K n a0 z90030)) (fun z90030 => K (.exit 0) (f118_l0_o0 a0 z90030)) a0 z90030 := by kernel_rfl

theorem f118_l0_L_eq (K : Ex → St → Option (shDen impl_padding_sh)) (a0 : Int) : ∀ (n : Nat) (z90030 : (List Int)), (f118_l0_p FUEL K n a0 z90030 : Option (shDen impl_padding_sh)) = impl_padding_l0_L (fun z90030 => K (.exit 0) (f118_l0_o0 a0 z90030)) a0 n z90030 := by
 intro n
 induction n with
 | zero => intros; rfl
 | succ n ih =>
  intro z90030
  exact (f118_l0_round FUEL K n a0 z90030).trans (congrArg (fun f => impl_padding_l0_b f (fun z90030 => K (.exit 0) (f118_l0_o0 a0 z90030)) a0 z90030) (funext fun z90030 => ih z90030))

theorem f118_start (k : Nat) (a0 : Int) : fnK (f118_cx k) 8 118 f118_i impl_padding_sh [.pv (.int .i64) a0] =
 ((loopK (f118_cx k) 0 (execK (f118_cx k) (callK (f118_cx k) 8) 0 118 (sub f118_c [1, 1, 0, 0, 0])) f118_l0_cut (blkK 0 (seqK (execK (f118_cx k) (callK (f118_cx k) 8) 0 118 (sub f118_c [1, 1, 1])) (finK (f118_cx k) f118_i impl_padding_sh))) k (f118_l0_s a0 [(128 : Int)])) : Option (shDen impl_padding_sh)) := by kernel_rfl

theorem f118_run (a0 : Int) : fnK (f118_cx FUEL) 8 118 f118_i impl_padding_sh [.pv (.int .i64) a0] = impl_padding_r a0 :=
 (f118_start FUEL a0).trans ((f118_l0_L_eq _ a0 FUEL [(128 : Int)]).trans (congrArg (fun e0 => impl_padding_l0_L e0 a0 FUEL [(128 : Int)]) (funext fun z90030 => (f118_l0_exit0 FUEL  a0 z90030).trans (rfl))))

noncomputable def f118_con : Con := { ps := K23, sh := impl_padding_sh, raw := fun x => impl_padding_r x.1 }
theorem f118_conOk : ConOk Tryz.prog 118 f118_con := con_of_fn (f118_tabs FUEL) (depth := 8) f118_ok fun x y h => (f118_run x.1).trans h

noncomputable def f117_l0_cut : Cut := { keep := [0, 3, 9, 10, 11], stk := [], ids := [], own := [], outs := [(1, [0, 3], [])] }
noncomputable def f117_l1_cut : Cut := { keep := [6, 25, 26, 27], stk := [], ids := [90060], own := [(6, 90060, 70)], outs := [(3, [6], [90060])] }
noncomputable def f117_cx (k : Nat) : Cx := mkC [] [] [(133, f133_tak)] [] [(117, [(0, f117_l0_cut), (2, f117_l1_cut)])] k [] false
theorem f117_tabs (k : Nat) : TabsOk Tryz.prog (f117_cx k) := mkC_ok trivial ⟨f133_takOk, trivial⟩ trivial trivial
abbrev slices_Concat_byte_byte_sh : List Sh := [.own 5 (.int .u8)]
noncomputable def f117_l0_s (a0 : T14) (x3 : Int) (x11 : Int) : St := { env := (.pv K22 a0 :: .dead :: .dead :: .pv (.int .i64) x3 :: (dd 5 (.pv K22 a0 :: .pv (.int .i64) (a0.length : Int) :: .pv (.int .i64) x11 :: (dd 24 [])))), stk := [], heap := [] }
noncomputable def f117_l0_o0 (a0 : T14) (x3 : Int) : St := { env := (.pv K22 a0 :: .dead :: .dead :: .pv (.int .i64) x3 :: (dd 32 [])), stk := [], heap := [] }
noncomputable def f117_l1_s (a0 : T14) (z90060 : (List Int)) (x27 : Int) : St := { env := (dd 6 (.sl 90060 (.int .u8) :: (dd 18 (.pv K22 a0 :: .pv (.int .i64) (a0.length : Int) :: .pv (.int .i64) x27 :: (dd 8 []))))), stk := [], heap := [(90060, .arr 5 (.int .u8) z90060)] }
noncomputable def f117_l1_o2 (z90060 : (List Int)) : St := { env := (dd 6 (.sl 90060 (.int .u8) :: (dd 29 []))), stk := [], heap := [(90060, .arr 5 (.int .u8) z90060)] }
noncomputable def slices_Concat_byte_byte_l1_b (rec : (List Int) → Int → Option (shDen slices_Concat_byte_byte_sh)) (ke2 : (List Int) → Option (shDen slices_Concat_byte_byte_sh)) (a0 : T14) (z90060 : (List Int)) (x27 : Int) : Option (shDen slices_Concat_byte_byte_sh) :=
 (cond (decide (x27 < (a0.length : Int)))
 (cond ((decide ((0 : Int) ≤ x27)) && (decide (x27 < (a0.length : Int))))
 (cond (decide ((z90060.length + (a0.getD (x27.toNat) []).length) * 1 ≤ 140737488355328) && decide (z90060.length + (a0.getD (x27.toNat) []).length ≤ 9223372036854775807))
 (rec (z90060 ++ (a0.getD (x27.toNat) [])) (IntKind.wrap .i64 (x27 + (1 : Int))))
 none)
 none)
 (ke2 z90060))
noncomputable def slices_Concat_byte_byte_l1_L (ke2 : (List Int) → Option (shDen slices_Concat_byte_byte_sh)) (a0 : T14) : Nat → (List Int) → Int → Option (shDen slices_Concat_byte_byte_sh)
 | 0 => fun _ _ => none
 | n + 1 => slices_Concat_byte_byte_l1_b (slices_Concat_byte_byte_l1_L ke2 a0 n) ke2 a0
noncomputable def slices_Concat_byte_byte_l0_b (rec : Int → Int → Option (shDen slices_Concat_byte_byte_sh)) (ke0 : Int → Option (shDen slices_Concat_byte_byte_sh)) (a0 : T14) (x3 : Int) (x11 : Int) : Option (shDen slices_Concat_byte_byte_sh) :=
 (cond (decide (x11 < (a0.length : Int)))
 (cond ((decide ((0 : Int) ≤ x11)) && (decide (x11 < (a0.length : Int))))
 (cond (decide ((IntKind.wrap .i64 (x3 + ((a0.getD (x11.toNat) []).length : Int))) < (0 : Int)))
 none
 (rec (IntKind.wrap .i64 (x3 + ((a0.getD (x11.toNat) []).length : Int))) (IntKind.wrap .i64 (x11 + (1 : Int)))))
 none)
 (ke0 x3))
noncomputable def slices_Concat_byte_byte_l0_L (ke0 : Int → Option (shDen slices_Concat_byte_byte_sh)) (a0 : T14) : Nat → Int → Int → Option (shDen slices_Concat_byte_byte_sh)
 | 0 => fun _ _ => none
 | n + 1 => slices_Concat_byte_byte_l0_b (slices_Concat_byte_byte_l0_L ke0 a0 n) ke0 a0
noncomputable def slices_Concat_byte_byte_r (a0 : T14) : Option (shDen slices_Concat_byte_byte_sh) :=
 (slices_Concat_byte_byte_l0_L (fun x3 => (bindO (slices_Grow_byte_byte_tr [] x3) fun (b1 : (List Int)) => (slices_Concat_byte_byte_l1_L (fun z90060 => (some z90060)) a0 FUEL b1 (0 : Int)))) a0 FUEL (0 : Int) (0 : Int))
noncomputable def f117_l1_p (k : Nat) (K : Ex → St → Option (shDen slices_Concat_byte_byte_sh)) (n : Nat) (a0 : T14) (z90060 : (List Int)) (x27 : Int) : Option (shDen slices_Concat_byte_byte_sh) := loopK (f117_cx k) 0 (execK (f117_cx k) (callK (f117_cx k) 8) 0 117 (sub f117_c [1, 1, 1, 1, 0, 1, 0, 0])) f117_l1_cut K n (f117_l1_s a0 z90060 x27)

theorem f117_l1_exit2 (k : Nat)  (z90060 : (List Int)) : ((blkK 2 (seqK (execK (f117_cx k) (callK (f117_cx k) 8) 0 117 (sub f117_c [1, 1, 1, 1, 1])) (finK (f117_cx k) f117_i slices_Concat_byte_byte_sh))) (.exit 2) (f117_l1_o2 z90060) : Option (shDen slices_Concat_byte_byte_sh)) =
 ((some z90060) : Option (shDen slices_Concat_byte_byte_sh)) := by kernel_rfl

theorem f117_l1_round (k : Nat) (K : Ex → St → Option (shDen slices_Concat_byte_byte_sh)) (n : Nat) (a0 : T14) (z90060 : (List Int)) (x27 : Int) : (f117_l1_p k K (n + 1) a0 z90060 x27 : Option (shDen slices_Concat_byte_byte_sh)) = slices_Concat_byte_byte_l1_b ((fun z90060 x27 => f117_l1_p k K n a0 z90060 x27)) (fun z90060 => K (.exit 2) (f117_l1_o2 z90060)) a0 z90060 x27 := by kernel_rfl

theorem f117_l1_L_eq (K : Ex → St → Option (shDen slices_Concat_byte_byte_sh)) (a0 : T14) : ∀ (n : Nat) (z90060 : (List Int)) (x27 : Int), (f117_l1_p FUEL K n a0 z90060 x27 : Option (shDen slices_Concat_byte_byte_sh)) = slices_Concat_byte_byte_l1_L (fun z90060 => K (.exit 2) (f117_l1_o2 z90060)) a0 n z90060 x27 := by
 intro n
 induction n with
 | zero => intros; rfl
 | succ n ih =>
  intro z90060 x27
  exact (f117_l1_round FUEL K n a0 z90060 x27).trans (congrArg (fun f => slices_Concat_byte_byte_l1_b f (fun z90060 => K (.exit 2) (f117_l1_o2 z90060)) a0 z90060 x27) (funext fun z90060 => funext fun x27 => ih z90060 x27))

noncomputable def f117_l0_p (k : Nat) (K : Ex → St → Option (shDen slices_Concat_byte_byte_sh)) (n : Nat) (a0 : T14) (x3 : Int) (x11 : Int) : Option (shDen slices_Concat_byte_byte_sh) := loopK (f117_cx k) 0 (execK (f117_cx k) (callK (f117_cx k) 8) 0 117 (sub f117_c [1, 1, 0, 1, 0, 0])) f117_l0_cut K n (f117_l0_s a0 x3 x11)

theorem f117_l0_exit0 (k : Nat)  (a0 : T14) (x3 : Int) : ((blkK 0 (seqK (execK (f117_cx k) (callK (f117_cx k) 8) 0 117 (sub f117_c [1, 1, 1])) (finK (f117_cx k) f117_i slices_Concat_byte_byte_sh))) (.exit 0) (f117_l0_o0 a0 x3) : Option (shDen slices_Concat_byte_byte_sh)) =
 ((bindO (slices_Grow_byte_byte_tr [] x3) fun (b1 : (List Int)) => (loopK (f117_cx k) 0 (execK (f117_cx k) (callK (f117_cx k) 8) 0 117 (sub f117_c [1, 1, 1, 1, 0, 1, 0, 0])) f117_l1_cut (blkK 2 (seqK (execK (f117_cx k) (callK (f117_cx k) 8) 0 117 (sub f117_c [1, 1, 1, 1, 1])) (finK (f117_cx k) f117_i slices_Concat_byte_byte_sh))) k (f117_l1_s a0 b1 (0 : Int)))) : Option (shDen slices_Concat_byte_byte_sh)) := by kernel_rfl

theorem f117_l0_round (k : Nat) (K : Ex → St → Option (shDen slices_Concat_byte_byte_sh)) (n : Nat) (a0 : T14) (x3 : Int) (x11 : Int) : (f117_l0_p k K (n + 1) a0 x3 x11 : Option (shDen slices_Concat_byte_byte_sh)) = slices_Concat_byte_byte_l0_b ((fun x3 x11 => f117_l0_p k K n a0 x3 x11)) (fun x3 => K (.exit 0) (f117_l0_o0 a0 x3)) a0 x3 x11 := by kernel_rfl

theorem f117_l0_L_eq (K : Ex → St → Option (shDen slices_Concat_byte_byte_sh)) (a0 : T14) : ∀ (n : Nat) (x3 : Int) (x11 : Int), (f117_l0_p FUEL K n a0 x3 x11 : Option (shDen slices_Concat_byte_byte_sh)) = slices_Concat_byte_byte_l0_L (fun x3 => K (.exit 0) (f117_l0_o0 a0 x3)) a0 n x3 x11 := by
 intro n
 induction n with
 | zero => intros; rfl
 | succ n ih =>
  intro x3 x11
  exact (f117_l0_round FUEL K n a0 x3 x11).trans (congrArg (fun f => slices_Concat_byte_byte_l0_b f (fun x3 => K (.exit 0) (f117_l0_o0 a0 x3)) a0 x3 x11) (funext fun x3 => funext fun x11 => ih x3 x11))

theorem f117_start (k : Nat) (a0 : T14) : fnK (f117_cx k) 8 117 f117_i slices_Concat_byte_byte_sh [.pv K22 a0] =
 ((loopK (f117_cx k) 0 (execK (f117_cx k) (callK (f117_cx k) 8) 0 117 (sub f117_c [1, 1, 0, 1, 0, 0])) f117_l0_cut (blkK 0 (seqK (execK (f117_cx k) (callK (f117_cx k) 8) 0 117 (sub f117_c [1, 1, 1])) (finK (f117_cx k) f117_i slices_Concat_byte_byte_sh))) k (f117_l0_s a0 (0 : Int) (0 : Int))) : Option (shDen slices_Concat_byte_byte_sh)) := by kernel_rfl

theorem f117_run (a0 : T14) : fnK (f117_cx FUEL) 8 117 f117_i slices_Concat_byte_byte_sh [.pv K22 a0] = slices_Concat_byte_byte_r a0 :=
 (f117_start FUEL a0).trans ((f117_l0_L_eq _ a0 FUEL (0 : Int) (0 : Int)).trans (congrArg (fun e0 => slices_Concat_byte_byte_l0_L e0 a0 FUEL (0 : Int) (0 : Int)) (funext fun x3 => (f117_l0_exit0 FUEL  a0 x3).trans (bindC (fun b1 => (f117_l1_L_eq _ a0 FUEL b1 (0 : Int)).trans (congrArg (fun e0 => slices_Concat_byte_byte_l1_L e0 a0 FUEL b1 (0 : Int)) (funext fun z90060 => (f117_l1_exit2 FUEL  z90060).trans (rfl))))))))

noncomputable def f117_con : Con := { ps := (.pair K22 .unit), sh := slices_Concat_byte_byte_sh, raw := fun x => slices_Concat_byte_byte_r x.1 }
theorem f117_conOk : ConOk Tryz.prog 117 f117_con := con_of_fn (f117_tabs FUEL) (depth := 8) f117_ok fun x y h => (f117_run x.1).trans h

noncomputable def f116_l0_cut : Cut := { keep := [0, 4], stk := [], ids := [90040], own := [(4, 90040, 25)], outs := [(1, [0, 4], [90040])] }
noncomputable def f116_cx (k : Nat) : Cx := mkC [] [] [] [] [(116, [(0, f116_l0_cut)])] k [] false
theorem f116_tabs (k : Nat) : TabsOk Tryz.prog (f116_cx k) := mkC_ok trivial trivial trivial trivial
abbrev impl_blocks_sh : List Sh := [.own 43 (.arr 32 (.int .u8)), .pl K25]
noncomputable def f116_l0_s (x0 : (List Int)) (z90040 : T14) : St := { env := (.pv K25 x0 :: (dd 3 (.sl 90040 (.arr 32 (.int .u8)) :: (dd 14 [])))), stk := [], heap := [(90040, .arr 43 (.arr 32 (.int .u8)) z90040)] }
noncomputable def f116_l0_o0 (x0 : (List Int)) (z90040 : T14) : St := { env := (.pv K25 x0 :: (dd 3 (.sl 90040 (.arr 32 (.int .u8)) :: (dd 14 [])))), stk := [], heap := [(90040, .arr 43 (.arr 32 (.int .u8)) z90040)] }
noncomputable def impl_blocks_l0_b (rec : (List Int) → T14 → Option (shDen impl_blocks_sh)) (ke0 : (List Int) → T14 → Option (shDen impl_blocks_sh)) (x0 : (List Int)) (z90040 : T14) : Option (shDen impl_blocks_sh) :=
 (cond (decide ((32 : Int) ≤ (x0.length : Int)))
 (cond (decide (32 ≤ x0.length))
 (cond (decide ((z90040.length + 1) * 32 ≤ 140737488355328) && decide (z90040.length + 1 ≤ 9223372036854775807))
 (cond (decide ((32 : Int) ≤ (x0.length : Int)))
 (rec (cutL x0 32 (x0.length)) (z90040 ++ [(x0.take 32)]))
 none)
 none)
 none)
 (ke0 x0 z90040))
noncomputable def impl_blocks_l0_L (ke0 : (List Int) → T14 → Option (shDen impl_blocks_sh))  : Nat → (List Int) → T14 → Option (shDen impl_blocks_sh)
 | 0 => fun _ _ => none
 | n + 1 => impl_blocks_l0_b (impl_blocks_l0_L ke0  n) ke0 
noncomputable def impl_blocks_r (a0 : (List Int)) : Option (shDen impl_blocks_sh) :=
 (impl_blocks_l0_L (fun x0 z90040 => (some (z90040, x0))) FUEL a0 [])
noncomputable def f116_l0_p (k : Nat) (K : Ex → St → Option (shDen impl_blocks_sh)) (n : Nat) (x0 : (List Int)) (z90040 : T14) : Option (shDen impl_blocks_sh) := loopK (f116_cx k) 0 (execK (f116_cx k) (callK (f116_cx k) 8) 0 116 (sub f116_c [1, 1, 0, 0, 0])) f116_l0_cut K n (f116_l0_s x0 z90040)

theorem f116_l0_exit0 (k : Nat)  (x0 : (List Int)) (z90040 : T14) : ((blkK 0 (seqK (execK (f116_cx k) (callK (f116_cx k) 8) 0 116 (sub f116_c [1, 1, 1])) (finK (f116_cx k) f116_i impl_blocks_sh))) (.exit 0) (f116_l0_o0 x0 z90040) : Option (shDen impl_blocks_sh)) =
 ((some (z90040, x0)) : Option (shDen impl_blocks_sh)) := by kernel_rfl

theorem f116_l0_round (k : Nat) (K : Ex → St → Option (shDen impl_blocks_sh)) (n : Nat) (x0 : (List Int)) (z90040 : T14) : (f116_l0_p k K (n + 1)  x0 z90040 : Option (shDen impl_blocks_sh)) = impl_blocks_l0_b ((fun x0 z90040 => f116_l0_p k K n  x0 z90040)) (fun x0 z90040 => K (.exit 0) (f116_l0_o0 x0 z90040))  x0 z90040 := by kernel_rfl

theorem f116_l0_L_eq (K : Ex → St → Option (shDen impl_blocks_sh))  : ∀ (n : Nat) (x0 : (List Int)) (z90040 : T14), (f116_l0_p FUEL K n  x0 z90040 : Option (shDen impl_blocks_sh)) = impl_blocks_l0_L (fun x0 z90040 => K (.exit 0) (f116_l0_o0 x0 z90040))  n x0 z90040 := by
 intro n
 induction n with
 | zero => intros; rfl
 | succ n ih =>
  intro x0 z90040
  exact (f116_l0_round FUEL K n  x0 z90040).trans (congrArg (fun f => impl_blocks_l0_b f (fun x0 z90040 => K (.exit 0) (f116_l0_o0 x0 z90040))  x0 z90040) (funext fun x0 => funext fun z90040 => ih x0 z90040))

theorem f116_start (k : Nat) (a0 : (List Int)) : fnK (f116_cx k) 8 116 f116_i impl_blocks_sh [.pv K25 a0] =
 ((loopK (f116_cx k) 0 (execK (f116_cx k) (callK (f116_cx k) 8) 0 116 (sub f116_c [1, 1, 0, 0, 0])) f116_l0_cut (blkK 0 (seqK (execK (f116_cx k) (callK (f116_cx k) 8) 0 116 (sub f116_c [1, 1, 1])) (finK (f116_cx k) f116_i impl_blocks_sh))) k (f116_l0_s a0 [])) : Option (shDen impl_blocks_sh)) := by kernel_rfl

theorem f116_run (a0 : (List Int)) : fnK (f116_cx FUEL) 8 116 f116_i impl_blocks_sh [.pv K25 a0] = impl_blocks_r a0 :=
 (f116_start FUEL a0).trans ((f116_l0_L_eq _  FUEL a0 []).trans (congrArg (fun e0 => impl_blocks_l0_L e0  FUEL a0 []) (funext fun x0 => funext fun z90040 => (f116_l0_exit0 FUEL  x0 z90040).trans (rfl))))

noncomputable def f116_con : Con := { ps := K19, sh := impl_blocks_sh, raw := fun x => impl_blocks_r x.1 }
theorem f116_conOk : ConOk Tryz.prog 116 f116_con := con_of_fn (f116_tabs FUEL) (depth := 8) f116_ok fun x y h => (f116_run x.1).trans h

noncomputable def f121_l0_cut : Cut := { keep := [0, 2, 3, 6], stk := [], ids := [20, 30], own := [], outs := [(1, [2, 3], [20, 30])] }
noncomputable def f121_cx (k : Nat) : Cx := mkC [] [] [] [] [(121, [(0, f121_l0_cut)])] k [] false
theorem f121_tabs (k : Nat) : TabsOk Tryz.prog (f121_cx k) := mkC_ok trivial trivial trivial trivial
abbrev impl_StartState_sh : List Sh := [.pl (.arr 8 (.int .u32))]
noncomputable def f121_l0_s (a0 : Int) (x6 : Int) (y30 : (List Int)) : St := { env := (.pv (.int .u8) a0 :: .dead :: .ptr 20 (.arr 8 (.int .u32)) [] :: .ptr 30 (.arr 8 (.int .u32)) [] :: .dead :: .dead :: .pv (.int .i64) x6 :: (dd 13 [])), stk := [], heap := [(20, .var (.arr 8 (.int .u32)) (.pv (.arr 8 (.int .u32)) (List.replicate 8 (0 : Int)))), (30, .var (.arr 8 (.int .u32)) (.pv (.arr 8 (.int .u32)) y30))] }
noncomputable def f121_l0_o0 (y30 : (List Int)) : St := { env := (.dead :: .dead :: .ptr 20 (.arr 8 (.int .u32)) [] :: .ptr 30 (.arr 8 (.int .u32)) [] :: (dd 16 [])), stk := [], heap := [(20, .var (.arr 8 (.int .u32)) (.pv (.arr 8 (.int .u32)) (List.replicate 8 (0 : Int)))), (30, .var (.arr 8 (.int .u32)) (.pv (.arr 8 (.int .u32)) y30))] }
noncomputable def impl_StartState_l0_b (rec : Int → (List Int) → Option (shDen impl_StartState_sh)) (ke0 : (List Int) → Option (shDen impl_StartState_sh)) (a0 : Int) (x6 : Int) (y30 : (List Int)) : Option (shDen impl_StartState_sh) :=
 (cond (decide (x6 < (8 : Int)))
 (cond ((decide ((0 : Int) ≤ x6)) && (decide (x6 < (8 : Int))))
 (rec (IntKind.wrap .i64 (x6 + (1 : Int))) (y30.set (x6.toNat) (IntKind.wrap .u32 ((IntKind.wrap .u32 ((16777619 : Int) * (IntKind.wrap .u32 (IntKind.wrap .i64 (x6 + (1 : Int)))))) + (IntKind.wrap .u32 a0)))))
 none)
 (ke0 y30))
noncomputable def impl_StartState_l0_L (ke0 : (List Int) → Option (shDen impl_StartState_sh)) (a0 : Int) : Nat → Int → (List Int) → Option (shDen impl_StartState_sh)
 | 0 => fun _ _ => none
 | n + 1 => impl_StartState_l0_b (impl_StartState_l0_L ke0 a0 n) ke0 a0
noncomputable def impl_StartState_r (a0 : Int) : Option (shDen impl_StartState_sh) :=
 (impl_StartState_l0_L (fun y30 => (some y30)) a0 FUEL (0 : Int) (List.replicate 8 (0 : Int)))
noncomputable def f121_l0_p (k : Nat) (K : Ex → St → Option (shDen impl_StartState_sh)) (n : Nat) (a0 : Int) (x6 : Int) (y30 : (List Int)) : Option (shDen impl_StartState_sh) := loopK (f121_cx k) 0 (execK (f121_cx k) (callK (f121_cx k) 8) 0 121 (sub f121_c [1, 1, 0, 1, 0, 0])) f121_l0_cut K n (f121_l0_s a0 x6 y30)

theorem f121_l0_exit0 (k : Nat)  (y30 : (List Int)) : ((blkK 0 (seqK (execK (f121_cx k) (callK (f121_cx k) 8) 0 121 (sub f121_c [1, 1, 1])) (finK (f121_cx k) f121_i impl_StartState_sh))) (.exit 0) (f121_l0_o0 y30) : Option (shDen impl_StartState_sh)) =
 ((some y30) : Option (shDen impl_StartState_sh)) := by kernel_rfl

theorem f121_l0_round (k : Nat) (K : Ex → St → Option (shDen impl_StartState_sh)) (n : Nat) (a0 : Int) (x6 : Int) (y30 : (List Int)) : (f121_l0_p k K (n + 1) a0 x6 y30 : Option (shDen impl_StartState_sh)) = impl_StartState_l0_b ((fun x6 y30 => f121_l0_p k K n a0 x6 y30)) (fun y30 => K (.exit 0) (f121_l0_o0 y30)) a0 x6 y30 := by kernel_rfl

theorem f121_l0_L_eq (K : Ex → St → Option (shDen impl_StartState_sh)) (a0 : Int) : ∀ (n : Nat) (x6 : Int) (y30 : (List Int)), (f121_l0_p FUEL K n a0 x6 y30 : Option (shDen impl_StartState_sh)) = impl_StartState_l0_L (fun y30 => K (.exit 0) (f121_l0_o0 y30)) a0 n x6 y30 := by
 intro n
 induction n with
 | zero => intros; rfl
 | succ n ih =>
  intro x6 y30
  exact (f121_l0_round FUEL K n a0 x6 y30).trans (congrArg (fun f => impl_StartState_l0_b f (fun y30 => K (.exit 0) (f121_l0_o0 y30)) a0 x6 y30) (funext fun x6 => funext fun y30 => ih x6 y30))

theorem f121_start (k : Nat) (a0 : Int) : fnK (f121_cx k) 8 121 f121_i impl_StartState_sh [.pv (.int .u8) a0] =
 ((loopK (f121_cx k) 0 (execK (f121_cx k) (callK (f121_cx k) 8) 0 121 (sub f121_c [1, 1, 0, 1, 0, 0])) f121_l0_cut (blkK 0 (seqK (execK (f121_cx k) (callK (f121_cx k) 8) 0 121 (sub f121_c [1, 1, 1])) (finK (f121_cx k) f121_i impl_StartState_sh))) k (f121_l0_s a0 (0 : Int) (List.replicate 8 (0 : Int)))) : Option (shDen impl_StartState_sh)) := by kernel_rfl

theorem f121_run (a0 : Int) : fnK (f121_cx FUEL) 8 121 f121_i impl_StartState_sh [.pv (.int .u8) a0] = impl_StartState_r a0 :=
 (f121_start FUEL a0).trans ((f121_l0_L_eq _ a0 FUEL (0 : Int) (List.replicate 8 (0 : Int))).trans (congrArg (fun e0 => impl_StartState_l0_L e0 a0 FUEL (0 : Int) (List.replicate 8 (0 : Int))) (funext fun y30 => (f121_l0_exit0 FUEL  y30).trans (rfl))))

noncomputable def f121_con : Con := { ps := K24, sh := impl_StartState_sh, raw := fun x => impl_StartState_r x.1 }
theorem f121_conOk : ConOk Tryz.prog 121 f121_con := con_of_fn (f121_tabs FUEL) (depth := 8) f121_ok fun x y h => (f121_run x.1).trans h

noncomputable def f150_l0_cut : Cut := { keep := [3, 6, 7, 8], stk := [], ids := [], own := [], outs := [(1, [3], [])] }
noncomputable def f150_cx (k : Nat) : Cx := mkC [] [] [] [] [(150, [(0, f150_l0_cut)])] k [] false
theorem f150_tabs (k : Nat) : TabsOk Tryz.prog (f150_cx k) := mkC_ok trivial trivial trivial trivial
abbrev impl_littleNumber_sh : List Sh := [.pl (.int .u64)]
noncomputable def f150_l0_s (a0 : (List Int)) (x3 : Int) (x8 : Int) : St := { env := (dd 3 (.pv (.int .u64) x3 :: .dead :: .dead :: .pv K25 a0 :: .pv (.int .i64) (a0.length : Int) :: .pv (.int .i64) x8 :: (dd 13 []))), stk := [], heap := [] }
noncomputable def f150_l0_o0 (x3 : Int) : St := { env := (dd 3 (.pv (.int .u64) x3 :: (dd 18 []))), stk := [], heap := [] }
noncomputable def impl_littleNumber_l0_b (rec : Int → Int → Option (shDen impl_littleNumber_sh)) (ke0 : Int → Option (shDen impl_littleNumber_sh)) (a0 : (List Int)) (x3 : Int) (x8 : Int) : Option (shDen impl_littleNumber_sh) :=
 (cond (decide (x8 < (a0.length : Int)))
 (cond ((decide ((0 : Int) ≤ x8)) && (decide (x8 < (a0.length : Int))))
 (cond (decide ((IntKind.wrap .i64 ((8 : Int) * x8)) < (0 : Int)))
 none
 (rec (bitI .or .u64 x3 (shlI .u64 (IntKind.wrap .u64 (a0.getD (x8.toNat) (0 : Int))) (IntKind.wrap .i64 ((8 : Int) * x8)))) (IntKind.wrap .i64 (x8 + (1 : Int)))))
 none)
 (ke0 x3))
noncomputable def impl_littleNumber_l0_L (ke0 : Int → Option (shDen impl_littleNumber_sh)) (a0 : (List Int)) : Nat → Int → Int → Option (shDen impl_littleNumber_sh)
 | 0 => fun _ _ => none
 | n + 1 => impl_littleNumber_l0_b (impl_littleNumber_l0_L ke0 a0 n) ke0 a0
noncomputable def impl_littleNumber_r (a0 : (List Int)) : Option (shDen impl_littleNumber_sh) :=
 (impl_littleNumber_l0_L (fun x3 => (some x3)) a0 FUEL (0 : Int) (0 : Int))
noncomputable def f150_l0_p (k : Nat) (K : Ex → St → Option (shDen impl_littleNumber_sh)) (n : Nat) (a0 : (List Int)) (x3 : Int) (x8 : Int) : Option (shDen impl_littleNumber_sh) := loopK (f150_cx k) 0 (execK (f150_cx k) (callK (f150_cx k) 8) 0 150 (sub f150_c [1, 1, 0, 1, 0, 0])) f150_l0_cut K n (f150_l0_s a0 x3 x8)

theorem f150_l0_exit0 (k : Nat)  (x3 : Int) : ((blkK 0 (seqK (execK (f150_cx k) (callK (f150_cx k) 8) 0 150 (sub f150_c [1, 1, 1])) (finK (f150_cx k) f150_i impl_littleNumber_sh))) (.exit 0) (f150_l0_o0 x3) : Option (shDen impl_littleNumber_sh)) =
 ((some x3) : Option (shDen impl_littleNumber_sh)) := by kernel_rfl

theorem f150_l0_round (k : Nat) (K : Ex → St → Option (shDen impl_littleNumber_sh)) (n : Nat) (a0 : (List Int)) (x3 : Int) (x8 : Int) : (f150_l0_p k K (n + 1) a0 x3 x8 : Option (shDen impl_littleNumber_sh)) = impl_littleNumber_l0_b ((fun x3 x8 => f150_l0_p k K n a0 x3 x8)) (fun x3 => K (.exit 0) (f150_l0_o0 x3)) a0 x3 x8 := by kernel_rfl

theorem f150_l0_L_eq (K : Ex → St → Option (shDen impl_littleNumber_sh)) (a0 : (List Int)) : ∀ (n : Nat) (x3 : Int) (x8 : Int), (f150_l0_p FUEL K n a0 x3 x8 : Option (shDen impl_littleNumber_sh)) = impl_littleNumber_l0_L (fun x3 => K (.exit 0) (f150_l0_o0 x3)) a0 n x3 x8 := by
 intro n
 induction n with
 | zero => intros; rfl
 | succ n ih =>
  intro x3 x8
  exact (f150_l0_round FUEL K n a0 x3 x8).trans (congrArg (fun f => impl_littleNumber_l0_b f (fun x3 => K (.exit 0) (f150_l0_o0 x3)) a0 x3 x8) (funext fun x3 => funext fun x8 => ih x3 x8))

theorem f150_start (k : Nat) (a0 : (List Int)) : fnK (f150_cx k) 8 150 f150_i impl_littleNumber_sh [.pv K25 a0] =
 ((loopK (f150_cx k) 0 (execK (f150_cx k) (callK (f150_cx k) 8) 0 150 (sub f150_c [1, 1, 0, 1, 0, 0])) f150_l0_cut (blkK 0 (seqK (execK (f150_cx k) (callK (f150_cx k) 8) 0 150 (sub f150_c [1, 1, 1])) (finK (f150_cx k) f150_i impl_littleNumber_sh))) k (f150_l0_s a0 (0 : Int) (0 : Int))) : Option (shDen impl_littleNumber_sh)) := by kernel_rfl

theorem f150_run (a0 : (List Int)) : fnK (f150_cx FUEL) 8 150 f150_i impl_littleNumber_sh [.pv K25 a0] = impl_littleNumber_r a0 :=
 (f150_start FUEL a0).trans ((f150_l0_L_eq _ a0 FUEL (0 : Int) (0 : Int)).trans (congrArg (fun e0 => impl_littleNumber_l0_L e0 a0 FUEL (0 : Int) (0 : Int)) (funext fun x3 => (f150_l0_exit0 FUEL  x3).trans (rfl))))

noncomputable def f150_con : Con := { ps := K19, sh := impl_littleNumber_sh, raw := fun x => impl_littleNumber_r x.1 }
theorem f150_conOk : ConOk Tryz.prog 150 f150_con := con_of_fn (f150_tabs FUEL) (depth := 8) f150_ok fun x y h => (f150_run x.1).trans h

noncomputable def f151_cx (k : Nat) : Cx := mkC [] [] [] [] [] k [] false
theorem f151_tabs (k : Nat) : TabsOk Tryz.prog (f151_cx k) := mkC_ok trivial trivial trivial trivial
abbrev math_bits_RotateLeft32_sh : List Sh := [.pl (.int .u32)]
noncomputable def math_bits_RotateLeft32_r (a0 : Int) (a1 : Int) : Option (shDen math_bits_RotateLeft32_sh) :=
 (cond (decide ((bitI .and .u64 (IntKind.wrap .u64 a1) (31 : Int)) < (0 : Int)))
 none
 (cond (decide ((IntKind.wrap .u64 ((32 : Int) - (bitI .and .u64 (IntKind.wrap .u64 a1) (31 : Int)))) < (0 : Int)))
 none
 (some (bitI .or .u32 (shlI .u32 a0 (bitI .and .u64 (IntKind.wrap .u64 a1) (31 : Int))) (shrI .u32 a0 (IntKind.wrap .u64 ((32 : Int) - (bitI .and .u64 (IntKind.wrap .u64 a1) (31 : Int)))))))))
theorem f151_run (a0 : Int) (a1 : Int) : fnK (f151_cx FUEL) 8 151 f151_i math_bits_RotateLeft32_sh [.pv (.int .u32) a0, .pv (.int .i64) a1] = math_bits_RotateLeft32_r a0 a1 := by kernel_rfl

noncomputable def f151_con : Con := { ps := (.pair (.int .u32) K23), sh := math_bits_RotateLeft32_sh, raw := fun x => math_bits_RotateLeft32_r x.1 x.2.1 }
theorem f151_conOk : ConOk Tryz.prog 151 f151_con := con_of_fn (f151_tabs FUEL) (depth := 8) f151_ok fun x y h => (f151_run x.1 x.2.1).trans h

noncomputable def f135_l0_cut : Cut := { keep := [2, 3, 4, 5, 14], stk := [], ids := [20, 30, 40, 50], own := [], outs := [(1, [2, 4, 5], [20, 40, 50])] }
noncomputable def f135_l1_cut : Cut := { keep := [2, 4, 5, 7, 29], stk := [], ids := [20, 40, 50, 70], own := [], outs := [(3, [2, 4, 7], [20, 40, 70])] }
noncomputable def f135_l2_cut : Cut := { keep := [2, 4, 5, 7, 8, 29, 32], stk := [], ids := [20, 40, 50, 70], own := [], outs := [(5, [2, 4, 5, 7, 29], [20, 40, 50, 70])] }
noncomputable def f135_l3_cut : Cut := { keep := [2, 4, 7, 74], stk := [], ids := [20, 40, 70], own := [], outs := [(7, [4, 7], [40, 70])] }
noncomputable def f135_cx (k : Nat) : Cx := mkC [] [(150, f150_con), (151, f151_con)] [] [] [(135, [(0, f135_l0_cut), (2, f135_l1_cut), (4, f135_l2_cut), (6, f135_l3_cut)])] k [] false
theorem f135_tabs (k : Nat) : TabsOk Tryz.prog (f135_cx k) := mkC_ok ⟨f150_conOk, f151_conOk, trivial⟩ trivial trivial trivial
abbrev impl_MixBlock_sh : List Sh := [.pl (.arr 8 (.int .u32))]
noncomputable def f135_l0_s (a0 : (List Int)) (a1 : (List Int)) (x14 : Int) (y50 : (List Int)) : St := { env := (.dead :: .dead :: .ptr 20 (.arr 8 (.int .u32)) [] :: .ptr 30 (.arr 32 (.int .u8)) [] :: .ptr 40 (.arr 8 (.int .u32)) [] :: .ptr 50 (.arr 8 (.int .u32)) [] :: (dd 8 (.pv (.int .i64) x14 :: (dd 72 [])))), stk := [], heap := [(20, .var (.arr 8 (.int .u32)) (.pv (.arr 8 (.int .u32)) a0)), (30, .var (.arr 32 (.int .u8)) (.pv (.arr 32 (.int .u8)) a1)), (40, .var (.arr 8 (.int .u32)) (.pv (.arr 8 (.int .u32)) (List.replicate 8 (0 : Int)))), (50, .var (.arr 8 (.int .u32)) (.pv (.arr 8 (.int .u32)) y50))] }
noncomputable def f135_l0_o0 (a0 : (List Int)) (y50 : (List Int)) : St := { env := (.dead :: .dead :: .ptr 20 (.arr 8 (.int .u32)) [] :: .dead :: .ptr 40 (.arr 8 (.int .u32)) [] :: .ptr 50 (.arr 8 (.int .u32)) [] :: (dd 81 [])), stk := [], heap := [(20, .var (.arr 8 (.int .u32)) (.pv (.arr 8 (.int .u32)) a0)), (40, .var (.arr 8 (.int .u32)) (.pv (.arr 8 (.int .u32)) (List.replicate 8 (0 : Int)))), (50, .var (.arr 8 (.int .u32)) (.pv (.arr 8 (.int .u32)) y50))] }
noncomputable def f135_l1_s (a0 : (List Int)) (y50 : (List Int)) (x29 : Int) (y70 : (List Int)) : St := { env := (.dead :: .dead :: .ptr 20 (.arr 8 (.int .u32)) [] :: .dead :: .ptr 40 (.arr 8 (.int .u32)) [] :: .ptr 50 (.arr 8 (.int .u32)) [] :: .dead :: .ptr 70 (.arr 8 (.int .u32)) [] :: (dd 21 (.pv (.int .i64) x29 :: (dd 57 [])))), stk := [], heap := [(20, .var (.arr 8 (.int .u32)) (.pv (.arr 8 (.int .u32)) a0)), (40, .var (.arr 8 (.int .u32)) (.pv (.arr 8 (.int .u32)) (List.replicate 8 (0 : Int)))), (50, .var (.arr 8 (.int .u32)) (.pv (.arr 8 (.int .u32)) y50)), (70, .var (.arr 8 (.int .u32)) (.pv (.arr 8 (.int .u32)) y70))] }
noncomputable def f135_l1_o2 (a0 : (List Int)) (y70 : (List Int)) : St := { env := (.dead :: .dead :: .ptr 20 (.arr 8 (.int .u32)) [] :: .dead :: .ptr 40 (.arr 8 (.int .u32)) [] :: .dead :: .dead :: .ptr 70 (.arr 8 (.int .u32)) [] :: (dd 79 [])), stk := [], heap := [(20, .var (.arr 8 (.int .u32)) (.pv (.arr 8 (.int .u32)) a0)), (40, .var (.arr 8 (.int .u32)) (.pv (.arr 8 (.int .u32)) (List.replicate 8 (0 : Int)))), (70, .var (.arr 8 (.int .u32)) (.pv (.arr 8 (.int .u32)) y70))] }
noncomputable def f135_l2_s (a0 : (List Int)) (y50 : (List Int)) (x29 : Int) (x32 : Int) (y70 : (List Int)) : St := { env := (.dead :: .dead :: .ptr 20 (.arr 8 (.int .u32)) [] :: .dead :: .ptr 40 (.arr 8 (.int .u32)) [] :: .ptr 50 (.arr 8 (.int .u32)) [] :: .dead :: .ptr 70 (.arr 8 (.int .u32)) [] :: .pv (.int .i64) x29 :: (dd 20 (.pv (.int .i64) x29 :: .dead :: .dead :: .pv (.int .i64) x32 :: (dd 54 [])))), stk := [], heap := [(20, .var (.arr 8 (.int .u32)) (.pv (.arr 8 (.int .u32)) a0)), (40, .var (.arr 8 (.int .u32)) (.pv (.arr 8 (.int .u32)) (List.replicate 8 (0 : Int)))), (50, .var (.arr 8 (.int .u32)) (.pv (.arr 8 (.int .u32)) y50)), (70, .var (.arr 8 (.int .u32)) (.pv (.arr 8 (.int .u32)) y70))] }
noncomputable def f135_l2_o4 (a0 : (List Int)) (y50 : (List Int)) (x29 : Int) (y70 : (List Int)) : St := { env := (.dead :: .dead :: .ptr 20 (.arr 8 (.int .u32)) [] :: .dead :: .ptr 40 (.arr 8 (.int .u32)) [] :: .ptr 50 (.arr 8 (.int .u32)) [] :: .dead :: .ptr 70 (.arr 8 (.int .u32)) [] :: (dd 21 (.pv (.int .i64) x29 :: (dd 57 [])))), stk := [], heap := [(20, .var (.arr 8 (.int .u32)) (.pv (.arr 8 (.int .u32)) a0)), (40, .var (.arr 8 (.int .u32)) (.pv (.arr 8 (.int .u32)) (List.replicate 8 (0 : Int)))), (50, .var (.arr 8 (.int .u32)) (.pv (.arr 8 (.int .u32)) y50)), (70, .var (.arr 8 (.int .u32)) (.pv (.arr 8 (.int .u32)) y70))] }
noncomputable def f135_l3_s (a0 : (List Int)) (y70 : (List Int)) (x74 : Int) : St := { env := (.dead :: .dead :: .ptr 20 (.arr 8 (.int .u32)) [] :: .dead :: .ptr 40 (.arr 8 (.int .u32)) [] :: .dead :: .dead :: .ptr 70 (.arr 8 (.int .u32)) [] :: (dd 66 (.pv (.int .i64) x74 :: (dd 12 [])))), stk := [], heap := [(20, .var (.arr 8 (.int .u32)) (.pv (.arr 8 (.int .u32)) a0)), (40, .var (.arr 8 (.int .u32)) (.pv (.arr 8 (.int .u32)) (List.replicate 8 (0 : Int)))), (70, .var (.arr 8 (.int .u32)) (.pv (.arr 8 (.int .u32)) y70))] }
noncomputable def f135_l3_o6 (y70 : (List Int)) : St := { env := (dd 4 (.ptr 40 (.arr 8 (.int .u32)) [] :: .dead :: .dead :: .ptr 70 (.arr 8 (.int .u32)) [] :: (dd 79 []))), stk := [], heap := [(40, .var (.arr 8 (.int .u32)) (.pv (.arr 8 (.int .u32)) (List.replicate 8 (0 : Int)))), (70, .var (.arr 8 (.int .u32)) (.pv (.arr 8 (.int .u32)) y70))] }
noncomputable def impl_MixBlock_l3_b (rec : (List Int) → Int → Option (shDen impl_MixBlock_sh)) (ke6 : (List Int) → Option (shDen impl_MixBlock_sh)) (a0 : (List Int)) (y70 : (List Int)) (x74 : Int) : Option (shDen impl_MixBlock_sh) :=
 (cond (decide (x74 < (8 : Int)))
 (cond ((decide ((0 : Int) ≤ x74)) && (decide (x74 < (8 : Int))))
 (cond ((decide ((0 : Int) ≤ x74)) && (decide (x74 < (8 : Int))))
 (cond ((decide ((0 : Int) ≤ x74)) && (decide (x74 < (8 : Int))))
 (rec (y70.set (x74.toNat) (bitI .xor .u32 (y70.getD (x74.toNat) (0 : Int)) (a0.getD (x74.toNat) (0 : Int)))) (IntKind.wrap .i64 (x74 + (1 : Int))))
 none)
 none)
 none)
 (ke6 y70))
noncomputable def impl_MixBlock_l3_L (ke6 : (List Int) → Option (shDen impl_MixBlock_sh)) (a0 : (List Int)) : Nat → (List Int) → Int → Option (shDen impl_MixBlock_sh)
 | 0 => fun _ _ => none
 | n + 1 => impl_MixBlock_l3_b (impl_MixBlock_l3_L ke6 a0 n) ke6 a0
noncomputable def impl_MixBlock_l2_b (rec : Int → (List Int) → Option (shDen impl_MixBlock_sh)) (ke4 : (List Int) → Option (shDen impl_MixBlock_sh)) (a0 : (List Int)) (y50 : (List Int)) (x29 : Int) (x32 : Int) (y70 : (List Int)) : Option (shDen impl_MixBlock_sh) :=
 (cond (decide (x32 < (8 : Int)))
 (cond ((decide ((0 : Int) ≤ x32)) && (decide (x32 < (8 : Int))))
 (cond ((decide ((0 : Int) ≤ (Int.tmod (IntKind.wrap .i64 (x32 + (IntKind.wrap .i64 ((3 : Int) * x29)))) (8 : Int)))) && (decide ((Int.tmod (IntKind.wrap .i64 (x32 + (IntKind.wrap .i64 ((3 : Int) * x29)))) (8 : Int)) < (8 : Int))))
 (bindO (math_bits_RotateLeft32_r (IntKind.wrap .u32 ((IntKind.wrap .u32 ((y70.getD (x32.toNat) (0 : Int)) + (y50.getD ((Int.tmod (IntKind.wrap .i64 (x32 + (IntKind.wrap .i64 ((3 : Int) * x29)))) (8 : Int)).toNat) (0 : Int)))) + (IntKind.wrap .u32 ((2654435769 : Int) * (IntKind.wrap .u32 (IntKind.wrap .i64 ((IntKind.wrap .i64 ((IntKind.wrap .i64 ((8 : Int) * x29)) + x32)) + (1 : Int)))))))) (7 : Int)) fun (b9 : Int) => (cond ((decide ((0 : Int) ≤ (Int.tmod (IntKind.wrap .i64 (x32 + (1 : Int))) (8 : Int)))) && (decide ((Int.tmod (IntKind.wrap .i64 (x32 + (1 : Int))) (8 : Int)) < (8 : Int))))
 (cond ((decide ((0 : Int) ≤ (Int.tmod (IntKind.wrap .i64 (x32 + (5 : Int))) (8 : Int)))) && (decide ((Int.tmod (IntKind.wrap .i64 (x32 + (5 : Int))) (8 : Int)) < (8 : Int))))
 (bindO (math_bits_RotateLeft32_r (y70.getD ((Int.tmod (IntKind.wrap .i64 (x32 + (5 : Int))) (8 : Int)).toNat) (0 : Int)) (13 : Int)) fun (b10 : Int) => (cond ((decide ((0 : Int) ≤ x32)) && (decide (x32 < (8 : Int))))
 (rec (IntKind.wrap .i64 (x32 + (1 : Int))) (y70.set (x32.toNat) (IntKind.wrap .u32 ((bitI .xor .u32 b9 (y70.getD ((Int.tmod (IntKind.wrap .i64 (x32 + (1 : Int))) (8 : Int)).toNat) (0 : Int))) + b10))))
 none))
 none)
 none))
 none)
 none)
 (ke4 y70))
noncomputable def impl_MixBlock_l2_L (ke4 : (List Int) → Option (shDen impl_MixBlock_sh)) (a0 : (List Int)) (y50 : (List Int)) (x29 : Int) : Nat → Int → (List Int) → Option (shDen impl_MixBlock_sh)
 | 0 => fun _ _ => none
 | n + 1 => impl_MixBlock_l2_b (impl_MixBlock_l2_L ke4 a0 y50 x29 n) ke4 a0 y50 x29
noncomputable def impl_MixBlock_l1_b (rec : (List Int) → Int → (List Int) → Option (shDen impl_MixBlock_sh)) (ke2 : (List Int) → Option (shDen impl_MixBlock_sh)) (a0 : (List Int)) (y50 : (List Int)) (x29 : Int) (y70 : (List Int)) : Option (shDen impl_MixBlock_sh) :=
 (cond (decide (x29 < (12 : Int)))
 (impl_MixBlock_l2_L (fun y70 => (rec y50 (IntKind.wrap .i64 (x29 + (1 : Int))) y70)) a0 y50 x29 FUEL (0 : Int) y70)
 (ke2 y70))
noncomputable def impl_MixBlock_l1_L (ke2 : (List Int) → Option (shDen impl_MixBlock_sh)) (a0 : (List Int)) : Nat → (List Int) → Int → (List Int) → Option (shDen impl_MixBlock_sh)
 | 0 => fun _ _ _ => none
 | n + 1 => impl_MixBlock_l1_b (impl_MixBlock_l1_L ke2 a0 n) ke2 a0
noncomputable def impl_MixBlock_l0_b (rec : Int → (List Int) → Option (shDen impl_MixBlock_sh)) (ke0 : (List Int) → Option (shDen impl_MixBlock_sh)) (a0 : (List Int)) (a1 : (List Int)) (x14 : Int) (y50 : (List Int)) : Option (shDen impl_MixBlock_sh) :=
 (cond (decide (x14 < (8 : Int)))
 (cond ((decide ((0 : Int) ≤ (IntKind.wrap .i64 ((IntKind.wrap .i64 ((4 : Int) * x14)) + (4 : Int))))) && (decide ((IntKind.wrap .i64 ((IntKind.wrap .i64 ((4 : Int) * x14)) + (4 : Int))) ≤ (32 : Int))))
 (cond ((decide ((0 : Int) ≤ (IntKind.wrap .i64 ((4 : Int) * x14)))) && (decide ((IntKind.wrap .i64 ((4 : Int) * x14)) ≤ (IntKind.wrap .i64 ((IntKind.wrap .i64 ((4 : Int) * x14)) + (4 : Int))))))
 (bindO (impl_littleNumber_r (cutL a1 ((IntKind.wrap .i64 ((4 : Int) * x14)).toNat) ((IntKind.wrap .i64 ((IntKind.wrap .i64 ((4 : Int) * x14)) + (4 : Int))).toNat))) fun (b2 : Int) => (cond ((decide ((0 : Int) ≤ x14)) && (decide (x14 < (8 : Int))))
 (rec (IntKind.wrap .i64 (x14 + (1 : Int))) (y50.set (x14.toNat) (IntKind.wrap .u32 b2)))
 none))
 none)
 none)
 (ke0 y50))
noncomputable def impl_MixBlock_l0_L (ke0 : (List Int) → Option (shDen impl_MixBlock_sh)) (a0 : (List Int)) (a1 : (List Int)) : Nat → Int → (List Int) → Option (shDen impl_MixBlock_sh)
 | 0 => fun _ _ => none
 | n + 1 => impl_MixBlock_l0_b (impl_MixBlock_l0_L ke0 a0 a1 n) ke0 a0 a1
noncomputable def impl_MixBlock_r (a0 : (List Int)) (a1 : (List Int)) : Option (shDen impl_MixBlock_sh) :=
 (impl_MixBlock_l0_L (fun y50 => (impl_MixBlock_l1_L (fun y70 => (impl_MixBlock_l3_L (fun y70 => (some y70)) a0 FUEL y70 (0 : Int))) a0 FUEL y50 (0 : Int) a0)) a0 a1 FUEL (0 : Int) (List.replicate 8 (0 : Int)))
noncomputable def f135_l3_p (k : Nat) (K : Ex → St → Option (shDen impl_MixBlock_sh)) (n : Nat) (a0 : (List Int)) (y70 : (List Int)) (x74 : Int) : Option (shDen impl_MixBlock_sh) := loopK (f135_cx k) 0 (execK (f135_cx k) (callK (f135_cx k) 8) 0 135 (sub f135_c [1, 1, 1, 1, 1, 0, 1, 0, 0])) f135_l3_cut K n (f135_l3_s a0 y70 x74)

theorem f135_l3_exit6 (k : Nat)  (y70 : (List Int)) : ((blkK 6 (seqK (execK (f135_cx k) (callK (f135_cx k) 8) 0 135 (sub f135_c [1, 1, 1, 1, 1, 1])) (finK (f135_cx k) f135_i impl_MixBlock_sh))) (.exit 6) (f135_l3_o6 y70) : Option (shDen impl_MixBlock_sh)) =
 ((some y70) : Option (shDen impl_MixBlock_sh)) := by kernel_rfl

theorem f135_l3_round (k : Nat) (K : Ex → St → Option (shDen impl_MixBlock_sh)) (n : Nat) (a0 : (List Int)) (y70 : (List Int)) (x74 : Int) : (f135_l3_p k K (n + 1) a0 y70 x74 : Option (shDen impl_MixBlock_sh)) = impl_MixBlock_l3_b ((fun y70 x74 => f135_l3_p k K n a0 y70 x74)) (fun y70 => K (.exit 6) (f135_l3_o6 y70)) a0 y70 x74 := by kernel_rfl

theorem f135_l3_L_eq (K : Ex → St → Option (shDen impl_MixBlock_sh)) (a0 : (List Int)) : ∀ (n : Nat) (y70 : (List Int)) (x74 : Int), (f135_l3_p FUEL K n a0 y70 x74 : Option (shDen impl_MixBlock_sh)) = impl_MixBlock_l3_L (fun y70 => K (.exit 6) (f135_l3_o6 y70)) a0 n y70 x74 := by
 intro n
 induction n with
 | zero => intros; rfl
 | succ n ih =>
  intro y70 x74
  exact (f135_l3_round FUEL K n a0 y70 x74).trans (congrArg (fun f => impl_MixBlock_l3_b f (fun y70 => K (.exit 6) (f135_l3_o6 y70)) a0 y70 x74) (funext fun y70 => funext fun x74 => ih y70 x74))

noncomputable def f135_l2_p (k : Nat) (K : Ex → St → Option (shDen impl_MixBlock_sh)) (n : Nat) (a0 : (List Int)) (y50 : (List Int)) (x29 : Int) (x32 : Int) (y70 : (List Int)) : Option (shDen impl_MixBlock_sh) := loopK (f135_cx k) 0 (execK (f135_cx k) (callK (f135_cx k) 8) 0 135 (sub f135_c [1, 1, 1, 1, 0, 1, 0, 0, 1, 1, 0, 0, 1, 1, 0, 0])) f135_l2_cut K n (f135_l2_s a0 y50 x29 x32 y70)

theorem f135_l2_exit4 (k : Nat) (K : Ex → St → Option (shDen impl_MixBlock_sh)) (n : Nat) (a0 : (List Int)) (y50 : (List Int)) (x29 : Int) (y70 : (List Int)) : ((blkK 4 (blkK 3 (seqK (execK (f135_cx k) (callK (f135_cx k) 8) 0 135 (sub f135_c [1, 1, 1, 1, 0, 1, 0, 0, 1, 1, 1])) (iterK (f135_cx k) 0 f135_l1_cut (loopK (f135_cx k) 0 (execK (f135_cx k) (callK (f135_cx k) 8) 0 135 (sub f135_c [1, 1, 1, 1, 0, 1, 0, 0])) f135_l1_cut K n) K)))) (.exit 4) (f135_l2_o4 a0 y50 x29 y70) : Option (shDen impl_MixBlock_sh)) =
 ((loopK (f135_cx k) 0 (execK (f135_cx k) (callK (f135_cx k) 8) 0 135 (sub f135_c [1, 1, 1, 1, 0, 1, 0, 0])) f135_l1_cut K n (f135_l1_s a0 y50 (IntKind.wrap .i64 (x29 + (1 : Int))) y70)) : Option (shDen impl_MixBlock_sh)) := by kernel_rfl

theorem f135_l2_round (k : Nat) (K : Ex → St → Option (shDen impl_MixBlock_sh)) (n : Nat) (a0 : (List Int)) (y50 : (List Int)) (x29 : Int) (x32 : Int) (y70 : (List Int)) : (f135_l2_p k K (n + 1) a0 y50 x29 x32 y70 : Option (shDen impl_MixBlock_sh)) = impl_MixBlock_l2_b ((fun x32 y70 => f135_l2_p k K n a0 y50 x29 x32 y70)) (fun y70 => K (.exit 4) (f135_l2_o4 a0 y50 x29 y70)) a0 y50 x29 x32 y70 := by kernel_rfl

theorem f135_l2_L_eq (K : Ex → St → Option (shDen impl_MixBlock_sh)) (a0 : (List Int)) (y50 : (List Int)) (x29 : Int) : ∀ (n : Nat) (x32 : Int) (y70 : (List Int)), (f135_l2_p FUEL K n a0 y50 x29 x32 y70 : Option (shDen impl_MixBlock_sh)) = impl_MixBlock_l2_L (fun y70 => K (.exit 4) (f135_l2_o4 a0 y50 x29 y70)) a0 y50 x29 n x32 y70 := by
 intro n
 induction n with
 | zero => intros; rfl
 | succ n ih =>
  intro x32 y70
  exact (f135_l2_round FUEL K n a0 y50 x29 x32 y70).trans (congrArg (fun f => impl_MixBlock_l2_b f (fun y70 => K (.exit 4) (f135_l2_o4 a0 y50 x29 y70)) a0 y50 x29 x32 y70) (funext fun x32 => funext fun y70 => ih x32 y70))

noncomputable def f135_l1_p (k : Nat) (K : Ex → St → Option (shDen impl_MixBlock_sh)) (n : Nat) (a0 : (List Int)) (y50 : (List Int)) (x29 : Int) (y70 : (List Int)) : Option (shDen impl_MixBlock_sh) := loopK (f135_cx k) 0 (execK (f135_cx k) (callK (f135_cx k) 8) 0 135 (sub f135_c [1, 1, 1, 1, 0, 1, 0, 0])) f135_l1_cut K n (f135_l1_s a0 y50 x29 y70)

theorem f135_l1_round (k : Nat) (K : Ex → St → Option (shDen impl_MixBlock_sh)) (n : Nat) (a0 : (List Int)) (y50 : (List Int)) (x29 : Int) (y70 : (List Int)) : (f135_l1_p k K (n + 1) a0 y50 x29 y70 : Option (shDen impl_MixBlock_sh)) =
 ((cond (decide (x29 < (12 : Int)))
 (loopK (f135_cx k) 0 (execK (f135_cx k) (callK (f135_cx k) 8) 0 135 (sub f135_c [1, 1, 1, 1, 0, 1, 0, 0, 1, 1, 0, 0, 1, 1, 0, 0])) f135_l2_cut (blkK 4 (blkK 3 (seqK (execK (f135_cx k) (callK (f135_cx k) 8) 0 135 (sub f135_c [1, 1, 1, 1, 0, 1, 0, 0, 1, 1, 1])) (iterK (f135_cx k) 0 f135_l1_cut (loopK (f135_cx k) 0 (execK (f135_cx k) (callK (f135_cx k) 8) 0 135 (sub f135_c [1, 1, 1, 1, 0, 1, 0, 0])) f135_l1_cut K n) K)))) k (f135_l2_s a0 y50 x29 (0 : Int) y70))
 (K (.exit 2) (f135_l1_o2 a0 y70))) : Option (shDen impl_MixBlock_sh)) := by kernel_rfl

theorem f135_l1_exit2 (k : Nat)  (a0 : (List Int)) (y70 : (List Int)) : ((blkK 2 (seqK (execK (f135_cx k) (callK (f135_cx k) 8) 0 135 (sub f135_c [1, 1, 1, 1, 1])) (finK (f135_cx k) f135_i impl_MixBlock_sh))) (.exit 2) (f135_l1_o2 a0 y70) : Option (shDen impl_MixBlock_sh)) =
 ((loopK (f135_cx k) 0 (execK (f135_cx k) (callK (f135_cx k) 8) 0 135 (sub f135_c [1, 1, 1, 1, 1, 0, 1, 0, 0])) f135_l3_cut (blkK 6 (seqK (execK (f135_cx k) (callK (f135_cx k) 8) 0 135 (sub f135_c [1, 1, 1, 1, 1, 1])) (finK (f135_cx k) f135_i impl_MixBlock_sh))) k (f135_l3_s a0 y70 (0 : Int))) : Option (shDen impl_MixBlock_sh)) := by kernel_rfl

theorem f135_l1_L_eq (K : Ex → St → Option (shDen impl_MixBlock_sh)) (a0 : (List Int)) : ∀ (n : Nat) (y50 : (List Int)) (x29 : Int) (y70 : (List Int)), (f135_l1_p FUEL K n a0 y50 x29 y70 : Option (shDen impl_MixBlock_sh)) = impl_MixBlock_l1_L (fun y70 => K (.exit 2) (f135_l1_o2 a0 y70)) a0 n y50 x29 y70 := by
 intro n
 induction n with
 | zero => intros; rfl
 | succ n ih =>
  intro y50 x29 y70
  exact (f135_l1_round FUEL K n a0 y50 x29 y70).trans (condC ((f135_l2_L_eq _ a0 y50 x29 FUEL (0 : Int) y70).trans (congrArg (fun e0 => impl_MixBlock_l2_L e0 a0 y50 x29 FUEL (0 : Int) y70) (funext fun y70 => (f135_l2_exit4 FUEL K n a0 y50 x29 y70).trans (ih y50 (IntKind.wrap .i64 (x29 + (1 : Int))) y70)))) (rfl))

noncomputable def f135_l0_p (k : Nat) (K : Ex → St → Option (shDen impl_MixBlock_sh)) (n : Nat) (a0 : (List Int)) (a1 : (List Int)) (x14 : Int) (y50 : (List Int)) : Option (shDen impl_MixBlock_sh) := loopK (f135_cx k) 0 (execK (f135_cx k) (callK (f135_cx k) 8) 0 135 (sub f135_c [1, 1, 0, 1, 0, 0])) f135_l0_cut K n (f135_l0_s a0 a1 x14 y50)

theorem f135_l0_exit0 (k : Nat)  (a0 : (List Int)) (y50 : (List Int)) : ((blkK 0 (seqK (execK (f135_cx k) (callK (f135_cx k) 8) 0 135 (sub f135_c [1, 1, 1])) (finK (f135_cx k) f135_i impl_MixBlock_sh))) (.exit 0) (f135_l0_o0 a0 y50) : Option (shDen impl_MixBlock_sh)) =
 ((loopK (f135_cx k) 0 (execK (f135_cx k) (callK (f135_cx k) 8) 0 135 (sub f135_c [1, 1, 1, 1, 0, 1, 0, 0])) f135_l1_cut (blkK 2 (seqK (execK (f135_cx k) (callK (f135_cx k) 8) 0 135 (sub f135_c [1, 1, 1, 1, 1])) (finK (f135_cx k) f135_i impl_MixBlock_sh))) k (f135_l1_s a0 y50 (0 : Int) a0)) : Option (shDen impl_MixBlock_sh)) := by kernel_rfl

theorem f135_l0_round (k : Nat) (K : Ex → St → Option (shDen impl_MixBlock_sh)) (n : Nat) (a0 : (List Int)) (a1 : (List Int)) (x14 : Int) (y50 : (List Int)) : (f135_l0_p k K (n + 1) a0 a1 x14 y50 : Option (shDen impl_MixBlock_sh)) = impl_MixBlock_l0_b ((fun x14 y50 => f135_l0_p k K n a0 a1 x14 y50)) (fun y50 => K (.exit 0) (f135_l0_o0 a0 y50)) a0 a1 x14 y50 := by kernel_rfl

theorem f135_l0_L_eq (K : Ex → St → Option (shDen impl_MixBlock_sh)) (a0 : (List Int)) (a1 : (List Int)) : ∀ (n : Nat) (x14 : Int) (y50 : (List Int)), (f135_l0_p FUEL K n a0 a1 x14 y50 : Option (shDen impl_MixBlock_sh)) = impl_MixBlock_l0_L (fun y50 => K (.exit 0) (f135_l0_o0 a0 y50)) a0 a1 n x14 y50 := by
 intro n
 induction n with
 | zero => intros; rfl
 | succ n ih =>
  intro x14 y50
  exact (f135_l0_round FUEL K n a0 a1 x14 y50).trans (congrArg (fun f => impl_MixBlock_l0_b f (fun y50 => K (.exit 0) (f135_l0_o0 a0 y50)) a0 a1 x14 y50) (funext fun x14 => funext fun y50 => ih x14 y50))

theorem f135_start (k : Nat) (a0 : (List Int)) (a1 : (List Int)) : fnK (f135_cx k) 8 135 f135_i impl_MixBlock_sh [.pv (.arr 8 (.int .u32)) a0, .pv (.arr 32 (.int .u8)) a1] =
 ((loopK (f135_cx k) 0 (execK (f135_cx k) (callK (f135_cx k) 8) 0 135 (sub f135_c [1, 1, 0, 1, 0, 0])) f135_l0_cut (blkK 0 (seqK (execK (f135_cx k) (callK (f135_cx k) 8) 0 135 (sub f135_c [1, 1, 1])) (finK (f135_cx k) f135_i impl_MixBlock_sh))) k (f135_l0_s a0 a1 (0 : Int) (List.replicate 8 (0 : Int)))) : Option (shDen impl_MixBlock_sh)) := by kernel_rfl

theorem f135_run (a0 : (List Int)) (a1 : (List Int)) : fnK (f135_cx FUEL) 8 135 f135_i impl_MixBlock_sh [.pv (.arr 8 (.int .u32)) a0, .pv (.arr 32 (.int .u8)) a1] = impl_MixBlock_r a0 a1 :=
 (f135_start FUEL a0 a1).trans ((f135_l0_L_eq _ a0 a1 FUEL (0 : Int) (List.replicate 8 (0 : Int))).trans (congrArg (fun e0 => impl_MixBlock_l0_L e0 a0 a1 FUEL (0 : Int) (List.replicate 8 (0 : Int))) (funext fun y50 => (f135_l0_exit0 FUEL  a0 y50).trans ((f135_l1_L_eq _ a0 FUEL y50 (0 : Int) a0).trans (congrArg (fun e0 => impl_MixBlock_l1_L e0 a0 FUEL y50 (0 : Int) a0) (funext fun y70 => (f135_l1_exit2 FUEL  a0 y70).trans ((f135_l3_L_eq _ a0 FUEL y70 (0 : Int)).trans (congrArg (fun e0 => impl_MixBlock_l3_L e0 a0 FUEL y70 (0 : Int)) (funext fun y70 => (f135_l3_exit6 FUEL  y70).trans (rfl))))))))))

noncomputable def f135_con : Con := { ps := (.pair (.arr 8 (.int .u32)) K18), sh := impl_MixBlock_sh, raw := fun x => impl_MixBlock_r x.1 x.2.1 }
theorem f135_conOk : ConOk Tryz.prog 135 f135_con := con_of_fn (f135_tabs FUEL) (depth := 8) f135_ok fun x y h => (f135_run x.1 x.2.1).trans h

noncomputable def f120_l0_cut : Cut := { keep := [2, 4, 7, 8, 9], stk := [], ids := [20, 40], own := [], outs := [(1, [2, 4], [20, 40])] }
noncomputable def f120_cx (k : Nat) : Cx := mkC [] [(135, f135_con)] [] [] [(120, [(0, f120_l0_cut)])] k [] false
theorem f120_tabs (k : Nat) : TabsOk Tryz.prog (f120_cx k) := mkC_ok ⟨f135_conOk, trivial⟩ trivial trivial trivial
abbrev impl_mixed_sh : List Sh := [.pl (.arr 8 (.int .u32))]
noncomputable def f120_l0_s (a1 : T14) (x9 : Int) (y20 : (List Int)) : St := { env := (.dead :: .dead :: .ptr 20 (.arr 8 (.int .u32)) [] :: .dead :: .ptr 40 (.arr 8 (.int .u32)) [] :: .dead :: .dead :: .pv K21 a1 :: .pv (.int .i64) (a1.length : Int) :: .pv (.int .i64) x9 :: (dd 8 [])), stk := [], heap := [(20, .var (.arr 8 (.int .u32)) (.pv (.arr 8 (.int .u32)) y20)), (40, .var (.arr 8 (.int .u32)) (.pv (.arr 8 (.int .u32)) (List.replicate 8 (0 : Int))))] }
noncomputable def f120_l0_o0 (y20 : (List Int)) : St := { env := (.dead :: .dead :: .ptr 20 (.arr 8 (.int .u32)) [] :: .dead :: .ptr 40 (.arr 8 (.int .u32)) [] :: (dd 13 [])), stk := [], heap := [(20, .var (.arr 8 (.int .u32)) (.pv (.arr 8 (.int .u32)) y20)), (40, .var (.arr 8 (.int .u32)) (.pv (.arr 8 (.int .u32)) (List.replicate 8 (0 : Int))))] }
noncomputable def impl_mixed_l0_b (rec : Int → (List Int) → Option (shDen impl_mixed_sh)) (ke0 : (List Int) → Option (shDen impl_mixed_sh)) (a1 : T14) (x9 : Int) (y20 : (List Int)) : Option (shDen impl_mixed_sh) :=
 (cond (decide (x9 < (a1.length : Int)))
 (cond ((decide ((0 : Int) ≤ x9)) && (decide (x9 < (a1.length : Int))))
 (bindO (impl_MixBlock_r y20 (a1.getD (x9.toNat) (List.replicate 32 (0 : Int)))) fun (b2 : (List Int)) => (rec (IntKind.wrap .i64 (x9 + (1 : Int))) b2))
 none)
 (ke0 y20))
noncomputable def impl_mixed_l0_L (ke0 : (List Int) → Option (shDen impl_mixed_sh)) (a1 : T14) : Nat → Int → (List Int) → Option (shDen impl_mixed_sh)
 | 0 => fun _ _ => none
 | n + 1 => impl_mixed_l0_b (impl_mixed_l0_L ke0 a1 n) ke0 a1
noncomputable def impl_mixed_r (a0 : (List Int)) (a1 : T14) : Option (shDen impl_mixed_sh) :=
 (impl_mixed_l0_L (fun y20 => (some y20)) a1 FUEL (0 : Int) a0)
noncomputable def f120_l0_p (k : Nat) (K : Ex → St → Option (shDen impl_mixed_sh)) (n : Nat) (a1 : T14) (x9 : Int) (y20 : (List Int)) : Option (shDen impl_mixed_sh) := loopK (f120_cx k) 0 (execK (f120_cx k) (callK (f120_cx k) 8) 0 120 (sub f120_c [1, 0, 1, 0, 0])) f120_l0_cut K n (f120_l0_s a1 x9 y20)

theorem f120_l0_exit0 (k : Nat)  (y20 : (List Int)) : ((blkK 0 (seqK (execK (f120_cx k) (callK (f120_cx k) 8) 0 120 (sub f120_c [1, 1])) (finK (f120_cx k) f120_i impl_mixed_sh))) (.exit 0) (f120_l0_o0 y20) : Option (shDen impl_mixed_sh)) =
 ((some y20) : Option (shDen impl_mixed_sh)) := by kernel_rfl

theorem f120_l0_round (k : Nat) (K : Ex → St → Option (shDen impl_mixed_sh)) (n : Nat) (a1 : T14) (x9 : Int) (y20 : (List Int)) : (f120_l0_p k K (n + 1) a1 x9 y20 : Option (shDen impl_mixed_sh)) = impl_mixed_l0_b ((fun x9 y20 => f120_l0_p k K n a1 x9 y20)) (fun y20 => K (.exit 0) (f120_l0_o0 y20)) a1 x9 y20 := by kernel_rfl

theorem f120_l0_L_eq (K : Ex → St → Option (shDen impl_mixed_sh)) (a1 : T14) : ∀ (n : Nat) (x9 : Int) (y20 : (List Int)), (f120_l0_p FUEL K n a1 x9 y20 : Option (shDen impl_mixed_sh)) = impl_mixed_l0_L (fun y20 => K (.exit 0) (f120_l0_o0 y20)) a1 n x9 y20 := by
 intro n
 induction n with
 | zero => intros; rfl
 | succ n ih =>
  intro x9 y20
  exact (f120_l0_round FUEL K n a1 x9 y20).trans (congrArg (fun f => impl_mixed_l0_b f (fun y20 => K (.exit 0) (f120_l0_o0 y20)) a1 x9 y20) (funext fun x9 => funext fun y20 => ih x9 y20))

theorem f120_start (k : Nat) (a0 : (List Int)) (a1 : T14) : fnK (f120_cx k) 8 120 f120_i impl_mixed_sh [.pv (.arr 8 (.int .u32)) a0, .pv K21 a1] =
 ((loopK (f120_cx k) 0 (execK (f120_cx k) (callK (f120_cx k) 8) 0 120 (sub f120_c [1, 0, 1, 0, 0])) f120_l0_cut (blkK 0 (seqK (execK (f120_cx k) (callK (f120_cx k) 8) 0 120 (sub f120_c [1, 1])) (finK (f120_cx k) f120_i impl_mixed_sh))) k (f120_l0_s a1 (0 : Int) a0)) : Option (shDen impl_mixed_sh)) := by kernel_rfl

theorem f120_run (a0 : (List Int)) (a1 : T14) : fnK (f120_cx FUEL) 8 120 f120_i impl_mixed_sh [.pv (.arr 8 (.int .u32)) a0, .pv K21 a1] = impl_mixed_r a0 a1 :=
 (f120_start FUEL a0 a1).trans ((f120_l0_L_eq _ a1 FUEL (0 : Int) a0).trans (congrArg (fun e0 => impl_mixed_l0_L e0 a1 FUEL (0 : Int) a0) (funext fun y20 => (f120_l0_exit0 FUEL  y20).trans (rfl))))

noncomputable def f120_con : Con := { ps := (.pair (.arr 8 (.int .u32)) K17), sh := impl_mixed_sh, raw := fun x => impl_mixed_r x.1 x.2.1 }
theorem f120_conOk : ConOk Tryz.prog 120 f120_con := con_of_fn (f120_tabs FUEL) (depth := 8) f120_ok fun x y h => (f120_run x.1 x.2.1).trans h

end Go.Ai.G
