/- Made by a program of this work out of the program: tables and plain functions, with the proof that each Go function does what its plain function says. No conditions. -/
import Derived.Test.YtgchclimojffeaaGreatExactAnswerWantsFn0
namespace Go.Ai.G
open Go.Proofs
open Go.Ai
set_option linter.unusedVariables false
set_option linter.unusedSimpArgs false
set_option maxRecDepth 100000

noncomputable def f73_l0_cut : Cut := { keep := [3, 8, 9, 10], stk := [], ids := [90030], own := [(3, 90030, 34)], outs := [(1, [3], [90030])] }
noncomputable def f73_cx (k : Nat) : Cx := mkC [] [(85, f85_con)] [] [] [(73, [(0, f73_l0_cut)])] k [] false
theorem f73_tabs (k : Nat) : TabsOk Tryz.prog (f73_cx k) := mkC_ok ⟨f85_conOk, trivial⟩ trivial trivial trivial
abbrev impl_Store_keys_sh : List Sh := [.own 45 (.arr 32 (.int .u8))]
noncomputable def f73_l0_s (a0 : T2) (x10 : Int) (z90030 : T8) : St := { env := (dd 3 (.sl 90030 (.arr 32 (.int .u8)) :: (dd 4 (.pv K6 a0.1 :: .pv (.int .i64) (a0.1.length : Int) :: .pv (.int .i64) x10 :: (dd 10 []))))), stk := [], heap := [(90030, .arr 45 (.arr 32 (.int .u8)) z90030)] }
noncomputable def f73_l0_o0 (z90030 : T8) : St := { env := (dd 3 (.sl 90030 (.arr 32 (.int .u8)) :: (dd 17 []))), stk := [], heap := [(90030, .arr 45 (.arr 32 (.int .u8)) z90030)] }
noncomputable def impl_Store_keys_l0_b (rec : Int → T8 → Option (shDen impl_Store_keys_sh)) (ke0 : T8 → Option (shDen impl_Store_keys_sh)) (a0 : T2) (x10 : Int) (z90030 : T8) : Option (shDen impl_Store_keys_sh) :=
 (cond (decide (x10 < (a0.1.length : Int)))
 (cond ((decide ((0 : Int) ≤ x10)) && (decide (x10 < (a0.1.length : Int))))
 (bindO (impl_Blob_key_r (a0.1.getD (x10.toNat) ((0 : Int), ([], ())))) fun (b2 : (List Int)) => (cond (decide ((z90030.length + 1) * 32 ≤ 140737488355328) && decide (z90030.length + 1 ≤ 9223372036854775807))
 (rec (IntKind.wrap .i64 (x10 + (1 : Int))) (z90030 ++ [b2]))
 none))
 none)
 (ke0 z90030))
noncomputable def impl_Store_keys_l0_L (ke0 : T8 → Option (shDen impl_Store_keys_sh)) (a0 : T2) : Nat → Int → T8 → Option (shDen impl_Store_keys_sh)
 | 0 => fun _ _ => none
 | n + 1 => impl_Store_keys_l0_b (impl_Store_keys_l0_L ke0 a0 n) ke0 a0
noncomputable def impl_Store_keys_r (a0 : T2) : Option (shDen impl_Store_keys_sh) :=
 (impl_Store_keys_l0_L (fun z90030 => (some z90030)) a0 FUEL (0 : Int) [])
noncomputable def f73_l0_p (k : Nat) (K : Ex → St → Option (shDen impl_Store_keys_sh)) (n : Nat) (a0 : T2) (x10 : Int) (z90030 : T8) : Option (shDen impl_Store_keys_sh) := loopK (f73_cx k) 0 (execK (f73_cx k) (callK (f73_cx k) 8) 0 73 (sub f73_c [1, 1, 0, 1, 0, 0])) f73_l0_cut K n (f73_l0_s a0 x10 z90030)

theorem f73_l0_exit0 (k : Nat)  (z90030 : T8) : ((blkK 0 (seqK (execK (f73_cx k) (callK (f73_cx k) 8) 0 73 (sub f73_c [1, 1, 1])) (finK (f73_cx k) f73_i impl_Store_keys_sh))) (.exit 0) (f73_l0_o0 z90030) : Option (shDen impl_Store_keys_sh)) =
 ((some z90030) : Option (shDen impl_Store_keys_sh)) := by kernel_rfl

theorem f73_l0_round (k : Nat) (K : Ex → St → Option (shDen impl_Store_keys_sh)) (n : Nat) (a0 : T2) (x10 : Int) (z90030 : T8) : (f73_l0_p k K (n + 1) a0 x10 z90030 : Option (shDen impl_Store_keys_sh)) = impl_Store_keys_l0_b ((fun x10 z90030 => f73_l0_p k K n a0 x10 z90030)) (fun z90030 => K (.exit 0) (f73_l0_o0 z90030)) a0 x10 z90030 := by kernel_rfl

theorem f73_l0_L_eq (K : Ex → St → Option (shDen impl_Store_keys_sh)) (a0 : T2) : ∀ (n : Nat) (x10 : Int) (z90030 : T8), (f73_l0_p FUEL K n a0 x10 z90030 : Option (shDen impl_Store_keys_sh)) = impl_Store_keys_l0_L (fun z90030 => K (.exit 0) (f73_l0_o0 z90030)) a0 n x10 z90030 := by
 intro n
 induction n with
 | zero => intros; rfl
 | succ n ih =>
  intro x10 z90030
  exact (f73_l0_round FUEL K n a0 x10 z90030).trans (congrArg (fun f => impl_Store_keys_l0_b f (fun z90030 => K (.exit 0) (f73_l0_o0 z90030)) a0 x10 z90030) (funext fun x10 => funext fun z90030 => ih x10 z90030))

theorem f73_start (k : Nat) (a0 : T2) : fnK (f73_cx k) 8 73 f73_i impl_Store_keys_sh [.pv K3 a0] =
 ((loopK (f73_cx k) 0 (execK (f73_cx k) (callK (f73_cx k) 8) 0 73 (sub f73_c [1, 1, 0, 1, 0, 0])) f73_l0_cut (blkK 0 (seqK (execK (f73_cx k) (callK (f73_cx k) 8) 0 73 (sub f73_c [1, 1, 1])) (finK (f73_cx k) f73_i impl_Store_keys_sh))) k (f73_l0_s a0 (0 : Int) [])) : Option (shDen impl_Store_keys_sh)) := by kernel_rfl

theorem f73_run (a0 : T2) : fnK (f73_cx FUEL) 8 73 f73_i impl_Store_keys_sh [.pv K3 a0] = impl_Store_keys_r a0 :=
 (f73_start FUEL a0).trans ((f73_l0_L_eq _ a0 FUEL (0 : Int) []).trans (congrArg (fun e0 => impl_Store_keys_l0_L e0 a0 FUEL (0 : Int) []) (funext fun z90030 => (f73_l0_exit0 FUEL  z90030).trans (rfl))))

noncomputable def f73_con : Con := { ps := K2, sh := impl_Store_keys_sh, raw := fun x => impl_Store_keys_r x.1 }
theorem f73_conOk : ConOk Tryz.prog 73 f73_con := con_of_fn (f73_tabs FUEL) (depth := 8) f73_ok fun x y h => (f73_run x.1).trans h

noncomputable def f110_cx (k : Nat) : Cx := mkC [] [] [] [] [] k [] false
theorem f110_tabs (k : Nat) : TabsOk Tryz.prog (f110_cx k) := mkC_ok trivial trivial trivial trivial
abbrev slices_Clone_impl_Key_impl_Key_sh : List Sh := [.own 45 (.arr 32 (.int .u8))]
noncomputable def slices_Clone_impl_Key_impl_Key_r (a0 : T8) : Option (shDen slices_Clone_impl_Key_impl_Key_sh) :=
 (cond (List.isEmpty a0) (bothO (some []) (cond (decide ((0 + a0.length) * 32 ≤ 140737488355328) && decide (0 + a0.length ≤ 9223372036854775807))
 (some ([] ++ a0))
 none)) (cond (decide ((0 + a0.length) * 32 ≤ 140737488355328) && decide (0 + a0.length ≤ 9223372036854775807))
 (some ([] ++ a0))
 none))
theorem f110_run (a0 : T8) : fnK (f110_cx FUEL) 8 110 f110_i slices_Clone_impl_Key_impl_Key_sh [.pv K12 a0] = slices_Clone_impl_Key_impl_Key_r a0 := by kernel_rfl

noncomputable def f110_con : Con := { ps := K9, sh := slices_Clone_impl_Key_impl_Key_sh, raw := fun x => slices_Clone_impl_Key_impl_Key_r x.1 }
theorem f110_conOk : ConOk Tryz.prog 110 f110_con := con_of_fn (f110_tabs FUEL) (depth := 8) f110_ok fun x y h => (f110_run x.1).trans h

noncomputable def f149_cx (k : Nat) : Cx := mkC [] [] [] [] [] k [] false
theorem f149_tabs (k : Nat) : TabsOk Tryz.prog (f149_cx k) := mkC_ok trivial trivial trivial trivial
abbrev cmp_isNaN_byte_sh : List Sh := [.pl .bool]
noncomputable def cmp_isNaN_byte_r (a0 : Int) : Option (shDen cmp_isNaN_byte_sh) :=
 (some (!(decide (a0 = a0))))
theorem f149_run (a0 : Int) : fnK (f149_cx FUEL) 8 149 f149_i cmp_isNaN_byte_sh [.pv (.int .u8) a0] = cmp_isNaN_byte_r a0 := by kernel_rfl

noncomputable def f149_con : Con := { ps := K15, sh := cmp_isNaN_byte_sh, raw := fun x => cmp_isNaN_byte_r x.1 }
theorem f149_conOk : ConOk Tryz.prog 149 f149_con := con_of_fn (f149_tabs FUEL) (depth := 8) f149_ok fun x y h => (f149_run x.1).trans h

noncomputable def f132_cx (k : Nat) : Cx := mkC [] [(149, f149_con)] [] [] [] k [] false
theorem f132_tabs (k : Nat) : TabsOk Tryz.prog (f132_cx k) := mkC_ok ⟨f149_conOk, trivial⟩ trivial trivial trivial
abbrev cmp_Compare_byte_sh : List Sh := [.pl (.int .i64)]
noncomputable def cmp_Compare_byte_r (a0 : Int) (a1 : Int) : Option (shDen cmp_Compare_byte_sh) :=
 (bindO (cmp_isNaN_byte_r a0) fun (b1 : Bool) => (bindO (cmp_isNaN_byte_r a1) fun (b2 : Bool) => (cond b1
 (cond b2
 (some (0 : Int))
 (some (-1 : Int)))
 (cond b2
 (some (1 : Int))
 (cond (decide (a0 < a1))
 (some (-1 : Int))
 (cond (decide (a1 < a0))
 (some (1 : Int))
 (some (0 : Int))))))))
theorem f132_run (a0 : Int) (a1 : Int) : fnK (f132_cx FUEL) 8 132 f132_i cmp_Compare_byte_sh [.pv (.int .u8) a0, .pv (.int .u8) a1] = cmp_Compare_byte_r a0 a1 := by kernel_rfl

noncomputable def f132_con : Con := { ps := (.pair (.int .u8) K15), sh := cmp_Compare_byte_sh, raw := fun x => cmp_Compare_byte_r x.1 x.2.1 }
theorem f132_conOk : ConOk Tryz.prog 132 f132_con := con_of_fn (f132_tabs FUEL) (depth := 8) f132_ok fun x y h => (f132_run x.1 x.2.1).trans h

noncomputable def f113_l0_cut : Cut := { keep := [0, 1, 9, 10, 11], stk := [], ids := [], own := [], outs := [(0, [4], []), (1, [0, 1], [])] }
noncomputable def f113_cx (k : Nat) : Cx := mkC [] [(132, f132_con)] [] [] [(113, [(0, f113_l0_cut)])] k [] false
theorem f113_tabs (k : Nat) : TabsOk Tryz.prog (f113_cx k) := mkC_ok ⟨f132_conOk, trivial⟩ trivial trivial trivial
abbrev slices_Compare_byte_byte_sh : List Sh := [.pl (.int .i64)]
noncomputable def f113_l0_s (a0 : (List Int)) (a1 : (List Int)) (x11 : Int) : St := { env := (.pv K16 a0 :: .pv K16 a1 :: (dd 7 (.pv K16 a0 :: .pv (.int .i64) (a0.length : Int) :: .pv (.int .i64) x11 :: (dd 24 [])))), stk := [], heap := [] }
noncomputable def f113_l0_o (x4 : Int) : St := { env := (dd 4 (.pv (.int .i64) x4 :: (dd 31 []))), stk := [], heap := [] }
noncomputable def f113_l0_o0 (a0 : (List Int)) (a1 : (List Int)) : St := { env := (.pv K16 a0 :: .pv K16 a1 :: (dd 34 [])), stk := [], heap := [] }
noncomputable def slices_Compare_byte_byte_l0_b (rec : Int → Option (shDen slices_Compare_byte_byte_sh)) (kr : Int → Option (shDen slices_Compare_byte_byte_sh)) (ke0 : Option (shDen slices_Compare_byte_byte_sh)) (a0 : (List Int)) (a1 : (List Int)) (x11 : Int) : Option (shDen slices_Compare_byte_byte_sh) :=
 (cond (decide (x11 < (a0.length : Int)))
 (cond ((decide ((0 : Int) ≤ x11)) && (decide (x11 < (a0.length : Int))))
 (cond (decide ((a1.length : Int) ≤ x11))
 (kr (1 : Int))
 (cond ((decide ((0 : Int) ≤ x11)) && (decide (x11 < (a1.length : Int))))
 (bindO (cmp_Compare_byte_r (a0.getD (x11.toNat) (0 : Int)) (a1.getD (x11.toNat) (0 : Int))) fun (b2 : Int) => (cond (!(decide (b2 = (0 : Int))))
 (kr b2)
 (rec (IntKind.wrap .i64 (x11 + (1 : Int))))))
 none))
 none)
 (ke0))
noncomputable def slices_Compare_byte_byte_l0_L (kr : Int → Option (shDen slices_Compare_byte_byte_sh)) (ke0 : Option (shDen slices_Compare_byte_byte_sh)) (a0 : (List Int)) (a1 : (List Int)) : Nat → Int → Option (shDen slices_Compare_byte_byte_sh)
 | 0 => fun _ => none
 | n + 1 => slices_Compare_byte_byte_l0_b (slices_Compare_byte_byte_l0_L kr ke0 a0 a1 n) kr ke0 a0 a1
noncomputable def slices_Compare_byte_byte_r (a0 : (List Int)) (a1 : (List Int)) : Option (shDen slices_Compare_byte_byte_sh) :=
 (slices_Compare_byte_byte_l0_L (fun x4 => (some x4)) (cond (decide ((a0.length : Int) < (a1.length : Int)))
 (some (-1 : Int))
 (some (0 : Int))) a0 a1 FUEL (0 : Int))
noncomputable def f113_l0_p (k : Nat) (K : Ex → St → Option (shDen slices_Compare_byte_byte_sh)) (n : Nat) (a0 : (List Int)) (a1 : (List Int)) (x11 : Int) : Option (shDen slices_Compare_byte_byte_sh) := loopK (f113_cx k) 0 (execK (f113_cx k) (callK (f113_cx k) 8) 0 113 (sub f113_c [1, 0, 1, 0, 0])) f113_l0_cut K n (f113_l0_s a0 a1 x11)

theorem f113_l0_ret (k : Nat)  (x4 : Int) : ((blkK 0 (seqK (execK (f113_cx k) (callK (f113_cx k) 8) 0 113 (sub f113_c [1, 1])) (finK (f113_cx k) f113_i slices_Compare_byte_byte_sh))) .ret (f113_l0_o x4) : Option (shDen slices_Compare_byte_byte_sh)) =
 ((some x4) : Option (shDen slices_Compare_byte_byte_sh)) := by kernel_rfl

theorem f113_l0_exit0 (k : Nat)  (a0 : (List Int)) (a1 : (List Int)) : ((blkK 0 (seqK (execK (f113_cx k) (callK (f113_cx k) 8) 0 113 (sub f113_c [1, 1])) (finK (f113_cx k) f113_i slices_Compare_byte_byte_sh))) (.exit 0) (f113_l0_o0 a0 a1) : Option (shDen slices_Compare_byte_byte_sh)) =
 ((cond (decide ((a0.length : Int) < (a1.length : Int)))
 (some (-1 : Int))
 (some (0 : Int))) : Option (shDen slices_Compare_byte_byte_sh)) := by kernel_rfl

theorem f113_l0_round (k : Nat) (K : Ex → St → Option (shDen slices_Compare_byte_byte_sh)) (n : Nat) (a0 : (List Int)) (a1 : (List Int)) (x11 : Int) : (f113_l0_p k K (n + 1) a0 a1 x11 : Option (shDen slices_Compare_byte_byte_sh)) = slices_Compare_byte_byte_l0_b ((fun x11 => f113_l0_p k K n a0 a1 x11)) (fun x4 => K .ret (f113_l0_o x4)) (K (.exit 0) (f113_l0_o0 a0 a1)) a0 a1 x11 := by kernel_rfl

theorem f113_l0_L_eq (K : Ex → St → Option (shDen slices_Compare_byte_byte_sh)) (a0 : (List Int)) (a1 : (List Int)) : ∀ (n : Nat) (x11 : Int), (f113_l0_p FUEL K n a0 a1 x11 : Option (shDen slices_Compare_byte_byte_sh)) = slices_Compare_byte_byte_l0_L (fun x4 => K .ret (f113_l0_o x4)) (K (.exit 0) (f113_l0_o0 a0 a1)) a0 a1 n x11 := by
 intro n
 induction n with
 | zero => intros; rfl
 | succ n ih =>
  intro x11
  exact (f113_l0_round FUEL K n a0 a1 x11).trans (congrArg (fun f => slices_Compare_byte_byte_l0_b f (fun x4 => K .ret (f113_l0_o x4)) (K (.exit 0) (f113_l0_o0 a0 a1)) a0 a1 x11) (funext fun x11 => ih x11))

theorem f113_start (k : Nat) (a0 : (List Int)) (a1 : (List Int)) : fnK (f113_cx k) 8 113 f113_i slices_Compare_byte_byte_sh [.pv K16 a0, .pv K16 a1] =
 ((loopK (f113_cx k) 0 (execK (f113_cx k) (callK (f113_cx k) 8) 0 113 (sub f113_c [1, 0, 1, 0, 0])) f113_l0_cut (blkK 0 (seqK (execK (f113_cx k) (callK (f113_cx k) 8) 0 113 (sub f113_c [1, 1])) (finK (f113_cx k) f113_i slices_Compare_byte_byte_sh))) k (f113_l0_s a0 a1 (0 : Int))) : Option (shDen slices_Compare_byte_byte_sh)) := by kernel_rfl

theorem f113_run (a0 : (List Int)) (a1 : (List Int)) : fnK (f113_cx FUEL) 8 113 f113_i slices_Compare_byte_byte_sh [.pv K16 a0, .pv K16 a1] = slices_Compare_byte_byte_r a0 a1 :=
 (f113_start FUEL a0 a1).trans ((f113_l0_L_eq _ a0 a1 FUEL (0 : Int)).trans (cong2 (fun e0 e1 => slices_Compare_byte_byte_l0_L e0 e1 a0 a1 FUEL (0 : Int)) (funext fun x4 => (f113_l0_ret FUEL  x4).trans (rfl)) ( (f113_l0_exit0 FUEL  a0 a1).trans (rfl))))

noncomputable def f113_con : Con := { ps := (.pair K16 K11), sh := slices_Compare_byte_byte_sh, raw := fun x => slices_Compare_byte_byte_r x.1 x.2.1 }
theorem f113_conOk : ConOk Tryz.prog 113 f113_con := con_of_fn (f113_tabs FUEL) (depth := 8) f113_ok fun x y h => (f113_run x.1 x.2.1).trans h

noncomputable def f97_cx (k : Nat) : Cx := mkC [] [(113, f113_con)] [] [] [] k [] false
theorem f97_tabs (k : Nat) : TabsOk Tryz.prog (f97_cx k) := mkC_ok ⟨f113_conOk, trivial⟩ trivial trivial trivial
abbrev impl_compareKeys_sh : List Sh := [.pl (.int .i64)]
noncomputable def impl_compareKeys_r (a0 : (List Int)) (a1 : (List Int)) : Option (shDen impl_compareKeys_sh) :=
 (bindO (slices_Compare_byte_byte_r (cutL a0 0 32) (cutL a1 0 32)) fun (b1 : Int) => (some b1))
theorem f97_run (a0 : (List Int)) (a1 : (List Int)) : fnK (f97_cx FUEL) 8 97 f97_i impl_compareKeys_sh [.pv (.arr 32 (.int .u8)) a0, .pv (.arr 32 (.int .u8)) a1] = impl_compareKeys_r a0 a1 := by kernel_rfl

noncomputable def f97_con : Con := { ps := (.pair (.arr 32 (.int .u8)) K10), sh := impl_compareKeys_sh, raw := fun x => impl_compareKeys_r x.1 x.2.1 }
theorem f97_conOk : ConOk Tryz.prog 97 f97_con := con_of_fn (f97_tabs FUEL) (depth := 8) f97_ok fun x y h => (f97_run x.1 x.2.1).trans h

noncomputable def slices_SortFunc_impl_Key_impl_Key_r (a0 : List (List Int)) (a1 : Unit) : Option (List (List Int) × Unit) := sortFR 32 .u8 (fun x y => impl_compareKeys_r x y) a0
noncomputable def f111_inp : ConI := sortFC 45 97 32 .u8 (fun x y => impl_compareKeys_r x y)
theorem f111_inpOk : InpOk Tryz.prog 111 f111_inp := sortF_inp Tryz.laysSortF111 (by decide) rfl ((tab_mk tabs_ok (fun _ => none) (fun _ => none) (fun _ => none) (fun _ => none) (fun _ _ => none) 0 [] false).c.ty 45 _ rfl) f97_ok f97_conOk rfl rfl f111_ok

noncomputable def f112_l0_cut : Cut := { keep := [0, 3], stk := [], ids := [8], own := [], outs := [(1, [0], [8]), (0, [2], [8])] }
noncomputable def f112_l1_cut : Cut := { keep := [0, 3, 4, 5], stk := [], ids := [8], own := [], outs := [(3, [0, 3], [8])] }
noncomputable def f112_cx (k : Nat) : Cx := mkC [] [] [] [] [(112, [(0, f112_l0_cut), (2, f112_l1_cut)])] k [] false
theorem f112_tabs (k : Nat) : TabsOk Tryz.prog (f112_cx k) := mkC_ok trivial trivial trivial trivial
noncomputable def f112_l0_s (a0 : T8) (x3 : Int) : St := { env := (.sl 8 (.arr 32 (.int .u8)) :: .dead :: .dead :: .pv (.int .i64) x3 :: (dd 57 [])), stk := [], heap := [(8, .arr 45 (.arr 32 (.int .u8)) a0)] }
noncomputable def f112_l0_o0 (a0 : T8) : St := { env := (.sl 8 (.arr 32 (.int .u8)) :: (dd 60 [])), stk := [], heap := [(8, .arr 45 (.arr 32 (.int .u8)) a0)] }
noncomputable def f112_l0_o (x2v : Nat) (z8 : T8) : St := { env := (.dead :: .dead :: .vw 8 K12 [] (.arr 32 (.int .u8)) 0 x2v :: (dd 58 [])), stk := [], heap := [(8, .arr 45 (.arr 32 (.int .u8)) z8)] }
noncomputable def f112_l1_s (a0 : T8) (x3 : Int) (x5 : Int) (z8 : T8) (x4u : Nat) : St := { env := (.sl 8 (.arr 32 (.int .u8)) :: .dead :: .dead :: .pv (.int .i64) x3 :: .vw 8 K12 [] (.arr 32 (.int .u8)) x4u (a0.length) :: .pv (.int .i64) x5 :: (dd 55 [])), stk := [], heap := [(8, .arr 45 (.arr 32 (.int .u8)) z8)] }
noncomputable def f112_l1_o2 (x3 : Int) (z8 : T8) : St := { env := (.sl 8 (.arr 32 (.int .u8)) :: .dead :: .dead :: .pv (.int .i64) x3 :: (dd 57 [])), stk := [], heap := [(8, .arr 45 (.arr 32 (.int .u8)) z8)] }
noncomputable def slices_Compact_impl_Key_impl_Key_l1_b (rec : Int → Int → T8 → Nat → Option T8) (ke2 : Int → T8 → Option T8) (a0 : T8) (x3 : Int) (x5 : Int) (z8 : T8) (x4u : Nat) : Option T8 :=
 (cond (decide (x5 < (((a0.length) - x4u : Nat) : Int)))
 (cond ((decide ((0 : Int) ≤ x5)) && (decide (x5 < (((a0.length) - x4u : Nat) : Int))))
 (cond ((decide ((0 : Int) ≤ (IntKind.wrap .i64 (x5 - (1 : Int))))) && (decide ((IntKind.wrap .i64 (x5 - (1 : Int))) < (((a0.length) - x4u : Nat) : Int))))
 (cond (!(eqd (.arr 32 (.int .u8)) (z8.getD (x4u + (x5.toNat)) (List.replicate 32 (0 : Int))) (z8.getD (x4u + ((IntKind.wrap .i64 (x5 - (1 : Int))).toNat)) (List.replicate 32 (0 : Int)))))
 (cond ((decide ((0 : Int) ≤ x5)) && (decide (x5 < (((a0.length) - x4u : Nat) : Int))))
 (cond ((decide ((0 : Int) ≤ x3)) && (decide (x3 < (z8.length : Int))))
 (rec (IntKind.wrap .i64 (x3 + (1 : Int))) (IntKind.wrap .i64 (x5 + (1 : Int))) (z8.set (x3.toNat) (z8.getD (x4u + (x5.toNat)) (List.replicate 32 (0 : Int)))) x4u)
 none)
 none)
 (rec x3 (IntKind.wrap .i64 (x5 + (1 : Int))) z8 x4u))
 none)
 none)
 (ke2 x3 z8))
noncomputable def slices_Compact_impl_Key_impl_Key_l1_L (ke2 : Int → T8 → Option T8) (a0 : T8) : Nat → Int → Int → T8 → Nat → Option T8
 | 0 => fun _ _ _ _ => none
 | n + 1 => slices_Compact_impl_Key_impl_Key_l1_b (slices_Compact_impl_Key_impl_Key_l1_L ke2 a0 n) ke2 a0
noncomputable def slices_Compact_impl_Key_impl_Key_l0_b (rec : Int → Option T8) (ke0 : Option T8) (kr : Nat → T8 → Option T8) (a0 : T8) (x3 : Int) : Option T8 :=
 (cond (decide (x3 < (a0.length : Int)))
 (cond ((decide ((0 : Int) ≤ x3)) && (decide (x3 < (a0.length : Int))))
 (cond ((decide ((0 : Int) ≤ (IntKind.wrap .i64 (x3 - (1 : Int))))) && (decide ((IntKind.wrap .i64 (x3 - (1 : Int))) < (a0.length : Int))))
 (cond (eqd (.arr 32 (.int .u8)) (a0.getD (x3.toNat) (List.replicate 32 (0 : Int))) (a0.getD ((IntKind.wrap .i64 (x3 - (1 : Int))).toNat) (List.replicate 32 (0 : Int))))
 (cond ((decide ((0 : Int) ≤ x3)) && (decide (x3 ≤ (a0.length : Int))))
 (slices_Compact_impl_Key_impl_Key_l1_L (fun x3 z8 => (cond ((decide ((0 : Int) ≤ x3)) && (decide (x3 ≤ (z8.length : Int))))
 (cond ((decide ((0 : Int) ≤ x3)) && (decide (x3 ≤ ((splL z8 (x3.toNat) (List.take ((z8.length) - (x3.toNat)) (List.replicate ((z8.length) - (x3.toNat)) (List.replicate 32 (0 : Int))))).length : Int))))
 (kr (x3.toNat) (splL z8 (x3.toNat) (List.take ((z8.length) - (x3.toNat)) (List.replicate ((z8.length) - (x3.toNat)) (List.replicate 32 (0 : Int))))))
 none)
 none)) a0 FUEL x3 (1 : Int) a0 (x3.toNat))
 none)
 (rec (IntKind.wrap .i64 (x3 + (1 : Int)))))
 none)
 none)
 (ke0))
noncomputable def slices_Compact_impl_Key_impl_Key_l0_L (ke0 : Option T8) (kr : Nat → T8 → Option T8) (a0 : T8) : Nat → Int → Option T8
 | 0 => fun _ => none
 | n + 1 => slices_Compact_impl_Key_impl_Key_l0_b (slices_Compact_impl_Key_impl_Key_l0_L ke0 kr a0 n) ke0 kr a0
noncomputable def slices_Compact_impl_Key_impl_Key_r (a0 : T8) : Option T8 :=
 (cond (decide ((a0.length : Int) < (2 : Int)))
 (some a0)
 (slices_Compact_impl_Key_impl_Key_l0_L (some a0) (fun x2v z8 => (some (List.take x2v z8))) a0 FUEL (1 : Int)))
noncomputable def f112_l1_p (k : Nat) (K : Ex → St → Option T8) (n : Nat) (a0 : T8) (x3 : Int) (x5 : Int) (z8 : T8) (x4u : Nat) : Option T8 := loopK (f112_cx k) 0 (execK (f112_cx k) (callK (f112_cx k) 8) 0 112 (sub f112_c [1, 1, 0, 1, 0, 0, 1, 0, 0, 1, 0, 1, 0, 1, 0, 0])) f112_l1_cut K n (f112_l1_s a0 x3 x5 z8 x4u)

theorem f112_l1_exit2 (k : Nat) (K : Ex → St → Option T8) (n : Nat) (x3 : Int) (z8 : T8) : ((blkK 2 (seqK (execK (f112_cx k) (callK (f112_cx k) 8) 0 112 (sub f112_c [1, 1, 0, 1, 0, 0, 1, 0, 0, 1, 0, 1, 1])) (blkK 1 (seqK (execK (f112_cx k) (callK (f112_cx k) 8) 0 112 (sub f112_c [1, 1, 0, 1, 0, 0, 1, 1])) (iterK (f112_cx k) 0 f112_l0_cut (loopK (f112_cx k) 0 (execK (f112_cx k) (callK (f112_cx k) 8) 0 112 (sub f112_c [1, 1, 0, 1, 0, 0])) f112_l0_cut K n) K))))) (.exit 2) (f112_l1_o2 x3 z8) : Option T8) =
 ((cond ((decide ((0 : Int) ≤ x3)) && (decide (x3 ≤ (z8.length : Int))))
 (cond ((decide ((0 : Int) ≤ x3)) && (decide (x3 ≤ ((splL z8 (x3.toNat) (List.take ((z8.length) - (x3.toNat)) (List.replicate ((z8.length) - (x3.toNat)) (List.replicate 32 (0 : Int))))).length : Int))))
 (K .ret (f112_l0_o (x3.toNat) (splL z8 (x3.toNat) (List.take ((z8.length) - (x3.toNat)) (List.replicate ((z8.length) - (x3.toNat)) (List.replicate 32 (0 : Int)))))))
 none)
 none) : Option T8) := by kernel_rfl

theorem f112_l1_round (k : Nat) (K : Ex → St → Option T8) (n : Nat) (a0 : T8) (x3 : Int) (x5 : Int) (z8 : T8) (x4u : Nat) : (f112_l1_p k K (n + 1) a0 x3 x5 z8 x4u : Option T8) = slices_Compact_impl_Key_impl_Key_l1_b ((fun x3 x5 z8 x4u => f112_l1_p k K n a0 x3 x5 z8 x4u)) (fun x3 z8 => K (.exit 2) (f112_l1_o2 x3 z8)) a0 x3 x5 z8 x4u := by kernel_rfl

theorem f112_l1_L_eq (K : Ex → St → Option T8) (a0 : T8) : ∀ (n : Nat) (x3 : Int) (x5 : Int) (z8 : T8) (x4u : Nat), (f112_l1_p FUEL K n a0 x3 x5 z8 x4u : Option T8) = slices_Compact_impl_Key_impl_Key_l1_L (fun x3 z8 => K (.exit 2) (f112_l1_o2 x3 z8)) a0 n x3 x5 z8 x4u := by
 intro n
 induction n with
 | zero => intros; rfl
 | succ n ih =>
  intro x3 x5 z8 x4u
  exact (f112_l1_round FUEL K n a0 x3 x5 z8 x4u).trans (congrArg (fun f => slices_Compact_impl_Key_impl_Key_l1_b f (fun x3 z8 => K (.exit 2) (f112_l1_o2 x3 z8)) a0 x3 x5 z8 x4u) (funext fun x3 => funext fun x5 => funext fun z8 => funext fun x4u => ih x3 x5 z8 x4u))

noncomputable def f112_l0_p (k : Nat) (K : Ex → St → Option T8) (n : Nat) (a0 : T8) (x3 : Int) : Option T8 := loopK (f112_cx k) 0 (execK (f112_cx k) (callK (f112_cx k) 8) 0 112 (sub f112_c [1, 1, 0, 1, 0, 0])) f112_l0_cut K n (f112_l0_s a0 x3)

theorem f112_l0_round (k : Nat) (K : Ex → St → Option T8) (n : Nat) (a0 : T8) (x3 : Int) : (f112_l0_p k K (n + 1) a0 x3 : Option T8) =
 ((cond (decide (x3 < (a0.length : Int)))
 (cond ((decide ((0 : Int) ≤ x3)) && (decide (x3 < (a0.length : Int))))
 (cond ((decide ((0 : Int) ≤ (IntKind.wrap .i64 (x3 - (1 : Int))))) && (decide ((IntKind.wrap .i64 (x3 - (1 : Int))) < (a0.length : Int))))
 (cond (eqd (.arr 32 (.int .u8)) (a0.getD (x3.toNat) (List.replicate 32 (0 : Int))) (a0.getD ((IntKind.wrap .i64 (x3 - (1 : Int))).toNat) (List.replicate 32 (0 : Int))))
 (cond ((decide ((0 : Int) ≤ x3)) && (decide (x3 ≤ (a0.length : Int))))
 (loopK (f112_cx k) 0 (execK (f112_cx k) (callK (f112_cx k) 8) 0 112 (sub f112_c [1, 1, 0, 1, 0, 0, 1, 0, 0, 1, 0, 1, 0, 1, 0, 0])) f112_l1_cut (blkK 2 (seqK (execK (f112_cx k) (callK (f112_cx k) 8) 0 112 (sub f112_c [1, 1, 0, 1, 0, 0, 1, 0, 0, 1, 0, 1, 1])) (blkK 1 (seqK (execK (f112_cx k) (callK (f112_cx k) 8) 0 112 (sub f112_c [1, 1, 0, 1, 0, 0, 1, 1])) (iterK (f112_cx k) 0 f112_l0_cut (loopK (f112_cx k) 0 (execK (f112_cx k) (callK (f112_cx k) 8) 0 112 (sub f112_c [1, 1, 0, 1, 0, 0])) f112_l0_cut K n) K))))) k (f112_l1_s a0 x3 (1 : Int) a0 (x3.toNat)))
 none)
 (loopK (f112_cx k) 0 (execK (f112_cx k) (callK (f112_cx k) 8) 0 112 (sub f112_c [1, 1, 0, 1, 0, 0])) f112_l0_cut K n (f112_l0_s a0 (IntKind.wrap .i64 (x3 + (1 : Int))))))
 none)
 none)
 (K (.exit 0) (f112_l0_o0 a0))) : Option T8) := by kernel_rfl

theorem f112_l0_exit0 (k : Nat)  (a0 : T8) : ((blkK 0 (seqK (execK (f112_cx k) (callK (f112_cx k) 8) 0 112 (sub f112_c [1, 1, 1])) (finTK (f112_cx k) f112_i 45 (.arr 32 (.int .u8))))) (.exit 0) (f112_l0_o0 a0) : Option T8) =
 ((some a0) : Option T8) := by kernel_rfl

theorem f112_l0_ret (k : Nat)  (x2v : Nat) (z8 : T8) : ((blkK 0 (seqK (execK (f112_cx k) (callK (f112_cx k) 8) 0 112 (sub f112_c [1, 1, 1])) (finTK (f112_cx k) f112_i 45 (.arr 32 (.int .u8))))) .ret (f112_l0_o x2v z8) : Option T8) =
 ((some (List.take x2v z8)) : Option T8) := by kernel_rfl

theorem f112_l0_L_eq (K : Ex → St → Option T8) (a0 : T8) : ∀ (n : Nat) (x3 : Int), (f112_l0_p FUEL K n a0 x3 : Option T8) = slices_Compact_impl_Key_impl_Key_l0_L (K (.exit 0) (f112_l0_o0 a0)) (fun x2v z8 => K .ret (f112_l0_o x2v z8)) a0 n x3 := by
 intro n
 induction n with
 | zero => intros; rfl
 | succ n ih =>
  intro x3
  exact (f112_l0_round FUEL K n a0 x3).trans (condC (condC (condC (condC (condC ((f112_l1_L_eq _ a0 FUEL x3 (1 : Int) a0 (x3.toNat)).trans (congrArg (fun e0 => slices_Compact_impl_Key_impl_Key_l1_L e0 a0 FUEL x3 (1 : Int) a0 (x3.toNat)) (funext fun x3 => funext fun z8 => (f112_l1_exit2 FUEL K n x3 z8).trans (condC (condC (rfl) (rfl)) (rfl))))) (rfl)) (ih (IntKind.wrap .i64 (x3 + (1 : Int))))) (rfl)) (rfl)) (rfl))

theorem f112_start (k : Nat) (a0 : T8) : fnTK (f112_cx k) 8 112 f112_i 45 (.arr 32 (.int .u8)) a0 [] =
 ((cond (decide ((a0.length : Int) < (2 : Int)))
 (some a0)
 (loopK (f112_cx k) 0 (execK (f112_cx k) (callK (f112_cx k) 8) 0 112 (sub f112_c [1, 1, 0, 1, 0, 0])) f112_l0_cut (blkK 0 (seqK (execK (f112_cx k) (callK (f112_cx k) 8) 0 112 (sub f112_c [1, 1, 1])) (finTK (f112_cx k) f112_i 45 (.arr 32 (.int .u8))))) k (f112_l0_s a0 (1 : Int)))) : Option T8) := by kernel_rfl

theorem f112_run (a0 : T8) : fnTK (f112_cx FUEL) 8 112 f112_i 45 (.arr 32 (.int .u8)) a0 [] = slices_Compact_impl_Key_impl_Key_r a0 :=
 (f112_start FUEL a0).trans (condC (rfl) ((f112_l0_L_eq _ a0 FUEL (1 : Int)).trans (cong2 (fun e0 e1 => slices_Compact_impl_Key_impl_Key_l0_L e0 e1 a0 FUEL (1 : Int)) ( (f112_l0_exit0 FUEL  a0).trans (rfl)) (funext fun x2v => funext fun z8 => (f112_l0_ret FUEL  x2v z8).trans (rfl)))))

noncomputable def f112_tak : ConT := { E := 45, e := (.arr 32 (.int .u8)), ps := .unit, raw := fun x q => slices_Compact_impl_Key_impl_Key_r x  }
theorem f112_takOk : TakOk Tryz.prog 112 f112_tak := tak_of_fn (f112_tabs FUEL) (depth := 8) f112_ok rfl fun xs q z h => (f112_run xs ).trans h

noncomputable def f95_cx (k : Nat) : Cx := mkC [] [(110, f110_con)] [(112, f112_tak)] [(111, f111_inp)] [] k [] false
theorem f95_tabs (k : Nat) : TabsOk Tryz.prog (f95_cx k) := mkC_ok ⟨f110_conOk, trivial⟩ ⟨f112_takOk, trivial⟩ ⟨f111_inpOk, trivial⟩ trivial
abbrev impl_sorted_sh : List Sh := [.own 45 (.arr 32 (.int .u8))]
noncomputable def impl_sorted_r (a0 : T8) : Option (shDen impl_sorted_sh) :=
 (bindO (slices_Clone_impl_Key_impl_Key_r a0) fun (b1 : T8) => (bindO (slices_SortFunc_impl_Key_impl_Key_r b1 ()) fun (b2 : T6) => (bindO (slices_Compact_impl_Key_impl_Key_r b2.1) fun (b3 : T8) => (some b3))))
theorem f95_run (a0 : T8) : fnK (f95_cx FUEL) 8 95 f95_i impl_sorted_sh [.pv K12 a0] = impl_sorted_r a0 := by kernel_rfl

noncomputable def f95_con : Con := { ps := K9, sh := impl_sorted_sh, raw := fun x => impl_sorted_r x.1 }
theorem f95_conOk : ConOk Tryz.prog 95 f95_con := con_of_fn (f95_tabs FUEL) (depth := 8) f95_ok fun x y h => (f95_run x.1).trans h

noncomputable def f72_l0_cut : Cut := { keep := [0, 1, 7, 8], stk := [[], [1, 8]], ids := [10], own := [], outs := [(0, [4], [10]), (1, [], [10])] }
noncomputable def f72_l1_cut : Cut := { keep := [0, 1, 5], stk := [[21]], ids := [140], own := [], outs := [(0, [4], []), (1, [], [])] }
noncomputable def f72_cx (k : Nat) : Cx := mkC [(54, f54_i), (84, f84_i), (96, f96_i)] [(73, f73_con), (94, f94_con), (95, f95_con), (97, f97_con)] [] [] [(720011005400070084, [(0, f72_l0_cut)]), (7200230096, [(0, f72_l1_cut)])] k [] false
theorem f72_tabs (k : Nat) : TabsOk Tryz.prog (f72_cx k) := mkC_ok ⟨f73_conOk, f94_conOk, f95_conOk, f97_conOk, trivial⟩ trivial trivial ⟨f54_ok, f84_ok, f96_ok, trivial⟩
abbrev impl_ValidStore_sh : List Sh := [.pl .bool]
noncomputable def f72_l0_s (a0 : T2) (x8 : Int) : St := { env := (.pv K6 a0.1 :: .fn 94 (.pv .unit ()) :: (dd 5 (.pv (.int .i64) (a0.1.length : Int) :: .pv (.int .i64) x8 :: (dd 10 [])))), stk := [(dd 9 []), (.dead :: .ptr 10 K3 [] :: (dd 6 (.pv .bool false :: (dd 16 []))))], heap := [(10, .var K3 (.pv K3 a0))] }
noncomputable def f72_l0_o (a0 : T2) (x4 : Int) : St := { env := (dd 4 (.pv (.int .i64) x4 :: (dd 14 []))), stk := [(dd 9 []), (.dead :: .ptr 10 K3 [] :: (dd 6 (.pv .bool false :: (dd 16 []))))], heap := [(10, .var K3 (.pv K3 a0))] }
noncomputable def f72_l0_o0 (a0 : T2) : St := { env := (dd 19 []), stk := [(dd 9 []), (.dead :: .ptr 10 K3 [] :: (dd 6 (.pv .bool false :: (dd 16 []))))], heap := [(10, .var K3 (.pv K3 a0))] }
noncomputable def f72_l1_s (a0 : T2) (x5 : Int) (z140 : T8) (z160 : T8) : St := { env := (.sl 140 (.arr 32 (.int .u8)) :: .fn 97 (.pv .unit ()) :: (dd 3 (.pv (.int .i64) x5 :: (dd 19 [])))), stk := [(dd 21 (.pv .bool true :: (dd 3 [])))], heap := [(10, .var K3 (.pv K3 a0)), (140, .arr 45 (.arr 32 (.int .u8)) z140), (160, .arr 45 (.arr 32 (.int .u8)) z160)] }
noncomputable def f72_l1_o (a0 : T2) (z140 : T8) (z160 : T8) : St := { env := (dd 4 (.pv .bool false :: (dd 20 []))), stk := [(dd 21 (.pv .bool true :: (dd 3 [])))], heap := [(10, .var K3 (.pv K3 a0)), (140, .arr 45 (.arr 32 (.int .u8)) z140), (160, .arr 45 (.arr 32 (.int .u8)) z160)] }
noncomputable def f72_l1_o0 (a0 : T2) (z140 : T8) (z160 : T8) : St := { env := (dd 25 []), stk := [(dd 21 (.pv .bool true :: (dd 3 [])))], heap := [(10, .var K3 (.pv K3 a0)), (140, .arr 45 (.arr 32 (.int .u8)) z140), (160, .arr 45 (.arr 32 (.int .u8)) z160)] }
noncomputable def impl_ValidStore_l1_b (rec : Int → T8 → T8 → Option (shDen impl_ValidStore_sh)) (kr : T8 → T8 → Option (shDen impl_ValidStore_sh)) (ke0 : T8 → T8 → Option (shDen impl_ValidStore_sh)) (a0 : T2) (x5 : Int) (z140 : T8) (z160 : T8) : Option (shDen impl_ValidStore_sh) :=
 (cond (decide ((0 : Int) < x5))
 (cond ((decide ((0 : Int) ≤ x5)) && (decide (x5 < (z140.length : Int))))
 (cond ((decide ((0 : Int) ≤ (IntKind.wrap .i64 (x5 - (1 : Int))))) && (decide ((IntKind.wrap .i64 (x5 - (1 : Int))) < (z140.length : Int))))
 (bindO (impl_compareKeys_r (z140.getD (x5.toNat) (List.replicate 32 (0 : Int))) (z140.getD ((IntKind.wrap .i64 (x5 - (1 : Int))).toNat) (List.replicate 32 (0 : Int)))) fun (b7 : Int) => (cond (decide (b7 < (0 : Int)))
 (kr z140 z160)
 (rec (IntKind.wrap .i64 (x5 - (1 : Int))) z140 z160)))
 none)
 none)
 (ke0 z140 z160))
noncomputable def impl_ValidStore_l1_L (kr : T8 → T8 → Option (shDen impl_ValidStore_sh)) (ke0 : T8 → T8 → Option (shDen impl_ValidStore_sh)) (a0 : T2) : Nat → Int → T8 → T8 → Option (shDen impl_ValidStore_sh)
 | 0 => fun _ _ _ => none
 | n + 1 => impl_ValidStore_l1_b (impl_ValidStore_l1_L kr ke0 a0 n) kr ke0 a0
noncomputable def impl_ValidStore_l0_b (rec : Int → Option (shDen impl_ValidStore_sh)) (kr : Int → Option (shDen impl_ValidStore_sh)) (ke0 : Option (shDen impl_ValidStore_sh)) (a0 : T2) (x8 : Int) : Option (shDen impl_ValidStore_sh) :=
 (cond (decide (x8 < (a0.1.length : Int)))
 (cond ((decide ((0 : Int) ≤ x8)) && (decide (x8 < (a0.1.length : Int))))
 (bindO (impl_ValidStore_1_r (a0.1.getD (x8.toNat) ((0 : Int), ([], ())))) fun (b2 : Bool) => (cond b2
 (kr x8)
 (rec (IntKind.wrap .i64 (x8 + (1 : Int))))))
 none)
 (ke0))
noncomputable def impl_ValidStore_l0_L (kr : Int → Option (shDen impl_ValidStore_sh)) (ke0 : Option (shDen impl_ValidStore_sh)) (a0 : T2) : Nat → Int → Option (shDen impl_ValidStore_sh)
 | 0 => fun _ => none
 | n + 1 => impl_ValidStore_l0_b (impl_ValidStore_l0_L kr ke0 a0 n) kr ke0 a0
noncomputable def impl_ValidStore_r (a0 : T2) : Option (shDen impl_ValidStore_sh) :=
 (cond (decide ((128 : Int) < (a0.1.length : Int)))
 (some false)
 (impl_ValidStore_l0_L (fun x4 => (cond (decide ((0 : Int) ≤ x4))
 (some false)
 (bindO (impl_Store_keys_r a0) fun (b3 : T8) => (bindO (impl_sorted_r b3) fun (b4 : T8) => (cond (decide ((b4.length : Int) = (b3.length : Int)))
 (impl_ValidStore_l1_L (fun z140 z160 => (some false)) (fun z140 z160 => (some true)) a0 FUEL (IntKind.wrap .i64 ((b3.length : Int) - (1 : Int))) b3 b4)
 (some false)))))) (bindO (impl_Store_keys_r a0) fun (b5 : T8) => (bindO (impl_sorted_r b5) fun (b6 : T8) => (cond (decide ((b6.length : Int) = (b5.length : Int)))
 (impl_ValidStore_l1_L (fun z140 z160 => (some false)) (fun z140 z160 => (some true)) a0 FUEL (IntKind.wrap .i64 ((b5.length : Int) - (1 : Int))) b5 b6)
 (some false)))) a0 FUEL (0 : Int)))
noncomputable def f72_l1_p (k : Nat) (K : Ex → St → Option (shDen impl_ValidStore_sh)) (n : Nat) (a0 : T2) (x5 : Int) (z140 : T8) (z160 : T8) : Option (shDen impl_ValidStore_sh) := loopK (f72_cx k) 1 (execK (f72_cx k) (callK (f72_cx k) 7) 1 7200230096 (sub f96_c [1, 0, 1, 0, 0])) f72_l1_cut K n (f72_l1_s a0 x5 z140 z160)

theorem f72_l1_ret (k : Nat)  (a0 : T2) (z140 : T8) (z160 : T8) : ((blkK 0 (seqK (execK (f72_cx k) (callK (f72_cx k) 7) 1 7200230096 (sub f96_c [1, 1])) (retK (f72_cx k) f96_i (some 23) 0 (opsRest (f72_cx k) (callK (f72_cx k) 8) 0 72 false (regOps (sub f72_c [1, 1, 1, 0])) 8 (seqK (execK (f72_cx k) (callK (f72_cx k) 8) 0 72 (sub f72_c [1, 1, 1, 1])) (finK (f72_cx k) f72_i impl_ValidStore_sh)))))) .ret (f72_l1_o a0 z140 z160) : Option (shDen impl_ValidStore_sh)) =
 ((some false) : Option (shDen impl_ValidStore_sh)) := by kernel_rfl

theorem f72_l1_exit0 (k : Nat)  (a0 : T2) (z140 : T8) (z160 : T8) : ((blkK 0 (seqK (execK (f72_cx k) (callK (f72_cx k) 7) 1 7200230096 (sub f96_c [1, 1])) (retK (f72_cx k) f96_i (some 23) 0 (opsRest (f72_cx k) (callK (f72_cx k) 8) 0 72 false (regOps (sub f72_c [1, 1, 1, 0])) 8 (seqK (execK (f72_cx k) (callK (f72_cx k) 8) 0 72 (sub f72_c [1, 1, 1, 1])) (finK (f72_cx k) f72_i impl_ValidStore_sh)))))) (.exit 0) (f72_l1_o0 a0 z140 z160) : Option (shDen impl_ValidStore_sh)) =
 ((some true) : Option (shDen impl_ValidStore_sh)) := by kernel_rfl

theorem f72_l1_round (k : Nat) (K : Ex → St → Option (shDen impl_ValidStore_sh)) (n : Nat) (a0 : T2) (x5 : Int) (z140 : T8) (z160 : T8) : (f72_l1_p k K (n + 1) a0 x5 z140 z160 : Option (shDen impl_ValidStore_sh)) = impl_ValidStore_l1_b ((fun x5 z140 z160 => f72_l1_p k K n a0 x5 z140 z160)) (fun z140 z160 => K .ret (f72_l1_o a0 z140 z160)) (fun z140 z160 => K (.exit 0) (f72_l1_o0 a0 z140 z160)) a0 x5 z140 z160 := by kernel_rfl

theorem f72_l1_L_eq (K : Ex → St → Option (shDen impl_ValidStore_sh)) (a0 : T2) : ∀ (n : Nat) (x5 : Int) (z140 : T8) (z160 : T8), (f72_l1_p FUEL K n a0 x5 z140 z160 : Option (shDen impl_ValidStore_sh)) = impl_ValidStore_l1_L (fun z140 z160 => K .ret (f72_l1_o a0 z140 z160)) (fun z140 z160 => K (.exit 0) (f72_l1_o0 a0 z140 z160)) a0 n x5 z140 z160 := by
 intro n
 induction n with
 | zero => intros; rfl
 | succ n ih =>
  intro x5 z140 z160
  exact (f72_l1_round FUEL K n a0 x5 z140 z160).trans (congrArg (fun f => impl_ValidStore_l1_b f (fun z140 z160 => K .ret (f72_l1_o a0 z140 z160)) (fun z140 z160 => K (.exit 0) (f72_l1_o0 a0 z140 z160)) a0 x5 z140 z160) (funext fun x5 => funext fun z140 => funext fun z160 => ih x5 z140 z160))

noncomputable def f72_l0_p (k : Nat) (K : Ex → St → Option (shDen impl_ValidStore_sh)) (n : Nat) (a0 : T2) (x8 : Int) : Option (shDen impl_ValidStore_sh) := loopK (f72_cx k) 2 (execK (f72_cx k) (callK (f72_cx k) 6) 2 720011005400070084 (sub f84_c [1, 0, 1, 0, 0])) f72_l0_cut K n (f72_l0_s a0 x8)

theorem f72_l0_ret (k : Nat)  (a0 : T2) (x4 : Int) : ((blkK 0 (seqK (execK (f72_cx k) (callK (f72_cx k) 6) 2 720011005400070084 (sub f84_c [1, 1])) (retK (f72_cx k) f84_i (some 7) 1 (opsRest (f72_cx k) (callK (f72_cx k) 7) 1 7200110054 false (regOps (sub f54_c [1, 0])) 2 (seqK (execK (f72_cx k) (callK (f72_cx k) 7) 1 7200110054 (sub f54_c [1, 1])) (retK (f72_cx k) f54_i (some 11) 0 (opsRest (f72_cx k) (callK (f72_cx k) 8) 0 72 false (regOps (sub f72_c [1, 0, 0])) 7 (seqK (execK (f72_cx k) (callK (f72_cx k) 8) 0 72 (sub f72_c [1, 0, 1])) (seqK (execK (f72_cx k) (callK (f72_cx k) 8) 0 72 (sub f72_c [1, 1])) (finK (f72_cx k) f72_i impl_ValidStore_sh)))))))))) .ret (f72_l0_o a0 x4) : Option (shDen impl_ValidStore_sh)) =
 ((cond (decide ((0 : Int) ≤ x4))
 (some false)
 (bindO (impl_Store_keys_r a0) fun (b3 : T8) => (bindO (impl_sorted_r b3) fun (b4 : T8) => (cond (decide ((b4.length : Int) = (b3.length : Int)))
 (loopK (f72_cx k) 1 (execK (f72_cx k) (callK (f72_cx k) 7) 1 7200230096 (sub f96_c [1, 0, 1, 0, 0])) f72_l1_cut (blkK 0 (seqK (execK (f72_cx k) (callK (f72_cx k) 7) 1 7200230096 (sub f96_c [1, 1])) (retK (f72_cx k) f96_i (some 23) 0 (opsRest (f72_cx k) (callK (f72_cx k) 8) 0 72 false (regOps (sub f72_c [1, 1, 1, 0])) 8 (seqK (execK (f72_cx k) (callK (f72_cx k) 8) 0 72 (sub f72_c [1, 1, 1, 1])) (finK (f72_cx k) f72_i impl_ValidStore_sh)))))) k (f72_l1_s a0 (IntKind.wrap .i64 ((b3.length : Int) - (1 : Int))) b3 b4))
 (some false))))) : Option (shDen impl_ValidStore_sh)) := by kernel_rfl

theorem f72_l0_exit0 (k : Nat)  (a0 : T2) : ((blkK 0 (seqK (execK (f72_cx k) (callK (f72_cx k) 6) 2 720011005400070084 (sub f84_c [1, 1])) (retK (f72_cx k) f84_i (some 7) 1 (opsRest (f72_cx k) (callK (f72_cx k) 7) 1 7200110054 false (regOps (sub f54_c [1, 0])) 2 (seqK (execK (f72_cx k) (callK (f72_cx k) 7) 1 7200110054 (sub f54_c [1, 1])) (retK (f72_cx k) f54_i (some 11) 0 (opsRest (f72_cx k) (callK (f72_cx k) 8) 0 72 false (regOps (sub f72_c [1, 0, 0])) 7 (seqK (execK (f72_cx k) (callK (f72_cx k) 8) 0 72 (sub f72_c [1, 0, 1])) (seqK (execK (f72_cx k) (callK (f72_cx k) 8) 0 72 (sub f72_c [1, 1])) (finK (f72_cx k) f72_i impl_ValidStore_sh)))))))))) (.exit 0) (f72_l0_o0 a0) : Option (shDen impl_ValidStore_sh)) =
 ((bindO (impl_Store_keys_r a0) fun (b5 : T8) => (bindO (impl_sorted_r b5) fun (b6 : T8) => (cond (decide ((b6.length : Int) = (b5.length : Int)))
 (loopK (f72_cx k) 1 (execK (f72_cx k) (callK (f72_cx k) 7) 1 7200230096 (sub f96_c [1, 0, 1, 0, 0])) f72_l1_cut (blkK 0 (seqK (execK (f72_cx k) (callK (f72_cx k) 7) 1 7200230096 (sub f96_c [1, 1])) (retK (f72_cx k) f96_i (some 23) 0 (opsRest (f72_cx k) (callK (f72_cx k) 8) 0 72 false (regOps (sub f72_c [1, 1, 1, 0])) 8 (seqK (execK (f72_cx k) (callK (f72_cx k) 8) 0 72 (sub f72_c [1, 1, 1, 1])) (finK (f72_cx k) f72_i impl_ValidStore_sh)))))) k (f72_l1_s a0 (IntKind.wrap .i64 ((b5.length : Int) - (1 : Int))) b5 b6))
 (some false)))) : Option (shDen impl_ValidStore_sh)) := by kernel_rfl

theorem f72_l0_round (k : Nat) (K : Ex → St → Option (shDen impl_ValidStore_sh)) (n : Nat) (a0 : T2) (x8 : Int) : (f72_l0_p k K (n + 1) a0 x8 : Option (shDen impl_ValidStore_sh)) = impl_ValidStore_l0_b ((fun x8 => f72_l0_p k K n a0 x8)) (fun x4 => K .ret (f72_l0_o a0 x4)) (K (.exit 0) (f72_l0_o0 a0)) a0 x8 := by kernel_rfl

theorem f72_l0_L_eq (K : Ex → St → Option (shDen impl_ValidStore_sh)) (a0 : T2) : ∀ (n : Nat) (x8 : Int), (f72_l0_p FUEL K n a0 x8 : Option (shDen impl_ValidStore_sh)) = impl_ValidStore_l0_L (fun x4 => K .ret (f72_l0_o a0 x4)) (K (.exit 0) (f72_l0_o0 a0)) a0 n x8 := by
 intro n
 induction n with
 | zero => intros; rfl
 | succ n ih =>
  intro x8
  exact (f72_l0_round FUEL K n a0 x8).trans (congrArg (fun f => impl_ValidStore_l0_b f (fun x4 => K .ret (f72_l0_o a0 x4)) (K (.exit 0) (f72_l0_o0 a0)) a0 x8) (funext fun x8 => ih x8))

theorem f72_start (k : Nat) (a0 : T2) : fnK (f72_cx k) 8 72 f72_i impl_ValidStore_sh [.pv K3 a0] =
 ((cond (decide ((128 : Int) < (a0.1.length : Int)))
 (some false)
 (loopK (f72_cx k) 2 (execK (f72_cx k) (callK (f72_cx k) 6) 2 720011005400070084 (sub f84_c [1, 0, 1, 0, 0])) f72_l0_cut (blkK 0 (seqK (execK (f72_cx k) (callK (f72_cx k) 6) 2 720011005400070084 (sub f84_c [1, 1])) (retK (f72_cx k) f84_i (some 7) 1 (opsRest (f72_cx k) (callK (f72_cx k) 7) 1 7200110054 false (regOps (sub f54_c [1, 0])) 2 (seqK (execK (f72_cx k) (callK (f72_cx k) 7) 1 7200110054 (sub f54_c [1, 1])) (retK (f72_cx k) f54_i (some 11) 0 (opsRest (f72_cx k) (callK (f72_cx k) 8) 0 72 false (regOps (sub f72_c [1, 0, 0])) 7 (seqK (execK (f72_cx k) (callK (f72_cx k) 8) 0 72 (sub f72_c [1, 0, 1])) (seqK (execK (f72_cx k) (callK (f72_cx k) 8) 0 72 (sub f72_c [1, 1])) (finK (f72_cx k) f72_i impl_ValidStore_sh)))))))))) k (f72_l0_s a0 (0 : Int)))) : Option (shDen impl_ValidStore_sh)) := by kernel_rfl

theorem f72_run (a0 : T2) : fnK (f72_cx FUEL) 8 72 f72_i impl_ValidStore_sh [.pv K3 a0] = impl_ValidStore_r a0 :=
 (f72_start FUEL a0).trans (condC (rfl) ((f72_l0_L_eq _ a0 FUEL (0 : Int)).trans (cong2 (fun e0 e1 => impl_ValidStore_l0_L e0 e1 a0 FUEL (0 : Int)) (funext fun x4 => (f72_l0_ret FUEL  a0 x4).trans (condC (rfl) (bindC (fun b3 => bindC (fun b4 => condC ((f72_l1_L_eq _ a0 FUEL (IntKind.wrap .i64 ((b3.length : Int) - (1 : Int))) b3 b4).trans (cong2 (fun e0 e1 => impl_ValidStore_l1_L e0 e1 a0 FUEL (IntKind.wrap .i64 ((b3.length : Int) - (1 : Int))) b3 b4) (funext fun z140 => funext fun z160 => (f72_l1_ret FUEL  a0 z140 z160).trans (rfl)) (funext fun z140 => funext fun z160 => (f72_l1_exit0 FUEL  a0 z140 z160).trans (rfl)))) (rfl)))))) ( (f72_l0_exit0 FUEL  a0).trans (bindC (fun b5 => bindC (fun b6 => condC ((f72_l1_L_eq _ a0 FUEL (IntKind.wrap .i64 ((b5.length : Int) - (1 : Int))) b5 b6).trans (cong2 (fun e0 e1 => impl_ValidStore_l1_L e0 e1 a0 FUEL (IntKind.wrap .i64 ((b5.length : Int) - (1 : Int))) b5 b6) (funext fun z140 => funext fun z160 => (f72_l1_ret FUEL  a0 z140 z160).trans (rfl)) (funext fun z140 => funext fun z160 => (f72_l1_exit0 FUEL  a0 z140 z160).trans (rfl)))) (rfl))))))))

noncomputable def f72_con : Con := { ps := K2, sh := impl_ValidStore_sh, raw := fun x => impl_ValidStore_r x.1 }
theorem f72_conOk : ConOk Tryz.prog 72 f72_con := con_of_fn (f72_tabs FUEL) (depth := 8) f72_ok fun x y h => (f72_run x.1).trans h

noncomputable def f74_cx (k : Nat) : Cx := mkC [] [] [] [] [] k [] false
theorem f74_tabs (k : Nat) : TabsOk Tryz.prog (f74_cx k) := mkC_ok trivial trivial trivial trivial
abbrev slices_Clone_impl_Blob_impl_Blob_sh : List Sh := [.own 72 K8]
noncomputable def slices_Clone_impl_Blob_impl_Blob_r (a0 : T4) : Option (shDen slices_Clone_impl_Blob_impl_Blob_sh) :=
 (cond (List.isEmpty a0) (bothO (some []) (cond (decide ((0 + a0.length) * 32 ≤ 140737488355328) && decide (0 + a0.length ≤ 9223372036854775807))
 (some ([] ++ a0))
 none)) (cond (decide ((0 + a0.length) * 32 ≤ 140737488355328) && decide (0 + a0.length ≤ 9223372036854775807))
 (some ([] ++ a0))
 none))
theorem f74_run (a0 : T4) : fnK (f74_cx FUEL) 8 74 f74_i slices_Clone_impl_Blob_impl_Blob_sh [.pv K6 a0] = slices_Clone_impl_Blob_impl_Blob_r a0 := by kernel_rfl

noncomputable def f74_con : Con := { ps := K3, sh := slices_Clone_impl_Blob_impl_Blob_sh, raw := fun x => slices_Clone_impl_Blob_impl_Blob_r x.1 }
theorem f74_conOk : ConOk Tryz.prog 74 f74_con := con_of_fn (f74_tabs FUEL) (depth := 8) f74_ok fun x y h => (f74_run x.1).trans h

noncomputable def f62_cx (k : Nat) : Cx := mkC [] [] [] [] [] k [] false
theorem f62_tabs (k : Nat) : TabsOk Tryz.prog (f62_cx k) := mkC_ok trivial trivial trivial trivial
abbrev impl_reachCode_1_sh : List Sh := [.pl .bool]
noncomputable def impl_reachCode_1_r (a0 : T8) : Option (shDen impl_reachCode_1_sh) :=
 (some (decide ((256 : Int) < (a0.length : Int))))
theorem f62_run (a0 : T8) : fnK (f62_cx FUEL) 8 62 f62_i impl_reachCode_1_sh [.pv K12 a0] = impl_reachCode_1_r a0 := by kernel_rfl

noncomputable def f62_con : Con := { ps := K9, sh := impl_reachCode_1_sh, raw := fun x => impl_reachCode_1_r x.1 }
theorem f62_conOk : ConOk Tryz.prog 62 f62_con := con_of_fn (f62_tabs FUEL) (depth := 8) f62_ok fun x y h => (f62_run x.1).trans h

noncomputable def f63_cx (k : Nat) : Cx := mkC [] [] [] [] [] k [] false
theorem f63_tabs (k : Nat) : TabsOk Tryz.prog (f63_cx k) := mkC_ok trivial trivial trivial trivial
abbrev impl_within_sh : List Sh := [.pl .bool]
noncomputable def impl_within_r (a0 : Int) (a1 : Int) (a2 : Int) : Option (shDen impl_within_sh) :=
 (cond (decide (a1 ≤ a0))
 (some (decide (a0 ≤ a2)))
 (some false))
theorem f63_run (a0 : Int) (a1 : Int) (a2 : Int) : fnK (f63_cx FUEL) 8 63 f63_i impl_within_sh [.pv (.int .i64) a0, .pv (.int .i64) a1, .pv (.int .i64) a2] = impl_within_r a0 a1 a2 := by kernel_rfl

noncomputable def f63_con : Con := { ps := (.pair (.int .i64) (.pair (.int .i64) K14)), sh := impl_within_sh, raw := fun x => impl_within_r x.1 x.2.1 x.2.2.1 }
theorem f63_conOk : ConOk Tryz.prog 63 f63_con := con_of_fn (f63_tabs FUEL) (depth := 8) f63_ok fun x y h => (f63_run x.1 x.2.1 x.2.2.1).trans h

noncomputable def f35_cx (k : Nat) : Cx := mkC [] [(63, f63_con)] [] [] [] k [] false
theorem f35_tabs (k : Nat) : TabsOk Tryz.prog (f35_cx k) := mkC_ok ⟨f63_conOk, trivial⟩ trivial trivial trivial
abbrev impl_isBudget_sh : List Sh := [.pl .bool]
noncomputable def impl_isBudget_r (a0 : Int) : Option (shDen impl_isBudget_sh) :=
 (bindO (impl_within_r a0 (0 : Int) (1000000 : Int)) fun (b1 : Bool) => (some b1))
theorem f35_run (a0 : Int) : fnK (f35_cx FUEL) 8 35 f35_i impl_isBudget_sh [.pv (.int .i64) a0] = impl_isBudget_r a0 := by kernel_rfl

noncomputable def f35_con : Con := { ps := K14, sh := impl_isBudget_sh, raw := fun x => impl_isBudget_r x.1 }
theorem f35_conOk : ConOk Tryz.prog 35 f35_con := con_of_fn (f35_tabs FUEL) (depth := 8) f35_ok fun x y h => (f35_run x.1).trans h

noncomputable def f106_l0_cut : Cut := { keep := [0, 2, 4, 8, 9, 10], stk := [], ids := [40], own := [], outs := [(1, [0, 2, 4, 8, 9], [40])] }
noncomputable def f106_cx (k : Nat) : Cx := mkC [] [(97, f97_con)] [] [] [(106, [(0, f106_l0_cut)])] k [] false
theorem f106_tabs (k : Nat) : TabsOk Tryz.prog (f106_cx k) := mkC_ok ⟨f97_conOk, trivial⟩ trivial trivial trivial
abbrev slices_BinarySearchFunc_impl_Key_impl_Key_impl_Key_sh : List Sh := [.pl (.int .i64), .pl .bool]
noncomputable def f106_l0_s (a0 : T8) (a1 : (List Int)) (x9 : Int) (x10 : Int) : St := { env := (.pv K12 a0 :: .dead :: .fn 97 (.pv .unit ()) :: .dead :: .ptr 40 (.arr 32 (.int .u8)) [] :: (dd 3 (.pv (.int .i64) (a0.length : Int) :: .pv (.int .i64) x9 :: .pv (.int .i64) x10 :: (dd 38 [])))), stk := [], heap := [(40, .var (.arr 32 (.int .u8)) (.pv (.arr 32 (.int .u8)) a1))] }
noncomputable def f106_l0_o0 (a0 : T8) (a1 : (List Int)) (x9 : Int) : St := { env := (.pv K12 a0 :: .dead :: .fn 97 (.pv .unit ()) :: .dead :: .ptr 40 (.arr 32 (.int .u8)) [] :: (dd 3 (.pv (.int .i64) (a0.length : Int) :: .pv (.int .i64) x9 :: (dd 39 [])))), stk := [], heap := [(40, .var (.arr 32 (.int .u8)) (.pv (.arr 32 (.int .u8)) a1))] }
noncomputable def slices_BinarySearchFunc_impl_Key_impl_Key_impl_Key_l0_b (rec : Int → Int → Option (shDen slices_BinarySearchFunc_impl_Key_impl_Key_impl_Key_sh)) (ke0 : Int → Option (shDen slices_BinarySearchFunc_impl_Key_impl_Key_impl_Key_sh)) (a0 : T8) (a1 : (List Int)) (x9 : Int) (x10 : Int) : Option (shDen slices_BinarySearchFunc_impl_Key_impl_Key_impl_Key_sh) :=
 (cond (decide (x9 < x10))
 (cond ((decide ((0 : Int) ≤ (IntKind.wrap .i64 (shrI .u64 (IntKind.wrap .u64 (IntKind.wrap .i64 (x9 + x10))) (1 : Int))))) && (decide ((IntKind.wrap .i64 (shrI .u64 (IntKind.wrap .u64 (IntKind.wrap .i64 (x9 + x10))) (1 : Int))) < (a0.length : Int))))
 (bindO (impl_compareKeys_r (a0.getD ((IntKind.wrap .i64 (shrI .u64 (IntKind.wrap .u64 (IntKind.wrap .i64 (x9 + x10))) (1 : Int))).toNat) (List.replicate 32 (0 : Int))) a1) fun (b2 : Int) => (cond (decide (b2 < (0 : Int)))
 (rec (IntKind.wrap .i64 ((IntKind.wrap .i64 (shrI .u64 (IntKind.wrap .u64 (IntKind.wrap .i64 (x9 + x10))) (1 : Int))) + (1 : Int))) x10)
 (rec x9 (IntKind.wrap .i64 (shrI .u64 (IntKind.wrap .u64 (IntKind.wrap .i64 (x9 + x10))) (1 : Int))))))
 none)
 (ke0 x9))
noncomputable def slices_BinarySearchFunc_impl_Key_impl_Key_impl_Key_l0_L (ke0 : Int → Option (shDen slices_BinarySearchFunc_impl_Key_impl_Key_impl_Key_sh)) (a0 : T8) (a1 : (List Int)) : Nat → Int → Int → Option (shDen slices_BinarySearchFunc_impl_Key_impl_Key_impl_Key_sh)
 | 0 => fun _ _ => none
 | n + 1 => slices_BinarySearchFunc_impl_Key_impl_Key_impl_Key_l0_b (slices_BinarySearchFunc_impl_Key_impl_Key_impl_Key_l0_L ke0 a0 a1 n) ke0 a0 a1
noncomputable def slices_BinarySearchFunc_impl_Key_impl_Key_impl_Key_r (a0 : T8) (a1 : (List Int)) (a2 : Unit) : Option (shDen slices_BinarySearchFunc_impl_Key_impl_Key_impl_Key_sh) :=
 (slices_BinarySearchFunc_impl_Key_impl_Key_impl_Key_l0_L (fun x9 => (cond (decide (x9 < (a0.length : Int)))
 (cond ((decide ((0 : Int) ≤ x9)) && (decide (x9 < (a0.length : Int))))
 (bindO (impl_compareKeys_r (a0.getD (x9.toNat) (List.replicate 32 (0 : Int))) a1) fun (b3 : Int) => (some (x9, (decide (b3 = (0 : Int))))))
 none)
 (some (x9, false)))) a0 a1 FUEL (0 : Int) (a0.length : Int))
noncomputable def f106_l0_p (k : Nat) (K : Ex → St → Option (shDen slices_BinarySearchFunc_impl_Key_impl_Key_impl_Key_sh)) (n : Nat) (a0 : T8) (a1 : (List Int)) (x9 : Int) (x10 : Int) : Option (shDen slices_BinarySearchFunc_impl_Key_impl_Key_impl_Key_sh) := loopK (f106_cx k) 0 (execK (f106_cx k) (callK (f106_cx k) 8) 0 106 (sub f106_c [1, 1, 1, 0, 0, 0])) f106_l0_cut K n (f106_l0_s a0 a1 x9 x10)

theorem f106_l0_exit0 (k : Nat)  (a0 : T8) (a1 : (List Int)) (x9 : Int) : ((blkK 0 (seqK (execK (f106_cx k) (callK (f106_cx k) 8) 0 106 (sub f106_c [1, 1, 1, 1])) (finK (f106_cx k) f106_i slices_BinarySearchFunc_impl_Key_impl_Key_impl_Key_sh))) (.exit 0) (f106_l0_o0 a0 a1 x9) : Option (shDen slices_BinarySearchFunc_impl_Key_impl_Key_impl_Key_sh)) =
 ((cond (decide (x9 < (a0.length : Int)))
 (cond ((decide ((0 : Int) ≤ x9)) && (decide (x9 < (a0.length : Int))))
 (bindO (impl_compareKeys_r (a0.getD (x9.toNat) (List.replicate 32 (0 : Int))) a1) fun (b3 : Int) => (some (x9, (decide (b3 = (0 : Int))))))
 none)
 (some (x9, false))) : Option (shDen slices_BinarySearchFunc_impl_Key_impl_Key_impl_Key_sh)) := by kernel_rfl

theorem f106_l0_round (k : Nat) (K : Ex → St → Option (shDen slices_BinarySearchFunc_impl_Key_impl_Key_impl_Key_sh)) (n : Nat) (a0 : T8) (a1 : (List Int)) (x9 : Int) (x10 : Int) : (f106_l0_p k K (n + 1) a0 a1 x9 x10 : Option (shDen slices_BinarySearchFunc_impl_Key_impl_Key_impl_Key_sh)) = slices_BinarySearchFunc_impl_Key_impl_Key_impl_Key_l0_b ((fun x9 x10 => f106_l0_p k K n a0 a1 x9 x10)) (fun x9 => K (.exit 0) (f106_l0_o0 a0 a1 x9)) a0 a1 x9 x10 := by kernel_rfl

theorem f106_l0_L_eq (K : Ex → St → Option (shDen slices_BinarySearchFunc_impl_Key_impl_Key_impl_Key_sh)) (a0 : T8) (a1 : (List Int)) : ∀ (n : Nat) (x9 : Int) (x10 : Int), (f106_l0_p FUEL K n a0 a1 x9 x10 : Option (shDen slices_BinarySearchFunc_impl_Key_impl_Key_impl_Key_sh)) = slices_BinarySearchFunc_impl_Key_impl_Key_impl_Key_l0_L (fun x9 => K (.exit 0) (f106_l0_o0 a0 a1 x9)) a0 a1 n x9 x10 := by
 intro n
 induction n with
 | zero => intros; rfl
 | succ n ih =>
  intro x9 x10
  exact (f106_l0_round FUEL K n a0 a1 x9 x10).trans (congrArg (fun f => slices_BinarySearchFunc_impl_Key_impl_Key_impl_Key_l0_b f (fun x9 => K (.exit 0) (f106_l0_o0 a0 a1 x9)) a0 a1 x9 x10) (funext fun x9 => funext fun x10 => ih x9 x10))

theorem f106_start (k : Nat) (a0 : T8) (a1 : (List Int)) (a2 : Unit) : fnK (f106_cx k) 8 106 f106_i slices_BinarySearchFunc_impl_Key_impl_Key_impl_Key_sh [.pv K12 a0, .pv (.arr 32 (.int .u8)) a1, .fn 97 (.pv .unit ())] =
 ((loopK (f106_cx k) 0 (execK (f106_cx k) (callK (f106_cx k) 8) 0 106 (sub f106_c [1, 1, 1, 0, 0, 0])) f106_l0_cut (blkK 0 (seqK (execK (f106_cx k) (callK (f106_cx k) 8) 0 106 (sub f106_c [1, 1, 1, 1])) (finK (f106_cx k) f106_i slices_BinarySearchFunc_impl_Key_impl_Key_impl_Key_sh))) k (f106_l0_s a0 a1 (0 : Int) (a0.length : Int))) : Option (shDen slices_BinarySearchFunc_impl_Key_impl_Key_impl_Key_sh)) := by kernel_rfl

theorem f106_run (a0 : T8) (a1 : (List Int)) (a2 : Unit) : fnK (f106_cx FUEL) 8 106 f106_i slices_BinarySearchFunc_impl_Key_impl_Key_impl_Key_sh [.pv K12 a0, .pv (.arr 32 (.int .u8)) a1, .fn 97 (.pv .unit ())] = slices_BinarySearchFunc_impl_Key_impl_Key_impl_Key_r a0 a1 a2 :=
 (f106_start FUEL a0 a1 a2).trans ((f106_l0_L_eq _ a0 a1 FUEL (0 : Int) (a0.length : Int)).trans (congrArg (fun e0 => slices_BinarySearchFunc_impl_Key_impl_Key_impl_Key_l0_L e0 a0 a1 FUEL (0 : Int) (a0.length : Int)) (funext fun x9 => (f106_l0_exit0 FUEL  a0 a1 x9).trans (rfl))))

noncomputable def f106_con : Con := { ps := (.pair K12 (.pair (.arr 32 (.int .u8)) (.pair (.fnc 97) .unit))), sh := slices_BinarySearchFunc_impl_Key_impl_Key_impl_Key_sh, raw := fun x => slices_BinarySearchFunc_impl_Key_impl_Key_impl_Key_r x.1 x.2.1 x.2.2.1 }
theorem f106_conOk : ConOk Tryz.prog 106 f106_con := con_of_fn (f106_tabs FUEL) (depth := 8) f106_ok fun x y h => (f106_run x.1 x.2.1 x.2.2.1).trans h

noncomputable def f90_cx (k : Nat) : Cx := mkC [] [(106, f106_con)] [] [] [] k [] false
theorem f90_tabs (k : Nat) : TabsOk Tryz.prog (f90_cx k) := mkC_ok ⟨f106_conOk, trivial⟩ trivial trivial trivial
abbrev impl_shop_find_sh : List Sh := [.pl (.int .i64), .pl .bool]
noncomputable def impl_shop_find_r (a0 : T1) (a1 : (List Int)) : Option (shDen impl_shop_find_sh) :=
 (bindO (slices_BinarySearchFunc_impl_Key_impl_Key_impl_Key_r a0.1 a1 ()) fun (b1 : (Int × Bool)) => (some (b1.1, b1.2)))
theorem f90_run (a0 : T1) (a1 : (List Int)) : fnK (f90_cx FUEL) 8 90 f90_i impl_shop_find_sh [.pv (.ref K1) a0, .pv (.arr 32 (.int .u8)) a1] = impl_shop_find_r a0 a1 := by kernel_rfl

noncomputable def f90_con : Con := { ps := (.pair (.ref K1) K10), sh := impl_shop_find_sh, raw := fun x => impl_shop_find_r x.1 x.2.1 }
theorem f90_conOk : ConOk Tryz.prog 90 f90_con := con_of_fn (f90_tabs FUEL) (depth := 8) f90_ok fun x y h => (f90_run x.1 x.2.1).trans h

noncomputable def f64_cx (k : Nat) : Cx := mkC [] [(90, f90_con)] [] [] [] k [] false
theorem f64_tabs (k : Nat) : TabsOk Tryz.prog (f64_cx k) := mkC_ok ⟨f90_conOk, trivial⟩ trivial trivial trivial
abbrev impl_shop_get_sh : List Sh := [.pl K8, .pl .bool]
noncomputable def impl_shop_get_r (a0 : T1) (a1 : (List Int)) : Option (shDen impl_shop_get_sh) :=
 (bindO (impl_shop_find_r a0 a1) fun (b1 : (Int × Bool)) => (cond (!b1.2)
 (some (((0 : Int), ([], ())), false))
 (cond ((decide ((0 : Int) ≤ b1.1)) && (decide (b1.1 < (a0.2.1.length : Int))))
 (some ((a0.2.1.getD (b1.1.toNat) ((0 : Int), ([], ()))), true))
 none)))
theorem f64_run (a0 : T1) (a1 : (List Int)) : fnK (f64_cx FUEL) 8 64 f64_i impl_shop_get_sh [.pv (.ref K1) a0, .pv (.arr 32 (.int .u8)) a1] = impl_shop_get_r a0 a1 := by kernel_rfl

noncomputable def f64_con : Con := { ps := (.pair (.ref K1) K10), sh := impl_shop_get_sh, raw := fun x => impl_shop_get_r x.1 x.2.1 }
theorem f64_conOk : ConOk Tryz.prog 64 f64_con := con_of_fn (f64_tabs FUEL) (depth := 8) f64_ok fun x y h => (f64_run x.1 x.2.1).trans h

noncomputable def f91_cx (k : Nat) : Cx := mkC [] [] [] [] [] k [] false
theorem f91_tabs (k : Nat) : TabsOk Tryz.prog (f91_cx k) := mkC_ok trivial trivial trivial trivial
abbrev slices_Clone_byte_byte_sh : List Sh := [.own 5 (.int .u8)]
noncomputable def slices_Clone_byte_byte_r (a0 : (List Int)) : Option (shDen slices_Clone_byte_byte_sh) :=
 (cond (List.isEmpty a0) (bothO (some []) (cond (decide ((0 + a0.length) * 1 ≤ 140737488355328) && decide (0 + a0.length ≤ 9223372036854775807))
 (some ([] ++ a0))
 none)) (cond (decide ((0 + a0.length) * 1 ≤ 140737488355328) && decide (0 + a0.length ≤ 9223372036854775807))
 (some ([] ++ a0))
 none))
theorem f91_run (a0 : (List Int)) : fnK (f91_cx FUEL) 8 91 f91_i slices_Clone_byte_byte_sh [.pv K16 a0] = slices_Clone_byte_byte_r a0 := by kernel_rfl

noncomputable def f91_con : Con := { ps := K11, sh := slices_Clone_byte_byte_sh, raw := fun x => slices_Clone_byte_byte_r x.1 }
theorem f91_conOk : ConOk Tryz.prog 91 f91_con := con_of_fn (f91_tabs FUEL) (depth := 8) f91_ok fun x y h => (f91_run x.1).trans h

noncomputable def f66_cx (k : Nat) : Cx := mkC [] [(91, f91_con)] [] [] [] k [] false
theorem f66_tabs (k : Nat) : TabsOk Tryz.prog (f66_cx k) := mkC_ok ⟨f91_conOk, trivial⟩ trivial trivial trivial
abbrev impl_Blob_copied_sh : List Sh := [.pr (.pl (.int .u8)) (.pr (.own 5 (.int .u8)) (.pl .unit))]
noncomputable def impl_Blob_copied_r (a0 : T5) : Option (shDen impl_Blob_copied_sh) :=
 (bindO (slices_Clone_byte_byte_r a0.2.1) fun (b1 : (List Int)) => (some (a0.1, (b1, ()))))
theorem f66_run (a0 : T5) : fnK (f66_cx FUEL) 8 66 f66_i impl_Blob_copied_sh [.pv K8 a0] = impl_Blob_copied_r a0 := by kernel_rfl

noncomputable def f66_con : Con := { ps := K4, sh := impl_Blob_copied_sh, raw := fun x => impl_Blob_copied_r x.1 }
theorem f66_conOk : ConOk Tryz.prog 66 f66_con := con_of_fn (f66_tabs FUEL) (depth := 8) f66_ok fun x y h => (f66_run x.1).trans h

noncomputable def f36_d_l0_cut : Cut := { keep := [0, 2, 7, 13, 14, 15], stk := [], ids := [90070], own := [(7, 90070, 28)], outs := [(1, [7], [90070])] }
noncomputable def f36_d_cx (k : Nat) : Cx := mkC [] [(64, f64_con), (65, f65_con), (66, f66_con)] [] [] [(36, [(0, f36_d_l0_cut)])] k dps false
theorem f36_d_tabs (k : Nat) : TabsOk Tryz.prog (f36_d_cx k) := mkC_ok ⟨f64_conOk, f65_conOk, f66_conOk, trivial⟩ trivial trivial trivial
abbrev impl_shop_answer_d_sh : List Sh := [.tre 72 (.pr (.pl (.int .u8)) (.pr (.sl 5 (.pl (.int .u8))) (.pl .unit)))]
noncomputable def f36_d_l0_s (a0 : T1) (a1 : T8) (x2 : Int) (x15 : Int) (z90070 : T4) : St := { env := (.pv (.ref K1) a0 :: .dead :: .pv (.int .i64) x2 :: (dd 4 (.inn 90070 [] K8 :: (dd 5 (.pv K12 a1 :: .pv (.int .i64) (a1.length : Int) :: .pv (.int .i64) x15 :: (dd 25 [])))))), stk := [], heap := [(90070, .tre 72 (.pr (.pl (.int .u8)) (.pr (.sl 5 (.pl (.int .u8))) (.pl .unit))) z90070)] }
noncomputable def f36_d_l0_o0 (z90070 : T4) : St := { env := (dd 7 (.inn 90070 [] K8 :: (dd 33 []))), stk := [], heap := [(90070, .tre 72 (.pr (.pl (.int .u8)) (.pr (.sl 5 (.pl (.int .u8))) (.pl .unit))) z90070)] }
noncomputable def impl_shop_answer_d_l0_b (rec : Int → Int → T4 → Option (shDen impl_shop_answer_d_sh)) (ke0 : T4 → Option (shDen impl_shop_answer_d_sh)) (a0 : T1) (a1 : T8) (x2 : Int) (x15 : Int) (z90070 : T4) : Option (shDen impl_shop_answer_d_sh) :=
 (cond (decide (x15 < (a1.length : Int)))
 (cond ((decide ((0 : Int) ≤ x15)) && (decide (x15 < (a1.length : Int))))
 (bindO (impl_shop_get_r a0 (a1.getD (x15.toNat) (List.replicate 32 (0 : Int)))) fun (b4 : (T5 × Bool)) => (cond (!b4.2)
 (rec x2 (IntKind.wrap .i64 (x15 + (1 : Int))) z90070)
 (bindO (impl_size_byte_r b4.1.2.1) fun (b5 : Int) => (cond (decide ((IntKind.wrap .i64 (x2 - b5)) < (0 : Int)))
 (ke0 z90070)
 (bindO (impl_Blob_copied_r b4.1) fun (b6 : T5) => (cond (decide ((z90070.length + 1) * 32 ≤ 140737488355328) && decide (z90070.length + 1 ≤ 9223372036854775807))
 (rec (IntKind.wrap .i64 (x2 - b5)) (IntKind.wrap .i64 (x15 + (1 : Int))) (z90070 ++ [(b6.1, (b6.2.1, ()))]))
 none))))))
 none)
 (ke0 z90070))
noncomputable def impl_shop_answer_d_l0_L (ke0 : T4 → Option (shDen impl_shop_answer_d_sh)) (a0 : T1) (a1 : T8) : Nat → Int → Int → T4 → Option (shDen impl_shop_answer_d_sh)
 | 0 => fun _ _ _ => none
 | n + 1 => impl_shop_answer_d_l0_b (impl_shop_answer_d_l0_L ke0 a0 a1 n) ke0 a0 a1
noncomputable def impl_shop_answer_d_r (a0 : T1) (a1 : T8) (a2 : Int) : Option (shDen impl_shop_answer_d_sh) :=
 (impl_shop_answer_d_l0_L (fun z90070 => (some z90070)) a0 a1 FUEL a2 (0 : Int) [])
noncomputable def f36_d_l0_p (k : Nat) (K : Ex → St → Option (shDen impl_shop_answer_d_sh)) (n : Nat) (a0 : T1) (a1 : T8) (x2 : Int) (x15 : Int) (z90070 : T4) : Option (shDen impl_shop_answer_d_sh) := loopK (f36_d_cx k) 0 (execK (f36_d_cx k) (callK (f36_d_cx k) 8) 0 36 (sub f36_c [1, 1, 0, 1, 0, 0])) f36_d_l0_cut K n (f36_d_l0_s a0 a1 x2 x15 z90070)

theorem f36_d_l0_exit0 (k : Nat)  (z90070 : T4) : ((blkK 0 (seqK (execK (f36_d_cx k) (callK (f36_d_cx k) 8) 0 36 (sub f36_c [1, 1, 1])) (finK (f36_d_cx k) f36_i impl_shop_answer_d_sh))) (.exit 0) (f36_d_l0_o0 z90070) : Option (shDen impl_shop_answer_d_sh)) =
 ((some z90070) : Option (shDen impl_shop_answer_d_sh)) := by kernel_rfl

theorem f36_d_l0_round (k : Nat) (K : Ex → St → Option (shDen impl_shop_answer_d_sh)) (n : Nat) (a0 : T1) (a1 : T8) (x2 : Int) (x15 : Int) (z90070 : T4) : (f36_d_l0_p k K (n + 1) a0 a1 x2 x15 z90070 : Option (shDen impl_shop_answer_d_sh)) = impl_shop_answer_d_l0_b ((fun x2 x15 z90070 => f36_d_l0_p k K n a0 a1 x2 x15 z90070)) (fun z90070 => K (.exit 0) (f36_d_l0_o0 z90070)) a0 a1 x2 x15 z90070 := by kernel_rfl

theorem f36_d_l0_L_eq (K : Ex → St → Option (shDen impl_shop_answer_d_sh)) (a0 : T1) (a1 : T8) : ∀ (n : Nat) (x2 : Int) (x15 : Int) (z90070 : T4), (f36_d_l0_p FUEL K n a0 a1 x2 x15 z90070 : Option (shDen impl_shop_answer_d_sh)) = impl_shop_answer_d_l0_L (fun z90070 => K (.exit 0) (f36_d_l0_o0 z90070)) a0 a1 n x2 x15 z90070 := by
 intro n
 induction n with
 | zero => intros; rfl
 | succ n ih =>
  intro x2 x15 z90070
  exact (f36_d_l0_round FUEL K n a0 a1 x2 x15 z90070).trans (congrArg (fun f => impl_shop_answer_d_l0_b f (fun z90070 => K (.exit 0) (f36_d_l0_o0 z90070)) a0 a1 x2 x15 z90070) (funext fun x2 => funext fun x15 => funext fun z90070 => ih x2 x15 z90070))

theorem f36_d_start (k : Nat) (a0 : T1) (a1 : T8) (a2 : Int) : fnK (f36_d_cx k) 8 36 f36_i impl_shop_answer_d_sh [.pv (.ref K1) a0, .pv K12 a1, .pv (.int .i64) a2] =
 ((loopK (f36_d_cx k) 0 (execK (f36_d_cx k) (callK (f36_d_cx k) 8) 0 36 (sub f36_c [1, 1, 0, 1, 0, 0])) f36_d_l0_cut (blkK 0 (seqK (execK (f36_d_cx k) (callK (f36_d_cx k) 8) 0 36 (sub f36_c [1, 1, 1])) (finK (f36_d_cx k) f36_i impl_shop_answer_d_sh))) k (f36_d_l0_s a0 a1 a2 (0 : Int) [])) : Option (shDen impl_shop_answer_d_sh)) := by kernel_rfl

theorem f36_d_run (a0 : T1) (a1 : T8) (a2 : Int) : fnK (f36_d_cx FUEL) 8 36 f36_i impl_shop_answer_d_sh [.pv (.ref K1) a0, .pv K12 a1, .pv (.int .i64) a2] = impl_shop_answer_d_r a0 a1 a2 :=
 (f36_d_start FUEL a0 a1 a2).trans ((f36_d_l0_L_eq _ a0 a1 FUEL a2 (0 : Int) []).trans (congrArg (fun e0 => impl_shop_answer_d_l0_L e0 a0 a1 FUEL a2 (0 : Int) []) (funext fun z90070 => (f36_d_l0_exit0 FUEL  z90070).trans (rfl))))

noncomputable def f36_d_con : Con := { ps := (.pair (.ref K1) K5), sh := impl_shop_answer_d_sh, raw := fun x => impl_shop_answer_d_r x.1 x.2.1 x.2.2.1 }
theorem f36_d_conOk : ConOk Tryz.prog 36 f36_d_con := con_of_fn (f36_d_tabs FUEL) (depth := 8) f36_ok fun x y h => (f36_d_run x.1 x.2.1 x.2.2.1).trans h

noncomputable def f11_d_l0_cut : Cut := { keep := [0, 1, 7, 8], stk := [[], [6], [1, 2]], ids := [130, 100100, 100101, 100102], own := [], outs := [(0, [4], [100100, 100101, 100102]), (1, [], [100100, 100101, 100102])] }
noncomputable def f11_d_cx (k : Nat) : Cx := mkC [(34, f34_i), (43, f43_i), (61, f61_i), (89, f89_i)] [(35, f35_con), (36, f36_d_con), (62, f62_con), (72, f72_con), (73, f73_con), (74, f74_con)] [] [] [(11001400340018006100070089, [(0, f11_d_l0_cut)])] k dps false
theorem f11_d_tabs (k : Nat) : TabsOk Tryz.prog (f11_d_cx k) := mkC_ok ⟨f35_conOk, f36_d_conOk, f62_conOk, f72_conOk, f73_conOk, f74_conOk, trivial⟩ trivial trivial ⟨f34_ok, f43_ok, f61_ok, f89_ok, trivial⟩
abbrev impl_AnswerWants_d_sh : List Sh := [.tre 72 (.pr (.pl (.int .u8)) (.pr (.sl 5 (.pl (.int .u8))) (.pl .unit))), .pl (.int .i64)]
noncomputable def f11_d_l0_s (a0 : T2) (a1 : T8) (a2 : Int) (z100101 : T8) (z100102 : T4) (x8 : Int) : St := { env := (.sl 130 K12 :: .fn 62 (.pv .unit ()) :: (dd 5 (.pv (.int .i64) (1 : Int) :: .pv (.int .i64) x8 :: (dd 10 [])))), stk := [(dd 9 []), (dd 6 (.ptr 100100 K1 [] :: (dd 13 []))), (.dead :: .pv K12 a1 :: .pv (.int .i64) a2 :: (dd 26 []))], heap := [(30, .var K3 (.pv K3 a0)), (130, .arr 34 K12 [a1]), (100020, .var K3 (.pv K3 a0)), (100100, .var K1 (.pr (.sl 100101 (.arr 32 (.int .u8))) (.pr (.sl 100102 K8) (.pv .unit ())))), (100101, .arr 45 (.arr 32 (.int .u8)) z100101), (100102, .arr 72 K8 z100102)] }
noncomputable def f11_d_l0_o (a0 : T2) (a1 : T8) (a2 : Int) (z100101 : T8) (z100102 : T4) (x4 : Int) : St := { env := (dd 4 (.pv (.int .i64) x4 :: (dd 14 []))), stk := [(dd 9 []), (dd 6 (.ptr 100100 K1 [] :: (dd 13 []))), (.dead :: .pv K12 a1 :: .pv (.int .i64) a2 :: (dd 26 []))], heap := [(30, .var K3 (.pv K3 a0)), (130, .arr 34 K12 [a1]), (100020, .var K3 (.pv K3 a0)), (100100, .var K1 (.pr (.sl 100101 (.arr 32 (.int .u8))) (.pr (.sl 100102 K8) (.pv .unit ())))), (100101, .arr 45 (.arr 32 (.int .u8)) z100101), (100102, .arr 72 K8 z100102)] }
noncomputable def f11_d_l0_o0 (a0 : T2) (a1 : T8) (a2 : Int) (z100101 : T8) (z100102 : T4) : St := { env := (dd 19 []), stk := [(dd 9 []), (dd 6 (.ptr 100100 K1 [] :: (dd 13 []))), (.dead :: .pv K12 a1 :: .pv (.int .i64) a2 :: (dd 26 []))], heap := [(30, .var K3 (.pv K3 a0)), (130, .arr 34 K12 [a1]), (100020, .var K3 (.pv K3 a0)), (100100, .var K1 (.pr (.sl 100101 (.arr 32 (.int .u8))) (.pr (.sl 100102 K8) (.pv .unit ())))), (100101, .arr 45 (.arr 32 (.int .u8)) z100101), (100102, .arr 72 K8 z100102)] }
noncomputable def impl_AnswerWants_d_l0_b (rec : T8 → T4 → Int → Option (shDen impl_AnswerWants_d_sh)) (kr : T8 → T4 → Int → Option (shDen impl_AnswerWants_d_sh)) (ke0 : T8 → T4 → Option (shDen impl_AnswerWants_d_sh)) (a0 : T2) (a1 : T8) (a2 : Int) (z100101 : T8) (z100102 : T4) (x8 : Int) : Option (shDen impl_AnswerWants_d_sh) :=
 (cond (decide (x8 < (1 : Int)))
 (cond ((decide ((0 : Int) ≤ x8)) && (decide (x8 < (1 : Int))))
 (bindO (impl_reachCode_1_r ([a1].getD (x8.toNat) [])) fun (b5 : Bool) => (cond b5
 (kr z100101 z100102 x8)
 (rec z100101 z100102 (IntKind.wrap .i64 (x8 + (1 : Int))))))
 none)
 (ke0 z100101 z100102))
noncomputable def impl_AnswerWants_d_l0_L (kr : T8 → T4 → Int → Option (shDen impl_AnswerWants_d_sh)) (ke0 : T8 → T4 → Option (shDen impl_AnswerWants_d_sh)) (a0 : T2) (a1 : T8) (a2 : Int) : Nat → T8 → T4 → Int → Option (shDen impl_AnswerWants_d_sh)
 | 0 => fun _ _ _ => none
 | n + 1 => impl_AnswerWants_d_l0_b (impl_AnswerWants_d_l0_L kr ke0 a0 a1 a2 n) kr ke0 a0 a1 a2
noncomputable def impl_AnswerWants_d_r (a0 : T2) (a1 : T8) (a2 : Int) : Option (shDen impl_AnswerWants_d_sh) :=
 (bindO (impl_ValidStore_r a0) fun (b1 : Bool) => (cond (!b1)
 (some ([], (1 : Int)))
 (bindO (impl_Store_keys_r a0) fun (b2 : T8) => (bindO (slices_Clone_impl_Blob_impl_Blob_r a0.1) fun (b3 : T4) => (impl_AnswerWants_d_l0_L (fun z100101 z100102 x4 => (cond (decide ((0 : Int) ≤ x4))
 (some ([], (3 : Int)))
 (bindO (impl_isBudget_r a2) fun (b6 : Bool) => (cond (!b6)
 (some ([], (2 : Int)))
 (bindO (impl_shop_answer_d_r (z100101, (z100102, ())) a1 a2) fun (b7 : T4) => (some (b7, (0 : Int)))))))) (fun z100101 z100102 => (bindO (impl_isBudget_r a2) fun (b8 : Bool) => (cond (!b8)
 (some ([], (2 : Int)))
 (bindO (impl_shop_answer_d_r (z100101, (z100102, ())) a1 a2) fun (b9 : T4) => (some (b9, (0 : Int))))))) a0 a1 a2 FUEL b2 b3 (0 : Int))))))
noncomputable def f11_d_l0_p (k : Nat) (K : Ex → St → Option (shDen impl_AnswerWants_d_sh)) (n : Nat) (a0 : T2) (a1 : T8) (a2 : Int) (z100101 : T8) (z100102 : T4) (x8 : Int) : Option (shDen impl_AnswerWants_d_sh) := loopK (f11_d_cx k) 3 (execK (f11_d_cx k) (callK (f11_d_cx k) 5) 3 11001400340018006100070089 (sub f89_c [1, 0, 1, 0, 0])) f11_d_l0_cut K n (f11_d_l0_s a0 a1 a2 z100101 z100102 x8)

theorem f11_d_l0_ret (k : Nat)  (a0 : T2) (a1 : T8) (a2 : Int) (z100101 : T8) (z100102 : T4) (x4 : Int) : ((blkK 0 (seqK (execK (f11_d_cx k) (callK (f11_d_cx k) 5) 3 11001400340018006100070089 (sub f89_c [1, 1])) (retK (f11_d_cx k) f89_i (some 7) 2 (opsRest (f11_d_cx k) (callK (f11_d_cx k) 6) 2 110014003400180061 false (regOps (sub f61_c [1, 0])) 2 (seqK (execK (f11_d_cx k) (callK (f11_d_cx k) 6) 2 110014003400180061 (sub f61_c [1, 1])) (retK (f11_d_cx k) f61_i (some 18) 1 (opsRest (f11_d_cx k) (callK (f11_d_cx k) 7) 1 1100140034 false (regOps (sub f34_c [1, 1, 0, 0, 1, 1, 0])) 1 (seqK (execK (f11_d_cx k) (callK (f11_d_cx k) 7) 1 1100140034 (sub f34_c [1, 1, 0, 0, 1, 1, 1])) (blkK 0 (seqK (execK (f11_d_cx k) (callK (f11_d_cx k) 7) 1 1100140034 (sub f34_c [1, 1, 1])) (retK (f11_d_cx k) f34_i (some 14) 0 (opsRest (f11_d_cx k) (callK (f11_d_cx k) 8) 0 11 false (regOps (sub f11_c [1, 0])) 3 (seqK (execK (f11_d_cx k) (callK (f11_d_cx k) 8) 0 11 (sub f11_c [1, 1])) (finK (f11_d_cx k) f11_i impl_AnswerWants_d_sh)))))))))))))) .ret (f11_d_l0_o a0 a1 a2 z100101 z100102 x4) : Option (shDen impl_AnswerWants_d_sh)) =
 ((cond (decide ((0 : Int) ≤ x4))
 (some ([], (3 : Int)))
 (bindO (impl_isBudget_r a2) fun (b6 : Bool) => (cond (!b6)
 (some ([], (2 : Int)))
 (bindO (impl_shop_answer_d_r (z100101, (z100102, ())) a1 a2) fun (b7 : T4) => (some (b7, (0 : Int))))))) : Option (shDen impl_AnswerWants_d_sh)) := by kernel_rfl

theorem f11_d_l0_exit0 (k : Nat)  (a0 : T2) (a1 : T8) (a2 : Int) (z100101 : T8) (z100102 : T4) : ((blkK 0 (seqK (execK (f11_d_cx k) (callK (f11_d_cx k) 5) 3 11001400340018006100070089 (sub f89_c [1, 1])) (retK (f11_d_cx k) f89_i (some 7) 2 (opsRest (f11_d_cx k) (callK (f11_d_cx k) 6) 2 110014003400180061 false (regOps (sub f61_c [1, 0])) 2 (seqK (execK (f11_d_cx k) (callK (f11_d_cx k) 6) 2 110014003400180061 (sub f61_c [1, 1])) (retK (f11_d_cx k) f61_i (some 18) 1 (opsRest (f11_d_cx k) (callK (f11_d_cx k) 7) 1 1100140034 false (regOps (sub f34_c [1, 1, 0, 0, 1, 1, 0])) 1 (seqK (execK (f11_d_cx k) (callK (f11_d_cx k) 7) 1 1100140034 (sub f34_c [1, 1, 0, 0, 1, 1, 1])) (blkK 0 (seqK (execK (f11_d_cx k) (callK (f11_d_cx k) 7) 1 1100140034 (sub f34_c [1, 1, 1])) (retK (f11_d_cx k) f34_i (some 14) 0 (opsRest (f11_d_cx k) (callK (f11_d_cx k) 8) 0 11 false (regOps (sub f11_c [1, 0])) 3 (seqK (execK (f11_d_cx k) (callK (f11_d_cx k) 8) 0 11 (sub f11_c [1, 1])) (finK (f11_d_cx k) f11_i impl_AnswerWants_d_sh)))))))))))))) (.exit 0) (f11_d_l0_o0 a0 a1 a2 z100101 z100102) : Option (shDen impl_AnswerWants_d_sh)) =
 ((bindO (impl_isBudget_r a2) fun (b8 : Bool) => (cond (!b8)
 (some ([], (2 : Int)))
 (bindO (impl_shop_answer_d_r (z100101, (z100102, ())) a1 a2) fun (b9 : T4) => (some (b9, (0 : Int)))))) : Option (shDen impl_AnswerWants_d_sh)) := by kernel_rfl

theorem f11_d_l0_round (k : Nat) (K : Ex → St → Option (shDen impl_AnswerWants_d_sh)) (n : Nat) (a0 : T2) (a1 : T8) (a2 : Int) (z100101 : T8) (z100102 : T4) (x8 : Int) : (f11_d_l0_p k K (n + 1) a0 a1 a2 z100101 z100102 x8 : Option (shDen impl_AnswerWants_d_sh)) = impl_AnswerWants_d_l0_b ((fun z100101 z100102 x8 => f11_d_l0_p k K n a0 a1 a2 z100101 z100102 x8)) (fun z100101 z100102 x4 => K .ret (f11_d_l0_o a0 a1 a2 z100101 z100102 x4)) (fun z100101 z100102 => K (.exit 0) (f11_d_l0_o0 a0 a1 a2 z100101 z100102)) a0 a1 a2 z100101 z100102 x8 := by kernel_rfl

theorem f11_d_l0_L_eq (K : Ex → St → Option (shDen impl_AnswerWants_d_sh)) (a0 : T2) (a1 : T8) (a2 : Int) : ∀ (n : Nat) (z100101 : T8) (z100102 : T4) (x8 : Int), (f11_d_l0_p FUEL K n a0 a1 a2 z100101 z100102 x8 : Option (shDen impl_AnswerWants_d_sh)) = impl_AnswerWants_d_l0_L (fun z100101 z100102 x4 => K .ret (f11_d_l0_o a0 a1 a2 z100101 z100102 x4)) (fun z100101 z100102 => K (.exit 0) (f11_d_l0_o0 a0 a1 a2 z100101 z100102)) a0 a1 a2 n z100101 z100102 x8 := by
 intro n
 induction n with
 | zero => intros; rfl
 | succ n ih =>
  intro z100101 z100102 x8
  exact (f11_d_l0_round FUEL K n a0 a1 a2 z100101 z100102 x8).trans (congrArg (fun f => impl_AnswerWants_d_l0_b f (fun z100101 z100102 x4 => K .ret (f11_d_l0_o a0 a1 a2 z100101 z100102 x4)) (fun z100101 z100102 => K (.exit 0) (f11_d_l0_o0 a0 a1 a2 z100101 z100102)) a0 a1 a2 z100101 z100102 x8) (funext fun z100101 => funext fun z100102 => funext fun x8 => ih z100101 z100102 x8))

theorem f11_d_start (k : Nat) (a0 : T2) (a1 : T8) (a2 : Int) : fnK (f11_d_cx k) 8 11 f11_i impl_AnswerWants_d_sh [.pv K3 a0, .pv K12 a1, .pv (.int .i64) a2] =
 ((bindO (impl_ValidStore_r a0) fun (b1 : Bool) => (cond (!b1)
 (some ([], (1 : Int)))
 (bindO (impl_Store_keys_r a0) fun (b2 : T8) => (bindO (slices_Clone_impl_Blob_impl_Blob_r a0.1) fun (b3 : T4) => (loopK (f11_d_cx k) 3 (execK (f11_d_cx k) (callK (f11_d_cx k) 5) 3 11001400340018006100070089 (sub f89_c [1, 0, 1, 0, 0])) f11_d_l0_cut (blkK 0 (seqK (execK (f11_d_cx k) (callK (f11_d_cx k) 5) 3 11001400340018006100070089 (sub f89_c [1, 1])) (retK (f11_d_cx k) f89_i (some 7) 2 (opsRest (f11_d_cx k) (callK (f11_d_cx k) 6) 2 110014003400180061 false (regOps (sub f61_c [1, 0])) 2 (seqK (execK (f11_d_cx k) (callK (f11_d_cx k) 6) 2 110014003400180061 (sub f61_c [1, 1])) (retK (f11_d_cx k) f61_i (some 18) 1 (opsRest (f11_d_cx k) (callK (f11_d_cx k) 7) 1 1100140034 false (regOps (sub f34_c [1, 1, 0, 0, 1, 1, 0])) 1 (seqK (execK (f11_d_cx k) (callK (f11_d_cx k) 7) 1 1100140034 (sub f34_c [1, 1, 0, 0, 1, 1, 1])) (blkK 0 (seqK (execK (f11_d_cx k) (callK (f11_d_cx k) 7) 1 1100140034 (sub f34_c [1, 1, 1])) (retK (f11_d_cx k) f34_i (some 14) 0 (opsRest (f11_d_cx k) (callK (f11_d_cx k) 8) 0 11 false (regOps (sub f11_c [1, 0])) 3 (seqK (execK (f11_d_cx k) (callK (f11_d_cx k) 8) 0 11 (sub f11_c [1, 1])) (finK (f11_d_cx k) f11_i impl_AnswerWants_d_sh)))))))))))))) k (f11_d_l0_s a0 a1 a2 b2 b3 (0 : Int))))))) : Option (shDen impl_AnswerWants_d_sh)) := by kernel_rfl

theorem f11_d_run (a0 : T2) (a1 : T8) (a2 : Int) : fnK (f11_d_cx FUEL) 8 11 f11_i impl_AnswerWants_d_sh [.pv K3 a0, .pv K12 a1, .pv (.int .i64) a2] = impl_AnswerWants_d_r a0 a1 a2 :=
 (f11_d_start FUEL a0 a1 a2).trans (bindC (fun b1 => condC (rfl) (bindC (fun b2 => bindC (fun b3 => (f11_d_l0_L_eq _ a0 a1 a2 FUEL b2 b3 (0 : Int)).trans (cong2 (fun e0 e1 => impl_AnswerWants_d_l0_L e0 e1 a0 a1 a2 FUEL b2 b3 (0 : Int)) (funext fun z100101 => funext fun z100102 => funext fun x4 => (f11_d_l0_ret FUEL  a0 a1 a2 z100101 z100102 x4).trans (rfl)) (funext fun z100101 => funext fun z100102 => (f11_d_l0_exit0 FUEL  a0 a1 a2 z100101 z100102).trans (rfl))))))))

noncomputable def f11_d_con : Con := { ps := (.pair K3 K5), sh := impl_AnswerWants_d_sh, raw := fun x => impl_AnswerWants_d_r x.1 x.2.1 x.2.2.1 }
theorem f11_d_conOk : ConOk Tryz.prog 11 f11_d_con := con_of_fn (f11_d_tabs FUEL) (depth := 8) f11_ok fun x y h => (f11_d_run x.1 x.2.1 x.2.2.1).trans h

noncomputable def f67_l0_cut : Cut := { keep := [0, 1, 5], stk := [], ids := [], own := [], outs := [(0, [4], []), (1, [], [])] }
noncomputable def f67_cx (k : Nat) : Cx := mkC [] [] [] [] [(67, [(0, f67_l0_cut)])] k [] false
theorem f67_tabs (k : Nat) : TabsOk Tryz.prog (f67_cx k) := mkC_ok trivial trivial trivial trivial
abbrev laws_eqByteS_sh : List Sh := [.pl .bool]
noncomputable def f67_l0_s (a0 : (List Int)) (a1 : (List Int)) (x5 : Int) : St := { env := (.pv K16 a0 :: .pv K16 a1 :: (dd 3 (.pv (.int .i64) x5 :: (dd 20 [])))), stk := [], heap := [] }
noncomputable def f67_l0_o  : St := { env := (dd 4 (.pv .bool false :: (dd 21 []))), stk := [], heap := [] }
noncomputable def f67_l0_o0  : St := { env := (dd 26 []), stk := [], heap := [] }
noncomputable def laws_eqByteS_l0_b (rec : Int → Option (shDen laws_eqByteS_sh)) (kr : Option (shDen laws_eqByteS_sh)) (ke0 : Option (shDen laws_eqByteS_sh)) (a0 : (List Int)) (a1 : (List Int)) (x5 : Int) : Option (shDen laws_eqByteS_sh) :=
 (cond (decide (x5 < (a0.length : Int)))
 (cond ((decide ((0 : Int) ≤ x5)) && (decide (x5 < (a0.length : Int))))
 (cond ((decide ((0 : Int) ≤ x5)) && (decide (x5 < (a1.length : Int))))
 (cond (!(decide ((a0.getD (x5.toNat) (0 : Int)) = (a1.getD (x5.toNat) (0 : Int)))))
 (kr)
 (rec (IntKind.wrap .i64 (x5 + (1 : Int)))))
 none)
 none)
 (ke0))
noncomputable def laws_eqByteS_l0_L (kr : Option (shDen laws_eqByteS_sh)) (ke0 : Option (shDen laws_eqByteS_sh)) (a0 : (List Int)) (a1 : (List Int)) : Nat → Int → Option (shDen laws_eqByteS_sh)
 | 0 => fun _ => none
 | n + 1 => laws_eqByteS_l0_b (laws_eqByteS_l0_L kr ke0 a0 a1 n) kr ke0 a0 a1
noncomputable def laws_eqByteS_r (a0 : (List Int)) (a1 : (List Int)) : Option (shDen laws_eqByteS_sh) :=
 (cond (!(decide ((a0.length : Int) = (a1.length : Int))))
 (some false)
 (laws_eqByteS_l0_L (some false) (some true) a0 a1 FUEL (0 : Int)))
noncomputable def f67_l0_p (k : Nat) (K : Ex → St → Option (shDen laws_eqByteS_sh)) (n : Nat) (a0 : (List Int)) (a1 : (List Int)) (x5 : Int) : Option (shDen laws_eqByteS_sh) := loopK (f67_cx k) 0 (execK (f67_cx k) (callK (f67_cx k) 8) 0 67 (sub f67_c [1, 1, 0, 1, 0, 0])) f67_l0_cut K n (f67_l0_s a0 a1 x5)

theorem f67_l0_ret (k : Nat)   : ((blkK 0 (seqK (execK (f67_cx k) (callK (f67_cx k) 8) 0 67 (sub f67_c [1, 1, 1])) (finK (f67_cx k) f67_i laws_eqByteS_sh))) .ret (f67_l0_o) : Option (shDen laws_eqByteS_sh)) =
 ((some false) : Option (shDen laws_eqByteS_sh)) := by kernel_rfl

theorem f67_l0_exit0 (k : Nat)   : ((blkK 0 (seqK (execK (f67_cx k) (callK (f67_cx k) 8) 0 67 (sub f67_c [1, 1, 1])) (finK (f67_cx k) f67_i laws_eqByteS_sh))) (.exit 0) (f67_l0_o0) : Option (shDen laws_eqByteS_sh)) =
 ((some true) : Option (shDen laws_eqByteS_sh)) := by kernel_rfl

theorem f67_l0_round (k : Nat) (K : Ex → St → Option (shDen laws_eqByteS_sh)) (n : Nat) (a0 : (List Int)) (a1 : (List Int)) (x5 : Int) : (f67_l0_p k K (n + 1) a0 a1 x5 : Option (shDen laws_eqByteS_sh)) = laws_eqByteS_l0_b ((fun x5 => f67_l0_p k K n a0 a1 x5)) (K .ret (f67_l0_o)) (K (.exit 0) (f67_l0_o0)) a0 a1 x5 := by kernel_rfl

theorem f67_l0_L_eq (K : Ex → St → Option (shDen laws_eqByteS_sh)) (a0 : (List Int)) (a1 : (List Int)) : ∀ (n : Nat) (x5 : Int), (f67_l0_p FUEL K n a0 a1 x5 : Option (shDen laws_eqByteS_sh)) = laws_eqByteS_l0_L (K .ret (f67_l0_o)) (K (.exit 0) (f67_l0_o0)) a0 a1 n x5 := by
 intro n
 induction n with
 | zero => intros; rfl
 | succ n ih =>
  intro x5
  exact (f67_l0_round FUEL K n a0 a1 x5).trans (congrArg (fun f => laws_eqByteS_l0_b f (K .ret (f67_l0_o)) (K (.exit 0) (f67_l0_o0)) a0 a1 x5) (funext fun x5 => ih x5))

theorem f67_start (k : Nat) (a0 : (List Int)) (a1 : (List Int)) : fnK (f67_cx k) 8 67 f67_i laws_eqByteS_sh [.pv K16 a0, .pv K16 a1] =
 ((cond (!(decide ((a0.length : Int) = (a1.length : Int))))
 (some false)
 (loopK (f67_cx k) 0 (execK (f67_cx k) (callK (f67_cx k) 8) 0 67 (sub f67_c [1, 1, 0, 1, 0, 0])) f67_l0_cut (blkK 0 (seqK (execK (f67_cx k) (callK (f67_cx k) 8) 0 67 (sub f67_c [1, 1, 1])) (finK (f67_cx k) f67_i laws_eqByteS_sh))) k (f67_l0_s a0 a1 (0 : Int)))) : Option (shDen laws_eqByteS_sh)) := by kernel_rfl

theorem f67_run (a0 : (List Int)) (a1 : (List Int)) : fnK (f67_cx FUEL) 8 67 f67_i laws_eqByteS_sh [.pv K16 a0, .pv K16 a1] = laws_eqByteS_r a0 a1 :=
 (f67_start FUEL a0 a1).trans (condC (rfl) ((f67_l0_L_eq _ a0 a1 FUEL (0 : Int)).trans (cong2 (fun e0 e1 => laws_eqByteS_l0_L e0 e1 a0 a1 FUEL (0 : Int)) ( (f67_l0_ret FUEL  ).trans (rfl)) ( (f67_l0_exit0 FUEL  ).trans (rfl)))))

noncomputable def f67_con : Con := { ps := (.pair K16 K11), sh := laws_eqByteS_sh, raw := fun x => laws_eqByteS_r x.1 x.2.1 }
theorem f67_conOk : ConOk Tryz.prog 67 f67_con := con_of_fn (f67_tabs FUEL) (depth := 8) f67_ok fun x y h => (f67_run x.1 x.2.1).trans h

noncomputable def f37_cx (k : Nat) : Cx := mkC [] [(67, f67_con)] [] [] [] k [] false
theorem f37_tabs (k : Nat) : TabsOk Tryz.prog (f37_cx k) := mkC_ok ⟨f67_conOk, trivial⟩ trivial trivial trivial
abbrev laws_eqBlob_sh : List Sh := [.pl .bool]
noncomputable def laws_eqBlob_r (a0 : T5) (a1 : T5) : Option (shDen laws_eqBlob_sh) :=
 (cond (!(decide (a0.1 = a1.1)))
 (some false)
 (bindO (laws_eqByteS_r a0.2.1 a1.2.1) fun (b1 : Bool) => (cond (!b1)
 (some false)
 (some true))))
theorem f37_run (a0 : T5) (a1 : T5) : fnK (f37_cx FUEL) 8 37 f37_i laws_eqBlob_sh [.pv K8 a0, .pv K8 a1] = laws_eqBlob_r a0 a1 := by kernel_rfl

noncomputable def f37_con : Con := { ps := (.pair K8 K4), sh := laws_eqBlob_sh, raw := fun x => laws_eqBlob_r x.1 x.2.1 }
theorem f37_conOk : ConOk Tryz.prog 37 f37_con := con_of_fn (f37_tabs FUEL) (depth := 8) f37_ok fun x y h => (f37_run x.1 x.2.1).trans h

noncomputable def f12_l0_cut : Cut := { keep := [0, 1, 5], stk := [], ids := [], own := [], outs := [(0, [4], []), (1, [], [])] }
noncomputable def f12_cx (k : Nat) : Cx := mkC [] [(37, f37_con)] [] [] [(12, [(0, f12_l0_cut)])] k [] false
theorem f12_tabs (k : Nat) : TabsOk Tryz.prog (f12_cx k) := mkC_ok ⟨f37_conOk, trivial⟩ trivial trivial trivial
abbrev laws_eqBlobS_sh : List Sh := [.pl .bool]
noncomputable def f12_l0_s (a0 : T4) (a1 : T4) (x5 : Int) : St := { env := (.pv K6 a0 :: .pv K6 a1 :: (dd 3 (.pv (.int .i64) x5 :: (dd 21 [])))), stk := [], heap := [] }
noncomputable def f12_l0_o  : St := { env := (dd 4 (.pv .bool false :: (dd 22 []))), stk := [], heap := [] }
noncomputable def f12_l0_o0  : St := { env := (dd 27 []), stk := [], heap := [] }
noncomputable def laws_eqBlobS_l0_b (rec : Int → Option (shDen laws_eqBlobS_sh)) (kr : Option (shDen laws_eqBlobS_sh)) (ke0 : Option (shDen laws_eqBlobS_sh)) (a0 : T4) (a1 : T4) (x5 : Int) : Option (shDen laws_eqBlobS_sh) :=
 (cond (decide (x5 < (a0.length : Int)))
 (cond ((decide ((0 : Int) ≤ x5)) && (decide (x5 < (a0.length : Int))))
 (cond ((decide ((0 : Int) ≤ x5)) && (decide (x5 < (a1.length : Int))))
 (bindO (laws_eqBlob_r (a0.getD (x5.toNat) ((0 : Int), ([], ()))) (a1.getD (x5.toNat) ((0 : Int), ([], ())))) fun (b2 : Bool) => (cond (!b2)
 (kr)
 (rec (IntKind.wrap .i64 (x5 + (1 : Int))))))
 none)
 none)
 (ke0))
noncomputable def laws_eqBlobS_l0_L (kr : Option (shDen laws_eqBlobS_sh)) (ke0 : Option (shDen laws_eqBlobS_sh)) (a0 : T4) (a1 : T4) : Nat → Int → Option (shDen laws_eqBlobS_sh)
 | 0 => fun _ => none
 | n + 1 => laws_eqBlobS_l0_b (laws_eqBlobS_l0_L kr ke0 a0 a1 n) kr ke0 a0 a1
noncomputable def laws_eqBlobS_r (a0 : T4) (a1 : T4) : Option (shDen laws_eqBlobS_sh) :=
 (cond (!(decide ((a0.length : Int) = (a1.length : Int))))
 (some false)
 (laws_eqBlobS_l0_L (some false) (some true) a0 a1 FUEL (0 : Int)))
noncomputable def f12_l0_p (k : Nat) (K : Ex → St → Option (shDen laws_eqBlobS_sh)) (n : Nat) (a0 : T4) (a1 : T4) (x5 : Int) : Option (shDen laws_eqBlobS_sh) := loopK (f12_cx k) 0 (execK (f12_cx k) (callK (f12_cx k) 8) 0 12 (sub f12_c [1, 1, 0, 1, 0, 0])) f12_l0_cut K n (f12_l0_s a0 a1 x5)

theorem f12_l0_ret (k : Nat)   : ((blkK 0 (seqK (execK (f12_cx k) (callK (f12_cx k) 8) 0 12 (sub f12_c [1, 1, 1])) (finK (f12_cx k) f12_i laws_eqBlobS_sh))) .ret (f12_l0_o) : Option (shDen laws_eqBlobS_sh)) =
 ((some false) : Option (shDen laws_eqBlobS_sh)) := by kernel_rfl

theorem f12_l0_exit0 (k : Nat)   : ((blkK 0 (seqK (execK (f12_cx k) (callK (f12_cx k) 8) 0 12 (sub f12_c [1, 1, 1])) (finK (f12_cx k) f12_i laws_eqBlobS_sh))) (.exit 0) (f12_l0_o0) : Option (shDen laws_eqBlobS_sh)) =
 ((some true) : Option (shDen laws_eqBlobS_sh)) := by kernel_rfl

theorem f12_l0_round (k : Nat) (K : Ex → St → Option (shDen laws_eqBlobS_sh)) (n : Nat) (a0 : T4) (a1 : T4) (x5 : Int) : (f12_l0_p k K (n + 1) a0 a1 x5 : Option (shDen laws_eqBlobS_sh)) = laws_eqBlobS_l0_b ((fun x5 => f12_l0_p k K n a0 a1 x5)) (K .ret (f12_l0_o)) (K (.exit 0) (f12_l0_o0)) a0 a1 x5 := by kernel_rfl

theorem f12_l0_L_eq (K : Ex → St → Option (shDen laws_eqBlobS_sh)) (a0 : T4) (a1 : T4) : ∀ (n : Nat) (x5 : Int), (f12_l0_p FUEL K n a0 a1 x5 : Option (shDen laws_eqBlobS_sh)) = laws_eqBlobS_l0_L (K .ret (f12_l0_o)) (K (.exit 0) (f12_l0_o0)) a0 a1 n x5 := by
 intro n
 induction n with
 | zero => intros; rfl
 | succ n ih =>
  intro x5
  exact (f12_l0_round FUEL K n a0 a1 x5).trans (congrArg (fun f => laws_eqBlobS_l0_b f (K .ret (f12_l0_o)) (K (.exit 0) (f12_l0_o0)) a0 a1 x5) (funext fun x5 => ih x5))

theorem f12_start (k : Nat) (a0 : T4) (a1 : T4) : fnK (f12_cx k) 8 12 f12_i laws_eqBlobS_sh [.pv K6 a0, .pv K6 a1] =
 ((cond (!(decide ((a0.length : Int) = (a1.length : Int))))
 (some false)
 (loopK (f12_cx k) 0 (execK (f12_cx k) (callK (f12_cx k) 8) 0 12 (sub f12_c [1, 1, 0, 1, 0, 0])) f12_l0_cut (blkK 0 (seqK (execK (f12_cx k) (callK (f12_cx k) 8) 0 12 (sub f12_c [1, 1, 1])) (finK (f12_cx k) f12_i laws_eqBlobS_sh))) k (f12_l0_s a0 a1 (0 : Int)))) : Option (shDen laws_eqBlobS_sh)) := by kernel_rfl

theorem f12_run (a0 : T4) (a1 : T4) : fnK (f12_cx FUEL) 8 12 f12_i laws_eqBlobS_sh [.pv K6 a0, .pv K6 a1] = laws_eqBlobS_r a0 a1 :=
 (f12_start FUEL a0 a1).trans (condC (rfl) ((f12_l0_L_eq _ a0 a1 FUEL (0 : Int)).trans (cong2 (fun e0 e1 => laws_eqBlobS_l0_L e0 e1 a0 a1 FUEL (0 : Int)) ( (f12_l0_ret FUEL  ).trans (rfl)) ( (f12_l0_exit0 FUEL  ).trans (rfl)))))

noncomputable def f12_con : Con := { ps := (.pair K6 K3), sh := laws_eqBlobS_sh, raw := fun x => laws_eqBlobS_r x.1 x.2.1 }
theorem f12_conOk : ConOk Tryz.prog 12 f12_con := con_of_fn (f12_tabs FUEL) (depth := 8) f12_ok fun x y h => (f12_run x.1 x.2.1).trans h

noncomputable def f13_cx (k : Nat) : Cx := mkC [] [(12, f12_con)] [] [] [] k [] false
theorem f13_tabs (k : Nat) : TabsOk Tryz.prog (f13_cx k) := mkC_ok ⟨f12_conOk, trivial⟩ trivial trivial trivial
abbrev laws_eqStore_sh : List Sh := [.pl .bool]
noncomputable def laws_eqStore_r (a0 : T2) (a1 : T2) : Option (shDen laws_eqStore_sh) :=
 (bindO (laws_eqBlobS_r a0.1 a1.1) fun (b1 : Bool) => (cond (!b1)
 (some false)
 (some true)))
theorem f13_run (a0 : T2) (a1 : T2) : fnK (f13_cx FUEL) 8 13 f13_i laws_eqStore_sh [.pv K3 a0, .pv K3 a1] = laws_eqStore_r a0 a1 := by kernel_rfl

noncomputable def f13_con : Con := { ps := (.pair K3 K2), sh := laws_eqStore_sh, raw := fun x => laws_eqStore_r x.1 x.2.1 }
theorem f13_conOk : ConOk Tryz.prog 13 f13_con := con_of_fn (f13_tabs FUEL) (depth := 8) f13_ok fun x y h => (f13_run x.1 x.2.1).trans h

noncomputable def f23_l0_cut : Cut := { keep := [2, 3, 5], stk := [], ids := [20, 30], own := [], outs := [(0, [4], []), (1, [], [])] }
noncomputable def f23_cx (k : Nat) : Cx := mkC [] [] [] [] [(23, [(0, f23_l0_cut)])] k [] false
theorem f23_tabs (k : Nat) : TabsOk Tryz.prog (f23_cx k) := mkC_ok trivial trivial trivial trivial
abbrev laws_eqKey_sh : List Sh := [.pl .bool]
noncomputable def f23_l0_s (a0 : (List Int)) (a1 : (List Int)) (x5 : Int) : St := { env := (.dead :: .dead :: .ptr 20 (.arr 32 (.int .u8)) [] :: .ptr 30 (.arr 32 (.int .u8)) [] :: .dead :: .pv (.int .i64) x5 :: (dd 11 [])), stk := [], heap := [(20, .var (.arr 32 (.int .u8)) (.pv (.arr 32 (.int .u8)) a0)), (30, .var (.arr 32 (.int .u8)) (.pv (.arr 32 (.int .u8)) a1))] }
noncomputable def f23_l0_o  : St := { env := (dd 4 (.pv .bool false :: (dd 12 []))), stk := [], heap := [] }
noncomputable def f23_l0_o0  : St := { env := (dd 17 []), stk := [], heap := [] }
noncomputable def laws_eqKey_l0_b (rec : Int → Option (shDen laws_eqKey_sh)) (kr : Option (shDen laws_eqKey_sh)) (ke0 : Option (shDen laws_eqKey_sh)) (a0 : (List Int)) (a1 : (List Int)) (x5 : Int) : Option (shDen laws_eqKey_sh) :=
 (cond (decide (x5 < (32 : Int)))
 (cond ((decide ((0 : Int) ≤ x5)) && (decide (x5 < (32 : Int))))
 (cond ((decide ((0 : Int) ≤ x5)) && (decide (x5 < (32 : Int))))
 (cond (!(decide ((a0.getD (x5.toNat) (0 : Int)) = (a1.getD (x5.toNat) (0 : Int)))))
 (kr)
 (rec (IntKind.wrap .i64 (x5 + (1 : Int)))))
 none)
 none)
 (ke0))
noncomputable def laws_eqKey_l0_L (kr : Option (shDen laws_eqKey_sh)) (ke0 : Option (shDen laws_eqKey_sh)) (a0 : (List Int)) (a1 : (List Int)) : Nat → Int → Option (shDen laws_eqKey_sh)
 | 0 => fun _ => none
 | n + 1 => laws_eqKey_l0_b (laws_eqKey_l0_L kr ke0 a0 a1 n) kr ke0 a0 a1
noncomputable def laws_eqKey_r (a0 : (List Int)) (a1 : (List Int)) : Option (shDen laws_eqKey_sh) :=
 (laws_eqKey_l0_L (some false) (some true) a0 a1 FUEL (0 : Int))
noncomputable def f23_l0_p (k : Nat) (K : Ex → St → Option (shDen laws_eqKey_sh)) (n : Nat) (a0 : (List Int)) (a1 : (List Int)) (x5 : Int) : Option (shDen laws_eqKey_sh) := loopK (f23_cx k) 0 (execK (f23_cx k) (callK (f23_cx k) 8) 0 23 (sub f23_c [1, 0, 1, 0, 0])) f23_l0_cut K n (f23_l0_s a0 a1 x5)

theorem f23_l0_ret (k : Nat)   : ((blkK 0 (seqK (execK (f23_cx k) (callK (f23_cx k) 8) 0 23 (sub f23_c [1, 1])) (finK (f23_cx k) f23_i laws_eqKey_sh))) .ret (f23_l0_o) : Option (shDen laws_eqKey_sh)) =
 ((some false) : Option (shDen laws_eqKey_sh)) := by kernel_rfl

theorem f23_l0_exit0 (k : Nat)   : ((blkK 0 (seqK (execK (f23_cx k) (callK (f23_cx k) 8) 0 23 (sub f23_c [1, 1])) (finK (f23_cx k) f23_i laws_eqKey_sh))) (.exit 0) (f23_l0_o0) : Option (shDen laws_eqKey_sh)) =
 ((some true) : Option (shDen laws_eqKey_sh)) := by kernel_rfl

theorem f23_l0_round (k : Nat) (K : Ex → St → Option (shDen laws_eqKey_sh)) (n : Nat) (a0 : (List Int)) (a1 : (List Int)) (x5 : Int) : (f23_l0_p k K (n + 1) a0 a1 x5 : Option (shDen laws_eqKey_sh)) = laws_eqKey_l0_b ((fun x5 => f23_l0_p k K n a0 a1 x5)) (K .ret (f23_l0_o)) (K (.exit 0) (f23_l0_o0)) a0 a1 x5 := by kernel_rfl

theorem f23_l0_L_eq (K : Ex → St → Option (shDen laws_eqKey_sh)) (a0 : (List Int)) (a1 : (List Int)) : ∀ (n : Nat) (x5 : Int), (f23_l0_p FUEL K n a0 a1 x5 : Option (shDen laws_eqKey_sh)) = laws_eqKey_l0_L (K .ret (f23_l0_o)) (K (.exit 0) (f23_l0_o0)) a0 a1 n x5 := by
 intro n
 induction n with
 | zero => intros; rfl
 | succ n ih =>
  intro x5
  exact (f23_l0_round FUEL K n a0 a1 x5).trans (congrArg (fun f => laws_eqKey_l0_b f (K .ret (f23_l0_o)) (K (.exit 0) (f23_l0_o0)) a0 a1 x5) (funext fun x5 => ih x5))

theorem f23_start (k : Nat) (a0 : (List Int)) (a1 : (List Int)) : fnK (f23_cx k) 8 23 f23_i laws_eqKey_sh [.pv (.arr 32 (.int .u8)) a0, .pv (.arr 32 (.int .u8)) a1] =
 ((loopK (f23_cx k) 0 (execK (f23_cx k) (callK (f23_cx k) 8) 0 23 (sub f23_c [1, 0, 1, 0, 0])) f23_l0_cut (blkK 0 (seqK (execK (f23_cx k) (callK (f23_cx k) 8) 0 23 (sub f23_c [1, 1])) (finK (f23_cx k) f23_i laws_eqKey_sh))) k (f23_l0_s a0 a1 (0 : Int))) : Option (shDen laws_eqKey_sh)) := by kernel_rfl

theorem f23_run (a0 : (List Int)) (a1 : (List Int)) : fnK (f23_cx FUEL) 8 23 f23_i laws_eqKey_sh [.pv (.arr 32 (.int .u8)) a0, .pv (.arr 32 (.int .u8)) a1] = laws_eqKey_r a0 a1 :=
 (f23_start FUEL a0 a1).trans ((f23_l0_L_eq _ a0 a1 FUEL (0 : Int)).trans (cong2 (fun e0 e1 => laws_eqKey_l0_L e0 e1 a0 a1 FUEL (0 : Int)) ( (f23_l0_ret FUEL  ).trans (rfl)) ( (f23_l0_exit0 FUEL  ).trans (rfl))))

noncomputable def f23_con : Con := { ps := (.pair (.arr 32 (.int .u8)) K10), sh := laws_eqKey_sh, raw := fun x => laws_eqKey_r x.1 x.2.1 }
theorem f23_conOk : ConOk Tryz.prog 23 f23_con := con_of_fn (f23_tabs FUEL) (depth := 8) f23_ok fun x y h => (f23_run x.1 x.2.1).trans h

noncomputable def f14_l0_cut : Cut := { keep := [0, 1, 5], stk := [], ids := [], own := [], outs := [(0, [4], []), (1, [], [])] }
noncomputable def f14_cx (k : Nat) : Cx := mkC [] [(23, f23_con)] [] [] [(14, [(0, f14_l0_cut)])] k [] false
theorem f14_tabs (k : Nat) : TabsOk Tryz.prog (f14_cx k) := mkC_ok ⟨f23_conOk, trivial⟩ trivial trivial trivial
abbrev laws_eqKeyS_sh : List Sh := [.pl .bool]
noncomputable def f14_l0_s (a0 : T8) (a1 : T8) (x5 : Int) : St := { env := (.pv K12 a0 :: .pv K12 a1 :: (dd 3 (.pv (.int .i64) x5 :: (dd 21 [])))), stk := [], heap := [] }
noncomputable def f14_l0_o  : St := { env := (dd 4 (.pv .bool false :: (dd 22 []))), stk := [], heap := [] }
noncomputable def f14_l0_o0  : St := { env := (dd 27 []), stk := [], heap := [] }
noncomputable def laws_eqKeyS_l0_b (rec : Int → Option (shDen laws_eqKeyS_sh)) (kr : Option (shDen laws_eqKeyS_sh)) (ke0 : Option (shDen laws_eqKeyS_sh)) (a0 : T8) (a1 : T8) (x5 : Int) : Option (shDen laws_eqKeyS_sh) :=
 (cond (decide (x5 < (a0.length : Int)))
 (cond ((decide ((0 : Int) ≤ x5)) && (decide (x5 < (a0.length : Int))))
 (cond ((decide ((0 : Int) ≤ x5)) && (decide (x5 < (a1.length : Int))))
 (bindO (laws_eqKey_r (a0.getD (x5.toNat) (List.replicate 32 (0 : Int))) (a1.getD (x5.toNat) (List.replicate 32 (0 : Int)))) fun (b2 : Bool) => (cond (!b2)
 (kr)
 (rec (IntKind.wrap .i64 (x5 + (1 : Int))))))
 none)
 none)
 (ke0))
noncomputable def laws_eqKeyS_l0_L (kr : Option (shDen laws_eqKeyS_sh)) (ke0 : Option (shDen laws_eqKeyS_sh)) (a0 : T8) (a1 : T8) : Nat → Int → Option (shDen laws_eqKeyS_sh)
 | 0 => fun _ => none
 | n + 1 => laws_eqKeyS_l0_b (laws_eqKeyS_l0_L kr ke0 a0 a1 n) kr ke0 a0 a1
noncomputable def laws_eqKeyS_r (a0 : T8) (a1 : T8) : Option (shDen laws_eqKeyS_sh) :=
 (cond (!(decide ((a0.length : Int) = (a1.length : Int))))
 (some false)
 (laws_eqKeyS_l0_L (some false) (some true) a0 a1 FUEL (0 : Int)))
noncomputable def f14_l0_p (k : Nat) (K : Ex → St → Option (shDen laws_eqKeyS_sh)) (n : Nat) (a0 : T8) (a1 : T8) (x5 : Int) : Option (shDen laws_eqKeyS_sh) := loopK (f14_cx k) 0 (execK (f14_cx k) (callK (f14_cx k) 8) 0 14 (sub f14_c [1, 1, 0, 1, 0, 0])) f14_l0_cut K n (f14_l0_s a0 a1 x5)

theorem f14_l0_ret (k : Nat)   : ((blkK 0 (seqK (execK (f14_cx k) (callK (f14_cx k) 8) 0 14 (sub f14_c [1, 1, 1])) (finK (f14_cx k) f14_i laws_eqKeyS_sh))) .ret (f14_l0_o) : Option (shDen laws_eqKeyS_sh)) =
 ((some false) : Option (shDen laws_eqKeyS_sh)) := by kernel_rfl

theorem f14_l0_exit0 (k : Nat)   : ((blkK 0 (seqK (execK (f14_cx k) (callK (f14_cx k) 8) 0 14 (sub f14_c [1, 1, 1])) (finK (f14_cx k) f14_i laws_eqKeyS_sh))) (.exit 0) (f14_l0_o0) : Option (shDen laws_eqKeyS_sh)) =
 ((some true) : Option (shDen laws_eqKeyS_sh)) := by kernel_rfl

theorem f14_l0_round (k : Nat) (K : Ex → St → Option (shDen laws_eqKeyS_sh)) (n : Nat) (a0 : T8) (a1 : T8) (x5 : Int) : (f14_l0_p k K (n + 1) a0 a1 x5 : Option (shDen laws_eqKeyS_sh)) = laws_eqKeyS_l0_b ((fun x5 => f14_l0_p k K n a0 a1 x5)) (K .ret (f14_l0_o)) (K (.exit 0) (f14_l0_o0)) a0 a1 x5 := by kernel_rfl

theorem f14_l0_L_eq (K : Ex → St → Option (shDen laws_eqKeyS_sh)) (a0 : T8) (a1 : T8) : ∀ (n : Nat) (x5 : Int), (f14_l0_p FUEL K n a0 a1 x5 : Option (shDen laws_eqKeyS_sh)) = laws_eqKeyS_l0_L (K .ret (f14_l0_o)) (K (.exit 0) (f14_l0_o0)) a0 a1 n x5 := by
 intro n
 induction n with
 | zero => intros; rfl
 | succ n ih =>
  intro x5
  exact (f14_l0_round FUEL K n a0 a1 x5).trans (congrArg (fun f => laws_eqKeyS_l0_b f (K .ret (f14_l0_o)) (K (.exit 0) (f14_l0_o0)) a0 a1 x5) (funext fun x5 => ih x5))

theorem f14_start (k : Nat) (a0 : T8) (a1 : T8) : fnK (f14_cx k) 8 14 f14_i laws_eqKeyS_sh [.pv K12 a0, .pv K12 a1] =
 ((cond (!(decide ((a0.length : Int) = (a1.length : Int))))
 (some false)
 (loopK (f14_cx k) 0 (execK (f14_cx k) (callK (f14_cx k) 8) 0 14 (sub f14_c [1, 1, 0, 1, 0, 0])) f14_l0_cut (blkK 0 (seqK (execK (f14_cx k) (callK (f14_cx k) 8) 0 14 (sub f14_c [1, 1, 1])) (finK (f14_cx k) f14_i laws_eqKeyS_sh))) k (f14_l0_s a0 a1 (0 : Int)))) : Option (shDen laws_eqKeyS_sh)) := by kernel_rfl

theorem f14_run (a0 : T8) (a1 : T8) : fnK (f14_cx FUEL) 8 14 f14_i laws_eqKeyS_sh [.pv K12 a0, .pv K12 a1] = laws_eqKeyS_r a0 a1 :=
 (f14_start FUEL a0 a1).trans (condC (rfl) ((f14_l0_L_eq _ a0 a1 FUEL (0 : Int)).trans (cong2 (fun e0 e1 => laws_eqKeyS_l0_L e0 e1 a0 a1 FUEL (0 : Int)) ( (f14_l0_ret FUEL  ).trans (rfl)) ( (f14_l0_exit0 FUEL  ).trans (rfl)))))

noncomputable def f14_con : Con := { ps := (.pair K12 K9), sh := laws_eqKeyS_sh, raw := fun x => laws_eqKeyS_r x.1 x.2.1 }
theorem f14_conOk : ConOk Tryz.prog 14 f14_con := con_of_fn (f14_tabs FUEL) (depth := 8) f14_ok fun x y h => (f14_run x.1 x.2.1).trans h

noncomputable def f38_l0_cut : Cut := { keep := [0, 1, 5], stk := [], ids := [7], own := [], outs := [(1, [1], [7])] }
noncomputable def f38_cx (k : Nat) : Cx := mkC [] [] [] [] [(38, [(0, f38_l0_cut)])] k [] false
theorem f38_tabs (k : Nat) : TabsOk Tryz.prog (f38_cx k) := mkC_ok trivial trivial trivial trivial
abbrev laws_markByteS_sh : List Sh := [.pl (.int .i64)]
noncomputable def f38_l0_s (x1 : Int) (x5 : Int) (z7 : (List Int)) : St := { env := (.sl 7 (.int .u8) :: .pv (.int .i64) x1 :: (dd 3 (.pv (.int .i64) x5 :: (dd 14 [])))), stk := [], heap := [(7, .arr 5 (.int .u8) z7)] }
noncomputable def f38_l0_o0 (x1 : Int) (z7 : (List Int)) : St := { env := (.dead :: .pv (.int .i64) x1 :: (dd 18 [])), stk := [], heap := [(7, .arr 5 (.int .u8) z7)] }
noncomputable def laws_markByteS_l0_b (rec : Int → Int → (List Int) → Option ((List Int) × shDen laws_markByteS_sh)) (ke0 : Int → (List Int) → Option ((List Int) × shDen laws_markByteS_sh)) (x1 : Int) (x5 : Int) (z7 : (List Int)) : Option ((List Int) × shDen laws_markByteS_sh) :=
 (cond (decide (x5 < (z7.length : Int)))
 (cond ((decide ((0 : Int) ≤ x5)) && (decide (x5 < (z7.length : Int))))
 (rec (IntKind.wrap .i64 (x1 + (1 : Int))) (IntKind.wrap .i64 (x5 + (1 : Int))) (z7.set (x5.toNat) (IntKind.wrap .u8 x1)))
 none)
 (ke0 x1 z7))
noncomputable def laws_markByteS_l0_L (ke0 : Int → (List Int) → Option ((List Int) × shDen laws_markByteS_sh))  : Nat → Int → Int → (List Int) → Option ((List Int) × shDen laws_markByteS_sh)
 | 0 => fun _ _ _ => none
 | n + 1 => laws_markByteS_l0_b (laws_markByteS_l0_L ke0  n) ke0 
noncomputable def laws_markByteS_r (a0 : (List Int)) (a1 : Int) : Option ((List Int) × shDen laws_markByteS_sh) :=
 (laws_markByteS_l0_L (fun x1 z7 => (some (z7, x1))) FUEL a1 (0 : Int) a0)
noncomputable def f38_l0_p (k : Nat) (K : Ex → St → Option ((List Int) × shDen laws_markByteS_sh)) (n : Nat) (x1 : Int) (x5 : Int) (z7 : (List Int)) : Option ((List Int) × shDen laws_markByteS_sh) := loopK (f38_cx k) 0 (execK (f38_cx k) (callK (f38_cx k) 8) 0 38 (sub f38_c [1, 0, 1, 0, 0])) f38_l0_cut K n (f38_l0_s x1 x5 z7)

theorem f38_l0_exit0 (k : Nat)  (x1 : Int) (z7 : (List Int)) : ((blkK 0 (seqK (execK (f38_cx k) (callK (f38_cx k) 8) 0 38 (sub f38_c [1, 1])) (finIK (f38_cx k) f38_i (.arr 5 (.int .u8)) laws_markByteS_sh))) (.exit 0) (f38_l0_o0 x1 z7) : Option ((List Int) × shDen laws_markByteS_sh)) =
 ((some (z7, x1)) : Option ((List Int) × shDen laws_markByteS_sh)) := by kernel_rfl

theorem f38_l0_round (k : Nat) (K : Ex → St → Option ((List Int) × shDen laws_markByteS_sh)) (n : Nat) (x1 : Int) (x5 : Int) (z7 : (List Int)) : (f38_l0_p k K (n + 1)  x1 x5 z7 : Option ((List Int) × shDen laws_markByteS_sh)) = laws_markByteS_l0_b ((fun x1 x5 z7 => f38_l0_p k K n  x1 x5 z7)) (fun x1 z7 => K (.exit 0) (f38_l0_o0 x1 z7))  x1 x5 z7 := by kernel_rfl

theorem f38_l0_L_eq (K : Ex → St → Option ((List Int) × shDen laws_markByteS_sh))  : ∀ (n : Nat) (x1 : Int) (x5 : Int) (z7 : (List Int)), (f38_l0_p FUEL K n  x1 x5 z7 : Option ((List Int) × shDen laws_markByteS_sh)) = laws_markByteS_l0_L (fun x1 z7 => K (.exit 0) (f38_l0_o0 x1 z7))  n x1 x5 z7 := by
 intro n
 induction n with
 | zero => intros; rfl
 | succ n ih =>
  intro x1 x5 z7
  exact (f38_l0_round FUEL K n  x1 x5 z7).trans (congrArg (fun f => laws_markByteS_l0_b f (fun x1 z7 => K (.exit 0) (f38_l0_o0 x1 z7))  x1 x5 z7) (funext fun x1 => funext fun x5 => funext fun z7 => ih x1 x5 z7))

theorem f38_start (k : Nat) (a0 : (List Int)) (a1 : Int) : fnIK (f38_cx k) 8 38 f38_i (.arr 5 (.int .u8)) laws_markByteS_sh a0 [.pv (.int .i64) a1] =
 ((loopK (f38_cx k) 0 (execK (f38_cx k) (callK (f38_cx k) 8) 0 38 (sub f38_c [1, 0, 1, 0, 0])) f38_l0_cut (blkK 0 (seqK (execK (f38_cx k) (callK (f38_cx k) 8) 0 38 (sub f38_c [1, 1])) (finIK (f38_cx k) f38_i (.arr 5 (.int .u8)) laws_markByteS_sh))) k (f38_l0_s a1 (0 : Int) a0)) : Option ((List Int) × shDen laws_markByteS_sh)) := by kernel_rfl

theorem f38_run (a0 : (List Int)) (a1 : Int) : fnIK (f38_cx FUEL) 8 38 f38_i (.arr 5 (.int .u8)) laws_markByteS_sh a0 [.pv (.int .i64) a1] = laws_markByteS_r a0 a1 :=
 (f38_start FUEL a0 a1).trans ((f38_l0_L_eq _  FUEL a1 (0 : Int) a0).trans (congrArg (fun e0 => laws_markByteS_l0_L e0  FUEL a1 (0 : Int) a0) (funext fun x1 => funext fun z7 => (f38_l0_exit0 FUEL  x1 z7).trans (rfl))))

noncomputable def f38_inp : ConI := { k := (.arr 5 (.int .u8)), ps := K14, sh := laws_markByteS_sh, raw := fun x q => laws_markByteS_r x q.1 }
theorem f38_inpOk : InpOk Tryz.prog 38 f38_inp := inp_of_fn (f38_tabs FUEL) (depth := 8) f38_ok fun x q z h => (f38_run x q.1).trans h

noncomputable def f17_d_l0_cut : Cut := { keep := [0, 1, 5], stk := [], ids := [7], own := [], outs := [(1, [1], [7])] }
noncomputable def f17_d_cx (k : Nat) : Cx := mkC [] [] [] [(38, f38_inp)] [(17, [(0, f17_d_l0_cut)])] k dps false
theorem f17_d_tabs (k : Nat) : TabsOk Tryz.prog (f17_d_cx k) := mkC_ok trivial trivial ⟨f38_inpOk, trivial⟩ trivial
abbrev laws_markBlobS_d_sh : List Sh := [.pl (.int .i64)]
noncomputable def f17_d_l0_s (x1 : Int) (x5 : Int) (z7 : T4) : St := { env := (.inn 7 [] K8 :: .pv (.int .i64) x1 :: (dd 3 (.pv (.int .i64) x5 :: (dd 22 [])))), stk := [], heap := [(7, .tre 72 (.pr (.pl (.int .u8)) (.pr (.sl 5 (.pl (.int .u8))) (.pl .unit))) z7)] }
noncomputable def f17_d_l0_o0 (x1 : Int) (z7 : T4) : St := { env := (.dead :: .pv (.int .i64) x1 :: (dd 26 [])), stk := [], heap := [(7, .tre 72 (.pr (.pl (.int .u8)) (.pr (.sl 5 (.pl (.int .u8))) (.pl .unit))) z7)] }
noncomputable def laws_markBlobS_d_l0_b (rec : Int → Int → T4 → Option (T4 × shDen laws_markBlobS_d_sh)) (ke0 : Int → T4 → Option (T4 × shDen laws_markBlobS_d_sh)) (x1 : Int) (x5 : Int) (z7 : T4) : Option (T4 × shDen laws_markBlobS_d_sh) :=
 (cond (decide (x5 < (z7.length : Int)))
 (cond ((decide ((0 : Int) ≤ x5)) && (decide (x5 < (z7.length : Int))))
 (cond ((decide ((0 : Int) ≤ x5)) && (decide (x5 < ((z7.set (x5.toNat) ((IntKind.wrap .u8 x1), (z7.getD (x5.toNat) ((0 : Int), ([], ()))).2)).length : Int))))
 (cond (decide ((x5.toNat) < List.length (z7.set (x5.toNat) ((IntKind.wrap .u8 x1), (z7.getD (x5.toNat) ((0 : Int), ([], ()))).2))) && true) (bindO (laws_markByteS_r ((((z7.set (x5.toNat) ((IntKind.wrap .u8 x1), (z7.getD (x5.toNat) ((0 : Int), ([], ()))).2)).getD (x5.toNat) ((0 : Int), ([], ()))).2).1) (IntKind.wrap .i64 (x1 + (1 : Int)))) fun (b2 : ((List Int) × Int)) => (rec b2.2 (IntKind.wrap .i64 (x5 + (1 : Int))) ((z7.set (x5.toNat) ((IntKind.wrap .u8 x1), (z7.getD (x5.toNat) ((0 : Int), ([], ()))).2)).set (x5.toNat) (((z7.set (x5.toNat) ((IntKind.wrap .u8 x1), (z7.getD (x5.toNat) ((0 : Int), ([], ()))).2)).getD (x5.toNat) ((0 : Int), ([], ()))).1, (b2.1, (((z7.set (x5.toNat) ((IntKind.wrap .u8 x1), (z7.getD (x5.toNat) ((0 : Int), ([], ()))).2)).getD (x5.toNat) ((0 : Int), ([], ()))).2).2))))) none)
 none)
 none)
 (ke0 x1 z7))
noncomputable def laws_markBlobS_d_l0_L (ke0 : Int → T4 → Option (T4 × shDen laws_markBlobS_d_sh))  : Nat → Int → Int → T4 → Option (T4 × shDen laws_markBlobS_d_sh)
 | 0 => fun _ _ _ => none
 | n + 1 => laws_markBlobS_d_l0_b (laws_markBlobS_d_l0_L ke0  n) ke0 
noncomputable def laws_markBlobS_d_r (a0 : T4) (a1 : Int) : Option (T4 × shDen laws_markBlobS_d_sh) :=
 (laws_markBlobS_d_l0_L (fun x1 z7 => (some (z7, x1))) FUEL a1 (0 : Int) a0)
noncomputable def f17_d_l0_p (k : Nat) (K : Ex → St → Option (T4 × shDen laws_markBlobS_d_sh)) (n : Nat) (x1 : Int) (x5 : Int) (z7 : T4) : Option (T4 × shDen laws_markBlobS_d_sh) := loopK (f17_d_cx k) 0 (execK (f17_d_cx k) (callK (f17_d_cx k) 8) 0 17 (sub f17_c [1, 0, 1, 0, 0])) f17_d_l0_cut K n (f17_d_l0_s x1 x5 z7)

theorem f17_d_l0_exit0 (k : Nat)  (x1 : Int) (z7 : T4) : ((blkK 0 (seqK (execK (f17_d_cx k) (callK (f17_d_cx k) 8) 0 17 (sub f17_c [1, 1])) (finIK (f17_d_cx k) f17_i (.tre 72 (.pr (.pl (.int .u8)) (.pr (.sl 5 (.pl (.int .u8))) (.pl .unit)))) laws_markBlobS_d_sh))) (.exit 0) (f17_d_l0_o0 x1 z7) : Option (T4 × shDen laws_markBlobS_d_sh)) =
 ((some (z7, x1)) : Option (T4 × shDen laws_markBlobS_d_sh)) := by kernel_rfl

theorem f17_d_l0_round (k : Nat) (K : Ex → St → Option (T4 × shDen laws_markBlobS_d_sh)) (n : Nat) (x1 : Int) (x5 : Int) (z7 : T4) : (f17_d_l0_p k K (n + 1)  x1 x5 z7 : Option (T4 × shDen laws_markBlobS_d_sh)) = laws_markBlobS_d_l0_b ((fun x1 x5 z7 => f17_d_l0_p k K n  x1 x5 z7)) (fun x1 z7 => K (.exit 0) (f17_d_l0_o0 x1 z7))  x1 x5 z7 := by kernel_rfl

theorem f17_d_l0_L_eq (K : Ex → St → Option (T4 × shDen laws_markBlobS_d_sh))  : ∀ (n : Nat) (x1 : Int) (x5 : Int) (z7 : T4), (f17_d_l0_p FUEL K n  x1 x5 z7 : Option (T4 × shDen laws_markBlobS_d_sh)) = laws_markBlobS_d_l0_L (fun x1 z7 => K (.exit 0) (f17_d_l0_o0 x1 z7))  n x1 x5 z7 := by
 intro n
 induction n with
 | zero => intros; rfl
 | succ n ih =>
  intro x1 x5 z7
  exact (f17_d_l0_round FUEL K n  x1 x5 z7).trans (congrArg (fun f => laws_markBlobS_d_l0_b f (fun x1 z7 => K (.exit 0) (f17_d_l0_o0 x1 z7))  x1 x5 z7) (funext fun x1 => funext fun x5 => funext fun z7 => ih x1 x5 z7))

theorem f17_d_start (k : Nat) (a0 : T4) (a1 : Int) : fnIK (f17_d_cx k) 8 17 f17_i (.tre 72 (.pr (.pl (.int .u8)) (.pr (.sl 5 (.pl (.int .u8))) (.pl .unit)))) laws_markBlobS_d_sh a0 [.pv (.int .i64) a1] =
 ((loopK (f17_d_cx k) 0 (execK (f17_d_cx k) (callK (f17_d_cx k) 8) 0 17 (sub f17_c [1, 0, 1, 0, 0])) f17_d_l0_cut (blkK 0 (seqK (execK (f17_d_cx k) (callK (f17_d_cx k) 8) 0 17 (sub f17_c [1, 1])) (finIK (f17_d_cx k) f17_i (.tre 72 (.pr (.pl (.int .u8)) (.pr (.sl 5 (.pl (.int .u8))) (.pl .unit)))) laws_markBlobS_d_sh))) k (f17_d_l0_s a1 (0 : Int) a0)) : Option (T4 × shDen laws_markBlobS_d_sh)) := by kernel_rfl

theorem f17_d_run (a0 : T4) (a1 : Int) : fnIK (f17_d_cx FUEL) 8 17 f17_i (.tre 72 (.pr (.pl (.int .u8)) (.pr (.sl 5 (.pl (.int .u8))) (.pl .unit)))) laws_markBlobS_d_sh a0 [.pv (.int .i64) a1] = laws_markBlobS_d_r a0 a1 :=
 (f17_d_start FUEL a0 a1).trans ((f17_d_l0_L_eq _  FUEL a1 (0 : Int) a0).trans (congrArg (fun e0 => laws_markBlobS_d_l0_L e0  FUEL a1 (0 : Int) a0) (funext fun x1 => funext fun z7 => (f17_d_l0_exit0 FUEL  x1 z7).trans (rfl))))

noncomputable def f17_d_inp : ConI := { k := (.tre 72 (.pr (.pl (.int .u8)) (.pr (.sl 5 (.pl (.int .u8))) (.pl .unit)))), ps := K14, sh := laws_markBlobS_d_sh, raw := fun x q => laws_markBlobS_d_r x q.1 }
theorem f17_d_inpOk : InpOk Tryz.prog 17 f17_d_inp := inp_of_fn (f17_d_tabs FUEL) (depth := 8) f17_ok fun x q z h => (f17_d_run x q.1).trans h

noncomputable def f16_l0_cut : Cut := { keep := [0, 1, 5], stk := [], ids := [7], own := [], outs := [(1, [1], [7])] }
noncomputable def f16_l1_cut : Cut := { keep := [0, 1, 5, 6], stk := [], ids := [7], own := [], outs := [(3, [0, 1, 5], [7])] }
noncomputable def f16_cx (k : Nat) : Cx := mkC [] [] [] [] [(16, [(0, f16_l0_cut), (2, f16_l1_cut)])] k [] false
theorem f16_tabs (k : Nat) : TabsOk Tryz.prog (f16_cx k) := mkC_ok trivial trivial trivial trivial
abbrev laws_markKeyS_sh : List Sh := [.pl (.int .i64)]
noncomputable def f16_l0_s (x1 : Int) (x5 : Int) (z7 : T8) : St := { env := (.sl 7 (.arr 32 (.int .u8)) :: .pv (.int .i64) x1 :: (dd 3 (.pv (.int .i64) x5 :: (dd 21 [])))), stk := [], heap := [(7, .arr 45 (.arr 32 (.int .u8)) z7)] }
noncomputable def f16_l0_o0 (x1 : Int) (z7 : T8) : St := { env := (.dead :: .pv (.int .i64) x1 :: (dd 25 [])), stk := [], heap := [(7, .arr 45 (.arr 32 (.int .u8)) z7)] }
noncomputable def f16_l1_s (x5 : Int) (x1 : Int) (x6 : Int) (z7 : T8) : St := { env := (.sl 7 (.arr 32 (.int .u8)) :: .pv (.int .i64) x1 :: (dd 3 (.pv (.int .i64) x5 :: .pv (.int .i64) x6 :: (dd 20 [])))), stk := [], heap := [(7, .arr 45 (.arr 32 (.int .u8)) z7)] }
noncomputable def f16_l1_o2 (x5 : Int) (x1 : Int) (z7 : T8) : St := { env := (.sl 7 (.arr 32 (.int .u8)) :: .pv (.int .i64) x1 :: (dd 3 (.pv (.int .i64) x5 :: (dd 21 [])))), stk := [], heap := [(7, .arr 45 (.arr 32 (.int .u8)) z7)] }
noncomputable def laws_markKeyS_l1_b (rec : Int → Int → T8 → Option (T8 × shDen laws_markKeyS_sh)) (ke2 : Int → T8 → Option (T8 × shDen laws_markKeyS_sh)) (x5 : Int) (x1 : Int) (x6 : Int) (z7 : T8) : Option (T8 × shDen laws_markKeyS_sh) :=
 (cond (decide (x6 < (32 : Int)))
 (cond ((decide ((0 : Int) ≤ x5)) && (decide (x5 < (z7.length : Int))))
 (cond ((decide ((0 : Int) ≤ x6)) && (decide (x6 < (32 : Int))))
 (rec (IntKind.wrap .i64 (x1 + (1 : Int))) (IntKind.wrap .i64 (x6 + (1 : Int))) (z7.set (x5.toNat) ((z7.getD (x5.toNat) (List.replicate 32 (0 : Int))).set (x6.toNat) (IntKind.wrap .u8 x1))))
 none)
 none)
 (ke2 x1 z7))
noncomputable def laws_markKeyS_l1_L (ke2 : Int → T8 → Option (T8 × shDen laws_markKeyS_sh)) (x5 : Int) : Nat → Int → Int → T8 → Option (T8 × shDen laws_markKeyS_sh)
 | 0 => fun _ _ _ => none
 | n + 1 => laws_markKeyS_l1_b (laws_markKeyS_l1_L ke2 x5 n) ke2 x5
noncomputable def laws_markKeyS_l0_b (rec : Int → Int → T8 → Option (T8 × shDen laws_markKeyS_sh)) (ke0 : Int → T8 → Option (T8 × shDen laws_markKeyS_sh)) (x1 : Int) (x5 : Int) (z7 : T8) : Option (T8 × shDen laws_markKeyS_sh) :=
 (cond (decide (x5 < (z7.length : Int)))
 (laws_markKeyS_l1_L (fun x1 z7 => (rec x1 (IntKind.wrap .i64 (x5 + (1 : Int))) z7)) x5 FUEL x1 (0 : Int) z7)
 (ke0 x1 z7))
noncomputable def laws_markKeyS_l0_L (ke0 : Int → T8 → Option (T8 × shDen laws_markKeyS_sh))  : Nat → Int → Int → T8 → Option (T8 × shDen laws_markKeyS_sh)
 | 0 => fun _ _ _ => none
 | n + 1 => laws_markKeyS_l0_b (laws_markKeyS_l0_L ke0  n) ke0 
noncomputable def laws_markKeyS_r (a0 : T8) (a1 : Int) : Option (T8 × shDen laws_markKeyS_sh) :=
 (laws_markKeyS_l0_L (fun x1 z7 => (some (z7, x1))) FUEL a1 (0 : Int) a0)
noncomputable def f16_l1_p (k : Nat) (K : Ex → St → Option (T8 × shDen laws_markKeyS_sh)) (n : Nat) (x5 : Int) (x1 : Int) (x6 : Int) (z7 : T8) : Option (T8 × shDen laws_markKeyS_sh) := loopK (f16_cx k) 0 (execK (f16_cx k) (callK (f16_cx k) 8) 0 16 (sub f16_c [1, 0, 1, 0, 0, 1, 0, 0, 1, 0, 0])) f16_l1_cut K n (f16_l1_s x5 x1 x6 z7)

theorem f16_l1_exit2 (k : Nat) (K : Ex → St → Option (T8 × shDen laws_markKeyS_sh)) (n : Nat) (x5 : Int) (x1 : Int) (z7 : T8) : ((blkK 2 (blkK 1 (seqK (execK (f16_cx k) (callK (f16_cx k) 8) 0 16 (sub f16_c [1, 0, 1, 0, 0, 1, 1])) (iterK (f16_cx k) 0 f16_l0_cut (loopK (f16_cx k) 0 (execK (f16_cx k) (callK (f16_cx k) 8) 0 16 (sub f16_c [1, 0, 1, 0, 0])) f16_l0_cut K n) K)))) (.exit 2) (f16_l1_o2 x5 x1 z7) : Option (T8 × shDen laws_markKeyS_sh)) =
 ((loopK (f16_cx k) 0 (execK (f16_cx k) (callK (f16_cx k) 8) 0 16 (sub f16_c [1, 0, 1, 0, 0])) f16_l0_cut K n (f16_l0_s x1 (IntKind.wrap .i64 (x5 + (1 : Int))) z7)) : Option (T8 × shDen laws_markKeyS_sh)) := by kernel_rfl

theorem f16_l1_round (k : Nat) (K : Ex → St → Option (T8 × shDen laws_markKeyS_sh)) (n : Nat) (x5 : Int) (x1 : Int) (x6 : Int) (z7 : T8) : (f16_l1_p k K (n + 1) x5 x1 x6 z7 : Option (T8 × shDen laws_markKeyS_sh)) = laws_markKeyS_l1_b ((fun x1 x6 z7 => f16_l1_p k K n x5 x1 x6 z7)) (fun x1 z7 => K (.exit 2) (f16_l1_o2 x5 x1 z7)) x5 x1 x6 z7 := by kernel_rfl

theorem f16_l1_L_eq (K : Ex → St → Option (T8 × shDen laws_markKeyS_sh)) (x5 : Int) : ∀ (n : Nat) (x1 : Int) (x6 : Int) (z7 : T8), (f16_l1_p FUEL K n x5 x1 x6 z7 : Option (T8 × shDen laws_markKeyS_sh)) = laws_markKeyS_l1_L (fun x1 z7 => K (.exit 2) (f16_l1_o2 x5 x1 z7)) x5 n x1 x6 z7 := by
 intro n
 induction n with
 | zero => intros; rfl
 | succ n ih =>
  intro x1 x6 z7
  exact (f16_l1_round FUEL K n x5 x1 x6 z7).trans (congrArg (fun f => laws_markKeyS_l1_b f (fun x1 z7 => K (.exit 2) (f16_l1_o2 x5 x1 z7)) x5 x1 x6 z7) (funext fun x1 => funext fun x6 => funext fun z7 => ih x1 x6 z7))

noncomputable def f16_l0_p (k : Nat) (K : Ex → St → Option (T8 × shDen laws_markKeyS_sh)) (n : Nat) (x1 : Int) (x5 : Int) (z7 : T8) : Option (T8 × shDen laws_markKeyS_sh) := loopK (f16_cx k) 0 (execK (f16_cx k) (callK (f16_cx k) 8) 0 16 (sub f16_c [1, 0, 1, 0, 0])) f16_l0_cut K n (f16_l0_s x1 x5 z7)

theorem f16_l0_round (k : Nat) (K : Ex → St → Option (T8 × shDen laws_markKeyS_sh)) (n : Nat) (x1 : Int) (x5 : Int) (z7 : T8) : (f16_l0_p k K (n + 1)  x1 x5 z7 : Option (T8 × shDen laws_markKeyS_sh)) =
 ((cond (decide (x5 < (z7.length : Int)))
 (loopK (f16_cx k) 0 (execK (f16_cx k) (callK (f16_cx k) 8) 0 16 (sub f16_c [1, 0, 1, 0, 0, 1, 0, 0, 1, 0, 0])) f16_l1_cut (blkK 2 (blkK 1 (seqK (execK (f16_cx k) (callK (f16_cx k) 8) 0 16 (sub f16_c [1, 0, 1, 0, 0, 1, 1])) (iterK (f16_cx k) 0 f16_l0_cut (loopK (f16_cx k) 0 (execK (f16_cx k) (callK (f16_cx k) 8) 0 16 (sub f16_c [1, 0, 1, 0, 0])) f16_l0_cut K n) K)))) k (f16_l1_s x5 x1 (0 : Int) z7))
 (K (.exit 0) (f16_l0_o0 x1 z7))) : Option (T8 × shDen laws_markKeyS_sh)) := by kernel_rfl

theorem f16_l0_exit0 (k : Nat)  (x1 : Int) (z7 : T8) : ((blkK 0 (seqK (execK (f16_cx k) (callK (f16_cx k) 8) 0 16 (sub f16_c [1, 1])) (finIK (f16_cx k) f16_i (.arr 45 (.arr 32 (.int .u8))) laws_markKeyS_sh))) (.exit 0) (f16_l0_o0 x1 z7) : Option (T8 × shDen laws_markKeyS_sh)) =
 ((some (z7, x1)) : Option (T8 × shDen laws_markKeyS_sh)) := by kernel_rfl

theorem f16_l0_L_eq (K : Ex → St → Option (T8 × shDen laws_markKeyS_sh))  : ∀ (n : Nat) (x1 : Int) (x5 : Int) (z7 : T8), (f16_l0_p FUEL K n  x1 x5 z7 : Option (T8 × shDen laws_markKeyS_sh)) = laws_markKeyS_l0_L (fun x1 z7 => K (.exit 0) (f16_l0_o0 x1 z7))  n x1 x5 z7 := by
 intro n
 induction n with
 | zero => intros; rfl
 | succ n ih =>
  intro x1 x5 z7
  exact (f16_l0_round FUEL K n  x1 x5 z7).trans (condC ((f16_l1_L_eq _ x5 FUEL x1 (0 : Int) z7).trans (congrArg (fun e0 => laws_markKeyS_l1_L e0 x5 FUEL x1 (0 : Int) z7) (funext fun x1 => funext fun z7 => (f16_l1_exit2 FUEL K n x5 x1 z7).trans (ih x1 (IntKind.wrap .i64 (x5 + (1 : Int))) z7)))) (rfl))

theorem f16_start (k : Nat) (a0 : T8) (a1 : Int) : fnIK (f16_cx k) 8 16 f16_i (.arr 45 (.arr 32 (.int .u8))) laws_markKeyS_sh a0 [.pv (.int .i64) a1] =
 ((loopK (f16_cx k) 0 (execK (f16_cx k) (callK (f16_cx k) 8) 0 16 (sub f16_c [1, 0, 1, 0, 0])) f16_l0_cut (blkK 0 (seqK (execK (f16_cx k) (callK (f16_cx k) 8) 0 16 (sub f16_c [1, 1])) (finIK (f16_cx k) f16_i (.arr 45 (.arr 32 (.int .u8))) laws_markKeyS_sh))) k (f16_l0_s a1 (0 : Int) a0)) : Option (T8 × shDen laws_markKeyS_sh)) := by kernel_rfl

theorem f16_run (a0 : T8) (a1 : Int) : fnIK (f16_cx FUEL) 8 16 f16_i (.arr 45 (.arr 32 (.int .u8))) laws_markKeyS_sh a0 [.pv (.int .i64) a1] = laws_markKeyS_r a0 a1 :=
 (f16_start FUEL a0 a1).trans ((f16_l0_L_eq _  FUEL a1 (0 : Int) a0).trans (congrArg (fun e0 => laws_markKeyS_l0_L e0  FUEL a1 (0 : Int) a0) (funext fun x1 => funext fun z7 => (f16_l0_exit0 FUEL  x1 z7).trans (rfl))))

noncomputable def f16_inp : ConI := { k := (.arr 45 (.arr 32 (.int .u8))), ps := K14, sh := laws_markKeyS_sh, raw := fun x q => laws_markKeyS_r x q.1 }
theorem f16_inpOk : InpOk Tryz.prog 16 f16_inp := inp_of_fn (f16_tabs FUEL) (depth := 8) f16_ok fun x q z h => (f16_run x q.1).trans h

noncomputable def f39_l0_cut : Cut := { keep := [0, 1, 5], stk := [], ids := [], own := [], outs := [(0, [4], []), (1, [1], [])] }
noncomputable def f39_cx (k : Nat) : Cx := mkC [] [] [] [] [(39, [(0, f39_l0_cut)])] k [] false
theorem f39_tabs (k : Nat) : TabsOk Tryz.prog (f39_cx k) := mkC_ok trivial trivial trivial trivial
abbrev laws_heldByteS_sh : List Sh := [.pl (.int .i64)]
noncomputable def f39_l0_s (a0 : (List Int)) (x1 : Int) (x5 : Int) : St := { env := (.pv K16 a0 :: .pv (.int .i64) x1 :: (dd 3 (.pv (.int .i64) x5 :: (dd 16 [])))), stk := [], heap := [] }
noncomputable def f39_l0_o  : St := { env := (dd 4 (.pv (.int .i64) (-1 : Int) :: (dd 17 []))), stk := [], heap := [] }
noncomputable def f39_l0_o0 (x1 : Int) : St := { env := (.dead :: .pv (.int .i64) x1 :: (dd 20 [])), stk := [], heap := [] }
noncomputable def laws_heldByteS_l0_b (rec : Int → Int → Option (shDen laws_heldByteS_sh)) (kr : Option (shDen laws_heldByteS_sh)) (ke0 : Int → Option (shDen laws_heldByteS_sh)) (a0 : (List Int)) (x1 : Int) (x5 : Int) : Option (shDen laws_heldByteS_sh) :=
 (cond (decide (x5 < (a0.length : Int)))
 (cond ((decide ((0 : Int) ≤ x5)) && (decide (x5 < (a0.length : Int))))
 (cond (!(decide ((a0.getD (x5.toNat) (0 : Int)) = (IntKind.wrap .u8 x1))))
 (kr)
 (rec (IntKind.wrap .i64 (x1 + (1 : Int))) (IntKind.wrap .i64 (x5 + (1 : Int)))))
 none)
 (ke0 x1))
noncomputable def laws_heldByteS_l0_L (kr : Option (shDen laws_heldByteS_sh)) (ke0 : Int → Option (shDen laws_heldByteS_sh)) (a0 : (List Int)) : Nat → Int → Int → Option (shDen laws_heldByteS_sh)
 | 0 => fun _ _ => none
 | n + 1 => laws_heldByteS_l0_b (laws_heldByteS_l0_L kr ke0 a0 n) kr ke0 a0
noncomputable def laws_heldByteS_r (a0 : (List Int)) (a1 : Int) : Option (shDen laws_heldByteS_sh) :=
 (laws_heldByteS_l0_L (some (-1 : Int)) (fun x1 => (some x1)) a0 FUEL a1 (0 : Int))
noncomputable def f39_l0_p (k : Nat) (K : Ex → St → Option (shDen laws_heldByteS_sh)) (n : Nat) (a0 : (List Int)) (x1 : Int) (x5 : Int) : Option (shDen laws_heldByteS_sh) := loopK (f39_cx k) 0 (execK (f39_cx k) (callK (f39_cx k) 8) 0 39 (sub f39_c [1, 0, 1, 0, 0])) f39_l0_cut K n (f39_l0_s a0 x1 x5)

theorem f39_l0_ret (k : Nat)   : ((blkK 0 (seqK (execK (f39_cx k) (callK (f39_cx k) 8) 0 39 (sub f39_c [1, 1])) (finK (f39_cx k) f39_i laws_heldByteS_sh))) .ret (f39_l0_o) : Option (shDen laws_heldByteS_sh)) =
 ((some (-1 : Int)) : Option (shDen laws_heldByteS_sh)) := by kernel_rfl

theorem f39_l0_exit0 (k : Nat)  (x1 : Int) : ((blkK 0 (seqK (execK (f39_cx k) (callK (f39_cx k) 8) 0 39 (sub f39_c [1, 1])) (finK (f39_cx k) f39_i laws_heldByteS_sh))) (.exit 0) (f39_l0_o0 x1) : Option (shDen laws_heldByteS_sh)) =
 ((some x1) : Option (shDen laws_heldByteS_sh)) := by kernel_rfl

theorem f39_l0_round (k : Nat) (K : Ex → St → Option (shDen laws_heldByteS_sh)) (n : Nat) (a0 : (List Int)) (x1 : Int) (x5 : Int) : (f39_l0_p k K (n + 1) a0 x1 x5 : Option (shDen laws_heldByteS_sh)) = laws_heldByteS_l0_b ((fun x1 x5 => f39_l0_p k K n a0 x1 x5)) (K .ret (f39_l0_o)) (fun x1 => K (.exit 0) (f39_l0_o0 x1)) a0 x1 x5 := by kernel_rfl

theorem f39_l0_L_eq (K : Ex → St → Option (shDen laws_heldByteS_sh)) (a0 : (List Int)) : ∀ (n : Nat) (x1 : Int) (x5 : Int), (f39_l0_p FUEL K n a0 x1 x5 : Option (shDen laws_heldByteS_sh)) = laws_heldByteS_l0_L (K .ret (f39_l0_o)) (fun x1 => K (.exit 0) (f39_l0_o0 x1)) a0 n x1 x5 := by
 intro n
 induction n with
 | zero => intros; rfl
 | succ n ih =>
  intro x1 x5
  exact (f39_l0_round FUEL K n a0 x1 x5).trans (congrArg (fun f => laws_heldByteS_l0_b f (K .ret (f39_l0_o)) (fun x1 => K (.exit 0) (f39_l0_o0 x1)) a0 x1 x5) (funext fun x1 => funext fun x5 => ih x1 x5))

theorem f39_start (k : Nat) (a0 : (List Int)) (a1 : Int) : fnK (f39_cx k) 8 39 f39_i laws_heldByteS_sh [.pv K16 a0, .pv (.int .i64) a1] =
 ((loopK (f39_cx k) 0 (execK (f39_cx k) (callK (f39_cx k) 8) 0 39 (sub f39_c [1, 0, 1, 0, 0])) f39_l0_cut (blkK 0 (seqK (execK (f39_cx k) (callK (f39_cx k) 8) 0 39 (sub f39_c [1, 1])) (finK (f39_cx k) f39_i laws_heldByteS_sh))) k (f39_l0_s a0 a1 (0 : Int))) : Option (shDen laws_heldByteS_sh)) := by kernel_rfl

theorem f39_run (a0 : (List Int)) (a1 : Int) : fnK (f39_cx FUEL) 8 39 f39_i laws_heldByteS_sh [.pv K16 a0, .pv (.int .i64) a1] = laws_heldByteS_r a0 a1 :=
 (f39_start FUEL a0 a1).trans ((f39_l0_L_eq _ a0 FUEL a1 (0 : Int)).trans (cong2 (fun e0 e1 => laws_heldByteS_l0_L e0 e1 a0 FUEL a1 (0 : Int)) ( (f39_l0_ret FUEL  ).trans (rfl)) (funext fun x1 => (f39_l0_exit0 FUEL  x1).trans (rfl))))

noncomputable def f39_con : Con := { ps := K7, sh := laws_heldByteS_sh, raw := fun x => laws_heldByteS_r x.1 x.2.1 }
theorem f39_conOk : ConOk Tryz.prog 39 f39_con := con_of_fn (f39_tabs FUEL) (depth := 8) f39_ok fun x y h => (f39_run x.1 x.2.1).trans h

noncomputable def f18_l0_cut : Cut := { keep := [0, 1, 5], stk := [], ids := [], own := [], outs := [(0, [4], []), (1, [1], [])] }
noncomputable def f18_cx (k : Nat) : Cx := mkC [] [(39, f39_con)] [] [] [(18, [(0, f18_l0_cut)])] k [] false
theorem f18_tabs (k : Nat) : TabsOk Tryz.prog (f18_cx k) := mkC_ok ⟨f39_conOk, trivial⟩ trivial trivial trivial
abbrev laws_heldBlobS_sh : List Sh := [.pl (.int .i64)]
noncomputable def f18_l0_s (a0 : T4) (x1 : Int) (x5 : Int) : St := { env := (.pv K6 a0 :: .pv (.int .i64) x1 :: (dd 3 (.pv (.int .i64) x5 :: (dd 26 [])))), stk := [], heap := [] }
noncomputable def f18_l0_o  : St := { env := (dd 4 (.pv (.int .i64) (-1 : Int) :: (dd 27 []))), stk := [], heap := [] }
noncomputable def f18_l0_o0 (x1 : Int) : St := { env := (.dead :: .pv (.int .i64) x1 :: (dd 30 [])), stk := [], heap := [] }
noncomputable def laws_heldBlobS_l0_b (rec : Int → Int → Option (shDen laws_heldBlobS_sh)) (kr : Option (shDen laws_heldBlobS_sh)) (ke0 : Int → Option (shDen laws_heldBlobS_sh)) (a0 : T4) (x1 : Int) (x5 : Int) : Option (shDen laws_heldBlobS_sh) :=
 (cond (decide (x5 < (a0.length : Int)))
 (cond ((decide ((0 : Int) ≤ x5)) && (decide (x5 < (a0.length : Int))))
 (cond (!(decide ((a0.getD (x5.toNat) ((0 : Int), ([], ()))).1 = (IntKind.wrap .u8 x1))))
 (kr)
 (cond ((decide ((0 : Int) ≤ x5)) && (decide (x5 < (a0.length : Int))))
 (bindO (laws_heldByteS_r (((a0.getD (x5.toNat) ((0 : Int), ([], ()))).2).1) (IntKind.wrap .i64 (x1 + (1 : Int)))) fun (b2 : Int) => (cond (decide (b2 < (0 : Int)))
 (kr)
 (rec b2 (IntKind.wrap .i64 (x5 + (1 : Int))))))
 none))
 none)
 (ke0 x1))
noncomputable def laws_heldBlobS_l0_L (kr : Option (shDen laws_heldBlobS_sh)) (ke0 : Int → Option (shDen laws_heldBlobS_sh)) (a0 : T4) : Nat → Int → Int → Option (shDen laws_heldBlobS_sh)
 | 0 => fun _ _ => none
 | n + 1 => laws_heldBlobS_l0_b (laws_heldBlobS_l0_L kr ke0 a0 n) kr ke0 a0
noncomputable def laws_heldBlobS_r (a0 : T4) (a1 : Int) : Option (shDen laws_heldBlobS_sh) :=
 (laws_heldBlobS_l0_L (some (-1 : Int)) (fun x1 => (some x1)) a0 FUEL a1 (0 : Int))
noncomputable def f18_l0_p (k : Nat) (K : Ex → St → Option (shDen laws_heldBlobS_sh)) (n : Nat) (a0 : T4) (x1 : Int) (x5 : Int) : Option (shDen laws_heldBlobS_sh) := loopK (f18_cx k) 0 (execK (f18_cx k) (callK (f18_cx k) 8) 0 18 (sub f18_c [1, 0, 1, 0, 0])) f18_l0_cut K n (f18_l0_s a0 x1 x5)

theorem f18_l0_ret (k : Nat)   : ((blkK 0 (seqK (execK (f18_cx k) (callK (f18_cx k) 8) 0 18 (sub f18_c [1, 1])) (finK (f18_cx k) f18_i laws_heldBlobS_sh))) .ret (f18_l0_o) : Option (shDen laws_heldBlobS_sh)) =
 ((some (-1 : Int)) : Option (shDen laws_heldBlobS_sh)) := by kernel_rfl

theorem f18_l0_exit0 (k : Nat)  (x1 : Int) : ((blkK 0 (seqK (execK (f18_cx k) (callK (f18_cx k) 8) 0 18 (sub f18_c [1, 1])) (finK (f18_cx k) f18_i laws_heldBlobS_sh))) (.exit 0) (f18_l0_o0 x1) : Option (shDen laws_heldBlobS_sh)) =
 ((some x1) : Option (shDen laws_heldBlobS_sh)) := by kernel_rfl

theorem f18_l0_round (k : Nat) (K : Ex → St → Option (shDen laws_heldBlobS_sh)) (n : Nat) (a0 : T4) (x1 : Int) (x5 : Int) : (f18_l0_p k K (n + 1) a0 x1 x5 : Option (shDen laws_heldBlobS_sh)) = laws_heldBlobS_l0_b ((fun x1 x5 => f18_l0_p k K n a0 x1 x5)) (K .ret (f18_l0_o)) (fun x1 => K (.exit 0) (f18_l0_o0 x1)) a0 x1 x5 := by kernel_rfl

theorem f18_l0_L_eq (K : Ex → St → Option (shDen laws_heldBlobS_sh)) (a0 : T4) : ∀ (n : Nat) (x1 : Int) (x5 : Int), (f18_l0_p FUEL K n a0 x1 x5 : Option (shDen laws_heldBlobS_sh)) = laws_heldBlobS_l0_L (K .ret (f18_l0_o)) (fun x1 => K (.exit 0) (f18_l0_o0 x1)) a0 n x1 x5 := by
 intro n
 induction n with
 | zero => intros; rfl
 | succ n ih =>
  intro x1 x5
  exact (f18_l0_round FUEL K n a0 x1 x5).trans (congrArg (fun f => laws_heldBlobS_l0_b f (K .ret (f18_l0_o)) (fun x1 => K (.exit 0) (f18_l0_o0 x1)) a0 x1 x5) (funext fun x1 => funext fun x5 => ih x1 x5))

theorem f18_start (k : Nat) (a0 : T4) (a1 : Int) : fnK (f18_cx k) 8 18 f18_i laws_heldBlobS_sh [.pv K6 a0, .pv (.int .i64) a1] =
 ((loopK (f18_cx k) 0 (execK (f18_cx k) (callK (f18_cx k) 8) 0 18 (sub f18_c [1, 0, 1, 0, 0])) f18_l0_cut (blkK 0 (seqK (execK (f18_cx k) (callK (f18_cx k) 8) 0 18 (sub f18_c [1, 1])) (finK (f18_cx k) f18_i laws_heldBlobS_sh))) k (f18_l0_s a0 a1 (0 : Int))) : Option (shDen laws_heldBlobS_sh)) := by kernel_rfl

theorem f18_run (a0 : T4) (a1 : Int) : fnK (f18_cx FUEL) 8 18 f18_i laws_heldBlobS_sh [.pv K6 a0, .pv (.int .i64) a1] = laws_heldBlobS_r a0 a1 :=
 (f18_start FUEL a0 a1).trans ((f18_l0_L_eq _ a0 FUEL a1 (0 : Int)).trans (cong2 (fun e0 e1 => laws_heldBlobS_l0_L e0 e1 a0 FUEL a1 (0 : Int)) ( (f18_l0_ret FUEL  ).trans (rfl)) (funext fun x1 => (f18_l0_exit0 FUEL  x1).trans (rfl))))

noncomputable def f18_con : Con := { ps := (.pair K6 K14), sh := laws_heldBlobS_sh, raw := fun x => laws_heldBlobS_r x.1 x.2.1 }
theorem f18_conOk : ConOk Tryz.prog 18 f18_con := con_of_fn (f18_tabs FUEL) (depth := 8) f18_ok fun x y h => (f18_run x.1 x.2.1).trans h

noncomputable def laws_FnExactAnswerWants_d_cx (k : Nat) : Cx := mkC [(15, f15_i)] [(6, f6_con), (7, f7_con), (8, f8_d_con), (9, f9_d_con), (10, f10_con), (11, f11_d_con), (12, f12_con), (13, f13_con), (14, f14_con), (18, f18_con)] [] [(16, f16_inp), (17, f17_d_inp)] [] k dps false
theorem laws_FnExactAnswerWants_d_tabs (k : Nat) : TabsOk Tryz.prog (laws_FnExactAnswerWants_d_cx k) := mkC_ok ⟨f6_conOk, f7_conOk, f8_d_conOk, f9_d_conOk, f10_conOk, f11_d_conOk, f12_conOk, f13_conOk, f14_conOk, f18_conOk, trivial⟩ trivial ⟨f16_inpOk, f17_d_inpOk, trivial⟩ ⟨f15_ok, trivial⟩
abbrev laws_FnExactAnswerWants_d_sh : List Sh := [.pl .bool]
noncomputable def laws_FnExactAnswerWants_d_r (a0 : T2) (a1 : T8) (a2 : Int) : Option (shDen laws_FnExactAnswerWants_d_sh) :=
 (bindO (laws_szStore_r a0 (1048576 : Int)) fun (b1 : Int) => (cond (decide (b1 < (0 : Int)))
 (some true)
 (bindO (laws_szKeyS_r a1 b1) fun (b2 : Int) => (cond (decide (b2 < (0 : Int)))
 (some true)
 (bindO (laws_toStore_d_r a0) fun (b3 : T2) => (bindO (laws_toKeyS_r a1) fun (b4 : T8) => (bindO (spec_AnswerWants_d_r (b3.1, ()) b4 a2) fun (b5 : T3) => (bindO (laws_toStore_d_r a0) fun (b6 : T2) => (bindO (laws_toKeyS_r a1) fun (b7 : T8) => (bindO (impl_AnswerWants_d_r (b6.1, ()) b7 a2) fun (b8 : T3) => (bindO (laws_eqBlobS_r b8.1 b5.1) fun (b9 : Bool) => (cond (!b9)
 (some false)
 (cond (!(decide (b8.2 = b5.2)))
 (some false)
 (bindO (laws_toStore_d_r a0) fun (b10 : T2) => (bindO (laws_eqStore_r (b6.1, ()) (b10.1, ())) fun (b11 : Bool) => (cond (!b11)
 (some false)
 (bindO (laws_toKeyS_r a1) fun (b12 : T8) => (bindO (laws_eqKeyS_r b7 b12) fun (b13 : Bool) => (cond (!b13)
 (some false)
 (bindO (laws_markBlobS_d_r b6.1 (1 : Int)) fun (b14 : T3) => (bindO (laws_markKeyS_r b7 b14.2) fun (b15 : (T8 × Int)) => (cond (decide (b15.2 < (0 : Int)))
 (some false)
 (bindO (laws_eqBlobS_r b8.1 b5.1) fun (b16 : Bool) => (cond (!b16)
 (some false)
 (cond (!(decide (b8.2 = b5.2)))
 (some false)
 (bindO (laws_markBlobS_d_r b8.1 (1 : Int)) fun (b17 : T3) => (bindO (laws_heldBlobS_r b17.1 (1 : Int)) fun (b18 : Int) => (cond (decide (b18 < (0 : Int)))
 (some false)
 (cond (!(decide (b18 = b17.2)))
 (some false)
 (bindO (laws_toStore_d_r a0) fun (b19 : T2) => (bindO (laws_toKeyS_r a1) fun (b20 : T8) => (bindO (impl_AnswerWants_d_r (b19.1, ()) b20 a2) fun (b21 : T3) => (bindO (laws_eqBlobS_r b21.1 b5.1) fun (b22 : Bool) => (cond (!b22)
 (some false)
 (cond (!(decide (b21.2 = b5.2)))
 (some false)
 (bindO (laws_heldBlobS_r b17.1 (1 : Int)) fun (b23 : Int) => (cond (decide (b23 < (0 : Int)))
 (some false)
 (cond (!(decide (b23 = b17.2)))
 (some false)
 (some true)))))))))))))))))))))))))))))))))))))))
theorem laws_FnExactAnswerWants_d_run (a0 : T2) (a1 : T8) (a2 : Int) : fnK (laws_FnExactAnswerWants_d_cx FUEL) 8 3 laws_FnExactAnswerWants_i laws_FnExactAnswerWants_d_sh [.pv K3 a0, .pv K12 a1, .pv (.int .i64) a2] = laws_FnExactAnswerWants_d_r a0 a1 a2 := by kernel_rfl

noncomputable def laws_FnExactAnswerWants_d_con : Con := { ps := (.pair K3 K5), sh := laws_FnExactAnswerWants_d_sh, raw := fun x => laws_FnExactAnswerWants_d_r x.1 x.2.1 x.2.2.1 }
theorem laws_FnExactAnswerWants_d_conOk : ConOk Tryz.prog 3 laws_FnExactAnswerWants_d_con := con_of_fn (laws_FnExactAnswerWants_d_tabs FUEL) (depth := 8) laws_FnExactAnswerWants_ok fun x y h => (laws_FnExactAnswerWants_d_run x.1 x.2.1 x.2.2.1).trans h

end Go.Ai.G
