/- Made by a program of this work out of the program: tables and plain functions, with the proof that each Go function does what its plain function says. No conditions. -/
import Derived.Test.YtgchclimojffeaaGreatExactProofFromCopyFn0
namespace Go.Ai.G
open Go.Proofs
open Go.Ai
set_option linter.unusedVariables false
set_option linter.unusedSimpArgs false
set_option maxRecDepth 100000

noncomputable def f119_l0_cut : Cut := { keep := [2, 3, 7, 8], stk := [], ids := [20, 30], own := [], outs := [(1, [2, 3], [20, 30])] }
noncomputable def f119_cx (k : Nat) : Cx := mkC [] [] [(134, f134_tak)] [] [(119, [(0, f119_l0_cut)])] k [] false
theorem f119_tabs (k : Nat) : TabsOk Tryz.prog (f119_cx k) := mkC_ok trivial ⟨f134_takOk, trivial⟩ trivial trivial
abbrev impl_keyOf_sh : List Sh := [.pl (.arr 32 (.int .u8))]
noncomputable def f119_l0_s (a0 : (List Int)) (x8 : Int) (y30 : (List Int)) : St := { env := (.dead :: .dead :: .ptr 20 (.arr 32 (.int .u8)) [] :: .ptr 30 (.arr 32 (.int .u8)) [] :: (dd 3 (.pv (.arr 8 (.int .u32)) a0 :: .pv (.int .i64) x8 :: (dd 12 [])))), stk := [], heap := [(20, .var (.arr 32 (.int .u8)) (.pv (.arr 32 (.int .u8)) (List.replicate 32 (0 : Int)))), (30, .var (.arr 32 (.int .u8)) (.pv (.arr 32 (.int .u8)) y30))] }
noncomputable def f119_l0_o0 (y30 : (List Int)) : St := { env := (.dead :: .dead :: .ptr 20 (.arr 32 (.int .u8)) [] :: .ptr 30 (.arr 32 (.int .u8)) [] :: (dd 17 [])), stk := [], heap := [(20, .var (.arr 32 (.int .u8)) (.pv (.arr 32 (.int .u8)) (List.replicate 32 (0 : Int)))), (30, .var (.arr 32 (.int .u8)) (.pv (.arr 32 (.int .u8)) y30))] }
noncomputable def impl_keyOf_l0_b (rec : Int → (List Int) → Option (shDen impl_keyOf_sh)) (ke0 : (List Int) → Option (shDen impl_keyOf_sh)) (a0 : (List Int)) (x8 : Int) (y30 : (List Int)) : Option (shDen impl_keyOf_sh) :=
 (cond (decide (x8 < (8 : Int)))
 (cond ((decide ((0 : Int) ≤ x8)) && (decide (x8 < (8 : Int))))
 (cond ((decide ((0 : Int) ≤ (IntKind.wrap .i64 ((4 : Int) * x8)))) && (decide ((IntKind.wrap .i64 ((4 : Int) * x8)) ≤ (32 : Int))))
 (bindO (impl_appendLittle_r [] (IntKind.wrap .u64 (a0.getD (x8.toNat) (0 : Int))) (4 : Int)) fun (b2 : (List Int)) => (rec (IntKind.wrap .i64 (x8 + (1 : Int))) (splL y30 ((IntKind.wrap .i64 ((4 : Int) * x8)).toNat) (List.take (32 - ((IntKind.wrap .i64 ((4 : Int) * x8)).toNat)) b2))))
 none)
 none)
 (ke0 y30))
noncomputable def impl_keyOf_l0_L (ke0 : (List Int) → Option (shDen impl_keyOf_sh)) (a0 : (List Int)) : Nat → Int → (List Int) → Option (shDen impl_keyOf_sh)
 | 0 => fun _ _ => none
 | n + 1 => impl_keyOf_l0_b (impl_keyOf_l0_L ke0 a0 n) ke0 a0
noncomputable def impl_keyOf_r (a0 : (List Int)) : Option (shDen impl_keyOf_sh) :=
 (impl_keyOf_l0_L (fun y30 => (some y30)) a0 FUEL (0 : Int) (List.replicate 32 (0 : Int)))
noncomputable def f119_l0_p (k : Nat) (K : Ex → St → Option (shDen impl_keyOf_sh)) (n : Nat) (a0 : (List Int)) (x8 : Int) (y30 : (List Int)) : Option (shDen impl_keyOf_sh) := loopK (f119_cx k) 0 (execK (f119_cx k) (callK (f119_cx k) 8) 0 119 (sub f119_c [1, 1, 0, 1, 0, 0])) f119_l0_cut K n (f119_l0_s a0 x8 y30)

theorem f119_l0_exit0 (k : Nat)  (y30 : (List Int)) : ((blkK 0 (seqK (execK (f119_cx k) (callK (f119_cx k) 8) 0 119 (sub f119_c [1, 1, 1])) (finK (f119_cx k) f119_i impl_keyOf_sh))) (.exit 0) (f119_l0_o0 y30) : Option (shDen impl_keyOf_sh)) =
 ((some y30) : Option (shDen impl_keyOf_sh)) := by kernel_rfl

theorem f119_l0_round (k : Nat) (K : Ex → St → Option (shDen impl_keyOf_sh)) (n : Nat) (a0 : (List Int)) (x8 : Int) (y30 : (List Int)) : (f119_l0_p k K (n + 1) a0 x8 y30 : Option (shDen impl_keyOf_sh)) = impl_keyOf_l0_b ((fun x8 y30 => f119_l0_p k K n a0 x8 y30)) (fun y30 => K (.exit 0) (f119_l0_o0 y30)) a0 x8 y30 := by kernel_rfl

theorem f119_l0_L_eq (K : Ex → St → Option (shDen impl_keyOf_sh)) (a0 : (List Int)) : ∀ (n : Nat) (x8 : Int) (y30 : (List Int)), (f119_l0_p FUEL K n a0 x8 y30 : Option (shDen impl_keyOf_sh)) = impl_keyOf_l0_L (fun y30 => K (.exit 0) (f119_l0_o0 y30)) a0 n x8 y30 := by
 intro n
 induction n with
 | zero => intros; rfl
 | succ n ih =>
  intro x8 y30
  exact (f119_l0_round FUEL K n a0 x8 y30).trans (congrArg (fun f => impl_keyOf_l0_b f (fun y30 => K (.exit 0) (f119_l0_o0 y30)) a0 x8 y30) (funext fun x8 => funext fun y30 => ih x8 y30))

theorem f119_start (k : Nat) (a0 : (List Int)) : fnK (f119_cx k) 8 119 f119_i impl_keyOf_sh [.pv (.arr 8 (.int .u32)) a0] =
 ((loopK (f119_cx k) 0 (execK (f119_cx k) (callK (f119_cx k) 8) 0 119 (sub f119_c [1, 1, 0, 1, 0, 0])) f119_l0_cut (blkK 0 (seqK (execK (f119_cx k) (callK (f119_cx k) 8) 0 119 (sub f119_c [1, 1, 1])) (finK (f119_cx k) f119_i impl_keyOf_sh))) k (f119_l0_s a0 (0 : Int) (List.replicate 32 (0 : Int)))) : Option (shDen impl_keyOf_sh)) := by kernel_rfl

theorem f119_run (a0 : (List Int)) : fnK (f119_cx FUEL) 8 119 f119_i impl_keyOf_sh [.pv (.arr 8 (.int .u32)) a0] = impl_keyOf_r a0 :=
 (f119_start FUEL a0).trans ((f119_l0_L_eq _ a0 FUEL (0 : Int) (List.replicate 32 (0 : Int))).trans (congrArg (fun e0 => impl_keyOf_l0_L e0 a0 FUEL (0 : Int) (List.replicate 32 (0 : Int))) (funext fun y30 => (f119_l0_exit0 FUEL  y30).trans (rfl))))

noncomputable def f119_con : Con := { ps := (.pair (.arr 8 (.int .u32)) .unit), sh := impl_keyOf_sh, raw := fun x => impl_keyOf_r x.1 }
theorem f119_conOk : ConOk Tryz.prog 119 f119_con := con_of_fn (f119_tabs FUEL) (depth := 8) f119_ok fun x y h => (f119_run x.1).trans h

noncomputable def f101_cx (k : Nat) : Cx := mkC [] [(65, f65_con), (116, f116_con), (117, f117_con), (118, f118_con), (119, f119_con), (120, f120_con), (121, f121_con)] [] [] [] k [] false
theorem f101_tabs (k : Nat) : TabsOk Tryz.prog (f101_cx k) := mkC_ok ⟨f65_conOk, f116_conOk, f117_conOk, f118_conOk, f119_conOk, f120_conOk, f121_conOk, trivial⟩ trivial trivial trivial
abbrev impl_hash_sh : List Sh := [.pl (.arr 32 (.int .u8))]
noncomputable def impl_hash_r (a0 : Int) (a1 : (List Int)) : Option (shDen impl_hash_sh) :=
 (bindO (impl_size_byte_r a1) fun (b1 : Int) => (bindO (impl_padding_r b1) fun (b2 : (List Int)) => (bindO (slices_Concat_byte_byte_r [a1, b2]) fun (b3 : (List Int)) => (bindO (impl_blocks_r b3) fun (b4 : (T14 × (List Int))) => (bindO (impl_StartState_r a0) fun (b5 : (List Int)) => (bindO (impl_mixed_r b5 b4.1) fun (b6 : (List Int)) => (bindO (impl_keyOf_r b6) fun (b7 : (List Int)) => (some b7))))))))
theorem f101_run (a0 : Int) (a1 : (List Int)) : fnK (f101_cx FUEL) 8 101 f101_i impl_hash_sh [.pv (.int .u8) a0, .pv K25 a1] = impl_hash_r a0 a1 := by kernel_rfl

noncomputable def f101_con : Con := { ps := K13, sh := impl_hash_sh, raw := fun x => impl_hash_r x.1 x.2.1 }
theorem f101_conOk : ConOk Tryz.prog 101 f101_con := con_of_fn (f101_tabs FUEL) (depth := 8) f101_ok fun x y h => (f101_run x.1 x.2.1).trans h

noncomputable def f85_cx (k : Nat) : Cx := mkC [] [(101, f101_con)] [] [] [] k [] false
theorem f85_tabs (k : Nat) : TabsOk Tryz.prog (f85_cx k) := mkC_ok ⟨f101_conOk, trivial⟩ trivial trivial trivial
abbrev impl_Blob_key_sh : List Sh := [.pl (.arr 32 (.int .u8))]
noncomputable def impl_Blob_key_r (a0 : T10) : Option (shDen impl_Blob_key_sh) :=
 (bindO (impl_hash_r a0.1 a0.2.1) fun (b1 : (List Int)) => (some b1))
theorem f85_run (a0 : T10) : fnK (f85_cx FUEL) 8 85 f85_i impl_Blob_key_sh [.pv K13 a0] = impl_Blob_key_r a0 := by kernel_rfl

noncomputable def f85_con : Con := { ps := K10, sh := impl_Blob_key_sh, raw := fun x => impl_Blob_key_r x.1 }
theorem f85_conOk : ConOk Tryz.prog 85 f85_con := con_of_fn (f85_tabs FUEL) (depth := 8) f85_ok fun x y h => (f85_run x.1).trans h

noncomputable def f73_l0_cut : Cut := { keep := [3, 8, 9, 10], stk := [], ids := [90030], own := [(3, 90030, 34)], outs := [(1, [3], [90030])] }
noncomputable def f73_cx (k : Nat) : Cx := mkC [] [(85, f85_con)] [] [] [(73, [(0, f73_l0_cut)])] k [] false
theorem f73_tabs (k : Nat) : TabsOk Tryz.prog (f73_cx k) := mkC_ok ⟨f85_conOk, trivial⟩ trivial trivial trivial
abbrev impl_Store_keys_sh : List Sh := [.own 45 (.arr 32 (.int .u8))]
noncomputable def f73_l0_s (a0 : T6) (x10 : Int) (z90030 : T14) : St := { env := (dd 3 (.sl 90030 (.arr 32 (.int .u8)) :: (dd 4 (.pv K11 a0.1 :: .pv (.int .i64) (a0.1.length : Int) :: .pv (.int .i64) x10 :: (dd 10 []))))), stk := [], heap := [(90030, .arr 45 (.arr 32 (.int .u8)) z90030)] }
noncomputable def f73_l0_o0 (z90030 : T14) : St := { env := (dd 3 (.sl 90030 (.arr 32 (.int .u8)) :: (dd 17 []))), stk := [], heap := [(90030, .arr 45 (.arr 32 (.int .u8)) z90030)] }
noncomputable def impl_Store_keys_l0_b (rec : Int → T14 → Option (shDen impl_Store_keys_sh)) (ke0 : T14 → Option (shDen impl_Store_keys_sh)) (a0 : T6) (x10 : Int) (z90030 : T14) : Option (shDen impl_Store_keys_sh) :=
 (cond (decide (x10 < (a0.1.length : Int)))
 (cond ((decide ((0 : Int) ≤ x10)) && (decide (x10 < (a0.1.length : Int))))
 (bindO (impl_Blob_key_r (a0.1.getD (x10.toNat) ((0 : Int), ([], ())))) fun (b2 : (List Int)) => (cond (decide ((z90030.length + 1) * 32 ≤ 140737488355328) && decide (z90030.length + 1 ≤ 9223372036854775807))
 (rec (IntKind.wrap .i64 (x10 + (1 : Int))) (z90030 ++ [b2]))
 none))
 none)
 (ke0 z90030))
noncomputable def impl_Store_keys_l0_L (ke0 : T14 → Option (shDen impl_Store_keys_sh)) (a0 : T6) : Nat → Int → T14 → Option (shDen impl_Store_keys_sh)
 | 0 => fun _ _ => none
 | n + 1 => impl_Store_keys_l0_b (impl_Store_keys_l0_L ke0 a0 n) ke0 a0
noncomputable def impl_Store_keys_r (a0 : T6) : Option (shDen impl_Store_keys_sh) :=
 (impl_Store_keys_l0_L (fun z90030 => (some z90030)) a0 FUEL (0 : Int) [])
noncomputable def f73_l0_p (k : Nat) (K : Ex → St → Option (shDen impl_Store_keys_sh)) (n : Nat) (a0 : T6) (x10 : Int) (z90030 : T14) : Option (shDen impl_Store_keys_sh) := loopK (f73_cx k) 0 (execK (f73_cx k) (callK (f73_cx k) 8) 0 73 (sub f73_c [1, 1, 0, 1, 0, 0])) f73_l0_cut K n (f73_l0_s a0 x10 z90030)

theorem f73_l0_exit0 (k : Nat)  (z90030 : T14) : ((blkK 0 (seqK (execK (f73_cx k) (callK (f73_cx k) 8) 0 73 (sub f73_c [1, 1, 1])) (finK (f73_cx k) f73_i impl_Store_keys_sh))) (.exit 0) (f73_l0_o0 z90030) : Option (shDen impl_Store_keys_sh)) =
 ((some z90030) : Option (shDen impl_Store_keys_sh)) := by kernel_rfl

theorem f73_l0_round (k : Nat) (K : Ex → St → Option (shDen impl_Store_keys_sh)) (n : Nat) (a0 : T6) (x10 : Int) (z90030 : T14) : (f73_l0_p k K (n + 1) a0 x10 z90030 : Option (shDen impl_Store_keys_sh)) = impl_Store_keys_l0_b ((fun x10 z90030 => f73_l0_p k K n a0 x10 z90030)) (fun z90030 => K (.exit 0) (f73_l0_o0 z90030)) a0 x10 z90030 := by kernel_rfl

theorem f73_l0_L_eq (K : Ex → St → Option (shDen impl_Store_keys_sh)) (a0 : T6) : ∀ (n : Nat) (x10 : Int) (z90030 : T14), (f73_l0_p FUEL K n a0 x10 z90030 : Option (shDen impl_Store_keys_sh)) = impl_Store_keys_l0_L (fun z90030 => K (.exit 0) (f73_l0_o0 z90030)) a0 n x10 z90030 := by
 intro n
 induction n with
 | zero => intros; rfl
 | succ n ih =>
  intro x10 z90030
  exact (f73_l0_round FUEL K n a0 x10 z90030).trans (congrArg (fun f => impl_Store_keys_l0_b f (fun z90030 => K (.exit 0) (f73_l0_o0 z90030)) a0 x10 z90030) (funext fun x10 => funext fun z90030 => ih x10 z90030))

theorem f73_start (k : Nat) (a0 : T6) : fnK (f73_cx k) 8 73 f73_i impl_Store_keys_sh [.pv K7 a0] =
 ((loopK (f73_cx k) 0 (execK (f73_cx k) (callK (f73_cx k) 8) 0 73 (sub f73_c [1, 1, 0, 1, 0, 0])) f73_l0_cut (blkK 0 (seqK (execK (f73_cx k) (callK (f73_cx k) 8) 0 73 (sub f73_c [1, 1, 1])) (finK (f73_cx k) f73_i impl_Store_keys_sh))) k (f73_l0_s a0 (0 : Int) [])) : Option (shDen impl_Store_keys_sh)) := by kernel_rfl

theorem f73_run (a0 : T6) : fnK (f73_cx FUEL) 8 73 f73_i impl_Store_keys_sh [.pv K7 a0] = impl_Store_keys_r a0 :=
 (f73_start FUEL a0).trans ((f73_l0_L_eq _ a0 FUEL (0 : Int) []).trans (congrArg (fun e0 => impl_Store_keys_l0_L e0 a0 FUEL (0 : Int) []) (funext fun z90030 => (f73_l0_exit0 FUEL  z90030).trans (rfl))))

noncomputable def f73_con : Con := { ps := K6, sh := impl_Store_keys_sh, raw := fun x => impl_Store_keys_r x.1 }
theorem f73_conOk : ConOk Tryz.prog 73 f73_con := con_of_fn (f73_tabs FUEL) (depth := 8) f73_ok fun x y h => (f73_run x.1).trans h

noncomputable def f110_cx (k : Nat) : Cx := mkC [] [] [] [] [] k [] false
theorem f110_tabs (k : Nat) : TabsOk Tryz.prog (f110_cx k) := mkC_ok trivial trivial trivial trivial
abbrev slices_Clone_impl_Key_impl_Key_sh : List Sh := [.own 45 (.arr 32 (.int .u8))]
noncomputable def slices_Clone_impl_Key_impl_Key_r (a0 : T14) : Option (shDen slices_Clone_impl_Key_impl_Key_sh) :=
 (cond (List.isEmpty a0) (bothO (some []) (cond (decide ((0 + a0.length) * 32 ≤ 140737488355328) && decide (0 + a0.length ≤ 9223372036854775807))
 (some ([] ++ a0))
 none)) (cond (decide ((0 + a0.length) * 32 ≤ 140737488355328) && decide (0 + a0.length ≤ 9223372036854775807))
 (some ([] ++ a0))
 none))
theorem f110_run (a0 : T14) : fnK (f110_cx FUEL) 8 110 f110_i slices_Clone_impl_Key_impl_Key_sh [.pv K21 a0] = slices_Clone_impl_Key_impl_Key_r a0 := by kernel_rfl

noncomputable def f110_con : Con := { ps := K17, sh := slices_Clone_impl_Key_impl_Key_sh, raw := fun x => slices_Clone_impl_Key_impl_Key_r x.1 }
theorem f110_conOk : ConOk Tryz.prog 110 f110_con := con_of_fn (f110_tabs FUEL) (depth := 8) f110_ok fun x y h => (f110_run x.1).trans h

noncomputable def f149_cx (k : Nat) : Cx := mkC [] [] [] [] [] k [] false
theorem f149_tabs (k : Nat) : TabsOk Tryz.prog (f149_cx k) := mkC_ok trivial trivial trivial trivial
abbrev cmp_isNaN_byte_sh : List Sh := [.pl .bool]
noncomputable def cmp_isNaN_byte_r (a0 : Int) : Option (shDen cmp_isNaN_byte_sh) :=
 (some (!(decide (a0 = a0))))
theorem f149_run (a0 : Int) : fnK (f149_cx FUEL) 8 149 f149_i cmp_isNaN_byte_sh [.pv (.int .u8) a0] = cmp_isNaN_byte_r a0 := by kernel_rfl

noncomputable def f149_con : Con := { ps := K24, sh := cmp_isNaN_byte_sh, raw := fun x => cmp_isNaN_byte_r x.1 }
theorem f149_conOk : ConOk Tryz.prog 149 f149_con := con_of_fn (f149_tabs FUEL) (depth := 8) f149_ok fun x y h => (f149_run x.1).trans h

noncomputable def f132_cx (k : Nat) : Cx := mkC [] [(149, f149_con)] [] [] [] k [] false
theorem f132_tabs (k : Nat) : TabsOk Tryz.prog (f132_cx k) := mkC_ok ⟨f149_conOk, trivial⟩ trivial trivial trivial
abbrev cmp_Compare_byte_sh : List Sh := [.pl (.int .i64)]
noncomputable def cmp_Compare_byte_r (a0 : Int) (a1 : Int) : Option (shDen cmp_Compare_byte_sh) :=
 (bindO (cmp_isNaN_byte_r a0) fun (b1 : Bool) => (bindO (cmp_isNaN_byte_r a1) fun (b2 : Bool) => (cond b1
 (cond b2
 (some (0 : Int))
 (some (-1 : Int)))
 (cond b2
 (some (1 : Int))
 (cond (decide (a0 < a1))
 (some (-1 : Int))
 (cond (decide (a1 < a0))
 (some (1 : Int))
 (some (0 : Int))))))))
theorem f132_run (a0 : Int) (a1 : Int) : fnK (f132_cx FUEL) 8 132 f132_i cmp_Compare_byte_sh [.pv (.int .u8) a0, .pv (.int .u8) a1] = cmp_Compare_byte_r a0 a1 := by kernel_rfl

noncomputable def f132_con : Con := { ps := (.pair (.int .u8) K24), sh := cmp_Compare_byte_sh, raw := fun x => cmp_Compare_byte_r x.1 x.2.1 }
theorem f132_conOk : ConOk Tryz.prog 132 f132_con := con_of_fn (f132_tabs FUEL) (depth := 8) f132_ok fun x y h => (f132_run x.1 x.2.1).trans h

noncomputable def f113_l0_cut : Cut := { keep := [0, 1, 9, 10, 11], stk := [], ids := [], own := [], outs := [(0, [4], []), (1, [0, 1], [])] }
noncomputable def f113_cx (k : Nat) : Cx := mkC [] [(132, f132_con)] [] [] [(113, [(0, f113_l0_cut)])] k [] false
theorem f113_tabs (k : Nat) : TabsOk Tryz.prog (f113_cx k) := mkC_ok ⟨f132_conOk, trivial⟩ trivial trivial trivial
abbrev slices_Compare_byte_byte_sh : List Sh := [.pl (.int .i64)]
noncomputable def f113_l0_s (a0 : (List Int)) (a1 : (List Int)) (x11 : Int) : St := { env := (.pv K25 a0 :: .pv K25 a1 :: (dd 7 (.pv K25 a0 :: .pv (.int .i64) (a0.length : Int) :: .pv (.int .i64) x11 :: (dd 24 [])))), stk := [], heap := [] }
noncomputable def f113_l0_o (x4 : Int) : St := { env := (dd 4 (.pv (.int .i64) x4 :: (dd 31 []))), stk := [], heap := [] }
noncomputable def f113_l0_o0 (a0 : (List Int)) (a1 : (List Int)) : St := { env := (.pv K25 a0 :: .pv K25 a1 :: (dd 34 [])), stk := [], heap := [] }
noncomputable def slices_Compare_byte_byte_l0_b (rec : Int → Option (shDen slices_Compare_byte_byte_sh)) (kr : Int → Option (shDen slices_Compare_byte_byte_sh)) (ke0 : Option (shDen slices_Compare_byte_byte_sh)) (a0 : (List Int)) (a1 : (List Int)) (x11 : Int) : Option (shDen slices_Compare_byte_byte_sh) :=
 (cond (decide (x11 < (a0.length : Int)))
 (cond ((decide ((0 : Int) ≤ x11)) && (decide (x11 < (a0.length : Int))))
 (cond (decide ((a1.length : Int) ≤ x11))
 (kr (1 : Int))
 (cond ((decide ((0 : Int) ≤ x11)) && (decide (x11 < (a1.length : Int))))
 (bindO (cmp_Compare_byte_r (a0.getD (x11.toNat) (0 : Int)) (a1.getD (x11.toNat) (0 : Int))) fun (b2 : Int) => (cond (!(decide (b2 = (0 : Int))))
 (kr b2)
 (rec (IntKind.wrap .i64 (x11 + (1 : Int))))))
 none))
 none)
 (ke0))
noncomputable def slices_Compare_byte_byte_l0_L (kr : Int → Option (shDen slices_Compare_byte_byte_sh)) (ke0 : Option (shDen slices_Compare_byte_byte_sh)) (a0 : (List Int)) (a1 : (List Int)) : Nat → Int → Option (shDen slices_Compare_byte_byte_sh)
 | 0 => fun _ => none
 | n + 1 => slices_Compare_byte_byte_l0_b (slices_Compare_byte_byte_l0_L kr ke0 a0 a1 n) kr ke0 a0 a1
noncomputable def slices_Compare_byte_byte_r (a0 : (List Int)) (a1 : (List Int)) : Option (shDen slices_Compare_byte_byte_sh) :=
 (slices_Compare_byte_byte_l0_L (fun x4 => (some x4)) (cond (decide ((a0.length : Int) < (a1.length : Int)))
 (some (-1 : Int))
 (some (0 : Int))) a0 a1 FUEL (0 : Int))
noncomputable def f113_l0_p (k : Nat) (K : Ex → St → Option (shDen slices_Compare_byte_byte_sh)) (n : Nat) (a0 : (List Int)) (a1 : (List Int)) (x11 : Int) : Option (shDen slices_Compare_byte_byte_sh) := loopK (f113_cx k) 0 (execK (f113_cx k) (callK (f113_cx k) 8) 0 113 (sub f113_c [1, 0, 1, 0, 0])) f113_l0_cut K n (f113_l0_s a0 a1 x11)

theorem f113_l0_ret (k : Nat)  (x4 : Int) : ((blkK 0 (seqK (execK (f113_cx k) (callK (f113_cx k) 8) 0 113 (sub f113_c [1, 1])) (finK (f113_cx k) f113_i slices_Compare_byte_byte_sh))) .ret (f113_l0_o x4) : Option (shDen slices_Compare_byte_byte_sh)) =
 ((some x4) : Option (shDen slices_Compare_byte_byte_sh)) := by kernel_rfl

theorem f113_l0_exit0 (k : Nat)  (a0 : (List Int)) (a1 : (List Int)) : ((blkK 0 (seqK (execK (f113_cx k) (callK (f113_cx k) 8) 0 113 (sub f113_c [1, 1])) (finK (f113_cx k) f113_i slices_Compare_byte_byte_sh))) (.exit 0) (f113_l0_o0 a0 a1) : Option (shDen slices_Compare_byte_byte_sh)) =
 ((cond (decide ((a0.length : Int) < (a1.length : Int)))
 (some (-1 : Int))
 (some (0 : Int))) : Option (shDen slices_Compare_byte_byte_sh)) := by kernel_rfl

theorem f113_l0_round (k : Nat) (K : Ex → St → Option (shDen slices_Compare_byte_byte_sh)) (n : Nat) (a0 : (List Int)) (a1 : (List Int)) (x11 : Int) : (f113_l0_p k K (n + 1) a0 a1 x11 : Option (shDen slices_Compare_byte_byte_sh)) = slices_Compare_byte_byte_l0_b ((fun x11 => f113_l0_p k K n a0 a1 x11)) (fun x4 => K .ret (f113_l0_o x4)) (K (.exit 0) (f113_l0_o0 a0 a1)) a0 a1 x11 := by kernel_rfl

theorem f113_l0_L_eq (K : Ex → St → Option (shDen slices_Compare_byte_byte_sh)) (a0 : (List Int)) (a1 : (List Int)) : ∀ (n : Nat) (x11 : Int), (f113_l0_p FUEL K n a0 a1 x11 : Option (shDen slices_Compare_byte_byte_sh)) = slices_Compare_byte_byte_l0_L (fun x4 => K .ret (f113_l0_o x4)) (K (.exit 0) (f113_l0_o0 a0 a1)) a0 a1 n x11 := by
 intro n
 induction n with
 | zero => intros; rfl
 | succ n ih =>
  intro x11
  exact (f113_l0_round FUEL K n a0 a1 x11).trans (congrArg (fun f => slices_Compare_byte_byte_l0_b f (fun x4 => K .ret (f113_l0_o x4)) (K (.exit 0) (f113_l0_o0 a0 a1)) a0 a1 x11) (funext fun x11 => ih x11))

theorem f113_start (k : Nat) (a0 : (List Int)) (a1 : (List Int)) : fnK (f113_cx k) 8 113 f113_i slices_Compare_byte_byte_sh [.pv K25 a0, .pv K25 a1] =
 ((loopK (f113_cx k) 0 (execK (f113_cx k) (callK (f113_cx k) 8) 0 113 (sub f113_c [1, 0, 1, 0, 0])) f113_l0_cut (blkK 0 (seqK (execK (f113_cx k) (callK (f113_cx k) 8) 0 113 (sub f113_c [1, 1])) (finK (f113_cx k) f113_i slices_Compare_byte_byte_sh))) k (f113_l0_s a0 a1 (0 : Int))) : Option (shDen slices_Compare_byte_byte_sh)) := by kernel_rfl

theorem f113_run (a0 : (List Int)) (a1 : (List Int)) : fnK (f113_cx FUEL) 8 113 f113_i slices_Compare_byte_byte_sh [.pv K25 a0, .pv K25 a1] = slices_Compare_byte_byte_r a0 a1 :=
 (f113_start FUEL a0 a1).trans ((f113_l0_L_eq _ a0 a1 FUEL (0 : Int)).trans (cong2 (fun e0 e1 => slices_Compare_byte_byte_l0_L e0 e1 a0 a1 FUEL (0 : Int)) (funext fun x4 => (f113_l0_ret FUEL  x4).trans (rfl)) ( (f113_l0_exit0 FUEL  a0 a1).trans (rfl))))

noncomputable def f113_con : Con := { ps := (.pair K25 K19), sh := slices_Compare_byte_byte_sh, raw := fun x => slices_Compare_byte_byte_r x.1 x.2.1 }
theorem f113_conOk : ConOk Tryz.prog 113 f113_con := con_of_fn (f113_tabs FUEL) (depth := 8) f113_ok fun x y h => (f113_run x.1 x.2.1).trans h

noncomputable def f97_cx (k : Nat) : Cx := mkC [] [(113, f113_con)] [] [] [] k [] false
theorem f97_tabs (k : Nat) : TabsOk Tryz.prog (f97_cx k) := mkC_ok ⟨f113_conOk, trivial⟩ trivial trivial trivial
abbrev impl_compareKeys_sh : List Sh := [.pl (.int .i64)]
noncomputable def impl_compareKeys_r (a0 : (List Int)) (a1 : (List Int)) : Option (shDen impl_compareKeys_sh) :=
 (bindO (slices_Compare_byte_byte_r (cutL a0 0 32) (cutL a1 0 32)) fun (b1 : Int) => (some b1))
theorem f97_run (a0 : (List Int)) (a1 : (List Int)) : fnK (f97_cx FUEL) 8 97 f97_i impl_compareKeys_sh [.pv (.arr 32 (.int .u8)) a0, .pv (.arr 32 (.int .u8)) a1] = impl_compareKeys_r a0 a1 := by kernel_rfl

noncomputable def f97_con : Con := { ps := (.pair (.arr 32 (.int .u8)) K18), sh := impl_compareKeys_sh, raw := fun x => impl_compareKeys_r x.1 x.2.1 }
theorem f97_conOk : ConOk Tryz.prog 97 f97_con := con_of_fn (f97_tabs FUEL) (depth := 8) f97_ok fun x y h => (f97_run x.1 x.2.1).trans h

noncomputable def slices_SortFunc_impl_Key_impl_Key_r (a0 : List (List Int)) (a1 : Unit) : Option (List (List Int) × Unit) := sortFR 32 .u8 (fun x y => impl_compareKeys_r x y) a0
noncomputable def f111_inp : ConI := sortFC 45 97 32 .u8 (fun x y => impl_compareKeys_r x y)
theorem f111_inpOk : InpOk Tryz.prog 111 f111_inp := sortF_inp Tryz.laysSortF111 (by decide) rfl ((tab_mk tabs_ok (fun _ => none) (fun _ => none) (fun _ => none) (fun _ => none) (fun _ _ => none) 0 [] false).c.ty 45 _ rfl) f97_ok f97_conOk rfl rfl f111_ok

noncomputable def f112_l0_cut : Cut := { keep := [0, 3], stk := [], ids := [8], own := [], outs := [(1, [0], [8]), (0, [2], [8])] }
noncomputable def f112_l1_cut : Cut := { keep := [0, 3, 4, 5], stk := [], ids := [8], own := [], outs := [(3, [0, 3], [8])] }
noncomputable def f112_cx (k : Nat) : Cx := mkC [] [] [] [] [(112, [(0, f112_l0_cut), (2, f112_l1_cut)])] k [] false
theorem f112_tabs (k : Nat) : TabsOk Tryz.prog (f112_cx k) := mkC_ok trivial trivial trivial trivial
noncomputable def f112_l0_s (a0 : T14) (x3 : Int) : St := { env := (.sl 8 (.arr 32 (.int .u8)) :: .dead :: .dead :: .pv (.int .i64) x3 :: (dd 57 [])), stk := [], heap := [(8, .arr 45 (.arr 32 (.int .u8)) a0)] }
noncomputable def f112_l0_o0 (a0 : T14) : St := { env := (.sl 8 (.arr 32 (.int .u8)) :: (dd 60 [])), stk := [], heap := [(8, .arr 45 (.arr 32 (.int .u8)) a0)] }
noncomputable def f112_l0_o (x2v : Nat) (z8 : T14) : St := { env := (.dead :: .dead :: .vw 8 K21 [] (.arr 32 (.int .u8)) 0 x2v :: (dd 58 [])), stk := [], heap := [(8, .arr 45 (.arr 32 (.int .u8)) z8)] }
noncomputable def f112_l1_s (a0 : T14) (x3 : Int) (x5 : Int) (z8 : T14) (x4u : Nat) : St := { env := (.sl 8 (.arr 32 (.int .u8)) :: .dead :: .dead :: .pv (.int .i64) x3 :: .vw 8 K21 [] (.arr 32 (.int .u8)) x4u (a0.length) :: .pv (.int .i64) x5 :: (dd 55 [])), stk := [], heap := [(8, .arr 45 (.arr 32 (.int .u8)) z8)] }
noncomputable def f112_l1_o2 (x3 : Int) (z8 : T14) : St := { env := (.sl 8 (.arr 32 (.int .u8)) :: .dead :: .dead :: .pv (.int .i64) x3 :: (dd 57 [])), stk := [], heap := [(8, .arr 45 (.arr 32 (.int .u8)) z8)] }
noncomputable def slices_Compact_impl_Key_impl_Key_l1_b (rec : Int → Int → T14 → Nat → Option T14) (ke2 : Int → T14 → Option T14) (a0 : T14) (x3 : Int) (x5 : Int) (z8 : T14) (x4u : Nat) : Option T14 :=
 (cond (decide (x5 < (((a0.length) - x4u : Nat) : Int)))
 (cond ((decide ((0 : Int) ≤ x5)) && (decide (x5 < (((a0.length) - x4u : Nat) : Int))))
 (cond ((decide ((0 : Int) ≤ (IntKind.wrap .i64 (x5 - (1 : Int))))) && (decide ((IntKind.wrap .i64 (x5 - (1 : Int))) < (((a0.length) - x4u : Nat) : Int))))
 (cond (!(eqd (.arr 32 (.int .u8)) (z8.getD (x4u + (x5.toNat)) (List.replicate 32 (0 : Int))) (z8.getD (x4u + ((IntKind.wrap .i64 (x5 - (1 : Int))).toNat)) (List.replicate 32 (0 : Int)))))
 (cond ((decide ((0 : Int) ≤ x5)) && (decide (x5 < (((a0.length) - x4u : Nat) : Int))))
 (cond ((decide ((0 : Int) ≤ x3)) && (decide (x3 < (z8.length : Int))))
 (rec (IntKind.wrap .i64 (x3 + (1 : Int))) (IntKind.wrap .i64 (x5 + (1 : Int))) (z8.set (x3.toNat) (z8.getD (x4u + (x5.toNat)) (List.replicate 32 (0 : Int)))) x4u)
 none)
 none)
 (rec x3 (IntKind.wrap .i64 (x5 + (1 : Int))) z8 x4u))
 none)
 none)
 (ke2 x3 z8))
noncomputable def slices_Compact_impl_Key_impl_Key_l1_L (ke2 : Int → T14 → Option T14) (a0 : T14) : Nat → Int → Int → T14 → Nat → Option T14
 | 0 => fun _ _ _ _ => none
 | n + 1 => slices_Compact_impl_Key_impl_Key_l1_b (slices_Compact_impl_Key_impl_Key_l1_L ke2 a0 n) ke2 a0
noncomputable def slices_Compact_impl_Key_impl_Key_l0_b (rec : Int → Option T14) (ke0 : Option T14) (kr : Nat → T14 → Option T14) (a0 : T14) (x3 : Int) : Option T14 :=
 (cond (decide (x3 < (a0.length : Int)))
 (cond ((decide ((0 : Int) ≤ x3)) && (decide (x3 < (a0.length : Int))))
 (cond ((decide ((0 : Int) ≤ (IntKind.wrap .i64 (x3 - (1 : Int))))) && (decide ((IntKind.wrap .i64 (x3 - (1 : Int))) < (a0.length : Int))))
 (cond (eqd (.arr 32 (.int .u8)) (a0.getD (x3.toNat) (List.replicate 32 (0 : Int))) (a0.getD ((IntKind.wrap .i64 (x3 - (1 : Int))).toNat) (List.replicate 32 (0 : Int))))
 (cond ((decide ((0 : Int) ≤ x3)) && (decide (x3 ≤ (a0.length : Int))))
 (slices_Compact_impl_Key_impl_Key_l1_L (fun x3 z8 => (cond ((decide ((0 : Int) ≤ x3)) && (decide (x3 ≤ (z8.length : Int))))
 (cond ((decide ((0 : Int) ≤ x3)) && (decide (x3 ≤ ((splL z8 (x3.toNat) (List.take ((z8.length) - (x3.toNat)) (List.replicate ((z8.length) - (x3.toNat)) (List.replicate 32 (0 : Int))))).length : Int))))
 (kr (x3.toNat) (splL z8 (x3.toNat) (List.take ((z8.length) - (x3.toNat)) (List.replicate ((z8.length) - (x3.toNat)) (List.replicate 32 (0 : Int))))))
 none)
 none)) a0 FUEL x3 (1 : Int) a0 (x3.toNat))
 none)
 (rec (IntKind.wrap .i64 (x3 + (1 : Int)))))
 none)
 none)
 (ke0))
noncomputable def slices_Compact_impl_Key_impl_Key_l0_L (ke0 : Option T14) (kr : Nat → T14 → Option T14) (a0 : T14) : Nat → Int → Option T14
 | 0 => fun _ => none
 | n + 1 => slices_Compact_impl_Key_impl_Key_l0_b (slices_Compact_impl_Key_impl_Key_l0_L ke0 kr a0 n) ke0 kr a0
noncomputable def slices_Compact_impl_Key_impl_Key_r (a0 : T14) : Option T14 :=
 (cond (decide ((a0.length : Int) < (2 : Int)))
 (some a0)
 (slices_Compact_impl_Key_impl_Key_l0_L (some a0) (fun x2v z8 => (some (List.take x2v z8))) a0 FUEL (1 : Int)))
noncomputable def f112_l1_p (k : Nat) (K : Ex → St → Option T14) (n : Nat) (a0 : T14) (x3 : Int) (x5 : Int) (z8 : T14) (x4u : Nat) : Option T14 := loopK (f112_cx k) 0 (execK (f112_cx k) (callK (f112_cx k) 8) 0 112 (sub f112_c [1, 1, 0, 1, 0, 0, 1, 0, 0, 1, 0, 1, 0, 1, 0, 0])) f112_l1_cut K n (f112_l1_s a0 x3 x5 z8 x4u)

theorem f112_l1_exit2 (k : Nat) (K : Ex → St → Option T14) (n : Nat) (x3 : Int) (z8 : T14) : ((blkK 2 (seqK (execK (f112_cx k) (callK (f112_cx k) 8) 0 112 (sub f112_c [1, 1, 0, 1, 0, 0, 1, 0, 0, 1, 0, 1, 1])) (blkK 1 (seqK (execK (f112_cx k) (callK (f112_cx k) 8) 0 112 (sub f112_c [1, 1, 0, 1, 0, 0, 1, 1])) (iterK (f112_cx k) 0 f112_l0_cut (loopK (f112_cx k) 0 (execK (f112_cx k) (callK (f112_cx k) 8) 0 112 (sub f112_c [1, 1, 0, 1, 0, 0])) f112_l0_cut K n) K))))) (.exit 2) (f112_l1_o2 x3 z8) : Option T14) =
 ((cond ((decide ((0 : Int) ≤ x3)) && (decide (x3 ≤ (z8.length : Int))))
 (cond ((decide ((0 : Int) ≤ x3)) && (decide (x3 ≤ ((splL z8 (x3.toNat) (List.take ((z8.length) - (x3.toNat)) (List.replicate ((z8.length) - (x3.toNat)) (List.replicate 32 (0 : Int))))).length : Int))))
 (K .ret (f112_l0_o (x3.toNat) (splL z8 (x3.toNat) (List.take ((z8.length) - (x3.toNat)) (List.replicate ((z8.length) - (x3.toNat)) (List.replicate 32 (0 : Int)))))))
 none)
 none) : Option T14) := by kernel_rfl

theorem f112_l1_round (k : Nat) (K : Ex → St → Option T14) (n : Nat) (a0 : T14) (x3 : Int) (x5 : Int) (z8 : T14) (x4u : Nat) : (f112_l1_p k K (n + 1) a0 x3 x5 z8 x4u : Option T14) = slices_Compact_impl_Key_impl_Key_l1_b ((fun x3 x5 z8 x4u => f112_l1_p k K n a0 x3 x5 z8 x4u)) (fun x3 z8 => K (.exit 2) (f112_l1_o2 x3 z8)) a0 x3 x5 z8 x4u := by kernel_rfl

theorem f112_l1_L_eq (K : Ex → St → Option T14) (a0 : T14) : ∀ (n : Nat) (x3 : Int) (x5 : Int) (z8 : T14) (x4u : Nat), (f112_l1_p FUEL K n a0 x3 x5 z8 x4u : Option T14) = slices_Compact_impl_Key_impl_Key_l1_L (fun x3 z8 => K (.exit 2) (f112_l1_o2 x3 z8)) a0 n x3 x5 z8 x4u := by
 intro n
 induction n with
 | zero => intros; rfl
 | succ n ih =>
  intro x3 x5 z8 x4u
  exact (f112_l1_round FUEL K n a0 x3 x5 z8 x4u).trans (congrArg (fun f => slices_Compact_impl_Key_impl_Key_l1_b f (fun x3 z8 => K (.exit 2) (f112_l1_o2 x3 z8)) a0 x3 x5 z8 x4u) (funext fun x3 => funext fun x5 => funext fun z8 => funext fun x4u => ih x3 x5 z8 x4u))

noncomputable def f112_l0_p (k : Nat) (K : Ex → St → Option T14) (n : Nat) (a0 : T14) (x3 : Int) : Option T14 := loopK (f112_cx k) 0 (execK (f112_cx k) (callK (f112_cx k) 8) 0 112 (sub f112_c [1, 1, 0, 1, 0, 0])) f112_l0_cut K n (f112_l0_s a0 x3)

theorem f112_l0_round (k : Nat) (K : Ex → St → Option T14) (n : Nat) (a0 : T14) (x3 : Int) : (f112_l0_p k K (n + 1) a0 x3 : Option T14) =
 ((cond (decide (x3 < (a0.length : Int)))
 (cond ((decide ((0 : Int) ≤ x3)) && (decide (x3 < (a0.length : Int))))
 (cond ((decide ((0 : Int) ≤ (IntKind.wrap .i64 (x3 - (1 : Int))))) && (decide ((IntKind.wrap .i64 (x3 - (1 : Int))) < (a0.length : Int))))
 (cond (eqd (.arr 32 (.int .u8)) (a0.getD (x3.toNat) (List.replicate 32 (0 : Int))) (a0.getD ((IntKind.wrap .i64 (x3 - (1 : Int))).toNat) (List.replicate 32 (0 : Int))))
 (cond ((decide ((0 : Int) ≤ x3)) && (decide (x3 ≤ (a0.length : Int))))
 (loopK (f112_cx k) 0 (execK (f112_cx k) (callK (f112_cx k) 8) 0 112 (sub f112_c [1, 1, 0, 1, 0, 0, 1, 0, 0, 1, 0, 1, 0, 1, 0, 0])) f112_l1_cut (blkK 2 (seqK (execK (f112_cx k) (callK (f112_cx k) 8) 0 112 (sub f112_c [1, 1, 0, 1, 0, 0, 1, 0, 0, 1, 0, 1, 1])) (blkK 1 (seqK (execK (f112_cx k) (callK (f112_cx k) 8) 0 112 (sub f112_c [1, 1, 0, 1, 0, 0, 1, 1])) (iterK (f112_cx k) 0 f112_l0_cut (loopK (f112_cx k) 0 (execK (f112_cx k) (callK (f112_cx k) 8) 0 112 (sub f112_c [1, 1, 0, 1, 0, 0])) f112_l0_cut K n) K))))) k (f112_l1_s a0 x3 (1 : Int) a0 (x3.toNat)))
 none)
 (loopK (f112_cx k) 0 (execK (f112_cx k) (callK (f112_cx k) 8) 0 112 (sub f112_c [1, 1, 0, 1, 0, 0])) f112_l0_cut K n (f112_l0_s a0 (IntKind.wrap .i64 (x3 + (1 : Int))))))
 none)
 none)
 (K (.exit 0) (f112_l0_o0 a0))) : Option T14) := by kernel_rfl

theorem f112_l0_exit0 (k : Nat)  (a0 : T14) : ((blkK 0 (seqK (execK (f112_cx k) (callK (f112_cx k) 8) 0 112 (sub f112_c [1, 1, 1])) (finTK (f112_cx k) f112_i 45 (.arr 32 (.int .u8))))) (.exit 0) (f112_l0_o0 a0) : Option T14) =
 ((some a0) : Option T14) := by kernel_rfl

theorem f112_l0_ret (k : Nat)  (x2v : Nat) (z8 : T14) : ((blkK 0 (seqK (execK (f112_cx k) (callK (f112_cx k) 8) 0 112 (sub f112_c [1, 1, 1])) (finTK (f112_cx k) f112_i 45 (.arr 32 (.int .u8))))) .ret (f112_l0_o x2v z8) : Option T14) =
 ((some (List.take x2v z8)) : Option T14) := by kernel_rfl

theorem f112_l0_L_eq (K : Ex → St → Option T14) (a0 : T14) : ∀ (n : Nat) (x3 : Int), (f112_l0_p FUEL K n a0 x3 : Option T14) = slices_Compact_impl_Key_impl_Key_l0_L (K (.exit 0) (f112_l0_o0 a0)) (fun x2v z8 => K .ret (f112_l0_o x2v z8)) a0 n x3 := by
 intro n
 induction n with
 | zero => intros; rfl
 | succ n ih =>
  intro x3
  exact (f112_l0_round FUEL K n a0 x3).trans (condC (condC (condC (condC (condC ((f112_l1_L_eq _ a0 FUEL x3 (1 : Int) a0 (x3.toNat)).trans (congrArg (fun e0 => slices_Compact_impl_Key_impl_Key_l1_L e0 a0 FUEL x3 (1 : Int) a0 (x3.toNat)) (funext fun x3 => funext fun z8 => (f112_l1_exit2 FUEL K n x3 z8).trans (condC (condC (rfl) (rfl)) (rfl))))) (rfl)) (ih (IntKind.wrap .i64 (x3 + (1 : Int))))) (rfl)) (rfl)) (rfl))

theorem f112_start (k : Nat) (a0 : T14) : fnTK (f112_cx k) 8 112 f112_i 45 (.arr 32 (.int .u8)) a0 [] =
 ((cond (decide ((a0.length : Int) < (2 : Int)))
 (some a0)
 (loopK (f112_cx k) 0 (execK (f112_cx k) (callK (f112_cx k) 8) 0 112 (sub f112_c [1, 1, 0, 1, 0, 0])) f112_l0_cut (blkK 0 (seqK (execK (f112_cx k) (callK (f112_cx k) 8) 0 112 (sub f112_c [1, 1, 1])) (finTK (f112_cx k) f112_i 45 (.arr 32 (.int .u8))))) k (f112_l0_s a0 (1 : Int)))) : Option T14) := by kernel_rfl

theorem f112_run (a0 : T14) : fnTK (f112_cx FUEL) 8 112 f112_i 45 (.arr 32 (.int .u8)) a0 [] = slices_Compact_impl_Key_impl_Key_r a0 :=
 (f112_start FUEL a0).trans (condC (rfl) ((f112_l0_L_eq _ a0 FUEL (1 : Int)).trans (cong2 (fun e0 e1 => slices_Compact_impl_Key_impl_Key_l0_L e0 e1 a0 FUEL (1 : Int)) ( (f112_l0_exit0 FUEL  a0).trans (rfl)) (funext fun x2v => funext fun z8 => (f112_l0_ret FUEL  x2v z8).trans (rfl)))))

noncomputable def f112_tak : ConT := { E := 45, e := (.arr 32 (.int .u8)), ps := .unit, raw := fun x q => slices_Compact_impl_Key_impl_Key_r x  }
theorem f112_takOk : TakOk Tryz.prog 112 f112_tak := tak_of_fn (f112_tabs FUEL) (depth := 8) f112_ok rfl fun xs q z h => (f112_run xs ).trans h

noncomputable def f95_cx (k : Nat) : Cx := mkC [] [(110, f110_con)] [(112, f112_tak)] [(111, f111_inp)] [] k [] false
theorem f95_tabs (k : Nat) : TabsOk Tryz.prog (f95_cx k) := mkC_ok ⟨f110_conOk, trivial⟩ ⟨f112_takOk, trivial⟩ ⟨f111_inpOk, trivial⟩ trivial
abbrev impl_sorted_sh : List Sh := [.own 45 (.arr 32 (.int .u8))]
noncomputable def impl_sorted_r (a0 : T14) : Option (shDen impl_sorted_sh) :=
 (bindO (slices_Clone_impl_Key_impl_Key_r a0) fun (b1 : T14) => (bindO (slices_SortFunc_impl_Key_impl_Key_r b1 ()) fun (b2 : T11) => (bindO (slices_Compact_impl_Key_impl_Key_r b2.1) fun (b3 : T14) => (some b3))))
theorem f95_run (a0 : T14) : fnK (f95_cx FUEL) 8 95 f95_i impl_sorted_sh [.pv K21 a0] = impl_sorted_r a0 := by kernel_rfl

noncomputable def f95_con : Con := { ps := K17, sh := impl_sorted_sh, raw := fun x => impl_sorted_r x.1 }
theorem f95_conOk : ConOk Tryz.prog 95 f95_con := con_of_fn (f95_tabs FUEL) (depth := 8) f95_ok fun x y h => (f95_run x.1).trans h

noncomputable def f72_l0_cut : Cut := { keep := [0, 1, 7, 8], stk := [[], [1, 8]], ids := [10], own := [], outs := [(0, [4], [10]), (1, [], [10])] }
noncomputable def f72_l1_cut : Cut := { keep := [0, 1, 5], stk := [[21]], ids := [140], own := [], outs := [(0, [4], []), (1, [], [])] }
noncomputable def f72_cx (k : Nat) : Cx := mkC [(54, f54_i), (84, f84_i), (96, f96_i)] [(73, f73_con), (94, f94_con), (95, f95_con), (97, f97_con)] [] [] [(720011005400070084, [(0, f72_l0_cut)]), (7200230096, [(0, f72_l1_cut)])] k [] false
theorem f72_tabs (k : Nat) : TabsOk Tryz.prog (f72_cx k) := mkC_ok ⟨f73_conOk, f94_conOk, f95_conOk, f97_conOk, trivial⟩ trivial trivial ⟨f54_ok, f84_ok, f96_ok, trivial⟩
abbrev impl_ValidStore_sh : List Sh := [.pl .bool]
noncomputable def f72_l0_s (a0 : T6) (x8 : Int) : St := { env := (.pv K11 a0.1 :: .fn 94 (.pv .unit ()) :: (dd 5 (.pv (.int .i64) (a0.1.length : Int) :: .pv (.int .i64) x8 :: (dd 10 [])))), stk := [(dd 9 []), (.dead :: .ptr 10 K7 [] :: (dd 6 (.pv .bool false :: (dd 16 []))))], heap := [(10, .var K7 (.pv K7 a0))] }
noncomputable def f72_l0_o (a0 : T6) (x4 : Int) : St := { env := (dd 4 (.pv (.int .i64) x4 :: (dd 14 []))), stk := [(dd 9 []), (.dead :: .ptr 10 K7 [] :: (dd 6 (.pv .bool false :: (dd 16 []))))], heap := [(10, .var K7 (.pv K7 a0))] }
noncomputable def f72_l0_o0 (a0 : T6) : St := { env := (dd 19 []), stk := [(dd 9 []), (.dead :: .ptr 10 K7 [] :: (dd 6 (.pv .bool false :: (dd 16 []))))], heap := [(10, .var K7 (.pv K7 a0))] }
noncomputable def f72_l1_s (a0 : T6) (x5 : Int) (z140 : T14) (z160 : T14) : St := { env := (.sl 140 (.arr 32 (.int .u8)) :: .fn 97 (.pv .unit ()) :: (dd 3 (.pv (.int .i64) x5 :: (dd 19 [])))), stk := [(dd 21 (.pv .bool true :: (dd 3 [])))], heap := [(10, .var K7 (.pv K7 a0)), (140, .arr 45 (.arr 32 (.int .u8)) z140), (160, .arr 45 (.arr 32 (.int .u8)) z160)] }
noncomputable def f72_l1_o (a0 : T6) (z140 : T14) (z160 : T14) : St := { env := (dd 4 (.pv .bool false :: (dd 20 []))), stk := [(dd 21 (.pv .bool true :: (dd 3 [])))], heap := [(10, .var K7 (.pv K7 a0)), (140, .arr 45 (.arr 32 (.int .u8)) z140), (160, .arr 45 (.arr 32 (.int .u8)) z160)] }
noncomputable def f72_l1_o0 (a0 : T6) (z140 : T14) (z160 : T14) : St := { env := (dd 25 []), stk := [(dd 21 (.pv .bool true :: (dd 3 [])))], heap := [(10, .var K7 (.pv K7 a0)), (140, .arr 45 (.arr 32 (.int .u8)) z140), (160, .arr 45 (.arr 32 (.int .u8)) z160)] }
noncomputable def impl_ValidStore_l1_b (rec : Int → T14 → T14 → Option (shDen impl_ValidStore_sh)) (kr : T14 → T14 → Option (shDen impl_ValidStore_sh)) (ke0 : T14 → T14 → Option (shDen impl_ValidStore_sh)) (a0 : T6) (x5 : Int) (z140 : T14) (z160 : T14) : Option (shDen impl_ValidStore_sh) :=
 (cond (decide ((0 : Int) < x5))
 (cond ((decide ((0 : Int) ≤ x5)) && (decide (x5 < (z140.length : Int))))
 (cond ((decide ((0 : Int) ≤ (IntKind.wrap .i64 (x5 - (1 : Int))))) && (decide ((IntKind.wrap .i64 (x5 - (1 : Int))) < (z140.length : Int))))
 (bindO (impl_compareKeys_r (z140.getD (x5.toNat) (List.replicate 32 (0 : Int))) (z140.getD ((IntKind.wrap .i64 (x5 - (1 : Int))).toNat) (List.replicate 32 (0 : Int)))) fun (b7 : Int) => (cond (decide (b7 < (0 : Int)))
 (kr z140 z160)
 (rec (IntKind.wrap .i64 (x5 - (1 : Int))) z140 z160)))
 none)
 none)
 (ke0 z140 z160))
noncomputable def impl_ValidStore_l1_L (kr : T14 → T14 → Option (shDen impl_ValidStore_sh)) (ke0 : T14 → T14 → Option (shDen impl_ValidStore_sh)) (a0 : T6) : Nat → Int → T14 → T14 → Option (shDen impl_ValidStore_sh)
 | 0 => fun _ _ _ => none
 | n + 1 => impl_ValidStore_l1_b (impl_ValidStore_l1_L kr ke0 a0 n) kr ke0 a0
noncomputable def impl_ValidStore_l0_b (rec : Int → Option (shDen impl_ValidStore_sh)) (kr : Int → Option (shDen impl_ValidStore_sh)) (ke0 : Option (shDen impl_ValidStore_sh)) (a0 : T6) (x8 : Int) : Option (shDen impl_ValidStore_sh) :=
 (cond (decide (x8 < (a0.1.length : Int)))
 (cond ((decide ((0 : Int) ≤ x8)) && (decide (x8 < (a0.1.length : Int))))
 (bindO (impl_ValidStore_1_r (a0.1.getD (x8.toNat) ((0 : Int), ([], ())))) fun (b2 : Bool) => (cond b2
 (kr x8)
 (rec (IntKind.wrap .i64 (x8 + (1 : Int))))))
 none)
 (ke0))
noncomputable def impl_ValidStore_l0_L (kr : Int → Option (shDen impl_ValidStore_sh)) (ke0 : Option (shDen impl_ValidStore_sh)) (a0 : T6) : Nat → Int → Option (shDen impl_ValidStore_sh)
 | 0 => fun _ => none
 | n + 1 => impl_ValidStore_l0_b (impl_ValidStore_l0_L kr ke0 a0 n) kr ke0 a0
noncomputable def impl_ValidStore_r (a0 : T6) : Option (shDen impl_ValidStore_sh) :=
 (cond (decide ((128 : Int) < (a0.1.length : Int)))
 (some false)
 (impl_ValidStore_l0_L (fun x4 => (cond (decide ((0 : Int) ≤ x4))
 (some false)
 (bindO (impl_Store_keys_r a0) fun (b3 : T14) => (bindO (impl_sorted_r b3) fun (b4 : T14) => (cond (decide ((b4.length : Int) = (b3.length : Int)))
 (impl_ValidStore_l1_L (fun z140 z160 => (some false)) (fun z140 z160 => (some true)) a0 FUEL (IntKind.wrap .i64 ((b3.length : Int) - (1 : Int))) b3 b4)
 (some false)))))) (bindO (impl_Store_keys_r a0) fun (b5 : T14) => (bindO (impl_sorted_r b5) fun (b6 : T14) => (cond (decide ((b6.length : Int) = (b5.length : Int)))
 (impl_ValidStore_l1_L (fun z140 z160 => (some false)) (fun z140 z160 => (some true)) a0 FUEL (IntKind.wrap .i64 ((b5.length : Int) - (1 : Int))) b5 b6)
 (some false)))) a0 FUEL (0 : Int)))
noncomputable def f72_l1_p (k : Nat) (K : Ex → St → Option (shDen impl_ValidStore_sh)) (n : Nat) (a0 : T6) (x5 : Int) (z140 : T14) (z160 : T14) : Option (shDen impl_ValidStore_sh) := loopK (f72_cx k) 1 (execK (f72_cx k) (callK (f72_cx k) 7) 1 7200230096 (sub f96_c [1, 0, 1, 0, 0])) f72_l1_cut K n (f72_l1_s a0 x5 z140 z160)

theorem f72_l1_ret (k : Nat)  (a0 : T6) (z140 : T14) (z160 : T14) : ((blkK 0 (seqK (execK (f72_cx k) (callK (f72_cx k) 7) 1 7200230096 (sub f96_c [1, 1])) (retK (f72_cx k) f96_i (some 23) 0 (opsRest (f72_cx k) (callK (f72_cx k) 8) 0 72 false (regOps (sub f72_c [1, 1, 1, 0])) 8 (seqK (execK (f72_cx k) (callK (f72_cx k) 8) 0 72 (sub f72_c [1, 1, 1, 1])) (finK (f72_cx k) f72_i impl_ValidStore_sh)))))) .ret (f72_l1_o a0 z140 z160) : Option (shDen impl_ValidStore_sh)) =
 ((some false) : Option (shDen impl_ValidStore_sh)) := by kernel_rfl

theorem f72_l1_exit0 (k : Nat)  (a0 : T6) (z140 : T14) (z160 : T14) : ((blkK 0 (seqK (execK (f72_cx k) (callK (f72_cx k) 7) 1 7200230096 (sub f96_c [1, 1])) (retK (f72_cx k) f96_i (some 23) 0 (opsRest (f72_cx k) (callK (f72_cx k) 8) 0 72 false (regOps (sub f72_c [1, 1, 1, 0])) 8 (seqK (execK (f72_cx k) (callK (f72_cx k) 8) 0 72 (sub f72_c [1, 1, 1, 1])) (finK (f72_cx k) f72_i impl_ValidStore_sh)))))) (.exit 0) (f72_l1_o0 a0 z140 z160) : Option (shDen impl_ValidStore_sh)) =
 ((some true) : Option (shDen impl_ValidStore_sh)) := by kernel_rfl

theorem f72_l1_round (k : Nat) (K : Ex → St → Option (shDen impl_ValidStore_sh)) (n : Nat) (a0 : T6) (x5 : Int) (z140 : T14) (z160 : T14) : (f72_l1_p k K (n + 1) a0 x5 z140 z160 : Option (shDen impl_ValidStore_sh)) = impl_ValidStore_l1_b ((fun x5 z140 z160 => f72_l1_p k K n a0 x5 z140 z160)) (fun z140 z160 => K .ret (f72_l1_o a0 z140 z160)) (fun z140 z160 => K (.exit 0) (f72_l1_o0 a0 z140 z160)) a0 x5 z140 z160 := by kernel_rfl

theorem f72_l1_L_eq (K : Ex → St → Option (shDen impl_ValidStore_sh)) (a0 : T6) : ∀ (n : Nat) (x5 : Int) (z140 : T14) (z160 : T14), (f72_l1_p FUEL K n a0 x5 z140 z160 : Option (shDen impl_ValidStore_sh)) = impl_ValidStore_l1_L (fun z140 z160 => K .ret (f72_l1_o a0 z140 z160)) (fun z140 z160 => K (.exit 0) (f72_l1_o0 a0 z140 z160)) a0 n x5 z140 z160 := by
 intro n
 induction n with
 | zero => intros; rfl
 | succ n ih =>
  intro x5 z140 z160
  exact (f72_l1_round FUEL K n a0 x5 z140 z160).trans (congrArg (fun f => impl_ValidStore_l1_b f (fun z140 z160 => K .ret (f72_l1_o a0 z140 z160)) (fun z140 z160 => K (.exit 0) (f72_l1_o0 a0 z140 z160)) a0 x5 z140 z160) (funext fun x5 => funext fun z140 => funext fun z160 => ih x5 z140 z160))

noncomputable def f72_l0_p (k : Nat) (K : Ex → St → Option (shDen impl_ValidStore_sh)) (n : Nat) (a0 : T6) (x8 : Int) : Option (shDen impl_ValidStore_sh) := loopK (f72_cx k) 2 (execK (f72_cx k) (callK (f72_cx k) 6) 2 720011005400070084 (sub f84_c [1, 0, 1, 0, 0])) f72_l0_cut K n (f72_l0_s a0 x8)

theorem f72_l0_ret (k : Nat)  (a0 : T6) (x4 : Int) : ((blkK 0 (seqK (execK (f72_cx k) (callK (f72_cx k) 6) 2 720011005400070084 (sub f84_c [1, 1])) (retK (f72_cx k) f84_i (some 7) 1 (opsRest (f72_cx k) (callK (f72_cx k) 7) 1 7200110054 false (regOps (sub f54_c [1, 0])) 2 (seqK (execK (f72_cx k) (callK (f72_cx k) 7) 1 7200110054 (sub f54_c [1, 1])) (retK (f72_cx k) f54_i (some 11) 0 (opsRest (f72_cx k) (callK (f72_cx k) 8) 0 72 false (regOps (sub f72_c [1, 0, 0])) 7 (seqK (execK (f72_cx k) (callK (f72_cx k) 8) 0 72 (sub f72_c [1, 0, 1])) (seqK (execK (f72_cx k) (callK (f72_cx k) 8) 0 72 (sub f72_c [1, 1])) (finK (f72_cx k) f72_i impl_ValidStore_sh)))))))))) .ret (f72_l0_o a0 x4) : Option (shDen impl_ValidStore_sh)) =
 ((cond (decide ((0 : Int) ≤ x4))
 (some false)
 (bindO (impl_Store_keys_r a0) fun (b3 : T14) => (bindO (impl_sorted_r b3) fun (b4 : T14) => (cond (decide ((b4.length : Int) = (b3.length : Int)))
 (loopK (f72_cx k) 1 (execK (f72_cx k) (callK (f72_cx k) 7) 1 7200230096 (sub f96_c [1, 0, 1, 0, 0])) f72_l1_cut (blkK 0 (seqK (execK (f72_cx k) (callK (f72_cx k) 7) 1 7200230096 (sub f96_c [1, 1])) (retK (f72_cx k) f96_i (some 23) 0 (opsRest (f72_cx k) (callK (f72_cx k) 8) 0 72 false (regOps (sub f72_c [1, 1, 1, 0])) 8 (seqK (execK (f72_cx k) (callK (f72_cx k) 8) 0 72 (sub f72_c [1, 1, 1, 1])) (finK (f72_cx k) f72_i impl_ValidStore_sh)))))) k (f72_l1_s a0 (IntKind.wrap .i64 ((b3.length : Int) - (1 : Int))) b3 b4))
 (some false))))) : Option (shDen impl_ValidStore_sh)) := by kernel_rfl

theorem f72_l0_exit0 (k : Nat)  (a0 : T6) : ((blkK 0 (seqK (execK (f72_cx k) (callK (f72_cx k) 6) 2 720011005400070084 (sub f84_c [1, 1])) (retK (f72_cx k) f84_i (some 7) 1 (opsRest (f72_cx k) (callK (f72_cx k) 7) 1 7200110054 false (regOps (sub f54_c [1, 0])) 2 (seqK (execK (f72_cx k) (callK (f72_cx k) 7) 1 7200110054 (sub f54_c [1, 1])) (retK (f72_cx k) f54_i (some 11) 0 (opsRest (f72_cx k) (callK (f72_cx k) 8) 0 72 false (regOps (sub f72_c [1, 0, 0])) 7 (seqK (execK (f72_cx k) (callK (f72_cx k) 8) 0 72 (sub f72_c [1, 0, 1])) (seqK (execK (f72_cx k) (callK (f72_cx k) 8) 0 72 (sub f72_c [1, 1])) (finK (f72_cx k) f72_i impl_ValidStore_sh)))))))))) (.exit 0) (f72_l0_o0 a0) : Option (shDen impl_ValidStore_sh)) =
 ((bindO (impl_Store_keys_r a0) fun (b5 : T14) => (bindO (impl_sorted_r b5) fun (b6 : T14) => (cond (decide ((b6.length : Int) = (b5.length : Int)))
 (loopK (f72_cx k) 1 (execK (f72_cx k) (callK (f72_cx k) 7) 1 7200230096 (sub f96_c [1, 0, 1, 0, 0])) f72_l1_cut (blkK 0 (seqK (execK (f72_cx k) (callK (f72_cx k) 7) 1 7200230096 (sub f96_c [1, 1])) (retK (f72_cx k) f96_i (some 23) 0 (opsRest (f72_cx k) (callK (f72_cx k) 8) 0 72 false (regOps (sub f72_c [1, 1, 1, 0])) 8 (seqK (execK (f72_cx k) (callK (f72_cx k) 8) 0 72 (sub f72_c [1, 1, 1, 1])) (finK (f72_cx k) f72_i impl_ValidStore_sh)))))) k (f72_l1_s a0 (IntKind.wrap .i64 ((b5.length : Int) - (1 : Int))) b5 b6))
 (some false)))) : Option (shDen impl_ValidStore_sh)) := by kernel_rfl

theorem f72_l0_round (k : Nat) (K : Ex → St → Option (shDen impl_ValidStore_sh)) (n : Nat) (a0 : T6) (x8 : Int) : (f72_l0_p k K (n + 1) a0 x8 : Option (shDen impl_ValidStore_sh)) = impl_ValidStore_l0_b ((fun x8 => f72_l0_p k K n a0 x8)) (fun x4 => K .ret (f72_l0_o a0 x4)) (K (.exit 0) (f72_l0_o0 a0)) a0 x8 := by kernel_rfl

theorem f72_l0_L_eq (K : Ex → St → Option (shDen impl_ValidStore_sh)) (a0 : T6) : ∀ (n : Nat) (x8 : Int), (f72_l0_p FUEL K n a0 x8 : Option (shDen impl_ValidStore_sh)) = impl_ValidStore_l0_L (fun x4 => K .ret (f72_l0_o a0 x4)) (K (.exit 0) (f72_l0_o0 a0)) a0 n x8 := by
 intro n
 induction n with
 | zero => intros; rfl
 | succ n ih =>
  intro x8
  exact (f72_l0_round FUEL K n a0 x8).trans (congrArg (fun f => impl_ValidStore_l0_b f (fun x4 => K .ret (f72_l0_o a0 x4)) (K (.exit 0) (f72_l0_o0 a0)) a0 x8) (funext fun x8 => ih x8))

theorem f72_start (k : Nat) (a0 : T6) : fnK (f72_cx k) 8 72 f72_i impl_ValidStore_sh [.pv K7 a0] =
 ((cond (decide ((128 : Int) < (a0.1.length : Int)))
 (some false)
 (loopK (f72_cx k) 2 (execK (f72_cx k) (callK (f72_cx k) 6) 2 720011005400070084 (sub f84_c [1, 0, 1, 0, 0])) f72_l0_cut (blkK 0 (seqK (execK (f72_cx k) (callK (f72_cx k) 6) 2 720011005400070084 (sub f84_c [1, 1])) (retK (f72_cx k) f84_i (some 7) 1 (opsRest (f72_cx k) (callK (f72_cx k) 7) 1 7200110054 false (regOps (sub f54_c [1, 0])) 2 (seqK (execK (f72_cx k) (callK (f72_cx k) 7) 1 7200110054 (sub f54_c [1, 1])) (retK (f72_cx k) f54_i (some 11) 0 (opsRest (f72_cx k) (callK (f72_cx k) 8) 0 72 false (regOps (sub f72_c [1, 0, 0])) 7 (seqK (execK (f72_cx k) (callK (f72_cx k) 8) 0 72 (sub f72_c [1, 0, 1])) (seqK (execK (f72_cx k) (callK (f72_cx k) 8) 0 72 (sub f72_c [1, 1])) (finK (f72_cx k) f72_i impl_ValidStore_sh)))))))))) k (f72_l0_s a0 (0 : Int)))) : Option (shDen impl_ValidStore_sh)) := by kernel_rfl

theorem f72_run (a0 : T6) : fnK (f72_cx FUEL) 8 72 f72_i impl_ValidStore_sh [.pv K7 a0] = impl_ValidStore_r a0 :=
 (f72_start FUEL a0).trans (condC (rfl) ((f72_l0_L_eq _ a0 FUEL (0 : Int)).trans (cong2 (fun e0 e1 => impl_ValidStore_l0_L e0 e1 a0 FUEL (0 : Int)) (funext fun x4 => (f72_l0_ret FUEL  a0 x4).trans (condC (rfl) (bindC (fun b3 => bindC (fun b4 => condC ((f72_l1_L_eq _ a0 FUEL (IntKind.wrap .i64 ((b3.length : Int) - (1 : Int))) b3 b4).trans (cong2 (fun e0 e1 => impl_ValidStore_l1_L e0 e1 a0 FUEL (IntKind.wrap .i64 ((b3.length : Int) - (1 : Int))) b3 b4) (funext fun z140 => funext fun z160 => (f72_l1_ret FUEL  a0 z140 z160).trans (rfl)) (funext fun z140 => funext fun z160 => (f72_l1_exit0 FUEL  a0 z140 z160).trans (rfl)))) (rfl)))))) ( (f72_l0_exit0 FUEL  a0).trans (bindC (fun b5 => bindC (fun b6 => condC ((f72_l1_L_eq _ a0 FUEL (IntKind.wrap .i64 ((b5.length : Int) - (1 : Int))) b5 b6).trans (cong2 (fun e0 e1 => impl_ValidStore_l1_L e0 e1 a0 FUEL (IntKind.wrap .i64 ((b5.length : Int) - (1 : Int))) b5 b6) (funext fun z140 => funext fun z160 => (f72_l1_ret FUEL  a0 z140 z160).trans (rfl)) (funext fun z140 => funext fun z160 => (f72_l1_exit0 FUEL  a0 z140 z160).trans (rfl)))) (rfl))))))))

noncomputable def f72_con : Con := { ps := K6, sh := impl_ValidStore_sh, raw := fun x => impl_ValidStore_r x.1 }
theorem f72_conOk : ConOk Tryz.prog 72 f72_con := con_of_fn (f72_tabs FUEL) (depth := 8) f72_ok fun x y h => (f72_run x.1).trans h

noncomputable def f74_cx (k : Nat) : Cx := mkC [] [] [] [] [] k [] false
theorem f74_tabs (k : Nat) : TabsOk Tryz.prog (f74_cx k) := mkC_ok trivial trivial trivial trivial
abbrev slices_Clone_impl_Blob_impl_Blob_sh : List Sh := [.own 72 K13]
noncomputable def slices_Clone_impl_Blob_impl_Blob_r (a0 : T8) : Option (shDen slices_Clone_impl_Blob_impl_Blob_sh) :=
 (cond (List.isEmpty a0) (bothO (some []) (cond (decide ((0 + a0.length) * 32 ≤ 140737488355328) && decide (0 + a0.length ≤ 9223372036854775807))
 (some ([] ++ a0))
 none)) (cond (decide ((0 + a0.length) * 32 ≤ 140737488355328) && decide (0 + a0.length ≤ 9223372036854775807))
 (some ([] ++ a0))
 none))
theorem f74_run (a0 : T8) : fnK (f74_cx FUEL) 8 74 f74_i slices_Clone_impl_Blob_impl_Blob_sh [.pv K11 a0] = slices_Clone_impl_Blob_impl_Blob_r a0 := by kernel_rfl

noncomputable def f74_con : Con := { ps := K7, sh := slices_Clone_impl_Blob_impl_Blob_sh, raw := fun x => slices_Clone_impl_Blob_impl_Blob_r x.1 }
theorem f74_conOk : ConOk Tryz.prog 74 f74_con := con_of_fn (f74_tabs FUEL) (depth := 8) f74_ok fun x y h => (f74_run x.1).trans h

noncomputable def f63_cx (k : Nat) : Cx := mkC [] [] [] [] [] k [] false
theorem f63_tabs (k : Nat) : TabsOk Tryz.prog (f63_cx k) := mkC_ok trivial trivial trivial trivial
abbrev impl_within_sh : List Sh := [.pl .bool]
noncomputable def impl_within_r (a0 : Int) (a1 : Int) (a2 : Int) : Option (shDen impl_within_sh) :=
 (cond (decide (a1 ≤ a0))
 (some (decide (a0 ≤ a2)))
 (some false))
theorem f63_run (a0 : Int) (a1 : Int) (a2 : Int) : fnK (f63_cx FUEL) 8 63 f63_i impl_within_sh [.pv (.int .i64) a0, .pv (.int .i64) a1, .pv (.int .i64) a2] = impl_within_r a0 a1 a2 := by kernel_rfl

noncomputable def f63_con : Con := { ps := (.pair (.int .i64) (.pair (.int .i64) K23)), sh := impl_within_sh, raw := fun x => impl_within_r x.1 x.2.1 x.2.2.1 }
theorem f63_conOk : ConOk Tryz.prog 63 f63_con := con_of_fn (f63_tabs FUEL) (depth := 8) f63_ok fun x y h => (f63_run x.1 x.2.1 x.2.2.1).trans h

noncomputable def f44_cx (k : Nat) : Cx := mkC [] [(63, f63_con)] [] [] [] k [] false
theorem f44_tabs (k : Nat) : TabsOk Tryz.prog (f44_cx k) := mkC_ok ⟨f63_conOk, trivial⟩ trivial trivial trivial
abbrev impl_isName_sh : List Sh := [.pl .bool]
noncomputable def impl_isName_r (a0 : List Int) : Option (shDen impl_isName_sh) :=
 (bindO (impl_within_r (a0.length : Int) (1 : Int) (24 : Int)) fun (b1 : Bool) => (some b1))
theorem f44_run (a0 : List Int) : fnK (f44_cx FUEL) 8 44 f44_i impl_isName_sh [.pv .str a0] = impl_isName_r a0 := by kernel_rfl

noncomputable def f44_con : Con := { ps := K26, sh := impl_isName_sh, raw := fun x => impl_isName_r x.1 }
theorem f44_conOk : ConOk Tryz.prog 44 f44_con := con_of_fn (f44_tabs FUEL) (depth := 8) f44_ok fun x y h => (f44_run x.1).trans h

noncomputable def f98_cx (k : Nat) : Cx := mkC [] [(101, f101_con)] [] [] [] k [] false
theorem f98_tabs (k : Nat) : TabsOk Tryz.prog (f98_cx k) := mkC_ok ⟨f101_conOk, trivial⟩ trivial trivial trivial
abbrev impl_EmptyMapKey_sh : List Sh := [.pl (.arr 32 (.int .u8))]
noncomputable def impl_EmptyMapKey_r  : Option (shDen impl_EmptyMapKey_sh) :=
 (bindO (impl_hash_r (5 : Int) []) fun (b1 : (List Int)) => (some b1))
theorem f98_run  : fnK (f98_cx FUEL) 8 98 f98_i impl_EmptyMapKey_sh [] = impl_EmptyMapKey_r  := by kernel_rfl

noncomputable def f98_con : Con := { ps := .unit, sh := impl_EmptyMapKey_sh, raw := fun x => impl_EmptyMapKey_r  }
theorem f98_conOk : ConOk Tryz.prog 98 f98_con := con_of_fn (f98_tabs FUEL) (depth := 8) f98_ok fun x y h => (f98_run ).trans h

noncomputable def f106_l0_cut : Cut := { keep := [0, 2, 4, 8, 9, 10], stk := [], ids := [40], own := [], outs := [(1, [0, 2, 4, 8, 9], [40])] }
noncomputable def f106_cx (k : Nat) : Cx := mkC [] [(97, f97_con)] [] [] [(106, [(0, f106_l0_cut)])] k [] false
theorem f106_tabs (k : Nat) : TabsOk Tryz.prog (f106_cx k) := mkC_ok ⟨f97_conOk, trivial⟩ trivial trivial trivial
abbrev slices_BinarySearchFunc_impl_Key_impl_Key_impl_Key_sh : List Sh := [.pl (.int .i64), .pl .bool]
noncomputable def f106_l0_s (a0 : T14) (a1 : (List Int)) (x9 : Int) (x10 : Int) : St := { env := (.pv K21 a0 :: .dead :: .fn 97 (.pv .unit ()) :: .dead :: .ptr 40 (.arr 32 (.int .u8)) [] :: (dd 3 (.pv (.int .i64) (a0.length : Int) :: .pv (.int .i64) x9 :: .pv (.int .i64) x10 :: (dd 38 [])))), stk := [], heap := [(40, .var (.arr 32 (.int .u8)) (.pv (.arr 32 (.int .u8)) a1))] }
noncomputable def f106_l0_o0 (a0 : T14) (a1 : (List Int)) (x9 : Int) : St := { env := (.pv K21 a0 :: .dead :: .fn 97 (.pv .unit ()) :: .dead :: .ptr 40 (.arr 32 (.int .u8)) [] :: (dd 3 (.pv (.int .i64) (a0.length : Int) :: .pv (.int .i64) x9 :: (dd 39 [])))), stk := [], heap := [(40, .var (.arr 32 (.int .u8)) (.pv (.arr 32 (.int .u8)) a1))] }
noncomputable def slices_BinarySearchFunc_impl_Key_impl_Key_impl_Key_l0_b (rec : Int → Int → Option (shDen slices_BinarySearchFunc_impl_Key_impl_Key_impl_Key_sh)) (ke0 : Int → Option (shDen slices_BinarySearchFunc_impl_Key_impl_Key_impl_Key_sh)) (a0 : T14) (a1 : (List Int)) (x9 : Int) (x10 : Int) : Option (shDen slices_BinarySearchFunc_impl_Key_impl_Key_impl_Key_sh) :=
 (cond (decide (x9 < x10))
 (cond ((decide ((0 : Int) ≤ (IntKind.wrap .i64 (shrI .u64 (IntKind.wrap .u64 (IntKind.wrap .i64 (x9 + x10))) (1 : Int))))) && (decide ((IntKind.wrap .i64 (shrI .u64 (IntKind.wrap .u64 (IntKind.wrap .i64 (x9 + x10))) (1 : Int))) < (a0.length : Int))))
 (bindO (impl_compareKeys_r (a0.getD ((IntKind.wrap .i64 (shrI .u64 (IntKind.wrap .u64 (IntKind.wrap .i64 (x9 + x10))) (1 : Int))).toNat) (List.replicate 32 (0 : Int))) a1) fun (b2 : Int) => (cond (decide (b2 < (0 : Int)))
 (rec (IntKind.wrap .i64 ((IntKind.wrap .i64 (shrI .u64 (IntKind.wrap .u64 (IntKind.wrap .i64 (x9 + x10))) (1 : Int))) + (1 : Int))) x10)
 (rec x9 (IntKind.wrap .i64 (shrI .u64 (IntKind.wrap .u64 (IntKind.wrap .i64 (x9 + x10))) (1 : Int))))))
 none)
 (ke0 x9))
noncomputable def slices_BinarySearchFunc_impl_Key_impl_Key_impl_Key_l0_L (ke0 : Int → Option (shDen slices_BinarySearchFunc_impl_Key_impl_Key_impl_Key_sh)) (a0 : T14) (a1 : (List Int)) : Nat → Int → Int → Option (shDen slices_BinarySearchFunc_impl_Key_impl_Key_impl_Key_sh)
 | 0 => fun _ _ => none
 | n + 1 => slices_BinarySearchFunc_impl_Key_impl_Key_impl_Key_l0_b (slices_BinarySearchFunc_impl_Key_impl_Key_impl_Key_l0_L ke0 a0 a1 n) ke0 a0 a1
noncomputable def slices_BinarySearchFunc_impl_Key_impl_Key_impl_Key_r (a0 : T14) (a1 : (List Int)) (a2 : Unit) : Option (shDen slices_BinarySearchFunc_impl_Key_impl_Key_impl_Key_sh) :=
 (slices_BinarySearchFunc_impl_Key_impl_Key_impl_Key_l0_L (fun x9 => (cond (decide (x9 < (a0.length : Int)))
 (cond ((decide ((0 : Int) ≤ x9)) && (decide (x9 < (a0.length : Int))))
 (bindO (impl_compareKeys_r (a0.getD (x9.toNat) (List.replicate 32 (0 : Int))) a1) fun (b3 : Int) => (some (x9, (decide (b3 = (0 : Int))))))
 none)
 (some (x9, false)))) a0 a1 FUEL (0 : Int) (a0.length : Int))
noncomputable def f106_l0_p (k : Nat) (K : Ex → St → Option (shDen slices_BinarySearchFunc_impl_Key_impl_Key_impl_Key_sh)) (n : Nat) (a0 : T14) (a1 : (List Int)) (x9 : Int) (x10 : Int) : Option (shDen slices_BinarySearchFunc_impl_Key_impl_Key_impl_Key_sh) := loopK (f106_cx k) 0 (execK (f106_cx k) (callK (f106_cx k) 8) 0 106 (sub f106_c [1, 1, 1, 0, 0, 0])) f106_l0_cut K n (f106_l0_s a0 a1 x9 x10)

theorem f106_l0_exit0 (k : Nat)  (a0 : T14) (a1 : (List Int)) (x9 : Int) : ((blkK 0 (seqK (execK (f106_cx k) (callK (f106_cx k) 8) 0 106 (sub f106_c [1, 1, 1, 1])) (finK (f106_cx k) f106_i slices_BinarySearchFunc_impl_Key_impl_Key_impl_Key_sh))) (.exit 0) (f106_l0_o0 a0 a1 x9) : Option (shDen slices_BinarySearchFunc_impl_Key_impl_Key_impl_Key_sh)) =
 ((cond (decide (x9 < (a0.length : Int)))
 (cond ((decide ((0 : Int) ≤ x9)) && (decide (x9 < (a0.length : Int))))
 (bindO (impl_compareKeys_r (a0.getD (x9.toNat) (List.replicate 32 (0 : Int))) a1) fun (b3 : Int) => (some (x9, (decide (b3 = (0 : Int))))))
 none)
 (some (x9, false))) : Option (shDen slices_BinarySearchFunc_impl_Key_impl_Key_impl_Key_sh)) := by kernel_rfl

theorem f106_l0_round (k : Nat) (K : Ex → St → Option (shDen slices_BinarySearchFunc_impl_Key_impl_Key_impl_Key_sh)) (n : Nat) (a0 : T14) (a1 : (List Int)) (x9 : Int) (x10 : Int) : (f106_l0_p k K (n + 1) a0 a1 x9 x10 : Option (shDen slices_BinarySearchFunc_impl_Key_impl_Key_impl_Key_sh)) = slices_BinarySearchFunc_impl_Key_impl_Key_impl_Key_l0_b ((fun x9 x10 => f106_l0_p k K n a0 a1 x9 x10)) (fun x9 => K (.exit 0) (f106_l0_o0 a0 a1 x9)) a0 a1 x9 x10 := by kernel_rfl

theorem f106_l0_L_eq (K : Ex → St → Option (shDen slices_BinarySearchFunc_impl_Key_impl_Key_impl_Key_sh)) (a0 : T14) (a1 : (List Int)) : ∀ (n : Nat) (x9 : Int) (x10 : Int), (f106_l0_p FUEL K n a0 a1 x9 x10 : Option (shDen slices_BinarySearchFunc_impl_Key_impl_Key_impl_Key_sh)) = slices_BinarySearchFunc_impl_Key_impl_Key_impl_Key_l0_L (fun x9 => K (.exit 0) (f106_l0_o0 a0 a1 x9)) a0 a1 n x9 x10 := by
 intro n
 induction n with
 | zero => intros; rfl
 | succ n ih =>
  intro x9 x10
  exact (f106_l0_round FUEL K n a0 a1 x9 x10).trans (congrArg (fun f => slices_BinarySearchFunc_impl_Key_impl_Key_impl_Key_l0_b f (fun x9 => K (.exit 0) (f106_l0_o0 a0 a1 x9)) a0 a1 x9 x10) (funext fun x9 => funext fun x10 => ih x9 x10))

theorem f106_start (k : Nat) (a0 : T14) (a1 : (List Int)) (a2 : Unit) : fnK (f106_cx k) 8 106 f106_i slices_BinarySearchFunc_impl_Key_impl_Key_impl_Key_sh [.pv K21 a0, .pv (.arr 32 (.int .u8)) a1, .fn 97 (.pv .unit ())] =
 ((loopK (f106_cx k) 0 (execK (f106_cx k) (callK (f106_cx k) 8) 0 106 (sub f106_c [1, 1, 1, 0, 0, 0])) f106_l0_cut (blkK 0 (seqK (execK (f106_cx k) (callK (f106_cx k) 8) 0 106 (sub f106_c [1, 1, 1, 1])) (finK (f106_cx k) f106_i slices_BinarySearchFunc_impl_Key_impl_Key_impl_Key_sh))) k (f106_l0_s a0 a1 (0 : Int) (a0.length : Int))) : Option (shDen slices_BinarySearchFunc_impl_Key_impl_Key_impl_Key_sh)) := by kernel_rfl

theorem f106_run (a0 : T14) (a1 : (List Int)) (a2 : Unit) : fnK (f106_cx FUEL) 8 106 f106_i slices_BinarySearchFunc_impl_Key_impl_Key_impl_Key_sh [.pv K21 a0, .pv (.arr 32 (.int .u8)) a1, .fn 97 (.pv .unit ())] = slices_BinarySearchFunc_impl_Key_impl_Key_impl_Key_r a0 a1 a2 :=
 (f106_start FUEL a0 a1 a2).trans ((f106_l0_L_eq _ a0 a1 FUEL (0 : Int) (a0.length : Int)).trans (congrArg (fun e0 => slices_BinarySearchFunc_impl_Key_impl_Key_impl_Key_l0_L e0 a0 a1 FUEL (0 : Int) (a0.length : Int)) (funext fun x9 => (f106_l0_exit0 FUEL  a0 a1 x9).trans (rfl))))

noncomputable def f106_con : Con := { ps := (.pair K21 (.pair (.arr 32 (.int .u8)) (.pair (.fnc 97) .unit))), sh := slices_BinarySearchFunc_impl_Key_impl_Key_impl_Key_sh, raw := fun x => slices_BinarySearchFunc_impl_Key_impl_Key_impl_Key_r x.1 x.2.1 x.2.2.1 }
theorem f106_conOk : ConOk Tryz.prog 106 f106_con := con_of_fn (f106_tabs FUEL) (depth := 8) f106_ok fun x y h => (f106_run x.1 x.2.1 x.2.2.1).trans h

noncomputable def f90_cx (k : Nat) : Cx := mkC [] [(106, f106_con)] [] [] [] k [] false
theorem f90_tabs (k : Nat) : TabsOk Tryz.prog (f90_cx k) := mkC_ok ⟨f106_conOk, trivial⟩ trivial trivial trivial
abbrev impl_shop_find_sh : List Sh := [.pl (.int .i64), .pl .bool]
noncomputable def impl_shop_find_r (a0 : T4) (a1 : (List Int)) : Option (shDen impl_shop_find_sh) :=
 (bindO (slices_BinarySearchFunc_impl_Key_impl_Key_impl_Key_r a0.1 a1 ()) fun (b1 : (Int × Bool)) => (some (b1.1, b1.2)))
theorem f90_run (a0 : T4) (a1 : (List Int)) : fnK (f90_cx FUEL) 8 90 f90_i impl_shop_find_sh [.pv (.ref K2) a0, .pv (.arr 32 (.int .u8)) a1] = impl_shop_find_r a0 a1 := by kernel_rfl

noncomputable def f90_con : Con := { ps := (.pair (.ref K2) K18), sh := impl_shop_find_sh, raw := fun x => impl_shop_find_r x.1 x.2.1 }
theorem f90_conOk : ConOk Tryz.prog 90 f90_con := con_of_fn (f90_tabs FUEL) (depth := 8) f90_ok fun x y h => (f90_run x.1 x.2.1).trans h

noncomputable def f64_cx (k : Nat) : Cx := mkC [] [(90, f90_con)] [] [] [] k [] false
theorem f64_tabs (k : Nat) : TabsOk Tryz.prog (f64_cx k) := mkC_ok ⟨f90_conOk, trivial⟩ trivial trivial trivial
abbrev impl_shop_get_sh : List Sh := [.pl K13, .pl .bool]
noncomputable def impl_shop_get_r (a0 : T4) (a1 : (List Int)) : Option (shDen impl_shop_get_sh) :=
 (bindO (impl_shop_find_r a0 a1) fun (b1 : (Int × Bool)) => (cond (!b1.2)
 (some (((0 : Int), ([], ())), false))
 (cond ((decide ((0 : Int) ≤ b1.1)) && (decide (b1.1 < (a0.2.1.length : Int))))
 (some ((a0.2.1.getD (b1.1.toNat) ((0 : Int), ([], ()))), true))
 none)))
theorem f64_run (a0 : T4) (a1 : (List Int)) : fnK (f64_cx FUEL) 8 64 f64_i impl_shop_get_sh [.pv (.ref K2) a0, .pv (.arr 32 (.int .u8)) a1] = impl_shop_get_r a0 a1 := by kernel_rfl

noncomputable def f64_con : Con := { ps := (.pair (.ref K2) K18), sh := impl_shop_get_sh, raw := fun x => impl_shop_get_r x.1 x.2.1 }
theorem f64_conOk : ConOk Tryz.prog 64 f64_con := con_of_fn (f64_tabs FUEL) (depth := 8) f64_ok fun x y h => (f64_run x.1 x.2.1).trans h

noncomputable def f114_cx (k : Nat) : Cx := mkC [] [(44, f44_con)] [] [] [] k [] false
theorem f114_tabs (k : Nat) : TabsOk Tryz.prog (f114_cx k) := mkC_ok ⟨f44_conOk, trivial⟩ trivial trivial trivial
abbrev impl_ValidEntry_sh : List Sh := [.pl .bool]
noncomputable def impl_ValidEntry_r (a0 : T9) : Option (shDen impl_ValidEntry_sh) :=
 (bindO (impl_isName_r a0.1) fun (b1 : Bool) => (cond b1
 (some (decide ((a0.2.1.length : Int) ≤ (64 : Int))))
 (some false)))
theorem f114_run (a0 : T9) : fnK (f114_cx FUEL) 8 114 f114_i impl_ValidEntry_sh [.pv K20 a0] = impl_ValidEntry_r a0 := by kernel_rfl

noncomputable def f114_con : Con := { ps := K16, sh := impl_ValidEntry_sh, raw := fun x => impl_ValidEntry_r x.1 }
theorem f114_conOk : ConOk Tryz.prog 114 f114_con := con_of_fn (f114_tabs FUEL) (depth := 8) f114_ok fun x y h => (f114_run x.1).trans h

noncomputable def f99_cx (k : Nat) : Cx := mkC [] [(114, f114_con)] [] [] [] k [] false
theorem f99_tabs (k : Nat) : TabsOk Tryz.prog (f99_cx k) := mkC_ok ⟨f114_conOk, trivial⟩ trivial trivial trivial
abbrev impl_ReadMapNode_sh : List Sh := [.pl K4, .pl (.int .i64)]
noncomputable def impl_ReadMapNode_r (a0 : (List Int)) : Option (shDen impl_ReadMapNode_sh) :=
 (cond (decide ((a0.length : Int) < (65 : Int)))
 (some (((List.replicate 32 (0 : Int)), ((List.replicate 32 (0 : Int)), (([], ([], ())), ()))), (5 : Int)))
 (cond (decide ((64 : Int) < (a0.length : Int)))
 (cond (decide ((a0.length : Int) < (IntKind.wrap .i64 ((65 : Int) + (IntKind.wrap .i64 (a0.getD 64 (0 : Int)))))))
 (some (((List.replicate 32 (0 : Int)), ((List.replicate 32 (0 : Int)), (([], ([], ())), ()))), (5 : Int)))
 (cond (decide ((64 : Int) < (a0.length : Int)))
 (cond (decide (32 ≤ a0.length))
 (cond (decide ((32 : Int) ≤ (a0.length : Int)))
 (cond (decide (32 ≤ (cutL a0 32 (a0.length)).length))
 (cond ((decide ((0 : Int) ≤ (IntKind.wrap .i64 ((65 : Int) + (IntKind.wrap .i64 (a0.getD 64 (0 : Int))))))) && (decide ((IntKind.wrap .i64 ((65 : Int) + (IntKind.wrap .i64 (a0.getD 64 (0 : Int))))) ≤ (a0.length : Int))))
 (cond (decide ((65 : Int) ≤ (IntKind.wrap .i64 ((65 : Int) + (IntKind.wrap .i64 (a0.getD 64 (0 : Int)))))))
 (cond ((decide ((0 : Int) ≤ (IntKind.wrap .i64 ((65 : Int) + (IntKind.wrap .i64 (a0.getD 64 (0 : Int))))))) && (decide ((IntKind.wrap .i64 ((65 : Int) + (IntKind.wrap .i64 (a0.getD 64 (0 : Int))))) ≤ (a0.length : Int))))
 (bindO (impl_ValidEntry_r ((cutL a0 65 ((IntKind.wrap .i64 ((65 : Int) + (IntKind.wrap .i64 (a0.getD 64 (0 : Int))))).toNat)), ((cutL a0 ((IntKind.wrap .i64 ((65 : Int) + (IntKind.wrap .i64 (a0.getD 64 (0 : Int))))).toNat) (a0.length)), ()))) fun (b1 : Bool) => (cond (!b1)
 (some (((List.replicate 32 (0 : Int)), ((List.replicate 32 (0 : Int)), (([], ([], ())), ()))), (5 : Int)))
 (some (((a0.take 32), (((cutL a0 32 (a0.length)).take 32), (((cutL a0 65 ((IntKind.wrap .i64 ((65 : Int) + (IntKind.wrap .i64 (a0.getD 64 (0 : Int))))).toNat)), ((cutL a0 ((IntKind.wrap .i64 ((65 : Int) + (IntKind.wrap .i64 (a0.getD 64 (0 : Int))))).toNat) (a0.length)), ())), ()))), (0 : Int)))))
 none)
 none)
 none)
 none)
 none)
 none)
 none))
 none))
theorem f99_run (a0 : (List Int)) : fnK (f99_cx FUEL) 8 99 f99_i impl_ReadMapNode_sh [.pv K25 a0] = impl_ReadMapNode_r a0 := by kernel_rfl

noncomputable def f99_con : Con := { ps := K19, sh := impl_ReadMapNode_sh, raw := fun x => impl_ReadMapNode_r x.1 }
theorem f99_conOk : ConOk Tryz.prog 99 f99_con := con_of_fn (f99_tabs FUEL) (depth := 8) f99_ok fun x y h => (f99_run x.1).trans h

noncomputable def f77_cx (k : Nat) : Cx := mkC [] [] [] [] [] k [] false
theorem f77_tabs (k : Nat) : TabsOk Tryz.prog (f77_cx k) := mkC_ok trivial trivial trivial trivial
abbrev impl_toldCode_sh : List Sh := [.pl (.int .i64)]
noncomputable def impl_toldCode_r (a0 : Int) : Option (shDen impl_toldCode_sh) :=
 (cond (decide (a0 = (6 : Int)))
 (some (4 : Int))
 (some a0))
theorem f77_run (a0 : Int) : fnK (f77_cx FUEL) 8 77 f77_i impl_toldCode_sh [.pv (.int .i64) a0] = impl_toldCode_r a0 := by kernel_rfl

noncomputable def f77_con : Con := { ps := K23, sh := impl_toldCode_sh, raw := fun x => impl_toldCode_r x.1 }
theorem f77_conOk : ConOk Tryz.prog 77 f77_con := con_of_fn (f77_tabs FUEL) (depth := 8) f77_ok fun x y h => (f77_run x.1).trans h

noncomputable def f78_cx (k : Nat) : Cx := mkC [] [] [] [] [] k [] false
theorem f78_tabs (k : Nat) : TabsOk Tryz.prog (f78_cx k) := mkC_ok trivial trivial trivial trivial
abbrev impl_MapNode_next_sh : List Sh := [.pl (.arr 32 (.int .u8))]
noncomputable def impl_MapNode_next_r (a0 : T2) (a1 : List Int) : Option (shDen impl_MapNode_next_sh) :=
 (cond (ltI a1 a0.2.2.1.1)
 (some a0.1)
 (some a0.2.1))
theorem f78_run (a0 : T2) (a1 : List Int) : fnK (f78_cx FUEL) 8 78 f78_i impl_MapNode_next_sh [.pv K4 a0, .pv .str a1] = impl_MapNode_next_r a0 a1 := by kernel_rfl

noncomputable def f78_con : Con := { ps := (.pair K4 K26), sh := impl_MapNode_next_sh, raw := fun x => impl_MapNode_next_r x.1 x.2.1 }
theorem f78_conOk : ConOk Tryz.prog 78 f78_con := con_of_fn (f78_tabs FUEL) (depth := 8) f78_ok fun x y h => (f78_run x.1 x.2.1).trans h

noncomputable def f21_l0_cut : Cut := { keep := [0, 2, 4, 8], stk := [[7, 11]], ids := [70, 160, 161, 162, 280, 100040, 190080], own := [(8, 190080, 44)], outs := [(0, [6, 7], [70, 280, 190080]), (1, [8], [70, 280, 190080])], fix := [161, 162, 160] }
noncomputable def f21_cx (k : Nat) : Cx := mkC [(43, f43_i), (45, f45_i), (46, f46_i), (75, f75_i), (76, f76_i)] [(44, f44_con), (64, f64_con), (72, f72_con), (73, f73_con), (74, f74_con), (77, f77_con), (78, f78_con), (98, f98_con), (99, f99_con)] [] [] [(2100330046, [(0, f21_l0_cut)])] k [] false
theorem f21_tabs (k : Nat) : TabsOk Tryz.prog (f21_cx k) := mkC_ok ⟨f44_conOk, f64_conOk, f72_conOk, f73_conOk, f74_conOk, f77_conOk, f78_conOk, f98_conOk, f99_conOk, trivial⟩ trivial trivial ⟨f43_ok, f45_ok, f46_ok, f75_ok, f76_ok, trivial⟩
abbrev impl_ProofFromCopy_sh : List Sh := [.own 90 K4, .pl (.arr 32 (.int .u8)), .pl (.int .i64)]
noncomputable def f21_l0_s (a0 : T6) (a1 : (List Int)) (a2 : List Int) (y280lo : T4) (y280rl : (List Int)) (y280rrl : Int) (y100040 : (List Int)) (z190080 : T1) : St := { env := (.ptr 280 K0 [] :: .dead :: .pv .str a2 :: .dead :: .ptr 100040 (.arr 32 (.int .u8)) [] :: (dd 3 (.sl 190080 K4 :: (dd 33 [])))), stk := [(dd 7 (.ptr 70 (.arr 32 (.int .u8)) [] :: (dd 3 (.ptr 280 K0 [] :: (dd 33 [])))))], heap := [(30, .var K7 (.pv K7 a0)), (40, .var (.arr 32 (.int .u8)) (.pv (.arr 32 (.int .u8)) a1)), (70, .var (.arr 32 (.int .u8)) (.pv (.arr 32 (.int .u8)) (List.replicate 32 (0 : Int)))), (280, .var K0 (.pr (.pv (.opt K2) (some y280lo)) (.pv K5 (y280rl, (y280rrl, (true, ((List.replicate 32 (0 : Int)), ()))))))), (100040, .var (.arr 32 (.int .u8)) (.pv (.arr 32 (.int .u8)) y100040)), (190080, .arr 90 K4 z190080)] }
noncomputable def f21_l0_o (a0 : T6) (a1 : (List Int)) (y280lo : T4) (y280rl : (List Int)) (y280rrl : Int) (z190080 : T1) (x7 : Int) (y280rrrrl : (List Int)) : St := { env := (dd 6 (.sl 190080 K4 :: .pv (.int .i64) x7 :: (dd 34 []))), stk := [(dd 7 (.ptr 70 (.arr 32 (.int .u8)) [] :: (dd 3 (.ptr 280 K0 [] :: (dd 33 [])))))], heap := [(30, .var K7 (.pv K7 a0)), (40, .var (.arr 32 (.int .u8)) (.pv (.arr 32 (.int .u8)) a1)), (70, .var (.arr 32 (.int .u8)) (.pv (.arr 32 (.int .u8)) (List.replicate 32 (0 : Int)))), (280, .var K0 (.pr (.pv (.opt K2) (some y280lo)) (.pv K5 (y280rl, (y280rrl, (true, (y280rrrrl, ()))))))), (190080, .arr 90 K4 z190080)] }
noncomputable def f21_l0_o0 (a0 : T6) (a1 : (List Int)) (y280lo : T4) (y280rl : (List Int)) (y280rrl : Int) (z190080 : T1) : St := { env := (dd 8 (.sl 190080 K4 :: (dd 33 []))), stk := [(dd 7 (.ptr 70 (.arr 32 (.int .u8)) [] :: (dd 3 (.ptr 280 K0 [] :: (dd 33 [])))))], heap := [(30, .var K7 (.pv K7 a0)), (40, .var (.arr 32 (.int .u8)) (.pv (.arr 32 (.int .u8)) a1)), (70, .var (.arr 32 (.int .u8)) (.pv (.arr 32 (.int .u8)) (List.replicate 32 (0 : Int)))), (280, .var K0 (.pr (.pv (.opt K2) (some y280lo)) (.pv K5 (y280rl, (y280rrl, (true, ((List.replicate 32 (0 : Int)), ()))))))), (190080, .arr 90 K4 z190080)] }
noncomputable def impl_ProofFromCopy_l0_b (rec : T4 → (List Int) → Int → (List Int) → T1 → Option (shDen impl_ProofFromCopy_sh)) (kr : T4 → (List Int) → Int → T1 → Int → (List Int) → Option (shDen impl_ProofFromCopy_sh)) (ke0 : T4 → (List Int) → Int → T1 → Option (shDen impl_ProofFromCopy_sh)) (a0 : T6) (a1 : (List Int)) (a2 : List Int) (y280lo : T4) (y280rl : (List Int)) (y280rrl : Int) (y100040 : (List Int)) (z190080 : T1) : Option (shDen impl_ProofFromCopy_sh) :=
 (cond (!(eqd (.arr 32 (.int .u8)) y100040 y280rl))
 (bindO (impl_shop_get_r y280lo y100040) fun (b12 : (T10 × Bool)) => (cond (!b12.2)
 (bindO (impl_toldCode_r (6 : Int)) fun (b13 : Int) => (kr y280lo y280rl y280rrl z190080 b13 y100040))
 (bindO (impl_ReadMapNode_r b12.1.2.1) fun (b14 : (T2 × Int)) => (cond (!(decide (b12.1.1 = (5 : Int))))
 (bindO (impl_toldCode_r (8 : Int)) fun (b15 : Int) => (kr y280lo y280rl (IntKind.wrap .i64 (y280rrl + (1 : Int))) z190080 b15 (List.replicate 32 (0 : Int))))
 (cond (!(decide (b14.2 = (0 : Int))))
 (bindO (impl_toldCode_r (8 : Int)) fun (b16 : Int) => (kr y280lo y280rl (IntKind.wrap .i64 (y280rrl + (1 : Int))) z190080 b16 (List.replicate 32 (0 : Int))))
 (cond (decide ((64 : Int) < (IntKind.wrap .i64 (y280rrl + (1 : Int)))))
 (bindO (impl_toldCode_r (8 : Int)) fun (b17 : Int) => (kr y280lo y280rl (IntKind.wrap .i64 (y280rrl + (1 : Int))) z190080 b17 (List.replicate 32 (0 : Int))))
 (cond (decide ((z190080.length + 1) * 96 ≤ 140737488355328) && decide (z190080.length + 1 ≤ 9223372036854775807))
 (cond (decide (b14.1.2.2.1.1 = a2))
 (ke0 y280lo y280rl (IntKind.wrap .i64 (y280rrl + (1 : Int))) (z190080 ++ [b14.1]))
 (bindO (impl_MapNode_next_r b14.1 a2) fun (b18 : (List Int)) => (rec y280lo y280rl (IntKind.wrap .i64 (y280rrl + (1 : Int))) b18 (z190080 ++ [b14.1]))))
 none)))))))
 (ke0 y280lo y280rl y280rrl z190080))
noncomputable def impl_ProofFromCopy_l0_L (kr : T4 → (List Int) → Int → T1 → Int → (List Int) → Option (shDen impl_ProofFromCopy_sh)) (ke0 : T4 → (List Int) → Int → T1 → Option (shDen impl_ProofFromCopy_sh)) (a0 : T6) (a1 : (List Int)) (a2 : List Int) : Nat → T4 → (List Int) → Int → (List Int) → T1 → Option (shDen impl_ProofFromCopy_sh)
 | 0 => fun _ _ _ _ _ => none
 | n + 1 => impl_ProofFromCopy_l0_b (impl_ProofFromCopy_l0_L kr ke0 a0 a1 a2 n) kr ke0 a0 a1 a2
noncomputable def impl_ProofFromCopy_r (a0 : T6) (a1 : (List Int)) (a2 : List Int) : Option (shDen impl_ProofFromCopy_sh) :=
 (bindO (impl_ValidStore_r a0) fun (b1 : Bool) => (cond (!b1)
 (some ([], ((List.replicate 32 (0 : Int)), (1 : Int))))
 (bindO (impl_Store_keys_r a0) fun (b2 : T14) => (bindO (slices_Clone_impl_Blob_impl_Blob_r a0.1) fun (b3 : T8) => (bindO (impl_isName_r a2) fun (b4 : Bool) => (cond (!b4)
 (some ([], ((List.replicate 32 (0 : Int)), (1 : Int))))
 (bindO (impl_EmptyMapKey_r) fun (b5 : (List Int)) => (impl_ProofFromCopy_l0_L (fun y280lo y280rl y280rrl z190080 x7 y280rrrrl => (cond (!(decide (x7 = (0 : Int))))
 (some ([], (y280rrrrl, x7)))
 (some (z190080, ((List.replicate 32 (0 : Int)), (0 : Int)))))) (fun y280lo y280rl y280rrl z190080 => (some (z190080, ((List.replicate 32 (0 : Int)), (0 : Int))))) a0 a1 a2 FUEL (b2, (b3, ())) b5 (0 : Int) a1 []))))))))
noncomputable def f21_l0_p (k : Nat) (K : Ex → St → Option (shDen impl_ProofFromCopy_sh)) (n : Nat) (a0 : T6) (a1 : (List Int)) (a2 : List Int) (y280lo : T4) (y280rl : (List Int)) (y280rrl : Int) (y100040 : (List Int)) (z190080 : T1) : Option (shDen impl_ProofFromCopy_sh) := loopK (f21_cx k) 1 (execK (f21_cx k) (callK (f21_cx k) 7) 1 2100330046 (sub f46_c [1, 1, 0, 0, 0])) f21_l0_cut K n (f21_l0_s a0 a1 a2 y280lo y280rl y280rrl y100040 z190080)

theorem f21_l0_ret (k : Nat)  (a0 : T6) (a1 : (List Int)) (y280lo : T4) (y280rl : (List Int)) (y280rrl : Int) (z190080 : T1) (x7 : Int) (y280rrrrl : (List Int)) : ((blkK 0 (seqK (execK (f21_cx k) (callK (f21_cx k) 7) 1 2100330046 (sub f46_c [1, 1, 1])) (retK (f21_cx k) f46_i (some 33) 0 (opsRest (f21_cx k) (callK (f21_cx k) 8) 0 21 false (regOps (sub f21_c [1, 1, 1, 1, 0])) 3 (seqK (execK (f21_cx k) (callK (f21_cx k) 8) 0 21 (sub f21_c [1, 1, 1, 1, 1])) (finK (f21_cx k) f21_i impl_ProofFromCopy_sh)))))) .ret (f21_l0_o a0 a1 y280lo y280rl y280rrl z190080 x7 y280rrrrl) : Option (shDen impl_ProofFromCopy_sh)) =
 ((cond (!(decide (x7 = (0 : Int))))
 (some ([], (y280rrrrl, x7)))
 (some (z190080, ((List.replicate 32 (0 : Int)), (0 : Int))))) : Option (shDen impl_ProofFromCopy_sh)) := by kernel_rfl

theorem f21_l0_exit0 (k : Nat)  (a0 : T6) (a1 : (List Int)) (y280lo : T4) (y280rl : (List Int)) (y280rrl : Int) (z190080 : T1) : ((blkK 0 (seqK (execK (f21_cx k) (callK (f21_cx k) 7) 1 2100330046 (sub f46_c [1, 1, 1])) (retK (f21_cx k) f46_i (some 33) 0 (opsRest (f21_cx k) (callK (f21_cx k) 8) 0 21 false (regOps (sub f21_c [1, 1, 1, 1, 0])) 3 (seqK (execK (f21_cx k) (callK (f21_cx k) 8) 0 21 (sub f21_c [1, 1, 1, 1, 1])) (finK (f21_cx k) f21_i impl_ProofFromCopy_sh)))))) (.exit 0) (f21_l0_o0 a0 a1 y280lo y280rl y280rrl z190080) : Option (shDen impl_ProofFromCopy_sh)) =
 ((some (z190080, ((List.replicate 32 (0 : Int)), (0 : Int)))) : Option (shDen impl_ProofFromCopy_sh)) := by kernel_rfl

theorem f21_l0_round (k : Nat) (K : Ex → St → Option (shDen impl_ProofFromCopy_sh)) (n : Nat) (a0 : T6) (a1 : (List Int)) (a2 : List Int) (y280lo : T4) (y280rl : (List Int)) (y280rrl : Int) (y100040 : (List Int)) (z190080 : T1) : (f21_l0_p k K (n + 1) a0 a1 a2 y280lo y280rl y280rrl y100040 z190080 : Option (shDen impl_ProofFromCopy_sh)) = impl_ProofFromCopy_l0_b ((fun y280lo y280rl y280rrl y100040 z190080 => f21_l0_p k K n a0 a1 a2 y280lo y280rl y280rrl y100040 z190080)) (fun y280lo y280rl y280rrl z190080 x7 y280rrrrl => K .ret (f21_l0_o a0 a1 y280lo y280rl y280rrl z190080 x7 y280rrrrl)) (fun y280lo y280rl y280rrl z190080 => K (.exit 0) (f21_l0_o0 a0 a1 y280lo y280rl y280rrl z190080)) a0 a1 a2 y280lo y280rl y280rrl y100040 z190080 := by kernel_rfl

theorem f21_l0_L_eq (K : Ex → St → Option (shDen impl_ProofFromCopy_sh)) (a0 : T6) (a1 : (List Int)) (a2 : List Int) : ∀ (n : Nat) (y280lo : T4) (y280rl : (List Int)) (y280rrl : Int) (y100040 : (List Int)) (z190080 : T1), (f21_l0_p FUEL K n a0 a1 a2 y280lo y280rl y280rrl y100040 z190080 : Option (shDen impl_ProofFromCopy_sh)) = impl_ProofFromCopy_l0_L (fun y280lo y280rl y280rrl z190080 x7 y280rrrrl => K .ret (f21_l0_o a0 a1 y280lo y280rl y280rrl z190080 x7 y280rrrrl)) (fun y280lo y280rl y280rrl z190080 => K (.exit 0) (f21_l0_o0 a0 a1 y280lo y280rl y280rrl z190080)) a0 a1 a2 n y280lo y280rl y280rrl y100040 z190080 := by
 intro n
 induction n with
 | zero => intros; rfl
 | succ n ih =>
  intro y280lo y280rl y280rrl y100040 z190080
  exact (f21_l0_round FUEL K n a0 a1 a2 y280lo y280rl y280rrl y100040 z190080).trans (congrArg (fun f => impl_ProofFromCopy_l0_b f (fun y280lo y280rl y280rrl z190080 x7 y280rrrrl => K .ret (f21_l0_o a0 a1 y280lo y280rl y280rrl z190080 x7 y280rrrrl)) (fun y280lo y280rl y280rrl z190080 => K (.exit 0) (f21_l0_o0 a0 a1 y280lo y280rl y280rrl z190080)) a0 a1 a2 y280lo y280rl y280rrl y100040 z190080) (funext fun y280lo => funext fun y280rl => funext fun y280rrl => funext fun y100040 => funext fun z190080 => ih y280lo y280rl y280rrl y100040 z190080))

theorem f21_start (k : Nat) (a0 : T6) (a1 : (List Int)) (a2 : List Int) : fnK (f21_cx k) 8 21 f21_i impl_ProofFromCopy_sh [.pv K7 a0, .pv (.arr 32 (.int .u8)) a1, .pv .str a2] =
 ((bindO (impl_ValidStore_r a0) fun (b1 : Bool) => (cond (!b1)
 (some ([], ((List.replicate 32 (0 : Int)), (1 : Int))))
 (bindO (impl_Store_keys_r a0) fun (b2 : T14) => (bindO (slices_Clone_impl_Blob_impl_Blob_r a0.1) fun (b3 : T8) => (bindO (impl_isName_r a2) fun (b4 : Bool) => (cond (!b4)
 (some ([], ((List.replicate 32 (0 : Int)), (1 : Int))))
 (bindO (impl_EmptyMapKey_r) fun (b5 : (List Int)) => (loopK (f21_cx k) 1 (execK (f21_cx k) (callK (f21_cx k) 7) 1 2100330046 (sub f46_c [1, 1, 0, 0, 0])) f21_l0_cut (blkK 0 (seqK (execK (f21_cx k) (callK (f21_cx k) 7) 1 2100330046 (sub f46_c [1, 1, 1])) (retK (f21_cx k) f46_i (some 33) 0 (opsRest (f21_cx k) (callK (f21_cx k) 8) 0 21 false (regOps (sub f21_c [1, 1, 1, 1, 0])) 3 (seqK (execK (f21_cx k) (callK (f21_cx k) 8) 0 21 (sub f21_c [1, 1, 1, 1, 1])) (finK (f21_cx k) f21_i impl_ProofFromCopy_sh)))))) k (f21_l0_s a0 a1 a2 (b2, (b3, ())) b5 (0 : Int) a1 []))))))))) : Option (shDen impl_ProofFromCopy_sh)) := by kernel_rfl

theorem f21_run (a0 : T6) (a1 : (List Int)) (a2 : List Int) : fnK (f21_cx FUEL) 8 21 f21_i impl_ProofFromCopy_sh [.pv K7 a0, .pv (.arr 32 (.int .u8)) a1, .pv .str a2] = impl_ProofFromCopy_r a0 a1 a2 :=
 (f21_start FUEL a0 a1 a2).trans (bindC (fun b1 => condC (rfl) (bindC (fun b2 => bindC (fun b3 => bindC (fun b4 => condC (rfl) (bindC (fun b5 => (f21_l0_L_eq _ a0 a1 a2 FUEL (b2, (b3, ())) b5 (0 : Int) a1 []).trans (cong2 (fun e0 e1 => impl_ProofFromCopy_l0_L e0 e1 a0 a1 a2 FUEL (b2, (b3, ())) b5 (0 : Int) a1 []) (funext fun y280lo => funext fun y280rl => funext fun y280rrl => funext fun z190080 => funext fun x7 => funext fun y280rrrrl => (f21_l0_ret FUEL  a0 a1 y280lo y280rl y280rrl z190080 x7 y280rrrrl).trans (rfl)) (funext fun y280lo => funext fun y280rl => funext fun y280rrl => funext fun z190080 => (f21_l0_exit0 FUEL  a0 a1 y280lo y280rl y280rrl z190080).trans (rfl)))))))))))

noncomputable def f21_con : Con := { ps := (.pair K7 K15), sh := impl_ProofFromCopy_sh, raw := fun x => impl_ProofFromCopy_r x.1 x.2.1 x.2.2.1 }
theorem f21_conOk : ConOk Tryz.prog 21 f21_con := con_of_fn (f21_tabs FUEL) (depth := 8) f21_ok fun x y h => (f21_run x.1 x.2.1 x.2.2.1).trans h

noncomputable def f23_l0_cut : Cut := { keep := [2, 3, 5], stk := [], ids := [20, 30], own := [], outs := [(0, [4], []), (1, [], [])] }
noncomputable def f23_cx (k : Nat) : Cx := mkC [] [] [] [] [(23, [(0, f23_l0_cut)])] k [] false
theorem f23_tabs (k : Nat) : TabsOk Tryz.prog (f23_cx k) := mkC_ok trivial trivial trivial trivial
abbrev laws_eqKey_sh : List Sh := [.pl .bool]
noncomputable def f23_l0_s (a0 : (List Int)) (a1 : (List Int)) (x5 : Int) : St := { env := (.dead :: .dead :: .ptr 20 (.arr 32 (.int .u8)) [] :: .ptr 30 (.arr 32 (.int .u8)) [] :: .dead :: .pv (.int .i64) x5 :: (dd 11 [])), stk := [], heap := [(20, .var (.arr 32 (.int .u8)) (.pv (.arr 32 (.int .u8)) a0)), (30, .var (.arr 32 (.int .u8)) (.pv (.arr 32 (.int .u8)) a1))] }
noncomputable def f23_l0_o  : St := { env := (dd 4 (.pv .bool false :: (dd 12 []))), stk := [], heap := [] }
noncomputable def f23_l0_o0  : St := { env := (dd 17 []), stk := [], heap := [] }
noncomputable def laws_eqKey_l0_b (rec : Int → Option (shDen laws_eqKey_sh)) (kr : Option (shDen laws_eqKey_sh)) (ke0 : Option (shDen laws_eqKey_sh)) (a0 : (List Int)) (a1 : (List Int)) (x5 : Int) : Option (shDen laws_eqKey_sh) :=
 (cond (decide (x5 < (32 : Int)))
 (cond ((decide ((0 : Int) ≤ x5)) && (decide (x5 < (32 : Int))))
 (cond ((decide ((0 : Int) ≤ x5)) && (decide (x5 < (32 : Int))))
 (cond (!(decide ((a0.getD (x5.toNat) (0 : Int)) = (a1.getD (x5.toNat) (0 : Int)))))
 (kr)
 (rec (IntKind.wrap .i64 (x5 + (1 : Int)))))
 none)
 none)
 (ke0))
noncomputable def laws_eqKey_l0_L (kr : Option (shDen laws_eqKey_sh)) (ke0 : Option (shDen laws_eqKey_sh)) (a0 : (List Int)) (a1 : (List Int)) : Nat → Int → Option (shDen laws_eqKey_sh)
 | 0 => fun _ => none
 | n + 1 => laws_eqKey_l0_b (laws_eqKey_l0_L kr ke0 a0 a1 n) kr ke0 a0 a1
noncomputable def laws_eqKey_r (a0 : (List Int)) (a1 : (List Int)) : Option (shDen laws_eqKey_sh) :=
 (laws_eqKey_l0_L (some false) (some true) a0 a1 FUEL (0 : Int))
noncomputable def f23_l0_p (k : Nat) (K : Ex → St → Option (shDen laws_eqKey_sh)) (n : Nat) (a0 : (List Int)) (a1 : (List Int)) (x5 : Int) : Option (shDen laws_eqKey_sh) := loopK (f23_cx k) 0 (execK (f23_cx k) (callK (f23_cx k) 8) 0 23 (sub f23_c [1, 0, 1, 0, 0])) f23_l0_cut K n (f23_l0_s a0 a1 x5)

theorem f23_l0_ret (k : Nat)   : ((blkK 0 (seqK (execK (f23_cx k) (callK (f23_cx k) 8) 0 23 (sub f23_c [1, 1])) (finK (f23_cx k) f23_i laws_eqKey_sh))) .ret (f23_l0_o) : Option (shDen laws_eqKey_sh)) =
 ((some false) : Option (shDen laws_eqKey_sh)) := by kernel_rfl

theorem f23_l0_exit0 (k : Nat)   : ((blkK 0 (seqK (execK (f23_cx k) (callK (f23_cx k) 8) 0 23 (sub f23_c [1, 1])) (finK (f23_cx k) f23_i laws_eqKey_sh))) (.exit 0) (f23_l0_o0) : Option (shDen laws_eqKey_sh)) =
 ((some true) : Option (shDen laws_eqKey_sh)) := by kernel_rfl

theorem f23_l0_round (k : Nat) (K : Ex → St → Option (shDen laws_eqKey_sh)) (n : Nat) (a0 : (List Int)) (a1 : (List Int)) (x5 : Int) : (f23_l0_p k K (n + 1) a0 a1 x5 : Option (shDen laws_eqKey_sh)) = laws_eqKey_l0_b ((fun x5 => f23_l0_p k K n a0 a1 x5)) (K .ret (f23_l0_o)) (K (.exit 0) (f23_l0_o0)) a0 a1 x5 := by kernel_rfl

theorem f23_l0_L_eq (K : Ex → St → Option (shDen laws_eqKey_sh)) (a0 : (List Int)) (a1 : (List Int)) : ∀ (n : Nat) (x5 : Int), (f23_l0_p FUEL K n a0 a1 x5 : Option (shDen laws_eqKey_sh)) = laws_eqKey_l0_L (K .ret (f23_l0_o)) (K (.exit 0) (f23_l0_o0)) a0 a1 n x5 := by
 intro n
 induction n with
 | zero => intros; rfl
 | succ n ih =>
  intro x5
  exact (f23_l0_round FUEL K n a0 a1 x5).trans (congrArg (fun f => laws_eqKey_l0_b f (K .ret (f23_l0_o)) (K (.exit 0) (f23_l0_o0)) a0 a1 x5) (funext fun x5 => ih x5))

theorem f23_start (k : Nat) (a0 : (List Int)) (a1 : (List Int)) : fnK (f23_cx k) 8 23 f23_i laws_eqKey_sh [.pv (.arr 32 (.int .u8)) a0, .pv (.arr 32 (.int .u8)) a1] =
 ((loopK (f23_cx k) 0 (execK (f23_cx k) (callK (f23_cx k) 8) 0 23 (sub f23_c [1, 0, 1, 0, 0])) f23_l0_cut (blkK 0 (seqK (execK (f23_cx k) (callK (f23_cx k) 8) 0 23 (sub f23_c [1, 1])) (finK (f23_cx k) f23_i laws_eqKey_sh))) k (f23_l0_s a0 a1 (0 : Int))) : Option (shDen laws_eqKey_sh)) := by kernel_rfl

theorem f23_run (a0 : (List Int)) (a1 : (List Int)) : fnK (f23_cx FUEL) 8 23 f23_i laws_eqKey_sh [.pv (.arr 32 (.int .u8)) a0, .pv (.arr 32 (.int .u8)) a1] = laws_eqKey_r a0 a1 :=
 (f23_start FUEL a0 a1).trans ((f23_l0_L_eq _ a0 a1 FUEL (0 : Int)).trans (cong2 (fun e0 e1 => laws_eqKey_l0_L e0 e1 a0 a1 FUEL (0 : Int)) ( (f23_l0_ret FUEL  ).trans (rfl)) ( (f23_l0_exit0 FUEL  ).trans (rfl))))

noncomputable def f23_con : Con := { ps := (.pair (.arr 32 (.int .u8)) K18), sh := laws_eqKey_sh, raw := fun x => laws_eqKey_r x.1 x.2.1 }
theorem f23_conOk : ConOk Tryz.prog 23 f23_con := con_of_fn (f23_tabs FUEL) (depth := 8) f23_ok fun x y h => (f23_run x.1 x.2.1).trans h

noncomputable def f79_cx (k : Nat) : Cx := mkC [] [] [] [] [] k [] false
theorem f79_tabs (k : Nat) : TabsOk Tryz.prog (f79_cx k) := mkC_ok trivial trivial trivial trivial
abbrev laws_eqEntry_sh : List Sh := [.pl .bool]
noncomputable def laws_eqEntry_r (a0 : T9) (a1 : T9) : Option (shDen laws_eqEntry_sh) :=
 (cond (!(decide (a0.1 = a1.1)))
 (some false)
 (cond (!(decide (a0.2.1 = a1.2.1)))
 (some false)
 (some true)))
theorem f79_run (a0 : T9) (a1 : T9) : fnK (f79_cx FUEL) 8 79 f79_i laws_eqEntry_sh [.pv K20 a0, .pv K20 a1] = laws_eqEntry_r a0 a1 := by kernel_rfl

noncomputable def f79_con : Con := { ps := (.pair K20 K16), sh := laws_eqEntry_sh, raw := fun x => laws_eqEntry_r x.1 x.2.1 }
theorem f79_conOk : ConOk Tryz.prog 79 f79_con := con_of_fn (f79_tabs FUEL) (depth := 8) f79_ok fun x y h => (f79_run x.1 x.2.1).trans h

noncomputable def f47_cx (k : Nat) : Cx := mkC [] [(23, f23_con), (79, f79_con)] [] [] [] k [] false
theorem f47_tabs (k : Nat) : TabsOk Tryz.prog (f47_cx k) := mkC_ok ⟨f23_conOk, f79_conOk, trivial⟩ trivial trivial trivial
abbrev laws_eqMapNode_sh : List Sh := [.pl .bool]
noncomputable def laws_eqMapNode_r (a0 : T2) (a1 : T2) : Option (shDen laws_eqMapNode_sh) :=
 (bindO (laws_eqKey_r a0.1 a1.1) fun (b1 : Bool) => (cond (!b1)
 (some false)
 (bindO (laws_eqKey_r a0.2.1 a1.2.1) fun (b2 : Bool) => (cond (!b2)
 (some false)
 (bindO (laws_eqEntry_r a0.2.2.1 a1.2.2.1) fun (b3 : Bool) => (cond (!b3)
 (some false)
 (some true)))))))
theorem f47_run (a0 : T2) (a1 : T2) : fnK (f47_cx FUEL) 8 47 f47_i laws_eqMapNode_sh [.pv K4 a0, .pv K4 a1] = laws_eqMapNode_r a0 a1 := by kernel_rfl

noncomputable def f47_con : Con := { ps := (.pair K4 (.pair K4 .unit)), sh := laws_eqMapNode_sh, raw := fun x => laws_eqMapNode_r x.1 x.2.1 }
theorem f47_conOk : ConOk Tryz.prog 47 f47_con := con_of_fn (f47_tabs FUEL) (depth := 8) f47_ok fun x y h => (f47_run x.1 x.2.1).trans h

noncomputable def f22_l0_cut : Cut := { keep := [0, 1, 5], stk := [], ids := [], own := [], outs := [(0, [4], []), (1, [], [])] }
noncomputable def f22_cx (k : Nat) : Cx := mkC [] [(47, f47_con)] [] [] [(22, [(0, f22_l0_cut)])] k [] false
theorem f22_tabs (k : Nat) : TabsOk Tryz.prog (f22_cx k) := mkC_ok ⟨f47_conOk, trivial⟩ trivial trivial trivial
abbrev laws_eqMapNodeS_sh : List Sh := [.pl .bool]
noncomputable def f22_l0_s (a0 : T1) (a1 : T1) (x5 : Int) : St := { env := (.pv K3 a0 :: .pv K3 a1 :: (dd 3 (.pv (.int .i64) x5 :: (dd 21 [])))), stk := [], heap := [] }
noncomputable def f22_l0_o  : St := { env := (dd 4 (.pv .bool false :: (dd 22 []))), stk := [], heap := [] }
noncomputable def f22_l0_o0  : St := { env := (dd 27 []), stk := [], heap := [] }
noncomputable def laws_eqMapNodeS_l0_b (rec : Int → Option (shDen laws_eqMapNodeS_sh)) (kr : Option (shDen laws_eqMapNodeS_sh)) (ke0 : Option (shDen laws_eqMapNodeS_sh)) (a0 : T1) (a1 : T1) (x5 : Int) : Option (shDen laws_eqMapNodeS_sh) :=
 (cond (decide (x5 < (a0.length : Int)))
 (cond ((decide ((0 : Int) ≤ x5)) && (decide (x5 < (a0.length : Int))))
 (cond ((decide ((0 : Int) ≤ x5)) && (decide (x5 < (a1.length : Int))))
 (bindO (laws_eqMapNode_r (a0.getD (x5.toNat) ((List.replicate 32 (0 : Int)), ((List.replicate 32 (0 : Int)), (([], ([], ())), ())))) (a1.getD (x5.toNat) ((List.replicate 32 (0 : Int)), ((List.replicate 32 (0 : Int)), (([], ([], ())), ()))))) fun (b2 : Bool) => (cond (!b2)
 (kr)
 (rec (IntKind.wrap .i64 (x5 + (1 : Int))))))
 none)
 none)
 (ke0))
noncomputable def laws_eqMapNodeS_l0_L (kr : Option (shDen laws_eqMapNodeS_sh)) (ke0 : Option (shDen laws_eqMapNodeS_sh)) (a0 : T1) (a1 : T1) : Nat → Int → Option (shDen laws_eqMapNodeS_sh)
 | 0 => fun _ => none
 | n + 1 => laws_eqMapNodeS_l0_b (laws_eqMapNodeS_l0_L kr ke0 a0 a1 n) kr ke0 a0 a1
noncomputable def laws_eqMapNodeS_r (a0 : T1) (a1 : T1) : Option (shDen laws_eqMapNodeS_sh) :=
 (cond (!(decide ((a0.length : Int) = (a1.length : Int))))
 (some false)
 (laws_eqMapNodeS_l0_L (some false) (some true) a0 a1 FUEL (0 : Int)))
noncomputable def f22_l0_p (k : Nat) (K : Ex → St → Option (shDen laws_eqMapNodeS_sh)) (n : Nat) (a0 : T1) (a1 : T1) (x5 : Int) : Option (shDen laws_eqMapNodeS_sh) := loopK (f22_cx k) 0 (execK (f22_cx k) (callK (f22_cx k) 8) 0 22 (sub f22_c [1, 1, 0, 1, 0, 0])) f22_l0_cut K n (f22_l0_s a0 a1 x5)

theorem f22_l0_ret (k : Nat)   : ((blkK 0 (seqK (execK (f22_cx k) (callK (f22_cx k) 8) 0 22 (sub f22_c [1, 1, 1])) (finK (f22_cx k) f22_i laws_eqMapNodeS_sh))) .ret (f22_l0_o) : Option (shDen laws_eqMapNodeS_sh)) =
 ((some false) : Option (shDen laws_eqMapNodeS_sh)) := by kernel_rfl

theorem f22_l0_exit0 (k : Nat)   : ((blkK 0 (seqK (execK (f22_cx k) (callK (f22_cx k) 8) 0 22 (sub f22_c [1, 1, 1])) (finK (f22_cx k) f22_i laws_eqMapNodeS_sh))) (.exit 0) (f22_l0_o0) : Option (shDen laws_eqMapNodeS_sh)) =
 ((some true) : Option (shDen laws_eqMapNodeS_sh)) := by kernel_rfl

theorem f22_l0_round (k : Nat) (K : Ex → St → Option (shDen laws_eqMapNodeS_sh)) (n : Nat) (a0 : T1) (a1 : T1) (x5 : Int) : (f22_l0_p k K (n + 1) a0 a1 x5 : Option (shDen laws_eqMapNodeS_sh)) = laws_eqMapNodeS_l0_b ((fun x5 => f22_l0_p k K n a0 a1 x5)) (K .ret (f22_l0_o)) (K (.exit 0) (f22_l0_o0)) a0 a1 x5 := by kernel_rfl

theorem f22_l0_L_eq (K : Ex → St → Option (shDen laws_eqMapNodeS_sh)) (a0 : T1) (a1 : T1) : ∀ (n : Nat) (x5 : Int), (f22_l0_p FUEL K n a0 a1 x5 : Option (shDen laws_eqMapNodeS_sh)) = laws_eqMapNodeS_l0_L (K .ret (f22_l0_o)) (K (.exit 0) (f22_l0_o0)) a0 a1 n x5 := by
 intro n
 induction n with
 | zero => intros; rfl
 | succ n ih =>
  intro x5
  exact (f22_l0_round FUEL K n a0 a1 x5).trans (congrArg (fun f => laws_eqMapNodeS_l0_b f (K .ret (f22_l0_o)) (K (.exit 0) (f22_l0_o0)) a0 a1 x5) (funext fun x5 => ih x5))

theorem f22_start (k : Nat) (a0 : T1) (a1 : T1) : fnK (f22_cx k) 8 22 f22_i laws_eqMapNodeS_sh [.pv K3 a0, .pv K3 a1] =
 ((cond (!(decide ((a0.length : Int) = (a1.length : Int))))
 (some false)
 (loopK (f22_cx k) 0 (execK (f22_cx k) (callK (f22_cx k) 8) 0 22 (sub f22_c [1, 1, 0, 1, 0, 0])) f22_l0_cut (blkK 0 (seqK (execK (f22_cx k) (callK (f22_cx k) 8) 0 22 (sub f22_c [1, 1, 1])) (finK (f22_cx k) f22_i laws_eqMapNodeS_sh))) k (f22_l0_s a0 a1 (0 : Int)))) : Option (shDen laws_eqMapNodeS_sh)) := by kernel_rfl

theorem f22_run (a0 : T1) (a1 : T1) : fnK (f22_cx FUEL) 8 22 f22_i laws_eqMapNodeS_sh [.pv K3 a0, .pv K3 a1] = laws_eqMapNodeS_r a0 a1 :=
 (f22_start FUEL a0 a1).trans (condC (rfl) ((f22_l0_L_eq _ a0 a1 FUEL (0 : Int)).trans (cong2 (fun e0 e1 => laws_eqMapNodeS_l0_L e0 e1 a0 a1 FUEL (0 : Int)) ( (f22_l0_ret FUEL  ).trans (rfl)) ( (f22_l0_exit0 FUEL  ).trans (rfl)))))

noncomputable def f22_con : Con := { ps := (.pair K3 (.pair K3 .unit)), sh := laws_eqMapNodeS_sh, raw := fun x => laws_eqMapNodeS_r x.1 x.2.1 }
theorem f22_conOk : ConOk Tryz.prog 22 f22_con := con_of_fn (f22_tabs FUEL) (depth := 8) f22_ok fun x y h => (f22_run x.1 x.2.1).trans h

noncomputable def f67_l0_cut : Cut := { keep := [0, 1, 5], stk := [], ids := [], own := [], outs := [(0, [4], []), (1, [], [])] }
noncomputable def f67_cx (k : Nat) : Cx := mkC [] [] [] [] [(67, [(0, f67_l0_cut)])] k [] false
theorem f67_tabs (k : Nat) : TabsOk Tryz.prog (f67_cx k) := mkC_ok trivial trivial trivial trivial
abbrev laws_eqByteS_sh : List Sh := [.pl .bool]
noncomputable def f67_l0_s (a0 : (List Int)) (a1 : (List Int)) (x5 : Int) : St := { env := (.pv K25 a0 :: .pv K25 a1 :: (dd 3 (.pv (.int .i64) x5 :: (dd 20 [])))), stk := [], heap := [] }
noncomputable def f67_l0_o  : St := { env := (dd 4 (.pv .bool false :: (dd 21 []))), stk := [], heap := [] }
noncomputable def f67_l0_o0  : St := { env := (dd 26 []), stk := [], heap := [] }
noncomputable def laws_eqByteS_l0_b (rec : Int → Option (shDen laws_eqByteS_sh)) (kr : Option (shDen laws_eqByteS_sh)) (ke0 : Option (shDen laws_eqByteS_sh)) (a0 : (List Int)) (a1 : (List Int)) (x5 : Int) : Option (shDen laws_eqByteS_sh) :=
 (cond (decide (x5 < (a0.length : Int)))
 (cond ((decide ((0 : Int) ≤ x5)) && (decide (x5 < (a0.length : Int))))
 (cond ((decide ((0 : Int) ≤ x5)) && (decide (x5 < (a1.length : Int))))
 (cond (!(decide ((a0.getD (x5.toNat) (0 : Int)) = (a1.getD (x5.toNat) (0 : Int)))))
 (kr)
 (rec (IntKind.wrap .i64 (x5 + (1 : Int)))))
 none)
 none)
 (ke0))
noncomputable def laws_eqByteS_l0_L (kr : Option (shDen laws_eqByteS_sh)) (ke0 : Option (shDen laws_eqByteS_sh)) (a0 : (List Int)) (a1 : (List Int)) : Nat → Int → Option (shDen laws_eqByteS_sh)
 | 0 => fun _ => none
 | n + 1 => laws_eqByteS_l0_b (laws_eqByteS_l0_L kr ke0 a0 a1 n) kr ke0 a0 a1
noncomputable def laws_eqByteS_r (a0 : (List Int)) (a1 : (List Int)) : Option (shDen laws_eqByteS_sh) :=
 (cond (!(decide ((a0.length : Int) = (a1.length : Int))))
 (some false)
 (laws_eqByteS_l0_L (some false) (some true) a0 a1 FUEL (0 : Int)))
noncomputable def f67_l0_p (k : Nat) (K : Ex → St → Option (shDen laws_eqByteS_sh)) (n : Nat) (a0 : (List Int)) (a1 : (List Int)) (x5 : Int) : Option (shDen laws_eqByteS_sh) := loopK (f67_cx k) 0 (execK (f67_cx k) (callK (f67_cx k) 8) 0 67 (sub f67_c [1, 1, 0, 1, 0, 0])) f67_l0_cut K n (f67_l0_s a0 a1 x5)

theorem f67_l0_ret (k : Nat)   : ((blkK 0 (seqK (execK (f67_cx k) (callK (f67_cx k) 8) 0 67 (sub f67_c [1, 1, 1])) (finK (f67_cx k) f67_i laws_eqByteS_sh))) .ret (f67_l0_o) : Option (shDen laws_eqByteS_sh)) =
 ((some false) : Option (shDen laws_eqByteS_sh)) := by kernel_rfl

theorem f67_l0_exit0 (k : Nat)   : ((blkK 0 (seqK (execK (f67_cx k) (callK (f67_cx k) 8) 0 67 (sub f67_c [1, 1, 1])) (finK (f67_cx k) f67_i laws_eqByteS_sh))) (.exit 0) (f67_l0_o0) : Option (shDen laws_eqByteS_sh)) =
 ((some true) : Option (shDen laws_eqByteS_sh)) := by kernel_rfl

theorem f67_l0_round (k : Nat) (K : Ex → St → Option (shDen laws_eqByteS_sh)) (n : Nat) (a0 : (List Int)) (a1 : (List Int)) (x5 : Int) : (f67_l0_p k K (n + 1) a0 a1 x5 : Option (shDen laws_eqByteS_sh)) = laws_eqByteS_l0_b ((fun x5 => f67_l0_p k K n a0 a1 x5)) (K .ret (f67_l0_o)) (K (.exit 0) (f67_l0_o0)) a0 a1 x5 := by kernel_rfl

theorem f67_l0_L_eq (K : Ex → St → Option (shDen laws_eqByteS_sh)) (a0 : (List Int)) (a1 : (List Int)) : ∀ (n : Nat) (x5 : Int), (f67_l0_p FUEL K n a0 a1 x5 : Option (shDen laws_eqByteS_sh)) = laws_eqByteS_l0_L (K .ret (f67_l0_o)) (K (.exit 0) (f67_l0_o0)) a0 a1 n x5 := by
 intro n
 induction n with
 | zero => intros; rfl
 | succ n ih =>
  intro x5
  exact (f67_l0_round FUEL K n a0 a1 x5).trans (congrArg (fun f => laws_eqByteS_l0_b f (K .ret (f67_l0_o)) (K (.exit 0) (f67_l0_o0)) a0 a1 x5) (funext fun x5 => ih x5))

theorem f67_start (k : Nat) (a0 : (List Int)) (a1 : (List Int)) : fnK (f67_cx k) 8 67 f67_i laws_eqByteS_sh [.pv K25 a0, .pv K25 a1] =
 ((cond (!(decide ((a0.length : Int) = (a1.length : Int))))
 (some false)
 (loopK (f67_cx k) 0 (execK (f67_cx k) (callK (f67_cx k) 8) 0 67 (sub f67_c [1, 1, 0, 1, 0, 0])) f67_l0_cut (blkK 0 (seqK (execK (f67_cx k) (callK (f67_cx k) 8) 0 67 (sub f67_c [1, 1, 1])) (finK (f67_cx k) f67_i laws_eqByteS_sh))) k (f67_l0_s a0 a1 (0 : Int)))) : Option (shDen laws_eqByteS_sh)) := by kernel_rfl

theorem f67_run (a0 : (List Int)) (a1 : (List Int)) : fnK (f67_cx FUEL) 8 67 f67_i laws_eqByteS_sh [.pv K25 a0, .pv K25 a1] = laws_eqByteS_r a0 a1 :=
 (f67_start FUEL a0 a1).trans (condC (rfl) ((f67_l0_L_eq _ a0 a1 FUEL (0 : Int)).trans (cong2 (fun e0 e1 => laws_eqByteS_l0_L e0 e1 a0 a1 FUEL (0 : Int)) ( (f67_l0_ret FUEL  ).trans (rfl)) ( (f67_l0_exit0 FUEL  ).trans (rfl)))))

noncomputable def f67_con : Con := { ps := (.pair K25 K19), sh := laws_eqByteS_sh, raw := fun x => laws_eqByteS_r x.1 x.2.1 }
theorem f67_conOk : ConOk Tryz.prog 67 f67_con := con_of_fn (f67_tabs FUEL) (depth := 8) f67_ok fun x y h => (f67_run x.1 x.2.1).trans h

noncomputable def f37_cx (k : Nat) : Cx := mkC [] [(67, f67_con)] [] [] [] k [] false
theorem f37_tabs (k : Nat) : TabsOk Tryz.prog (f37_cx k) := mkC_ok ⟨f67_conOk, trivial⟩ trivial trivial trivial
abbrev laws_eqBlob_sh : List Sh := [.pl .bool]
noncomputable def laws_eqBlob_r (a0 : T10) (a1 : T10) : Option (shDen laws_eqBlob_sh) :=
 (cond (!(decide (a0.1 = a1.1)))
 (some false)
 (bindO (laws_eqByteS_r a0.2.1 a1.2.1) fun (b1 : Bool) => (cond (!b1)
 (some false)
 (some true))))
theorem f37_run (a0 : T10) (a1 : T10) : fnK (f37_cx FUEL) 8 37 f37_i laws_eqBlob_sh [.pv K13 a0, .pv K13 a1] = laws_eqBlob_r a0 a1 := by kernel_rfl

noncomputable def f37_con : Con := { ps := (.pair K13 K10), sh := laws_eqBlob_sh, raw := fun x => laws_eqBlob_r x.1 x.2.1 }
theorem f37_conOk : ConOk Tryz.prog 37 f37_con := con_of_fn (f37_tabs FUEL) (depth := 8) f37_ok fun x y h => (f37_run x.1 x.2.1).trans h

noncomputable def f12_l0_cut : Cut := { keep := [0, 1, 5], stk := [], ids := [], own := [], outs := [(0, [4], []), (1, [], [])] }
noncomputable def f12_cx (k : Nat) : Cx := mkC [] [(37, f37_con)] [] [] [(12, [(0, f12_l0_cut)])] k [] false
theorem f12_tabs (k : Nat) : TabsOk Tryz.prog (f12_cx k) := mkC_ok ⟨f37_conOk, trivial⟩ trivial trivial trivial
abbrev laws_eqBlobS_sh : List Sh := [.pl .bool]
noncomputable def f12_l0_s (a0 : T8) (a1 : T8) (x5 : Int) : St := { env := (.pv K11 a0 :: .pv K11 a1 :: (dd 3 (.pv (.int .i64) x5 :: (dd 21 [])))), stk := [], heap := [] }
noncomputable def f12_l0_o  : St := { env := (dd 4 (.pv .bool false :: (dd 22 []))), stk := [], heap := [] }
noncomputable def f12_l0_o0  : St := { env := (dd 27 []), stk := [], heap := [] }
noncomputable def laws_eqBlobS_l0_b (rec : Int → Option (shDen laws_eqBlobS_sh)) (kr : Option (shDen laws_eqBlobS_sh)) (ke0 : Option (shDen laws_eqBlobS_sh)) (a0 : T8) (a1 : T8) (x5 : Int) : Option (shDen laws_eqBlobS_sh) :=
 (cond (decide (x5 < (a0.length : Int)))
 (cond ((decide ((0 : Int) ≤ x5)) && (decide (x5 < (a0.length : Int))))
 (cond ((decide ((0 : Int) ≤ x5)) && (decide (x5 < (a1.length : Int))))
 (bindO (laws_eqBlob_r (a0.getD (x5.toNat) ((0 : Int), ([], ()))) (a1.getD (x5.toNat) ((0 : Int), ([], ())))) fun (b2 : Bool) => (cond (!b2)
 (kr)
 (rec (IntKind.wrap .i64 (x5 + (1 : Int))))))
 none)
 none)
 (ke0))
noncomputable def laws_eqBlobS_l0_L (kr : Option (shDen laws_eqBlobS_sh)) (ke0 : Option (shDen laws_eqBlobS_sh)) (a0 : T8) (a1 : T8) : Nat → Int → Option (shDen laws_eqBlobS_sh)
 | 0 => fun _ => none
 | n + 1 => laws_eqBlobS_l0_b (laws_eqBlobS_l0_L kr ke0 a0 a1 n) kr ke0 a0 a1
noncomputable def laws_eqBlobS_r (a0 : T8) (a1 : T8) : Option (shDen laws_eqBlobS_sh) :=
 (cond (!(decide ((a0.length : Int) = (a1.length : Int))))
 (some false)
 (laws_eqBlobS_l0_L (some false) (some true) a0 a1 FUEL (0 : Int)))
noncomputable def f12_l0_p (k : Nat) (K : Ex → St → Option (shDen laws_eqBlobS_sh)) (n : Nat) (a0 : T8) (a1 : T8) (x5 : Int) : Option (shDen laws_eqBlobS_sh) := loopK (f12_cx k) 0 (execK (f12_cx k) (callK (f12_cx k) 8) 0 12 (sub f12_c [1, 1, 0, 1, 0, 0])) f12_l0_cut K n (f12_l0_s a0 a1 x5)

theorem f12_l0_ret (k : Nat)   : ((blkK 0 (seqK (execK (f12_cx k) (callK (f12_cx k) 8) 0 12 (sub f12_c [1, 1, 1])) (finK (f12_cx k) f12_i laws_eqBlobS_sh))) .ret (f12_l0_o) : Option (shDen laws_eqBlobS_sh)) =
 ((some false) : Option (shDen laws_eqBlobS_sh)) := by kernel_rfl

theorem f12_l0_exit0 (k : Nat)   : ((blkK 0 (seqK (execK (f12_cx k) (callK (f12_cx k) 8) 0 12 (sub f12_c [1, 1, 1])) (finK (f12_cx k) f12_i laws_eqBlobS_sh))) (.exit 0) (f12_l0_o0) : Option (shDen laws_eqBlobS_sh)) =
 ((some true) : Option (shDen laws_eqBlobS_sh)) := by kernel_rfl

theorem f12_l0_round (k : Nat) (K : Ex → St → Option (shDen laws_eqBlobS_sh)) (n : Nat) (a0 : T8) (a1 : T8) (x5 : Int) : (f12_l0_p k K (n + 1) a0 a1 x5 : Option (shDen laws_eqBlobS_sh)) = laws_eqBlobS_l0_b ((fun x5 => f12_l0_p k K n a0 a1 x5)) (K .ret (f12_l0_o)) (K (.exit 0) (f12_l0_o0)) a0 a1 x5 := by kernel_rfl

theorem f12_l0_L_eq (K : Ex → St → Option (shDen laws_eqBlobS_sh)) (a0 : T8) (a1 : T8) : ∀ (n : Nat) (x5 : Int), (f12_l0_p FUEL K n a0 a1 x5 : Option (shDen laws_eqBlobS_sh)) = laws_eqBlobS_l0_L (K .ret (f12_l0_o)) (K (.exit 0) (f12_l0_o0)) a0 a1 n x5 := by
 intro n
 induction n with
 | zero => intros; rfl
 | succ n ih =>
  intro x5
  exact (f12_l0_round FUEL K n a0 a1 x5).trans (congrArg (fun f => laws_eqBlobS_l0_b f (K .ret (f12_l0_o)) (K (.exit 0) (f12_l0_o0)) a0 a1 x5) (funext fun x5 => ih x5))

theorem f12_start (k : Nat) (a0 : T8) (a1 : T8) : fnK (f12_cx k) 8 12 f12_i laws_eqBlobS_sh [.pv K11 a0, .pv K11 a1] =
 ((cond (!(decide ((a0.length : Int) = (a1.length : Int))))
 (some false)
 (loopK (f12_cx k) 0 (execK (f12_cx k) (callK (f12_cx k) 8) 0 12 (sub f12_c [1, 1, 0, 1, 0, 0])) f12_l0_cut (blkK 0 (seqK (execK (f12_cx k) (callK (f12_cx k) 8) 0 12 (sub f12_c [1, 1, 1])) (finK (f12_cx k) f12_i laws_eqBlobS_sh))) k (f12_l0_s a0 a1 (0 : Int)))) : Option (shDen laws_eqBlobS_sh)) := by kernel_rfl

theorem f12_run (a0 : T8) (a1 : T8) : fnK (f12_cx FUEL) 8 12 f12_i laws_eqBlobS_sh [.pv K11 a0, .pv K11 a1] = laws_eqBlobS_r a0 a1 :=
 (f12_start FUEL a0 a1).trans (condC (rfl) ((f12_l0_L_eq _ a0 a1 FUEL (0 : Int)).trans (cong2 (fun e0 e1 => laws_eqBlobS_l0_L e0 e1 a0 a1 FUEL (0 : Int)) ( (f12_l0_ret FUEL  ).trans (rfl)) ( (f12_l0_exit0 FUEL  ).trans (rfl)))))

noncomputable def f12_con : Con := { ps := (.pair K11 K7), sh := laws_eqBlobS_sh, raw := fun x => laws_eqBlobS_r x.1 x.2.1 }
theorem f12_conOk : ConOk Tryz.prog 12 f12_con := con_of_fn (f12_tabs FUEL) (depth := 8) f12_ok fun x y h => (f12_run x.1 x.2.1).trans h

noncomputable def f13_cx (k : Nat) : Cx := mkC [] [(12, f12_con)] [] [] [] k [] false
theorem f13_tabs (k : Nat) : TabsOk Tryz.prog (f13_cx k) := mkC_ok ⟨f12_conOk, trivial⟩ trivial trivial trivial
abbrev laws_eqStore_sh : List Sh := [.pl .bool]
noncomputable def laws_eqStore_r (a0 : T6) (a1 : T6) : Option (shDen laws_eqStore_sh) :=
 (bindO (laws_eqBlobS_r a0.1 a1.1) fun (b1 : Bool) => (cond (!b1)
 (some false)
 (some true)))
theorem f13_run (a0 : T6) (a1 : T6) : fnK (f13_cx FUEL) 8 13 f13_i laws_eqStore_sh [.pv K7 a0, .pv K7 a1] = laws_eqStore_r a0 a1 := by kernel_rfl

noncomputable def f13_con : Con := { ps := (.pair K7 K6), sh := laws_eqStore_sh, raw := fun x => laws_eqStore_r x.1 x.2.1 }
theorem f13_conOk : ConOk Tryz.prog 13 f13_con := con_of_fn (f13_tabs FUEL) (depth := 8) f13_ok fun x y h => (f13_run x.1 x.2.1).trans h

noncomputable def f38_l0_cut : Cut := { keep := [0, 1, 5], stk := [], ids := [7], own := [], outs := [(1, [1], [7])] }
noncomputable def f38_cx (k : Nat) : Cx := mkC [] [] [] [] [(38, [(0, f38_l0_cut)])] k [] false
theorem f38_tabs (k : Nat) : TabsOk Tryz.prog (f38_cx k) := mkC_ok trivial trivial trivial trivial
abbrev laws_markByteS_sh : List Sh := [.pl (.int .i64)]
noncomputable def f38_l0_s (x1 : Int) (x5 : Int) (z7 : (List Int)) : St := { env := (.sl 7 (.int .u8) :: .pv (.int .i64) x1 :: (dd 3 (.pv (.int .i64) x5 :: (dd 14 [])))), stk := [], heap := [(7, .arr 5 (.int .u8) z7)] }
noncomputable def f38_l0_o0 (x1 : Int) (z7 : (List Int)) : St := { env := (.dead :: .pv (.int .i64) x1 :: (dd 18 [])), stk := [], heap := [(7, .arr 5 (.int .u8) z7)] }
noncomputable def laws_markByteS_l0_b (rec : Int → Int → (List Int) → Option ((List Int) × shDen laws_markByteS_sh)) (ke0 : Int → (List Int) → Option ((List Int) × shDen laws_markByteS_sh)) (x1 : Int) (x5 : Int) (z7 : (List Int)) : Option ((List Int) × shDen laws_markByteS_sh) :=
 (cond (decide (x5 < (z7.length : Int)))
 (cond ((decide ((0 : Int) ≤ x5)) && (decide (x5 < (z7.length : Int))))
 (rec (IntKind.wrap .i64 (x1 + (1 : Int))) (IntKind.wrap .i64 (x5 + (1 : Int))) (z7.set (x5.toNat) (IntKind.wrap .u8 x1)))
 none)
 (ke0 x1 z7))
noncomputable def laws_markByteS_l0_L (ke0 : Int → (List Int) → Option ((List Int) × shDen laws_markByteS_sh))  : Nat → Int → Int → (List Int) → Option ((List Int) × shDen laws_markByteS_sh)
 | 0 => fun _ _ _ => none
 | n + 1 => laws_markByteS_l0_b (laws_markByteS_l0_L ke0  n) ke0 
noncomputable def laws_markByteS_r (a0 : (List Int)) (a1 : Int) : Option ((List Int) × shDen laws_markByteS_sh) :=
 (laws_markByteS_l0_L (fun x1 z7 => (some (z7, x1))) FUEL a1 (0 : Int) a0)
noncomputable def f38_l0_p (k : Nat) (K : Ex → St → Option ((List Int) × shDen laws_markByteS_sh)) (n : Nat) (x1 : Int) (x5 : Int) (z7 : (List Int)) : Option ((List Int) × shDen laws_markByteS_sh) := loopK (f38_cx k) 0 (execK (f38_cx k) (callK (f38_cx k) 8) 0 38 (sub f38_c [1, 0, 1, 0, 0])) f38_l0_cut K n (f38_l0_s x1 x5 z7)

theorem f38_l0_exit0 (k : Nat)  (x1 : Int) (z7 : (List Int)) : ((blkK 0 (seqK (execK (f38_cx k) (callK (f38_cx k) 8) 0 38 (sub f38_c [1, 1])) (finIK (f38_cx k) f38_i (.arr 5 (.int .u8)) laws_markByteS_sh))) (.exit 0) (f38_l0_o0 x1 z7) : Option ((List Int) × shDen laws_markByteS_sh)) =
 ((some (z7, x1)) : Option ((List Int) × shDen laws_markByteS_sh)) := by kernel_rfl

theorem f38_l0_round (k : Nat) (K : Ex → St → Option ((List Int) × shDen laws_markByteS_sh)) (n : Nat) (x1 : Int) (x5 : Int) (z7 : (List Int)) : (f38_l0_p k K (n + 1)  x1 x5 z7 : Option ((List Int) × shDen laws_markByteS_sh)) = laws_markByteS_l0_b ((fun x1 x5 z7 => f38_l0_p k K n  x1 x5 z7)) (fun x1 z7 => K (.exit 0) (f38_l0_o0 x1 z7))  x1 x5 z7 := by kernel_rfl

theorem f38_l0_L_eq (K : Ex → St → Option ((List Int) × shDen laws_markByteS_sh))  : ∀ (n : Nat) (x1 : Int) (x5 : Int) (z7 : (List Int)), (f38_l0_p FUEL K n  x1 x5 z7 : Option ((List Int) × shDen laws_markByteS_sh)) = laws_markByteS_l0_L (fun x1 z7 => K (.exit 0) (f38_l0_o0 x1 z7))  n x1 x5 z7 := by
 intro n
 induction n with
 | zero => intros; rfl
 | succ n ih =>
  intro x1 x5 z7
  exact (f38_l0_round FUEL K n  x1 x5 z7).trans (congrArg (fun f => laws_markByteS_l0_b f (fun x1 z7 => K (.exit 0) (f38_l0_o0 x1 z7))  x1 x5 z7) (funext fun x1 => funext fun x5 => funext fun z7 => ih x1 x5 z7))

theorem f38_start (k : Nat) (a0 : (List Int)) (a1 : Int) : fnIK (f38_cx k) 8 38 f38_i (.arr 5 (.int .u8)) laws_markByteS_sh a0 [.pv (.int .i64) a1] =
 ((loopK (f38_cx k) 0 (execK (f38_cx k) (callK (f38_cx k) 8) 0 38 (sub f38_c [1, 0, 1, 0, 0])) f38_l0_cut (blkK 0 (seqK (execK (f38_cx k) (callK (f38_cx k) 8) 0 38 (sub f38_c [1, 1])) (finIK (f38_cx k) f38_i (.arr 5 (.int .u8)) laws_markByteS_sh))) k (f38_l0_s a1 (0 : Int) a0)) : Option ((List Int) × shDen laws_markByteS_sh)) := by kernel_rfl

theorem f38_run (a0 : (List Int)) (a1 : Int) : fnIK (f38_cx FUEL) 8 38 f38_i (.arr 5 (.int .u8)) laws_markByteS_sh a0 [.pv (.int .i64) a1] = laws_markByteS_r a0 a1 :=
 (f38_start FUEL a0 a1).trans ((f38_l0_L_eq _  FUEL a1 (0 : Int) a0).trans (congrArg (fun e0 => laws_markByteS_l0_L e0  FUEL a1 (0 : Int) a0) (funext fun x1 => funext fun z7 => (f38_l0_exit0 FUEL  x1 z7).trans (rfl))))

noncomputable def f38_inp : ConI := { k := (.arr 5 (.int .u8)), ps := K23, sh := laws_markByteS_sh, raw := fun x q => laws_markByteS_r x q.1 }
theorem f38_inpOk : InpOk Tryz.prog 38 f38_inp := inp_of_fn (f38_tabs FUEL) (depth := 8) f38_ok fun x q z h => (f38_run x q.1).trans h

noncomputable def f17_d_l0_cut : Cut := { keep := [0, 1, 5], stk := [], ids := [7], own := [], outs := [(1, [1], [7])] }
noncomputable def f17_d_cx (k : Nat) : Cx := mkC [] [] [] [(38, f38_inp)] [(17, [(0, f17_d_l0_cut)])] k dps false
theorem f17_d_tabs (k : Nat) : TabsOk Tryz.prog (f17_d_cx k) := mkC_ok trivial trivial ⟨f38_inpOk, trivial⟩ trivial
abbrev laws_markBlobS_d_sh : List Sh := [.pl (.int .i64)]
noncomputable def f17_d_l0_s (x1 : Int) (x5 : Int) (z7 : T8) : St := { env := (.inn 7 [] K13 :: .pv (.int .i64) x1 :: (dd 3 (.pv (.int .i64) x5 :: (dd 22 [])))), stk := [], heap := [(7, .tre 72 (.pr (.pl (.int .u8)) (.pr (.sl 5 (.pl (.int .u8))) (.pl .unit))) z7)] }
noncomputable def f17_d_l0_o0 (x1 : Int) (z7 : T8) : St := { env := (.dead :: .pv (.int .i64) x1 :: (dd 26 [])), stk := [], heap := [(7, .tre 72 (.pr (.pl (.int .u8)) (.pr (.sl 5 (.pl (.int .u8))) (.pl .unit))) z7)] }
noncomputable def laws_markBlobS_d_l0_b (rec : Int → Int → T8 → Option (T8 × shDen laws_markBlobS_d_sh)) (ke0 : Int → T8 → Option (T8 × shDen laws_markBlobS_d_sh)) (x1 : Int) (x5 : Int) (z7 : T8) : Option (T8 × shDen laws_markBlobS_d_sh) :=
 (cond (decide (x5 < (z7.length : Int)))
 (cond ((decide ((0 : Int) ≤ x5)) && (decide (x5 < (z7.length : Int))))
 (cond ((decide ((0 : Int) ≤ x5)) && (decide (x5 < ((z7.set (x5.toNat) ((IntKind.wrap .u8 x1), (z7.getD (x5.toNat) ((0 : Int), ([], ()))).2)).length : Int))))
 (cond (decide ((x5.toNat) < List.length (z7.set (x5.toNat) ((IntKind.wrap .u8 x1), (z7.getD (x5.toNat) ((0 : Int), ([], ()))).2))) && true) (bindO (laws_markByteS_r ((((z7.set (x5.toNat) ((IntKind.wrap .u8 x1), (z7.getD (x5.toNat) ((0 : Int), ([], ()))).2)).getD (x5.toNat) ((0 : Int), ([], ()))).2).1) (IntKind.wrap .i64 (x1 + (1 : Int)))) fun (b2 : T13) => (rec b2.2 (IntKind.wrap .i64 (x5 + (1 : Int))) ((z7.set (x5.toNat) ((IntKind.wrap .u8 x1), (z7.getD (x5.toNat) ((0 : Int), ([], ()))).2)).set (x5.toNat) (((z7.set (x5.toNat) ((IntKind.wrap .u8 x1), (z7.getD (x5.toNat) ((0 : Int), ([], ()))).2)).getD (x5.toNat) ((0 : Int), ([], ()))).1, (b2.1, (((z7.set (x5.toNat) ((IntKind.wrap .u8 x1), (z7.getD (x5.toNat) ((0 : Int), ([], ()))).2)).getD (x5.toNat) ((0 : Int), ([], ()))).2).2))))) none)
 none)
 none)
 (ke0 x1 z7))
noncomputable def laws_markBlobS_d_l0_L (ke0 : Int → T8 → Option (T8 × shDen laws_markBlobS_d_sh))  : Nat → Int → Int → T8 → Option (T8 × shDen laws_markBlobS_d_sh)
 | 0 => fun _ _ _ => none
 | n + 1 => laws_markBlobS_d_l0_b (laws_markBlobS_d_l0_L ke0  n) ke0 
noncomputable def laws_markBlobS_d_r (a0 : T8) (a1 : Int) : Option (T8 × shDen laws_markBlobS_d_sh) :=
 (laws_markBlobS_d_l0_L (fun x1 z7 => (some (z7, x1))) FUEL a1 (0 : Int) a0)
noncomputable def f17_d_l0_p (k : Nat) (K : Ex → St → Option (T8 × shDen laws_markBlobS_d_sh)) (n : Nat) (x1 : Int) (x5 : Int) (z7 : T8) : Option (T8 × shDen laws_markBlobS_d_sh) := loopK (f17_d_cx k) 0 (execK (f17_d_cx k) (callK (f17_d_cx k) 8) 0 17 (sub f17_c [1, 0, 1, 0, 0])) f17_d_l0_cut K n (f17_d_l0_s x1 x5 z7)

theorem f17_d_l0_exit0 (k : Nat)  (x1 : Int) (z7 : T8) : ((blkK 0 (seqK (execK (f17_d_cx k) (callK (f17_d_cx k) 8) 0 17 (sub f17_c [1, 1])) (finIK (f17_d_cx k) f17_i (.tre 72 (.pr (.pl (.int .u8)) (.pr (.sl 5 (.pl (.int .u8))) (.pl .unit)))) laws_markBlobS_d_sh))) (.exit 0) (f17_d_l0_o0 x1 z7) : Option (T8 × shDen laws_markBlobS_d_sh)) =
 ((some (z7, x1)) : Option (T8 × shDen laws_markBlobS_d_sh)) := by kernel_rfl

theorem f17_d_l0_round (k : Nat) (K : Ex → St → Option (T8 × shDen laws_markBlobS_d_sh)) (n : Nat) (x1 : Int) (x5 : Int) (z7 : T8) : (f17_d_l0_p k K (n + 1)  x1 x5 z7 : Option (T8 × shDen laws_markBlobS_d_sh)) = laws_markBlobS_d_l0_b ((fun x1 x5 z7 => f17_d_l0_p k K n  x1 x5 z7)) (fun x1 z7 => K (.exit 0) (f17_d_l0_o0 x1 z7))  x1 x5 z7 := by kernel_rfl

theorem f17_d_l0_L_eq (K : Ex → St → Option (T8 × shDen laws_markBlobS_d_sh))  : ∀ (n : Nat) (x1 : Int) (x5 : Int) (z7 : T8), (f17_d_l0_p FUEL K n  x1 x5 z7 : Option (T8 × shDen laws_markBlobS_d_sh)) = laws_markBlobS_d_l0_L (fun x1 z7 => K (.exit 0) (f17_d_l0_o0 x1 z7))  n x1 x5 z7 := by
 intro n
 induction n with
 | zero => intros; rfl
 | succ n ih =>
  intro x1 x5 z7
  exact (f17_d_l0_round FUEL K n  x1 x5 z7).trans (congrArg (fun f => laws_markBlobS_d_l0_b f (fun x1 z7 => K (.exit 0) (f17_d_l0_o0 x1 z7))  x1 x5 z7) (funext fun x1 => funext fun x5 => funext fun z7 => ih x1 x5 z7))

theorem f17_d_start (k : Nat) (a0 : T8) (a1 : Int) : fnIK (f17_d_cx k) 8 17 f17_i (.tre 72 (.pr (.pl (.int .u8)) (.pr (.sl 5 (.pl (.int .u8))) (.pl .unit)))) laws_markBlobS_d_sh a0 [.pv (.int .i64) a1] =
 ((loopK (f17_d_cx k) 0 (execK (f17_d_cx k) (callK (f17_d_cx k) 8) 0 17 (sub f17_c [1, 0, 1, 0, 0])) f17_d_l0_cut (blkK 0 (seqK (execK (f17_d_cx k) (callK (f17_d_cx k) 8) 0 17 (sub f17_c [1, 1])) (finIK (f17_d_cx k) f17_i (.tre 72 (.pr (.pl (.int .u8)) (.pr (.sl 5 (.pl (.int .u8))) (.pl .unit)))) laws_markBlobS_d_sh))) k (f17_d_l0_s a1 (0 : Int) a0)) : Option (T8 × shDen laws_markBlobS_d_sh)) := by kernel_rfl

theorem f17_d_run (a0 : T8) (a1 : Int) : fnIK (f17_d_cx FUEL) 8 17 f17_i (.tre 72 (.pr (.pl (.int .u8)) (.pr (.sl 5 (.pl (.int .u8))) (.pl .unit)))) laws_markBlobS_d_sh a0 [.pv (.int .i64) a1] = laws_markBlobS_d_r a0 a1 :=
 (f17_d_start FUEL a0 a1).trans ((f17_d_l0_L_eq _  FUEL a1 (0 : Int) a0).trans (congrArg (fun e0 => laws_markBlobS_d_l0_L e0  FUEL a1 (0 : Int) a0) (funext fun x1 => funext fun z7 => (f17_d_l0_exit0 FUEL  x1 z7).trans (rfl))))

noncomputable def f17_d_inp : ConI := { k := (.tre 72 (.pr (.pl (.int .u8)) (.pr (.sl 5 (.pl (.int .u8))) (.pl .unit)))), ps := K23, sh := laws_markBlobS_d_sh, raw := fun x q => laws_markBlobS_d_r x q.1 }
theorem f17_d_inpOk : InpOk Tryz.prog 17 f17_d_inp := inp_of_fn (f17_d_tabs FUEL) (depth := 8) f17_ok fun x q z h => (f17_d_run x q.1).trans h

noncomputable def f48_l0_cut : Cut := { keep := [0, 3], stk := [], ids := [], own := [], outs := [(1, [3], [])] }
noncomputable def f48_cx (k : Nat) : Cx := mkC [] [] [] [] [(48, [(0, f48_l0_cut)])] k [] false
theorem f48_tabs (k : Nat) : TabsOk Tryz.prog (f48_cx k) := mkC_ok trivial trivial trivial trivial
abbrev laws_markText_sh : List Sh := [.pl .str]
noncomputable def f48_l0_s (x0 : Int) (x3 : List Int) : St := { env := (.pv (.int .i64) x0 :: .dead :: .dead :: .pv .str x3 :: (dd 16 [])), stk := [], heap := [] }
noncomputable def f48_l0_o0 (x3 : List Int) : St := { env := (dd 3 (.pv .str x3 :: (dd 16 []))), stk := [], heap := [] }
noncomputable def laws_markText_l0_b (rec : Int → (List Int) → Option (shDen laws_markText_sh)) (ke0 : (List Int) → Option (shDen laws_markText_sh)) (x0 : Int) (x3 : List Int) : Option (shDen laws_markText_sh) :=
 (cond (decide ((0 : Int) < x0))
 (cond (decide ([(IntKind.wrap .u8 (IntKind.wrap .i64 ((48 : Int) + (Int.tmod x0 (10 : Int)))))].length + x3.length ≤ 9223372036854775807))
 (rec (IntKind.wrap .i64 (Int.tdiv x0 (10 : Int))) ([(IntKind.wrap .u8 (IntKind.wrap .i64 ((48 : Int) + (Int.tmod x0 (10 : Int)))))] ++ x3))
 none)
 (ke0 x3))
noncomputable def laws_markText_l0_L (ke0 : (List Int) → Option (shDen laws_markText_sh))  : Nat → Int → (List Int) → Option (shDen laws_markText_sh)
 | 0 => fun _ _ => none
 | n + 1 => laws_markText_l0_b (laws_markText_l0_L ke0  n) ke0 
noncomputable def laws_markText_r (a0 : Int) : Option (shDen laws_markText_sh) :=
 (cond (decide (a0 ≤ (0 : Int)))
 (some [(109 : Int), (48 : Int)])
 (laws_markText_l0_L (fun x3 => (cond (decide ([(109 : Int)].length + x3.length ≤ 9223372036854775807))
 (some ([(109 : Int)] ++ x3))
 none)) FUEL a0 []))
noncomputable def f48_l0_p (k : Nat) (K : Ex → St → Option (shDen laws_markText_sh)) (n : Nat) (x0 : Int) (x3 : List Int) : Option (shDen laws_markText_sh) := loopK (f48_cx k) 0 (execK (f48_cx k) (callK (f48_cx k) 8) 0 48 (sub f48_c [1, 1, 1, 0, 0, 0])) f48_l0_cut K n (f48_l0_s x0 x3)

theorem f48_l0_exit0 (k : Nat)  (x3 : List Int) : ((blkK 0 (seqK (execK (f48_cx k) (callK (f48_cx k) 8) 0 48 (sub f48_c [1, 1, 1, 1])) (finK (f48_cx k) f48_i laws_markText_sh))) (.exit 0) (f48_l0_o0 x3) : Option (shDen laws_markText_sh)) =
 ((cond (decide ([(109 : Int)].length + x3.length ≤ 9223372036854775807))
 (some ([(109 : Int)] ++ x3))
 none) : Option (shDen laws_markText_sh)) := by kernel_rfl

theorem f48_l0_round (k : Nat) (K : Ex → St → Option (shDen laws_markText_sh)) (n : Nat) (x0 : Int) (x3 : List Int) : (f48_l0_p k K (n + 1)  x0 x3 : Option (shDen laws_markText_sh)) = laws_markText_l0_b ((fun x0 x3 => f48_l0_p k K n  x0 x3)) (fun x3 => K (.exit 0) (f48_l0_o0 x3))  x0 x3 := by kernel_rfl

theorem f48_l0_L_eq (K : Ex → St → Option (shDen laws_markText_sh))  : ∀ (n : Nat) (x0 : Int) (x3 : List Int), (f48_l0_p FUEL K n  x0 x3 : Option (shDen laws_markText_sh)) = laws_markText_l0_L (fun x3 => K (.exit 0) (f48_l0_o0 x3))  n x0 x3 := by
 intro n
 induction n with
 | zero => intros; rfl
 | succ n ih =>
  intro x0 x3
  exact (f48_l0_round FUEL K n  x0 x3).trans (congrArg (fun f => laws_markText_l0_b f (fun x3 => K (.exit 0) (f48_l0_o0 x3))  x0 x3) (funext fun x0 => funext fun x3 => ih x0 x3))

theorem f48_start (k : Nat) (a0 : Int) : fnK (f48_cx k) 8 48 f48_i laws_markText_sh [.pv (.int .i64) a0] =
 ((cond (decide (a0 ≤ (0 : Int)))
 (some [(109 : Int), (48 : Int)])
 (loopK (f48_cx k) 0 (execK (f48_cx k) (callK (f48_cx k) 8) 0 48 (sub f48_c [1, 1, 1, 0, 0, 0])) f48_l0_cut (blkK 0 (seqK (execK (f48_cx k) (callK (f48_cx k) 8) 0 48 (sub f48_c [1, 1, 1, 1])) (finK (f48_cx k) f48_i laws_markText_sh))) k (f48_l0_s a0 []))) : Option (shDen laws_markText_sh)) := by kernel_rfl

theorem f48_run (a0 : Int) : fnK (f48_cx FUEL) 8 48 f48_i laws_markText_sh [.pv (.int .i64) a0] = laws_markText_r a0 :=
 (f48_start FUEL a0).trans (condC (rfl) ((f48_l0_L_eq _  FUEL a0 []).trans (congrArg (fun e0 => laws_markText_l0_L e0  FUEL a0 []) (funext fun x3 => (f48_l0_exit0 FUEL  x3).trans (rfl)))))

noncomputable def f48_con : Con := { ps := K23, sh := laws_markText_sh, raw := fun x => laws_markText_r x.1 }
theorem f48_conOk : ConOk Tryz.prog 48 f48_con := con_of_fn (f48_tabs FUEL) (depth := 8) f48_ok fun x y h => (f48_run x.1).trans h

noncomputable def f24_l0_cut : Cut := { keep := [0, 1, 5], stk := [], ids := [7], own := [], outs := [(1, [1], [7])] }
noncomputable def f24_l1_cut : Cut := { keep := [0, 1, 5, 6], stk := [], ids := [7], own := [], outs := [(3, [0, 1, 5], [7])] }
noncomputable def f24_l2_cut : Cut := { keep := [0, 1, 5, 7], stk := [], ids := [7], own := [], outs := [(5, [0, 1, 5], [7])] }
noncomputable def f24_cx (k : Nat) : Cx := mkC [] [(48, f48_con)] [] [] [(24, [(0, f24_l0_cut), (2, f24_l1_cut), (4, f24_l2_cut)])] k [] false
theorem f24_tabs (k : Nat) : TabsOk Tryz.prog (f24_cx k) := mkC_ok ⟨f48_conOk, trivial⟩ trivial trivial trivial
abbrev laws_markMapNodeS_sh : List Sh := [.pl (.int .i64)]
noncomputable def f24_l0_s (x1 : Int) (x5 : Int) (z7 : T1) : St := { env := (.sl 7 K4 :: .pv (.int .i64) x1 :: (dd 3 (.pv (.int .i64) x5 :: (dd 55 [])))), stk := [], heap := [(7, .arr 90 K4 z7)] }
noncomputable def f24_l0_o0 (x1 : Int) (z7 : T1) : St := { env := (.dead :: .pv (.int .i64) x1 :: (dd 59 [])), stk := [], heap := [(7, .arr 90 K4 z7)] }
noncomputable def f24_l1_s (x5 : Int) (x1 : Int) (x6 : Int) (z7 : T1) : St := { env := (.sl 7 K4 :: .pv (.int .i64) x1 :: (dd 3 (.pv (.int .i64) x5 :: .pv (.int .i64) x6 :: (dd 54 [])))), stk := [], heap := [(7, .arr 90 K4 z7)] }
noncomputable def f24_l1_o2 (x5 : Int) (x1 : Int) (z7 : T1) : St := { env := (.sl 7 K4 :: .pv (.int .i64) x1 :: (dd 3 (.pv (.int .i64) x5 :: (dd 55 [])))), stk := [], heap := [(7, .arr 90 K4 z7)] }
noncomputable def f24_l2_s (x5 : Int) (x1 : Int) (x7 : Int) (z7 : T1) : St := { env := (.sl 7 K4 :: .pv (.int .i64) x1 :: (dd 3 (.pv (.int .i64) x5 :: .dead :: .pv (.int .i64) x7 :: (dd 53 [])))), stk := [], heap := [(7, .arr 90 K4 z7)] }
noncomputable def f24_l2_o4 (x5 : Int) (x1 : Int) (z7 : T1) : St := { env := (.sl 7 K4 :: .pv (.int .i64) x1 :: (dd 3 (.pv (.int .i64) x5 :: (dd 55 [])))), stk := [], heap := [(7, .arr 90 K4 z7)] }
noncomputable def laws_markMapNodeS_l2_b (rec : Int → Int → T1 → Option (T1 × shDen laws_markMapNodeS_sh)) (ke4 : Int → T1 → Option (T1 × shDen laws_markMapNodeS_sh)) (x5 : Int) (x1 : Int) (x7 : Int) (z7 : T1) : Option (T1 × shDen laws_markMapNodeS_sh) :=
 (cond (decide (x7 < (32 : Int)))
 (cond ((decide ((0 : Int) ≤ x5)) && (decide (x5 < (z7.length : Int))))
 (cond ((decide ((0 : Int) ≤ x7)) && (decide (x7 < (32 : Int))))
 (bindO (some (z7.set (x5.toNat) ((z7.getD (x5.toNat) ((List.replicate 32 (0 : Int)), ((List.replicate 32 (0 : Int)), (([], ([], ())), ())))).1, (((((z7.getD (x5.toNat) ((List.replicate 32 (0 : Int)), ((List.replicate 32 (0 : Int)), (([], ([], ())), ())))).2).1).set (x7.toNat) (IntKind.wrap .u8 x1)), ((z7.getD (x5.toNat) ((List.replicate 32 (0 : Int)), ((List.replicate 32 (0 : Int)), (([], ([], ())), ())))).2).2)))) fun (b8 : T1) => (rec (IntKind.wrap .i64 (x1 + (1 : Int))) (IntKind.wrap .i64 (x7 + (1 : Int))) b8))
 none)
 none)
 (ke4 x1 z7))
noncomputable def laws_markMapNodeS_l2_L (ke4 : Int → T1 → Option (T1 × shDen laws_markMapNodeS_sh)) (x5 : Int) : Nat → Int → Int → T1 → Option (T1 × shDen laws_markMapNodeS_sh)
 | 0 => fun _ _ _ => none
 | n + 1 => laws_markMapNodeS_l2_b (laws_markMapNodeS_l2_L ke4 x5 n) ke4 x5
noncomputable def laws_markMapNodeS_l1_b (rec : Int → Int → T1 → Option (T1 × shDen laws_markMapNodeS_sh)) (ke2 : Int → T1 → Option (T1 × shDen laws_markMapNodeS_sh)) (x5 : Int) (x1 : Int) (x6 : Int) (z7 : T1) : Option (T1 × shDen laws_markMapNodeS_sh) :=
 (cond (decide (x6 < (32 : Int)))
 (cond ((decide ((0 : Int) ≤ x5)) && (decide (x5 < (z7.length : Int))))
 (cond ((decide ((0 : Int) ≤ x6)) && (decide (x6 < (32 : Int))))
 (rec (IntKind.wrap .i64 (x1 + (1 : Int))) (IntKind.wrap .i64 (x6 + (1 : Int))) (z7.set (x5.toNat) ((((z7.getD (x5.toNat) ((List.replicate 32 (0 : Int)), ((List.replicate 32 (0 : Int)), (([], ([], ())), ())))).1).set (x6.toNat) (IntKind.wrap .u8 x1)), (z7.getD (x5.toNat) ((List.replicate 32 (0 : Int)), ((List.replicate 32 (0 : Int)), (([], ([], ())), ())))).2)))
 none)
 none)
 (ke2 x1 z7))
noncomputable def laws_markMapNodeS_l1_L (ke2 : Int → T1 → Option (T1 × shDen laws_markMapNodeS_sh)) (x5 : Int) : Nat → Int → Int → T1 → Option (T1 × shDen laws_markMapNodeS_sh)
 | 0 => fun _ _ _ => none
 | n + 1 => laws_markMapNodeS_l1_b (laws_markMapNodeS_l1_L ke2 x5 n) ke2 x5
noncomputable def laws_markMapNodeS_l0_b (rec : Int → Int → T1 → Option (T1 × shDen laws_markMapNodeS_sh)) (ke0 : Int → T1 → Option (T1 × shDen laws_markMapNodeS_sh)) (x1 : Int) (x5 : Int) (z7 : T1) : Option (T1 × shDen laws_markMapNodeS_sh) :=
 (cond (decide (x5 < (z7.length : Int)))
 (laws_markMapNodeS_l1_L (fun x1 z7 => (laws_markMapNodeS_l2_L (fun x1 z7 => (bindO (laws_markText_r x1) fun (b9 : List Int) => (cond ((decide ((0 : Int) ≤ x5)) && (decide (x5 < (z7.length : Int))))
 (bindO (some (z7.set (x5.toNat) ((z7.getD (x5.toNat) ((List.replicate 32 (0 : Int)), ((List.replicate 32 (0 : Int)), (([], ([], ())), ())))).1, (((z7.getD (x5.toNat) ((List.replicate 32 (0 : Int)), ((List.replicate 32 (0 : Int)), (([], ([], ())), ())))).2).1, ((b9, ((((z7.getD (x5.toNat) ((List.replicate 32 (0 : Int)), ((List.replicate 32 (0 : Int)), (([], ([], ())), ())))).2).2).1).2), (((z7.getD (x5.toNat) ((List.replicate 32 (0 : Int)), ((List.replicate 32 (0 : Int)), (([], ([], ())), ())))).2).2).2))))) fun (b10 : T1) => (bindO (laws_markText_r (IntKind.wrap .i64 (x1 + (1 : Int)))) fun (b11 : List Int) => (cond ((decide ((0 : Int) ≤ x5)) && (decide (x5 < (b10.length : Int))))
 (bindO (some (b10.set (x5.toNat) ((b10.getD (x5.toNat) ((List.replicate 32 (0 : Int)), ((List.replicate 32 (0 : Int)), (([], ([], ())), ())))).1, (((b10.getD (x5.toNat) ((List.replicate 32 (0 : Int)), ((List.replicate 32 (0 : Int)), (([], ([], ())), ())))).2).1, ((((((b10.getD (x5.toNat) ((List.replicate 32 (0 : Int)), ((List.replicate 32 (0 : Int)), (([], ([], ())), ())))).2).2).1).1, (b11, (((((b10.getD (x5.toNat) ((List.replicate 32 (0 : Int)), ((List.replicate 32 (0 : Int)), (([], ([], ())), ())))).2).2).1).2).2)), (((b10.getD (x5.toNat) ((List.replicate 32 (0 : Int)), ((List.replicate 32 (0 : Int)), (([], ([], ())), ())))).2).2).2))))) fun (b12 : T1) => (rec (IntKind.wrap .i64 ((IntKind.wrap .i64 (x1 + (1 : Int))) + (1 : Int))) (IntKind.wrap .i64 (x5 + (1 : Int))) b12))
 none)))
 none))) x5 FUEL x1 (0 : Int) z7)) x5 FUEL x1 (0 : Int) z7)
 (ke0 x1 z7))
noncomputable def laws_markMapNodeS_l0_L (ke0 : Int → T1 → Option (T1 × shDen laws_markMapNodeS_sh))  : Nat → Int → Int → T1 → Option (T1 × shDen laws_markMapNodeS_sh)
 | 0 => fun _ _ _ => none
 | n + 1 => laws_markMapNodeS_l0_b (laws_markMapNodeS_l0_L ke0  n) ke0 
noncomputable def laws_markMapNodeS_r (a0 : T1) (a1 : Int) : Option (T1 × shDen laws_markMapNodeS_sh) :=
 (laws_markMapNodeS_l0_L (fun x1 z7 => (some (z7, x1))) FUEL a1 (0 : Int) a0)
noncomputable def f24_l2_p (k : Nat) (K : Ex → St → Option (T1 × shDen laws_markMapNodeS_sh)) (n : Nat) (x5 : Int) (x1 : Int) (x7 : Int) (z7 : T1) : Option (T1 × shDen laws_markMapNodeS_sh) := loopK (f24_cx k) 0 (execK (f24_cx k) (callK (f24_cx k) 8) 0 24 (sub f24_c [1, 0, 1, 0, 0, 1, 0, 0, 1, 0, 1, 0, 0])) f24_l2_cut K n (f24_l2_s x5 x1 x7 z7)

theorem f24_l2_exit4 (k : Nat) (K : Ex → St → Option (T1 × shDen laws_markMapNodeS_sh)) (n : Nat) (x5 : Int) (x1 : Int) (z7 : T1) : ((blkK 4 (seqK (execK (f24_cx k) (callK (f24_cx k) 8) 0 24 (sub f24_c [1, 0, 1, 0, 0, 1, 0, 0, 1, 1])) (blkK 1 (seqK (execK (f24_cx k) (callK (f24_cx k) 8) 0 24 (sub f24_c [1, 0, 1, 0, 0, 1, 1])) (iterK (f24_cx k) 0 f24_l0_cut (loopK (f24_cx k) 0 (execK (f24_cx k) (callK (f24_cx k) 8) 0 24 (sub f24_c [1, 0, 1, 0, 0])) f24_l0_cut K n) K))))) (.exit 4) (f24_l2_o4 x5 x1 z7) : Option (T1 × shDen laws_markMapNodeS_sh)) =
 ((bindO (laws_markText_r x1) fun (b9 : List Int) => (cond ((decide ((0 : Int) ≤ x5)) && (decide (x5 < (z7.length : Int))))
 (bindO (some (z7.set (x5.toNat) ((z7.getD (x5.toNat) ((List.replicate 32 (0 : Int)), ((List.replicate 32 (0 : Int)), (([], ([], ())), ())))).1, (((z7.getD (x5.toNat) ((List.replicate 32 (0 : Int)), ((List.replicate 32 (0 : Int)), (([], ([], ())), ())))).2).1, ((b9, ((((z7.getD (x5.toNat) ((List.replicate 32 (0 : Int)), ((List.replicate 32 (0 : Int)), (([], ([], ())), ())))).2).2).1).2), (((z7.getD (x5.toNat) ((List.replicate 32 (0 : Int)), ((List.replicate 32 (0 : Int)), (([], ([], ())), ())))).2).2).2))))) fun (b10 : T1) => (bindO (laws_markText_r (IntKind.wrap .i64 (x1 + (1 : Int)))) fun (b11 : List Int) => (cond ((decide ((0 : Int) ≤ x5)) && (decide (x5 < (b10.length : Int))))
 (bindO (some (b10.set (x5.toNat) ((b10.getD (x5.toNat) ((List.replicate 32 (0 : Int)), ((List.replicate 32 (0 : Int)), (([], ([], ())), ())))).1, (((b10.getD (x5.toNat) ((List.replicate 32 (0 : Int)), ((List.replicate 32 (0 : Int)), (([], ([], ())), ())))).2).1, ((((((b10.getD (x5.toNat) ((List.replicate 32 (0 : Int)), ((List.replicate 32 (0 : Int)), (([], ([], ())), ())))).2).2).1).1, (b11, (((((b10.getD (x5.toNat) ((List.replicate 32 (0 : Int)), ((List.replicate 32 (0 : Int)), (([], ([], ())), ())))).2).2).1).2).2)), (((b10.getD (x5.toNat) ((List.replicate 32 (0 : Int)), ((List.replicate 32 (0 : Int)), (([], ([], ())), ())))).2).2).2))))) fun (b12 : T1) => (loopK (f24_cx k) 0 (execK (f24_cx k) (callK (f24_cx k) 8) 0 24 (sub f24_c [1, 0, 1, 0, 0])) f24_l0_cut K n (f24_l0_s (IntKind.wrap .i64 ((IntKind.wrap .i64 (x1 + (1 : Int))) + (1 : Int))) (IntKind.wrap .i64 (x5 + (1 : Int))) b12)))
 none)))
 none)) : Option (T1 × shDen laws_markMapNodeS_sh)) := by kernel_rfl

theorem f24_l2_round (k : Nat) (K : Ex → St → Option (T1 × shDen laws_markMapNodeS_sh)) (n : Nat) (x5 : Int) (x1 : Int) (x7 : Int) (z7 : T1) : (f24_l2_p k K (n + 1) x5 x1 x7 z7 : Option (T1 × shDen laws_markMapNodeS_sh)) = laws_markMapNodeS_l2_b ((fun x1 x7 z7 => f24_l2_p k K n x5 x1 x7 z7)) (fun x1 z7 => K (.exit 4) (f24_l2_o4 x5 x1 z7)) x5 x1 x7 z7 := by kernel_rfl

theorem f24_l2_L_eq (K : Ex → St → Option (T1 × shDen laws_markMapNodeS_sh)) (x5 : Int) : ∀ (n : Nat) (x1 : Int) (x7 : Int) (z7 : T1), (f24_l2_p FUEL K n x5 x1 x7 z7 : Option (T1 × shDen laws_markMapNodeS_sh)) = laws_markMapNodeS_l2_L (fun x1 z7 => K (.exit 4) (f24_l2_o4 x5 x1 z7)) x5 n x1 x7 z7 := by
 intro n
 induction n with
 | zero => intros; rfl
 | succ n ih =>
  intro x1 x7 z7
  exact (f24_l2_round FUEL K n x5 x1 x7 z7).trans (congrArg (fun f => laws_markMapNodeS_l2_b f (fun x1 z7 => K (.exit 4) (f24_l2_o4 x5 x1 z7)) x5 x1 x7 z7) (funext fun x1 => funext fun x7 => funext fun z7 => ih x1 x7 z7))

noncomputable def f24_l1_p (k : Nat) (K : Ex → St → Option (T1 × shDen laws_markMapNodeS_sh)) (n : Nat) (x5 : Int) (x1 : Int) (x6 : Int) (z7 : T1) : Option (T1 × shDen laws_markMapNodeS_sh) := loopK (f24_cx k) 0 (execK (f24_cx k) (callK (f24_cx k) 8) 0 24 (sub f24_c [1, 0, 1, 0, 0, 1, 0, 0, 0, 1, 0, 0])) f24_l1_cut K n (f24_l1_s x5 x1 x6 z7)

theorem f24_l1_exit2 (k : Nat) (K : Ex → St → Option (T1 × shDen laws_markMapNodeS_sh)) (n : Nat) (x5 : Int) (x1 : Int) (z7 : T1) : ((blkK 2 (seqK (execK (f24_cx k) (callK (f24_cx k) 8) 0 24 (sub f24_c [1, 0, 1, 0, 0, 1, 0, 0, 1])) (blkK 1 (seqK (execK (f24_cx k) (callK (f24_cx k) 8) 0 24 (sub f24_c [1, 0, 1, 0, 0, 1, 1])) (iterK (f24_cx k) 0 f24_l0_cut (loopK (f24_cx k) 0 (execK (f24_cx k) (callK (f24_cx k) 8) 0 24 (sub f24_c [1, 0, 1, 0, 0])) f24_l0_cut K n) K))))) (.exit 2) (f24_l1_o2 x5 x1 z7) : Option (T1 × shDen laws_markMapNodeS_sh)) =
 ((loopK (f24_cx k) 0 (execK (f24_cx k) (callK (f24_cx k) 8) 0 24 (sub f24_c [1, 0, 1, 0, 0, 1, 0, 0, 1, 0, 1, 0, 0])) f24_l2_cut (blkK 4 (seqK (execK (f24_cx k) (callK (f24_cx k) 8) 0 24 (sub f24_c [1, 0, 1, 0, 0, 1, 0, 0, 1, 1])) (blkK 1 (seqK (execK (f24_cx k) (callK (f24_cx k) 8) 0 24 (sub f24_c [1, 0, 1, 0, 0, 1, 1])) (iterK (f24_cx k) 0 f24_l0_cut (loopK (f24_cx k) 0 (execK (f24_cx k) (callK (f24_cx k) 8) 0 24 (sub f24_c [1, 0, 1, 0, 0])) f24_l0_cut K n) K))))) k (f24_l2_s x5 x1 (0 : Int) z7)) : Option (T1 × shDen laws_markMapNodeS_sh)) := by kernel_rfl

theorem f24_l1_round (k : Nat) (K : Ex → St → Option (T1 × shDen laws_markMapNodeS_sh)) (n : Nat) (x5 : Int) (x1 : Int) (x6 : Int) (z7 : T1) : (f24_l1_p k K (n + 1) x5 x1 x6 z7 : Option (T1 × shDen laws_markMapNodeS_sh)) = laws_markMapNodeS_l1_b ((fun x1 x6 z7 => f24_l1_p k K n x5 x1 x6 z7)) (fun x1 z7 => K (.exit 2) (f24_l1_o2 x5 x1 z7)) x5 x1 x6 z7 := by kernel_rfl

theorem f24_l1_L_eq (K : Ex → St → Option (T1 × shDen laws_markMapNodeS_sh)) (x5 : Int) : ∀ (n : Nat) (x1 : Int) (x6 : Int) (z7 : T1), (f24_l1_p FUEL K n x5 x1 x6 z7 : Option (T1 × shDen laws_markMapNodeS_sh)) = laws_markMapNodeS_l1_L (fun x1 z7 => K (.exit 2) (f24_l1_o2 x5 x1 z7)) x5 n x1 x6 z7 := by
 intro n
 induction n with
 | zero => intros; rfl
 | succ n ih =>
  intro x1 x6 z7
  exact (f24_l1_round FUEL K n x5 x1 x6 z7).trans (congrArg (fun f => laws_markMapNodeS_l1_b f (fun x1 z7 => K (.exit 2) (f24_l1_o2 x5 x1 z7)) x5 x1 x6 z7) (funext fun x1 => funext fun x6 => funext fun z7 => ih x1 x6 z7))

noncomputable def f24_l0_p (k : Nat) (K : Ex → St → Option (T1 × shDen laws_markMapNodeS_sh)) (n : Nat) (x1 : Int) (x5 : Int) (z7 : T1) : Option (T1 × shDen laws_markMapNodeS_sh) := loopK (f24_cx k) 0 (execK (f24_cx k) (callK (f24_cx k) 8) 0 24 (sub f24_c [1, 0, 1, 0, 0])) f24_l0_cut K n (f24_l0_s x1 x5 z7)

theorem f24_l0_round (k : Nat) (K : Ex → St → Option (T1 × shDen laws_markMapNodeS_sh)) (n : Nat) (x1 : Int) (x5 : Int) (z7 : T1) : (f24_l0_p k K (n + 1)  x1 x5 z7 : Option (T1 × shDen laws_markMapNodeS_sh)) =
 ((cond (decide (x5 < (z7.length : Int)))
 (loopK (f24_cx k) 0 (execK (f24_cx k) (callK (f24_cx k) 8) 0 24 (sub f24_c [1, 0, 1, 0, 0, 1, 0, 0, 0, 1, 0, 0])) f24_l1_cut (blkK 2 (seqK (execK (f24_cx k) (callK (f24_cx k) 8) 0 24 (sub f24_c [1, 0, 1, 0, 0, 1, 0, 0, 1])) (blkK 1 (seqK (execK (f24_cx k) (callK (f24_cx k) 8) 0 24 (sub f24_c [1, 0, 1, 0, 0, 1, 1])) (iterK (f24_cx k) 0 f24_l0_cut (loopK (f24_cx k) 0 (execK (f24_cx k) (callK (f24_cx k) 8) 0 24 (sub f24_c [1, 0, 1, 0, 0])) f24_l0_cut K n) K))))) k (f24_l1_s x5 x1 (0 : Int) z7))
 (K (.exit 0) (f24_l0_o0 x1 z7))) : Option (T1 × shDen laws_markMapNodeS_sh)) := by kernel_rfl

theorem f24_l0_exit0 (k : Nat)  (x1 : Int) (z7 : T1) : ((blkK 0 (seqK (execK (f24_cx k) (callK (f24_cx k) 8) 0 24 (sub f24_c [1, 1])) (finIK (f24_cx k) f24_i (.arr 90 K4) laws_markMapNodeS_sh))) (.exit 0) (f24_l0_o0 x1 z7) : Option (T1 × shDen laws_markMapNodeS_sh)) =
 ((some (z7, x1)) : Option (T1 × shDen laws_markMapNodeS_sh)) := by kernel_rfl

theorem f24_l0_L_eq (K : Ex → St → Option (T1 × shDen laws_markMapNodeS_sh))  : ∀ (n : Nat) (x1 : Int) (x5 : Int) (z7 : T1), (f24_l0_p FUEL K n  x1 x5 z7 : Option (T1 × shDen laws_markMapNodeS_sh)) = laws_markMapNodeS_l0_L (fun x1 z7 => K (.exit 0) (f24_l0_o0 x1 z7))  n x1 x5 z7 := by
 intro n
 induction n with
 | zero => intros; rfl
 | succ n ih =>
  intro x1 x5 z7
  exact (f24_l0_round FUEL K n  x1 x5 z7).trans (condC ((f24_l1_L_eq _ x5 FUEL x1 (0 : Int) z7).trans (congrArg (fun e0 => laws_markMapNodeS_l1_L e0 x5 FUEL x1 (0 : Int) z7) (funext fun x1 => funext fun z7 => (f24_l1_exit2 FUEL K n x5 x1 z7).trans ((f24_l2_L_eq _ x5 FUEL x1 (0 : Int) z7).trans (congrArg (fun e0 => laws_markMapNodeS_l2_L e0 x5 FUEL x1 (0 : Int) z7) (funext fun x1 => funext fun z7 => (f24_l2_exit4 FUEL K n x5 x1 z7).trans (bindC (fun b9 => condC (bindC (fun b10 => bindC (fun b11 => condC (bindC (fun b12 => ih (IntKind.wrap .i64 ((IntKind.wrap .i64 (x1 + (1 : Int))) + (1 : Int))) (IntKind.wrap .i64 (x5 + (1 : Int))) b12)) (rfl)))) (rfl))))))))) (rfl))

theorem f24_start (k : Nat) (a0 : T1) (a1 : Int) : fnIK (f24_cx k) 8 24 f24_i (.arr 90 K4) laws_markMapNodeS_sh a0 [.pv (.int .i64) a1] =
 ((loopK (f24_cx k) 0 (execK (f24_cx k) (callK (f24_cx k) 8) 0 24 (sub f24_c [1, 0, 1, 0, 0])) f24_l0_cut (blkK 0 (seqK (execK (f24_cx k) (callK (f24_cx k) 8) 0 24 (sub f24_c [1, 1])) (finIK (f24_cx k) f24_i (.arr 90 K4) laws_markMapNodeS_sh))) k (f24_l0_s a1 (0 : Int) a0)) : Option (T1 × shDen laws_markMapNodeS_sh)) := by kernel_rfl

theorem f24_run (a0 : T1) (a1 : Int) : fnIK (f24_cx FUEL) 8 24 f24_i (.arr 90 K4) laws_markMapNodeS_sh a0 [.pv (.int .i64) a1] = laws_markMapNodeS_r a0 a1 :=
 (f24_start FUEL a0 a1).trans ((f24_l0_L_eq _  FUEL a1 (0 : Int) a0).trans (congrArg (fun e0 => laws_markMapNodeS_l0_L e0  FUEL a1 (0 : Int) a0) (funext fun x1 => funext fun z7 => (f24_l0_exit0 FUEL  x1 z7).trans (rfl))))

noncomputable def f24_inp : ConI := { k := (.arr 90 K4), ps := K23, sh := laws_markMapNodeS_sh, raw := fun x q => laws_markMapNodeS_r x q.1 }
theorem f24_inpOk : InpOk Tryz.prog 24 f24_inp := inp_of_fn (f24_tabs FUEL) (depth := 8) f24_ok fun x q z h => (f24_run x q.1).trans h

noncomputable def f25_l0_cut : Cut := { keep := [0, 1, 5], stk := [], ids := [], own := [], outs := [(1, [1], []), (0, [4], [])] }
noncomputable def f25_l1_cut : Cut := { keep := [0, 1, 5, 6], stk := [], ids := [], own := [], outs := [(0, [4], []), (3, [0, 1, 5], [])] }
noncomputable def f25_l2_cut : Cut := { keep := [0, 1, 5, 7], stk := [], ids := [], own := [], outs := [(0, [4], []), (5, [0, 1, 5], [])] }
noncomputable def f25_cx (k : Nat) : Cx := mkC [] [(48, f48_con)] [] [] [(25, [(0, f25_l0_cut), (2, f25_l1_cut), (4, f25_l2_cut)])] k [] false
theorem f25_tabs (k : Nat) : TabsOk Tryz.prog (f25_cx k) := mkC_ok ⟨f48_conOk, trivial⟩ trivial trivial trivial
abbrev laws_heldMapNodeS_sh : List Sh := [.pl (.int .i64)]
noncomputable def f25_l0_s (a0 : T1) (x1 : Int) (x5 : Int) : St := { env := (.pv K3 a0 :: .pv (.int .i64) x1 :: (dd 3 (.pv (.int .i64) x5 :: (dd 63 [])))), stk := [], heap := [] }
noncomputable def f25_l0_o0 (x1 : Int) : St := { env := (.dead :: .pv (.int .i64) x1 :: (dd 67 [])), stk := [], heap := [] }
noncomputable def f25_l0_o  : St := { env := (dd 4 (.pv (.int .i64) (-1 : Int) :: (dd 64 []))), stk := [], heap := [] }
noncomputable def f25_l1_s (a0 : T1) (x5 : Int) (x1 : Int) (x6 : Int) : St := { env := (.pv K3 a0 :: .pv (.int .i64) x1 :: (dd 3 (.pv (.int .i64) x5 :: .pv (.int .i64) x6 :: (dd 62 [])))), stk := [], heap := [] }
noncomputable def f25_l1_o  : St := { env := (dd 4 (.pv (.int .i64) (-1 : Int) :: (dd 64 []))), stk := [], heap := [] }
noncomputable def f25_l1_o2 (a0 : T1) (x5 : Int) (x1 : Int) : St := { env := (.pv K3 a0 :: .pv (.int .i64) x1 :: (dd 3 (.pv (.int .i64) x5 :: (dd 63 [])))), stk := [], heap := [] }
noncomputable def f25_l2_s (a0 : T1) (x5 : Int) (x1 : Int) (x7 : Int) : St := { env := (.pv K3 a0 :: .pv (.int .i64) x1 :: (dd 3 (.pv (.int .i64) x5 :: .dead :: .pv (.int .i64) x7 :: (dd 61 [])))), stk := [], heap := [] }
noncomputable def f25_l2_o  : St := { env := (dd 4 (.pv (.int .i64) (-1 : Int) :: (dd 64 []))), stk := [], heap := [] }
noncomputable def f25_l2_o4 (a0 : T1) (x5 : Int) (x1 : Int) : St := { env := (.pv K3 a0 :: .pv (.int .i64) x1 :: (dd 3 (.pv (.int .i64) x5 :: (dd 63 [])))), stk := [], heap := [] }
noncomputable def laws_heldMapNodeS_l2_b (rec : Int → Int → Option (shDen laws_heldMapNodeS_sh)) (kr : Option (shDen laws_heldMapNodeS_sh)) (ke4 : Int → Option (shDen laws_heldMapNodeS_sh)) (a0 : T1) (x5 : Int) (x1 : Int) (x7 : Int) : Option (shDen laws_heldMapNodeS_sh) :=
 (cond (decide (x7 < (32 : Int)))
 (cond ((decide ((0 : Int) ≤ x5)) && (decide (x5 < (a0.length : Int))))
 (cond ((decide ((0 : Int) ≤ x7)) && (decide (x7 < (32 : Int))))
 (cond (!(decide (((((a0.getD (x5.toNat) ((List.replicate 32 (0 : Int)), ((List.replicate 32 (0 : Int)), (([], ([], ())), ())))).2).1).getD (x7.toNat) (0 : Int)) = (IntKind.wrap .u8 x1))))
 (kr)
 (rec (IntKind.wrap .i64 (x1 + (1 : Int))) (IntKind.wrap .i64 (x7 + (1 : Int)))))
 none)
 none)
 (ke4 x1))
noncomputable def laws_heldMapNodeS_l2_L (kr : Option (shDen laws_heldMapNodeS_sh)) (ke4 : Int → Option (shDen laws_heldMapNodeS_sh)) (a0 : T1) (x5 : Int) : Nat → Int → Int → Option (shDen laws_heldMapNodeS_sh)
 | 0 => fun _ _ => none
 | n + 1 => laws_heldMapNodeS_l2_b (laws_heldMapNodeS_l2_L kr ke4 a0 x5 n) kr ke4 a0 x5
noncomputable def laws_heldMapNodeS_l1_b (rec : Int → Int → Option (shDen laws_heldMapNodeS_sh)) (kr : Option (shDen laws_heldMapNodeS_sh)) (ke2 : Int → Option (shDen laws_heldMapNodeS_sh)) (a0 : T1) (x5 : Int) (x1 : Int) (x6 : Int) : Option (shDen laws_heldMapNodeS_sh) :=
 (cond (decide (x6 < (32 : Int)))
 (cond ((decide ((0 : Int) ≤ x5)) && (decide (x5 < (a0.length : Int))))
 (cond ((decide ((0 : Int) ≤ x6)) && (decide (x6 < (32 : Int))))
 (cond (!(decide ((((a0.getD (x5.toNat) ((List.replicate 32 (0 : Int)), ((List.replicate 32 (0 : Int)), (([], ([], ())), ())))).1).getD (x6.toNat) (0 : Int)) = (IntKind.wrap .u8 x1))))
 (kr)
 (rec (IntKind.wrap .i64 (x1 + (1 : Int))) (IntKind.wrap .i64 (x6 + (1 : Int)))))
 none)
 none)
 (ke2 x1))
noncomputable def laws_heldMapNodeS_l1_L (kr : Option (shDen laws_heldMapNodeS_sh)) (ke2 : Int → Option (shDen laws_heldMapNodeS_sh)) (a0 : T1) (x5 : Int) : Nat → Int → Int → Option (shDen laws_heldMapNodeS_sh)
 | 0 => fun _ _ => none
 | n + 1 => laws_heldMapNodeS_l1_b (laws_heldMapNodeS_l1_L kr ke2 a0 x5 n) kr ke2 a0 x5
noncomputable def laws_heldMapNodeS_l0_b (rec : Int → Int → Option (shDen laws_heldMapNodeS_sh)) (ke0 : Int → Option (shDen laws_heldMapNodeS_sh)) (kr : Option (shDen laws_heldMapNodeS_sh)) (a0 : T1) (x1 : Int) (x5 : Int) : Option (shDen laws_heldMapNodeS_sh) :=
 (cond (decide (x5 < (a0.length : Int)))
 (laws_heldMapNodeS_l1_L (kr) (fun x1 => (laws_heldMapNodeS_l2_L (kr) (fun x1 => (cond ((decide ((0 : Int) ≤ x5)) && (decide (x5 < (a0.length : Int))))
 (bindO (laws_markText_r x1) fun (b3 : List Int) => (cond (!(decide (((((a0.getD (x5.toNat) ((List.replicate 32 (0 : Int)), ((List.replicate 32 (0 : Int)), (([], ([], ())), ())))).2).2).1).1 = b3)))
 (kr)
 (cond ((decide ((0 : Int) ≤ x5)) && (decide (x5 < (a0.length : Int))))
 (bindO (laws_markText_r (IntKind.wrap .i64 (x1 + (1 : Int)))) fun (b4 : List Int) => (cond (!(decide ((((((a0.getD (x5.toNat) ((List.replicate 32 (0 : Int)), ((List.replicate 32 (0 : Int)), (([], ([], ())), ())))).2).2).1).2).1 = b4)))
 (kr)
 (rec (IntKind.wrap .i64 ((IntKind.wrap .i64 (x1 + (1 : Int))) + (1 : Int))) (IntKind.wrap .i64 (x5 + (1 : Int))))))
 none)))
 none)) a0 x5 FUEL x1 (0 : Int))) a0 x5 FUEL x1 (0 : Int))
 (ke0 x1))
noncomputable def laws_heldMapNodeS_l0_L (ke0 : Int → Option (shDen laws_heldMapNodeS_sh)) (kr : Option (shDen laws_heldMapNodeS_sh)) (a0 : T1) : Nat → Int → Int → Option (shDen laws_heldMapNodeS_sh)
 | 0 => fun _ _ => none
 | n + 1 => laws_heldMapNodeS_l0_b (laws_heldMapNodeS_l0_L ke0 kr a0 n) ke0 kr a0
noncomputable def laws_heldMapNodeS_r (a0 : T1) (a1 : Int) : Option (shDen laws_heldMapNodeS_sh) :=
 (laws_heldMapNodeS_l0_L (fun x1 => (some x1)) (some (-1 : Int)) a0 FUEL a1 (0 : Int))
noncomputable def f25_l2_p (k : Nat) (K : Ex → St → Option (shDen laws_heldMapNodeS_sh)) (n : Nat) (a0 : T1) (x5 : Int) (x1 : Int) (x7 : Int) : Option (shDen laws_heldMapNodeS_sh) := loopK (f25_cx k) 0 (execK (f25_cx k) (callK (f25_cx k) 8) 0 25 (sub f25_c [1, 0, 1, 0, 0, 1, 0, 0, 1, 0, 1, 0, 0])) f25_l2_cut K n (f25_l2_s a0 x5 x1 x7)

theorem f25_l2_ret (k : Nat) (K : Ex → St → Option (shDen laws_heldMapNodeS_sh)) (n : Nat)  : ((blkK 4 (seqK (execK (f25_cx k) (callK (f25_cx k) 8) 0 25 (sub f25_c [1, 0, 1, 0, 0, 1, 0, 0, 1, 1])) (blkK 1 (seqK (execK (f25_cx k) (callK (f25_cx k) 8) 0 25 (sub f25_c [1, 0, 1, 0, 0, 1, 1])) (iterK (f25_cx k) 0 f25_l0_cut (loopK (f25_cx k) 0 (execK (f25_cx k) (callK (f25_cx k) 8) 0 25 (sub f25_c [1, 0, 1, 0, 0])) f25_l0_cut K n) K))))) .ret (f25_l2_o) : Option (shDen laws_heldMapNodeS_sh)) =
 ((K .ret (f25_l0_o )) : Option (shDen laws_heldMapNodeS_sh)) := by kernel_rfl

theorem f25_l2_exit4 (k : Nat) (K : Ex → St → Option (shDen laws_heldMapNodeS_sh)) (n : Nat) (a0 : T1) (x5 : Int) (x1 : Int) : ((blkK 4 (seqK (execK (f25_cx k) (callK (f25_cx k) 8) 0 25 (sub f25_c [1, 0, 1, 0, 0, 1, 0, 0, 1, 1])) (blkK 1 (seqK (execK (f25_cx k) (callK (f25_cx k) 8) 0 25 (sub f25_c [1, 0, 1, 0, 0, 1, 1])) (iterK (f25_cx k) 0 f25_l0_cut (loopK (f25_cx k) 0 (execK (f25_cx k) (callK (f25_cx k) 8) 0 25 (sub f25_c [1, 0, 1, 0, 0])) f25_l0_cut K n) K))))) (.exit 4) (f25_l2_o4 a0 x5 x1) : Option (shDen laws_heldMapNodeS_sh)) =
 ((cond ((decide ((0 : Int) ≤ x5)) && (decide (x5 < (a0.length : Int))))
 (bindO (laws_markText_r x1) fun (b3 : List Int) => (cond (!(decide (((((a0.getD (x5.toNat) ((List.replicate 32 (0 : Int)), ((List.replicate 32 (0 : Int)), (([], ([], ())), ())))).2).2).1).1 = b3)))
 (K .ret (f25_l0_o ))
 (cond ((decide ((0 : Int) ≤ x5)) && (decide (x5 < (a0.length : Int))))
 (bindO (laws_markText_r (IntKind.wrap .i64 (x1 + (1 : Int)))) fun (b4 : List Int) => (cond (!(decide ((((((a0.getD (x5.toNat) ((List.replicate 32 (0 : Int)), ((List.replicate 32 (0 : Int)), (([], ([], ())), ())))).2).2).1).2).1 = b4)))
 (K .ret (f25_l0_o ))
 (loopK (f25_cx k) 0 (execK (f25_cx k) (callK (f25_cx k) 8) 0 25 (sub f25_c [1, 0, 1, 0, 0])) f25_l0_cut K n (f25_l0_s a0 (IntKind.wrap .i64 ((IntKind.wrap .i64 (x1 + (1 : Int))) + (1 : Int))) (IntKind.wrap .i64 (x5 + (1 : Int)))))))
 none)))
 none) : Option (shDen laws_heldMapNodeS_sh)) := by kernel_rfl

theorem f25_l2_round (k : Nat) (K : Ex → St → Option (shDen laws_heldMapNodeS_sh)) (n : Nat) (a0 : T1) (x5 : Int) (x1 : Int) (x7 : Int) : (f25_l2_p k K (n + 1) a0 x5 x1 x7 : Option (shDen laws_heldMapNodeS_sh)) = laws_heldMapNodeS_l2_b ((fun x1 x7 => f25_l2_p k K n a0 x5 x1 x7)) (K .ret (f25_l2_o)) (fun x1 => K (.exit 4) (f25_l2_o4 a0 x5 x1)) a0 x5 x1 x7 := by kernel_rfl

theorem f25_l2_L_eq (K : Ex → St → Option (shDen laws_heldMapNodeS_sh)) (a0 : T1) (x5 : Int) : ∀ (n : Nat) (x1 : Int) (x7 : Int), (f25_l2_p FUEL K n a0 x5 x1 x7 : Option (shDen laws_heldMapNodeS_sh)) = laws_heldMapNodeS_l2_L (K .ret (f25_l2_o)) (fun x1 => K (.exit 4) (f25_l2_o4 a0 x5 x1)) a0 x5 n x1 x7 := by
 intro n
 induction n with
 | zero => intros; rfl
 | succ n ih =>
  intro x1 x7
  exact (f25_l2_round FUEL K n a0 x5 x1 x7).trans (congrArg (fun f => laws_heldMapNodeS_l2_b f (K .ret (f25_l2_o)) (fun x1 => K (.exit 4) (f25_l2_o4 a0 x5 x1)) a0 x5 x1 x7) (funext fun x1 => funext fun x7 => ih x1 x7))

noncomputable def f25_l1_p (k : Nat) (K : Ex → St → Option (shDen laws_heldMapNodeS_sh)) (n : Nat) (a0 : T1) (x5 : Int) (x1 : Int) (x6 : Int) : Option (shDen laws_heldMapNodeS_sh) := loopK (f25_cx k) 0 (execK (f25_cx k) (callK (f25_cx k) 8) 0 25 (sub f25_c [1, 0, 1, 0, 0, 1, 0, 0, 0, 1, 0, 0])) f25_l1_cut K n (f25_l1_s a0 x5 x1 x6)

theorem f25_l1_ret (k : Nat) (K : Ex → St → Option (shDen laws_heldMapNodeS_sh)) (n : Nat)  : ((blkK 2 (seqK (execK (f25_cx k) (callK (f25_cx k) 8) 0 25 (sub f25_c [1, 0, 1, 0, 0, 1, 0, 0, 1])) (blkK 1 (seqK (execK (f25_cx k) (callK (f25_cx k) 8) 0 25 (sub f25_c [1, 0, 1, 0, 0, 1, 1])) (iterK (f25_cx k) 0 f25_l0_cut (loopK (f25_cx k) 0 (execK (f25_cx k) (callK (f25_cx k) 8) 0 25 (sub f25_c [1, 0, 1, 0, 0])) f25_l0_cut K n) K))))) .ret (f25_l1_o) : Option (shDen laws_heldMapNodeS_sh)) =
 ((K .ret (f25_l0_o )) : Option (shDen laws_heldMapNodeS_sh)) := by kernel_rfl

theorem f25_l1_exit2 (k : Nat) (K : Ex → St → Option (shDen laws_heldMapNodeS_sh)) (n : Nat) (a0 : T1) (x5 : Int) (x1 : Int) : ((blkK 2 (seqK (execK (f25_cx k) (callK (f25_cx k) 8) 0 25 (sub f25_c [1, 0, 1, 0, 0, 1, 0, 0, 1])) (blkK 1 (seqK (execK (f25_cx k) (callK (f25_cx k) 8) 0 25 (sub f25_c [1, 0, 1, 0, 0, 1, 1])) (iterK (f25_cx k) 0 f25_l0_cut (loopK (f25_cx k) 0 (execK (f25_cx k) (callK (f25_cx k) 8) 0 25 (sub f25_c [1, 0, 1, 0, 0])) f25_l0_cut K n) K))))) (.exit 2) (f25_l1_o2 a0 x5 x1) : Option (shDen laws_heldMapNodeS_sh)) =
 ((loopK (f25_cx k) 0 (execK (f25_cx k) (callK (f25_cx k) 8) 0 25 (sub f25_c [1, 0, 1, 0, 0, 1, 0, 0, 1, 0, 1, 0, 0])) f25_l2_cut (blkK 4 (seqK (execK (f25_cx k) (callK (f25_cx k) 8) 0 25 (sub f25_c [1, 0, 1, 0, 0, 1, 0, 0, 1, 1])) (blkK 1 (seqK (execK (f25_cx k) (callK (f25_cx k) 8) 0 25 (sub f25_c [1, 0, 1, 0, 0, 1, 1])) (iterK (f25_cx k) 0 f25_l0_cut (loopK (f25_cx k) 0 (execK (f25_cx k) (callK (f25_cx k) 8) 0 25 (sub f25_c [1, 0, 1, 0, 0])) f25_l0_cut K n) K))))) k (f25_l2_s a0 x5 x1 (0 : Int))) : Option (shDen laws_heldMapNodeS_sh)) := by kernel_rfl

theorem f25_l1_round (k : Nat) (K : Ex → St → Option (shDen laws_heldMapNodeS_sh)) (n : Nat) (a0 : T1) (x5 : Int) (x1 : Int) (x6 : Int) : (f25_l1_p k K (n + 1) a0 x5 x1 x6 : Option (shDen laws_heldMapNodeS_sh)) = laws_heldMapNodeS_l1_b ((fun x1 x6 => f25_l1_p k K n a0 x5 x1 x6)) (K .ret (f25_l1_o)) (fun x1 => K (.exit 2) (f25_l1_o2 a0 x5 x1)) a0 x5 x1 x6 := by kernel_rfl

theorem f25_l1_L_eq (K : Ex → St → Option (shDen laws_heldMapNodeS_sh)) (a0 : T1) (x5 : Int) : ∀ (n : Nat) (x1 : Int) (x6 : Int), (f25_l1_p FUEL K n a0 x5 x1 x6 : Option (shDen laws_heldMapNodeS_sh)) = laws_heldMapNodeS_l1_L (K .ret (f25_l1_o)) (fun x1 => K (.exit 2) (f25_l1_o2 a0 x5 x1)) a0 x5 n x1 x6 := by
 intro n
 induction n with
 | zero => intros; rfl
 | succ n ih =>
  intro x1 x6
  exact (f25_l1_round FUEL K n a0 x5 x1 x6).trans (congrArg (fun f => laws_heldMapNodeS_l1_b f (K .ret (f25_l1_o)) (fun x1 => K (.exit 2) (f25_l1_o2 a0 x5 x1)) a0 x5 x1 x6) (funext fun x1 => funext fun x6 => ih x1 x6))

noncomputable def f25_l0_p (k : Nat) (K : Ex → St → Option (shDen laws_heldMapNodeS_sh)) (n : Nat) (a0 : T1) (x1 : Int) (x5 : Int) : Option (shDen laws_heldMapNodeS_sh) := loopK (f25_cx k) 0 (execK (f25_cx k) (callK (f25_cx k) 8) 0 25 (sub f25_c [1, 0, 1, 0, 0])) f25_l0_cut K n (f25_l0_s a0 x1 x5)

theorem f25_l0_round (k : Nat) (K : Ex → St → Option (shDen laws_heldMapNodeS_sh)) (n : Nat) (a0 : T1) (x1 : Int) (x5 : Int) : (f25_l0_p k K (n + 1) a0 x1 x5 : Option (shDen laws_heldMapNodeS_sh)) =
 ((cond (decide (x5 < (a0.length : Int)))
 (loopK (f25_cx k) 0 (execK (f25_cx k) (callK (f25_cx k) 8) 0 25 (sub f25_c [1, 0, 1, 0, 0, 1, 0, 0, 0, 1, 0, 0])) f25_l1_cut (blkK 2 (seqK (execK (f25_cx k) (callK (f25_cx k) 8) 0 25 (sub f25_c [1, 0, 1, 0, 0, 1, 0, 0, 1])) (blkK 1 (seqK (execK (f25_cx k) (callK (f25_cx k) 8) 0 25 (sub f25_c [1, 0, 1, 0, 0, 1, 1])) (iterK (f25_cx k) 0 f25_l0_cut (loopK (f25_cx k) 0 (execK (f25_cx k) (callK (f25_cx k) 8) 0 25 (sub f25_c [1, 0, 1, 0, 0])) f25_l0_cut K n) K))))) k (f25_l1_s a0 x5 x1 (0 : Int)))
 (K (.exit 0) (f25_l0_o0 x1))) : Option (shDen laws_heldMapNodeS_sh)) := by kernel_rfl

theorem f25_l0_exit0 (k : Nat)  (x1 : Int) : ((blkK 0 (seqK (execK (f25_cx k) (callK (f25_cx k) 8) 0 25 (sub f25_c [1, 1])) (finK (f25_cx k) f25_i laws_heldMapNodeS_sh))) (.exit 0) (f25_l0_o0 x1) : Option (shDen laws_heldMapNodeS_sh)) =
 ((some x1) : Option (shDen laws_heldMapNodeS_sh)) := by kernel_rfl

theorem f25_l0_ret (k : Nat)   : ((blkK 0 (seqK (execK (f25_cx k) (callK (f25_cx k) 8) 0 25 (sub f25_c [1, 1])) (finK (f25_cx k) f25_i laws_heldMapNodeS_sh))) .ret (f25_l0_o) : Option (shDen laws_heldMapNodeS_sh)) =
 ((some (-1 : Int)) : Option (shDen laws_heldMapNodeS_sh)) := by kernel_rfl

theorem f25_l0_L_eq (K : Ex → St → Option (shDen laws_heldMapNodeS_sh)) (a0 : T1) : ∀ (n : Nat) (x1 : Int) (x5 : Int), (f25_l0_p FUEL K n a0 x1 x5 : Option (shDen laws_heldMapNodeS_sh)) = laws_heldMapNodeS_l0_L (fun x1 => K (.exit 0) (f25_l0_o0 x1)) (K .ret (f25_l0_o)) a0 n x1 x5 := by
 intro n
 induction n with
 | zero => intros; rfl
 | succ n ih =>
  intro x1 x5
  exact (f25_l0_round FUEL K n a0 x1 x5).trans (condC ((f25_l1_L_eq _ a0 x5 FUEL x1 (0 : Int)).trans (cong2 (fun e0 e1 => laws_heldMapNodeS_l1_L e0 e1 a0 x5 FUEL x1 (0 : Int)) ( (f25_l1_ret FUEL K n ).trans (rfl)) (funext fun x1 => (f25_l1_exit2 FUEL K n a0 x5 x1).trans ((f25_l2_L_eq _ a0 x5 FUEL x1 (0 : Int)).trans (cong2 (fun e0 e1 => laws_heldMapNodeS_l2_L e0 e1 a0 x5 FUEL x1 (0 : Int)) ( (f25_l2_ret FUEL K n ).trans (rfl)) (funext fun x1 => (f25_l2_exit4 FUEL K n a0 x5 x1).trans (condC (bindC (fun b3 => condC (rfl) (condC (bindC (fun b4 => condC (rfl) (ih (IntKind.wrap .i64 ((IntKind.wrap .i64 (x1 + (1 : Int))) + (1 : Int))) (IntKind.wrap .i64 (x5 + (1 : Int)))))) (rfl)))) (rfl)))))))) (rfl))

theorem f25_start (k : Nat) (a0 : T1) (a1 : Int) : fnK (f25_cx k) 8 25 f25_i laws_heldMapNodeS_sh [.pv K3 a0, .pv (.int .i64) a1] =
 ((loopK (f25_cx k) 0 (execK (f25_cx k) (callK (f25_cx k) 8) 0 25 (sub f25_c [1, 0, 1, 0, 0])) f25_l0_cut (blkK 0 (seqK (execK (f25_cx k) (callK (f25_cx k) 8) 0 25 (sub f25_c [1, 1])) (finK (f25_cx k) f25_i laws_heldMapNodeS_sh))) k (f25_l0_s a0 a1 (0 : Int))) : Option (shDen laws_heldMapNodeS_sh)) := by kernel_rfl

theorem f25_run (a0 : T1) (a1 : Int) : fnK (f25_cx FUEL) 8 25 f25_i laws_heldMapNodeS_sh [.pv K3 a0, .pv (.int .i64) a1] = laws_heldMapNodeS_r a0 a1 :=
 (f25_start FUEL a0 a1).trans ((f25_l0_L_eq _ a0 FUEL a1 (0 : Int)).trans (cong2 (fun e0 e1 => laws_heldMapNodeS_l0_L e0 e1 a0 FUEL a1 (0 : Int)) (funext fun x1 => (f25_l0_exit0 FUEL  x1).trans (rfl)) ( (f25_l0_ret FUEL  ).trans (rfl))))

noncomputable def f25_con : Con := { ps := (.pair K3 K23), sh := laws_heldMapNodeS_sh, raw := fun x => laws_heldMapNodeS_r x.1 x.2.1 }
theorem f25_conOk : ConOk Tryz.prog 25 f25_con := con_of_fn (f25_tabs FUEL) (depth := 8) f25_ok fun x y h => (f25_run x.1 x.2.1).trans h

noncomputable def laws_FnExactProofFromCopy_d_cx (k : Nat) : Cx := mkC [(15, f15_i)] [(6, f6_con), (9, f9_d_con), (13, f13_con), (19, f19_con), (20, f20_con), (21, f21_con), (22, f22_con), (23, f23_con), (25, f25_con)] [] [(17, f17_d_inp), (24, f24_inp)] [] k dps false
theorem laws_FnExactProofFromCopy_d_tabs (k : Nat) : TabsOk Tryz.prog (laws_FnExactProofFromCopy_d_cx k) := mkC_ok ⟨f6_conOk, f9_d_conOk, f13_conOk, f19_conOk, f20_conOk, f21_conOk, f22_conOk, f23_conOk, f25_conOk, trivial⟩ trivial ⟨f17_d_inpOk, f24_inpOk, trivial⟩ ⟨f15_ok, trivial⟩
abbrev laws_FnExactProofFromCopy_d_sh : List Sh := [.pl .bool]
noncomputable def laws_FnExactProofFromCopy_d_r (a0 : T6) (a1 : (List Int)) (a2 : List Int) : Option (shDen laws_FnExactProofFromCopy_d_sh) :=
 (cond (decide ((1048576 : Int) < (a2.length : Int)))
 (some true)
 (bindO (laws_szStore_r a0 (1048576 : Int)) fun (b1 : Int) => (cond (decide (b1 < (0 : Int)))
 (some true)
 (bindO (laws_toStore_d_r a0) fun (b2 : T6) => (bindO (laws_toKey_r a1) fun (b3 : (List Int)) => (bindO (spec_ProofFromCopy_r (b2.1, ()) b3 a2) fun (b4 : T0) => (bindO (laws_toStore_d_r a0) fun (b5 : T6) => (bindO (laws_toKey_r a1) fun (b6 : (List Int)) => (bindO (impl_ProofFromCopy_r (b5.1, ()) b6 a2) fun (b7 : T0) => (bindO (laws_eqMapNodeS_r b7.1 b4.1) fun (b8 : Bool) => (cond (!b8)
 (some false)
 (bindO (laws_eqKey_r b7.2.1 b4.2.1) fun (b9 : Bool) => (cond (!b9)
 (some false)
 (cond (!(decide (b7.2.2 = b4.2.2)))
 (some false)
 (bindO (laws_toStore_d_r a0) fun (b10 : T6) => (bindO (laws_eqStore_r (b5.1, ()) (b10.1, ())) fun (b11 : Bool) => (cond (!b11)
 (some false)
 (bindO (laws_markBlobS_d_r b5.1 (1 : Int)) fun (b12 : (T8 × Int)) => (cond (decide (b12.2 < (0 : Int)))
 (some false)
 (bindO (laws_eqMapNodeS_r b7.1 b4.1) fun (b13 : Bool) => (cond (!b13)
 (some false)
 (bindO (laws_eqKey_r b7.2.1 b4.2.1) fun (b14 : Bool) => (cond (!b14)
 (some false)
 (cond (!(decide (b7.2.2 = b4.2.2)))
 (some false)
 (bindO (laws_markMapNodeS_r b7.1 (1 : Int)) fun (b15 : (T1 × Int)) => (bindO (laws_heldMapNodeS_r b15.1 (1 : Int)) fun (b16 : Int) => (cond (decide (b16 < (0 : Int)))
 (some false)
 (cond (!(decide (b16 = b15.2)))
 (some false)
 (bindO (laws_toStore_d_r a0) fun (b17 : T6) => (bindO (laws_toKey_r a1) fun (b18 : (List Int)) => (bindO (impl_ProofFromCopy_r (b17.1, ()) b18 a2) fun (b19 : T0) => (bindO (laws_eqMapNodeS_r b19.1 b4.1) fun (b20 : Bool) => (cond (!b20)
 (some false)
 (bindO (laws_eqKey_r b19.2.1 b4.2.1) fun (b21 : Bool) => (cond (!b21)
 (some false)
 (cond (!(decide (b19.2.2 = b4.2.2)))
 (some false)
 (bindO (laws_heldMapNodeS_r b15.1 (1 : Int)) fun (b22 : Int) => (cond (decide (b22 < (0 : Int)))
 (some false)
 (cond (!(decide (b22 = b15.2)))
 (some false)
 (some true))))))))))))))))))))))))))))))))))))))))
theorem laws_FnExactProofFromCopy_d_run (a0 : T6) (a1 : (List Int)) (a2 : List Int) : fnK (laws_FnExactProofFromCopy_d_cx FUEL) 8 4 laws_FnExactProofFromCopy_i laws_FnExactProofFromCopy_d_sh [.pv K7 a0, .pv (.arr 32 (.int .u8)) a1, .pv .str a2] = laws_FnExactProofFromCopy_d_r a0 a1 a2 := by kernel_rfl

noncomputable def laws_FnExactProofFromCopy_d_con : Con := { ps := (.pair K7 K15), sh := laws_FnExactProofFromCopy_d_sh, raw := fun x => laws_FnExactProofFromCopy_d_r x.1 x.2.1 x.2.2.1 }
theorem laws_FnExactProofFromCopy_d_conOk : ConOk Tryz.prog 4 laws_FnExactProofFromCopy_d_con := con_of_fn (laws_FnExactProofFromCopy_d_tabs FUEL) (depth := 8) laws_FnExactProofFromCopy_ok fun x y h => (laws_FnExactProofFromCopy_d_run x.1 x.2.1 x.2.2.1).trans h

end Go.Ai.G
