/- Made by a program of this work out of the program: tables and plain functions, with the proof that each Go function does what its plain function says. No conditions. -/
import Derived.Test.YthbjgkcgjehjkaaExactCutPlacesFn0
namespace Go.Ai.G
open Go.Proofs
open Go.Ai
set_option linter.unusedVariables false
set_option linter.unusedSimpArgs false
set_option maxRecDepth 100000

noncomputable def laws_FnExactCutPlaces_l0_cut : Cut := { keep := [0, 1, 5], stk := [[1, 2, 5, 6, 8, 9]], ids := [20, 230, 270, 320], own := [], outs := [(1, [1], [20, 230, 320])] }
noncomputable def laws_FnExactCutPlaces_l1_cut : Cut := { keep := [0, 1, 5], stk := [[1, 2, 5, 6, 8]], ids := [20, 230, 320], own := [], outs := [(1, [1], [20, 230, 320])] }
noncomputable def laws_FnExactCutPlaces_inls : List (Nat × Inl) := [(26, laws_markByteS_i), (36, laws_markInt64S_i)]
noncomputable def laws_FnExactCutPlaces_cons : List (Nat × Con) := [(14, laws_toCutRule_con), (15, laws_toByteS_con), (17, laws_eqByteS_con), (33, spec_CutPlaces_con), (34, impl_CutPlaces_con), (35, laws_eqInt64S_con), (37, laws_heldInt64S_con)]
noncomputable def laws_FnExactCutPlaces_cuts : List (Nat × List (Nat × Cut)) := [(26, [(0, laws_FnExactCutPlaces_l0_cut)]), (36, [(0, laws_FnExactCutPlaces_l1_cut)])]
noncomputable def laws_FnExactCutPlaces_cx (k : Nat) : Cx := mkCx tys tbytes telem nozero (Ai.look laws_FnExactCutPlaces_inls) (Ai.look laws_FnExactCutPlaces_cons) (fun f id => match Ai.look laws_FnExactCutPlaces_cuts f with | some l => Ai.look l id | none => none) k
theorem laws_FnExactCutPlaces_tabs (k : Nat) : TabsOk Try.prog (laws_FnExactCutPlaces_cx k) := ⟨tab_mk tabs_ok _ _ _ _, look_all (Q := ConOk Try.prog) _ ⟨laws_toCutRule_conOk, laws_toByteS_conOk, laws_eqByteS_conOk, spec_CutPlaces_conOk, impl_CutPlaces_conOk, laws_eqInt64S_conOk, laws_heldInt64S_conOk, trivial⟩, look_all (Q := InlOk Try.prog) _ ⟨laws_markByteS_ok, laws_markInt64S_ok, trivial⟩, mixed_ok⟩
abbrev laws_FnExactCutPlaces_sh : List Sh := [.pl .bool]
noncomputable def laws_FnExactCutPlaces_l0_s (a0 : (Int × (Int × (Int × Unit)))) (a1 : (List Int)) (w0_6 : Int) (w0_9 : Int) (z460 : (List Int)) (z320 : (List Int)) (z270 : (List Int)) (z230 : (List Int)) (z220 : (List Int)) (x1 : Int) (x5 : Int) : St := { env := [.sl 270 (.int .u8), .pv (.int .i64) x1, .dead, .dead, .dead, .pv (.int .i64) x5, .dead, .dead, .dead, .dead, .dead, .dead, .dead, .dead, .dead, .dead, .dead, .dead, .dead, .dead], stk := [[.dead, .pv (.slice (.int .u8)) a1, .ptr 20 (.pair (.int .i64) (.pair (.int .i64) (.pair (.int .i64) .unit))) [], .dead, .dead, .sl 230 (.int .i64), .pv (.int .i64) w0_6, .dead, .sl 320 (.int .i64), .pv (.int .i64) w0_9, .dead, .dead, .dead, .dead, .dead, .dead, .dead, .dead, .dead, .dead, .dead, .dead, .dead, .dead, .dead, .dead, .dead, .dead, .dead, .dead, .dead, .dead, .dead, .dead, .dead, .dead, .dead, .dead, .dead, .dead, .dead, .dead, .dead, .dead, .dead, .dead, .dead, .dead, .dead, .dead, .dead, .dead, .dead, .dead, .dead, .dead, .dead, .dead, .dead, .dead, .dead, .dead, .dead, .dead, .dead, .dead, .dead, .dead, .dead, .dead, .dead, .dead, .dead, .dead, .dead, .dead, .dead, .dead, .dead, .dead, .dead, .dead, .dead, .dead, .dead, .dead, .dead, .dead, .dead, .dead, .dead, .dead, .dead, .dead, .dead, .dead, .dead, .dead, .dead, .dead, .dead]], heap := [(460, .arr 5 (.int .u8) z460), (320, .arr 2 (.int .i64) z320), (270, .arr 5 (.int .u8) z270), (230, .arr 2 (.int .i64) z230), (220, .arr 5 (.int .u8) z220), (20, .var (.pair (.int .i64) (.pair (.int .i64) (.pair (.int .i64) .unit))) (.pv (.pair (.int .i64) (.pair (.int .i64) (.pair (.int .i64) .unit))) a0))] }
noncomputable def laws_FnExactCutPlaces_l0_o0 (a0 : (Int × (Int × (Int × Unit)))) (a1 : (List Int)) (w0_6 : Int) (w0_9 : Int) (z460 : (List Int)) (z320 : (List Int)) (z270 : (List Int)) (z230 : (List Int)) (z220 : (List Int)) (x1 : Int) : St := { env := [.dead, .pv (.int .i64) x1, .dead, .dead, .dead, .dead, .dead, .dead, .dead, .dead, .dead, .dead, .dead, .dead, .dead, .dead, .dead, .dead, .dead, .dead], stk := [[.dead, .pv (.slice (.int .u8)) a1, .ptr 20 (.pair (.int .i64) (.pair (.int .i64) (.pair (.int .i64) .unit))) [], .dead, .dead, .sl 230 (.int .i64), .pv (.int .i64) w0_6, .dead, .sl 320 (.int .i64), .pv (.int .i64) w0_9, .dead, .dead, .dead, .dead, .dead, .dead, .dead, .dead, .dead, .dead, .dead, .dead, .dead, .dead, .dead, .dead, .dead, .dead, .dead, .dead, .dead, .dead, .dead, .dead, .dead, .dead, .dead, .dead, .dead, .dead, .dead, .dead, .dead, .dead, .dead, .dead, .dead, .dead, .dead, .dead, .dead, .dead, .dead, .dead, .dead, .dead, .dead, .dead, .dead, .dead, .dead, .dead, .dead, .dead, .dead, .dead, .dead, .dead, .dead, .dead, .dead, .dead, .dead, .dead, .dead, .dead, .dead, .dead, .dead, .dead, .dead, .dead, .dead, .dead, .dead, .dead, .dead, .dead, .dead, .dead, .dead, .dead, .dead, .dead, .dead, .dead, .dead, .dead, .dead, .dead, .dead]], heap := [(460, .arr 5 (.int .u8) z460), (320, .arr 2 (.int .i64) z320), (270, .arr 5 (.int .u8) z270), (230, .arr 2 (.int .i64) z230), (220, .arr 5 (.int .u8) z220), (20, .var (.pair (.int .i64) (.pair (.int .i64) (.pair (.int .i64) .unit))) (.pv (.pair (.int .i64) (.pair (.int .i64) (.pair (.int .i64) .unit))) a0))] }
noncomputable def laws_FnExactCutPlaces_l1_s (a0 : (Int × (Int × (Int × Unit)))) (a1 : (List Int)) (w0_6 : Int) (z460 : (List Int)) (z320 : (List Int)) (z270 : (List Int)) (z230 : (List Int)) (z220 : (List Int)) (x1 : Int) (x5 : Int) : St := { env := [.sl 320 (.int .i64), .pv (.int .i64) x1, .dead, .dead, .dead, .pv (.int .i64) x5, .dead, .dead, .dead, .dead, .dead, .dead, .dead, .dead, .dead, .dead, .dead, .dead, .dead], stk := [[.dead, .pv (.slice (.int .u8)) a1, .ptr 20 (.pair (.int .i64) (.pair (.int .i64) (.pair (.int .i64) .unit))) [], .dead, .dead, .sl 230 (.int .i64), .pv (.int .i64) w0_6, .dead, .sl 320 (.int .i64), .dead, .dead, .dead, .dead, .dead, .dead, .dead, .dead, .dead, .dead, .dead, .dead, .dead, .dead, .dead, .dead, .dead, .dead, .dead, .dead, .dead, .dead, .dead, .dead, .dead, .dead, .dead, .dead, .dead, .dead, .dead, .dead, .dead, .dead, .dead, .dead, .dead, .dead, .dead, .dead, .dead, .dead, .dead, .dead, .dead, .dead, .dead, .dead, .dead, .dead, .dead, .dead, .dead, .dead, .dead, .dead, .dead, .dead, .dead, .dead, .dead, .dead, .dead, .dead, .dead, .dead, .dead, .dead, .dead, .dead, .dead, .dead, .dead, .dead, .dead, .dead, .dead, .dead, .dead, .dead, .dead, .dead, .dead, .dead, .dead, .dead, .dead, .dead, .dead, .dead, .dead, .dead]], heap := [(460, .arr 5 (.int .u8) z460), (320, .arr 2 (.int .i64) z320), (270, .arr 5 (.int .u8) z270), (230, .arr 2 (.int .i64) z230), (220, .arr 5 (.int .u8) z220), (20, .var (.pair (.int .i64) (.pair (.int .i64) (.pair (.int .i64) .unit))) (.pv (.pair (.int .i64) (.pair (.int .i64) (.pair (.int .i64) .unit))) a0))] }
noncomputable def laws_FnExactCutPlaces_l1_o0 (a0 : (Int × (Int × (Int × Unit)))) (a1 : (List Int)) (w0_6 : Int) (z460 : (List Int)) (z320 : (List Int)) (z270 : (List Int)) (z230 : (List Int)) (z220 : (List Int)) (x1 : Int) : St := { env := [.dead, .pv (.int .i64) x1, .dead, .dead, .dead, .dead, .dead, .dead, .dead, .dead, .dead, .dead, .dead, .dead, .dead, .dead, .dead, .dead, .dead], stk := [[.dead, .pv (.slice (.int .u8)) a1, .ptr 20 (.pair (.int .i64) (.pair (.int .i64) (.pair (.int .i64) .unit))) [], .dead, .dead, .sl 230 (.int .i64), .pv (.int .i64) w0_6, .dead, .sl 320 (.int .i64), .dead, .dead, .dead, .dead, .dead, .dead, .dead, .dead, .dead, .dead, .dead, .dead, .dead, .dead, .dead, .dead, .dead, .dead, .dead, .dead, .dead, .dead, .dead, .dead, .dead, .dead, .dead, .dead, .dead, .dead, .dead, .dead, .dead, .dead, .dead, .dead, .dead, .dead, .dead, .dead, .dead, .dead, .dead, .dead, .dead, .dead, .dead, .dead, .dead, .dead, .dead, .dead, .dead, .dead, .dead, .dead, .dead, .dead, .dead, .dead, .dead, .dead, .dead, .dead, .dead, .dead, .dead, .dead, .dead, .dead, .dead, .dead, .dead, .dead, .dead, .dead, .dead, .dead, .dead, .dead, .dead, .dead, .dead, .dead, .dead, .dead, .dead, .dead, .dead, .dead, .dead, .dead]], heap := [(460, .arr 5 (.int .u8) z460), (320, .arr 2 (.int .i64) z320), (270, .arr 5 (.int .u8) z270), (230, .arr 2 (.int .i64) z230), (220, .arr 5 (.int .u8) z220), (20, .var (.pair (.int .i64) (.pair (.int .i64) (.pair (.int .i64) .unit))) (.pv (.pair (.int .i64) (.pair (.int .i64) (.pair (.int .i64) .unit))) a0))] }
noncomputable def laws_FnExactCutPlaces_l1_b (rec : Int → (List Int) → (List Int) → (List Int) → (List Int) → (List Int) → Int → Int → Option (shDen laws_FnExactCutPlaces_sh)) (ke0 : Int → (List Int) → (List Int) → (List Int) → (List Int) → (List Int) → Int → Option (shDen laws_FnExactCutPlaces_sh)) (a0 : (Int × (Int × (Int × Unit)))) (a1 : (List Int)) (w0_6 : Int) (z460 : (List Int)) (z320 : (List Int)) (z270 : (List Int)) (z230 : (List Int)) (z220 : (List Int)) (x1 : Int) (x5 : Int) : Option (shDen laws_FnExactCutPlaces_sh) :=
 (cond (decide (x5 < (z320.length : Int)))
 (cond ((decide ((0 : Int) ≤ x5)) && (decide (x5 < (z320.length : Int))))
 (rec w0_6 z460 (z320.set (x5.toNat) x1) z270 z230 z220 (IntKind.wrap .i64 (x1 + (1 : Int))) (IntKind.wrap .i64 (x5 + (1 : Int))))
 none)
 (ke0 w0_6 z460 z320 z270 z230 z220 x1))
noncomputable def laws_FnExactCutPlaces_l1_L (ke0 : Int → (List Int) → (List Int) → (List Int) → (List Int) → (List Int) → Int → Option (shDen laws_FnExactCutPlaces_sh)) (a0 : (Int × (Int × (Int × Unit)))) (a1 : (List Int)) : Nat → Int → (List Int) → (List Int) → (List Int) → (List Int) → (List Int) → Int → Int → Option (shDen laws_FnExactCutPlaces_sh)
 | 0 => fun _ _ _ _ _ _ _ _ => none
 | n + 1 => laws_FnExactCutPlaces_l1_b (laws_FnExactCutPlaces_l1_L ke0 a0 a1 n) ke0 a0 a1
noncomputable def laws_FnExactCutPlaces_l0_b (rec : Int → Int → (List Int) → (List Int) → (List Int) → (List Int) → (List Int) → Int → Int → Option (shDen laws_FnExactCutPlaces_sh)) (ke0 : Int → Int → (List Int) → (List Int) → (List Int) → (List Int) → (List Int) → Int → Option (shDen laws_FnExactCutPlaces_sh)) (a0 : (Int × (Int × (Int × Unit)))) (a1 : (List Int)) (w0_6 : Int) (w0_9 : Int) (z460 : (List Int)) (z320 : (List Int)) (z270 : (List Int)) (z230 : (List Int)) (z220 : (List Int)) (x1 : Int) (x5 : Int) : Option (shDen laws_FnExactCutPlaces_sh) :=
 (cond (decide (x5 < (z270.length : Int)))
 (cond ((decide ((0 : Int) ≤ x5)) && (decide (x5 < (z270.length : Int))))
 (rec w0_6 w0_9 z460 z320 (z270.set (x5.toNat) (IntKind.wrap .u8 x1)) z230 z220 (IntKind.wrap .i64 (x1 + (1 : Int))) (IntKind.wrap .i64 (x5 + (1 : Int))))
 none)
 (ke0 w0_6 w0_9 z460 z320 z270 z230 z220 x1))
noncomputable def laws_FnExactCutPlaces_l0_L (ke0 : Int → Int → (List Int) → (List Int) → (List Int) → (List Int) → (List Int) → Int → Option (shDen laws_FnExactCutPlaces_sh)) (a0 : (Int × (Int × (Int × Unit)))) (a1 : (List Int)) : Nat → Int → Int → (List Int) → (List Int) → (List Int) → (List Int) → (List Int) → Int → Int → Option (shDen laws_FnExactCutPlaces_sh)
 | 0 => fun _ _ _ _ _ _ _ _ _ => none
 | n + 1 => laws_FnExactCutPlaces_l0_b (laws_FnExactCutPlaces_l0_L ke0 a0 a1 n) ke0 a0 a1
noncomputable def laws_FnExactCutPlaces_r (a0 : (Int × (Int × (Int × Unit)))) (a1 : (List Int)) : Option (shDen laws_FnExactCutPlaces_sh) :=
 (cond (decide ((1048576 : Int) < (a1.length : Int)))
 (some true)
 (bindO (laws_toCutRule_r a0) fun (b1 : (Int × (Int × (Int × Unit)))) => (bindO (laws_toByteS_r a1) fun (b2 : (List Int)) => (bindO (spec_CutPlaces_r b1 b2) fun (b3 : ((List Int) × Int)) => (bindO (laws_toByteS_r a1) fun (b4 : (List Int)) => (bindO (laws_toCutRule_r a0) fun (b5 : (Int × (Int × (Int × Unit)))) => (bindO (impl_CutPlaces_r b5 b4) fun (b6 : ((List Int) × Int)) => (bindO (laws_eqInt64S_r b6.1 b3.1) fun (b7 : Bool) => (cond (!b7)
 (some false)
 (cond (!(decide (b6.2 = b3.2)))
 (some false)
 (bindO (laws_toByteS_r a1) fun (b8 : (List Int)) => (bindO (laws_eqByteS_r b4 b8) fun (b9 : Bool) => (cond (!b9)
 (some false)
 (laws_FnExactCutPlaces_l0_L (fun w0_6 w0_9 z460 z320 z270 z230 z220 x1 => (cond (decide (x1 < (0 : Int)))
 (some false)
 (bindO (laws_eqInt64S_r z320 z230) fun (b10 : Bool) => (cond (!b10)
 (some false)
 (cond (!(decide (w0_9 = w0_6)))
 (some false)
 (laws_FnExactCutPlaces_l1_L (fun w0_6 z460 z320 z270 z230 z220 x1 => (bindO (laws_heldInt64S_r z320 (1 : Int)) fun (b11 : Int) => (cond (decide (b11 < (0 : Int)))
 (some false)
 (cond (!(decide (b11 = x1)))
 (some false)
 (bindO (laws_toCutRule_r a0) fun (b12 : (Int × (Int × (Int × Unit)))) => (bindO (laws_toByteS_r a1) fun (b13 : (List Int)) => (bindO (impl_CutPlaces_r b12 b13) fun (b14 : ((List Int) × Int)) => (bindO (laws_eqInt64S_r b14.1 z230) fun (b15 : Bool) => (cond (!b15)
 (some false)
 (cond (!(decide (b14.2 = w0_6)))
 (some false)
 (bindO (laws_heldInt64S_r z320 (1 : Int)) fun (b16 : Int) => (cond (decide (b16 < (0 : Int)))
 (some false)
 (cond (!(decide (b16 = x1)))
 (some false)
 (some true)))))))))))))) a0 a1 FUEL w0_6 z460 z320 z270 z230 z220 (1 : Int) (0 : Int))))))) a0 a1 FUEL b3.2 b6.2 b8 b6.1 b4 b3.1 b2 (1 : Int) (0 : Int)))))))))))))))
theorem laws_FnExactCutPlaces_l1_round (k : Nat) (K : Ex → St → Option (shDen laws_FnExactCutPlaces_sh)) (n : Nat) (a0 : (Int × (Int × (Int × Unit)))) (a1 : (List Int)) (w0_6 : Int) (z460 : (List Int)) (z320 : (List Int)) (z270 : (List Int)) (z230 : (List Int)) (z220 : (List Int)) (x1 : Int) (x5 : Int) : (loopK (laws_FnExactCutPlaces_cx k) 1 (execK (laws_FnExactCutPlaces_cx k) (callK (laws_FnExactCutPlaces_cx k) 7) 1 36 (sub laws_markInt64S_c [1, 0, 1, 0, 0])) laws_FnExactCutPlaces_l1_cut K (n + 1) (laws_FnExactCutPlaces_l1_s a0 a1 w0_6 z460 z320 z270 z230 z220 x1 x5) : Option (shDen laws_FnExactCutPlaces_sh)) =
 ((cond (decide (x5 < (z320.length : Int)))
 (cond ((decide ((0 : Int) ≤ x5)) && (decide (x5 < (z320.length : Int))))
 (loopK (laws_FnExactCutPlaces_cx k) 1 (execK (laws_FnExactCutPlaces_cx k) (callK (laws_FnExactCutPlaces_cx k) 7) 1 36 (sub laws_markInt64S_c [1, 0, 1, 0, 0])) laws_FnExactCutPlaces_l1_cut K n (laws_FnExactCutPlaces_l1_s a0 a1 w0_6 z460 (z320.set (x5.toNat) x1) z270 z230 z220 (IntKind.wrap .i64 (x1 + (1 : Int))) (IntKind.wrap .i64 (x5 + (1 : Int)))))
 none)
 (K (.exit 0) (laws_FnExactCutPlaces_l1_o0 a0 a1 w0_6 z460 z320 z270 z230 z220 x1))) : Option (shDen laws_FnExactCutPlaces_sh)) := by kernel_rfl

theorem laws_FnExactCutPlaces_l1_exit0 (k : Nat)  (a0 : (Int × (Int × (Int × Unit)))) (a1 : (List Int)) (w0_6 : Int) (z460 : (List Int)) (z320 : (List Int)) (z270 : (List Int)) (z230 : (List Int)) (z220 : (List Int)) (x1 : Int) : ((blkK 0 (seqK (execK (laws_FnExactCutPlaces_cx k) (callK (laws_FnExactCutPlaces_cx k) 7) 1 36 (sub laws_markInt64S_c [1, 1])) (retK (laws_FnExactCutPlaces_cx k) laws_markInt64S_i (some 67) 0 (opsRest (laws_FnExactCutPlaces_cx k) (callK (laws_FnExactCutPlaces_cx k) 8) 0 7 false (regOps (sub laws_FnExactCutPlaces_c [1, 1, 1, 1, 1, 1, 1, 1, 1, 1, 1, 0])) 2 (seqK (execK (laws_FnExactCutPlaces_cx k) (callK (laws_FnExactCutPlaces_cx k) 8) 0 7 (sub laws_FnExactCutPlaces_c [1, 1, 1, 1, 1, 1, 1, 1, 1, 1, 1, 1])) (finK (laws_FnExactCutPlaces_cx k) laws_FnExactCutPlaces_i laws_FnExactCutPlaces_sh)))))) (.exit 0) (laws_FnExactCutPlaces_l1_o0 a0 a1 w0_6 z460 z320 z270 z230 z220 x1) : Option (shDen laws_FnExactCutPlaces_sh)) =
 ((bindO (laws_heldInt64S_r z320 (1 : Int)) fun (b11 : Int) => (cond (decide (b11 < (0 : Int)))
 (some false)
 (cond (!(decide (b11 = x1)))
 (some false)
 (bindO (laws_toCutRule_r a0) fun (b12 : (Int × (Int × (Int × Unit)))) => (bindO (laws_toByteS_r a1) fun (b13 : (List Int)) => (bindO (impl_CutPlaces_r b12 b13) fun (b14 : ((List Int) × Int)) => (bindO (laws_eqInt64S_r b14.1 z230) fun (b15 : Bool) => (cond (!b15)
 (some false)
 (cond (!(decide (b14.2 = w0_6)))
 (some false)
 (bindO (laws_heldInt64S_r z320 (1 : Int)) fun (b16 : Int) => (cond (decide (b16 < (0 : Int)))
 (some false)
 (cond (!(decide (b16 = x1)))
 (some false)
 (some true))))))))))))) : Option (shDen laws_FnExactCutPlaces_sh)) := by kernel_rfl

theorem laws_FnExactCutPlaces_l1_congr (ke0 : Int → (List Int) → (List Int) → (List Int) → (List Int) → (List Int) → Int → Option (shDen laws_FnExactCutPlaces_sh)) (ke0' : Int → (List Int) → (List Int) → (List Int) → (List Int) → (List Int) → Int → Option (shDen laws_FnExactCutPlaces_sh)) (a0 : (Int × (Int × (Int × Unit)))) (a1 : (List Int)) (n : Nat) (w0_6 : Int) (z460 : (List Int)) (z320 : (List Int)) (z270 : (List Int)) (z230 : (List Int)) (z220 : (List Int)) (x1 : Int) (x5 : Int) (hke0 : ∀ w0_6 z460 z320 z270 z230 z220 x1, ke0 w0_6 z460 z320 z270 z230 z220 x1 = ke0' w0_6 z460 z320 z270 z230 z220 x1) : laws_FnExactCutPlaces_l1_L ke0 a0 a1 n w0_6 z460 z320 z270 z230 z220 x1 x5 = laws_FnExactCutPlaces_l1_L ke0' a0 a1 n w0_6 z460 z320 z270 z230 z220 x1 x5 := by
 have : ke0 = ke0' := (by funext w0_6 z460 z320 z270 z230 z220 x1; exact hke0 w0_6 z460 z320 z270 z230 z220 x1); subst this; rfl

theorem laws_FnExactCutPlaces_l1_L_eq (K : Ex → St → Option (shDen laws_FnExactCutPlaces_sh)) (a0 : (Int × (Int × (Int × Unit)))) (a1 : (List Int)) : ∀ (n : Nat) (w0_6 : Int) (z460 : (List Int)) (z320 : (List Int)) (z270 : (List Int)) (z230 : (List Int)) (z220 : (List Int)) (x1 : Int) (x5 : Int), (loopK (laws_FnExactCutPlaces_cx FUEL) 1 (execK (laws_FnExactCutPlaces_cx FUEL) (callK (laws_FnExactCutPlaces_cx FUEL) 7) 1 36 (sub laws_markInt64S_c [1, 0, 1, 0, 0])) laws_FnExactCutPlaces_l1_cut K n (laws_FnExactCutPlaces_l1_s a0 a1 w0_6 z460 z320 z270 z230 z220 x1 x5) : Option (shDen laws_FnExactCutPlaces_sh)) = laws_FnExactCutPlaces_l1_L (fun w0_6 z460 z320 z270 z230 z220 x1 => K (.exit 0) (laws_FnExactCutPlaces_l1_o0 a0 a1 w0_6 z460 z320 z270 z230 z220 x1)) a0 a1 n w0_6 z460 z320 z270 z230 z220 x1 x5 := by
 intro n
 induction n with
 | zero => intros; rfl
 | succ n ih =>
  intro w0_6 z460 z320 z270 z230 z220 x1 x5
  exact (laws_FnExactCutPlaces_l1_round FUEL K n a0 a1 w0_6 z460 z320 z270 z230 z220 x1 x5).trans (condC (condC (ih w0_6 z460 (z320.set (x5.toNat) x1) z270 z230 z220 (IntKind.wrap .i64 (x1 + (1 : Int))) (IntKind.wrap .i64 (x5 + (1 : Int)))) (rfl)) (rfl))

theorem laws_FnExactCutPlaces_l0_round (k : Nat) (K : Ex → St → Option (shDen laws_FnExactCutPlaces_sh)) (n : Nat) (a0 : (Int × (Int × (Int × Unit)))) (a1 : (List Int)) (w0_6 : Int) (w0_9 : Int) (z460 : (List Int)) (z320 : (List Int)) (z270 : (List Int)) (z230 : (List Int)) (z220 : (List Int)) (x1 : Int) (x5 : Int) : (loopK (laws_FnExactCutPlaces_cx k) 1 (execK (laws_FnExactCutPlaces_cx k) (callK (laws_FnExactCutPlaces_cx k) 7) 1 26 (sub laws_markByteS_c [1, 0, 1, 0, 0])) laws_FnExactCutPlaces_l0_cut K (n + 1) (laws_FnExactCutPlaces_l0_s a0 a1 w0_6 w0_9 z460 z320 z270 z230 z220 x1 x5) : Option (shDen laws_FnExactCutPlaces_sh)) =
 ((cond (decide (x5 < (z270.length : Int)))
 (cond ((decide ((0 : Int) ≤ x5)) && (decide (x5 < (z270.length : Int))))
 (loopK (laws_FnExactCutPlaces_cx k) 1 (execK (laws_FnExactCutPlaces_cx k) (callK (laws_FnExactCutPlaces_cx k) 7) 1 26 (sub laws_markByteS_c [1, 0, 1, 0, 0])) laws_FnExactCutPlaces_l0_cut K n (laws_FnExactCutPlaces_l0_s a0 a1 w0_6 w0_9 z460 z320 (z270.set (x5.toNat) (IntKind.wrap .u8 x1)) z230 z220 (IntKind.wrap .i64 (x1 + (1 : Int))) (IntKind.wrap .i64 (x5 + (1 : Int)))))
 none)
 (K (.exit 0) (laws_FnExactCutPlaces_l0_o0 a0 a1 w0_6 w0_9 z460 z320 z270 z230 z220 x1))) : Option (shDen laws_FnExactCutPlaces_sh)) := by kernel_rfl

theorem laws_FnExactCutPlaces_l0_exit0 (k : Nat)  (a0 : (Int × (Int × (Int × Unit)))) (a1 : (List Int)) (w0_6 : Int) (w0_9 : Int) (z460 : (List Int)) (z320 : (List Int)) (z270 : (List Int)) (z230 : (List Int)) (z220 : (List Int)) (x1 : Int) : ((blkK 0 (seqK (execK (laws_FnExactCutPlaces_cx k) (callK (laws_FnExactCutPlaces_cx k) 7) 1 26 (sub laws_markByteS_c [1, 1])) (retK (laws_FnExactCutPlaces_cx k) laws_markByteS_i (some 51) 0 (opsRest (laws_FnExactCutPlaces_cx k) (callK (laws_FnExactCutPlaces_cx k) 8) 0 7 false (regOps (sub laws_FnExactCutPlaces_c [1, 1, 1, 1, 1, 1, 1, 1, 0])) 2 (seqK (execK (laws_FnExactCutPlaces_cx k) (callK (laws_FnExactCutPlaces_cx k) 8) 0 7 (sub laws_FnExactCutPlaces_c [1, 1, 1, 1, 1, 1, 1, 1, 1])) (finK (laws_FnExactCutPlaces_cx k) laws_FnExactCutPlaces_i laws_FnExactCutPlaces_sh)))))) (.exit 0) (laws_FnExactCutPlaces_l0_o0 a0 a1 w0_6 w0_9 z460 z320 z270 z230 z220 x1) : Option (shDen laws_FnExactCutPlaces_sh)) =
 ((cond (decide (x1 < (0 : Int)))
 (some false)
 (bindO (laws_eqInt64S_r z320 z230) fun (b10 : Bool) => (cond (!b10)
 (some false)
 (cond (!(decide (w0_9 = w0_6)))
 (some false)
 (loopK (laws_FnExactCutPlaces_cx k) 1 (execK (laws_FnExactCutPlaces_cx k) (callK (laws_FnExactCutPlaces_cx k) 7) 1 36 (sub laws_markInt64S_c [1, 0, 1, 0, 0])) laws_FnExactCutPlaces_l1_cut (blkK 0 (seqK (execK (laws_FnExactCutPlaces_cx k) (callK (laws_FnExactCutPlaces_cx k) 7) 1 36 (sub laws_markInt64S_c [1, 1])) (retK (laws_FnExactCutPlaces_cx k) laws_markInt64S_i (some 67) 0 (opsRest (laws_FnExactCutPlaces_cx k) (callK (laws_FnExactCutPlaces_cx k) 8) 0 7 false (regOps (sub laws_FnExactCutPlaces_c [1, 1, 1, 1, 1, 1, 1, 1, 1, 1, 1, 0])) 2 (seqK (execK (laws_FnExactCutPlaces_cx k) (callK (laws_FnExactCutPlaces_cx k) 8) 0 7 (sub laws_FnExactCutPlaces_c [1, 1, 1, 1, 1, 1, 1, 1, 1, 1, 1, 1])) (finK (laws_FnExactCutPlaces_cx k) laws_FnExactCutPlaces_i laws_FnExactCutPlaces_sh)))))) k (laws_FnExactCutPlaces_l1_s a0 a1 w0_6 z460 z320 z270 z230 z220 (1 : Int) (0 : Int))))))) : Option (shDen laws_FnExactCutPlaces_sh)) := by kernel_rfl

theorem laws_FnExactCutPlaces_l0_congr (ke0 : Int → Int → (List Int) → (List Int) → (List Int) → (List Int) → (List Int) → Int → Option (shDen laws_FnExactCutPlaces_sh)) (ke0' : Int → Int → (List Int) → (List Int) → (List Int) → (List Int) → (List Int) → Int → Option (shDen laws_FnExactCutPlaces_sh)) (a0 : (Int × (Int × (Int × Unit)))) (a1 : (List Int)) (n : Nat) (w0_6 : Int) (w0_9 : Int) (z460 : (List Int)) (z320 : (List Int)) (z270 : (List Int)) (z230 : (List Int)) (z220 : (List Int)) (x1 : Int) (x5 : Int) (hke0 : ∀ w0_6 w0_9 z460 z320 z270 z230 z220 x1, ke0 w0_6 w0_9 z460 z320 z270 z230 z220 x1 = ke0' w0_6 w0_9 z460 z320 z270 z230 z220 x1) : laws_FnExactCutPlaces_l0_L ke0 a0 a1 n w0_6 w0_9 z460 z320 z270 z230 z220 x1 x5 = laws_FnExactCutPlaces_l0_L ke0' a0 a1 n w0_6 w0_9 z460 z320 z270 z230 z220 x1 x5 := by
 have : ke0 = ke0' := (by funext w0_6 w0_9 z460 z320 z270 z230 z220 x1; exact hke0 w0_6 w0_9 z460 z320 z270 z230 z220 x1); subst this; rfl

theorem laws_FnExactCutPlaces_l0_L_eq (K : Ex → St → Option (shDen laws_FnExactCutPlaces_sh)) (a0 : (Int × (Int × (Int × Unit)))) (a1 : (List Int)) : ∀ (n : Nat) (w0_6 : Int) (w0_9 : Int) (z460 : (List Int)) (z320 : (List Int)) (z270 : (List Int)) (z230 : (List Int)) (z220 : (List Int)) (x1 : Int) (x5 : Int), (loopK (laws_FnExactCutPlaces_cx FUEL) 1 (execK (laws_FnExactCutPlaces_cx FUEL) (callK (laws_FnExactCutPlaces_cx FUEL) 7) 1 26 (sub laws_markByteS_c [1, 0, 1, 0, 0])) laws_FnExactCutPlaces_l0_cut K n (laws_FnExactCutPlaces_l0_s a0 a1 w0_6 w0_9 z460 z320 z270 z230 z220 x1 x5) : Option (shDen laws_FnExactCutPlaces_sh)) = laws_FnExactCutPlaces_l0_L (fun w0_6 w0_9 z460 z320 z270 z230 z220 x1 => K (.exit 0) (laws_FnExactCutPlaces_l0_o0 a0 a1 w0_6 w0_9 z460 z320 z270 z230 z220 x1)) a0 a1 n w0_6 w0_9 z460 z320 z270 z230 z220 x1 x5 := by
 intro n
 induction n with
 | zero => intros; rfl
 | succ n ih =>
  intro w0_6 w0_9 z460 z320 z270 z230 z220 x1 x5
  exact (laws_FnExactCutPlaces_l0_round FUEL K n a0 a1 w0_6 w0_9 z460 z320 z270 z230 z220 x1 x5).trans (condC (condC (ih w0_6 w0_9 z460 z320 (z270.set (x5.toNat) (IntKind.wrap .u8 x1)) z230 z220 (IntKind.wrap .i64 (x1 + (1 : Int))) (IntKind.wrap .i64 (x5 + (1 : Int)))) (rfl)) (rfl))

theorem laws_FnExactCutPlaces_start (k : Nat) (a0 : (Int × (Int × (Int × Unit)))) (a1 : (List Int)) : fnK (laws_FnExactCutPlaces_cx k) 8 7 laws_FnExactCutPlaces_i laws_FnExactCutPlaces_sh [.pv (.pair (.int .i64) (.pair (.int .i64) (.pair (.int .i64) .unit))) a0, .pv (.slice (.int .u8)) a1] =
 ((cond (decide ((1048576 : Int) < (a1.length : Int)))
 (some true)
 (bindO (laws_toCutRule_r a0) fun (b1 : (Int × (Int × (Int × Unit)))) => (bindO (laws_toByteS_r a1) fun (b2 : (List Int)) => (bindO (spec_CutPlaces_r b1 b2) fun (b3 : ((List Int) × Int)) => (bindO (laws_toByteS_r a1) fun (b4 : (List Int)) => (bindO (laws_toCutRule_r a0) fun (b5 : (Int × (Int × (Int × Unit)))) => (bindO (impl_CutPlaces_r b5 b4) fun (b6 : ((List Int) × Int)) => (bindO (laws_eqInt64S_r b6.1 b3.1) fun (b7 : Bool) => (cond (!b7)
 (some false)
 (cond (!(decide (b6.2 = b3.2)))
 (some false)
 (bindO (laws_toByteS_r a1) fun (b8 : (List Int)) => (bindO (laws_eqByteS_r b4 b8) fun (b9 : Bool) => (cond (!b9)
 (some false)
 (loopK (laws_FnExactCutPlaces_cx k) 1 (execK (laws_FnExactCutPlaces_cx k) (callK (laws_FnExactCutPlaces_cx k) 7) 1 26 (sub laws_markByteS_c [1, 0, 1, 0, 0])) laws_FnExactCutPlaces_l0_cut (blkK 0 (seqK (execK (laws_FnExactCutPlaces_cx k) (callK (laws_FnExactCutPlaces_cx k) 7) 1 26 (sub laws_markByteS_c [1, 1])) (retK (laws_FnExactCutPlaces_cx k) laws_markByteS_i (some 51) 0 (opsRest (laws_FnExactCutPlaces_cx k) (callK (laws_FnExactCutPlaces_cx k) 8) 0 7 false (regOps (sub laws_FnExactCutPlaces_c [1, 1, 1, 1, 1, 1, 1, 1, 0])) 2 (seqK (execK (laws_FnExactCutPlaces_cx k) (callK (laws_FnExactCutPlaces_cx k) 8) 0 7 (sub laws_FnExactCutPlaces_c [1, 1, 1, 1, 1, 1, 1, 1, 1])) (finK (laws_FnExactCutPlaces_cx k) laws_FnExactCutPlaces_i laws_FnExactCutPlaces_sh)))))) k (laws_FnExactCutPlaces_l0_s a0 a1 b3.2 b6.2 b8 b6.1 b4 b3.1 b2 (1 : Int) (0 : Int)))))))))))))))) : Option (shDen laws_FnExactCutPlaces_sh)) := by kernel_rfl

theorem laws_FnExactCutPlaces_run (a0 : (Int × (Int × (Int × Unit)))) (a1 : (List Int)) : fnK (laws_FnExactCutPlaces_cx FUEL) 8 7 laws_FnExactCutPlaces_i laws_FnExactCutPlaces_sh [.pv (.pair (.int .i64) (.pair (.int .i64) (.pair (.int .i64) .unit))) a0, .pv (.slice (.int .u8)) a1] = laws_FnExactCutPlaces_r a0 a1 :=
 (laws_FnExactCutPlaces_start FUEL a0 a1).trans (condC (rfl) (bindC (fun b1 => bindC (fun b2 => bindC (fun b3 => bindC (fun b4 => bindC (fun b5 => bindC (fun b6 => bindC (fun b7 => condC (rfl) (condC (rfl) (bindC (fun b8 => bindC (fun b9 => condC (rfl) ((laws_FnExactCutPlaces_l0_L_eq _ a0 a1 FUEL b3.2 b6.2 b8 b6.1 b4 b3.1 b2 (1 : Int) (0 : Int)).trans (laws_FnExactCutPlaces_l0_congr _ _ a0 a1 FUEL b3.2 b6.2 b8 b6.1 b4 b3.1 b2 (1 : Int) (0 : Int) (fun w0_6 w0_9 z460 z320 z270 z230 z220 x1 => (laws_FnExactCutPlaces_l0_exit0 FUEL  a0 a1 w0_6 w0_9 z460 z320 z270 z230 z220 x1).trans (condC (rfl) (bindC (fun b10 => condC (rfl) (condC (rfl) ((laws_FnExactCutPlaces_l1_L_eq _ a0 a1 FUEL w0_6 z460 z320 z270 z230 z220 (1 : Int) (0 : Int)).trans (laws_FnExactCutPlaces_l1_congr _ _ a0 a1 FUEL w0_6 z460 z320 z270 z230 z220 (1 : Int) (0 : Int) (fun w0_6 z460 z320 z270 z230 z220 x1 => (laws_FnExactCutPlaces_l1_exit0 FUEL  a0 a1 w0_6 z460 z320 z270 z230 z220 x1).trans (rfl))))))))))))))))))))))))

noncomputable def laws_FnExactCutPlaces_con : Con := { ps := (.pair (.pair (.int .i64) (.pair (.int .i64) (.pair (.int .i64) .unit))) (.pair (.slice (.int .u8)) .unit)), sh := laws_FnExactCutPlaces_sh, raw := fun x => laws_FnExactCutPlaces_r x.1 x.2.1 }
theorem laws_FnExactCutPlaces_conOk : ConOk Try.prog 7 laws_FnExactCutPlaces_con := con_of_fn (laws_FnExactCutPlaces_tabs FUEL) (depth := 8) laws_FnExactCutPlaces_ok fun x y h => (laws_FnExactCutPlaces_run x.1 x.2.1).trans h

end Go.Ai.G
