/- Made by a program of this work out of the program: tables and plain functions, with the proof that each Go function does what its plain function says. No conditions. -/
import Derived.Test.YtafhfllnkijfhabChunksFn0
namespace Go.Ai.G
open Go.Proofs
open Go.Ai
set_option linter.unusedVariables false
set_option linter.unusedSimpArgs false
set_option maxRecDepth 100000

noncomputable def spec_l01Mix_l0_cut : Cut := { keep := [2, 3, 4, 5, 6], stk := [], ids := [20, 30, 40, 50], own := [], outs := [(1, [2, 4, 5], [20, 40, 50])] }
noncomputable def spec_l01Mix_l1_cut : Cut := { keep := [2, 3, 4, 5, 6, 7], stk := [], ids := [20, 30, 40, 50], own := [], outs := [(3, [2, 3, 4, 5, 6], [20, 30, 40, 50])] }
noncomputable def spec_l01Mix_l2_cut : Cut := { keep := [2, 4, 5, 8, 9], stk := [], ids := [20, 40, 50, 80], own := [], outs := [(5, [2, 4, 8], [20, 40, 80])] }
noncomputable def spec_l01Mix_l3_cut : Cut := { keep := [2, 4, 5, 8, 9, 10], stk := [], ids := [20, 40, 50, 80], own := [], outs := [(7, [2, 4, 5, 8, 9], [20, 40, 50, 80])] }
noncomputable def spec_l01Mix_l4_cut : Cut := { keep := [2, 4, 8, 13], stk := [], ids := [20, 40, 80], own := [], outs := [(9, [4, 8], [40, 80])] }
noncomputable def spec_l01Mix_inls : List (Nat × Inl) := []
noncomputable def spec_l01Mix_cons : List (Nat × Con) := [(135, spec_l01Turn_con)]
noncomputable def spec_l01Mix_taks : List (Nat × ConT) := []
noncomputable def spec_l01Mix_inps : List (Nat × ConI) := []
noncomputable def spec_l01Mix_cuts : List (Nat × List (Nat × Cut)) := [(122, [(0, spec_l01Mix_l0_cut), (2, spec_l01Mix_l1_cut), (4, spec_l01Mix_l2_cut), (6, spec_l01Mix_l3_cut), (8, spec_l01Mix_l4_cut)])]
noncomputable def spec_l01Mix_cx (k : Nat) : Cx := mkCx tys tbytes telem nozero (Ai.look spec_l01Mix_inls) (Ai.look spec_l01Mix_cons) (Ai.look spec_l01Mix_taks) (Ai.look spec_l01Mix_inps) (fun f id => match Ai.look spec_l01Mix_cuts f with | some l => Ai.look l id | none => none) k []
theorem spec_l01Mix_tabs (k : Nat) : TabsOk Try.prog (spec_l01Mix_cx k) := ⟨tab_mk tabs_ok _ _ _ _ _ _ _, look_all (Q := ConOk Try.prog) _ ⟨spec_l01Turn_conOk, trivial⟩, look_all (Q := TakOk Try.prog) _ trivial, look_all (Q := InpOk Try.prog) _ trivial, look_all (Q := InlOk Try.prog) _ trivial, mixed_ok⟩
abbrev spec_l01Mix_sh : List Sh := [.pl (.arr 8 (.int .u32))]
noncomputable def spec_l01Mix_l0_s (a0 : (List Int)) (a1 : (List Int)) (x6 : Int) (y50 : (List Int)) : St := { env := [.dead, .dead, .ptr 20 (.arr 8 (.int .u32)) [], .ptr 30 (.arr 32 (.int .u8)) [], .ptr 40 (.arr 8 (.int .u32)) [], .ptr 50 (.arr 8 (.int .u32)) [], .pv (.int .i64) x6, .dead, .dead, .dead, .dead, .dead, .dead, .dead, .dead, .dead, .dead, .dead, .dead, .dead, .dead, .dead, .dead, .dead, .dead, .dead, .dead, .dead, .dead, .dead, .dead, .dead, .dead, .dead, .dead, .dead, .dead, .dead, .dead, .dead, .dead, .dead, .dead, .dead, .dead, .dead, .dead, .dead, .dead, .dead, .dead, .dead, .dead, .dead, .dead, .dead, .dead, .dead, .dead, .dead, .dead, .dead, .dead, .dead, .dead, .dead, .dead, .dead, .dead, .dead, .dead, .dead, .dead, .dead, .dead, .dead, .dead, .dead, .dead, .dead, .dead, .dead, .dead, .dead, .dead, .dead, .dead, .dead, .dead, .dead, .dead, .dead, .dead, .dead, .dead, .dead], stk := [], heap := [(20, .var (.arr 8 (.int .u32)) (.pv (.arr 8 (.int .u32)) a0)), (30, .var (.arr 32 (.int .u8)) (.pv (.arr 32 (.int .u8)) a1)), (40, .var (.arr 8 (.int .u32)) (.pv (.arr 8 (.int .u32)) (List.replicate 8 (0 : Int)))), (50, .var (.arr 8 (.int .u32)) (.pv (.arr 8 (.int .u32)) y50))] }
noncomputable def spec_l01Mix_l0_o0 (a0 : (List Int)) (y50 : (List Int)) : St := { env := [.dead, .dead, .ptr 20 (.arr 8 (.int .u32)) [], .dead, .ptr 40 (.arr 8 (.int .u32)) [], .ptr 50 (.arr 8 (.int .u32)) [], .dead, .dead, .dead, .dead, .dead, .dead, .dead, .dead, .dead, .dead, .dead, .dead, .dead, .dead, .dead, .dead, .dead, .dead, .dead, .dead, .dead, .dead, .dead, .dead, .dead, .dead, .dead, .dead, .dead, .dead, .dead, .dead, .dead, .dead, .dead, .dead, .dead, .dead, .dead, .dead, .dead, .dead, .dead, .dead, .dead, .dead, .dead, .dead, .dead, .dead, .dead, .dead, .dead, .dead, .dead, .dead, .dead, .dead, .dead, .dead, .dead, .dead, .dead, .dead, .dead, .dead, .dead, .dead, .dead, .dead, .dead, .dead, .dead, .dead, .dead, .dead, .dead, .dead, .dead, .dead, .dead, .dead, .dead, .dead, .dead, .dead, .dead, .dead, .dead, .dead], stk := [], heap := [(20, .var (.arr 8 (.int .u32)) (.pv (.arr 8 (.int .u32)) a0)), (40, .var (.arr 8 (.int .u32)) (.pv (.arr 8 (.int .u32)) (List.replicate 8 (0 : Int)))), (50, .var (.arr 8 (.int .u32)) (.pv (.arr 8 (.int .u32)) y50))] }
noncomputable def spec_l01Mix_l1_s (a0 : (List Int)) (a1 : (List Int)) (x6 : Int) (x7 : Int) (y50 : (List Int)) : St := { env := [.dead, .dead, .ptr 20 (.arr 8 (.int .u32)) [], .ptr 30 (.arr 32 (.int .u8)) [], .ptr 40 (.arr 8 (.int .u32)) [], .ptr 50 (.arr 8 (.int .u32)) [], .pv (.int .i64) x6, .pv (.int .i64) x7, .dead, .dead, .dead, .dead, .dead, .dead, .dead, .dead, .dead, .dead, .dead, .dead, .dead, .dead, .dead, .dead, .dead, .dead, .dead, .dead, .dead, .dead, .dead, .dead, .dead, .dead, .dead, .dead, .dead, .dead, .dead, .dead, .dead, .dead, .dead, .dead, .dead, .dead, .dead, .dead, .dead, .dead, .dead, .dead, .dead, .dead, .dead, .dead, .dead, .dead, .dead, .dead, .dead, .dead, .dead, .dead, .dead, .dead, .dead, .dead, .dead, .dead, .dead, .dead, .dead, .dead, .dead, .dead, .dead, .dead, .dead, .dead, .dead, .dead, .dead, .dead, .dead, .dead, .dead, .dead, .dead, .dead, .dead, .dead, .dead, .dead, .dead, .dead], stk := [], heap := [(20, .var (.arr 8 (.int .u32)) (.pv (.arr 8 (.int .u32)) a0)), (30, .var (.arr 32 (.int .u8)) (.pv (.arr 32 (.int .u8)) a1)), (40, .var (.arr 8 (.int .u32)) (.pv (.arr 8 (.int .u32)) (List.replicate 8 (0 : Int)))), (50, .var (.arr 8 (.int .u32)) (.pv (.arr 8 (.int .u32)) y50))] }
noncomputable def spec_l01Mix_l1_o2 (a0 : (List Int)) (a1 : (List Int)) (x6 : Int) (y50 : (List Int)) : St := { env := [.dead, .dead, .ptr 20 (.arr 8 (.int .u32)) [], .ptr 30 (.arr 32 (.int .u8)) [], .ptr 40 (.arr 8 (.int .u32)) [], .ptr 50 (.arr 8 (.int .u32)) [], .pv (.int .i64) x6, .dead, .dead, .dead, .dead, .dead, .dead, .dead, .dead, .dead, .dead, .dead, .dead, .dead, .dead, .dead, .dead, .dead, .dead, .dead, .dead, .dead, .dead, .dead, .dead, .dead, .dead, .dead, .dead, .dead, .dead, .dead, .dead, .dead, .dead, .dead, .dead, .dead, .dead, .dead, .dead, .dead, .dead, .dead, .dead, .dead, .dead, .dead, .dead, .dead, .dead, .dead, .dead, .dead, .dead, .dead, .dead, .dead, .dead, .dead, .dead, .dead, .dead, .dead, .dead, .dead, .dead, .dead, .dead, .dead, .dead, .dead, .dead, .dead, .dead, .dead, .dead, .dead, .dead, .dead, .dead, .dead, .dead, .dead, .dead, .dead, .dead, .dead, .dead, .dead], stk := [], heap := [(20, .var (.arr 8 (.int .u32)) (.pv (.arr 8 (.int .u32)) a0)), (30, .var (.arr 32 (.int .u8)) (.pv (.arr 32 (.int .u8)) a1)), (40, .var (.arr 8 (.int .u32)) (.pv (.arr 8 (.int .u32)) (List.replicate 8 (0 : Int)))), (50, .var (.arr 8 (.int .u32)) (.pv (.arr 8 (.int .u32)) y50))] }
noncomputable def spec_l01Mix_l2_s (a0 : (List Int)) (y50 : (List Int)) (x9 : Int) (y80 : (List Int)) : St := { env := [.dead, .dead, .ptr 20 (.arr 8 (.int .u32)) [], .dead, .ptr 40 (.arr 8 (.int .u32)) [], .ptr 50 (.arr 8 (.int .u32)) [], .dead, .dead, .ptr 80 (.arr 8 (.int .u32)) [], .pv (.int .i64) x9, .dead, .dead, .dead, .dead, .dead, .dead, .dead, .dead, .dead, .dead, .dead, .dead, .dead, .dead, .dead, .dead, .dead, .dead, .dead, .dead, .dead, .dead, .dead, .dead, .dead, .dead, .dead, .dead, .dead, .dead, .dead, .dead, .dead, .dead, .dead, .dead, .dead, .dead, .dead, .dead, .dead, .dead, .dead, .dead, .dead, .dead, .dead, .dead, .dead, .dead, .dead, .dead, .dead, .dead, .dead, .dead, .dead, .dead, .dead, .dead, .dead, .dead, .dead, .dead, .dead, .dead, .dead, .dead, .dead, .dead, .dead, .dead, .dead, .dead, .dead, .dead, .dead, .dead, .dead, .dead, .dead, .dead, .dead, .dead, .dead, .dead], stk := [], heap := [(20, .var (.arr 8 (.int .u32)) (.pv (.arr 8 (.int .u32)) a0)), (40, .var (.arr 8 (.int .u32)) (.pv (.arr 8 (.int .u32)) (List.replicate 8 (0 : Int)))), (50, .var (.arr 8 (.int .u32)) (.pv (.arr 8 (.int .u32)) y50)), (80, .var (.arr 8 (.int .u32)) (.pv (.arr 8 (.int .u32)) y80))] }
noncomputable def spec_l01Mix_l2_o4 (a0 : (List Int)) (y80 : (List Int)) : St := { env := [.dead, .dead, .ptr 20 (.arr 8 (.int .u32)) [], .dead, .ptr 40 (.arr 8 (.int .u32)) [], .dead, .dead, .dead, .ptr 80 (.arr 8 (.int .u32)) [], .dead, .dead, .dead, .dead, .dead, .dead, .dead, .dead, .dead, .dead, .dead, .dead, .dead, .dead, .dead, .dead, .dead, .dead, .dead, .dead, .dead, .dead, .dead, .dead, .dead, .dead, .dead, .dead, .dead, .dead, .dead, .dead, .dead, .dead, .dead, .dead, .dead, .dead, .dead, .dead, .dead, .dead, .dead, .dead, .dead, .dead, .dead, .dead, .dead, .dead, .dead, .dead, .dead, .dead, .dead, .dead, .dead, .dead, .dead, .dead, .dead, .dead, .dead, .dead, .dead, .dead, .dead, .dead, .dead, .dead, .dead, .dead, .dead, .dead, .dead, .dead, .dead, .dead, .dead, .dead, .dead, .dead, .dead, .dead, .dead, .dead, .dead], stk := [], heap := [(20, .var (.arr 8 (.int .u32)) (.pv (.arr 8 (.int .u32)) a0)), (40, .var (.arr 8 (.int .u32)) (.pv (.arr 8 (.int .u32)) (List.replicate 8 (0 : Int)))), (80, .var (.arr 8 (.int .u32)) (.pv (.arr 8 (.int .u32)) y80))] }
noncomputable def spec_l01Mix_l3_s (a0 : (List Int)) (y50 : (List Int)) (x9 : Int) (x10 : Int) (y80 : (List Int)) : St := { env := [.dead, .dead, .ptr 20 (.arr 8 (.int .u32)) [], .dead, .ptr 40 (.arr 8 (.int .u32)) [], .ptr 50 (.arr 8 (.int .u32)) [], .dead, .dead, .ptr 80 (.arr 8 (.int .u32)) [], .pv (.int .i64) x9, .pv (.int .i64) x10, .dead, .dead, .dead, .dead, .dead, .dead, .dead, .dead, .dead, .dead, .dead, .dead, .dead, .dead, .dead, .dead, .dead, .dead, .dead, .dead, .dead, .dead, .dead, .dead, .dead, .dead, .dead, .dead, .dead, .dead, .dead, .dead, .dead, .dead, .dead, .dead, .dead, .dead, .dead, .dead, .dead, .dead, .dead, .dead, .dead, .dead, .dead, .dead, .dead, .dead, .dead, .dead, .dead, .dead, .dead, .dead, .dead, .dead, .dead, .dead, .dead, .dead, .dead, .dead, .dead, .dead, .dead, .dead, .dead, .dead, .dead, .dead, .dead, .dead, .dead, .dead, .dead, .dead, .dead, .dead, .dead, .dead, .dead, .dead, .dead], stk := [], heap := [(20, .var (.arr 8 (.int .u32)) (.pv (.arr 8 (.int .u32)) a0)), (40, .var (.arr 8 (.int .u32)) (.pv (.arr 8 (.int .u32)) (List.replicate 8 (0 : Int)))), (50, .var (.arr 8 (.int .u32)) (.pv (.arr 8 (.int .u32)) y50)), (80, .var (.arr 8 (.int .u32)) (.pv (.arr 8 (.int .u32)) y80))] }
noncomputable def spec_l01Mix_l3_o6 (a0 : (List Int)) (y50 : (List Int)) (x9 : Int) (y80 : (List Int)) : St := { env := [.dead, .dead, .ptr 20 (.arr 8 (.int .u32)) [], .dead, .ptr 40 (.arr 8 (.int .u32)) [], .ptr 50 (.arr 8 (.int .u32)) [], .dead, .dead, .ptr 80 (.arr 8 (.int .u32)) [], .pv (.int .i64) x9, .dead, .dead, .dead, .dead, .dead, .dead, .dead, .dead, .dead, .dead, .dead, .dead, .dead, .dead, .dead, .dead, .dead, .dead, .dead, .dead, .dead, .dead, .dead, .dead, .dead, .dead, .dead, .dead, .dead, .dead, .dead, .dead, .dead, .dead, .dead, .dead, .dead, .dead, .dead, .dead, .dead, .dead, .dead, .dead, .dead, .dead, .dead, .dead, .dead, .dead, .dead, .dead, .dead, .dead, .dead, .dead, .dead, .dead, .dead, .dead, .dead, .dead, .dead, .dead, .dead, .dead, .dead, .dead, .dead, .dead, .dead, .dead, .dead, .dead, .dead, .dead, .dead, .dead, .dead, .dead, .dead, .dead, .dead, .dead, .dead, .dead], stk := [], heap := [(20, .var (.arr 8 (.int .u32)) (.pv (.arr 8 (.int .u32)) a0)), (40, .var (.arr 8 (.int .u32)) (.pv (.arr 8 (.int .u32)) (List.replicate 8 (0 : Int)))), (50, .var (.arr 8 (.int .u32)) (.pv (.arr 8 (.int .u32)) y50)), (80, .var (.arr 8 (.int .u32)) (.pv (.arr 8 (.int .u32)) y80))] }
noncomputable def spec_l01Mix_l4_s (a0 : (List Int)) (y80 : (List Int)) (x13 : Int) : St := { env := [.dead, .dead, .ptr 20 (.arr 8 (.int .u32)) [], .dead, .ptr 40 (.arr 8 (.int .u32)) [], .dead, .dead, .dead, .ptr 80 (.arr 8 (.int .u32)) [], .dead, .dead, .dead, .dead, .pv (.int .i64) x13, .dead, .dead, .dead, .dead, .dead, .dead, .dead, .dead, .dead, .dead, .dead, .dead, .dead, .dead, .dead, .dead, .dead, .dead, .dead, .dead, .dead, .dead, .dead, .dead, .dead, .dead, .dead, .dead, .dead, .dead, .dead, .dead, .dead, .dead, .dead, .dead, .dead, .dead, .dead, .dead, .dead, .dead, .dead, .dead, .dead, .dead, .dead, .dead, .dead, .dead, .dead, .dead, .dead, .dead, .dead, .dead, .dead, .dead, .dead, .dead, .dead, .dead, .dead, .dead, .dead, .dead, .dead, .dead, .dead, .dead, .dead, .dead, .dead, .dead, .dead, .dead, .dead, .dead, .dead, .dead, .dead, .dead], stk := [], heap := [(20, .var (.arr 8 (.int .u32)) (.pv (.arr 8 (.int .u32)) a0)), (40, .var (.arr 8 (.int .u32)) (.pv (.arr 8 (.int .u32)) (List.replicate 8 (0 : Int)))), (80, .var (.arr 8 (.int .u32)) (.pv (.arr 8 (.int .u32)) y80))] }
noncomputable def spec_l01Mix_l4_o8 (y80 : (List Int)) : St := { env := [.dead, .dead, .dead, .dead, .ptr 40 (.arr 8 (.int .u32)) [], .dead, .dead, .dead, .ptr 80 (.arr 8 (.int .u32)) [], .dead, .dead, .dead, .dead, .dead, .dead, .dead, .dead, .dead, .dead, .dead, .dead, .dead, .dead, .dead, .dead, .dead, .dead, .dead, .dead, .dead, .dead, .dead, .dead, .dead, .dead, .dead, .dead, .dead, .dead, .dead, .dead, .dead, .dead, .dead, .dead, .dead, .dead, .dead, .dead, .dead, .dead, .dead, .dead, .dead, .dead, .dead, .dead, .dead, .dead, .dead, .dead, .dead, .dead, .dead, .dead, .dead, .dead, .dead, .dead, .dead, .dead, .dead, .dead, .dead, .dead, .dead, .dead, .dead, .dead, .dead, .dead, .dead, .dead, .dead, .dead, .dead, .dead, .dead, .dead, .dead, .dead, .dead, .dead, .dead, .dead, .dead], stk := [], heap := [(40, .var (.arr 8 (.int .u32)) (.pv (.arr 8 (.int .u32)) (List.replicate 8 (0 : Int)))), (80, .var (.arr 8 (.int .u32)) (.pv (.arr 8 (.int .u32)) y80))] }
noncomputable def spec_l01Mix_l4_b (rec : (List Int) → Int → Option (shDen spec_l01Mix_sh)) (ke8 : (List Int) → Option (shDen spec_l01Mix_sh)) (a0 : (List Int)) (y80 : (List Int)) (x13 : Int) : Option (shDen spec_l01Mix_sh) :=
 (cond (decide (x13 < (8 : Int)))
 (cond ((decide ((0 : Int) ≤ x13)) && (decide (x13 < (8 : Int))))
 (cond ((decide ((0 : Int) ≤ x13)) && (decide (x13 < (8 : Int))))
 (cond ((decide ((0 : Int) ≤ x13)) && (decide (x13 < (8 : Int))))
 (rec (y80.set (x13.toNat) (bitI .xor .u32 (y80.getD (x13.toNat) (0 : Int)) (a0.getD (x13.toNat) (0 : Int)))) (IntKind.wrap .i64 (x13 + (1 : Int))))
 none)
 none)
 none)
 (ke8 y80))
noncomputable def spec_l01Mix_l4_L (ke8 : (List Int) → Option (shDen spec_l01Mix_sh)) (a0 : (List Int)) : Nat → (List Int) → Int → Option (shDen spec_l01Mix_sh)
 | 0 => fun _ _ => none
 | n + 1 => spec_l01Mix_l4_b (spec_l01Mix_l4_L ke8 a0 n) ke8 a0
noncomputable def spec_l01Mix_l3_b (rec : Int → (List Int) → Option (shDen spec_l01Mix_sh)) (ke6 : (List Int) → Option (shDen spec_l01Mix_sh)) (a0 : (List Int)) (y50 : (List Int)) (x9 : Int) (x10 : Int) (y80 : (List Int)) : Option (shDen spec_l01Mix_sh) :=
 (cond (decide (x10 < (8 : Int)))
 (cond ((decide ((0 : Int) ≤ x10)) && (decide (x10 < (8 : Int))))
 (cond ((decide ((0 : Int) ≤ (Int.tmod (IntKind.wrap .i64 (x10 + (IntKind.wrap .i64 ((3 : Int) * x9)))) (8 : Int)))) && (decide ((Int.tmod (IntKind.wrap .i64 (x10 + (IntKind.wrap .i64 ((3 : Int) * x9)))) (8 : Int)) < (8 : Int))))
 (bindO (spec_l01Turn_r (IntKind.wrap .u32 ((IntKind.wrap .u32 ((y80.getD (x10.toNat) (0 : Int)) + (y50.getD ((Int.tmod (IntKind.wrap .i64 (x10 + (IntKind.wrap .i64 ((3 : Int) * x9)))) (8 : Int)).toNat) (0 : Int)))) + (IntKind.wrap .u32 ((2654435769 : Int) * (IntKind.wrap .u32 (IntKind.wrap .i64 ((IntKind.wrap .i64 ((IntKind.wrap .i64 ((8 : Int) * x9)) + x10)) + (1 : Int)))))))) (7 : Int)) fun (b7 : Int) => (cond ((decide ((0 : Int) ≤ (Int.tmod (IntKind.wrap .i64 (x10 + (1 : Int))) (8 : Int)))) && (decide ((Int.tmod (IntKind.wrap .i64 (x10 + (1 : Int))) (8 : Int)) < (8 : Int))))
 (cond ((decide ((0 : Int) ≤ (Int.tmod (IntKind.wrap .i64 (x10 + (5 : Int))) (8 : Int)))) && (decide ((Int.tmod (IntKind.wrap .i64 (x10 + (5 : Int))) (8 : Int)) < (8 : Int))))
 (bindO (spec_l01Turn_r (y80.getD ((Int.tmod (IntKind.wrap .i64 (x10 + (5 : Int))) (8 : Int)).toNat) (0 : Int)) (13 : Int)) fun (b8 : Int) => (cond ((decide ((0 : Int) ≤ x10)) && (decide (x10 < (8 : Int))))
 (rec (IntKind.wrap .i64 (x10 + (1 : Int))) (y80.set (x10.toNat) (IntKind.wrap .u32 ((bitI .xor .u32 b7 (y80.getD ((Int.tmod (IntKind.wrap .i64 (x10 + (1 : Int))) (8 : Int)).toNat) (0 : Int))) + b8))))
 none))
 none)
 none))
 none)
 none)
 (ke6 y80))
noncomputable def spec_l01Mix_l3_L (ke6 : (List Int) → Option (shDen spec_l01Mix_sh)) (a0 : (List Int)) (y50 : (List Int)) (x9 : Int) : Nat → Int → (List Int) → Option (shDen spec_l01Mix_sh)
 | 0 => fun _ _ => none
 | n + 1 => spec_l01Mix_l3_b (spec_l01Mix_l3_L ke6 a0 y50 x9 n) ke6 a0 y50 x9
noncomputable def spec_l01Mix_l2_b (rec : (List Int) → Int → (List Int) → Option (shDen spec_l01Mix_sh)) (ke4 : (List Int) → Option (shDen spec_l01Mix_sh)) (a0 : (List Int)) (y50 : (List Int)) (x9 : Int) (y80 : (List Int)) : Option (shDen spec_l01Mix_sh) :=
 (cond (decide (x9 < (12 : Int)))
 (spec_l01Mix_l3_L (fun y80 => (rec y50 (IntKind.wrap .i64 (x9 + (1 : Int))) y80)) a0 y50 x9 FUEL (0 : Int) y80)
 (ke4 y80))
noncomputable def spec_l01Mix_l2_L (ke4 : (List Int) → Option (shDen spec_l01Mix_sh)) (a0 : (List Int)) : Nat → (List Int) → Int → (List Int) → Option (shDen spec_l01Mix_sh)
 | 0 => fun _ _ _ => none
 | n + 1 => spec_l01Mix_l2_b (spec_l01Mix_l2_L ke4 a0 n) ke4 a0
noncomputable def spec_l01Mix_l1_b (rec : Int → (List Int) → Option (shDen spec_l01Mix_sh)) (ke2 : (List Int) → Option (shDen spec_l01Mix_sh)) (a0 : (List Int)) (a1 : (List Int)) (x6 : Int) (x7 : Int) (y50 : (List Int)) : Option (shDen spec_l01Mix_sh) :=
 (cond (decide ((0 : Int) ≤ x7))
 (cond ((decide ((0 : Int) ≤ x6)) && (decide (x6 < (8 : Int))))
 (cond ((decide ((0 : Int) ≤ (IntKind.wrap .i64 ((IntKind.wrap .i64 ((4 : Int) * x6)) + x7)))) && (decide ((IntKind.wrap .i64 ((IntKind.wrap .i64 ((4 : Int) * x6)) + x7)) < (32 : Int))))
 (cond ((decide ((0 : Int) ≤ x6)) && (decide (x6 < (8 : Int))))
 (rec (IntKind.wrap .i64 (x7 - (1 : Int))) (y50.set (x6.toNat) (bitI .or .u32 (shlI .u32 (y50.getD (x6.toNat) (0 : Int)) (8 : Int)) (IntKind.wrap .u32 (a1.getD ((IntKind.wrap .i64 ((IntKind.wrap .i64 ((4 : Int) * x6)) + x7)).toNat) (0 : Int))))))
 none)
 none)
 none)
 (ke2 y50))
noncomputable def spec_l01Mix_l1_L (ke2 : (List Int) → Option (shDen spec_l01Mix_sh)) (a0 : (List Int)) (a1 : (List Int)) (x6 : Int) : Nat → Int → (List Int) → Option (shDen spec_l01Mix_sh)
 | 0 => fun _ _ => none
 | n + 1 => spec_l01Mix_l1_b (spec_l01Mix_l1_L ke2 a0 a1 x6 n) ke2 a0 a1 x6
noncomputable def spec_l01Mix_l0_b (rec : Int → (List Int) → Option (shDen spec_l01Mix_sh)) (ke0 : (List Int) → Option (shDen spec_l01Mix_sh)) (a0 : (List Int)) (a1 : (List Int)) (x6 : Int) (y50 : (List Int)) : Option (shDen spec_l01Mix_sh) :=
 (cond (decide (x6 < (8 : Int)))
 (spec_l01Mix_l1_L (fun y50 => (rec (IntKind.wrap .i64 (x6 + (1 : Int))) y50)) a0 a1 x6 FUEL (3 : Int) y50)
 (ke0 y50))
noncomputable def spec_l01Mix_l0_L (ke0 : (List Int) → Option (shDen spec_l01Mix_sh)) (a0 : (List Int)) (a1 : (List Int)) : Nat → Int → (List Int) → Option (shDen spec_l01Mix_sh)
 | 0 => fun _ _ => none
 | n + 1 => spec_l01Mix_l0_b (spec_l01Mix_l0_L ke0 a0 a1 n) ke0 a0 a1
noncomputable def spec_l01Mix_r (a0 : (List Int)) (a1 : (List Int)) : Option (shDen spec_l01Mix_sh) :=
 (spec_l01Mix_l0_L (fun y50 => (spec_l01Mix_l2_L (fun y80 => (spec_l01Mix_l4_L (fun y80 => (some y80)) a0 FUEL y80 (0 : Int))) a0 FUEL y50 (0 : Int) a0)) a0 a1 FUEL (0 : Int) (List.replicate 8 (0 : Int)))
theorem spec_l01Mix_l4_round (k : Nat) (K : Ex → St → Option (shDen spec_l01Mix_sh)) (n : Nat) (a0 : (List Int)) (y80 : (List Int)) (x13 : Int) : (loopK (spec_l01Mix_cx k) 0 (execK (spec_l01Mix_cx k) (callK (spec_l01Mix_cx k) 8) 0 122 (sub spec_l01Mix_c [1, 1, 1, 1, 1, 0, 1, 0, 0])) spec_l01Mix_l4_cut K (n + 1) (spec_l01Mix_l4_s a0 y80 x13) : Option (shDen spec_l01Mix_sh)) =
 ((cond (decide (x13 < (8 : Int)))
 (cond ((decide ((0 : Int) ≤ x13)) && (decide (x13 < (8 : Int))))
 (cond ((decide ((0 : Int) ≤ x13)) && (decide (x13 < (8 : Int))))
 (cond ((decide ((0 : Int) ≤ x13)) && (decide (x13 < (8 : Int))))
 (loopK (spec_l01Mix_cx k) 0 (execK (spec_l01Mix_cx k) (callK (spec_l01Mix_cx k) 8) 0 122 (sub spec_l01Mix_c [1, 1, 1, 1, 1, 0, 1, 0, 0])) spec_l01Mix_l4_cut K n (spec_l01Mix_l4_s a0 (y80.set (x13.toNat) (bitI .xor .u32 (y80.getD (x13.toNat) (0 : Int)) (a0.getD (x13.toNat) (0 : Int)))) (IntKind.wrap .i64 (x13 + (1 : Int)))))
 none)
 none)
 none)
 (K (.exit 8) (spec_l01Mix_l4_o8 y80))) : Option (shDen spec_l01Mix_sh)) := by kernel_rfl

theorem spec_l01Mix_l4_exit8 (k : Nat)  (y80 : (List Int)) : ((blkK 8 (seqK (execK (spec_l01Mix_cx k) (callK (spec_l01Mix_cx k) 8) 0 122 (sub spec_l01Mix_c [1, 1, 1, 1, 1, 1])) (finK (spec_l01Mix_cx k) spec_l01Mix_i spec_l01Mix_sh))) (.exit 8) (spec_l01Mix_l4_o8 y80) : Option (shDen spec_l01Mix_sh)) =
 ((some y80) : Option (shDen spec_l01Mix_sh)) := by kernel_rfl

theorem spec_l01Mix_l4_congr (ke8 : (List Int) → Option (shDen spec_l01Mix_sh)) (ke8' : (List Int) → Option (shDen spec_l01Mix_sh)) (a0 : (List Int)) (n : Nat) (y80 : (List Int)) (x13 : Int) (hke8 : ∀ y80, ke8 y80 = ke8' y80) : spec_l01Mix_l4_L ke8 a0 n y80 x13 = spec_l01Mix_l4_L ke8' a0 n y80 x13 := by
 have : ke8 = ke8' := (by funext y80; exact hke8 y80); subst this; rfl

theorem spec_l01Mix_l4_L_eq (K : Ex → St → Option (shDen spec_l01Mix_sh)) (a0 : (List Int)) : ∀ (n : Nat) (y80 : (List Int)) (x13 : Int), (loopK (spec_l01Mix_cx FUEL) 0 (execK (spec_l01Mix_cx FUEL) (callK (spec_l01Mix_cx FUEL) 8) 0 122 (sub spec_l01Mix_c [1, 1, 1, 1, 1, 0, 1, 0, 0])) spec_l01Mix_l4_cut K n (spec_l01Mix_l4_s a0 y80 x13) : Option (shDen spec_l01Mix_sh)) = spec_l01Mix_l4_L (fun y80 => K (.exit 8) (spec_l01Mix_l4_o8 y80)) a0 n y80 x13 := by
 intro n
 induction n with
 | zero => intros; rfl
 | succ n ih =>
  intro y80 x13
  exact (spec_l01Mix_l4_round FUEL K n a0 y80 x13).trans (condC (condC (condC (condC (ih (y80.set (x13.toNat) (bitI .xor .u32 (y80.getD (x13.toNat) (0 : Int)) (a0.getD (x13.toNat) (0 : Int)))) (IntKind.wrap .i64 (x13 + (1 : Int)))) (rfl)) (rfl)) (rfl)) (rfl))

theorem spec_l01Mix_l3_round (k : Nat) (K : Ex → St → Option (shDen spec_l01Mix_sh)) (n : Nat) (a0 : (List Int)) (y50 : (List Int)) (x9 : Int) (x10 : Int) (y80 : (List Int)) : (loopK (spec_l01Mix_cx k) 0 (execK (spec_l01Mix_cx k) (callK (spec_l01Mix_cx k) 8) 0 122 (sub spec_l01Mix_c [1, 1, 1, 1, 0, 1, 0, 0, 1, 0, 0, 1, 0, 0])) spec_l01Mix_l3_cut K (n + 1) (spec_l01Mix_l3_s a0 y50 x9 x10 y80) : Option (shDen spec_l01Mix_sh)) =
 ((cond (decide (x10 < (8 : Int)))
 (cond ((decide ((0 : Int) ≤ x10)) && (decide (x10 < (8 : Int))))
 (cond ((decide ((0 : Int) ≤ (Int.tmod (IntKind.wrap .i64 (x10 + (IntKind.wrap .i64 ((3 : Int) * x9)))) (8 : Int)))) && (decide ((Int.tmod (IntKind.wrap .i64 (x10 + (IntKind.wrap .i64 ((3 : Int) * x9)))) (8 : Int)) < (8 : Int))))
 (bindO (spec_l01Turn_r (IntKind.wrap .u32 ((IntKind.wrap .u32 ((y80.getD (x10.toNat) (0 : Int)) + (y50.getD ((Int.tmod (IntKind.wrap .i64 (x10 + (IntKind.wrap .i64 ((3 : Int) * x9)))) (8 : Int)).toNat) (0 : Int)))) + (IntKind.wrap .u32 ((2654435769 : Int) * (IntKind.wrap .u32 (IntKind.wrap .i64 ((IntKind.wrap .i64 ((IntKind.wrap .i64 ((8 : Int) * x9)) + x10)) + (1 : Int)))))))) (7 : Int)) fun (b7 : Int) => (cond ((decide ((0 : Int) ≤ (Int.tmod (IntKind.wrap .i64 (x10 + (1 : Int))) (8 : Int)))) && (decide ((Int.tmod (IntKind.wrap .i64 (x10 + (1 : Int))) (8 : Int)) < (8 : Int))))
 (cond ((decide ((0 : Int) ≤ (Int.tmod (IntKind.wrap .i64 (x10 + (5 : Int))) (8 : Int)))) && (decide ((Int.tmod (IntKind.wrap .i64 (x10 + (5 : Int))) (8 : Int)) < (8 : Int))))
 (bindO (spec_l01Turn_r (y80.getD ((Int.tmod (IntKind.wrap .i64 (x10 + (5 : Int))) (8 : Int)).toNat) (0 : Int)) (13 : Int)) fun (b8 : Int) => (cond ((decide ((0 : Int) ≤ x10)) && (decide (x10 < (8 : Int))))
 (loopK (spec_l01Mix_cx k) 0 (execK (spec_l01Mix_cx k) (callK (spec_l01Mix_cx k) 8) 0 122 (sub spec_l01Mix_c [1, 1, 1, 1, 0, 1, 0, 0, 1, 0, 0, 1, 0, 0])) spec_l01Mix_l3_cut K n (spec_l01Mix_l3_s a0 y50 x9 (IntKind.wrap .i64 (x10 + (1 : Int))) (y80.set (x10.toNat) (IntKind.wrap .u32 ((bitI .xor .u32 b7 (y80.getD ((Int.tmod (IntKind.wrap .i64 (x10 + (1 : Int))) (8 : Int)).toNat) (0 : Int))) + b8)))))
 none))
 none)
 none))
 none)
 none)
 (K (.exit 6) (spec_l01Mix_l3_o6 a0 y50 x9 y80))) : Option (shDen spec_l01Mix_sh)) := by kernel_rfl

theorem spec_l01Mix_l3_exit6 (k : Nat) (K : Ex → St → Option (shDen spec_l01Mix_sh)) (n : Nat) (a0 : (List Int)) (y50 : (List Int)) (x9 : Int) (y80 : (List Int)) : ((blkK 6 (blkK 5 (seqK (execK (spec_l01Mix_cx k) (callK (spec_l01Mix_cx k) 8) 0 122 (sub spec_l01Mix_c [1, 1, 1, 1, 0, 1, 0, 0, 1, 1])) (iterK (spec_l01Mix_cx k) 0 spec_l01Mix_l2_cut (loopK (spec_l01Mix_cx k) 0 (execK (spec_l01Mix_cx k) (callK (spec_l01Mix_cx k) 8) 0 122 (sub spec_l01Mix_c [1, 1, 1, 1, 0, 1, 0, 0])) spec_l01Mix_l2_cut K n) K)))) (.exit 6) (spec_l01Mix_l3_o6 a0 y50 x9 y80) : Option (shDen spec_l01Mix_sh)) =
 ((loopK (spec_l01Mix_cx k) 0 (execK (spec_l01Mix_cx k) (callK (spec_l01Mix_cx k) 8) 0 122 (sub spec_l01Mix_c [1, 1, 1, 1, 0, 1, 0, 0])) spec_l01Mix_l2_cut K n (spec_l01Mix_l2_s a0 y50 (IntKind.wrap .i64 (x9 + (1 : Int))) y80)) : Option (shDen spec_l01Mix_sh)) := by kernel_rfl

theorem spec_l01Mix_l3_congr (ke6 : (List Int) → Option (shDen spec_l01Mix_sh)) (ke6' : (List Int) → Option (shDen spec_l01Mix_sh)) (a0 : (List Int)) (y50 : (List Int)) (x9 : Int) (n : Nat) (x10 : Int) (y80 : (List Int)) (hke6 : ∀ y80, ke6 y80 = ke6' y80) : spec_l01Mix_l3_L ke6 a0 y50 x9 n x10 y80 = spec_l01Mix_l3_L ke6' a0 y50 x9 n x10 y80 := by
 have : ke6 = ke6' := (by funext y80; exact hke6 y80); subst this; rfl

theorem spec_l01Mix_l3_L_eq (K : Ex → St → Option (shDen spec_l01Mix_sh)) (a0 : (List Int)) (y50 : (List Int)) (x9 : Int) : ∀ (n : Nat) (x10 : Int) (y80 : (List Int)), (loopK (spec_l01Mix_cx FUEL) 0 (execK (spec_l01Mix_cx FUEL) (callK (spec_l01Mix_cx FUEL) 8) 0 122 (sub spec_l01Mix_c [1, 1, 1, 1, 0, 1, 0, 0, 1, 0, 0, 1, 0, 0])) spec_l01Mix_l3_cut K n (spec_l01Mix_l3_s a0 y50 x9 x10 y80) : Option (shDen spec_l01Mix_sh)) = spec_l01Mix_l3_L (fun y80 => K (.exit 6) (spec_l01Mix_l3_o6 a0 y50 x9 y80)) a0 y50 x9 n x10 y80 := by
 intro n
 induction n with
 | zero => intros; rfl
 | succ n ih =>
  intro x10 y80
  exact (spec_l01Mix_l3_round FUEL K n a0 y50 x9 x10 y80).trans (condC (condC (condC (bindC (fun b7 => condC (condC (bindC (fun b8 => condC (ih (IntKind.wrap .i64 (x10 + (1 : Int))) (y80.set (x10.toNat) (IntKind.wrap .u32 ((bitI .xor .u32 b7 (y80.getD ((Int.tmod (IntKind.wrap .i64 (x10 + (1 : Int))) (8 : Int)).toNat) (0 : Int))) + b8)))) (rfl))) (rfl)) (rfl))) (rfl)) (rfl)) (rfl))

theorem spec_l01Mix_l2_round (k : Nat) (K : Ex → St → Option (shDen spec_l01Mix_sh)) (n : Nat) (a0 : (List Int)) (y50 : (List Int)) (x9 : Int) (y80 : (List Int)) : (loopK (spec_l01Mix_cx k) 0 (execK (spec_l01Mix_cx k) (callK (spec_l01Mix_cx k) 8) 0 122 (sub spec_l01Mix_c [1, 1, 1, 1, 0, 1, 0, 0])) spec_l01Mix_l2_cut K (n + 1) (spec_l01Mix_l2_s a0 y50 x9 y80) : Option (shDen spec_l01Mix_sh)) =
 ((cond (decide (x9 < (12 : Int)))
 (loopK (spec_l01Mix_cx k) 0 (execK (spec_l01Mix_cx k) (callK (spec_l01Mix_cx k) 8) 0 122 (sub spec_l01Mix_c [1, 1, 1, 1, 0, 1, 0, 0, 1, 0, 0, 1, 0, 0])) spec_l01Mix_l3_cut (blkK 6 (blkK 5 (seqK (execK (spec_l01Mix_cx k) (callK (spec_l01Mix_cx k) 8) 0 122 (sub spec_l01Mix_c [1, 1, 1, 1, 0, 1, 0, 0, 1, 1])) (iterK (spec_l01Mix_cx k) 0 spec_l01Mix_l2_cut (loopK (spec_l01Mix_cx k) 0 (execK (spec_l01Mix_cx k) (callK (spec_l01Mix_cx k) 8) 0 122 (sub spec_l01Mix_c [1, 1, 1, 1, 0, 1, 0, 0])) spec_l01Mix_l2_cut K n) K)))) k (spec_l01Mix_l3_s a0 y50 x9 (0 : Int) y80))
 (K (.exit 4) (spec_l01Mix_l2_o4 a0 y80))) : Option (shDen spec_l01Mix_sh)) := by kernel_rfl

theorem spec_l01Mix_l2_exit4 (k : Nat)  (a0 : (List Int)) (y80 : (List Int)) : ((blkK 4 (seqK (execK (spec_l01Mix_cx k) (callK (spec_l01Mix_cx k) 8) 0 122 (sub spec_l01Mix_c [1, 1, 1, 1, 1])) (finK (spec_l01Mix_cx k) spec_l01Mix_i spec_l01Mix_sh))) (.exit 4) (spec_l01Mix_l2_o4 a0 y80) : Option (shDen spec_l01Mix_sh)) =
 ((loopK (spec_l01Mix_cx k) 0 (execK (spec_l01Mix_cx k) (callK (spec_l01Mix_cx k) 8) 0 122 (sub spec_l01Mix_c [1, 1, 1, 1, 1, 0, 1, 0, 0])) spec_l01Mix_l4_cut (blkK 8 (seqK (execK (spec_l01Mix_cx k) (callK (spec_l01Mix_cx k) 8) 0 122 (sub spec_l01Mix_c [1, 1, 1, 1, 1, 1])) (finK (spec_l01Mix_cx k) spec_l01Mix_i spec_l01Mix_sh))) k (spec_l01Mix_l4_s a0 y80 (0 : Int))) : Option (shDen spec_l01Mix_sh)) := by kernel_rfl

theorem spec_l01Mix_l2_congr (ke4 : (List Int) → Option (shDen spec_l01Mix_sh)) (ke4' : (List Int) → Option (shDen spec_l01Mix_sh)) (a0 : (List Int)) (n : Nat) (y50 : (List Int)) (x9 : Int) (y80 : (List Int)) (hke4 : ∀ y80, ke4 y80 = ke4' y80) : spec_l01Mix_l2_L ke4 a0 n y50 x9 y80 = spec_l01Mix_l2_L ke4' a0 n y50 x9 y80 := by
 have : ke4 = ke4' := (by funext y80; exact hke4 y80); subst this; rfl

theorem spec_l01Mix_l2_L_eq (K : Ex → St → Option (shDen spec_l01Mix_sh)) (a0 : (List Int)) : ∀ (n : Nat) (y50 : (List Int)) (x9 : Int) (y80 : (List Int)), (loopK (spec_l01Mix_cx FUEL) 0 (execK (spec_l01Mix_cx FUEL) (callK (spec_l01Mix_cx FUEL) 8) 0 122 (sub spec_l01Mix_c [1, 1, 1, 1, 0, 1, 0, 0])) spec_l01Mix_l2_cut K n (spec_l01Mix_l2_s a0 y50 x9 y80) : Option (shDen spec_l01Mix_sh)) = spec_l01Mix_l2_L (fun y80 => K (.exit 4) (spec_l01Mix_l2_o4 a0 y80)) a0 n y50 x9 y80 := by
 intro n
 induction n with
 | zero => intros; rfl
 | succ n ih =>
  intro y50 x9 y80
  exact (spec_l01Mix_l2_round FUEL K n a0 y50 x9 y80).trans (condC ((spec_l01Mix_l3_L_eq _ a0 y50 x9 FUEL (0 : Int) y80).trans (spec_l01Mix_l3_congr _ _ a0 y50 x9 FUEL (0 : Int) y80 (fun y80 => (spec_l01Mix_l3_exit6 FUEL K n a0 y50 x9 y80).trans (ih y50 (IntKind.wrap .i64 (x9 + (1 : Int))) y80)))) (rfl))

theorem spec_l01Mix_l1_round (k : Nat) (K : Ex → St → Option (shDen spec_l01Mix_sh)) (n : Nat) (a0 : (List Int)) (a1 : (List Int)) (x6 : Int) (x7 : Int) (y50 : (List Int)) : (loopK (spec_l01Mix_cx k) 0 (execK (spec_l01Mix_cx k) (callK (spec_l01Mix_cx k) 8) 0 122 (sub spec_l01Mix_c [1, 1, 0, 1, 0, 0, 1, 0, 0, 1, 0, 0])) spec_l01Mix_l1_cut K (n + 1) (spec_l01Mix_l1_s a0 a1 x6 x7 y50) : Option (shDen spec_l01Mix_sh)) =
 ((cond (decide ((0 : Int) ≤ x7))
 (cond ((decide ((0 : Int) ≤ x6)) && (decide (x6 < (8 : Int))))
 (cond ((decide ((0 : Int) ≤ (IntKind.wrap .i64 ((IntKind.wrap .i64 ((4 : Int) * x6)) + x7)))) && (decide ((IntKind.wrap .i64 ((IntKind.wrap .i64 ((4 : Int) * x6)) + x7)) < (32 : Int))))
 (cond ((decide ((0 : Int) ≤ x6)) && (decide (x6 < (8 : Int))))
 (loopK (spec_l01Mix_cx k) 0 (execK (spec_l01Mix_cx k) (callK (spec_l01Mix_cx k) 8) 0 122 (sub spec_l01Mix_c [1, 1, 0, 1, 0, 0, 1, 0, 0, 1, 0, 0])) spec_l01Mix_l1_cut K n (spec_l01Mix_l1_s a0 a1 x6 (IntKind.wrap .i64 (x7 - (1 : Int))) (y50.set (x6.toNat) (bitI .or .u32 (shlI .u32 (y50.getD (x6.toNat) (0 : Int)) (8 : Int)) (IntKind.wrap .u32 (a1.getD ((IntKind.wrap .i64 ((IntKind.wrap .i64 ((4 : Int) * x6)) + x7)).toNat) (0 : Int)))))))
 none)
 none)
 none)
 (K (.exit 2) (spec_l01Mix_l1_o2 a0 a1 x6 y50))) : Option (shDen spec_l01Mix_sh)) := by kernel_rfl

theorem spec_l01Mix_l1_exit2 (k : Nat) (K : Ex → St → Option (shDen spec_l01Mix_sh)) (n : Nat) (a0 : (List Int)) (a1 : (List Int)) (x6 : Int) (y50 : (List Int)) : ((blkK 2 (blkK 1 (seqK (execK (spec_l01Mix_cx k) (callK (spec_l01Mix_cx k) 8) 0 122 (sub spec_l01Mix_c [1, 1, 0, 1, 0, 0, 1, 1])) (iterK (spec_l01Mix_cx k) 0 spec_l01Mix_l0_cut (loopK (spec_l01Mix_cx k) 0 (execK (spec_l01Mix_cx k) (callK (spec_l01Mix_cx k) 8) 0 122 (sub spec_l01Mix_c [1, 1, 0, 1, 0, 0])) spec_l01Mix_l0_cut K n) K)))) (.exit 2) (spec_l01Mix_l1_o2 a0 a1 x6 y50) : Option (shDen spec_l01Mix_sh)) =
 ((loopK (spec_l01Mix_cx k) 0 (execK (spec_l01Mix_cx k) (callK (spec_l01Mix_cx k) 8) 0 122 (sub spec_l01Mix_c [1, 1, 0, 1, 0, 0])) spec_l01Mix_l0_cut K n (spec_l01Mix_l0_s a0 a1 (IntKind.wrap .i64 (x6 + (1 : Int))) y50)) : Option (shDen spec_l01Mix_sh)) := by kernel_rfl

theorem spec_l01Mix_l1_congr (ke2 : (List Int) → Option (shDen spec_l01Mix_sh)) (ke2' : (List Int) → Option (shDen spec_l01Mix_sh)) (a0 : (List Int)) (a1 : (List Int)) (x6 : Int) (n : Nat) (x7 : Int) (y50 : (List Int)) (hke2 : ∀ y50, ke2 y50 = ke2' y50) : spec_l01Mix_l1_L ke2 a0 a1 x6 n x7 y50 = spec_l01Mix_l1_L ke2' a0 a1 x6 n x7 y50 := by
 have : ke2 = ke2' := (by funext y50; exact hke2 y50); subst this; rfl

theorem spec_l01Mix_l1_L_eq (K : Ex → St → Option (shDen spec_l01Mix_sh)) (a0 : (List Int)) (a1 : (List Int)) (x6 : Int) : ∀ (n : Nat) (x7 : Int) (y50 : (List Int)), (loopK (spec_l01Mix_cx FUEL) 0 (execK (spec_l01Mix_cx FUEL) (callK (spec_l01Mix_cx FUEL) 8) 0 122 (sub spec_l01Mix_c [1, 1, 0, 1, 0, 0, 1, 0, 0, 1, 0, 0])) spec_l01Mix_l1_cut K n (spec_l01Mix_l1_s a0 a1 x6 x7 y50) : Option (shDen spec_l01Mix_sh)) = spec_l01Mix_l1_L (fun y50 => K (.exit 2) (spec_l01Mix_l1_o2 a0 a1 x6 y50)) a0 a1 x6 n x7 y50 := by
 intro n
 induction n with
 | zero => intros; rfl
 | succ n ih =>
  intro x7 y50
  exact (spec_l01Mix_l1_round FUEL K n a0 a1 x6 x7 y50).trans (condC (condC (condC (condC (ih (IntKind.wrap .i64 (x7 - (1 : Int))) (y50.set (x6.toNat) (bitI .or .u32 (shlI .u32 (y50.getD (x6.toNat) (0 : Int)) (8 : Int)) (IntKind.wrap .u32 (a1.getD ((IntKind.wrap .i64 ((IntKind.wrap .i64 ((4 : Int) * x6)) + x7)).toNat) (0 : Int)))))) (rfl)) (rfl)) (rfl)) (rfl))

theorem spec_l01Mix_l0_round (k : Nat) (K : Ex → St → Option (shDen spec_l01Mix_sh)) (n : Nat) (a0 : (List Int)) (a1 : (List Int)) (x6 : Int) (y50 : (List Int)) : (loopK (spec_l01Mix_cx k) 0 (execK (spec_l01Mix_cx k) (callK (spec_l01Mix_cx k) 8) 0 122 (sub spec_l01Mix_c [1, 1, 0, 1, 0, 0])) spec_l01Mix_l0_cut K (n + 1) (spec_l01Mix_l0_s a0 a1 x6 y50) : Option (shDen spec_l01Mix_sh)) =
 ((cond (decide (x6 < (8 : Int)))
 (loopK (spec_l01Mix_cx k) 0 (execK (spec_l01Mix_cx k) (callK (spec_l01Mix_cx k) 8) 0 122 (sub spec_l01Mix_c [1, 1, 0, 1, 0, 0, 1, 0, 0, 1, 0, 0])) spec_l01Mix_l1_cut (blkK 2 (blkK 1 (seqK (execK (spec_l01Mix_cx k) (callK (spec_l01Mix_cx k) 8) 0 122 (sub spec_l01Mix_c [1, 1, 0, 1, 0, 0, 1, 1])) (iterK (spec_l01Mix_cx k) 0 spec_l01Mix_l0_cut (loopK (spec_l01Mix_cx k) 0 (execK (spec_l01Mix_cx k) (callK (spec_l01Mix_cx k) 8) 0 122 (sub spec_l01Mix_c [1, 1, 0, 1, 0, 0])) spec_l01Mix_l0_cut K n) K)))) k (spec_l01Mix_l1_s a0 a1 x6 (3 : Int) y50))
 (K (.exit 0) (spec_l01Mix_l0_o0 a0 y50))) : Option (shDen spec_l01Mix_sh)) := by kernel_rfl

theorem spec_l01Mix_l0_exit0 (k : Nat)  (a0 : (List Int)) (y50 : (List Int)) : ((blkK 0 (seqK (execK (spec_l01Mix_cx k) (callK (spec_l01Mix_cx k) 8) 0 122 (sub spec_l01Mix_c [1, 1, 1])) (finK (spec_l01Mix_cx k) spec_l01Mix_i spec_l01Mix_sh))) (.exit 0) (spec_l01Mix_l0_o0 a0 y50) : Option (shDen spec_l01Mix_sh)) =
 ((loopK (spec_l01Mix_cx k) 0 (execK (spec_l01Mix_cx k) (callK (spec_l01Mix_cx k) 8) 0 122 (sub spec_l01Mix_c [1, 1, 1, 1, 0, 1, 0, 0])) spec_l01Mix_l2_cut (blkK 4 (seqK (execK (spec_l01Mix_cx k) (callK (spec_l01Mix_cx k) 8) 0 122 (sub spec_l01Mix_c [1, 1, 1, 1, 1])) (finK (spec_l01Mix_cx k) spec_l01Mix_i spec_l01Mix_sh))) k (spec_l01Mix_l2_s a0 y50 (0 : Int) a0)) : Option (shDen spec_l01Mix_sh)) := by kernel_rfl

theorem spec_l01Mix_l0_congr (ke0 : (List Int) → Option (shDen spec_l01Mix_sh)) (ke0' : (List Int) → Option (shDen spec_l01Mix_sh)) (a0 : (List Int)) (a1 : (List Int)) (n : Nat) (x6 : Int) (y50 : (List Int)) (hke0 : ∀ y50, ke0 y50 = ke0' y50) : spec_l01Mix_l0_L ke0 a0 a1 n x6 y50 = spec_l01Mix_l0_L ke0' a0 a1 n x6 y50 := by
 have : ke0 = ke0' := (by funext y50; exact hke0 y50); subst this; rfl

theorem spec_l01Mix_l0_L_eq (K : Ex → St → Option (shDen spec_l01Mix_sh)) (a0 : (List Int)) (a1 : (List Int)) : ∀ (n : Nat) (x6 : Int) (y50 : (List Int)), (loopK (spec_l01Mix_cx FUEL) 0 (execK (spec_l01Mix_cx FUEL) (callK (spec_l01Mix_cx FUEL) 8) 0 122 (sub spec_l01Mix_c [1, 1, 0, 1, 0, 0])) spec_l01Mix_l0_cut K n (spec_l01Mix_l0_s a0 a1 x6 y50) : Option (shDen spec_l01Mix_sh)) = spec_l01Mix_l0_L (fun y50 => K (.exit 0) (spec_l01Mix_l0_o0 a0 y50)) a0 a1 n x6 y50 := by
 intro n
 induction n with
 | zero => intros; rfl
 | succ n ih =>
  intro x6 y50
  exact (spec_l01Mix_l0_round FUEL K n a0 a1 x6 y50).trans (condC ((spec_l01Mix_l1_L_eq _ a0 a1 x6 FUEL (3 : Int) y50).trans (spec_l01Mix_l1_congr _ _ a0 a1 x6 FUEL (3 : Int) y50 (fun y50 => (spec_l01Mix_l1_exit2 FUEL K n a0 a1 x6 y50).trans (ih (IntKind.wrap .i64 (x6 + (1 : Int))) y50)))) (rfl))

theorem spec_l01Mix_start (k : Nat) (a0 : (List Int)) (a1 : (List Int)) : fnK (spec_l01Mix_cx k) 8 122 spec_l01Mix_i spec_l01Mix_sh [.pv (.arr 8 (.int .u32)) a0, .pv (.arr 32 (.int .u8)) a1] =
 ((loopK (spec_l01Mix_cx k) 0 (execK (spec_l01Mix_cx k) (callK (spec_l01Mix_cx k) 8) 0 122 (sub spec_l01Mix_c [1, 1, 0, 1, 0, 0])) spec_l01Mix_l0_cut (blkK 0 (seqK (execK (spec_l01Mix_cx k) (callK (spec_l01Mix_cx k) 8) 0 122 (sub spec_l01Mix_c [1, 1, 1])) (finK (spec_l01Mix_cx k) spec_l01Mix_i spec_l01Mix_sh))) k (spec_l01Mix_l0_s a0 a1 (0 : Int) (List.replicate 8 (0 : Int)))) : Option (shDen spec_l01Mix_sh)) := by kernel_rfl

theorem spec_l01Mix_run (a0 : (List Int)) (a1 : (List Int)) : fnK (spec_l01Mix_cx FUEL) 8 122 spec_l01Mix_i spec_l01Mix_sh [.pv (.arr 8 (.int .u32)) a0, .pv (.arr 32 (.int .u8)) a1] = spec_l01Mix_r a0 a1 :=
 (spec_l01Mix_start FUEL a0 a1).trans ((spec_l01Mix_l0_L_eq _ a0 a1 FUEL (0 : Int) (List.replicate 8 (0 : Int))).trans (spec_l01Mix_l0_congr _ _ a0 a1 FUEL (0 : Int) (List.replicate 8 (0 : Int)) (fun y50 => (spec_l01Mix_l0_exit0 FUEL  a0 y50).trans ((spec_l01Mix_l2_L_eq _ a0 FUEL y50 (0 : Int) a0).trans (spec_l01Mix_l2_congr _ _ a0 FUEL y50 (0 : Int) a0 (fun y80 => (spec_l01Mix_l2_exit4 FUEL  a0 y80).trans ((spec_l01Mix_l4_L_eq _ a0 FUEL y80 (0 : Int)).trans (spec_l01Mix_l4_congr _ _ a0 FUEL y80 (0 : Int) (fun y80 => (spec_l01Mix_l4_exit8 FUEL  y80).trans (rfl))))))))))

noncomputable def spec_l01Mix_con : Con := { ps := (.pair (.arr 8 (.int .u32)) (.pair (.arr 32 (.int .u8)) .unit)), sh := spec_l01Mix_sh, raw := fun x => spec_l01Mix_r x.1 x.2.1 }
theorem spec_l01Mix_conOk : ConOk Try.prog 122 spec_l01Mix_con := con_of_fn (spec_l01Mix_tabs FUEL) (depth := 8) spec_l01Mix_ok fun x y h => (spec_l01Mix_run x.1 x.2.1).trans h

noncomputable def spec_l02Word_inls : List (Nat × Inl) := []
noncomputable def spec_l02Word_cons : List (Nat × Con) := [(98, spec_l01Start_con), (122, spec_l01Mix_con)]
noncomputable def spec_l02Word_taks : List (Nat × ConT) := []
noncomputable def spec_l02Word_inps : List (Nat × ConI) := []
noncomputable def spec_l02Word_cuts : List (Nat × List (Nat × Cut)) := []
noncomputable def spec_l02Word_cx (k : Nat) : Cx := mkCx tys tbytes telem nozero (Ai.look spec_l02Word_inls) (Ai.look spec_l02Word_cons) (Ai.look spec_l02Word_taks) (Ai.look spec_l02Word_inps) (fun f id => match Ai.look spec_l02Word_cuts f with | some l => Ai.look l id | none => none) k []
theorem spec_l02Word_tabs (k : Nat) : TabsOk Try.prog (spec_l02Word_cx k) := ⟨tab_mk tabs_ok _ _ _ _ _ _ _, look_all (Q := ConOk Try.prog) _ ⟨spec_l01Start_conOk, spec_l01Mix_conOk, trivial⟩, look_all (Q := TakOk Try.prog) _ trivial, look_all (Q := InpOk Try.prog) _ trivial, look_all (Q := InlOk Try.prog) _ trivial, mixed_ok⟩
abbrev spec_l02Word_sh : List Sh := [.pl (.int .u32)]
noncomputable def spec_l02Word_r (a0 : Int) : Option (shDen spec_l02Word_sh) :=
 (bindO (spec_l01Start_r (7 : Int)) fun (b1 : (List Int)) => (bindO (spec_l01Mix_r b1 ((List.replicate 32 (0 : Int)).set 0 a0)) fun (b2 : (List Int)) => (some (b2.getD 0 (0 : Int)))))
theorem spec_l02Word_start (k : Nat) (a0 : Int) : fnK (spec_l02Word_cx k) 8 119 spec_l02Word_i spec_l02Word_sh [.pv (.int .u8) a0] =
 ((bindO (spec_l01Start_r (7 : Int)) fun (b1 : (List Int)) => (bindO (spec_l01Mix_r b1 ((List.replicate 32 (0 : Int)).set 0 a0)) fun (b2 : (List Int)) => (some (b2.getD 0 (0 : Int))))) : Option (shDen spec_l02Word_sh)) := by kernel_rfl

theorem spec_l02Word_run (a0 : Int) : fnK (spec_l02Word_cx FUEL) 8 119 spec_l02Word_i spec_l02Word_sh [.pv (.int .u8) a0] = spec_l02Word_r a0 :=
 (spec_l02Word_start FUEL a0).trans (rfl)

noncomputable def spec_l02Word_con : Con := { ps := (.pair (.int .u8) .unit), sh := spec_l02Word_sh, raw := fun x => spec_l02Word_r x.1 }
theorem spec_l02Word_conOk : ConOk Try.prog 119 spec_l02Word_con := con_of_fn (spec_l02Word_tabs FUEL) (depth := 8) spec_l02Word_ok fun x y h => (spec_l02Word_run x.1).trans h

noncomputable def spec_l02Roll_inls : List (Nat × Inl) := []
noncomputable def spec_l02Roll_cons : List (Nat × Con) := [(119, spec_l02Word_con)]
noncomputable def spec_l02Roll_taks : List (Nat × ConT) := []
noncomputable def spec_l02Roll_inps : List (Nat × ConI) := []
noncomputable def spec_l02Roll_cuts : List (Nat × List (Nat × Cut)) := []
noncomputable def spec_l02Roll_cx (k : Nat) : Cx := mkCx tys tbytes telem nozero (Ai.look spec_l02Roll_inls) (Ai.look spec_l02Roll_cons) (Ai.look spec_l02Roll_taks) (Ai.look spec_l02Roll_inps) (fun f id => match Ai.look spec_l02Roll_cuts f with | some l => Ai.look l id | none => none) k []
theorem spec_l02Roll_tabs (k : Nat) : TabsOk Try.prog (spec_l02Roll_cx k) := ⟨tab_mk tabs_ok _ _ _ _ _ _ _, look_all (Q := ConOk Try.prog) _ ⟨spec_l02Word_conOk, trivial⟩, look_all (Q := TakOk Try.prog) _ trivial, look_all (Q := InpOk Try.prog) _ trivial, look_all (Q := InlOk Try.prog) _ trivial, mixed_ok⟩
abbrev spec_l02Roll_sh : List Sh := [.pl (.int .u32)]
noncomputable def spec_l02Roll_r (a0 : Int) (a1 : Int) : Option (shDen spec_l02Roll_sh) :=
 (bindO (spec_l02Word_r a1) fun (b1 : Int) => (some (IntKind.wrap .u32 ((IntKind.wrap .u32 ((2 : Int) * a0)) + b1))))
theorem spec_l02Roll_start (k : Nat) (a0 : Int) (a1 : Int) : fnK (spec_l02Roll_cx k) 8 90 spec_l02Roll_i spec_l02Roll_sh [.pv (.int .u32) a0, .pv (.int .u8) a1] =
 ((bindO (spec_l02Word_r a1) fun (b1 : Int) => (some (IntKind.wrap .u32 ((IntKind.wrap .u32 ((2 : Int) * a0)) + b1)))) : Option (shDen spec_l02Roll_sh)) := by kernel_rfl

theorem spec_l02Roll_run (a0 : Int) (a1 : Int) : fnK (spec_l02Roll_cx FUEL) 8 90 spec_l02Roll_i spec_l02Roll_sh [.pv (.int .u32) a0, .pv (.int .u8) a1] = spec_l02Roll_r a0 a1 :=
 (spec_l02Roll_start FUEL a0 a1).trans (rfl)

noncomputable def spec_l02Roll_con : Con := { ps := (.pair (.int .u32) (.pair (.int .u8) .unit)), sh := spec_l02Roll_sh, raw := fun x => spec_l02Roll_r x.1 x.2.1 }
theorem spec_l02Roll_conOk : ConOk Try.prog 90 spec_l02Roll_con := con_of_fn (spec_l02Roll_tabs FUEL) (depth := 8) spec_l02Roll_ok fun x y h => (spec_l02Roll_run x.1 x.2.1).trans h

noncomputable def spec_RollOf_l0_cut : Cut := { keep := [0, 3, 5], stk := [], ids := [], own := [], outs := [(1, [3], [])] }
noncomputable def spec_RollOf_inls : List (Nat × Inl) := []
noncomputable def spec_RollOf_cons : List (Nat × Con) := [(89, spec_l00Max_con), (90, spec_l02Roll_con)]
noncomputable def spec_RollOf_taks : List (Nat × ConT) := []
noncomputable def spec_RollOf_inps : List (Nat × ConI) := []
noncomputable def spec_RollOf_cuts : List (Nat × List (Nat × Cut)) := [(48, [(0, spec_RollOf_l0_cut)])]
noncomputable def spec_RollOf_cx (k : Nat) : Cx := mkCx tys tbytes telem nozero (Ai.look spec_RollOf_inls) (Ai.look spec_RollOf_cons) (Ai.look spec_RollOf_taks) (Ai.look spec_RollOf_inps) (fun f id => match Ai.look spec_RollOf_cuts f with | some l => Ai.look l id | none => none) k []
theorem spec_RollOf_tabs (k : Nat) : TabsOk Try.prog (spec_RollOf_cx k) := ⟨tab_mk tabs_ok _ _ _ _ _ _ _, look_all (Q := ConOk Try.prog) _ ⟨spec_l00Max_conOk, spec_l02Roll_conOk, trivial⟩, look_all (Q := TakOk Try.prog) _ trivial, look_all (Q := InpOk Try.prog) _ trivial, look_all (Q := InlOk Try.prog) _ trivial, mixed_ok⟩
abbrev spec_RollOf_sh : List Sh := [.pl (.int .u32)]
noncomputable def spec_RollOf_l0_s (a0 : (List Int)) (x5 : Int) (x3 : Int) : St := { env := [.pv (.slice (.int .u8)) a0, .dead, .dead, .pv (.int .u32) x3, .dead, .pv (.int .i64) x5, .dead, .dead, .dead, .dead, .dead, .dead, .dead, .dead, .dead, .dead, .dead, .dead, .dead, .dead, .dead, .dead, .dead, .dead], stk := [], heap := [] }
noncomputable def spec_RollOf_l0_o0 (x3 : Int) : St := { env := [.dead, .dead, .dead, .pv (.int .u32) x3, .dead, .dead, .dead, .dead, .dead, .dead, .dead, .dead, .dead, .dead, .dead, .dead, .dead, .dead, .dead, .dead, .dead, .dead, .dead, .dead], stk := [], heap := [] }
noncomputable def spec_RollOf_l0_b (rec : Int → Int → Option (shDen spec_RollOf_sh)) (ke0 : Int → Option (shDen spec_RollOf_sh)) (a0 : (List Int)) (x5 : Int) (x3 : Int) : Option (shDen spec_RollOf_sh) :=
 (cond (decide (x5 < (a0.length : Int)))
 (cond ((decide ((0 : Int) ≤ x5)) && (decide (x5 < (a0.length : Int))))
 (bindO (spec_l02Roll_r x3 (a0.getD (x5.toNat) (0 : Int))) fun (b3 : Int) => (rec (IntKind.wrap .i64 (x5 + (1 : Int))) b3))
 none)
 (ke0 x3))
noncomputable def spec_RollOf_l0_L (ke0 : Int → Option (shDen spec_RollOf_sh)) (a0 : (List Int)) : Nat → Int → Int → Option (shDen spec_RollOf_sh)
 | 0 => fun _ _ => none
 | n + 1 => spec_RollOf_l0_b (spec_RollOf_l0_L ke0 a0 n) ke0 a0
noncomputable def spec_RollOf_r (a0 : (List Int)) : Option (shDen spec_RollOf_sh) :=
 (bindO (spec_l00Max_r (IntKind.wrap .i64 ((a0.length : Int) - (32 : Int))) (0 : Int)) fun (b1 : Int) => (spec_RollOf_l0_L (fun x3 => (some x3)) a0 FUEL b1 (0 : Int)))
theorem spec_RollOf_l0_round (k : Nat) (K : Ex → St → Option (shDen spec_RollOf_sh)) (n : Nat) (a0 : (List Int)) (x5 : Int) (x3 : Int) : (loopK (spec_RollOf_cx k) 0 (execK (spec_RollOf_cx k) (callK (spec_RollOf_cx k) 8) 0 48 (sub spec_RollOf_c [1, 1, 1, 0, 1, 0, 0])) spec_RollOf_l0_cut K (n + 1) (spec_RollOf_l0_s a0 x5 x3) : Option (shDen spec_RollOf_sh)) =
 ((cond (decide (x5 < (a0.length : Int)))
 (cond ((decide ((0 : Int) ≤ x5)) && (decide (x5 < (a0.length : Int))))
 (bindO (spec_l02Roll_r x3 (a0.getD (x5.toNat) (0 : Int))) fun (b3 : Int) => (loopK (spec_RollOf_cx k) 0 (execK (spec_RollOf_cx k) (callK (spec_RollOf_cx k) 8) 0 48 (sub spec_RollOf_c [1, 1, 1, 0, 1, 0, 0])) spec_RollOf_l0_cut K n (spec_RollOf_l0_s a0 (IntKind.wrap .i64 (x5 + (1 : Int))) b3)))
 none)
 (K (.exit 0) (spec_RollOf_l0_o0 x3))) : Option (shDen spec_RollOf_sh)) := by kernel_rfl

theorem spec_RollOf_l0_exit0 (k : Nat)  (x3 : Int) : ((blkK 0 (seqK (execK (spec_RollOf_cx k) (callK (spec_RollOf_cx k) 8) 0 48 (sub spec_RollOf_c [1, 1, 1, 1])) (finK (spec_RollOf_cx k) spec_RollOf_i spec_RollOf_sh))) (.exit 0) (spec_RollOf_l0_o0 x3) : Option (shDen spec_RollOf_sh)) =
 ((some x3) : Option (shDen spec_RollOf_sh)) := by kernel_rfl

theorem spec_RollOf_l0_congr (ke0 : Int → Option (shDen spec_RollOf_sh)) (ke0' : Int → Option (shDen spec_RollOf_sh)) (a0 : (List Int)) (n : Nat) (x5 : Int) (x3 : Int) (hke0 : ∀ x3, ke0 x3 = ke0' x3) : spec_RollOf_l0_L ke0 a0 n x5 x3 = spec_RollOf_l0_L ke0' a0 n x5 x3 := by
 have : ke0 = ke0' := (by funext x3; exact hke0 x3); subst this; rfl

theorem spec_RollOf_l0_L_eq (K : Ex → St → Option (shDen spec_RollOf_sh)) (a0 : (List Int)) : ∀ (n : Nat) (x5 : Int) (x3 : Int), (loopK (spec_RollOf_cx FUEL) 0 (execK (spec_RollOf_cx FUEL) (callK (spec_RollOf_cx FUEL) 8) 0 48 (sub spec_RollOf_c [1, 1, 1, 0, 1, 0, 0])) spec_RollOf_l0_cut K n (spec_RollOf_l0_s a0 x5 x3) : Option (shDen spec_RollOf_sh)) = spec_RollOf_l0_L (fun x3 => K (.exit 0) (spec_RollOf_l0_o0 x3)) a0 n x5 x3 := by
 intro n
 induction n with
 | zero => intros; rfl
 | succ n ih =>
  intro x5 x3
  exact (spec_RollOf_l0_round FUEL K n a0 x5 x3).trans (condC (condC (bindC (fun b3 => ih (IntKind.wrap .i64 (x5 + (1 : Int))) b3)) (rfl)) (rfl))

theorem spec_RollOf_start (k : Nat) (a0 : (List Int)) : fnK (spec_RollOf_cx k) 8 48 spec_RollOf_i spec_RollOf_sh [.pv (.slice (.int .u8)) a0] =
 ((bindO (spec_l00Max_r (IntKind.wrap .i64 ((a0.length : Int) - (32 : Int))) (0 : Int)) fun (b1 : Int) => (loopK (spec_RollOf_cx k) 0 (execK (spec_RollOf_cx k) (callK (spec_RollOf_cx k) 8) 0 48 (sub spec_RollOf_c [1, 1, 1, 0, 1, 0, 0])) spec_RollOf_l0_cut (blkK 0 (seqK (execK (spec_RollOf_cx k) (callK (spec_RollOf_cx k) 8) 0 48 (sub spec_RollOf_c [1, 1, 1, 1])) (finK (spec_RollOf_cx k) spec_RollOf_i spec_RollOf_sh))) k (spec_RollOf_l0_s a0 b1 (0 : Int)))) : Option (shDen spec_RollOf_sh)) := by kernel_rfl

theorem spec_RollOf_run (a0 : (List Int)) : fnK (spec_RollOf_cx FUEL) 8 48 spec_RollOf_i spec_RollOf_sh [.pv (.slice (.int .u8)) a0] = spec_RollOf_r a0 :=
 (spec_RollOf_start FUEL a0).trans (bindC (fun b1 => (spec_RollOf_l0_L_eq _ a0 FUEL b1 (0 : Int)).trans (spec_RollOf_l0_congr _ _ a0 FUEL b1 (0 : Int) (fun x3 => (spec_RollOf_l0_exit0 FUEL  x3).trans (rfl)))))

noncomputable def spec_RollOf_con : Con := { ps := (.pair (.slice (.int .u8)) .unit), sh := spec_RollOf_sh, raw := fun x => spec_RollOf_r x.1 }
theorem spec_RollOf_conOk : ConOk Try.prog 48 spec_RollOf_con := con_of_fn (spec_RollOf_tabs FUEL) (depth := 8) spec_RollOf_ok fun x y h => (spec_RollOf_run x.1).trans h

noncomputable def impl_ChunkAt_l0_cut : Cut := { keep := [2, 11, 33, 34, 35], stk := [], ids := [170], own := [], outs := [(0, [6, 7, 8], []), (1, [], [])] }
noncomputable def impl_ChunkAt_inls : List (Nat × Inl) := []
noncomputable def impl_ChunkAt_cons : List (Nat × Con) := [(44, impl_CutPlaces_con), (68, impl_size_byte_con), (86, impl_within_con)]
noncomputable def impl_ChunkAt_taks : List (Nat × ConT) := []
noncomputable def impl_ChunkAt_inps : List (Nat × ConI) := []
noncomputable def impl_ChunkAt_cuts : List (Nat × List (Nat × Cut)) := [(49, [(0, impl_ChunkAt_l0_cut)])]
noncomputable def impl_ChunkAt_cx (k : Nat) : Cx := mkCx tys tbytes telem nozero (Ai.look impl_ChunkAt_inls) (Ai.look impl_ChunkAt_cons) (Ai.look impl_ChunkAt_taks) (Ai.look impl_ChunkAt_inps) (fun f id => match Ai.look impl_ChunkAt_cuts f with | some l => Ai.look l id | none => none) k []
theorem impl_ChunkAt_tabs (k : Nat) : TabsOk Try.prog (impl_ChunkAt_cx k) := ⟨tab_mk tabs_ok _ _ _ _ _ _ _, look_all (Q := ConOk Try.prog) _ ⟨impl_CutPlaces_conOk, impl_size_byte_conOk, impl_within_conOk, trivial⟩, look_all (Q := TakOk Try.prog) _ trivial, look_all (Q := InpOk Try.prog) _ trivial, look_all (Q := InlOk Try.prog) _ trivial, mixed_ok⟩
abbrev impl_ChunkAt_sh : List Sh := [.pl (.int .i64), .pl (.int .i64), .pl (.int .i64)]
noncomputable def impl_ChunkAt_l0_s (a2 : Int) (x34 : Int) (z170 : (List Int)) (x11 : Int) (x35 : Int) : St := { env := [.dead, .dead, .pv (.int .i64) a2, .dead, .dead, .dead, .dead, .dead, .dead, .dead, .dead, .pv (.int .i64) x11, .dead, .dead, .dead, .dead, .dead, .dead, .dead, .dead, .dead, .dead, .dead, .dead, .dead, .dead, .dead, .dead, .dead, .dead, .dead, .dead, .dead, .sl 170 (.int .i64), .pv (.int .i64) x34, .pv (.int .i64) x35, .dead, .dead, .dead, .dead, .dead, .dead, .dead, .dead, .dead, .dead, .dead], stk := [], heap := [(170, .arr 2 (.int .i64) z170)] }
noncomputable def impl_ChunkAt_l0_o (x6 : Int) (x7 : Int) : St := { env := [.dead, .dead, .dead, .dead, .dead, .dead, .pv (.int .i64) x6, .pv (.int .i64) x7, .pv (.int .i64) (0 : Int), .dead, .dead, .dead, .dead, .dead, .dead, .dead, .dead, .dead, .dead, .dead, .dead, .dead, .dead, .dead, .dead, .dead, .dead, .dead, .dead, .dead, .dead, .dead, .dead, .dead, .dead, .dead, .dead, .dead, .dead, .dead, .dead, .dead, .dead, .dead, .dead, .dead, .dead], stk := [], heap := [] }
noncomputable def impl_ChunkAt_l0_o0  : St := { env := [.dead, .dead, .dead, .dead, .dead, .dead, .dead, .dead, .dead, .dead, .dead, .dead, .dead, .dead, .dead, .dead, .dead, .dead, .dead, .dead, .dead, .dead, .dead, .dead, .dead, .dead, .dead, .dead, .dead, .dead, .dead, .dead, .dead, .dead, .dead, .dead, .dead, .dead, .dead, .dead, .dead, .dead, .dead, .dead, .dead, .dead, .dead], stk := [], heap := [] }
noncomputable def impl_ChunkAt_l0_b (rec : Int → (List Int) → Int → Int → Option (shDen impl_ChunkAt_sh)) (kr : Int → Int → Option (shDen impl_ChunkAt_sh)) (ke0 : Option (shDen impl_ChunkAt_sh)) (a2 : Int) (x34 : Int) (z170 : (List Int)) (x11 : Int) (x35 : Int) : Option (shDen impl_ChunkAt_sh) :=
 (cond (decide (x35 < x34))
 (cond ((decide ((0 : Int) ≤ x35)) && (decide (x35 < (z170.length : Int))))
 (cond (decide (a2 < (z170.getD (x35.toNat) (0 : Int))))
 (kr x35 x11)
 (rec x34 z170 (z170.getD (x35.toNat) (0 : Int)) (IntKind.wrap .i64 (x35 + (1 : Int)))))
 none)
 (ke0))
noncomputable def impl_ChunkAt_l0_L (kr : Int → Int → Option (shDen impl_ChunkAt_sh)) (ke0 : Option (shDen impl_ChunkAt_sh)) (a2 : Int) : Nat → Int → (List Int) → Int → Int → Option (shDen impl_ChunkAt_sh)
 | 0 => fun _ _ _ _ => none
 | n + 1 => impl_ChunkAt_l0_b (impl_ChunkAt_l0_L kr ke0 a2 n) kr ke0 a2
noncomputable def impl_ChunkAt_r (a0 : (Int × (Int × (Int × Unit)))) (a1 : (List Int)) (a2 : Int) : Option (shDen impl_ChunkAt_sh) :=
 (bindO (impl_CutPlaces_r a0 a1) fun (b1 : ((List Int) × Int)) => (cond (decide (b1.2 = (0 : Int)))
 (bindO (impl_size_byte_r a1) fun (b2 : Int) => (bindO (impl_within_r a2 (0 : Int) (IntKind.wrap .i64 (b2 - (1 : Int)))) fun (b3 : Bool) => (cond (!b3)
 (some ((0 : Int), ((0 : Int), (2 : Int))))
 (cond (!(decide (b1.2 = (0 : Int))))
 (some ((0 : Int), ((0 : Int), b1.2)))
 (impl_ChunkAt_l0_L (fun x6 x7 => (some (x6, (x7, (0 : Int))))) (some ((0 : Int), ((0 : Int), (2 : Int)))) a2 FUEL (b1.1.length : Int) b1.1 (0 : Int) (0 : Int))))))
 (cond (!(decide (b1.2 = (0 : Int))))
 (some ((0 : Int), ((0 : Int), b1.2)))
 (impl_ChunkAt_l0_L (fun x6 x7 => (some (x6, (x7, (0 : Int))))) (some ((0 : Int), ((0 : Int), (2 : Int)))) a2 FUEL (b1.1.length : Int) b1.1 (0 : Int) (0 : Int)))))
theorem impl_ChunkAt_l0_round (k : Nat) (K : Ex → St → Option (shDen impl_ChunkAt_sh)) (n : Nat) (a2 : Int) (x34 : Int) (z170 : (List Int)) (x11 : Int) (x35 : Int) : (loopK (impl_ChunkAt_cx k) 0 (execK (impl_ChunkAt_cx k) (callK (impl_ChunkAt_cx k) 8) 0 49 (sub impl_ChunkAt_c [1, 1, 1, 1, 1, 0, 1, 0, 0])) impl_ChunkAt_l0_cut K (n + 1) (impl_ChunkAt_l0_s a2 x34 z170 x11 x35) : Option (shDen impl_ChunkAt_sh)) =
 ((cond (decide (x35 < x34))
 (cond ((decide ((0 : Int) ≤ x35)) && (decide (x35 < (z170.length : Int))))
 (cond (decide (a2 < (z170.getD (x35.toNat) (0 : Int))))
 (K .ret (impl_ChunkAt_l0_o x35 x11))
 (loopK (impl_ChunkAt_cx k) 0 (execK (impl_ChunkAt_cx k) (callK (impl_ChunkAt_cx k) 8) 0 49 (sub impl_ChunkAt_c [1, 1, 1, 1, 1, 0, 1, 0, 0])) impl_ChunkAt_l0_cut K n (impl_ChunkAt_l0_s a2 x34 z170 (z170.getD (x35.toNat) (0 : Int)) (IntKind.wrap .i64 (x35 + (1 : Int))))))
 none)
 (K (.exit 0) (impl_ChunkAt_l0_o0 ))) : Option (shDen impl_ChunkAt_sh)) := by kernel_rfl

theorem impl_ChunkAt_l0_ret (k : Nat)  (x6 : Int) (x7 : Int) : ((blkK 0 (seqK (execK (impl_ChunkAt_cx k) (callK (impl_ChunkAt_cx k) 8) 0 49 (sub impl_ChunkAt_c [1, 1, 1, 1, 1, 1])) (finK (impl_ChunkAt_cx k) impl_ChunkAt_i impl_ChunkAt_sh))) .ret (impl_ChunkAt_l0_o x6 x7) : Option (shDen impl_ChunkAt_sh)) =
 ((some (x6, (x7, (0 : Int)))) : Option (shDen impl_ChunkAt_sh)) := by kernel_rfl

theorem impl_ChunkAt_l0_exit0 (k : Nat)   : ((blkK 0 (seqK (execK (impl_ChunkAt_cx k) (callK (impl_ChunkAt_cx k) 8) 0 49 (sub impl_ChunkAt_c [1, 1, 1, 1, 1, 1])) (finK (impl_ChunkAt_cx k) impl_ChunkAt_i impl_ChunkAt_sh))) (.exit 0) (impl_ChunkAt_l0_o0) : Option (shDen impl_ChunkAt_sh)) =
 ((some ((0 : Int), ((0 : Int), (2 : Int)))) : Option (shDen impl_ChunkAt_sh)) := by kernel_rfl

theorem impl_ChunkAt_l0_congr (kr : Int → Int → Option (shDen impl_ChunkAt_sh)) (ke0 : Option (shDen impl_ChunkAt_sh)) (kr' : Int → Int → Option (shDen impl_ChunkAt_sh)) (ke0' : Option (shDen impl_ChunkAt_sh)) (a2 : Int) (n : Nat) (x34 : Int) (z170 : (List Int)) (x11 : Int) (x35 : Int) (hkr : ∀ x6 x7, kr x6 x7 = kr' x6 x7) (hke0 : ∀ (_ : Unit), ke0  = ke0' ) : impl_ChunkAt_l0_L kr ke0 a2 n x34 z170 x11 x35 = impl_ChunkAt_l0_L kr' ke0' a2 n x34 z170 x11 x35 := by
 have : kr = kr' := (by funext x6 x7; exact hkr x6 x7); subst this; have : ke0 = ke0' := hke0 (); subst this; rfl

theorem impl_ChunkAt_l0_L_eq (K : Ex → St → Option (shDen impl_ChunkAt_sh)) (a2 : Int) : ∀ (n : Nat) (x34 : Int) (z170 : (List Int)) (x11 : Int) (x35 : Int), (loopK (impl_ChunkAt_cx FUEL) 0 (execK (impl_ChunkAt_cx FUEL) (callK (impl_ChunkAt_cx FUEL) 8) 0 49 (sub impl_ChunkAt_c [1, 1, 1, 1, 1, 0, 1, 0, 0])) impl_ChunkAt_l0_cut K n (impl_ChunkAt_l0_s a2 x34 z170 x11 x35) : Option (shDen impl_ChunkAt_sh)) = impl_ChunkAt_l0_L (fun x6 x7 => K .ret (impl_ChunkAt_l0_o x6 x7)) (K (.exit 0) (impl_ChunkAt_l0_o0)) a2 n x34 z170 x11 x35 := by
 intro n
 induction n with
 | zero => intros; rfl
 | succ n ih =>
  intro x34 z170 x11 x35
  exact (impl_ChunkAt_l0_round FUEL K n a2 x34 z170 x11 x35).trans (condC (condC (condC (rfl) (ih x34 z170 (z170.getD (x35.toNat) (0 : Int)) (IntKind.wrap .i64 (x35 + (1 : Int))))) (rfl)) (rfl))

theorem impl_ChunkAt_start (k : Nat) (a0 : (Int × (Int × (Int × Unit)))) (a1 : (List Int)) (a2 : Int) : fnK (impl_ChunkAt_cx k) 8 49 impl_ChunkAt_i impl_ChunkAt_sh [.pv (.pair (.int .i64) (.pair (.int .i64) (.pair (.int .i64) .unit))) a0, .pv (.slice (.int .u8)) a1, .pv (.int .i64) a2] =
 ((bindO (impl_CutPlaces_r a0 a1) fun (b1 : ((List Int) × Int)) => (cond (decide (b1.2 = (0 : Int)))
 (bindO (impl_size_byte_r a1) fun (b2 : Int) => (bindO (impl_within_r a2 (0 : Int) (IntKind.wrap .i64 (b2 - (1 : Int)))) fun (b3 : Bool) => (cond (!b3)
 (some ((0 : Int), ((0 : Int), (2 : Int))))
 (cond (!(decide (b1.2 = (0 : Int))))
 (some ((0 : Int), ((0 : Int), b1.2)))
 (loopK (impl_ChunkAt_cx k) 0 (execK (impl_ChunkAt_cx k) (callK (impl_ChunkAt_cx k) 8) 0 49 (sub impl_ChunkAt_c [1, 1, 1, 1, 1, 0, 1, 0, 0])) impl_ChunkAt_l0_cut (blkK 0 (seqK (execK (impl_ChunkAt_cx k) (callK (impl_ChunkAt_cx k) 8) 0 49 (sub impl_ChunkAt_c [1, 1, 1, 1, 1, 1])) (finK (impl_ChunkAt_cx k) impl_ChunkAt_i impl_ChunkAt_sh))) k (impl_ChunkAt_l0_s a2 (b1.1.length : Int) b1.1 (0 : Int) (0 : Int)))))))
 (cond (!(decide (b1.2 = (0 : Int))))
 (some ((0 : Int), ((0 : Int), b1.2)))
 (loopK (impl_ChunkAt_cx k) 0 (execK (impl_ChunkAt_cx k) (callK (impl_ChunkAt_cx k) 8) 0 49 (sub impl_ChunkAt_c [1, 1, 1, 1, 1, 0, 1, 0, 0])) impl_ChunkAt_l0_cut (blkK 0 (seqK (execK (impl_ChunkAt_cx k) (callK (impl_ChunkAt_cx k) 8) 0 49 (sub impl_ChunkAt_c [1, 1, 1, 1, 1, 1])) (finK (impl_ChunkAt_cx k) impl_ChunkAt_i impl_ChunkAt_sh))) k (impl_ChunkAt_l0_s a2 (b1.1.length : Int) b1.1 (0 : Int) (0 : Int)))))) : Option (shDen impl_ChunkAt_sh)) := by kernel_rfl

theorem impl_ChunkAt_run (a0 : (Int × (Int × (Int × Unit)))) (a1 : (List Int)) (a2 : Int) : fnK (impl_ChunkAt_cx FUEL) 8 49 impl_ChunkAt_i impl_ChunkAt_sh [.pv (.pair (.int .i64) (.pair (.int .i64) (.pair (.int .i64) .unit))) a0, .pv (.slice (.int .u8)) a1, .pv (.int .i64) a2] = impl_ChunkAt_r a0 a1 a2 :=
 (impl_ChunkAt_start FUEL a0 a1 a2).trans (bindC (fun b1 => condC (bindC (fun b2 => bindC (fun b3 => condC (rfl) (condC (rfl) ((impl_ChunkAt_l0_L_eq _ a2 FUEL (b1.1.length : Int) b1.1 (0 : Int) (0 : Int)).trans (impl_ChunkAt_l0_congr _ _ _ _ a2 FUEL (b1.1.length : Int) b1.1 (0 : Int) (0 : Int) (fun x6 x7 => (impl_ChunkAt_l0_ret FUEL  x6 x7).trans (rfl)) (fun _ => (impl_ChunkAt_l0_exit0 FUEL  ).trans (rfl)))))))) (condC (rfl) ((impl_ChunkAt_l0_L_eq _ a2 FUEL (b1.1.length : Int) b1.1 (0 : Int) (0 : Int)).trans (impl_ChunkAt_l0_congr _ _ _ _ a2 FUEL (b1.1.length : Int) b1.1 (0 : Int) (0 : Int) (fun x6 x7 => (impl_ChunkAt_l0_ret FUEL  x6 x7).trans (rfl)) (fun _ => (impl_ChunkAt_l0_exit0 FUEL  ).trans (rfl)))))))

noncomputable def impl_ChunkAt_con : Con := { ps := (.pair (.pair (.int .i64) (.pair (.int .i64) (.pair (.int .i64) .unit))) (.pair (.slice (.int .u8)) (.pair (.int .i64) .unit))), sh := impl_ChunkAt_sh, raw := fun x => impl_ChunkAt_r x.1 x.2.1 x.2.2.1 }
theorem impl_ChunkAt_conOk : ConOk Try.prog 49 impl_ChunkAt_con := con_of_fn (impl_ChunkAt_tabs FUEL) (depth := 8) impl_ChunkAt_ok fun x y h => (impl_ChunkAt_run x.1 x.2.1 x.2.2.1).trans h

noncomputable def impl_StartCutter_inls : List (Nat × Inl) := []
noncomputable def impl_StartCutter_cons : List (Nat × Con) := [(46, impl_ValidRule_con)]
noncomputable def impl_StartCutter_taks : List (Nat × ConT) := []
noncomputable def impl_StartCutter_inps : List (Nat × ConI) := []
noncomputable def impl_StartCutter_cuts : List (Nat × List (Nat × Cut)) := []
noncomputable def impl_StartCutter_cx (k : Nat) : Cx := mkCx tys tbytes telem nozero (Ai.look impl_StartCutter_inls) (Ai.look impl_StartCutter_cons) (Ai.look impl_StartCutter_taks) (Ai.look impl_StartCutter_inps) (fun f id => match Ai.look impl_StartCutter_cuts f with | some l => Ai.look l id | none => none) k []
theorem impl_StartCutter_tabs (k : Nat) : TabsOk Try.prog (impl_StartCutter_cx k) := ⟨tab_mk tabs_ok _ _ _ _ _ _ _, look_all (Q := ConOk Try.prog) _ ⟨impl_ValidRule_conOk, trivial⟩, look_all (Q := TakOk Try.prog) _ trivial, look_all (Q := InpOk Try.prog) _ trivial, look_all (Q := InlOk Try.prog) _ trivial, mixed_ok⟩
abbrev impl_StartCutter_sh : List Sh := [.pl (.pair (.pair (.int .i64) (.pair (.int .i64) (.pair (.int .i64) .unit))) (.pair (.int .u32) (.pair (.slice (.int .u8)) .unit))), .pl (.int .i64)]
noncomputable def impl_StartCutter_r (a0 : (Int × (Int × (Int × Unit)))) : Option (shDen impl_StartCutter_sh) :=
 (bindO (impl_ValidRule_r a0) fun (b1 : Bool) => (cond (!b1)
 (some ((((0 : Int), ((0 : Int), ((0 : Int), ()))), ((0 : Int), ([], ()))), (1 : Int)))
 (some ((a0, ((0 : Int), ([], ()))), (0 : Int)))))
theorem impl_StartCutter_start (k : Nat) (a0 : (Int × (Int × (Int × Unit)))) : fnK (impl_StartCutter_cx k) 8 50 impl_StartCutter_i impl_StartCutter_sh [.pv (.pair (.int .i64) (.pair (.int .i64) (.pair (.int .i64) .unit))) a0] =
 ((bindO (impl_ValidRule_r a0) fun (b1 : Bool) => (cond (!b1)
 (some ((((0 : Int), ((0 : Int), ((0 : Int), ()))), ((0 : Int), ([], ()))), (1 : Int)))
 (some ((a0, ((0 : Int), ([], ()))), (0 : Int))))) : Option (shDen impl_StartCutter_sh)) := by kernel_rfl

theorem impl_StartCutter_run (a0 : (Int × (Int × (Int × Unit)))) : fnK (impl_StartCutter_cx FUEL) 8 50 impl_StartCutter_i impl_StartCutter_sh [.pv (.pair (.int .i64) (.pair (.int .i64) (.pair (.int .i64) .unit))) a0] = impl_StartCutter_r a0 :=
 (impl_StartCutter_start FUEL a0).trans (rfl)

noncomputable def impl_StartCutter_con : Con := { ps := (.pair (.pair (.int .i64) (.pair (.int .i64) (.pair (.int .i64) .unit))) .unit), sh := impl_StartCutter_sh, raw := fun x => impl_StartCutter_r x.1 }
theorem impl_StartCutter_conOk : ConOk Try.prog 50 impl_StartCutter_con := con_of_fn (impl_StartCutter_tabs FUEL) (depth := 8) impl_StartCutter_ok fun x y h => (impl_StartCutter_run x.1).trans h

noncomputable def laws_a2At_inls : List (Nat × Inl) := []
noncomputable def laws_a2At_cons : List (Nat × Con) := []
noncomputable def laws_a2At_taks : List (Nat × ConT) := []
noncomputable def laws_a2At_inps : List (Nat × ConI) := []
noncomputable def laws_a2At_cuts : List (Nat × List (Nat × Cut)) := []
noncomputable def laws_a2At_cx (k : Nat) : Cx := mkCx tys tbytes telem nozero (Ai.look laws_a2At_inls) (Ai.look laws_a2At_cons) (Ai.look laws_a2At_taks) (Ai.look laws_a2At_inps) (fun f id => match Ai.look laws_a2At_cuts f with | some l => Ai.look l id | none => none) k []
theorem laws_a2At_tabs (k : Nat) : TabsOk Try.prog (laws_a2At_cx k) := ⟨tab_mk tabs_ok _ _ _ _ _ _ _, look_all (Q := ConOk Try.prog) _ trivial, look_all (Q := TakOk Try.prog) _ trivial, look_all (Q := InpOk Try.prog) _ trivial, look_all (Q := InlOk Try.prog) _ trivial, mixed_ok⟩
abbrev laws_a2At_sh : List Sh := [.pl (.int .i64)]
noncomputable def laws_a2At_r (a0 : (List Int)) (a1 : Int) (a2 : Int) : Option (shDen laws_a2At_sh) :=
 (cond (decide ((a0.length : Int) ≤ a1))
 (some (0 : Int))
 (cond (decide (a2 < (1 : Int)))
 (some (0 : Int))
 (cond ((decide ((0 : Int) ≤ a1)) && (decide (a1 < (a0.length : Int))))
 (cond (decide (a2 = (0 : Int)))
 none
 (some (Int.tmod (IntKind.wrap .i64 (a0.getD (a1.toNat) (0 : Int))) a2)))
 none)))
theorem laws_a2At_start (k : Nat) (a0 : (List Int)) (a1 : Int) (a2 : Int) : fnK (laws_a2At_cx k) 8 51 laws_a2At_i laws_a2At_sh [.pv (.slice (.int .u8)) a0, .pv (.int .i64) a1, .pv (.int .i64) a2] =
 ((cond (decide ((a0.length : Int) ≤ a1))
 (some (0 : Int))
 (cond (decide (a2 < (1 : Int)))
 (some (0 : Int))
 (cond ((decide ((0 : Int) ≤ a1)) && (decide (a1 < (a0.length : Int))))
 (cond (decide (a2 = (0 : Int)))
 none
 (some (Int.tmod (IntKind.wrap .i64 (a0.getD (a1.toNat) (0 : Int))) a2)))
 none))) : Option (shDen laws_a2At_sh)) := by kernel_rfl

theorem laws_a2At_run (a0 : (List Int)) (a1 : Int) (a2 : Int) : fnK (laws_a2At_cx FUEL) 8 51 laws_a2At_i laws_a2At_sh [.pv (.slice (.int .u8)) a0, .pv (.int .i64) a1, .pv (.int .i64) a2] = laws_a2At_r a0 a1 a2 :=
 (laws_a2At_start FUEL a0 a1 a2).trans (rfl)

noncomputable def laws_a2At_con : Con := { ps := (.pair (.slice (.int .u8)) (.pair (.int .i64) (.pair (.int .i64) .unit))), sh := laws_a2At_sh, raw := fun x => laws_a2At_r x.1 x.2.1 x.2.2.1 }
theorem laws_a2At_conOk : ConOk Try.prog 51 laws_a2At_con := con_of_fn (laws_a2At_tabs FUEL) (depth := 8) laws_a2At_ok fun x y h => (laws_a2At_run x.1 x.2.1 x.2.2.1).trans h

noncomputable def impl_ValidCutter_inls : List (Nat × Inl) := []
noncomputable def impl_ValidCutter_cons : List (Nat × Con) := [(46, impl_ValidRule_con), (58, impl_CutRule_cut_con), (68, impl_size_byte_con)]
noncomputable def impl_ValidCutter_taks : List (Nat × ConT) := []
noncomputable def impl_ValidCutter_inps : List (Nat × ConI) := []
noncomputable def impl_ValidCutter_cuts : List (Nat × List (Nat × Cut)) := []
noncomputable def impl_ValidCutter_cx (k : Nat) : Cx := mkCx tys tbytes telem nozero (Ai.look impl_ValidCutter_inls) (Ai.look impl_ValidCutter_cons) (Ai.look impl_ValidCutter_taks) (Ai.look impl_ValidCutter_inps) (fun f id => match Ai.look impl_ValidCutter_cuts f with | some l => Ai.look l id | none => none) k []
theorem impl_ValidCutter_tabs (k : Nat) : TabsOk Try.prog (impl_ValidCutter_cx k) := ⟨tab_mk tabs_ok _ _ _ _ _ _ _, look_all (Q := ConOk Try.prog) _ ⟨impl_ValidRule_conOk, impl_CutRule_cut_conOk, impl_size_byte_conOk, trivial⟩, look_all (Q := TakOk Try.prog) _ trivial, look_all (Q := InpOk Try.prog) _ trivial, look_all (Q := InlOk Try.prog) _ trivial, mixed_ok⟩
abbrev impl_ValidCutter_sh : List Sh := [.pl .bool]
noncomputable def impl_ValidCutter_r (a0 : ((Int × (Int × (Int × Unit))) × (Int × ((List Int) × Unit)))) : Option (shDen impl_ValidCutter_sh) :=
 (bindO (impl_ValidRule_r a0.1) fun (b1 : Bool) => (cond (!b1)
 (some false)
 (bindO (impl_size_byte_r a0.2.2.1) fun (b2 : Int) => (cond (decide (a0.1.2.1 ≤ b2))
 (some false)
 (bindO (impl_CutRule_cut_r a0.1 a0.2.2.1 (0 : Int) (0 : Int)) fun (b3 : ((List (List Int)) × ((List Int) × Int))) => (cond (decide ((b3.1.length : Int) = (0 : Int)))
 (some (decide (b3.2.2 = a0.2.1)))
 (some false)))))))
theorem impl_ValidCutter_start (k : Nat) (a0 : ((Int × (Int × (Int × Unit))) × (Int × ((List Int) × Unit)))) : fnK (impl_ValidCutter_cx k) 8 53 impl_ValidCutter_i impl_ValidCutter_sh [.pv (.pair (.pair (.int .i64) (.pair (.int .i64) (.pair (.int .i64) .unit))) (.pair (.int .u32) (.pair (.slice (.int .u8)) .unit))) a0] =
 ((bindO (impl_ValidRule_r a0.1) fun (b1 : Bool) => (cond (!b1)
 (some false)
 (bindO (impl_size_byte_r a0.2.2.1) fun (b2 : Int) => (cond (decide (a0.1.2.1 ≤ b2))
 (some false)
 (bindO (impl_CutRule_cut_r a0.1 a0.2.2.1 (0 : Int) (0 : Int)) fun (b3 : ((List (List Int)) × ((List Int) × Int))) => (cond (decide ((b3.1.length : Int) = (0 : Int)))
 (some (decide (b3.2.2 = a0.2.1)))
 (some false))))))) : Option (shDen impl_ValidCutter_sh)) := by kernel_rfl

theorem impl_ValidCutter_run (a0 : ((Int × (Int × (Int × Unit))) × (Int × ((List Int) × Unit)))) : fnK (impl_ValidCutter_cx FUEL) 8 53 impl_ValidCutter_i impl_ValidCutter_sh [.pv (.pair (.pair (.int .i64) (.pair (.int .i64) (.pair (.int .i64) .unit))) (.pair (.int .u32) (.pair (.slice (.int .u8)) .unit))) a0] = impl_ValidCutter_r a0 :=
 (impl_ValidCutter_start FUEL a0).trans (rfl)

noncomputable def impl_ValidCutter_con : Con := { ps := (.pair (.pair (.pair (.int .i64) (.pair (.int .i64) (.pair (.int .i64) .unit))) (.pair (.int .u32) (.pair (.slice (.int .u8)) .unit))) .unit), sh := impl_ValidCutter_sh, raw := fun x => impl_ValidCutter_r x.1 }
theorem impl_ValidCutter_conOk : ConOk Try.prog 53 impl_ValidCutter_con := con_of_fn (impl_ValidCutter_tabs FUEL) (depth := 8) impl_ValidCutter_ok fun x y h => (impl_ValidCutter_run x.1).trans h

noncomputable def impl_FeedCutter_inls : List (Nat × Inl) := []
noncomputable def impl_FeedCutter_cons : List (Nat × Con) := [(53, impl_ValidCutter_con), (58, impl_CutRule_cut_con), (59, slices_Concat_byte_byte_con)]
noncomputable def impl_FeedCutter_taks : List (Nat × ConT) := []
noncomputable def impl_FeedCutter_inps : List (Nat × ConI) := []
noncomputable def impl_FeedCutter_cuts : List (Nat × List (Nat × Cut)) := []
noncomputable def impl_FeedCutter_cx (k : Nat) : Cx := mkCx tys tbytes telem nozero (Ai.look impl_FeedCutter_inls) (Ai.look impl_FeedCutter_cons) (Ai.look impl_FeedCutter_taks) (Ai.look impl_FeedCutter_inps) (fun f id => match Ai.look impl_FeedCutter_cuts f with | some l => Ai.look l id | none => none) k []
theorem impl_FeedCutter_tabs (k : Nat) : TabsOk Try.prog (impl_FeedCutter_cx k) := ⟨tab_mk tabs_ok _ _ _ _ _ _ _, look_all (Q := ConOk Try.prog) _ ⟨impl_ValidCutter_conOk, impl_CutRule_cut_conOk, slices_Concat_byte_byte_conOk, trivial⟩, look_all (Q := TakOk Try.prog) _ trivial, look_all (Q := InpOk Try.prog) _ trivial, look_all (Q := InlOk Try.prog) _ trivial, mixed_ok⟩
abbrev impl_FeedCutter_sh : List Sh := [.pr (.pl (.pair (.int .i64) (.pair (.int .i64) (.pair (.int .i64) .unit)))) (.pr (.pl (.int .u32)) (.pr (.own 5 (.int .u8)) (.pl .unit))), .own 25 (.slice (.int .u8)), .pl (.int .i64)]
noncomputable def impl_FeedCutter_r (a0 : ((Int × (Int × (Int × Unit))) × (Int × ((List Int) × Unit)))) (a1 : (List Int)) : Option (shDen impl_FeedCutter_sh) :=
 (bindO (impl_ValidCutter_r a0) fun (b1 : Bool) => (cond (!b1)
 (some ((((0 : Int), ((0 : Int), ((0 : Int), ()))), ((0 : Int), ([], ()))), ([], (1 : Int))))
 (cond (decide ((4096 : Int) < (a1.length : Int)))
 (some ((((0 : Int), ((0 : Int), ((0 : Int), ()))), ((0 : Int), ([], ()))), ([], (3 : Int))))
 (bindO (slices_Concat_byte_byte_r [a0.2.2.1, a1]) fun (b2 : (List Int)) => (bindO (impl_CutRule_cut_r a0.1 b2 (a0.2.2.1.length : Int) a0.2.1) fun (b3 : ((List (List Int)) × ((List Int) × Int))) => (some ((a0.1, (b3.2.2, (b3.2.1, ()))), (b3.1, (0 : Int)))))))))
theorem impl_FeedCutter_start (k : Nat) (a0 : ((Int × (Int × (Int × Unit))) × (Int × ((List Int) × Unit)))) (a1 : (List Int)) : fnK (impl_FeedCutter_cx k) 8 12 impl_FeedCutter_i impl_FeedCutter_sh [.pv (.pair (.pair (.int .i64) (.pair (.int .i64) (.pair (.int .i64) .unit))) (.pair (.int .u32) (.pair (.slice (.int .u8)) .unit))) a0, .pv (.slice (.int .u8)) a1] =
 ((bindO (impl_ValidCutter_r a0) fun (b1 : Bool) => (cond (!b1)
 (some ((((0 : Int), ((0 : Int), ((0 : Int), ()))), ((0 : Int), ([], ()))), ([], (1 : Int))))
 (cond (decide ((4096 : Int) < (a1.length : Int)))
 (some ((((0 : Int), ((0 : Int), ((0 : Int), ()))), ((0 : Int), ([], ()))), ([], (3 : Int))))
 (bindO (slices_Concat_byte_byte_r [a0.2.2.1, a1]) fun (b2 : (List Int)) => (bindO (impl_CutRule_cut_r a0.1 b2 (a0.2.2.1.length : Int) a0.2.1) fun (b3 : ((List (List Int)) × ((List Int) × Int))) => (some ((a0.1, (b3.2.2, (b3.2.1, ()))), (b3.1, (0 : Int))))))))) : Option (shDen impl_FeedCutter_sh)) := by kernel_rfl

theorem impl_FeedCutter_run (a0 : ((Int × (Int × (Int × Unit))) × (Int × ((List Int) × Unit)))) (a1 : (List Int)) : fnK (impl_FeedCutter_cx FUEL) 8 12 impl_FeedCutter_i impl_FeedCutter_sh [.pv (.pair (.pair (.int .i64) (.pair (.int .i64) (.pair (.int .i64) .unit))) (.pair (.int .u32) (.pair (.slice (.int .u8)) .unit))) a0, .pv (.slice (.int .u8)) a1] = impl_FeedCutter_r a0 a1 :=
 (impl_FeedCutter_start FUEL a0 a1).trans (rfl)

noncomputable def impl_FeedCutter_con : Con := { ps := (.pair (.pair (.pair (.int .i64) (.pair (.int .i64) (.pair (.int .i64) .unit))) (.pair (.int .u32) (.pair (.slice (.int .u8)) .unit))) (.pair (.slice (.int .u8)) .unit)), sh := impl_FeedCutter_sh, raw := fun x => impl_FeedCutter_r x.1 x.2.1 }
theorem impl_FeedCutter_conOk : ConOk Try.prog 12 impl_FeedCutter_con := con_of_fn (impl_FeedCutter_tabs FUEL) (depth := 8) impl_FeedCutter_ok fun x y h => (impl_FeedCutter_run x.1 x.2.1).trans h

noncomputable def impl_EndCutter_inls : List (Nat × Inl) := []
noncomputable def impl_EndCutter_cons : List (Nat × Con) := [(53, impl_ValidCutter_con), (91, slices_Clone_byte_byte_con)]
noncomputable def impl_EndCutter_taks : List (Nat × ConT) := []
noncomputable def impl_EndCutter_inps : List (Nat × ConI) := []
noncomputable def impl_EndCutter_cuts : List (Nat × List (Nat × Cut)) := []
noncomputable def impl_EndCutter_cx (k : Nat) : Cx := mkCx tys tbytes telem nozero (Ai.look impl_EndCutter_inls) (Ai.look impl_EndCutter_cons) (Ai.look impl_EndCutter_taks) (Ai.look impl_EndCutter_inps) (fun f id => match Ai.look impl_EndCutter_cuts f with | some l => Ai.look l id | none => none) k []
theorem impl_EndCutter_tabs (k : Nat) : TabsOk Try.prog (impl_EndCutter_cx k) := ⟨tab_mk tabs_ok _ _ _ _ _ _ _, look_all (Q := ConOk Try.prog) _ ⟨impl_ValidCutter_conOk, slices_Clone_byte_byte_conOk, trivial⟩, look_all (Q := TakOk Try.prog) _ trivial, look_all (Q := InpOk Try.prog) _ trivial, look_all (Q := InlOk Try.prog) _ trivial, mixed_ok⟩
abbrev impl_EndCutter_sh : List Sh := [.own 5 (.int .u8), .pl (.int .i64)]
noncomputable def impl_EndCutter_r (a0 : ((Int × (Int × (Int × Unit))) × (Int × ((List Int) × Unit)))) : Option (shDen impl_EndCutter_sh) :=
 (bindO (impl_ValidCutter_r a0) fun (b1 : Bool) => (cond (!b1)
 (some ([], (1 : Int)))
 (bindO (slices_Clone_byte_byte_r a0.2.2.1) fun (b2 : (List Int)) => (some (b2, (0 : Int))))))
theorem impl_EndCutter_start (k : Nat) (a0 : ((Int × (Int × (Int × Unit))) × (Int × ((List Int) × Unit)))) : fnK (impl_EndCutter_cx k) 8 52 impl_EndCutter_i impl_EndCutter_sh [.pv (.pair (.pair (.int .i64) (.pair (.int .i64) (.pair (.int .i64) .unit))) (.pair (.int .u32) (.pair (.slice (.int .u8)) .unit))) a0] =
 ((bindO (impl_ValidCutter_r a0) fun (b1 : Bool) => (cond (!b1)
 (some ([], (1 : Int)))
 (bindO (slices_Clone_byte_byte_r a0.2.2.1) fun (b2 : (List Int)) => (some (b2, (0 : Int)))))) : Option (shDen impl_EndCutter_sh)) := by kernel_rfl

theorem impl_EndCutter_run (a0 : ((Int × (Int × (Int × Unit))) × (Int × ((List Int) × Unit)))) : fnK (impl_EndCutter_cx FUEL) 8 52 impl_EndCutter_i impl_EndCutter_sh [.pv (.pair (.pair (.int .i64) (.pair (.int .i64) (.pair (.int .i64) .unit))) (.pair (.int .u32) (.pair (.slice (.int .u8)) .unit))) a0] = impl_EndCutter_r a0 :=
 (impl_EndCutter_start FUEL a0).trans (rfl)

noncomputable def impl_EndCutter_con : Con := { ps := (.pair (.pair (.pair (.int .i64) (.pair (.int .i64) (.pair (.int .i64) .unit))) (.pair (.int .u32) (.pair (.slice (.int .u8)) .unit))) .unit), sh := impl_EndCutter_sh, raw := fun x => impl_EndCutter_r x.1 }
theorem impl_EndCutter_conOk : ConOk Try.prog 52 impl_EndCutter_con := con_of_fn (impl_EndCutter_tabs FUEL) (depth := 8) impl_EndCutter_ok fun x y h => (impl_EndCutter_run x.1).trans h

noncomputable def bytes_Equal_inls : List (Nat × Inl) := []
noncomputable def bytes_Equal_cons : List (Nat × Con) := []
noncomputable def bytes_Equal_taks : List (Nat × ConT) := []
noncomputable def bytes_Equal_inps : List (Nat × ConI) := []
noncomputable def bytes_Equal_cuts : List (Nat × List (Nat × Cut)) := []
noncomputable def bytes_Equal_cx (k : Nat) : Cx := mkCx tys tbytes telem nozero (Ai.look bytes_Equal_inls) (Ai.look bytes_Equal_cons) (Ai.look bytes_Equal_taks) (Ai.look bytes_Equal_inps) (fun f id => match Ai.look bytes_Equal_cuts f with | some l => Ai.look l id | none => none) k []
theorem bytes_Equal_tabs (k : Nat) : TabsOk Try.prog (bytes_Equal_cx k) := ⟨tab_mk tabs_ok _ _ _ _ _ _ _, look_all (Q := ConOk Try.prog) _ trivial, look_all (Q := TakOk Try.prog) _ trivial, look_all (Q := InpOk Try.prog) _ trivial, look_all (Q := InlOk Try.prog) _ trivial, mixed_ok⟩
abbrev bytes_Equal_sh : List Sh := [.pl .bool]
noncomputable def bytes_Equal_r (a0 : (List Int)) (a1 : (List Int)) : Option (shDen bytes_Equal_sh) :=
 (some (decide (a0 = a1)))
theorem bytes_Equal_start (k : Nat) (a0 : (List Int)) (a1 : (List Int)) : fnK (bytes_Equal_cx k) 8 92 bytes_Equal_i bytes_Equal_sh [.pv (.slice (.int .u8)) a0, .pv (.slice (.int .u8)) a1] =
 ((some (decide (a0 = a1))) : Option (shDen bytes_Equal_sh)) := by kernel_rfl

theorem bytes_Equal_run (a0 : (List Int)) (a1 : (List Int)) : fnK (bytes_Equal_cx FUEL) 8 92 bytes_Equal_i bytes_Equal_sh [.pv (.slice (.int .u8)) a0, .pv (.slice (.int .u8)) a1] = bytes_Equal_r a0 a1 :=
 (bytes_Equal_start FUEL a0 a1).trans (rfl)

noncomputable def bytes_Equal_con : Con := { ps := (.pair (.slice (.int .u8)) (.pair (.slice (.int .u8)) .unit)), sh := bytes_Equal_sh, raw := fun x => bytes_Equal_r x.1 x.2.1 }
theorem bytes_Equal_conOk : ConOk Try.prog 92 bytes_Equal_con := con_of_fn (bytes_Equal_tabs FUEL) (depth := 8) bytes_Equal_ok fun x y h => (bytes_Equal_run x.1 x.2.1).trans h

noncomputable def impl_SameCutter_inls : List (Nat × Inl) := []
noncomputable def impl_SameCutter_cons : List (Nat × Con) := [(92, bytes_Equal_con)]
noncomputable def impl_SameCutter_taks : List (Nat × ConT) := []
noncomputable def impl_SameCutter_inps : List (Nat × ConI) := []
noncomputable def impl_SameCutter_cuts : List (Nat × List (Nat × Cut)) := []
noncomputable def impl_SameCutter_cx (k : Nat) : Cx := mkCx tys tbytes telem nozero (Ai.look impl_SameCutter_inls) (Ai.look impl_SameCutter_cons) (Ai.look impl_SameCutter_taks) (Ai.look impl_SameCutter_inps) (fun f id => match Ai.look impl_SameCutter_cuts f with | some l => Ai.look l id | none => none) k []
theorem impl_SameCutter_tabs (k : Nat) : TabsOk Try.prog (impl_SameCutter_cx k) := ⟨tab_mk tabs_ok _ _ _ _ _ _ _, look_all (Q := ConOk Try.prog) _ ⟨bytes_Equal_conOk, trivial⟩, look_all (Q := TakOk Try.prog) _ trivial, look_all (Q := InpOk Try.prog) _ trivial, look_all (Q := InlOk Try.prog) _ trivial, mixed_ok⟩
abbrev impl_SameCutter_sh : List Sh := [.pl .bool]
noncomputable def impl_SameCutter_r (a0 : ((Int × (Int × (Int × Unit))) × (Int × ((List Int) × Unit)))) (a1 : ((Int × (Int × (Int × Unit))) × (Int × ((List Int) × Unit)))) : Option (shDen impl_SameCutter_sh) :=
 (cond (eqd (.pair (.int .i64) (.pair (.int .i64) (.pair (.int .i64) .unit))) a0.1 a1.1)
 (cond (decide (a0.2.1 = a1.2.1))
 (bindO (bytes_Equal_r a0.2.2.1 a1.2.2.1) fun (b1 : Bool) => (some b1))
 (some false))
 (some false))
theorem impl_SameCutter_start (k : Nat) (a0 : ((Int × (Int × (Int × Unit))) × (Int × ((List Int) × Unit)))) (a1 : ((Int × (Int × (Int × Unit))) × (Int × ((List Int) × Unit)))) : fnK (impl_SameCutter_cx k) 8 54 impl_SameCutter_i impl_SameCutter_sh [.pv (.pair (.pair (.int .i64) (.pair (.int .i64) (.pair (.int .i64) .unit))) (.pair (.int .u32) (.pair (.slice (.int .u8)) .unit))) a0, .pv (.pair (.pair (.int .i64) (.pair (.int .i64) (.pair (.int .i64) .unit))) (.pair (.int .u32) (.pair (.slice (.int .u8)) .unit))) a1] =
 ((cond (eqd (.pair (.int .i64) (.pair (.int .i64) (.pair (.int .i64) .unit))) a0.1 a1.1)
 (cond (decide (a0.2.1 = a1.2.1))
 (bindO (bytes_Equal_r a0.2.2.1 a1.2.2.1) fun (b1 : Bool) => (some b1))
 (some false))
 (some false)) : Option (shDen impl_SameCutter_sh)) := by kernel_rfl

theorem impl_SameCutter_run (a0 : ((Int × (Int × (Int × Unit))) × (Int × ((List Int) × Unit)))) (a1 : ((Int × (Int × (Int × Unit))) × (Int × ((List Int) × Unit)))) : fnK (impl_SameCutter_cx FUEL) 8 54 impl_SameCutter_i impl_SameCutter_sh [.pv (.pair (.pair (.int .i64) (.pair (.int .i64) (.pair (.int .i64) .unit))) (.pair (.int .u32) (.pair (.slice (.int .u8)) .unit))) a0, .pv (.pair (.pair (.int .i64) (.pair (.int .i64) (.pair (.int .i64) .unit))) (.pair (.int .u32) (.pair (.slice (.int .u8)) .unit))) a1] = impl_SameCutter_r a0 a1 :=
 (impl_SameCutter_start FUEL a0 a1).trans (rfl)

noncomputable def impl_SameCutter_con : Con := { ps := (.pair (.pair (.pair (.int .i64) (.pair (.int .i64) (.pair (.int .i64) .unit))) (.pair (.int .u32) (.pair (.slice (.int .u8)) .unit))) (.pair (.pair (.pair (.int .i64) (.pair (.int .i64) (.pair (.int .i64) .unit))) (.pair (.int .u32) (.pair (.slice (.int .u8)) .unit))) .unit)), sh := impl_SameCutter_sh, raw := fun x => impl_SameCutter_r x.1 x.2.1 }
theorem impl_SameCutter_conOk : ConOk Try.prog 54 impl_SameCutter_con := con_of_fn (impl_SameCutter_tabs FUEL) (depth := 8) impl_SameCutter_ok fun x y h => (impl_SameCutter_run x.1 x.2.1).trans h

noncomputable def laws_FnChunks_l0_cut : Cut := { keep := [0, 5, 6, 7, 11, 13, 14], stk := [], ids := [50, 480, 590], own := [], outs := [(0, [4], []), (1, [0, 5, 6, 7], [50, 480])] }
noncomputable def laws_FnChunks_l1_cut : Cut := { keep := [0, 5, 6, 7, 11, 13, 14, 15, 18], stk := [], ids := [50, 480, 590], own := [], outs := [(0, [4], []), (3, [0, 5, 6, 7, 11, 13, 14, 15], [50, 480, 590])] }
noncomputable def laws_FnChunks_l2_cut : Cut := { keep := [7, 36, 37], stk := [], ids := [480, 2550], own := [], outs := [(0, [4], []), (5, [], [])] }
noncomputable def laws_FnChunks_inls : List (Nat × Inl) := []
noncomputable def laws_FnChunks_cons : List (Nat × Con) := [(12, impl_FeedCutter_con), (39, laws_a2Long_con), (40, spec_A2Rule_con), (41, spec_A2Data_con), (42, impl_ChunksOf_con), (43, impl_JoinChunks_con), (44, impl_CutPlaces_con), (45, spec_SameBytes_con), (46, impl_ValidRule_con), (47, impl_RollOf_con), (48, spec_RollOf_con), (49, impl_ChunkAt_con), (50, impl_StartCutter_con), (51, laws_a2At_con), (52, impl_EndCutter_con), (53, impl_ValidCutter_con), (54, impl_SameCutter_con)]
noncomputable def laws_FnChunks_taks : List (Nat × ConT) := []
noncomputable def laws_FnChunks_inps : List (Nat × ConI) := []
noncomputable def laws_FnChunks_cuts : List (Nat × List (Nat × Cut)) := [(7, [(0, laws_FnChunks_l0_cut), (2, laws_FnChunks_l1_cut), (4, laws_FnChunks_l2_cut)])]
noncomputable def laws_FnChunks_cx (k : Nat) : Cx := mkCx tys tbytes telem nozero (Ai.look laws_FnChunks_inls) (Ai.look laws_FnChunks_cons) (Ai.look laws_FnChunks_taks) (Ai.look laws_FnChunks_inps) (fun f id => match Ai.look laws_FnChunks_cuts f with | some l => Ai.look l id | none => none) k []
theorem laws_FnChunks_tabs (k : Nat) : TabsOk Try.prog (laws_FnChunks_cx k) := ⟨tab_mk tabs_ok _ _ _ _ _ _ _, look_all (Q := ConOk Try.prog) _ ⟨impl_FeedCutter_conOk, laws_a2Long_conOk, spec_A2Rule_conOk, spec_A2Data_conOk, impl_ChunksOf_conOk, impl_JoinChunks_conOk, impl_CutPlaces_conOk, spec_SameBytes_conOk, impl_ValidRule_conOk, impl_RollOf_conOk, spec_RollOf_conOk, impl_ChunkAt_conOk, impl_StartCutter_conOk, laws_a2At_conOk, impl_EndCutter_conOk, impl_ValidCutter_conOk, impl_SameCutter_conOk, trivial⟩, look_all (Q := TakOk Try.prog) _ trivial, look_all (Q := InpOk Try.prog) _ trivial, look_all (Q := InlOk Try.prog) _ trivial, mixed_ok⟩
abbrev laws_FnChunks_sh : List Sh := [.pl .bool]
noncomputable def laws_FnChunks_l0_s (a0 : (List Int)) (x6 : (List Int)) (y50 : (Int × (Int × (Int × Unit)))) (z480 : (List (List Int))) (z590 : (List Int)) (x13 : Int) (x14 : Int) : St := { env := [.pv (.slice (.int .u8)) a0, .dead, .dead, .dead, .dead, .ptr 50 (.pair (.int .i64) (.pair (.int .i64) (.pair (.int .i64) .unit))) [], .pv (.slice (.int .u8)) x6, .sl 480 (.slice (.int .u8)), .dead, .dead, .dead, .sl 590 (.int .i64), .dead, .pv (.int .i64) x13, .pv (.int .i64) x14, .dead, .dead, .dead, .dead, .dead, .dead, .dead, .dead, .dead, .dead, .dead, .dead, .dead, .dead, .dead, .dead, .dead, .dead, .dead, .dead, .dead, .dead, .dead, .dead, .dead, .dead, .dead, .dead, .dead, .dead, .dead, .dead, .dead, .dead, .dead, .dead, .dead, .dead, .dead, .dead, .dead, .dead, .dead, .dead, .dead, .dead, .dead, .dead, .dead, .dead, .dead, .dead, .dead, .dead, .dead, .dead, .dead, .dead, .dead, .dead, .dead, .dead, .dead, .dead, .dead, .dead, .dead, .dead, .dead, .dead, .dead, .dead, .dead, .dead, .dead, .dead, .dead, .dead, .dead, .dead, .dead, .dead, .dead, .dead, .dead, .dead, .dead, .dead, .dead, .dead, .dead, .dead, .dead, .dead, .dead, .dead, .dead, .dead, .dead, .dead, .dead, .dead, .dead, .dead, .dead, .dead, .dead, .dead, .dead, .dead, .dead, .dead, .dead, .dead, .dead, .dead, .dead, .dead, .dead, .dead, .dead, .dead, .dead, .dead, .dead, .dead, .dead, .dead, .dead, .dead, .dead, .dead, .dead, .dead, .dead, .dead, .dead, .dead, .dead, .dead, .dead, .dead, .dead, .dead, .dead, .dead, .dead, .dead, .dead, .dead, .dead, .dead, .dead, .dead, .dead, .dead, .dead, .dead, .dead, .dead, .dead, .dead, .dead, .dead, .dead, .dead, .dead, .dead, .dead, .dead, .dead, .dead, .dead, .dead, .dead, .dead, .dead, .dead, .dead, .dead, .dead, .dead, .dead, .dead, .dead, .dead, .dead, .dead, .dead, .dead, .dead, .dead, .dead, .dead, .dead, .dead, .dead, .dead, .dead, .dead, .dead, .dead, .dead, .dead, .dead, .dead, .dead, .dead, .dead, .dead, .dead, .dead, .dead, .dead, .dead, .dead, .dead, .dead, .dead, .dead, .dead, .dead, .dead, .dead, .dead, .dead, .dead, .dead, .dead, .dead, .dead, .dead, .dead, .dead, .dead, .dead, .dead, .dead, .dead, .dead, .dead, .dead, .dead, .dead, .dead, .dead, .dead, .dead, .dead, .dead, .dead, .dead, .dead, .dead, .dead, .dead, .dead, .dead, .dead, .dead, .dead, .dead, .dead, .dead, .dead, .dead, .dead, .dead, .dead, .dead, .dead, .dead, .dead, .dead, .dead, .dead, .dead, .dead, .dead, .dead, .dead, .dead, .dead, .dead, .dead, .dead, .dead, .dead, .dead, .dead, .dead, .dead, .dead, .dead, .dead, .dead, .dead, .dead, .dead, .dead], stk := [], heap := [(50, .var (.pair (.int .i64) (.pair (.int .i64) (.pair (.int .i64) .unit))) (.pv (.pair (.int .i64) (.pair (.int .i64) (.pair (.int .i64) .unit))) y50)), (480, .arr 25 (.slice (.int .u8)) z480), (590, .arr 2 (.int .i64) z590)] }
noncomputable def laws_FnChunks_l0_o  : St := { env := [.dead, .dead, .dead, .dead, .pv .bool false, .dead, .dead, .dead, .dead, .dead, .dead, .dead, .dead, .dead, .dead, .dead, .dead, .dead, .dead, .dead, .dead, .dead, .dead, .dead, .dead, .dead, .dead, .dead, .dead, .dead, .dead, .dead, .dead, .dead, .dead, .dead, .dead, .dead, .dead, .dead, .dead, .dead, .dead, .dead, .dead, .dead, .dead, .dead, .dead, .dead, .dead, .dead, .dead, .dead, .dead, .dead, .dead, .dead, .dead, .dead, .dead, .dead, .dead, .dead, .dead, .dead, .dead, .dead, .dead, .dead, .dead, .dead, .dead, .dead, .dead, .dead, .dead, .dead, .dead, .dead, .dead, .dead, .dead, .dead, .dead, .dead, .dead, .dead, .dead, .dead, .dead, .dead, .dead, .dead, .dead, .dead, .dead, .dead, .dead, .dead, .dead, .dead, .dead, .dead, .dead, .dead, .dead, .dead, .dead, .dead, .dead, .dead, .dead, .dead, .dead, .dead, .dead, .dead, .dead, .dead, .dead, .dead, .dead, .dead, .dead, .dead, .dead, .dead, .dead, .dead, .dead, .dead, .dead, .dead, .dead, .dead, .dead, .dead, .dead, .dead, .dead, .dead, .dead, .dead, .dead, .dead, .dead, .dead, .dead, .dead, .dead, .dead, .dead, .dead, .dead, .dead, .dead, .dead, .dead, .dead, .dead, .dead, .dead, .dead, .dead, .dead, .dead, .dead, .dead, .dead, .dead, .dead, .dead, .dead, .dead, .dead, .dead, .dead, .dead, .dead, .dead, .dead, .dead, .dead, .dead, .dead, .dead, .dead, .dead, .dead, .dead, .dead, .dead, .dead, .dead, .dead, .dead, .dead, .dead, .dead, .dead, .dead, .dead, .dead, .dead, .dead, .dead, .dead, .dead, .dead, .dead, .dead, .dead, .dead, .dead, .dead, .dead, .dead, .dead, .dead, .dead, .dead, .dead, .dead, .dead, .dead, .dead, .dead, .dead, .dead, .dead, .dead, .dead, .dead, .dead, .dead, .dead, .dead, .dead, .dead, .dead, .dead, .dead, .dead, .dead, .dead, .dead, .dead, .dead, .dead, .dead, .dead, .dead, .dead, .dead, .dead, .dead, .dead, .dead, .dead, .dead, .dead, .dead, .dead, .dead, .dead, .dead, .dead, .dead, .dead, .dead, .dead, .dead, .dead, .dead, .dead, .dead, .dead, .dead, .dead, .dead, .dead, .dead, .dead, .dead, .dead, .dead, .dead, .dead, .dead, .dead, .dead, .dead, .dead, .dead, .dead, .dead, .dead, .dead, .dead, .dead, .dead, .dead, .dead, .dead, .dead, .dead, .dead, .dead, .dead, .dead, .dead, .dead, .dead, .dead], stk := [], heap := [] }
noncomputable def laws_FnChunks_l0_o0 (a0 : (List Int)) (x6 : (List Int)) (y50 : (Int × (Int × (Int × Unit)))) (z480 : (List (List Int))) : St := { env := [.pv (.slice (.int .u8)) a0, .dead, .dead, .dead, .dead, .ptr 50 (.pair (.int .i64) (.pair (.int .i64) (.pair (.int .i64) .unit))) [], .pv (.slice (.int .u8)) x6, .sl 480 (.slice (.int .u8)), .dead, .dead, .dead, .dead, .dead, .dead, .dead, .dead, .dead, .dead, .dead, .dead, .dead, .dead, .dead, .dead, .dead, .dead, .dead, .dead, .dead, .dead, .dead, .dead, .dead, .dead, .dead, .dead, .dead, .dead, .dead, .dead, .dead, .dead, .dead, .dead, .dead, .dead, .dead, .dead, .dead, .dead, .dead, .dead, .dead, .dead, .dead, .dead, .dead, .dead, .dead, .dead, .dead, .dead, .dead, .dead, .dead, .dead, .dead, .dead, .dead, .dead, .dead, .dead, .dead, .dead, .dead, .dead, .dead, .dead, .dead, .dead, .dead, .dead, .dead, .dead, .dead, .dead, .dead, .dead, .dead, .dead, .dead, .dead, .dead, .dead, .dead, .dead, .dead, .dead, .dead, .dead, .dead, .dead, .dead, .dead, .dead, .dead, .dead, .dead, .dead, .dead, .dead, .dead, .dead, .dead, .dead, .dead, .dead, .dead, .dead, .dead, .dead, .dead, .dead, .dead, .dead, .dead, .dead, .dead, .dead, .dead, .dead, .dead, .dead, .dead, .dead, .dead, .dead, .dead, .dead, .dead, .dead, .dead, .dead, .dead, .dead, .dead, .dead, .dead, .dead, .dead, .dead, .dead, .dead, .dead, .dead, .dead, .dead, .dead, .dead, .dead, .dead, .dead, .dead, .dead, .dead, .dead, .dead, .dead, .dead, .dead, .dead, .dead, .dead, .dead, .dead, .dead, .dead, .dead, .dead, .dead, .dead, .dead, .dead, .dead, .dead, .dead, .dead, .dead, .dead, .dead, .dead, .dead, .dead, .dead, .dead, .dead, .dead, .dead, .dead, .dead, .dead, .dead, .dead, .dead, .dead, .dead, .dead, .dead, .dead, .dead, .dead, .dead, .dead, .dead, .dead, .dead, .dead, .dead, .dead, .dead, .dead, .dead, .dead, .dead, .dead, .dead, .dead, .dead, .dead, .dead, .dead, .dead, .dead, .dead, .dead, .dead, .dead, .dead, .dead, .dead, .dead, .dead, .dead, .dead, .dead, .dead, .dead, .dead, .dead, .dead, .dead, .dead, .dead, .dead, .dead, .dead, .dead, .dead, .dead, .dead, .dead, .dead, .dead, .dead, .dead, .dead, .dead, .dead, .dead, .dead, .dead, .dead, .dead, .dead, .dead, .dead, .dead, .dead, .dead, .dead, .dead, .dead, .dead, .dead, .dead, .dead, .dead, .dead, .dead, .dead, .dead, .dead, .dead, .dead, .dead, .dead, .dead, .dead, .dead, .dead, .dead, .dead, .dead, .dead, .dead, .dead, .dead, .dead, .dead, .dead, .dead, .dead, .dead, .dead, .dead], stk := [], heap := [(50, .var (.pair (.int .i64) (.pair (.int .i64) (.pair (.int .i64) .unit))) (.pv (.pair (.int .i64) (.pair (.int .i64) (.pair (.int .i64) .unit))) y50)), (480, .arr 25 (.slice (.int .u8)) z480)] }
noncomputable def laws_FnChunks_l1_s (a0 : (List Int)) (x6 : (List Int)) (y50 : (Int × (Int × (Int × Unit)))) (z480 : (List (List Int))) (z590 : (List Int)) (x13 : Int) (x14 : Int) (x18 : Int) : St := { env := [.pv (.slice (.int .u8)) a0, .dead, .dead, .dead, .dead, .ptr 50 (.pair (.int .i64) (.pair (.int .i64) (.pair (.int .i64) .unit))) [], .pv (.slice (.int .u8)) x6, .sl 480 (.slice (.int .u8)), .dead, .dead, .dead, .sl 590 (.int .i64), .dead, .pv (.int .i64) x13, .pv (.int .i64) x14, .pv (.int .i64) ((z480.getD (x14.toNat) []).length : Int), .dead, .dead, .pv (.int .i64) x18, .dead, .dead, .dead, .dead, .dead, .dead, .dead, .dead, .dead, .dead, .dead, .dead, .dead, .dead, .dead, .dead, .dead, .dead, .dead, .dead, .dead, .dead, .dead, .dead, .dead, .dead, .dead, .dead, .dead, .dead, .dead, .dead, .dead, .dead, .dead, .dead, .dead, .dead, .dead, .dead, .dead, .dead, .dead, .dead, .dead, .dead, .dead, .dead, .dead, .dead, .dead, .dead, .dead, .dead, .dead, .dead, .dead, .dead, .dead, .dead, .dead, .dead, .dead, .dead, .dead, .dead, .dead, .dead, .dead, .dead, .dead, .dead, .dead, .dead, .dead, .dead, .dead, .dead, .dead, .dead, .dead, .dead, .dead, .dead, .dead, .dead, .dead, .dead, .dead, .dead, .dead, .dead, .dead, .dead, .dead, .dead, .dead, .dead, .dead, .dead, .dead, .dead, .dead, .dead, .dead, .dead, .dead, .dead, .dead, .dead, .dead, .dead, .dead, .dead, .dead, .dead, .dead, .dead, .dead, .dead, .dead, .dead, .dead, .dead, .dead, .dead, .dead, .dead, .dead, .dead, .dead, .dead, .dead, .dead, .dead, .dead, .dead, .dead, .dead, .dead, .dead, .dead, .dead, .dead, .dead, .dead, .dead, .dead, .dead, .dead, .dead, .dead, .dead, .dead, .dead, .dead, .dead, .dead, .dead, .dead, .dead, .dead, .dead, .dead, .dead, .dead, .dead, .dead, .dead, .dead, .dead, .dead, .dead, .dead, .dead, .dead, .dead, .dead, .dead, .dead, .dead, .dead, .dead, .dead, .dead, .dead, .dead, .dead, .dead, .dead, .dead, .dead, .dead, .dead, .dead, .dead, .dead, .dead, .dead, .dead, .dead, .dead, .dead, .dead, .dead, .dead, .dead, .dead, .dead, .dead, .dead, .dead, .dead, .dead, .dead, .dead, .dead, .dead, .dead, .dead, .dead, .dead, .dead, .dead, .dead, .dead, .dead, .dead, .dead, .dead, .dead, .dead, .dead, .dead, .dead, .dead, .dead, .dead, .dead, .dead, .dead, .dead, .dead, .dead, .dead, .dead, .dead, .dead, .dead, .dead, .dead, .dead, .dead, .dead, .dead, .dead, .dead, .dead, .dead, .dead, .dead, .dead, .dead, .dead, .dead, .dead, .dead, .dead, .dead, .dead, .dead, .dead, .dead, .dead, .dead, .dead, .dead, .dead, .dead, .dead, .dead, .dead, .dead, .dead, .dead, .dead, .dead, .dead, .dead, .dead, .dead, .dead, .dead, .dead, .dead, .dead], stk := [], heap := [(50, .var (.pair (.int .i64) (.pair (.int .i64) (.pair (.int .i64) .unit))) (.pv (.pair (.int .i64) (.pair (.int .i64) (.pair (.int .i64) .unit))) y50)), (480, .arr 25 (.slice (.int .u8)) z480), (590, .arr 2 (.int .i64) z590)] }
noncomputable def laws_FnChunks_l1_o  : St := { env := [.dead, .dead, .dead, .dead, .pv .bool false, .dead, .dead, .dead, .dead, .dead, .dead, .dead, .dead, .dead, .dead, .dead, .dead, .dead, .dead, .dead, .dead, .dead, .dead, .dead, .dead, .dead, .dead, .dead, .dead, .dead, .dead, .dead, .dead, .dead, .dead, .dead, .dead, .dead, .dead, .dead, .dead, .dead, .dead, .dead, .dead, .dead, .dead, .dead, .dead, .dead, .dead, .dead, .dead, .dead, .dead, .dead, .dead, .dead, .dead, .dead, .dead, .dead, .dead, .dead, .dead, .dead, .dead, .dead, .dead, .dead, .dead, .dead, .dead, .dead, .dead, .dead, .dead, .dead, .dead, .dead, .dead, .dead, .dead, .dead, .dead, .dead, .dead, .dead, .dead, .dead, .dead, .dead, .dead, .dead, .dead, .dead, .dead, .dead, .dead, .dead, .dead, .dead, .dead, .dead, .dead, .dead, .dead, .dead, .dead, .dead, .dead, .dead, .dead, .dead, .dead, .dead, .dead, .dead, .dead, .dead, .dead, .dead, .dead, .dead, .dead, .dead, .dead, .dead, .dead, .dead, .dead, .dead, .dead, .dead, .dead, .dead, .dead, .dead, .dead, .dead, .dead, .dead, .dead, .dead, .dead, .dead, .dead, .dead, .dead, .dead, .dead, .dead, .dead, .dead, .dead, .dead, .dead, .dead, .dead, .dead, .dead, .dead, .dead, .dead, .dead, .dead, .dead, .dead, .dead, .dead, .dead, .dead, .dead, .dead, .dead, .dead, .dead, .dead, .dead, .dead, .dead, .dead, .dead, .dead, .dead, .dead, .dead, .dead, .dead, .dead, .dead, .dead, .dead, .dead, .dead, .dead, .dead, .dead, .dead, .dead, .dead, .dead, .dead, .dead, .dead, .dead, .dead, .dead, .dead, .dead, .dead, .dead, .dead, .dead, .dead, .dead, .dead, .dead, .dead, .dead, .dead, .dead, .dead, .dead, .dead, .dead, .dead, .dead, .dead, .dead, .dead, .dead, .dead, .dead, .dead, .dead, .dead, .dead, .dead, .dead, .dead, .dead, .dead, .dead, .dead, .dead, .dead, .dead, .dead, .dead, .dead, .dead, .dead, .dead, .dead, .dead, .dead, .dead, .dead, .dead, .dead, .dead, .dead, .dead, .dead, .dead, .dead, .dead, .dead, .dead, .dead, .dead, .dead, .dead, .dead, .dead, .dead, .dead, .dead, .dead, .dead, .dead, .dead, .dead, .dead, .dead, .dead, .dead, .dead, .dead, .dead, .dead, .dead, .dead, .dead, .dead, .dead, .dead, .dead, .dead, .dead, .dead, .dead, .dead, .dead, .dead, .dead, .dead, .dead, .dead, .dead, .dead, .dead, .dead, .dead], stk := [], heap := [] }
noncomputable def laws_FnChunks_l1_o2 (a0 : (List Int)) (x6 : (List Int)) (y50 : (Int × (Int × (Int × Unit)))) (z480 : (List (List Int))) (z590 : (List Int)) (x13 : Int) (x14 : Int) : St := { env := [.pv (.slice (.int .u8)) a0, .dead, .dead, .dead, .dead, .ptr 50 (.pair (.int .i64) (.pair (.int .i64) (.pair (.int .i64) .unit))) [], .pv (.slice (.int .u8)) x6, .sl 480 (.slice (.int .u8)), .dead, .dead, .dead, .sl 590 (.int .i64), .dead, .pv (.int .i64) x13, .pv (.int .i64) x14, .pv (.int .i64) ((z480.getD (x14.toNat) []).length : Int), .dead, .dead, .dead, .dead, .dead, .dead, .dead, .dead, .dead, .dead, .dead, .dead, .dead, .dead, .dead, .dead, .dead, .dead, .dead, .dead, .dead, .dead, .dead, .dead, .dead, .dead, .dead, .dead, .dead, .dead, .dead, .dead, .dead, .dead, .dead, .dead, .dead, .dead, .dead, .dead, .dead, .dead, .dead, .dead, .dead, .dead, .dead, .dead, .dead, .dead, .dead, .dead, .dead, .dead, .dead, .dead, .dead, .dead, .dead, .dead, .dead, .dead, .dead, .dead, .dead, .dead, .dead, .dead, .dead, .dead, .dead, .dead, .dead, .dead, .dead, .dead, .dead, .dead, .dead, .dead, .dead, .dead, .dead, .dead, .dead, .dead, .dead, .dead, .dead, .dead, .dead, .dead, .dead, .dead, .dead, .dead, .dead, .dead, .dead, .dead, .dead, .dead, .dead, .dead, .dead, .dead, .dead, .dead, .dead, .dead, .dead, .dead, .dead, .dead, .dead, .dead, .dead, .dead, .dead, .dead, .dead, .dead, .dead, .dead, .dead, .dead, .dead, .dead, .dead, .dead, .dead, .dead, .dead, .dead, .dead, .dead, .dead, .dead, .dead, .dead, .dead, .dead, .dead, .dead, .dead, .dead, .dead, .dead, .dead, .dead, .dead, .dead, .dead, .dead, .dead, .dead, .dead, .dead, .dead, .dead, .dead, .dead, .dead, .dead, .dead, .dead, .dead, .dead, .dead, .dead, .dead, .dead, .dead, .dead, .dead, .dead, .dead, .dead, .dead, .dead, .dead, .dead, .dead, .dead, .dead, .dead, .dead, .dead, .dead, .dead, .dead, .dead, .dead, .dead, .dead, .dead, .dead, .dead, .dead, .dead, .dead, .dead, .dead, .dead, .dead, .dead, .dead, .dead, .dead, .dead, .dead, .dead, .dead, .dead, .dead, .dead, .dead, .dead, .dead, .dead, .dead, .dead, .dead, .dead, .dead, .dead, .dead, .dead, .dead, .dead, .dead, .dead, .dead, .dead, .dead, .dead, .dead, .dead, .dead, .dead, .dead, .dead, .dead, .dead, .dead, .dead, .dead, .dead, .dead, .dead, .dead, .dead, .dead, .dead, .dead, .dead, .dead, .dead, .dead, .dead, .dead, .dead, .dead, .dead, .dead, .dead, .dead, .dead, .dead, .dead, .dead, .dead, .dead, .dead, .dead, .dead, .dead, .dead, .dead, .dead, .dead, .dead, .dead, .dead, .dead, .dead, .dead, .dead, .dead, .dead, .dead, .dead, .dead, .dead, .dead, .dead, .dead, .dead, .dead], stk := [], heap := [(50, .var (.pair (.int .i64) (.pair (.int .i64) (.pair (.int .i64) .unit))) (.pv (.pair (.int .i64) (.pair (.int .i64) (.pair (.int .i64) .unit))) y50)), (480, .arr 25 (.slice (.int .u8)) z480), (590, .arr 2 (.int .i64) z590)] }
noncomputable def laws_FnChunks_l2_s (z480 : (List (List Int))) (z2550 : (List (List Int))) (x37 : Int) : St := { env := [.dead, .dead, .dead, .dead, .dead, .dead, .dead, .sl 480 (.slice (.int .u8)), .dead, .dead, .dead, .dead, .dead, .dead, .dead, .dead, .dead, .dead, .dead, .dead, .dead, .dead, .dead, .dead, .dead, .dead, .dead, .dead, .dead, .dead, .dead, .dead, .dead, .dead, .dead, .dead, .sl 2550 (.slice (.int .u8)), .pv (.int .i64) x37, .dead, .dead, .dead, .dead, .dead, .dead, .dead, .dead, .dead, .dead, .dead, .dead, .dead, .dead, .dead, .dead, .dead, .dead, .dead, .dead, .dead, .dead, .dead, .dead, .dead, .dead, .dead, .dead, .dead, .dead, .dead, .dead, .dead, .dead, .dead, .dead, .dead, .dead, .dead, .dead, .dead, .dead, .dead, .dead, .dead, .dead, .dead, .dead, .dead, .dead, .dead, .dead, .dead, .dead, .dead, .dead, .dead, .dead, .dead, .dead, .dead, .dead, .dead, .dead, .dead, .dead, .dead, .dead, .dead, .dead, .dead, .dead, .dead, .dead, .dead, .dead, .dead, .dead, .dead, .dead, .dead, .dead, .dead, .dead, .dead, .dead, .dead, .dead, .dead, .dead, .dead, .dead, .dead, .dead, .dead, .dead, .dead, .dead, .dead, .dead, .dead, .dead, .dead, .dead, .dead, .dead, .dead, .dead, .dead, .dead, .dead, .dead, .dead, .dead, .dead, .dead, .dead, .dead, .dead, .dead, .dead, .dead, .dead, .dead, .dead, .dead, .dead, .dead, .dead, .dead, .dead, .dead, .dead, .dead, .dead, .dead, .dead, .dead, .dead, .dead, .dead, .dead, .dead, .dead, .dead, .dead, .dead, .dead, .dead, .dead, .dead, .dead, .dead, .dead, .dead, .dead, .dead, .dead, .dead, .dead, .dead, .dead, .dead, .dead, .dead, .dead, .dead, .dead, .dead, .dead, .dead, .dead, .dead, .dead, .dead, .dead, .dead, .dead, .dead, .dead, .dead, .dead, .dead, .dead, .dead, .dead, .dead, .dead, .dead, .dead, .dead, .dead, .dead, .dead, .dead, .dead, .dead, .dead, .dead, .dead, .dead, .dead, .dead, .dead, .dead, .dead, .dead, .dead, .dead, .dead, .dead, .dead, .dead, .dead, .dead, .dead, .dead, .dead, .dead, .dead, .dead, .dead, .dead, .dead, .dead, .dead, .dead, .dead, .dead, .dead, .dead, .dead, .dead, .dead, .dead, .dead, .dead, .dead, .dead, .dead, .dead, .dead, .dead, .dead, .dead, .dead, .dead, .dead, .dead, .dead, .dead, .dead, .dead, .dead, .dead, .dead, .dead, .dead, .dead, .dead, .dead, .dead, .dead, .dead, .dead, .dead, .dead, .dead, .dead, .dead, .dead, .dead, .dead, .dead, .dead, .dead, .dead], stk := [], heap := [(480, .arr 25 (.slice (.int .u8)) z480), (2550, .arr 25 (.slice (.int .u8)) z2550)] }
noncomputable def laws_FnChunks_l2_o  : St := { env := [.dead, .dead, .dead, .dead, .pv .bool false, .dead, .dead, .dead, .dead, .dead, .dead, .dead, .dead, .dead, .dead, .dead, .dead, .dead, .dead, .dead, .dead, .dead, .dead, .dead, .dead, .dead, .dead, .dead, .dead, .dead, .dead, .dead, .dead, .dead, .dead, .dead, .dead, .dead, .dead, .dead, .dead, .dead, .dead, .dead, .dead, .dead, .dead, .dead, .dead, .dead, .dead, .dead, .dead, .dead, .dead, .dead, .dead, .dead, .dead, .dead, .dead, .dead, .dead, .dead, .dead, .dead, .dead, .dead, .dead, .dead, .dead, .dead, .dead, .dead, .dead, .dead, .dead, .dead, .dead, .dead, .dead, .dead, .dead, .dead, .dead, .dead, .dead, .dead, .dead, .dead, .dead, .dead, .dead, .dead, .dead, .dead, .dead, .dead, .dead, .dead, .dead, .dead, .dead, .dead, .dead, .dead, .dead, .dead, .dead, .dead, .dead, .dead, .dead, .dead, .dead, .dead, .dead, .dead, .dead, .dead, .dead, .dead, .dead, .dead, .dead, .dead, .dead, .dead, .dead, .dead, .dead, .dead, .dead, .dead, .dead, .dead, .dead, .dead, .dead, .dead, .dead, .dead, .dead, .dead, .dead, .dead, .dead, .dead, .dead, .dead, .dead, .dead, .dead, .dead, .dead, .dead, .dead, .dead, .dead, .dead, .dead, .dead, .dead, .dead, .dead, .dead, .dead, .dead, .dead, .dead, .dead, .dead, .dead, .dead, .dead, .dead, .dead, .dead, .dead, .dead, .dead, .dead, .dead, .dead, .dead, .dead, .dead, .dead, .dead, .dead, .dead, .dead, .dead, .dead, .dead, .dead, .dead, .dead, .dead, .dead, .dead, .dead, .dead, .dead, .dead, .dead, .dead, .dead, .dead, .dead, .dead, .dead, .dead, .dead, .dead, .dead, .dead, .dead, .dead, .dead, .dead, .dead, .dead, .dead, .dead, .dead, .dead, .dead, .dead, .dead, .dead, .dead, .dead, .dead, .dead, .dead, .dead, .dead, .dead, .dead, .dead, .dead, .dead, .dead, .dead, .dead, .dead, .dead, .dead, .dead, .dead, .dead, .dead, .dead, .dead, .dead, .dead, .dead, .dead, .dead, .dead, .dead, .dead, .dead, .dead, .dead, .dead, .dead, .dead, .dead, .dead, .dead, .dead, .dead, .dead, .dead, .dead, .dead, .dead, .dead, .dead, .dead, .dead, .dead, .dead, .dead, .dead, .dead, .dead, .dead, .dead, .dead, .dead, .dead, .dead, .dead, .dead, .dead, .dead, .dead, .dead, .dead, .dead, .dead, .dead, .dead, .dead, .dead, .dead, .dead, .dead, .dead, .dead, .dead, .dead], stk := [], heap := [] }
noncomputable def laws_FnChunks_l2_o4  : St := { env := [.dead, .dead, .dead, .dead, .dead, .dead, .dead, .dead, .dead, .dead, .dead, .dead, .dead, .dead, .dead, .dead, .dead, .dead, .dead, .dead, .dead, .dead, .dead, .dead, .dead, .dead, .dead, .dead, .dead, .dead, .dead, .dead, .dead, .dead, .dead, .dead, .dead, .dead, .dead, .dead, .dead, .dead, .dead, .dead, .dead, .dead, .dead, .dead, .dead, .dead, .dead, .dead, .dead, .dead, .dead, .dead, .dead, .dead, .dead, .dead, .dead, .dead, .dead, .dead, .dead, .dead, .dead, .dead, .dead, .dead, .dead, .dead, .dead, .dead, .dead, .dead, .dead, .dead, .dead, .dead, .dead, .dead, .dead, .dead, .dead, .dead, .dead, .dead, .dead, .dead, .dead, .dead, .dead, .dead, .dead, .dead, .dead, .dead, .dead, .dead, .dead, .dead, .dead, .dead, .dead, .dead, .dead, .dead, .dead, .dead, .dead, .dead, .dead, .dead, .dead, .dead, .dead, .dead, .dead, .dead, .dead, .dead, .dead, .dead, .dead, .dead, .dead, .dead, .dead, .dead, .dead, .dead, .dead, .dead, .dead, .dead, .dead, .dead, .dead, .dead, .dead, .dead, .dead, .dead, .dead, .dead, .dead, .dead, .dead, .dead, .dead, .dead, .dead, .dead, .dead, .dead, .dead, .dead, .dead, .dead, .dead, .dead, .dead, .dead, .dead, .dead, .dead, .dead, .dead, .dead, .dead, .dead, .dead, .dead, .dead, .dead, .dead, .dead, .dead, .dead, .dead, .dead, .dead, .dead, .dead, .dead, .dead, .dead, .dead, .dead, .dead, .dead, .dead, .dead, .dead, .dead, .dead, .dead, .dead, .dead, .dead, .dead, .dead, .dead, .dead, .dead, .dead, .dead, .dead, .dead, .dead, .dead, .dead, .dead, .dead, .dead, .dead, .dead, .dead, .dead, .dead, .dead, .dead, .dead, .dead, .dead, .dead, .dead, .dead, .dead, .dead, .dead, .dead, .dead, .dead, .dead, .dead, .dead, .dead, .dead, .dead, .dead, .dead, .dead, .dead, .dead, .dead, .dead, .dead, .dead, .dead, .dead, .dead, .dead, .dead, .dead, .dead, .dead, .dead, .dead, .dead, .dead, .dead, .dead, .dead, .dead, .dead, .dead, .dead, .dead, .dead, .dead, .dead, .dead, .dead, .dead, .dead, .dead, .dead, .dead, .dead, .dead, .dead, .dead, .dead, .dead, .dead, .dead, .dead, .dead, .dead, .dead, .dead, .dead, .dead, .dead, .dead, .dead, .dead, .dead, .dead, .dead, .dead, .dead, .dead, .dead, .dead, .dead, .dead, .dead, .dead, .dead, .dead, .dead, .dead], stk := [], heap := [] }
noncomputable def laws_FnChunks_l2_b (rec : (List (List Int)) → (List (List Int)) → Int → Option (shDen laws_FnChunks_sh)) (kr : Option (shDen laws_FnChunks_sh)) (ke4 : Option (shDen laws_FnChunks_sh)) (z480 : (List (List Int))) (z2550 : (List (List Int))) (x37 : Int) : Option (shDen laws_FnChunks_sh) :=
 (cond (decide (x37 < (z2550.length : Int)))
 (cond ((decide ((0 : Int) ≤ x37)) && (decide (x37 < (z2550.length : Int))))
 (cond ((decide ((0 : Int) ≤ x37)) && (decide (x37 < (z480.length : Int))))
 (bindO (spec_SameBytes_r (z2550.getD (x37.toNat) []) (z480.getD (x37.toNat) [])) fun (b29 : Bool) => (cond (!b29)
 (kr)
 (rec z480 z2550 (IntKind.wrap .i64 (x37 + (1 : Int))))))
 none)
 none)
 (ke4))
noncomputable def laws_FnChunks_l2_L (kr : Option (shDen laws_FnChunks_sh)) (ke4 : Option (shDen laws_FnChunks_sh))  : Nat → (List (List Int)) → (List (List Int)) → Int → Option (shDen laws_FnChunks_sh)
 | 0 => fun _ _ _ => none
 | n + 1 => laws_FnChunks_l2_b (laws_FnChunks_l2_L kr ke4  n) kr ke4 
noncomputable def laws_FnChunks_l1_b (rec : Int → Option (shDen laws_FnChunks_sh)) (kr : Option (shDen laws_FnChunks_sh)) (ke2 : Option (shDen laws_FnChunks_sh)) (a0 : (List Int)) (x6 : (List Int)) (y50 : (Int × (Int × (Int × Unit)))) (z480 : (List (List Int))) (z590 : (List Int)) (x13 : Int) (x14 : Int) (x18 : Int) : Option (shDen laws_FnChunks_sh) :=
 (cond (decide (x18 < ((z480.getD (x14.toNat) []).length : Int)))
 (cond ((decide ((0 : Int) ≤ x14)) && (decide (x14 < (z480.length : Int))))
 (cond ((decide ((0 : Int) ≤ x18)) && (decide (x18 ≤ ((z480.getD (x14.toNat) []).length : Int))))
 (bindO (spec_RollOf_r (cutL (z480.getD (x14.toNat) []) 0 (x18.toNat))) fun (b16 : Int) => (cond (decide ((IntKind.wrap .u64 y50.2.2.1) < (0 : Int)))
 none
 (cond (decide ((shlI .u32 (1 : Int) (IntKind.wrap .u64 y50.2.2.1)) = (0 : Int)))
 none
 (cond (decide ((Int.tmod b16 (shlI .u32 (1 : Int) (IntKind.wrap .u64 y50.2.2.1))) = (0 : Int)))
 (kr)
 (rec (IntKind.wrap .i64 (x18 + (1 : Int))))))))
 none)
 none)
 (ke2))
noncomputable def laws_FnChunks_l1_L (kr : Option (shDen laws_FnChunks_sh)) (ke2 : Option (shDen laws_FnChunks_sh)) (a0 : (List Int)) (x6 : (List Int)) (y50 : (Int × (Int × (Int × Unit)))) (z480 : (List (List Int))) (z590 : (List Int)) (x13 : Int) (x14 : Int) : Nat → Int → Option (shDen laws_FnChunks_sh)
 | 0 => fun _ => none
 | n + 1 => laws_FnChunks_l1_b (laws_FnChunks_l1_L kr ke2 a0 x6 y50 z480 z590 x13 x14 n) kr ke2 a0 x6 y50 z480 z590 x13 x14
noncomputable def laws_FnChunks_l0_b (rec : (List Int) → (Int × (Int × (Int × Unit))) → (List (List Int)) → (List Int) → Int → Int → Option (shDen laws_FnChunks_sh)) (kr : Option (shDen laws_FnChunks_sh)) (ke0 : (List Int) → (Int × (Int × (Int × Unit))) → (List (List Int)) → Option (shDen laws_FnChunks_sh)) (a0 : (List Int)) (x6 : (List Int)) (y50 : (Int × (Int × (Int × Unit)))) (z480 : (List (List Int))) (z590 : (List Int)) (x13 : Int) (x14 : Int) : Option (shDen laws_FnChunks_sh) :=
 (cond (decide (x14 < (z480.length : Int)))
 (cond ((decide ((0 : Int) ≤ x14)) && (decide (x14 < (z480.length : Int))))
 (cond ((decide ((0 : Int) ≤ x14)) && (decide (x14 < (z480.length : Int))))
 (bindO (impl_RollOf_r (z480.getD (x14.toNat) [])) fun (b14 : Int) => (cond (decide ((IntKind.wrap .u64 y50.2.2.1) < (0 : Int)))
 none
 (cond (decide ((shlI .u32 (1 : Int) (IntKind.wrap .u64 y50.2.2.1)) = (0 : Int)))
 none
 (cond (decide ((Int.tmod b14 (shlI .u32 (1 : Int) (IntKind.wrap .u64 y50.2.2.1))) = (0 : Int)))
 (cond (decide (y50.1 ≤ ((z480.getD (x14.toNat) []).length : Int)))
 (cond (decide (((z480.getD (x14.toNat) []).length : Int) < (1 : Int)))
 (kr)
 (cond (decide (y50.2.1 < ((z480.getD (x14.toNat) []).length : Int)))
 (kr)
 (cond ((decide ((0 : Int) ≤ x14)) && (decide (x14 < (z590.length : Int))))
 (cond (!(decide ((z590.getD (x14.toNat) (0 : Int)) = (IntKind.wrap .i64 (x13 + ((z480.getD (x14.toNat) []).length : Int))))))
 (kr)
 (cond (decide ((IntKind.wrap .i64 (x14 + (1 : Int))) < (z480.length : Int)))
 (laws_FnChunks_l1_L (kr) (bindO (impl_ChunkAt_r y50 x6 x13) fun (b17 : (Int × (Int × Int))) => (bindO (impl_ChunkAt_r y50 x6 (IntKind.wrap .i64 ((IntKind.wrap .i64 (x13 + ((z480.getD (x14.toNat) []).length : Int))) - (1 : Int)))) fun (b18 : (Int × (Int × Int))) => (cond (!(decide (b17.2.2 = (0 : Int))))
 (kr)
 (cond (!(decide (b18.2.2 = (0 : Int))))
 (kr)
 (cond (!(decide (b17.1 = x14)))
 (kr)
 (cond (!(decide (b17.2.1 = x13)))
 (kr)
 (cond (!(decide (b18.1 = b17.1)))
 (kr)
 (cond (!(decide (b18.2.1 = x13)))
 (kr)
 (rec x6 y50 z480 z590 (IntKind.wrap .i64 (x13 + ((z480.getD (x14.toNat) []).length : Int))) (IntKind.wrap .i64 (x14 + (1 : Int)))))))))))) a0 x6 y50 z480 z590 x13 x14 FUEL y50.1)
 (laws_FnChunks_l1_L (kr) (bindO (impl_ChunkAt_r y50 x6 x13) fun (b17 : (Int × (Int × Int))) => (bindO (impl_ChunkAt_r y50 x6 (IntKind.wrap .i64 ((IntKind.wrap .i64 (x13 + ((z480.getD (x14.toNat) []).length : Int))) - (1 : Int)))) fun (b18 : (Int × (Int × Int))) => (cond (!(decide (b17.2.2 = (0 : Int))))
 (kr)
 (cond (!(decide (b18.2.2 = (0 : Int))))
 (kr)
 (cond (!(decide (b17.1 = x14)))
 (kr)
 (cond (!(decide (b17.2.1 = x13)))
 (kr)
 (cond (!(decide (b18.1 = b17.1)))
 (kr)
 (cond (!(decide (b18.2.1 = x13)))
 (kr)
 (rec x6 y50 z480 z590 (IntKind.wrap .i64 (x13 + ((z480.getD (x14.toNat) []).length : Int))) (IntKind.wrap .i64 (x14 + (1 : Int)))))))))))) a0 x6 y50 z480 z590 x13 x14 FUEL y50.1)))
 none)))
 (cond (decide (((z480.getD (x14.toNat) []).length : Int) < (1 : Int)))
 (kr)
 (cond (decide (y50.2.1 < ((z480.getD (x14.toNat) []).length : Int)))
 (kr)
 (cond ((decide ((0 : Int) ≤ x14)) && (decide (x14 < (z590.length : Int))))
 (cond (!(decide ((z590.getD (x14.toNat) (0 : Int)) = (IntKind.wrap .i64 (x13 + ((z480.getD (x14.toNat) []).length : Int))))))
 (kr)
 (cond (decide ((IntKind.wrap .i64 (x14 + (1 : Int))) < (z480.length : Int)))
 (cond (!(decide (((z480.getD (x14.toNat) []).length : Int) = y50.2.1)))
 (kr)
 (laws_FnChunks_l1_L (kr) (bindO (impl_ChunkAt_r y50 x6 x13) fun (b17 : (Int × (Int × Int))) => (bindO (impl_ChunkAt_r y50 x6 (IntKind.wrap .i64 ((IntKind.wrap .i64 (x13 + ((z480.getD (x14.toNat) []).length : Int))) - (1 : Int)))) fun (b18 : (Int × (Int × Int))) => (cond (!(decide (b17.2.2 = (0 : Int))))
 (kr)
 (cond (!(decide (b18.2.2 = (0 : Int))))
 (kr)
 (cond (!(decide (b17.1 = x14)))
 (kr)
 (cond (!(decide (b17.2.1 = x13)))
 (kr)
 (cond (!(decide (b18.1 = b17.1)))
 (kr)
 (cond (!(decide (b18.2.1 = x13)))
 (kr)
 (rec x6 y50 z480 z590 (IntKind.wrap .i64 (x13 + ((z480.getD (x14.toNat) []).length : Int))) (IntKind.wrap .i64 (x14 + (1 : Int)))))))))))) a0 x6 y50 z480 z590 x13 x14 FUEL y50.1))
 (laws_FnChunks_l1_L (kr) (bindO (impl_ChunkAt_r y50 x6 x13) fun (b17 : (Int × (Int × Int))) => (bindO (impl_ChunkAt_r y50 x6 (IntKind.wrap .i64 ((IntKind.wrap .i64 (x13 + ((z480.getD (x14.toNat) []).length : Int))) - (1 : Int)))) fun (b18 : (Int × (Int × Int))) => (cond (!(decide (b17.2.2 = (0 : Int))))
 (kr)
 (cond (!(decide (b18.2.2 = (0 : Int))))
 (kr)
 (cond (!(decide (b17.1 = x14)))
 (kr)
 (cond (!(decide (b17.2.1 = x13)))
 (kr)
 (cond (!(decide (b18.1 = b17.1)))
 (kr)
 (cond (!(decide (b18.2.1 = x13)))
 (kr)
 (rec x6 y50 z480 z590 (IntKind.wrap .i64 (x13 + ((z480.getD (x14.toNat) []).length : Int))) (IntKind.wrap .i64 (x14 + (1 : Int)))))))))))) a0 x6 y50 z480 z590 x13 x14 FUEL y50.1)))
 none))))
 (cond (decide (((z480.getD (x14.toNat) []).length : Int) < (1 : Int)))
 (kr)
 (cond (decide (y50.2.1 < ((z480.getD (x14.toNat) []).length : Int)))
 (kr)
 (cond ((decide ((0 : Int) ≤ x14)) && (decide (x14 < (z590.length : Int))))
 (cond (!(decide ((z590.getD (x14.toNat) (0 : Int)) = (IntKind.wrap .i64 (x13 + ((z480.getD (x14.toNat) []).length : Int))))))
 (kr)
 (cond (decide ((IntKind.wrap .i64 (x14 + (1 : Int))) < (z480.length : Int)))
 (cond (!(decide (((z480.getD (x14.toNat) []).length : Int) = y50.2.1)))
 (kr)
 (laws_FnChunks_l1_L (kr) (bindO (impl_ChunkAt_r y50 x6 x13) fun (b17 : (Int × (Int × Int))) => (bindO (impl_ChunkAt_r y50 x6 (IntKind.wrap .i64 ((IntKind.wrap .i64 (x13 + ((z480.getD (x14.toNat) []).length : Int))) - (1 : Int)))) fun (b18 : (Int × (Int × Int))) => (cond (!(decide (b17.2.2 = (0 : Int))))
 (kr)
 (cond (!(decide (b18.2.2 = (0 : Int))))
 (kr)
 (cond (!(decide (b17.1 = x14)))
 (kr)
 (cond (!(decide (b17.2.1 = x13)))
 (kr)
 (cond (!(decide (b18.1 = b17.1)))
 (kr)
 (cond (!(decide (b18.2.1 = x13)))
 (kr)
 (rec x6 y50 z480 z590 (IntKind.wrap .i64 (x13 + ((z480.getD (x14.toNat) []).length : Int))) (IntKind.wrap .i64 (x14 + (1 : Int)))))))))))) a0 x6 y50 z480 z590 x13 x14 FUEL y50.1))
 (laws_FnChunks_l1_L (kr) (bindO (impl_ChunkAt_r y50 x6 x13) fun (b17 : (Int × (Int × Int))) => (bindO (impl_ChunkAt_r y50 x6 (IntKind.wrap .i64 ((IntKind.wrap .i64 (x13 + ((z480.getD (x14.toNat) []).length : Int))) - (1 : Int)))) fun (b18 : (Int × (Int × Int))) => (cond (!(decide (b17.2.2 = (0 : Int))))
 (kr)
 (cond (!(decide (b18.2.2 = (0 : Int))))
 (kr)
 (cond (!(decide (b17.1 = x14)))
 (kr)
 (cond (!(decide (b17.2.1 = x13)))
 (kr)
 (cond (!(decide (b18.1 = b17.1)))
 (kr)
 (cond (!(decide (b18.2.1 = x13)))
 (kr)
 (rec x6 y50 z480 z590 (IntKind.wrap .i64 (x13 + ((z480.getD (x14.toNat) []).length : Int))) (IntKind.wrap .i64 (x14 + (1 : Int)))))))))))) a0 x6 y50 z480 z590 x13 x14 FUEL y50.1)))
 none)))))))
 none)
 none)
 (ke0 x6 y50 z480))
noncomputable def laws_FnChunks_l0_L (kr : Option (shDen laws_FnChunks_sh)) (ke0 : (List Int) → (Int × (Int × (Int × Unit))) → (List (List Int)) → Option (shDen laws_FnChunks_sh)) (a0 : (List Int)) : Nat → (List Int) → (Int × (Int × (Int × Unit))) → (List (List Int)) → (List Int) → Int → Int → Option (shDen laws_FnChunks_sh)
 | 0 => fun _ _ _ _ _ _ => none
 | n + 1 => laws_FnChunks_l0_b (laws_FnChunks_l0_L kr ke0 a0 n) kr ke0 a0
noncomputable def laws_FnChunks_r (a0 : (List Int)) (a1 : (List Int)) : Option (shDen laws_FnChunks_sh) :=
 (bindO (laws_a2Long_r a0 a1) fun (b1 : Bool) => (cond b1
 (some true)
 (bindO (spec_A2Rule_r a0) fun (b2 : (Int × (Int × (Int × Unit)))) => (bindO (spec_A2Data_r a1 (80 : Int)) fun (b3 : (List Int)) => (bindO (impl_ChunksOf_r b2 b3) fun (b4 : ((List (List Int)) × Int)) => (bindO (impl_JoinChunks_r b4.1) fun (b5 : ((List Int) × Int)) => (bindO (impl_CutPlaces_r b2 b3) fun (b6 : ((List Int) × Int)) => (cond (!(decide (b4.2 = (0 : Int))))
 (some false)
 (cond (!(decide (b5.2 = (0 : Int))))
 (some false)
 (cond (!(decide (b6.2 = (0 : Int))))
 (some false)
 (bindO (spec_SameBytes_r b5.1 b3) fun (b7 : Bool) => (cond (!b7)
 (some false)
 (cond (!(decide ((b6.1.length : Int) = (b4.1.length : Int))))
 (some false)
 (bindO (impl_ValidRule_r b2) fun (b8 : Bool) => (cond (!b8)
 (some false)
 (laws_FnChunks_l0_L (some false) (fun x6 y50 z480 => (bindO (impl_StartCutter_r y50) fun (b19 : (((Int × (Int × (Int × Unit))) × (Int × ((List Int) × Unit))) × Int)) => (bindO (laws_a2At_r a0 (4 : Int) (IntKind.wrap .i64 ((x6.length : Int) + (1 : Int)))) fun (b20 : Int) => (cond ((decide ((0 : Int) ≤ b20)) && (decide (b20 ≤ (x6.length : Int))))
 (bindO (impl_FeedCutter_r b19.1 (cutL x6 0 (b20.toNat))) fun (b21 : (((Int × (Int × (Int × Unit))) × (Int × ((List Int) × Unit))) × ((List (List Int)) × Int))) => (cond ((decide ((0 : Int) ≤ b20)) && (decide (b20 ≤ (x6.length : Int))))
 (bindO (impl_FeedCutter_r (b21.1.1, (b21.1.2.1, (b21.1.2.2.1, ()))) (cutL x6 (b20.toNat) (x6.length))) fun (b22 : (((Int × (Int × (Int × Unit))) × (Int × ((List Int) × Unit))) × ((List (List Int)) × Int))) => (bindO (impl_EndCutter_r (b22.1.1, (b22.1.2.1, (b22.1.2.2.1, ())))) fun (b23 : ((List Int) × Int)) => (cond (decide ((0 + b21.2.1.length) * 24 ≤ 140737488355328) && decide (0 + b21.2.1.length ≤ 9223372036854775807))
 (cond (decide ((([] ++ b21.2.1).length + b22.2.1.length) * 24 ≤ 140737488355328) && decide (([] ++ b21.2.1).length + b22.2.1.length ≤ 9223372036854775807))
 (cond (decide ((0 : Int) < (b23.1.length : Int)))
 (cond (decide (((([] ++ b21.2.1) ++ b22.2.1).length + 1) * 24 ≤ 140737488355328) && decide ((([] ++ b21.2.1) ++ b22.2.1).length + 1 ≤ 9223372036854775807))
 (cond (!(decide (b19.2 = (0 : Int))))
 (some false)
 (cond (!(decide (b21.2.2 = (0 : Int))))
 (some false)
 (cond (!(decide (b22.2.2 = (0 : Int))))
 (some false)
 (cond (!(decide (b23.2 = (0 : Int))))
 (some false)
 (bindO (impl_ValidCutter_r (b21.1.1, (b21.1.2.1, (b21.1.2.2.1, ())))) fun (b24 : Bool) => (cond (!b24)
 (some false)
 (bindO (impl_SameCutter_r (b21.1.1, (b21.1.2.1, (b21.1.2.2.1, ()))) (b21.1.1, (b21.1.2.1, (b21.1.2.2.1, ())))) fun (b25 : Bool) => (cond (!b25)
 (some false)
 (cond (!(decide ((((([] ++ b21.2.1) ++ b22.2.1) ++ [b23.1]).length : Int) = (z480.length : Int))))
 (some false)
 (laws_FnChunks_l2_L (some false) (some true) FUEL z480 ((([] ++ b21.2.1) ++ b22.2.1) ++ [b23.1]) (0 : Int)))))))))))
 none)
 (cond (!(decide (b19.2 = (0 : Int))))
 (some false)
 (cond (!(decide (b21.2.2 = (0 : Int))))
 (some false)
 (cond (!(decide (b22.2.2 = (0 : Int))))
 (some false)
 (cond (!(decide (b23.2 = (0 : Int))))
 (some false)
 (bindO (impl_ValidCutter_r (b21.1.1, (b21.1.2.1, (b21.1.2.2.1, ())))) fun (b26 : Bool) => (cond (!b26)
 (some false)
 (bindO (impl_SameCutter_r (b21.1.1, (b21.1.2.1, (b21.1.2.2.1, ()))) (b21.1.1, (b21.1.2.1, (b21.1.2.2.1, ())))) fun (b27 : Bool) => (cond (!b27)
 (some false)
 (cond (!(decide (((([] ++ b21.2.1) ++ b22.2.1).length : Int) = (z480.length : Int))))
 (some false)
 (laws_FnChunks_l2_L (some false) (some true) FUEL z480 (([] ++ b21.2.1) ++ b22.2.1) (0 : Int))))))))))))
 none)
 none)))
 none))
 none)))) a0 FUEL b3 b2 b4.1 b6.1 (0 : Int) (0 : Int)))))))))))))))))
theorem laws_FnChunks_l2_round (k : Nat) (K : Ex → St → Option (shDen laws_FnChunks_sh)) (n : Nat) (z480 : (List (List Int))) (z2550 : (List (List Int))) (x37 : Int) : (loopK (laws_FnChunks_cx k) 0 (execK (laws_FnChunks_cx k) (callK (laws_FnChunks_cx k) 8) 0 7 (sub laws_FnChunks_c [1, 1, 1, 1, 1, 1, 1, 1, 1, 1, 1, 1, 1, 1, 1, 1, 1, 1, 0, 1, 0, 0])) laws_FnChunks_l2_cut K (n + 1) (laws_FnChunks_l2_s z480 z2550 x37) : Option (shDen laws_FnChunks_sh)) =
 ((cond (decide (x37 < (z2550.length : Int)))
 (cond ((decide ((0 : Int) ≤ x37)) && (decide (x37 < (z2550.length : Int))))
 (cond ((decide ((0 : Int) ≤ x37)) && (decide (x37 < (z480.length : Int))))
 (bindO (spec_SameBytes_r (z2550.getD (x37.toNat) []) (z480.getD (x37.toNat) [])) fun (b29 : Bool) => (cond (!b29)
 (K .ret (laws_FnChunks_l2_o ))
 (loopK (laws_FnChunks_cx k) 0 (execK (laws_FnChunks_cx k) (callK (laws_FnChunks_cx k) 8) 0 7 (sub laws_FnChunks_c [1, 1, 1, 1, 1, 1, 1, 1, 1, 1, 1, 1, 1, 1, 1, 1, 1, 1, 0, 1, 0, 0])) laws_FnChunks_l2_cut K n (laws_FnChunks_l2_s z480 z2550 (IntKind.wrap .i64 (x37 + (1 : Int)))))))
 none)
 none)
 (K (.exit 4) (laws_FnChunks_l2_o4 ))) : Option (shDen laws_FnChunks_sh)) := by kernel_rfl

theorem laws_FnChunks_l2_ret (k : Nat)   : ((blkK 4 (seqK (execK (laws_FnChunks_cx k) (callK (laws_FnChunks_cx k) 8) 0 7 (sub laws_FnChunks_c [1, 1, 1, 1, 1, 1, 1, 1, 1, 1, 1, 1, 1, 1, 1, 1, 1, 1, 1])) (finK (laws_FnChunks_cx k) laws_FnChunks_i laws_FnChunks_sh))) .ret (laws_FnChunks_l2_o) : Option (shDen laws_FnChunks_sh)) =
 ((some false) : Option (shDen laws_FnChunks_sh)) := by kernel_rfl

theorem laws_FnChunks_l2_exit4 (k : Nat)   : ((blkK 4 (seqK (execK (laws_FnChunks_cx k) (callK (laws_FnChunks_cx k) 8) 0 7 (sub laws_FnChunks_c [1, 1, 1, 1, 1, 1, 1, 1, 1, 1, 1, 1, 1, 1, 1, 1, 1, 1, 1])) (finK (laws_FnChunks_cx k) laws_FnChunks_i laws_FnChunks_sh))) (.exit 4) (laws_FnChunks_l2_o4) : Option (shDen laws_FnChunks_sh)) =
 ((some true) : Option (shDen laws_FnChunks_sh)) := by kernel_rfl

theorem laws_FnChunks_l2_congr (kr : Option (shDen laws_FnChunks_sh)) (ke4 : Option (shDen laws_FnChunks_sh)) (kr' : Option (shDen laws_FnChunks_sh)) (ke4' : Option (shDen laws_FnChunks_sh))  (n : Nat) (z480 : (List (List Int))) (z2550 : (List (List Int))) (x37 : Int) (hkr : ∀ (_ : Unit), kr  = kr' ) (hke4 : ∀ (_ : Unit), ke4  = ke4' ) : laws_FnChunks_l2_L kr ke4  n z480 z2550 x37 = laws_FnChunks_l2_L kr' ke4'  n z480 z2550 x37 := by
 have : kr = kr' := hkr (); subst this; have : ke4 = ke4' := hke4 (); subst this; rfl

theorem laws_FnChunks_l2_L_eq (K : Ex → St → Option (shDen laws_FnChunks_sh))  : ∀ (n : Nat) (z480 : (List (List Int))) (z2550 : (List (List Int))) (x37 : Int), (loopK (laws_FnChunks_cx FUEL) 0 (execK (laws_FnChunks_cx FUEL) (callK (laws_FnChunks_cx FUEL) 8) 0 7 (sub laws_FnChunks_c [1, 1, 1, 1, 1, 1, 1, 1, 1, 1, 1, 1, 1, 1, 1, 1, 1, 1, 0, 1, 0, 0])) laws_FnChunks_l2_cut K n (laws_FnChunks_l2_s z480 z2550 x37) : Option (shDen laws_FnChunks_sh)) = laws_FnChunks_l2_L (K .ret (laws_FnChunks_l2_o)) (K (.exit 4) (laws_FnChunks_l2_o4))  n z480 z2550 x37 := by
 intro n
 induction n with
 | zero => intros; rfl
 | succ n ih =>
  intro z480 z2550 x37
  exact (laws_FnChunks_l2_round FUEL K n  z480 z2550 x37).trans (condC (condC (condC (bindC (fun b29 => condC (rfl) (ih z480 z2550 (IntKind.wrap .i64 (x37 + (1 : Int)))))) (rfl)) (rfl)) (rfl))

theorem laws_FnChunks_l1_round (k : Nat) (K : Ex → St → Option (shDen laws_FnChunks_sh)) (n : Nat) (a0 : (List Int)) (x6 : (List Int)) (y50 : (Int × (Int × (Int × Unit)))) (z480 : (List (List Int))) (z590 : (List Int)) (x13 : Int) (x14 : Int) (x18 : Int) : (loopK (laws_FnChunks_cx k) 0 (execK (laws_FnChunks_cx k) (callK (laws_FnChunks_cx k) 8) 0 7 (sub laws_FnChunks_c [1, 1, 1, 1, 1, 1, 1, 1, 1, 0, 1, 0, 0, 1, 0, 0, 1, 1, 1, 1, 0, 1, 0, 0])) laws_FnChunks_l1_cut K (n + 1) (laws_FnChunks_l1_s a0 x6 y50 z480 z590 x13 x14 x18) : Option (shDen laws_FnChunks_sh)) =
 ((cond (decide (x18 < ((z480.getD (x14.toNat) []).length : Int)))
 (cond ((decide ((0 : Int) ≤ x14)) && (decide (x14 < (z480.length : Int))))
 (cond ((decide ((0 : Int) ≤ x18)) && (decide (x18 ≤ ((z480.getD (x14.toNat) []).length : Int))))
 (bindO (spec_RollOf_r (cutL (z480.getD (x14.toNat) []) 0 (x18.toNat))) fun (b16 : Int) => (cond (decide ((IntKind.wrap .u64 y50.2.2.1) < (0 : Int)))
 none
 (cond (decide ((shlI .u32 (1 : Int) (IntKind.wrap .u64 y50.2.2.1)) = (0 : Int)))
 none
 (cond (decide ((Int.tmod b16 (shlI .u32 (1 : Int) (IntKind.wrap .u64 y50.2.2.1))) = (0 : Int)))
 (K .ret (laws_FnChunks_l1_o ))
 (loopK (laws_FnChunks_cx k) 0 (execK (laws_FnChunks_cx k) (callK (laws_FnChunks_cx k) 8) 0 7 (sub laws_FnChunks_c [1, 1, 1, 1, 1, 1, 1, 1, 1, 0, 1, 0, 0, 1, 0, 0, 1, 1, 1, 1, 0, 1, 0, 0])) laws_FnChunks_l1_cut K n (laws_FnChunks_l1_s a0 x6 y50 z480 z590 x13 x14 (IntKind.wrap .i64 (x18 + (1 : Int)))))))))
 none)
 none)
 (K (.exit 2) (laws_FnChunks_l1_o2 a0 x6 y50 z480 z590 x13 x14))) : Option (shDen laws_FnChunks_sh)) := by kernel_rfl

theorem laws_FnChunks_l1_ret (k : Nat) (K : Ex → St → Option (shDen laws_FnChunks_sh)) (n : Nat)  : ((blkK 2 (seqK (execK (laws_FnChunks_cx k) (callK (laws_FnChunks_cx k) 8) 0 7 (sub laws_FnChunks_c [1, 1, 1, 1, 1, 1, 1, 1, 1, 0, 1, 0, 0, 1, 0, 0, 1, 1, 1, 1, 1])) (blkK 1 (seqK (execK (laws_FnChunks_cx k) (callK (laws_FnChunks_cx k) 8) 0 7 (sub laws_FnChunks_c [1, 1, 1, 1, 1, 1, 1, 1, 1, 0, 1, 0, 0, 1, 1])) (iterK (laws_FnChunks_cx k) 0 laws_FnChunks_l0_cut (loopK (laws_FnChunks_cx k) 0 (execK (laws_FnChunks_cx k) (callK (laws_FnChunks_cx k) 8) 0 7 (sub laws_FnChunks_c [1, 1, 1, 1, 1, 1, 1, 1, 1, 0, 1, 0, 0])) laws_FnChunks_l0_cut K n) K))))) .ret (laws_FnChunks_l1_o) : Option (shDen laws_FnChunks_sh)) =
 ((K .ret (laws_FnChunks_l0_o )) : Option (shDen laws_FnChunks_sh)) := by kernel_rfl

theorem laws_FnChunks_l1_exit2 (k : Nat) (K : Ex → St → Option (shDen laws_FnChunks_sh)) (n : Nat) (a0 : (List Int)) (x6 : (List Int)) (y50 : (Int × (Int × (Int × Unit)))) (z480 : (List (List Int))) (z590 : (List Int)) (x13 : Int) (x14 : Int) : ((blkK 2 (seqK (execK (laws_FnChunks_cx k) (callK (laws_FnChunks_cx k) 8) 0 7 (sub laws_FnChunks_c [1, 1, 1, 1, 1, 1, 1, 1, 1, 0, 1, 0, 0, 1, 0, 0, 1, 1, 1, 1, 1])) (blkK 1 (seqK (execK (laws_FnChunks_cx k) (callK (laws_FnChunks_cx k) 8) 0 7 (sub laws_FnChunks_c [1, 1, 1, 1, 1, 1, 1, 1, 1, 0, 1, 0, 0, 1, 1])) (iterK (laws_FnChunks_cx k) 0 laws_FnChunks_l0_cut (loopK (laws_FnChunks_cx k) 0 (execK (laws_FnChunks_cx k) (callK (laws_FnChunks_cx k) 8) 0 7 (sub laws_FnChunks_c [1, 1, 1, 1, 1, 1, 1, 1, 1, 0, 1, 0, 0])) laws_FnChunks_l0_cut K n) K))))) (.exit 2) (laws_FnChunks_l1_o2 a0 x6 y50 z480 z590 x13 x14) : Option (shDen laws_FnChunks_sh)) =
 ((bindO (impl_ChunkAt_r y50 x6 x13) fun (b17 : (Int × (Int × Int))) => (bindO (impl_ChunkAt_r y50 x6 (IntKind.wrap .i64 ((IntKind.wrap .i64 (x13 + ((z480.getD (x14.toNat) []).length : Int))) - (1 : Int)))) fun (b18 : (Int × (Int × Int))) => (cond (!(decide (b17.2.2 = (0 : Int))))
 (K .ret (laws_FnChunks_l0_o ))
 (cond (!(decide (b18.2.2 = (0 : Int))))
 (K .ret (laws_FnChunks_l0_o ))
 (cond (!(decide (b17.1 = x14)))
 (K .ret (laws_FnChunks_l0_o ))
 (cond (!(decide (b17.2.1 = x13)))
 (K .ret (laws_FnChunks_l0_o ))
 (cond (!(decide (b18.1 = b17.1)))
 (K .ret (laws_FnChunks_l0_o ))
 (cond (!(decide (b18.2.1 = x13)))
 (K .ret (laws_FnChunks_l0_o ))
 (loopK (laws_FnChunks_cx k) 0 (execK (laws_FnChunks_cx k) (callK (laws_FnChunks_cx k) 8) 0 7 (sub laws_FnChunks_c [1, 1, 1, 1, 1, 1, 1, 1, 1, 0, 1, 0, 0])) laws_FnChunks_l0_cut K n (laws_FnChunks_l0_s a0 x6 y50 z480 z590 (IntKind.wrap .i64 (x13 + ((z480.getD (x14.toNat) []).length : Int))) (IntKind.wrap .i64 (x14 + (1 : Int))))))))))))) : Option (shDen laws_FnChunks_sh)) := by kernel_rfl

theorem laws_FnChunks_l1_congr (kr : Option (shDen laws_FnChunks_sh)) (ke2 : Option (shDen laws_FnChunks_sh)) (kr' : Option (shDen laws_FnChunks_sh)) (ke2' : Option (shDen laws_FnChunks_sh)) (a0 : (List Int)) (x6 : (List Int)) (y50 : (Int × (Int × (Int × Unit)))) (z480 : (List (List Int))) (z590 : (List Int)) (x13 : Int) (x14 : Int) (n : Nat) (x18 : Int) (hkr : ∀ (_ : Unit), kr  = kr' ) (hke2 : ∀ (_ : Unit), ke2  = ke2' ) : laws_FnChunks_l1_L kr ke2 a0 x6 y50 z480 z590 x13 x14 n x18 = laws_FnChunks_l1_L kr' ke2' a0 x6 y50 z480 z590 x13 x14 n x18 := by
 have : kr = kr' := hkr (); subst this; have : ke2 = ke2' := hke2 (); subst this; rfl

theorem laws_FnChunks_l1_L_eq (K : Ex → St → Option (shDen laws_FnChunks_sh)) (a0 : (List Int)) (x6 : (List Int)) (y50 : (Int × (Int × (Int × Unit)))) (z480 : (List (List Int))) (z590 : (List Int)) (x13 : Int) (x14 : Int) : ∀ (n : Nat) (x18 : Int), (loopK (laws_FnChunks_cx FUEL) 0 (execK (laws_FnChunks_cx FUEL) (callK (laws_FnChunks_cx FUEL) 8) 0 7 (sub laws_FnChunks_c [1, 1, 1, 1, 1, 1, 1, 1, 1, 0, 1, 0, 0, 1, 0, 0, 1, 1, 1, 1, 0, 1, 0, 0])) laws_FnChunks_l1_cut K n (laws_FnChunks_l1_s a0 x6 y50 z480 z590 x13 x14 x18) : Option (shDen laws_FnChunks_sh)) = laws_FnChunks_l1_L (K .ret (laws_FnChunks_l1_o)) (K (.exit 2) (laws_FnChunks_l1_o2 a0 x6 y50 z480 z590 x13 x14)) a0 x6 y50 z480 z590 x13 x14 n x18 := by
 intro n
 induction n with
 | zero => intros; rfl
 | succ n ih =>
  intro x18
  exact (laws_FnChunks_l1_round FUEL K n a0 x6 y50 z480 z590 x13 x14 x18).trans (condC (condC (condC (bindC (fun b16 => condC (rfl) (condC (rfl) (condC (rfl) (ih (IntKind.wrap .i64 (x18 + (1 : Int)))))))) (rfl)) (rfl)) (rfl))

theorem laws_FnChunks_l0_round (k : Nat) (K : Ex → St → Option (shDen laws_FnChunks_sh)) (n : Nat) (a0 : (List Int)) (x6 : (List Int)) (y50 : (Int × (Int × (Int × Unit)))) (z480 : (List (List Int))) (z590 : (List Int)) (x13 : Int) (x14 : Int) : (loopK (laws_FnChunks_cx k) 0 (execK (laws_FnChunks_cx k) (callK (laws_FnChunks_cx k) 8) 0 7 (sub laws_FnChunks_c [1, 1, 1, 1, 1, 1, 1, 1, 1, 0, 1, 0, 0])) laws_FnChunks_l0_cut K (n + 1) (laws_FnChunks_l0_s a0 x6 y50 z480 z590 x13 x14) : Option (shDen laws_FnChunks_sh)) =
 ((cond (decide (x14 < (z480.length : Int)))
 (cond ((decide ((0 : Int) ≤ x14)) && (decide (x14 < (z480.length : Int))))
 (cond ((decide ((0 : Int) ≤ x14)) && (decide (x14 < (z480.length : Int))))
 (bindO (impl_RollOf_r (z480.getD (x14.toNat) [])) fun (b14 : Int) => (cond (decide ((IntKind.wrap .u64 y50.2.2.1) < (0 : Int)))
 none
 (cond (decide ((shlI .u32 (1 : Int) (IntKind.wrap .u64 y50.2.2.1)) = (0 : Int)))
 none
 (cond (decide ((Int.tmod b14 (shlI .u32 (1 : Int) (IntKind.wrap .u64 y50.2.2.1))) = (0 : Int)))
 (cond (decide (y50.1 ≤ ((z480.getD (x14.toNat) []).length : Int)))
 (cond (decide (((z480.getD (x14.toNat) []).length : Int) < (1 : Int)))
 (K .ret (laws_FnChunks_l0_o ))
 (cond (decide (y50.2.1 < ((z480.getD (x14.toNat) []).length : Int)))
 (K .ret (laws_FnChunks_l0_o ))
 (cond ((decide ((0 : Int) ≤ x14)) && (decide (x14 < (z590.length : Int))))
 (cond (!(decide ((z590.getD (x14.toNat) (0 : Int)) = (IntKind.wrap .i64 (x13 + ((z480.getD (x14.toNat) []).length : Int))))))
 (K .ret (laws_FnChunks_l0_o ))
 (cond (decide ((IntKind.wrap .i64 (x14 + (1 : Int))) < (z480.length : Int)))
 (loopK (laws_FnChunks_cx k) 0 (execK (laws_FnChunks_cx k) (callK (laws_FnChunks_cx k) 8) 0 7 (sub laws_FnChunks_c [1, 1, 1, 1, 1, 1, 1, 1, 1, 0, 1, 0, 0, 1, 0, 0, 1, 1, 1, 1, 0, 1, 0, 0])) laws_FnChunks_l1_cut (blkK 2 (seqK (execK (laws_FnChunks_cx k) (callK (laws_FnChunks_cx k) 8) 0 7 (sub laws_FnChunks_c [1, 1, 1, 1, 1, 1, 1, 1, 1, 0, 1, 0, 0, 1, 0, 0, 1, 1, 1, 1, 1])) (blkK 1 (seqK (execK (laws_FnChunks_cx k) (callK (laws_FnChunks_cx k) 8) 0 7 (sub laws_FnChunks_c [1, 1, 1, 1, 1, 1, 1, 1, 1, 0, 1, 0, 0, 1, 1])) (iterK (laws_FnChunks_cx k) 0 laws_FnChunks_l0_cut (loopK (laws_FnChunks_cx k) 0 (execK (laws_FnChunks_cx k) (callK (laws_FnChunks_cx k) 8) 0 7 (sub laws_FnChunks_c [1, 1, 1, 1, 1, 1, 1, 1, 1, 0, 1, 0, 0])) laws_FnChunks_l0_cut K n) K))))) k (laws_FnChunks_l1_s a0 x6 y50 z480 z590 x13 x14 y50.1))
 (loopK (laws_FnChunks_cx k) 0 (execK (laws_FnChunks_cx k) (callK (laws_FnChunks_cx k) 8) 0 7 (sub laws_FnChunks_c [1, 1, 1, 1, 1, 1, 1, 1, 1, 0, 1, 0, 0, 1, 0, 0, 1, 1, 1, 1, 0, 1, 0, 0])) laws_FnChunks_l1_cut (blkK 2 (seqK (execK (laws_FnChunks_cx k) (callK (laws_FnChunks_cx k) 8) 0 7 (sub laws_FnChunks_c [1, 1, 1, 1, 1, 1, 1, 1, 1, 0, 1, 0, 0, 1, 0, 0, 1, 1, 1, 1, 1])) (blkK 1 (seqK (execK (laws_FnChunks_cx k) (callK (laws_FnChunks_cx k) 8) 0 7 (sub laws_FnChunks_c [1, 1, 1, 1, 1, 1, 1, 1, 1, 0, 1, 0, 0, 1, 1])) (iterK (laws_FnChunks_cx k) 0 laws_FnChunks_l0_cut (loopK (laws_FnChunks_cx k) 0 (execK (laws_FnChunks_cx k) (callK (laws_FnChunks_cx k) 8) 0 7 (sub laws_FnChunks_c [1, 1, 1, 1, 1, 1, 1, 1, 1, 0, 1, 0, 0])) laws_FnChunks_l0_cut K n) K))))) k (laws_FnChunks_l1_s a0 x6 y50 z480 z590 x13 x14 y50.1))))
 none)))
 (cond (decide (((z480.getD (x14.toNat) []).length : Int) < (1 : Int)))
 (K .ret (laws_FnChunks_l0_o ))
 (cond (decide (y50.2.1 < ((z480.getD (x14.toNat) []).length : Int)))
 (K .ret (laws_FnChunks_l0_o ))
 (cond ((decide ((0 : Int) ≤ x14)) && (decide (x14 < (z590.length : Int))))
 (cond (!(decide ((z590.getD (x14.toNat) (0 : Int)) = (IntKind.wrap .i64 (x13 + ((z480.getD (x14.toNat) []).length : Int))))))
 (K .ret (laws_FnChunks_l0_o ))
 (cond (decide ((IntKind.wrap .i64 (x14 + (1 : Int))) < (z480.length : Int)))
 (cond (!(decide (((z480.getD (x14.toNat) []).length : Int) = y50.2.1)))
 (K .ret (laws_FnChunks_l0_o ))
 (loopK (laws_FnChunks_cx k) 0 (execK (laws_FnChunks_cx k) (callK (laws_FnChunks_cx k) 8) 0 7 (sub laws_FnChunks_c [1, 1, 1, 1, 1, 1, 1, 1, 1, 0, 1, 0, 0, 1, 0, 0, 1, 1, 1, 1, 0, 1, 0, 0])) laws_FnChunks_l1_cut (blkK 2 (seqK (execK (laws_FnChunks_cx k) (callK (laws_FnChunks_cx k) 8) 0 7 (sub laws_FnChunks_c [1, 1, 1, 1, 1, 1, 1, 1, 1, 0, 1, 0, 0, 1, 0, 0, 1, 1, 1, 1, 1])) (blkK 1 (seqK (execK (laws_FnChunks_cx k) (callK (laws_FnChunks_cx k) 8) 0 7 (sub laws_FnChunks_c [1, 1, 1, 1, 1, 1, 1, 1, 1, 0, 1, 0, 0, 1, 1])) (iterK (laws_FnChunks_cx k) 0 laws_FnChunks_l0_cut (loopK (laws_FnChunks_cx k) 0 (execK (laws_FnChunks_cx k) (callK (laws_FnChunks_cx k) 8) 0 7 (sub laws_FnChunks_c [1, 1, 1, 1, 1, 1, 1, 1, 1, 0, 1, 0, 0])) laws_FnChunks_l0_cut K n) K))))) k (laws_FnChunks_l1_s a0 x6 y50 z480 z590 x13 x14 y50.1)))
 (loopK (laws_FnChunks_cx k) 0 (execK (laws_FnChunks_cx k) (callK (laws_FnChunks_cx k) 8) 0 7 (sub laws_FnChunks_c [1, 1, 1, 1, 1, 1, 1, 1, 1, 0, 1, 0, 0, 1, 0, 0, 1, 1, 1, 1, 0, 1, 0, 0])) laws_FnChunks_l1_cut (blkK 2 (seqK (execK (laws_FnChunks_cx k) (callK (laws_FnChunks_cx k) 8) 0 7 (sub laws_FnChunks_c [1, 1, 1, 1, 1, 1, 1, 1, 1, 0, 1, 0, 0, 1, 0, 0, 1, 1, 1, 1, 1])) (blkK 1 (seqK (execK (laws_FnChunks_cx k) (callK (laws_FnChunks_cx k) 8) 0 7 (sub laws_FnChunks_c [1, 1, 1, 1, 1, 1, 1, 1, 1, 0, 1, 0, 0, 1, 1])) (iterK (laws_FnChunks_cx k) 0 laws_FnChunks_l0_cut (loopK (laws_FnChunks_cx k) 0 (execK (laws_FnChunks_cx k) (callK (laws_FnChunks_cx k) 8) 0 7 (sub laws_FnChunks_c [1, 1, 1, 1, 1, 1, 1, 1, 1, 0, 1, 0, 0])) laws_FnChunks_l0_cut K n) K))))) k (laws_FnChunks_l1_s a0 x6 y50 z480 z590 x13 x14 y50.1))))
 none))))
 (cond (decide (((z480.getD (x14.toNat) []).length : Int) < (1 : Int)))
 (K .ret (laws_FnChunks_l0_o ))
 (cond (decide (y50.2.1 < ((z480.getD (x14.toNat) []).length : Int)))
 (K .ret (laws_FnChunks_l0_o ))
 (cond ((decide ((0 : Int) ≤ x14)) && (decide (x14 < (z590.length : Int))))
 (cond (!(decide ((z590.getD (x14.toNat) (0 : Int)) = (IntKind.wrap .i64 (x13 + ((z480.getD (x14.toNat) []).length : Int))))))
 (K .ret (laws_FnChunks_l0_o ))
 (cond (decide ((IntKind.wrap .i64 (x14 + (1 : Int))) < (z480.length : Int)))
 (cond (!(decide (((z480.getD (x14.toNat) []).length : Int) = y50.2.1)))
 (K .ret (laws_FnChunks_l0_o ))
 (loopK (laws_FnChunks_cx k) 0 (execK (laws_FnChunks_cx k) (callK (laws_FnChunks_cx k) 8) 0 7 (sub laws_FnChunks_c [1, 1, 1, 1, 1, 1, 1, 1, 1, 0, 1, 0, 0, 1, 0, 0, 1, 1, 1, 1, 0, 1, 0, 0])) laws_FnChunks_l1_cut (blkK 2 (seqK (execK (laws_FnChunks_cx k) (callK (laws_FnChunks_cx k) 8) 0 7 (sub laws_FnChunks_c [1, 1, 1, 1, 1, 1, 1, 1, 1, 0, 1, 0, 0, 1, 0, 0, 1, 1, 1, 1, 1])) (blkK 1 (seqK (execK (laws_FnChunks_cx k) (callK (laws_FnChunks_cx k) 8) 0 7 (sub laws_FnChunks_c [1, 1, 1, 1, 1, 1, 1, 1, 1, 0, 1, 0, 0, 1, 1])) (iterK (laws_FnChunks_cx k) 0 laws_FnChunks_l0_cut (loopK (laws_FnChunks_cx k) 0 (execK (laws_FnChunks_cx k) (callK (laws_FnChunks_cx k) 8) 0 7 (sub laws_FnChunks_c [1, 1, 1, 1, 1, 1, 1, 1, 1, 0, 1, 0, 0])) laws_FnChunks_l0_cut K n) K))))) k (laws_FnChunks_l1_s a0 x6 y50 z480 z590 x13 x14 y50.1)))
 (loopK (laws_FnChunks_cx k) 0 (execK (laws_FnChunks_cx k) (callK (laws_FnChunks_cx k) 8) 0 7 (sub laws_FnChunks_c [1, 1, 1, 1, 1, 1, 1, 1, 1, 0, 1, 0, 0, 1, 0, 0, 1, 1, 1, 1, 0, 1, 0, 0])) laws_FnChunks_l1_cut (blkK 2 (seqK (execK (laws_FnChunks_cx k) (callK (laws_FnChunks_cx k) 8) 0 7 (sub laws_FnChunks_c [1, 1, 1, 1, 1, 1, 1, 1, 1, 0, 1, 0, 0, 1, 0, 0, 1, 1, 1, 1, 1])) (blkK 1 (seqK (execK (laws_FnChunks_cx k) (callK (laws_FnChunks_cx k) 8) 0 7 (sub laws_FnChunks_c [1, 1, 1, 1, 1, 1, 1, 1, 1, 0, 1, 0, 0, 1, 1])) (iterK (laws_FnChunks_cx k) 0 laws_FnChunks_l0_cut (loopK (laws_FnChunks_cx k) 0 (execK (laws_FnChunks_cx k) (callK (laws_FnChunks_cx k) 8) 0 7 (sub laws_FnChunks_c [1, 1, 1, 1, 1, 1, 1, 1, 1, 0, 1, 0, 0])) laws_FnChunks_l0_cut K n) K))))) k (laws_FnChunks_l1_s a0 x6 y50 z480 z590 x13 x14 y50.1))))
 none)))))))
 none)
 none)
 (K (.exit 0) (laws_FnChunks_l0_o0 a0 x6 y50 z480))) : Option (shDen laws_FnChunks_sh)) := by kernel_rfl

theorem laws_FnChunks_l0_ret (k : Nat)   : ((blkK 0 (seqK (execK (laws_FnChunks_cx k) (callK (laws_FnChunks_cx k) 8) 0 7 (sub laws_FnChunks_c [1, 1, 1, 1, 1, 1, 1, 1, 1, 1])) (finK (laws_FnChunks_cx k) laws_FnChunks_i laws_FnChunks_sh))) .ret (laws_FnChunks_l0_o) : Option (shDen laws_FnChunks_sh)) =
 ((some false) : Option (shDen laws_FnChunks_sh)) := by kernel_rfl

theorem laws_FnChunks_l0_exit0 (k : Nat)  (a0 : (List Int)) (x6 : (List Int)) (y50 : (Int × (Int × (Int × Unit)))) (z480 : (List (List Int))) : ((blkK 0 (seqK (execK (laws_FnChunks_cx k) (callK (laws_FnChunks_cx k) 8) 0 7 (sub laws_FnChunks_c [1, 1, 1, 1, 1, 1, 1, 1, 1, 1])) (finK (laws_FnChunks_cx k) laws_FnChunks_i laws_FnChunks_sh))) (.exit 0) (laws_FnChunks_l0_o0 a0 x6 y50 z480) : Option (shDen laws_FnChunks_sh)) =
 ((bindO (impl_StartCutter_r y50) fun (b19 : (((Int × (Int × (Int × Unit))) × (Int × ((List Int) × Unit))) × Int)) => (bindO (laws_a2At_r a0 (4 : Int) (IntKind.wrap .i64 ((x6.length : Int) + (1 : Int)))) fun (b20 : Int) => (cond ((decide ((0 : Int) ≤ b20)) && (decide (b20 ≤ (x6.length : Int))))
 (bindO (impl_FeedCutter_r b19.1 (cutL x6 0 (b20.toNat))) fun (b21 : (((Int × (Int × (Int × Unit))) × (Int × ((List Int) × Unit))) × ((List (List Int)) × Int))) => (cond ((decide ((0 : Int) ≤ b20)) && (decide (b20 ≤ (x6.length : Int))))
 (bindO (impl_FeedCutter_r (b21.1.1, (b21.1.2.1, (b21.1.2.2.1, ()))) (cutL x6 (b20.toNat) (x6.length))) fun (b22 : (((Int × (Int × (Int × Unit))) × (Int × ((List Int) × Unit))) × ((List (List Int)) × Int))) => (bindO (impl_EndCutter_r (b22.1.1, (b22.1.2.1, (b22.1.2.2.1, ())))) fun (b23 : ((List Int) × Int)) => (cond (decide ((0 + b21.2.1.length) * 24 ≤ 140737488355328) && decide (0 + b21.2.1.length ≤ 9223372036854775807))
 (cond (decide ((([] ++ b21.2.1).length + b22.2.1.length) * 24 ≤ 140737488355328) && decide (([] ++ b21.2.1).length + b22.2.1.length ≤ 9223372036854775807))
 (cond (decide ((0 : Int) < (b23.1.length : Int)))
 (cond (decide (((([] ++ b21.2.1) ++ b22.2.1).length + 1) * 24 ≤ 140737488355328) && decide ((([] ++ b21.2.1) ++ b22.2.1).length + 1 ≤ 9223372036854775807))
 (cond (!(decide (b19.2 = (0 : Int))))
 (some false)
 (cond (!(decide (b21.2.2 = (0 : Int))))
 (some false)
 (cond (!(decide (b22.2.2 = (0 : Int))))
 (some false)
 (cond (!(decide (b23.2 = (0 : Int))))
 (some false)
 (bindO (impl_ValidCutter_r (b21.1.1, (b21.1.2.1, (b21.1.2.2.1, ())))) fun (b24 : Bool) => (cond (!b24)
 (some false)
 (bindO (impl_SameCutter_r (b21.1.1, (b21.1.2.1, (b21.1.2.2.1, ()))) (b21.1.1, (b21.1.2.1, (b21.1.2.2.1, ())))) fun (b25 : Bool) => (cond (!b25)
 (some false)
 (cond (!(decide ((((([] ++ b21.2.1) ++ b22.2.1) ++ [b23.1]).length : Int) = (z480.length : Int))))
 (some false)
 (loopK (laws_FnChunks_cx k) 0 (execK (laws_FnChunks_cx k) (callK (laws_FnChunks_cx k) 8) 0 7 (sub laws_FnChunks_c [1, 1, 1, 1, 1, 1, 1, 1, 1, 1, 1, 1, 1, 1, 1, 1, 1, 1, 0, 1, 0, 0])) laws_FnChunks_l2_cut (blkK 4 (seqK (execK (laws_FnChunks_cx k) (callK (laws_FnChunks_cx k) 8) 0 7 (sub laws_FnChunks_c [1, 1, 1, 1, 1, 1, 1, 1, 1, 1, 1, 1, 1, 1, 1, 1, 1, 1, 1])) (finK (laws_FnChunks_cx k) laws_FnChunks_i laws_FnChunks_sh))) k (laws_FnChunks_l2_s z480 ((([] ++ b21.2.1) ++ b22.2.1) ++ [b23.1]) (0 : Int))))))))))))
 none)
 (cond (!(decide (b19.2 = (0 : Int))))
 (some false)
 (cond (!(decide (b21.2.2 = (0 : Int))))
 (some false)
 (cond (!(decide (b22.2.2 = (0 : Int))))
 (some false)
 (cond (!(decide (b23.2 = (0 : Int))))
 (some false)
 (bindO (impl_ValidCutter_r (b21.1.1, (b21.1.2.1, (b21.1.2.2.1, ())))) fun (b26 : Bool) => (cond (!b26)
 (some false)
 (bindO (impl_SameCutter_r (b21.1.1, (b21.1.2.1, (b21.1.2.2.1, ()))) (b21.1.1, (b21.1.2.1, (b21.1.2.2.1, ())))) fun (b27 : Bool) => (cond (!b27)
 (some false)
 (cond (!(decide (((([] ++ b21.2.1) ++ b22.2.1).length : Int) = (z480.length : Int))))
 (some false)
 (loopK (laws_FnChunks_cx k) 0 (execK (laws_FnChunks_cx k) (callK (laws_FnChunks_cx k) 8) 0 7 (sub laws_FnChunks_c [1, 1, 1, 1, 1, 1, 1, 1, 1, 1, 1, 1, 1, 1, 1, 1, 1, 1, 0, 1, 0, 0])) laws_FnChunks_l2_cut (blkK 4 (seqK (execK (laws_FnChunks_cx k) (callK (laws_FnChunks_cx k) 8) 0 7 (sub laws_FnChunks_c [1, 1, 1, 1, 1, 1, 1, 1, 1, 1, 1, 1, 1, 1, 1, 1, 1, 1, 1])) (finK (laws_FnChunks_cx k) laws_FnChunks_i laws_FnChunks_sh))) k (laws_FnChunks_l2_s z480 (([] ++ b21.2.1) ++ b22.2.1) (0 : Int)))))))))))))
 none)
 none)))
 none))
 none))) : Option (shDen laws_FnChunks_sh)) := by kernel_rfl

theorem laws_FnChunks_l0_congr (kr : Option (shDen laws_FnChunks_sh)) (ke0 : (List Int) → (Int × (Int × (Int × Unit))) → (List (List Int)) → Option (shDen laws_FnChunks_sh)) (kr' : Option (shDen laws_FnChunks_sh)) (ke0' : (List Int) → (Int × (Int × (Int × Unit))) → (List (List Int)) → Option (shDen laws_FnChunks_sh)) (a0 : (List Int)) (n : Nat) (x6 : (List Int)) (y50 : (Int × (Int × (Int × Unit)))) (z480 : (List (List Int))) (z590 : (List Int)) (x13 : Int) (x14 : Int) (hkr : ∀ (_ : Unit), kr  = kr' ) (hke0 : ∀ x6 y50 z480, ke0 x6 y50 z480 = ke0' x6 y50 z480) : laws_FnChunks_l0_L kr ke0 a0 n x6 y50 z480 z590 x13 x14 = laws_FnChunks_l0_L kr' ke0' a0 n x6 y50 z480 z590 x13 x14 := by
 have : kr = kr' := hkr (); subst this; have : ke0 = ke0' := (by funext x6 y50 z480; exact hke0 x6 y50 z480); subst this; rfl

theorem laws_FnChunks_l0_L_eq (K : Ex → St → Option (shDen laws_FnChunks_sh)) (a0 : (List Int)) : ∀ (n : Nat) (x6 : (List Int)) (y50 : (Int × (Int × (Int × Unit)))) (z480 : (List (List Int))) (z590 : (List Int)) (x13 : Int) (x14 : Int), (loopK (laws_FnChunks_cx FUEL) 0 (execK (laws_FnChunks_cx FUEL) (callK (laws_FnChunks_cx FUEL) 8) 0 7 (sub laws_FnChunks_c [1, 1, 1, 1, 1, 1, 1, 1, 1, 0, 1, 0, 0])) laws_FnChunks_l0_cut K n (laws_FnChunks_l0_s a0 x6 y50 z480 z590 x13 x14) : Option (shDen laws_FnChunks_sh)) = laws_FnChunks_l0_L (K .ret (laws_FnChunks_l0_o)) (fun x6 y50 z480 => K (.exit 0) (laws_FnChunks_l0_o0 a0 x6 y50 z480)) a0 n x6 y50 z480 z590 x13 x14 := by
 intro n
 induction n with
 | zero => intros; rfl
 | succ n ih =>
  intro x6 y50 z480 z590 x13 x14
  exact (laws_FnChunks_l0_round FUEL K n a0 x6 y50 z480 z590 x13 x14).trans (condC (condC (condC (bindC (fun b14 => condC (rfl) (condC (rfl) (condC (condC (condC (rfl) (condC (rfl) (condC (condC (rfl) (condC ((laws_FnChunks_l1_L_eq _ a0 x6 y50 z480 z590 x13 x14 FUEL y50.1).trans (laws_FnChunks_l1_congr _ _ _ _ a0 x6 y50 z480 z590 x13 x14 FUEL y50.1 (fun _ => (laws_FnChunks_l1_ret FUEL K n ).trans (rfl)) (fun _ => (laws_FnChunks_l1_exit2 FUEL K n a0 x6 y50 z480 z590 x13 x14).trans (bindC (fun b17 => bindC (fun b18 => condC (rfl) (condC (rfl) (condC (rfl) (condC (rfl) (condC (rfl) (condC (rfl) (ih x6 y50 z480 z590 (IntKind.wrap .i64 (x13 + ((z480.getD (x14.toNat) []).length : Int))) (IntKind.wrap .i64 (x14 + (1 : Int))))))))))))))) ((laws_FnChunks_l1_L_eq _ a0 x6 y50 z480 z590 x13 x14 FUEL y50.1).trans (laws_FnChunks_l1_congr _ _ _ _ a0 x6 y50 z480 z590 x13 x14 FUEL y50.1 (fun _ => (laws_FnChunks_l1_ret FUEL K n ).trans (rfl)) (fun _ => (laws_FnChunks_l1_exit2 FUEL K n a0 x6 y50 z480 z590 x13 x14).trans (bindC (fun b17 => bindC (fun b18 => condC (rfl) (condC (rfl) (condC (rfl) (condC (rfl) (condC (rfl) (condC (rfl) (ih x6 y50 z480 z590 (IntKind.wrap .i64 (x13 + ((z480.getD (x14.toNat) []).length : Int))) (IntKind.wrap .i64 (x14 + (1 : Int))))))))))))))))) (rfl)))) (condC (rfl) (condC (rfl) (condC (condC (rfl) (condC (condC (rfl) ((laws_FnChunks_l1_L_eq _ a0 x6 y50 z480 z590 x13 x14 FUEL y50.1).trans (laws_FnChunks_l1_congr _ _ _ _ a0 x6 y50 z480 z590 x13 x14 FUEL y50.1 (fun _ => (laws_FnChunks_l1_ret FUEL K n ).trans (rfl)) (fun _ => (laws_FnChunks_l1_exit2 FUEL K n a0 x6 y50 z480 z590 x13 x14).trans (bindC (fun b17 => bindC (fun b18 => condC (rfl) (condC (rfl) (condC (rfl) (condC (rfl) (condC (rfl) (condC (rfl) (ih x6 y50 z480 z590 (IntKind.wrap .i64 (x13 + ((z480.getD (x14.toNat) []).length : Int))) (IntKind.wrap .i64 (x14 + (1 : Int)))))))))))))))) ((laws_FnChunks_l1_L_eq _ a0 x6 y50 z480 z590 x13 x14 FUEL y50.1).trans (laws_FnChunks_l1_congr _ _ _ _ a0 x6 y50 z480 z590 x13 x14 FUEL y50.1 (fun _ => (laws_FnChunks_l1_ret FUEL K n ).trans (rfl)) (fun _ => (laws_FnChunks_l1_exit2 FUEL K n a0 x6 y50 z480 z590 x13 x14).trans (bindC (fun b17 => bindC (fun b18 => condC (rfl) (condC (rfl) (condC (rfl) (condC (rfl) (condC (rfl) (condC (rfl) (ih x6 y50 z480 z590 (IntKind.wrap .i64 (x13 + ((z480.getD (x14.toNat) []).length : Int))) (IntKind.wrap .i64 (x14 + (1 : Int))))))))))))))))) (rfl))))) (condC (rfl) (condC (rfl) (condC (condC (rfl) (condC (condC (rfl) ((laws_FnChunks_l1_L_eq _ a0 x6 y50 z480 z590 x13 x14 FUEL y50.1).trans (laws_FnChunks_l1_congr _ _ _ _ a0 x6 y50 z480 z590 x13 x14 FUEL y50.1 (fun _ => (laws_FnChunks_l1_ret FUEL K n ).trans (rfl)) (fun _ => (laws_FnChunks_l1_exit2 FUEL K n a0 x6 y50 z480 z590 x13 x14).trans (bindC (fun b17 => bindC (fun b18 => condC (rfl) (condC (rfl) (condC (rfl) (condC (rfl) (condC (rfl) (condC (rfl) (ih x6 y50 z480 z590 (IntKind.wrap .i64 (x13 + ((z480.getD (x14.toNat) []).length : Int))) (IntKind.wrap .i64 (x14 + (1 : Int)))))))))))))))) ((laws_FnChunks_l1_L_eq _ a0 x6 y50 z480 z590 x13 x14 FUEL y50.1).trans (laws_FnChunks_l1_congr _ _ _ _ a0 x6 y50 z480 z590 x13 x14 FUEL y50.1 (fun _ => (laws_FnChunks_l1_ret FUEL K n ).trans (rfl)) (fun _ => (laws_FnChunks_l1_exit2 FUEL K n a0 x6 y50 z480 z590 x13 x14).trans (bindC (fun b17 => bindC (fun b18 => condC (rfl) (condC (rfl) (condC (rfl) (condC (rfl) (condC (rfl) (condC (rfl) (ih x6 y50 z480 z590 (IntKind.wrap .i64 (x13 + ((z480.getD (x14.toNat) []).length : Int))) (IntKind.wrap .i64 (x14 + (1 : Int))))))))))))))))) (rfl)))))))) (rfl)) (rfl)) (rfl))

theorem laws_FnChunks_start (k : Nat) (a0 : (List Int)) (a1 : (List Int)) : fnK (laws_FnChunks_cx k) 8 7 laws_FnChunks_i laws_FnChunks_sh [.pv (.slice (.int .u8)) a0, .pv (.slice (.int .u8)) a1] =
 ((bindO (laws_a2Long_r a0 a1) fun (b1 : Bool) => (cond b1
 (some true)
 (bindO (spec_A2Rule_r a0) fun (b2 : (Int × (Int × (Int × Unit)))) => (bindO (spec_A2Data_r a1 (80 : Int)) fun (b3 : (List Int)) => (bindO (impl_ChunksOf_r b2 b3) fun (b4 : ((List (List Int)) × Int)) => (bindO (impl_JoinChunks_r b4.1) fun (b5 : ((List Int) × Int)) => (bindO (impl_CutPlaces_r b2 b3) fun (b6 : ((List Int) × Int)) => (cond (!(decide (b4.2 = (0 : Int))))
 (some false)
 (cond (!(decide (b5.2 = (0 : Int))))
 (some false)
 (cond (!(decide (b6.2 = (0 : Int))))
 (some false)
 (bindO (spec_SameBytes_r b5.1 b3) fun (b7 : Bool) => (cond (!b7)
 (some false)
 (cond (!(decide ((b6.1.length : Int) = (b4.1.length : Int))))
 (some false)
 (bindO (impl_ValidRule_r b2) fun (b8 : Bool) => (cond (!b8)
 (some false)
 (loopK (laws_FnChunks_cx k) 0 (execK (laws_FnChunks_cx k) (callK (laws_FnChunks_cx k) 8) 0 7 (sub laws_FnChunks_c [1, 1, 1, 1, 1, 1, 1, 1, 1, 0, 1, 0, 0])) laws_FnChunks_l0_cut (blkK 0 (seqK (execK (laws_FnChunks_cx k) (callK (laws_FnChunks_cx k) 8) 0 7 (sub laws_FnChunks_c [1, 1, 1, 1, 1, 1, 1, 1, 1, 1])) (finK (laws_FnChunks_cx k) laws_FnChunks_i laws_FnChunks_sh))) k (laws_FnChunks_l0_s a0 b3 b2 b4.1 b6.1 (0 : Int) (0 : Int)))))))))))))))))) : Option (shDen laws_FnChunks_sh)) := by kernel_rfl

theorem laws_FnChunks_run (a0 : (List Int)) (a1 : (List Int)) : fnK (laws_FnChunks_cx FUEL) 8 7 laws_FnChunks_i laws_FnChunks_sh [.pv (.slice (.int .u8)) a0, .pv (.slice (.int .u8)) a1] = laws_FnChunks_r a0 a1 :=
 (laws_FnChunks_start FUEL a0 a1).trans (bindC (fun b1 => condC (rfl) (bindC (fun b2 => bindC (fun b3 => bindC (fun b4 => bindC (fun b5 => bindC (fun b6 => condC (rfl) (condC (rfl) (condC (rfl) (bindC (fun b7 => condC (rfl) (condC (rfl) (bindC (fun b8 => condC (rfl) ((laws_FnChunks_l0_L_eq _ a0 FUEL b3 b2 b4.1 b6.1 (0 : Int) (0 : Int)).trans (laws_FnChunks_l0_congr _ _ _ _ a0 FUEL b3 b2 b4.1 b6.1 (0 : Int) (0 : Int) (fun _ => (laws_FnChunks_l0_ret FUEL  ).trans (rfl)) (fun x6 y50 z480 => (laws_FnChunks_l0_exit0 FUEL  a0 x6 y50 z480).trans (bindC (fun b19 => bindC (fun b20 => condC (bindC (fun b21 => condC (bindC (fun b22 => bindC (fun b23 => condC (condC (condC (condC (condC (rfl) (condC (rfl) (condC (rfl) (condC (rfl) (bindC (fun b24 => condC (rfl) (bindC (fun b25 => condC (rfl) (condC (rfl) ((laws_FnChunks_l2_L_eq _  FUEL z480 ((([] ++ b21.2.1) ++ b22.2.1) ++ [b23.1]) (0 : Int)).trans (laws_FnChunks_l2_congr _ _ _ _  FUEL z480 ((([] ++ b21.2.1) ++ b22.2.1) ++ [b23.1]) (0 : Int) (fun _ => (laws_FnChunks_l2_ret FUEL  ).trans (rfl)) (fun _ => (laws_FnChunks_l2_exit4 FUEL  ).trans (rfl))))))))))))) (rfl)) (condC (rfl) (condC (rfl) (condC (rfl) (condC (rfl) (bindC (fun b26 => condC (rfl) (bindC (fun b27 => condC (rfl) (condC (rfl) ((laws_FnChunks_l2_L_eq _  FUEL z480 (([] ++ b21.2.1) ++ b22.2.1) (0 : Int)).trans (laws_FnChunks_l2_congr _ _ _ _  FUEL z480 (([] ++ b21.2.1) ++ b22.2.1) (0 : Int) (fun _ => (laws_FnChunks_l2_ret FUEL  ).trans (rfl)) (fun _ => (laws_FnChunks_l2_exit4 FUEL  ).trans (rfl)))))))))))))) (rfl)) (rfl)))) (rfl))) (rfl))))))))))))))))))))))

noncomputable def laws_FnChunks_con : Con := { ps := (.pair (.slice (.int .u8)) (.pair (.slice (.int .u8)) .unit)), sh := laws_FnChunks_sh, raw := fun x => laws_FnChunks_r x.1 x.2.1 }
theorem laws_FnChunks_conOk : ConOk Try.prog 7 laws_FnChunks_con := con_of_fn (laws_FnChunks_tabs FUEL) (depth := 8) laws_FnChunks_ok fun x y h => (laws_FnChunks_run x.1 x.2.1).trans h

end Go.Ai.G
