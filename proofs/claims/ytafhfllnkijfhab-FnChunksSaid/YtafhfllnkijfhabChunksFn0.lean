/- Made by a program of this work out of the program: tables and plain functions, with the proof that each Go function does what its plain function says. No conditions. -/
import Derived.Test.YtafhfllnkijfhabChunksTab
namespace Go.Ai.G
open Go.Proofs
open Go.Ai
set_option linter.unusedVariables false
set_option linter.unusedSimpArgs false
set_option maxRecDepth 100000

noncomputable def laws_a2Long_inls : List (Nat × Inl) := []
noncomputable def laws_a2Long_cons : List (Nat × Con) := []
noncomputable def laws_a2Long_taks : List (Nat × ConT) := []
noncomputable def laws_a2Long_inps : List (Nat × ConI) := []
noncomputable def laws_a2Long_cuts : List (Nat × List (Nat × Cut)) := []
noncomputable def laws_a2Long_cx (k : Nat) : Cx := mkCx tys tbytes telem nozero (Ai.look laws_a2Long_inls) (Ai.look laws_a2Long_cons) (Ai.look laws_a2Long_taks) (Ai.look laws_a2Long_inps) (fun f id => match Ai.look laws_a2Long_cuts f with | some l => Ai.look l id | none => none) k []
theorem laws_a2Long_tabs (k : Nat) : TabsOk Try.prog (laws_a2Long_cx k) := ⟨tab_mk tabs_ok _ _ _ _ _ _ _, look_all (Q := ConOk Try.prog) _ trivial, look_all (Q := TakOk Try.prog) _ trivial, look_all (Q := InpOk Try.prog) _ trivial, look_all (Q := InlOk Try.prog) _ trivial, mixed_ok⟩
abbrev laws_a2Long_sh : List Sh := [.pl .bool]
noncomputable def laws_a2Long_r (a0 : (List Int)) (a1 : (List Int)) : Option (shDen laws_a2Long_sh) :=
 (cond (decide ((3000 : Int) < (a0.length : Int)))
 (some true)
 (some (decide ((3000 : Int) < (a1.length : Int)))))
theorem laws_a2Long_start (k : Nat) (a0 : (List Int)) (a1 : (List Int)) : fnK (laws_a2Long_cx k) 8 39 laws_a2Long_i laws_a2Long_sh [.pv (.slice (.int .u8)) a0, .pv (.slice (.int .u8)) a1] =
 ((cond (decide ((3000 : Int) < (a0.length : Int)))
 (some true)
 (some (decide ((3000 : Int) < (a1.length : Int))))) : Option (shDen laws_a2Long_sh)) := by kernel_rfl

theorem laws_a2Long_run (a0 : (List Int)) (a1 : (List Int)) : fnK (laws_a2Long_cx FUEL) 8 39 laws_a2Long_i laws_a2Long_sh [.pv (.slice (.int .u8)) a0, .pv (.slice (.int .u8)) a1] = laws_a2Long_r a0 a1 :=
 (laws_a2Long_start FUEL a0 a1).trans (rfl)

noncomputable def laws_a2Long_con : Con := { ps := (.pair (.slice (.int .u8)) (.pair (.slice (.int .u8)) .unit)), sh := laws_a2Long_sh, raw := fun x => laws_a2Long_r x.1 x.2.1 }
theorem laws_a2Long_conOk : ConOk Try.prog 39 laws_a2Long_con := con_of_fn (laws_a2Long_tabs FUEL) (depth := 8) laws_a2Long_ok fun x y h => (laws_a2Long_run x.1 x.2.1).trans h

noncomputable def spec_l00Src_next_inls : List (Nat × Inl) := []
noncomputable def spec_l00Src_next_cons : List (Nat × Con) := []
noncomputable def spec_l00Src_next_taks : List (Nat × ConT) := []
noncomputable def spec_l00Src_next_inps : List (Nat × ConI) := []
noncomputable def spec_l00Src_next_cuts : List (Nat × List (Nat × Cut)) := []
noncomputable def spec_l00Src_next_cx (k : Nat) : Cx := mkCx tys tbytes telem nozero (Ai.look spec_l00Src_next_inls) (Ai.look spec_l00Src_next_cons) (Ai.look spec_l00Src_next_taks) (Ai.look spec_l00Src_next_inps) (fun f id => match Ai.look spec_l00Src_next_cuts f with | some l => Ai.look l id | none => none) k []
theorem spec_l00Src_next_tabs (k : Nat) : TabsOk Try.prog (spec_l00Src_next_cx k) := ⟨tab_mk tabs_ok _ _ _ _ _ _ _, look_all (Q := ConOk Try.prog) _ trivial, look_all (Q := TakOk Try.prog) _ trivial, look_all (Q := InpOk Try.prog) _ trivial, look_all (Q := InlOk Try.prog) _ trivial, mixed_ok⟩
abbrev spec_l00Src_next_sh : List Sh := [.pl (.int .i64)]
noncomputable def spec_l00Src_next_r (a0 : ((List Int) × (Int × (Int × Unit)))) : Option (((List Int) × (Int × (Int × Unit))) × shDen spec_l00Src_next_sh) :=
 (cond (decide (a0.2.1 < (a0.1.length : Int)))
 (cond ((decide ((0 : Int) ≤ a0.2.1)) && (decide (a0.2.1 < (a0.1.length : Int))))
 (cond (decide ((IntKind.wrap .i64 (a0.2.1 + (1 : Int))) ≤ (a0.1.length : Int)))
 (some ((a0.1, ((IntKind.wrap .i64 (a0.2.1 + (1 : Int))), ((IntKind.wrap .u64 ((IntKind.wrap .u64 ((IntKind.wrap .u64 (a0.2.2.1 * (6364136223846793005 : Int))) + (IntKind.wrap .u64 (IntKind.wrap .i64 (a0.1.getD (a0.2.1.toNat) (0 : Int)))))) + (1442695040888963407 : Int))), a0.2.2.2))), (IntKind.wrap .i64 (a0.1.getD (a0.2.1.toNat) (0 : Int)))))
 (some ((a0.1, ((IntKind.wrap .i64 (a0.2.1 + (1 : Int))), ((IntKind.wrap .u64 ((IntKind.wrap .u64 ((IntKind.wrap .u64 (a0.2.2.1 * (6364136223846793005 : Int))) + (IntKind.wrap .u64 (IntKind.wrap .i64 (a0.1.getD (a0.2.1.toNat) (0 : Int)))))) + (1442695040888963407 : Int))), a0.2.2.2))), (IntKind.wrap .i64 (bitI .and .u64 (shrI .u64 (IntKind.wrap .u64 ((IntKind.wrap .u64 ((IntKind.wrap .u64 (a0.2.2.1 * (6364136223846793005 : Int))) + (IntKind.wrap .u64 (IntKind.wrap .i64 (a0.1.getD (a0.2.1.toNat) (0 : Int)))))) + (1442695040888963407 : Int))) (40 : Int)) (255 : Int))))))
 none)
 (cond (decide ((IntKind.wrap .i64 (a0.2.1 + (1 : Int))) ≤ (a0.1.length : Int)))
 (some ((a0.1, ((IntKind.wrap .i64 (a0.2.1 + (1 : Int))), ((IntKind.wrap .u64 ((IntKind.wrap .u64 ((IntKind.wrap .u64 (a0.2.2.1 * (6364136223846793005 : Int))) + (0 : Int))) + (1442695040888963407 : Int))), a0.2.2.2))), (0 : Int)))
 (some ((a0.1, ((IntKind.wrap .i64 (a0.2.1 + (1 : Int))), ((IntKind.wrap .u64 ((IntKind.wrap .u64 ((IntKind.wrap .u64 (a0.2.2.1 * (6364136223846793005 : Int))) + (0 : Int))) + (1442695040888963407 : Int))), a0.2.2.2))), (IntKind.wrap .i64 (bitI .and .u64 (shrI .u64 (IntKind.wrap .u64 ((IntKind.wrap .u64 ((IntKind.wrap .u64 (a0.2.2.1 * (6364136223846793005 : Int))) + (0 : Int))) + (1442695040888963407 : Int))) (40 : Int)) (255 : Int)))))))
theorem spec_l00Src_next_start (k : Nat) (a0 : ((List Int) × (Int × (Int × Unit)))) : fnIK (spec_l00Src_next_cx k) 8 116 spec_l00Src_next_i (.var (.pair (.slice (.int .u8)) (.pair (.int .i64) (.pair (.int .u64) .unit)))) spec_l00Src_next_sh a0 [] =
 ((cond (decide (a0.2.1 < (a0.1.length : Int)))
 (cond ((decide ((0 : Int) ≤ a0.2.1)) && (decide (a0.2.1 < (a0.1.length : Int))))
 (cond (decide ((IntKind.wrap .i64 (a0.2.1 + (1 : Int))) ≤ (a0.1.length : Int)))
 (some ((a0.1, ((IntKind.wrap .i64 (a0.2.1 + (1 : Int))), ((IntKind.wrap .u64 ((IntKind.wrap .u64 ((IntKind.wrap .u64 (a0.2.2.1 * (6364136223846793005 : Int))) + (IntKind.wrap .u64 (IntKind.wrap .i64 (a0.1.getD (a0.2.1.toNat) (0 : Int)))))) + (1442695040888963407 : Int))), a0.2.2.2))), (IntKind.wrap .i64 (a0.1.getD (a0.2.1.toNat) (0 : Int)))))
 (some ((a0.1, ((IntKind.wrap .i64 (a0.2.1 + (1 : Int))), ((IntKind.wrap .u64 ((IntKind.wrap .u64 ((IntKind.wrap .u64 (a0.2.2.1 * (6364136223846793005 : Int))) + (IntKind.wrap .u64 (IntKind.wrap .i64 (a0.1.getD (a0.2.1.toNat) (0 : Int)))))) + (1442695040888963407 : Int))), a0.2.2.2))), (IntKind.wrap .i64 (bitI .and .u64 (shrI .u64 (IntKind.wrap .u64 ((IntKind.wrap .u64 ((IntKind.wrap .u64 (a0.2.2.1 * (6364136223846793005 : Int))) + (IntKind.wrap .u64 (IntKind.wrap .i64 (a0.1.getD (a0.2.1.toNat) (0 : Int)))))) + (1442695040888963407 : Int))) (40 : Int)) (255 : Int))))))
 none)
 (cond (decide ((IntKind.wrap .i64 (a0.2.1 + (1 : Int))) ≤ (a0.1.length : Int)))
 (some ((a0.1, ((IntKind.wrap .i64 (a0.2.1 + (1 : Int))), ((IntKind.wrap .u64 ((IntKind.wrap .u64 ((IntKind.wrap .u64 (a0.2.2.1 * (6364136223846793005 : Int))) + (0 : Int))) + (1442695040888963407 : Int))), a0.2.2.2))), (0 : Int)))
 (some ((a0.1, ((IntKind.wrap .i64 (a0.2.1 + (1 : Int))), ((IntKind.wrap .u64 ((IntKind.wrap .u64 ((IntKind.wrap .u64 (a0.2.2.1 * (6364136223846793005 : Int))) + (0 : Int))) + (1442695040888963407 : Int))), a0.2.2.2))), (IntKind.wrap .i64 (bitI .and .u64 (shrI .u64 (IntKind.wrap .u64 ((IntKind.wrap .u64 ((IntKind.wrap .u64 (a0.2.2.1 * (6364136223846793005 : Int))) + (0 : Int))) + (1442695040888963407 : Int))) (40 : Int)) (255 : Int))))))) : Option (((List Int) × (Int × (Int × Unit))) × shDen spec_l00Src_next_sh)) := by kernel_rfl

theorem spec_l00Src_next_run (a0 : ((List Int) × (Int × (Int × Unit)))) : fnIK (spec_l00Src_next_cx FUEL) 8 116 spec_l00Src_next_i (.var (.pair (.slice (.int .u8)) (.pair (.int .i64) (.pair (.int .u64) .unit)))) spec_l00Src_next_sh a0 [] = spec_l00Src_next_r a0 :=
 (spec_l00Src_next_start FUEL a0).trans (rfl)

noncomputable def spec_l00Src_next_inp : ConI := { k := (.var (.pair (.slice (.int .u8)) (.pair (.int .i64) (.pair (.int .u64) .unit)))), ps := .unit, sh := spec_l00Src_next_sh, raw := fun x q => spec_l00Src_next_r x  }
theorem spec_l00Src_next_inpOk : InpOk Try.prog 116 spec_l00Src_next_inp := inp_of_fn (spec_l00Src_next_tabs FUEL) (depth := 8) spec_l00Src_next_ok fun x q z h => (spec_l00Src_next_run x ).trans h

noncomputable def spec_l00Src_pick_inls : List (Nat × Inl) := []
noncomputable def spec_l00Src_pick_cons : List (Nat × Con) := []
noncomputable def spec_l00Src_pick_taks : List (Nat × ConT) := []
noncomputable def spec_l00Src_pick_inps : List (Nat × ConI) := [(116, spec_l00Src_next_inp)]
noncomputable def spec_l00Src_pick_cuts : List (Nat × List (Nat × Cut)) := []
noncomputable def spec_l00Src_pick_cx (k : Nat) : Cx := mkCx tys tbytes telem nozero (Ai.look spec_l00Src_pick_inls) (Ai.look spec_l00Src_pick_cons) (Ai.look spec_l00Src_pick_taks) (Ai.look spec_l00Src_pick_inps) (fun f id => match Ai.look spec_l00Src_pick_cuts f with | some l => Ai.look l id | none => none) k []
theorem spec_l00Src_pick_tabs (k : Nat) : TabsOk Try.prog (spec_l00Src_pick_cx k) := ⟨tab_mk tabs_ok _ _ _ _ _ _ _, look_all (Q := ConOk Try.prog) _ trivial, look_all (Q := TakOk Try.prog) _ trivial, look_all (Q := InpOk Try.prog) _ ⟨spec_l00Src_next_inpOk, trivial⟩, look_all (Q := InlOk Try.prog) _ trivial, mixed_ok⟩
abbrev spec_l00Src_pick_sh : List Sh := [.pl (.int .i64)]
noncomputable def spec_l00Src_pick_r (a0 : ((List Int) × (Int × (Int × Unit)))) (a1 : Int) : Option (((List Int) × (Int × (Int × Unit))) × shDen spec_l00Src_pick_sh) :=
 (cond (decide (a1 ≤ (1 : Int)))
 (some (a0, (0 : Int)))
 (bindO (spec_l00Src_next_r a0) fun (b1 : (((List Int) × (Int × (Int × Unit))) × Int)) => (cond (decide ((200 : Int) < a1))
 (bindO (spec_l00Src_next_r b1.1) fun (b2 : (((List Int) × (Int × (Int × Unit))) × Int)) => (cond (decide (a1 = (0 : Int)))
 none
 (some (b2.1, (Int.tmod (IntKind.wrap .i64 ((IntKind.wrap .i64 (b1.2 * (256 : Int))) + b2.2)) a1)))))
 (cond (decide (a1 = (0 : Int)))
 none
 (some (b1.1, (Int.tmod b1.2 a1)))))))
theorem spec_l00Src_pick_start (k : Nat) (a0 : ((List Int) × (Int × (Int × Unit)))) (a1 : Int) : fnIK (spec_l00Src_pick_cx k) 8 82 spec_l00Src_pick_i (.var (.pair (.slice (.int .u8)) (.pair (.int .i64) (.pair (.int .u64) .unit)))) spec_l00Src_pick_sh a0 [.pv (.int .i64) a1] =
 ((cond (decide (a1 ≤ (1 : Int)))
 (some (a0, (0 : Int)))
 (bindO (spec_l00Src_next_r a0) fun (b1 : (((List Int) × (Int × (Int × Unit))) × Int)) => (cond (decide ((200 : Int) < a1))
 (bindO (spec_l00Src_next_r b1.1) fun (b2 : (((List Int) × (Int × (Int × Unit))) × Int)) => (cond (decide (a1 = (0 : Int)))
 none
 (some (b2.1, (Int.tmod (IntKind.wrap .i64 ((IntKind.wrap .i64 (b1.2 * (256 : Int))) + b2.2)) a1)))))
 (cond (decide (a1 = (0 : Int)))
 none
 (some (b1.1, (Int.tmod b1.2 a1))))))) : Option (((List Int) × (Int × (Int × Unit))) × shDen spec_l00Src_pick_sh)) := by kernel_rfl

theorem spec_l00Src_pick_run (a0 : ((List Int) × (Int × (Int × Unit)))) (a1 : Int) : fnIK (spec_l00Src_pick_cx FUEL) 8 82 spec_l00Src_pick_i (.var (.pair (.slice (.int .u8)) (.pair (.int .i64) (.pair (.int .u64) .unit)))) spec_l00Src_pick_sh a0 [.pv (.int .i64) a1] = spec_l00Src_pick_r a0 a1 :=
 (spec_l00Src_pick_start FUEL a0 a1).trans (rfl)

noncomputable def spec_l00Src_pick_inp : ConI := { k := (.var (.pair (.slice (.int .u8)) (.pair (.int .i64) (.pair (.int .u64) .unit)))), ps := (.pair (.int .i64) .unit), sh := spec_l00Src_pick_sh, raw := fun x q => spec_l00Src_pick_r x q.1 }
theorem spec_l00Src_pick_inpOk : InpOk Try.prog 82 spec_l00Src_pick_inp := inp_of_fn (spec_l00Src_pick_tabs FUEL) (depth := 8) spec_l00Src_pick_ok fun x q z h => (spec_l00Src_pick_run x q.1).trans h

noncomputable def spec_A2Rule_inls : List (Nat × Inl) := [(81, spec_l00From_i)]
noncomputable def spec_A2Rule_cons : List (Nat × Con) := []
noncomputable def spec_A2Rule_taks : List (Nat × ConT) := []
noncomputable def spec_A2Rule_inps : List (Nat × ConI) := [(82, spec_l00Src_pick_inp)]
noncomputable def spec_A2Rule_cuts : List (Nat × List (Nat × Cut)) := []
noncomputable def spec_A2Rule_cx (k : Nat) : Cx := mkCx tys tbytes telem nozero (Ai.look spec_A2Rule_inls) (Ai.look spec_A2Rule_cons) (Ai.look spec_A2Rule_taks) (Ai.look spec_A2Rule_inps) (fun f id => match Ai.look spec_A2Rule_cuts f with | some l => Ai.look l id | none => none) k []
theorem spec_A2Rule_tabs (k : Nat) : TabsOk Try.prog (spec_A2Rule_cx k) := ⟨tab_mk tabs_ok _ _ _ _ _ _ _, look_all (Q := ConOk Try.prog) _ trivial, look_all (Q := TakOk Try.prog) _ trivial, look_all (Q := InpOk Try.prog) _ ⟨spec_l00Src_pick_inpOk, trivial⟩, look_all (Q := InlOk Try.prog) _ ⟨spec_l00From_ok, trivial⟩, mixed_ok⟩
abbrev spec_A2Rule_sh : List Sh := [.pl (.pair (.int .i64) (.pair (.int .i64) (.pair (.int .i64) .unit)))]
noncomputable def spec_A2Rule_r (a0 : (List Int)) : Option (shDen spec_A2Rule_sh) :=
 (bindO (spec_l00Src_pick_r (a0, ((0 : Int), ((0 : Int), ()))) (4 : Int)) fun (b1 : (((List Int) × (Int × (Int × Unit))) × Int)) => (bindO (spec_l00Src_pick_r b1.1 (9 : Int)) fun (b2 : (((List Int) × (Int × (Int × Unit))) × Int)) => (bindO (spec_l00Src_pick_r b2.1 (4 : Int)) fun (b3 : (((List Int) × (Int × (Int × Unit))) × Int)) => (some ((IntKind.wrap .i64 ((1 : Int) + b1.2)), ((IntKind.wrap .i64 ((IntKind.wrap .i64 ((1 : Int) + b1.2)) + b2.2)), (b3.2, ())))))))
theorem spec_A2Rule_start (k : Nat) (a0 : (List Int)) : fnK (spec_A2Rule_cx k) 8 40 spec_A2Rule_i spec_A2Rule_sh [.pv (.slice (.int .u8)) a0] =
 ((bindO (spec_l00Src_pick_r (a0, ((0 : Int), ((0 : Int), ()))) (4 : Int)) fun (b1 : (((List Int) × (Int × (Int × Unit))) × Int)) => (bindO (spec_l00Src_pick_r b1.1 (9 : Int)) fun (b2 : (((List Int) × (Int × (Int × Unit))) × Int)) => (bindO (spec_l00Src_pick_r b2.1 (4 : Int)) fun (b3 : (((List Int) × (Int × (Int × Unit))) × Int)) => (some ((IntKind.wrap .i64 ((1 : Int) + b1.2)), ((IntKind.wrap .i64 ((IntKind.wrap .i64 ((1 : Int) + b1.2)) + b2.2)), (b3.2, ()))))))) : Option (shDen spec_A2Rule_sh)) := by kernel_rfl

theorem spec_A2Rule_run (a0 : (List Int)) : fnK (spec_A2Rule_cx FUEL) 8 40 spec_A2Rule_i spec_A2Rule_sh [.pv (.slice (.int .u8)) a0] = spec_A2Rule_r a0 :=
 (spec_A2Rule_start FUEL a0).trans (rfl)

noncomputable def spec_A2Rule_con : Con := { ps := (.pair (.slice (.int .u8)) .unit), sh := spec_A2Rule_sh, raw := fun x => spec_A2Rule_r x.1 }
theorem spec_A2Rule_conOk : ConOk Try.prog 40 spec_A2Rule_con := con_of_fn (spec_A2Rule_tabs FUEL) (depth := 8) spec_A2Rule_ok fun x y h => (spec_A2Rule_run x.1).trans h

noncomputable def spec_l00Src_one_inls : List (Nat × Inl) := []
noncomputable def spec_l00Src_one_cons : List (Nat × Con) := []
noncomputable def spec_l00Src_one_taks : List (Nat × ConT) := []
noncomputable def spec_l00Src_one_inps : List (Nat × ConI) := [(82, spec_l00Src_pick_inp)]
noncomputable def spec_l00Src_one_cuts : List (Nat × List (Nat × Cut)) := []
noncomputable def spec_l00Src_one_cx (k : Nat) : Cx := mkCx tys tbytes telem nozero (Ai.look spec_l00Src_one_inls) (Ai.look spec_l00Src_one_cons) (Ai.look spec_l00Src_one_taks) (Ai.look spec_l00Src_one_inps) (fun f id => match Ai.look spec_l00Src_one_cuts f with | some l => Ai.look l id | none => none) k []
theorem spec_l00Src_one_tabs (k : Nat) : TabsOk Try.prog (spec_l00Src_one_cx k) := ⟨tab_mk tabs_ok _ _ _ _ _ _ _, look_all (Q := ConOk Try.prog) _ trivial, look_all (Q := TakOk Try.prog) _ trivial, look_all (Q := InpOk Try.prog) _ ⟨spec_l00Src_pick_inpOk, trivial⟩, look_all (Q := InlOk Try.prog) _ trivial, mixed_ok⟩
abbrev spec_l00Src_one_sh : List Sh := [.pl .bool]
noncomputable def spec_l00Src_one_r (a0 : ((List Int) × (Int × (Int × Unit)))) (a1 : Int) : Option (((List Int) × (Int × (Int × Unit))) × shDen spec_l00Src_one_sh) :=
 (bindO (spec_l00Src_pick_r a0 a1) fun (b1 : (((List Int) × (Int × (Int × Unit))) × Int)) => (some (b1.1, (decide (b1.2 = (0 : Int))))))
theorem spec_l00Src_one_start (k : Nat) (a0 : ((List Int) × (Int × (Int × Unit)))) (a1 : Int) : fnIK (spec_l00Src_one_cx k) 8 117 spec_l00Src_one_i (.var (.pair (.slice (.int .u8)) (.pair (.int .i64) (.pair (.int .u64) .unit)))) spec_l00Src_one_sh a0 [.pv (.int .i64) a1] =
 ((bindO (spec_l00Src_pick_r a0 a1) fun (b1 : (((List Int) × (Int × (Int × Unit))) × Int)) => (some (b1.1, (decide (b1.2 = (0 : Int)))))) : Option (((List Int) × (Int × (Int × Unit))) × shDen spec_l00Src_one_sh)) := by kernel_rfl

theorem spec_l00Src_one_run (a0 : ((List Int) × (Int × (Int × Unit)))) (a1 : Int) : fnIK (spec_l00Src_one_cx FUEL) 8 117 spec_l00Src_one_i (.var (.pair (.slice (.int .u8)) (.pair (.int .i64) (.pair (.int .u64) .unit)))) spec_l00Src_one_sh a0 [.pv (.int .i64) a1] = spec_l00Src_one_r a0 a1 :=
 (spec_l00Src_one_start FUEL a0 a1).trans (rfl)

noncomputable def spec_l00Src_one_inp : ConI := { k := (.var (.pair (.slice (.int .u8)) (.pair (.int .i64) (.pair (.int .u64) .unit)))), ps := (.pair (.int .i64) .unit), sh := spec_l00Src_one_sh, raw := fun x q => spec_l00Src_one_r x q.1 }
theorem spec_l00Src_one_inpOk : InpOk Try.prog 117 spec_l00Src_one_inp := inp_of_fn (spec_l00Src_one_tabs FUEL) (depth := 8) spec_l00Src_one_ok fun x q z h => (spec_l00Src_one_run x q.1).trans h

noncomputable def spec_l01Data_l0_cut : Cut := { keep := [0, 5, 6, 7], stk := [], ids := [7, 90050], own := [(5, 90050, 25)], outs := [(1, [5], [7, 90050])] }
noncomputable def spec_l01Data_inls : List (Nat × Inl) := []
noncomputable def spec_l01Data_cons : List (Nat × Con) := []
noncomputable def spec_l01Data_taks : List (Nat × ConT) := []
noncomputable def spec_l01Data_inps : List (Nat × ConI) := [(82, spec_l00Src_pick_inp), (117, spec_l00Src_one_inp)]
noncomputable def spec_l01Data_cuts : List (Nat × List (Nat × Cut)) := [(83, [(0, spec_l01Data_l0_cut)])]
noncomputable def spec_l01Data_cx (k : Nat) : Cx := mkCx tys tbytes telem nozero (Ai.look spec_l01Data_inls) (Ai.look spec_l01Data_cons) (Ai.look spec_l01Data_taks) (Ai.look spec_l01Data_inps) (fun f id => match Ai.look spec_l01Data_cuts f with | some l => Ai.look l id | none => none) k []
theorem spec_l01Data_tabs (k : Nat) : TabsOk Try.prog (spec_l01Data_cx k) := ⟨tab_mk tabs_ok _ _ _ _ _ _ _, look_all (Q := ConOk Try.prog) _ trivial, look_all (Q := TakOk Try.prog) _ trivial, look_all (Q := InpOk Try.prog) _ ⟨spec_l00Src_pick_inpOk, spec_l00Src_one_inpOk, trivial⟩, look_all (Q := InlOk Try.prog) _ trivial, mixed_ok⟩
abbrev spec_l01Data_sh : List Sh := [.own 5 (.int .u8)]
noncomputable def spec_l01Data_l0_s (x6 : Bool) (x7 : Int) (y7 : ((List Int) × (Int × (Int × Unit)))) (z90050 : (List Int)) : St := { env := [.ptr 7 (.pair (.slice (.int .u8)) (.pair (.int .i64) (.pair (.int .u64) .unit))) [], .dead, .dead, .dead, .dead, .sl 90050 (.int .u8), .pv .bool x6, .pv (.int .i64) x7, .dead, .dead, .dead, .dead, .dead, .dead, .dead, .dead, .dead, .dead, .dead, .dead, .dead, .dead, .dead, .dead, .dead, .dead, .dead, .dead, .dead, .dead, .dead], stk := [], heap := [(7, .var (.pair (.slice (.int .u8)) (.pair (.int .i64) (.pair (.int .u64) .unit))) (.pv (.pair (.slice (.int .u8)) (.pair (.int .i64) (.pair (.int .u64) .unit))) y7)), (90050, .arr 5 (.int .u8) z90050)] }
noncomputable def spec_l01Data_l0_o0 (y7 : ((List Int) × (Int × (Int × Unit)))) (z90050 : (List Int)) : St := { env := [.dead, .dead, .dead, .dead, .dead, .sl 90050 (.int .u8), .dead, .dead, .dead, .dead, .dead, .dead, .dead, .dead, .dead, .dead, .dead, .dead, .dead, .dead, .dead, .dead, .dead, .dead, .dead, .dead, .dead, .dead, .dead, .dead, .dead], stk := [], heap := [(7, .var (.pair (.slice (.int .u8)) (.pair (.int .i64) (.pair (.int .u64) .unit))) (.pv (.pair (.slice (.int .u8)) (.pair (.int .i64) (.pair (.int .u64) .unit))) y7)), (90050, .arr 5 (.int .u8) z90050)] }
noncomputable def spec_l01Data_l0_b (rec : Bool → Int → ((List Int) × (Int × (Int × Unit))) → (List Int) → Option (((List Int) × (Int × (Int × Unit))) × shDen spec_l01Data_sh)) (ke0 : ((List Int) × (Int × (Int × Unit))) → (List Int) → Option (((List Int) × (Int × (Int × Unit))) × shDen spec_l01Data_sh)) (x6 : Bool) (x7 : Int) (y7 : ((List Int) × (Int × (Int × Unit)))) (z90050 : (List Int)) : Option (((List Int) × (Int × (Int × Unit))) × shDen spec_l01Data_sh) :=
 (cond (decide ((0 : Int) < x7))
 (bindO (spec_l00Src_pick_r y7 (256 : Int)) fun (b5 : (((List Int) × (Int × (Int × Unit))) × Int)) => (cond x6
 (bindO (spec_l00Src_pick_r b5.1 (3 : Int)) fun (b6 : (((List Int) × (Int × (Int × Unit))) × Int)) => (cond (decide ((z90050.length + 1) * 1 ≤ 140737488355328) && decide (z90050.length + 1 ≤ 9223372036854775807))
 (rec x6 (IntKind.wrap .i64 (x7 - (1 : Int))) b6.1 (z90050 ++ [(IntKind.wrap .u8 b6.2)]))
 none))
 (cond (decide ((z90050.length + 1) * 1 ≤ 140737488355328) && decide (z90050.length + 1 ≤ 9223372036854775807))
 (rec x6 (IntKind.wrap .i64 (x7 - (1 : Int))) b5.1 (z90050 ++ [(IntKind.wrap .u8 b5.2)]))
 none)))
 (ke0 y7 z90050))
noncomputable def spec_l01Data_l0_L (ke0 : ((List Int) × (Int × (Int × Unit))) → (List Int) → Option (((List Int) × (Int × (Int × Unit))) × shDen spec_l01Data_sh))  : Nat → Bool → Int → ((List Int) × (Int × (Int × Unit))) → (List Int) → Option (((List Int) × (Int × (Int × Unit))) × shDen spec_l01Data_sh)
 | 0 => fun _ _ _ _ => none
 | n + 1 => spec_l01Data_l0_b (spec_l01Data_l0_L ke0  n) ke0 
noncomputable def spec_l01Data_r (a0 : ((List Int) × (Int × (Int × Unit)))) (a1 : Int) : Option (((List Int) × (Int × (Int × Unit))) × shDen spec_l01Data_sh) :=
 (bindO (spec_l00Src_one_r a0 (2 : Int)) fun (b1 : (((List Int) × (Int × (Int × Unit))) × Bool)) => (bindO (spec_l00Src_pick_r b1.1 (IntKind.wrap .i64 (a1 + (1 : Int)))) fun (b2 : (((List Int) × (Int × (Int × Unit))) × Int)) => (spec_l01Data_l0_L (fun y7 z90050 => (some (y7, z90050))) FUEL b1.2 b2.2 b2.1 [])))
theorem spec_l01Data_l0_round (k : Nat) (K : Ex → St → Option (((List Int) × (Int × (Int × Unit))) × shDen spec_l01Data_sh)) (n : Nat) (x6 : Bool) (x7 : Int) (y7 : ((List Int) × (Int × (Int × Unit)))) (z90050 : (List Int)) : (loopK (spec_l01Data_cx k) 0 (execK (spec_l01Data_cx k) (callK (spec_l01Data_cx k) 8) 0 83 (sub spec_l01Data_c [1, 1, 1, 0, 1, 0, 0])) spec_l01Data_l0_cut K (n + 1) (spec_l01Data_l0_s x6 x7 y7 z90050) : Option (((List Int) × (Int × (Int × Unit))) × shDen spec_l01Data_sh)) =
 ((cond (decide ((0 : Int) < x7))
 (bindO (spec_l00Src_pick_r y7 (256 : Int)) fun (b5 : (((List Int) × (Int × (Int × Unit))) × Int)) => (cond x6
 (bindO (spec_l00Src_pick_r b5.1 (3 : Int)) fun (b6 : (((List Int) × (Int × (Int × Unit))) × Int)) => (cond (decide ((z90050.length + 1) * 1 ≤ 140737488355328) && decide (z90050.length + 1 ≤ 9223372036854775807))
 (loopK (spec_l01Data_cx k) 0 (execK (spec_l01Data_cx k) (callK (spec_l01Data_cx k) 8) 0 83 (sub spec_l01Data_c [1, 1, 1, 0, 1, 0, 0])) spec_l01Data_l0_cut K n (spec_l01Data_l0_s x6 (IntKind.wrap .i64 (x7 - (1 : Int))) b6.1 (z90050 ++ [(IntKind.wrap .u8 b6.2)])))
 none))
 (cond (decide ((z90050.length + 1) * 1 ≤ 140737488355328) && decide (z90050.length + 1 ≤ 9223372036854775807))
 (loopK (spec_l01Data_cx k) 0 (execK (spec_l01Data_cx k) (callK (spec_l01Data_cx k) 8) 0 83 (sub spec_l01Data_c [1, 1, 1, 0, 1, 0, 0])) spec_l01Data_l0_cut K n (spec_l01Data_l0_s x6 (IntKind.wrap .i64 (x7 - (1 : Int))) b5.1 (z90050 ++ [(IntKind.wrap .u8 b5.2)])))
 none)))
 (K (.exit 0) (spec_l01Data_l0_o0 y7 z90050))) : Option (((List Int) × (Int × (Int × Unit))) × shDen spec_l01Data_sh)) := by kernel_rfl

theorem spec_l01Data_l0_exit0 (k : Nat)  (y7 : ((List Int) × (Int × (Int × Unit)))) (z90050 : (List Int)) : ((blkK 0 (seqK (execK (spec_l01Data_cx k) (callK (spec_l01Data_cx k) 8) 0 83 (sub spec_l01Data_c [1, 1, 1, 1])) (finIK (spec_l01Data_cx k) spec_l01Data_i (.var (.pair (.slice (.int .u8)) (.pair (.int .i64) (.pair (.int .u64) .unit)))) spec_l01Data_sh))) (.exit 0) (spec_l01Data_l0_o0 y7 z90050) : Option (((List Int) × (Int × (Int × Unit))) × shDen spec_l01Data_sh)) =
 ((some (y7, z90050)) : Option (((List Int) × (Int × (Int × Unit))) × shDen spec_l01Data_sh)) := by kernel_rfl

theorem spec_l01Data_l0_congr (ke0 : ((List Int) × (Int × (Int × Unit))) → (List Int) → Option (((List Int) × (Int × (Int × Unit))) × shDen spec_l01Data_sh)) (ke0' : ((List Int) × (Int × (Int × Unit))) → (List Int) → Option (((List Int) × (Int × (Int × Unit))) × shDen spec_l01Data_sh))  (n : Nat) (x6 : Bool) (x7 : Int) (y7 : ((List Int) × (Int × (Int × Unit)))) (z90050 : (List Int)) (hke0 : ∀ y7 z90050, ke0 y7 z90050 = ke0' y7 z90050) : spec_l01Data_l0_L ke0  n x6 x7 y7 z90050 = spec_l01Data_l0_L ke0'  n x6 x7 y7 z90050 := by
 have : ke0 = ke0' := (by funext y7 z90050; exact hke0 y7 z90050); subst this; rfl

theorem spec_l01Data_l0_L_eq (K : Ex → St → Option (((List Int) × (Int × (Int × Unit))) × shDen spec_l01Data_sh))  : ∀ (n : Nat) (x6 : Bool) (x7 : Int) (y7 : ((List Int) × (Int × (Int × Unit)))) (z90050 : (List Int)), (loopK (spec_l01Data_cx FUEL) 0 (execK (spec_l01Data_cx FUEL) (callK (spec_l01Data_cx FUEL) 8) 0 83 (sub spec_l01Data_c [1, 1, 1, 0, 1, 0, 0])) spec_l01Data_l0_cut K n (spec_l01Data_l0_s x6 x7 y7 z90050) : Option (((List Int) × (Int × (Int × Unit))) × shDen spec_l01Data_sh)) = spec_l01Data_l0_L (fun y7 z90050 => K (.exit 0) (spec_l01Data_l0_o0 y7 z90050))  n x6 x7 y7 z90050 := by
 intro n
 induction n with
 | zero => intros; rfl
 | succ n ih =>
  intro x6 x7 y7 z90050
  exact (spec_l01Data_l0_round FUEL K n  x6 x7 y7 z90050).trans (condC (bindC (fun b5 => condC (bindC (fun b6 => condC (ih x6 (IntKind.wrap .i64 (x7 - (1 : Int))) b6.1 (z90050 ++ [(IntKind.wrap .u8 b6.2)])) (rfl))) (condC (ih x6 (IntKind.wrap .i64 (x7 - (1 : Int))) b5.1 (z90050 ++ [(IntKind.wrap .u8 b5.2)])) (rfl)))) (rfl))

theorem spec_l01Data_start (k : Nat) (a0 : ((List Int) × (Int × (Int × Unit)))) (a1 : Int) : fnIK (spec_l01Data_cx k) 8 83 spec_l01Data_i (.var (.pair (.slice (.int .u8)) (.pair (.int .i64) (.pair (.int .u64) .unit)))) spec_l01Data_sh a0 [.pv (.int .i64) a1] =
 ((bindO (spec_l00Src_one_r a0 (2 : Int)) fun (b1 : (((List Int) × (Int × (Int × Unit))) × Bool)) => (bindO (spec_l00Src_pick_r b1.1 (IntKind.wrap .i64 (a1 + (1 : Int)))) fun (b2 : (((List Int) × (Int × (Int × Unit))) × Int)) => (loopK (spec_l01Data_cx k) 0 (execK (spec_l01Data_cx k) (callK (spec_l01Data_cx k) 8) 0 83 (sub spec_l01Data_c [1, 1, 1, 0, 1, 0, 0])) spec_l01Data_l0_cut (blkK 0 (seqK (execK (spec_l01Data_cx k) (callK (spec_l01Data_cx k) 8) 0 83 (sub spec_l01Data_c [1, 1, 1, 1])) (finIK (spec_l01Data_cx k) spec_l01Data_i (.var (.pair (.slice (.int .u8)) (.pair (.int .i64) (.pair (.int .u64) .unit)))) spec_l01Data_sh))) k (spec_l01Data_l0_s b1.2 b2.2 b2.1 [])))) : Option (((List Int) × (Int × (Int × Unit))) × shDen spec_l01Data_sh)) := by kernel_rfl

theorem spec_l01Data_run (a0 : ((List Int) × (Int × (Int × Unit)))) (a1 : Int) : fnIK (spec_l01Data_cx FUEL) 8 83 spec_l01Data_i (.var (.pair (.slice (.int .u8)) (.pair (.int .i64) (.pair (.int .u64) .unit)))) spec_l01Data_sh a0 [.pv (.int .i64) a1] = spec_l01Data_r a0 a1 :=
 (spec_l01Data_start FUEL a0 a1).trans (bindC (fun b1 => bindC (fun b2 => (spec_l01Data_l0_L_eq _  FUEL b1.2 b2.2 b2.1 []).trans (spec_l01Data_l0_congr _ _  FUEL b1.2 b2.2 b2.1 [] (fun y7 z90050 => (spec_l01Data_l0_exit0 FUEL  y7 z90050).trans (rfl))))))

noncomputable def spec_l01Data_inp : ConI := { k := (.var (.pair (.slice (.int .u8)) (.pair (.int .i64) (.pair (.int .u64) .unit)))), ps := (.pair (.int .i64) .unit), sh := spec_l01Data_sh, raw := fun x q => spec_l01Data_r x q.1 }
theorem spec_l01Data_inpOk : InpOk Try.prog 83 spec_l01Data_inp := inp_of_fn (spec_l01Data_tabs FUEL) (depth := 8) spec_l01Data_ok fun x q z h => (spec_l01Data_run x q.1).trans h

noncomputable def spec_A2Data_inls : List (Nat × Inl) := [(81, spec_l00From_i)]
noncomputable def spec_A2Data_cons : List (Nat × Con) := []
noncomputable def spec_A2Data_taks : List (Nat × ConT) := []
noncomputable def spec_A2Data_inps : List (Nat × ConI) := [(83, spec_l01Data_inp)]
noncomputable def spec_A2Data_cuts : List (Nat × List (Nat × Cut)) := []
noncomputable def spec_A2Data_cx (k : Nat) : Cx := mkCx tys tbytes telem nozero (Ai.look spec_A2Data_inls) (Ai.look spec_A2Data_cons) (Ai.look spec_A2Data_taks) (Ai.look spec_A2Data_inps) (fun f id => match Ai.look spec_A2Data_cuts f with | some l => Ai.look l id | none => none) k []
theorem spec_A2Data_tabs (k : Nat) : TabsOk Try.prog (spec_A2Data_cx k) := ⟨tab_mk tabs_ok _ _ _ _ _ _ _, look_all (Q := ConOk Try.prog) _ trivial, look_all (Q := TakOk Try.prog) _ trivial, look_all (Q := InpOk Try.prog) _ ⟨spec_l01Data_inpOk, trivial⟩, look_all (Q := InlOk Try.prog) _ ⟨spec_l00From_ok, trivial⟩, mixed_ok⟩
abbrev spec_A2Data_sh : List Sh := [.own 5 (.int .u8)]
noncomputable def spec_A2Data_r (a0 : (List Int)) (a1 : Int) : Option (shDen spec_A2Data_sh) :=
 (bindO (spec_l01Data_r (a0, ((0 : Int), ((0 : Int), ()))) a1) fun (b1 : (((List Int) × (Int × (Int × Unit))) × (List Int))) => (some b1.2))
theorem spec_A2Data_start (k : Nat) (a0 : (List Int)) (a1 : Int) : fnK (spec_A2Data_cx k) 8 41 spec_A2Data_i spec_A2Data_sh [.pv (.slice (.int .u8)) a0, .pv (.int .i64) a1] =
 ((bindO (spec_l01Data_r (a0, ((0 : Int), ((0 : Int), ()))) a1) fun (b1 : (((List Int) × (Int × (Int × Unit))) × (List Int))) => (some b1.2)) : Option (shDen spec_A2Data_sh)) := by kernel_rfl

theorem spec_A2Data_run (a0 : (List Int)) (a1 : Int) : fnK (spec_A2Data_cx FUEL) 8 41 spec_A2Data_i spec_A2Data_sh [.pv (.slice (.int .u8)) a0, .pv (.int .i64) a1] = spec_A2Data_r a0 a1 :=
 (spec_A2Data_start FUEL a0 a1).trans (rfl)

noncomputable def spec_A2Data_con : Con := { ps := (.pair (.slice (.int .u8)) (.pair (.int .i64) .unit)), sh := spec_A2Data_sh, raw := fun x => spec_A2Data_r x.1 x.2.1 }
theorem spec_A2Data_conOk : ConOk Try.prog 41 spec_A2Data_con := con_of_fn (spec_A2Data_tabs FUEL) (depth := 8) spec_A2Data_ok fun x y h => (spec_A2Data_run x.1 x.2.1).trans h

noncomputable def impl_within_inls : List (Nat × Inl) := []
noncomputable def impl_within_cons : List (Nat × Con) := []
noncomputable def impl_within_taks : List (Nat × ConT) := []
noncomputable def impl_within_inps : List (Nat × ConI) := []
noncomputable def impl_within_cuts : List (Nat × List (Nat × Cut)) := []
noncomputable def impl_within_cx (k : Nat) : Cx := mkCx tys tbytes telem nozero (Ai.look impl_within_inls) (Ai.look impl_within_cons) (Ai.look impl_within_taks) (Ai.look impl_within_inps) (fun f id => match Ai.look impl_within_cuts f with | some l => Ai.look l id | none => none) k []
theorem impl_within_tabs (k : Nat) : TabsOk Try.prog (impl_within_cx k) := ⟨tab_mk tabs_ok _ _ _ _ _ _ _, look_all (Q := ConOk Try.prog) _ trivial, look_all (Q := TakOk Try.prog) _ trivial, look_all (Q := InpOk Try.prog) _ trivial, look_all (Q := InlOk Try.prog) _ trivial, mixed_ok⟩
abbrev impl_within_sh : List Sh := [.pl .bool]
noncomputable def impl_within_r (a0 : Int) (a1 : Int) (a2 : Int) : Option (shDen impl_within_sh) :=
 (cond (decide (a1 ≤ a0))
 (some (decide (a0 ≤ a2)))
 (some false))
theorem impl_within_start (k : Nat) (a0 : Int) (a1 : Int) (a2 : Int) : fnK (impl_within_cx k) 8 86 impl_within_i impl_within_sh [.pv (.int .i64) a0, .pv (.int .i64) a1, .pv (.int .i64) a2] =
 ((cond (decide (a1 ≤ a0))
 (some (decide (a0 ≤ a2)))
 (some false)) : Option (shDen impl_within_sh)) := by kernel_rfl

theorem impl_within_run (a0 : Int) (a1 : Int) (a2 : Int) : fnK (impl_within_cx FUEL) 8 86 impl_within_i impl_within_sh [.pv (.int .i64) a0, .pv (.int .i64) a1, .pv (.int .i64) a2] = impl_within_r a0 a1 a2 :=
 (impl_within_start FUEL a0 a1 a2).trans (rfl)

noncomputable def impl_within_con : Con := { ps := (.pair (.int .i64) (.pair (.int .i64) (.pair (.int .i64) .unit))), sh := impl_within_sh, raw := fun x => impl_within_r x.1 x.2.1 x.2.2.1 }
theorem impl_within_conOk : ConOk Try.prog 86 impl_within_con := con_of_fn (impl_within_tabs FUEL) (depth := 8) impl_within_ok fun x y h => (impl_within_run x.1 x.2.1 x.2.2.1).trans h

noncomputable def impl_ValidRule_inls : List (Nat × Inl) := []
noncomputable def impl_ValidRule_cons : List (Nat × Con) := [(86, impl_within_con)]
noncomputable def impl_ValidRule_taks : List (Nat × ConT) := []
noncomputable def impl_ValidRule_inps : List (Nat × ConI) := []
noncomputable def impl_ValidRule_cuts : List (Nat × List (Nat × Cut)) := []
noncomputable def impl_ValidRule_cx (k : Nat) : Cx := mkCx tys tbytes telem nozero (Ai.look impl_ValidRule_inls) (Ai.look impl_ValidRule_cons) (Ai.look impl_ValidRule_taks) (Ai.look impl_ValidRule_inps) (fun f id => match Ai.look impl_ValidRule_cuts f with | some l => Ai.look l id | none => none) k []
theorem impl_ValidRule_tabs (k : Nat) : TabsOk Try.prog (impl_ValidRule_cx k) := ⟨tab_mk tabs_ok _ _ _ _ _ _ _, look_all (Q := ConOk Try.prog) _ ⟨impl_within_conOk, trivial⟩, look_all (Q := TakOk Try.prog) _ trivial, look_all (Q := InpOk Try.prog) _ trivial, look_all (Q := InlOk Try.prog) _ trivial, mixed_ok⟩
abbrev impl_ValidRule_sh : List Sh := [.pl .bool]
noncomputable def impl_ValidRule_r (a0 : (Int × (Int × (Int × Unit)))) : Option (shDen impl_ValidRule_sh) :=
 (bindO (impl_within_r a0.1 (1 : Int) (64 : Int)) fun (b1 : Bool) => (cond b1
 (bindO (impl_within_r a0.2.1 a0.1 (256 : Int)) fun (b2 : Bool) => (cond b2
 (bindO (impl_within_r a0.2.2.1 (0 : Int) (8 : Int)) fun (b3 : Bool) => (some b3))
 (some false)))
 (some false)))
theorem impl_ValidRule_start (k : Nat) (a0 : (Int × (Int × (Int × Unit)))) : fnK (impl_ValidRule_cx k) 8 46 impl_ValidRule_i impl_ValidRule_sh [.pv (.pair (.int .i64) (.pair (.int .i64) (.pair (.int .i64) .unit))) a0] =
 ((bindO (impl_within_r a0.1 (1 : Int) (64 : Int)) fun (b1 : Bool) => (cond b1
 (bindO (impl_within_r a0.2.1 a0.1 (256 : Int)) fun (b2 : Bool) => (cond b2
 (bindO (impl_within_r a0.2.2.1 (0 : Int) (8 : Int)) fun (b3 : Bool) => (some b3))
 (some false)))
 (some false))) : Option (shDen impl_ValidRule_sh)) := by kernel_rfl

theorem impl_ValidRule_run (a0 : (Int × (Int × (Int × Unit)))) : fnK (impl_ValidRule_cx FUEL) 8 46 impl_ValidRule_i impl_ValidRule_sh [.pv (.pair (.int .i64) (.pair (.int .i64) (.pair (.int .i64) .unit))) a0] = impl_ValidRule_r a0 :=
 (impl_ValidRule_start FUEL a0).trans (rfl)

noncomputable def impl_ValidRule_con : Con := { ps := (.pair (.pair (.int .i64) (.pair (.int .i64) (.pair (.int .i64) .unit))) .unit), sh := impl_ValidRule_sh, raw := fun x => impl_ValidRule_r x.1 }
theorem impl_ValidRule_conOk : ConOk Try.prog 46 impl_ValidRule_con := con_of_fn (impl_ValidRule_tabs FUEL) (depth := 8) impl_ValidRule_ok fun x y h => (impl_ValidRule_run x.1).trans h

noncomputable def impl_ruleCode_1_inls : List (Nat × Inl) := []
noncomputable def impl_ruleCode_1_cons : List (Nat × Con) := []
noncomputable def impl_ruleCode_1_taks : List (Nat × ConT) := []
noncomputable def impl_ruleCode_1_inps : List (Nat × ConI) := []
noncomputable def impl_ruleCode_1_cuts : List (Nat × List (Nat × Cut)) := []
noncomputable def impl_ruleCode_1_cx (k : Nat) : Cx := mkCx tys tbytes telem nozero (Ai.look impl_ruleCode_1_inls) (Ai.look impl_ruleCode_1_cons) (Ai.look impl_ruleCode_1_taks) (Ai.look impl_ruleCode_1_inps) (fun f id => match Ai.look impl_ruleCode_1_cuts f with | some l => Ai.look l id | none => none) k []
theorem impl_ruleCode_1_tabs (k : Nat) : TabsOk Try.prog (impl_ruleCode_1_cx k) := ⟨tab_mk tabs_ok _ _ _ _ _ _ _, look_all (Q := ConOk Try.prog) _ trivial, look_all (Q := TakOk Try.prog) _ trivial, look_all (Q := InpOk Try.prog) _ trivial, look_all (Q := InlOk Try.prog) _ trivial, mixed_ok⟩
abbrev impl_ruleCode_1_sh : List Sh := [.pl .bool]
noncomputable def impl_ruleCode_1_r (a0 : (List Int)) : Option (shDen impl_ruleCode_1_sh) :=
 (some (decide ((4096 : Int) < (a0.length : Int))))
theorem impl_ruleCode_1_start (k : Nat) (a0 : (List Int)) : fnK (impl_ruleCode_1_cx k) 8 100 impl_ruleCode_1_i impl_ruleCode_1_sh [.pv (.slice (.int .u8)) a0] =
 ((some (decide ((4096 : Int) < (a0.length : Int)))) : Option (shDen impl_ruleCode_1_sh)) := by kernel_rfl

theorem impl_ruleCode_1_run (a0 : (List Int)) : fnK (impl_ruleCode_1_cx FUEL) 8 100 impl_ruleCode_1_i impl_ruleCode_1_sh [.pv (.slice (.int .u8)) a0] = impl_ruleCode_1_r a0 :=
 (impl_ruleCode_1_start FUEL a0).trans (rfl)

noncomputable def impl_ruleCode_1_con : Con := { ps := (.pair (.slice (.int .u8)) .unit), sh := impl_ruleCode_1_sh, raw := fun x => impl_ruleCode_1_r x.1 }
theorem impl_ruleCode_1_conOk : ConOk Try.prog 100 impl_ruleCode_1_con := con_of_fn (impl_ruleCode_1_tabs FUEL) (depth := 8) impl_ruleCode_1_ok fun x y h => (impl_ruleCode_1_run x.1).trans h

noncomputable def impl_ruleCode_l0_cut : Cut := { keep := [0, 1, 7, 8], stk := [[], []], ids := [], own := [], outs := [(0, [4], []), (1, [], [])] }
noncomputable def impl_ruleCode_inls : List (Nat × Inl) := [(99, slices_ContainsFunc_byte_byte_i), (124, slices_IndexFunc_byte_byte_i)]
noncomputable def impl_ruleCode_cons : List (Nat × Con) := [(46, impl_ValidRule_con), (100, impl_ruleCode_1_con)]
noncomputable def impl_ruleCode_taks : List (Nat × ConT) := []
noncomputable def impl_ruleCode_inps : List (Nat × ConI) := []
noncomputable def impl_ruleCode_cuts : List (Nat × List (Nat × Cut)) := [(650011009900070124, [(0, impl_ruleCode_l0_cut)])]
noncomputable def impl_ruleCode_cx (k : Nat) : Cx := mkCx tys tbytes telem nozero (Ai.look impl_ruleCode_inls) (Ai.look impl_ruleCode_cons) (Ai.look impl_ruleCode_taks) (Ai.look impl_ruleCode_inps) (fun f id => match Ai.look impl_ruleCode_cuts f with | some l => Ai.look l id | none => none) k []
theorem impl_ruleCode_tabs (k : Nat) : TabsOk Try.prog (impl_ruleCode_cx k) := ⟨tab_mk tabs_ok _ _ _ _ _ _ _, look_all (Q := ConOk Try.prog) _ ⟨impl_ValidRule_conOk, impl_ruleCode_1_conOk, trivial⟩, look_all (Q := TakOk Try.prog) _ trivial, look_all (Q := InpOk Try.prog) _ trivial, look_all (Q := InlOk Try.prog) _ ⟨slices_ContainsFunc_byte_byte_ok, slices_IndexFunc_byte_byte_ok, trivial⟩, mixed_ok⟩
abbrev impl_ruleCode_sh : List Sh := [.pl (.int .i64)]
noncomputable def impl_ruleCode_l0_s (a0 : (Int × (Int × (Int × Unit)))) (a1 : (List (List Int))) (x8 : Int) : St := { env := [.pv (.slice (.slice (.int .u8))) a1, .fn 100 (.pv .unit ()), .dead, .dead, .dead, .dead, .dead, .pv (.int .i64) (a1.length : Int), .pv (.int .i64) x8, .dead, .dead, .dead, .dead, .dead, .dead, .dead, .dead, .dead, .dead], stk := [[.dead, .dead, .dead, .dead, .dead, .dead, .dead, .dead, .dead], [.dead, .dead, .dead, .dead, .dead, .dead, .dead, .dead, .dead, .dead, .dead, .dead]], heap := [(20, .var (.pair (.int .i64) (.pair (.int .i64) (.pair (.int .i64) .unit))) (.pv (.pair (.int .i64) (.pair (.int .i64) (.pair (.int .i64) .unit))) a0))] }
noncomputable def impl_ruleCode_l0_o (a0 : (Int × (Int × (Int × Unit)))) (x4 : Int) : St := { env := [.dead, .dead, .dead, .dead, .pv (.int .i64) x4, .dead, .dead, .dead, .dead, .dead, .dead, .dead, .dead, .dead, .dead, .dead, .dead, .dead, .dead], stk := [[.dead, .dead, .dead, .dead, .dead, .dead, .dead, .dead, .dead], [.dead, .dead, .dead, .dead, .dead, .dead, .dead, .dead, .dead, .dead, .dead, .dead]], heap := [(20, .var (.pair (.int .i64) (.pair (.int .i64) (.pair (.int .i64) .unit))) (.pv (.pair (.int .i64) (.pair (.int .i64) (.pair (.int .i64) .unit))) a0))] }
noncomputable def impl_ruleCode_l0_o0 (a0 : (Int × (Int × (Int × Unit)))) : St := { env := [.dead, .dead, .dead, .dead, .dead, .dead, .dead, .dead, .dead, .dead, .dead, .dead, .dead, .dead, .dead, .dead, .dead, .dead, .dead], stk := [[.dead, .dead, .dead, .dead, .dead, .dead, .dead, .dead, .dead], [.dead, .dead, .dead, .dead, .dead, .dead, .dead, .dead, .dead, .dead, .dead, .dead]], heap := [(20, .var (.pair (.int .i64) (.pair (.int .i64) (.pair (.int .i64) .unit))) (.pv (.pair (.int .i64) (.pair (.int .i64) (.pair (.int .i64) .unit))) a0))] }
noncomputable def impl_ruleCode_l0_b (rec : Int → Option (shDen impl_ruleCode_sh)) (kr : Int → Option (shDen impl_ruleCode_sh)) (ke0 : Option (shDen impl_ruleCode_sh)) (a0 : (Int × (Int × (Int × Unit)))) (a1 : (List (List Int))) (x8 : Int) : Option (shDen impl_ruleCode_sh) :=
 (cond (decide (x8 < (a1.length : Int)))
 (cond ((decide ((0 : Int) ≤ x8)) && (decide (x8 < (a1.length : Int))))
 (bindO (impl_ruleCode_1_r (a1.getD (x8.toNat) [])) fun (b3 : Bool) => (cond b3
 (kr x8)
 (rec (IntKind.wrap .i64 (x8 + (1 : Int))))))
 none)
 (ke0))
noncomputable def impl_ruleCode_l0_L (kr : Int → Option (shDen impl_ruleCode_sh)) (ke0 : Option (shDen impl_ruleCode_sh)) (a0 : (Int × (Int × (Int × Unit)))) (a1 : (List (List Int))) : Nat → Int → Option (shDen impl_ruleCode_sh)
 | 0 => fun _ => none
 | n + 1 => impl_ruleCode_l0_b (impl_ruleCode_l0_L kr ke0 a0 a1 n) kr ke0 a0 a1
noncomputable def impl_ruleCode_r (a0 : (Int × (Int × (Int × Unit)))) (a1 : (List (List Int))) : Option (shDen impl_ruleCode_sh) :=
 (bindO (impl_ValidRule_r a0) fun (b1 : Bool) => (cond (!b1)
 (some (1 : Int))
 (impl_ruleCode_l0_L (fun x4 => (cond (decide ((0 : Int) ≤ x4))
 (some (3 : Int))
 (some (0 : Int)))) (some (0 : Int)) a0 a1 FUEL (0 : Int))))
theorem impl_ruleCode_l0_round (k : Nat) (K : Ex → St → Option (shDen impl_ruleCode_sh)) (n : Nat) (a0 : (Int × (Int × (Int × Unit)))) (a1 : (List (List Int))) (x8 : Int) : (loopK (impl_ruleCode_cx k) 2 (execK (impl_ruleCode_cx k) (callK (impl_ruleCode_cx k) 6) 2 650011009900070124 (sub slices_IndexFunc_byte_byte_c [1, 0, 1, 0, 0])) impl_ruleCode_l0_cut K (n + 1) (impl_ruleCode_l0_s a0 a1 x8) : Option (shDen impl_ruleCode_sh)) =
 ((cond (decide (x8 < (a1.length : Int)))
 (cond ((decide ((0 : Int) ≤ x8)) && (decide (x8 < (a1.length : Int))))
 (bindO (impl_ruleCode_1_r (a1.getD (x8.toNat) [])) fun (b3 : Bool) => (cond b3
 (K .ret (impl_ruleCode_l0_o a0 x8))
 (loopK (impl_ruleCode_cx k) 2 (execK (impl_ruleCode_cx k) (callK (impl_ruleCode_cx k) 6) 2 650011009900070124 (sub slices_IndexFunc_byte_byte_c [1, 0, 1, 0, 0])) impl_ruleCode_l0_cut K n (impl_ruleCode_l0_s a0 a1 (IntKind.wrap .i64 (x8 + (1 : Int)))))))
 none)
 (K (.exit 0) (impl_ruleCode_l0_o0 a0))) : Option (shDen impl_ruleCode_sh)) := by kernel_rfl

theorem impl_ruleCode_l0_ret (k : Nat)  (a0 : (Int × (Int × (Int × Unit)))) (x4 : Int) : ((blkK 0 (seqK (execK (impl_ruleCode_cx k) (callK (impl_ruleCode_cx k) 6) 2 650011009900070124 (sub slices_IndexFunc_byte_byte_c [1, 1])) (retK (impl_ruleCode_cx k) slices_IndexFunc_byte_byte_i (some 7) 1 (opsRest (impl_ruleCode_cx k) (callK (impl_ruleCode_cx k) 7) 1 6500110099 false (regOps (sub slices_ContainsFunc_byte_byte_c [1, 0])) 2 (seqK (execK (impl_ruleCode_cx k) (callK (impl_ruleCode_cx k) 7) 1 6500110099 (sub slices_ContainsFunc_byte_byte_c [1, 1])) (retK (impl_ruleCode_cx k) slices_ContainsFunc_byte_byte_i (some 11) 0 (opsRest (impl_ruleCode_cx k) (callK (impl_ruleCode_cx k) 8) 0 65 false (regOps (sub impl_ruleCode_c [1, 0, 0, 1, 1, 0])) 1 (seqK (execK (impl_ruleCode_cx k) (callK (impl_ruleCode_cx k) 8) 0 65 (sub impl_ruleCode_c [1, 0, 0, 1, 1, 1])) (blkK 0 (seqK (execK (impl_ruleCode_cx k) (callK (impl_ruleCode_cx k) 8) 0 65 (sub impl_ruleCode_c [1, 1])) (finK (impl_ruleCode_cx k) impl_ruleCode_i impl_ruleCode_sh))))))))))) .ret (impl_ruleCode_l0_o a0 x4) : Option (shDen impl_ruleCode_sh)) =
 ((cond (decide ((0 : Int) ≤ x4))
 (some (3 : Int))
 (some (0 : Int))) : Option (shDen impl_ruleCode_sh)) := by kernel_rfl

theorem impl_ruleCode_l0_exit0 (k : Nat)  (a0 : (Int × (Int × (Int × Unit)))) : ((blkK 0 (seqK (execK (impl_ruleCode_cx k) (callK (impl_ruleCode_cx k) 6) 2 650011009900070124 (sub slices_IndexFunc_byte_byte_c [1, 1])) (retK (impl_ruleCode_cx k) slices_IndexFunc_byte_byte_i (some 7) 1 (opsRest (impl_ruleCode_cx k) (callK (impl_ruleCode_cx k) 7) 1 6500110099 false (regOps (sub slices_ContainsFunc_byte_byte_c [1, 0])) 2 (seqK (execK (impl_ruleCode_cx k) (callK (impl_ruleCode_cx k) 7) 1 6500110099 (sub slices_ContainsFunc_byte_byte_c [1, 1])) (retK (impl_ruleCode_cx k) slices_ContainsFunc_byte_byte_i (some 11) 0 (opsRest (impl_ruleCode_cx k) (callK (impl_ruleCode_cx k) 8) 0 65 false (regOps (sub impl_ruleCode_c [1, 0, 0, 1, 1, 0])) 1 (seqK (execK (impl_ruleCode_cx k) (callK (impl_ruleCode_cx k) 8) 0 65 (sub impl_ruleCode_c [1, 0, 0, 1, 1, 1])) (blkK 0 (seqK (execK (impl_ruleCode_cx k) (callK (impl_ruleCode_cx k) 8) 0 65 (sub impl_ruleCode_c [1, 1])) (finK (impl_ruleCode_cx k) impl_ruleCode_i impl_ruleCode_sh))))))))))) (.exit 0) (impl_ruleCode_l0_o0 a0) : Option (shDen impl_ruleCode_sh)) =
 ((some (0 : Int)) : Option (shDen impl_ruleCode_sh)) := by kernel_rfl

theorem impl_ruleCode_l0_congr (kr : Int → Option (shDen impl_ruleCode_sh)) (ke0 : Option (shDen impl_ruleCode_sh)) (kr' : Int → Option (shDen impl_ruleCode_sh)) (ke0' : Option (shDen impl_ruleCode_sh)) (a0 : (Int × (Int × (Int × Unit)))) (a1 : (List (List Int))) (n : Nat) (x8 : Int) (hkr : ∀ x4, kr x4 = kr' x4) (hke0 : ∀ (_ : Unit), ke0  = ke0' ) : impl_ruleCode_l0_L kr ke0 a0 a1 n x8 = impl_ruleCode_l0_L kr' ke0' a0 a1 n x8 := by
 have : kr = kr' := (by funext x4; exact hkr x4); subst this; have : ke0 = ke0' := hke0 (); subst this; rfl

theorem impl_ruleCode_l0_L_eq (K : Ex → St → Option (shDen impl_ruleCode_sh)) (a0 : (Int × (Int × (Int × Unit)))) (a1 : (List (List Int))) : ∀ (n : Nat) (x8 : Int), (loopK (impl_ruleCode_cx FUEL) 2 (execK (impl_ruleCode_cx FUEL) (callK (impl_ruleCode_cx FUEL) 6) 2 650011009900070124 (sub slices_IndexFunc_byte_byte_c [1, 0, 1, 0, 0])) impl_ruleCode_l0_cut K n (impl_ruleCode_l0_s a0 a1 x8) : Option (shDen impl_ruleCode_sh)) = impl_ruleCode_l0_L (fun x4 => K .ret (impl_ruleCode_l0_o a0 x4)) (K (.exit 0) (impl_ruleCode_l0_o0 a0)) a0 a1 n x8 := by
 intro n
 induction n with
 | zero => intros; rfl
 | succ n ih =>
  intro x8
  exact (impl_ruleCode_l0_round FUEL K n a0 a1 x8).trans (condC (condC (bindC (fun b3 => condC (rfl) (ih (IntKind.wrap .i64 (x8 + (1 : Int)))))) (rfl)) (rfl))

theorem impl_ruleCode_start (k : Nat) (a0 : (Int × (Int × (Int × Unit)))) (a1 : (List (List Int))) : fnK (impl_ruleCode_cx k) 8 65 impl_ruleCode_i impl_ruleCode_sh [.pv (.pair (.int .i64) (.pair (.int .i64) (.pair (.int .i64) .unit))) a0, .pv (.slice (.slice (.int .u8))) a1] =
 ((bindO (impl_ValidRule_r a0) fun (b1 : Bool) => (cond (!b1)
 (some (1 : Int))
 (loopK (impl_ruleCode_cx k) 2 (execK (impl_ruleCode_cx k) (callK (impl_ruleCode_cx k) 6) 2 650011009900070124 (sub slices_IndexFunc_byte_byte_c [1, 0, 1, 0, 0])) impl_ruleCode_l0_cut (blkK 0 (seqK (execK (impl_ruleCode_cx k) (callK (impl_ruleCode_cx k) 6) 2 650011009900070124 (sub slices_IndexFunc_byte_byte_c [1, 1])) (retK (impl_ruleCode_cx k) slices_IndexFunc_byte_byte_i (some 7) 1 (opsRest (impl_ruleCode_cx k) (callK (impl_ruleCode_cx k) 7) 1 6500110099 false (regOps (sub slices_ContainsFunc_byte_byte_c [1, 0])) 2 (seqK (execK (impl_ruleCode_cx k) (callK (impl_ruleCode_cx k) 7) 1 6500110099 (sub slices_ContainsFunc_byte_byte_c [1, 1])) (retK (impl_ruleCode_cx k) slices_ContainsFunc_byte_byte_i (some 11) 0 (opsRest (impl_ruleCode_cx k) (callK (impl_ruleCode_cx k) 8) 0 65 false (regOps (sub impl_ruleCode_c [1, 0, 0, 1, 1, 0])) 1 (seqK (execK (impl_ruleCode_cx k) (callK (impl_ruleCode_cx k) 8) 0 65 (sub impl_ruleCode_c [1, 0, 0, 1, 1, 1])) (blkK 0 (seqK (execK (impl_ruleCode_cx k) (callK (impl_ruleCode_cx k) 8) 0 65 (sub impl_ruleCode_c [1, 1])) (finK (impl_ruleCode_cx k) impl_ruleCode_i impl_ruleCode_sh))))))))))) k (impl_ruleCode_l0_s a0 a1 (0 : Int))))) : Option (shDen impl_ruleCode_sh)) := by kernel_rfl

theorem impl_ruleCode_run (a0 : (Int × (Int × (Int × Unit)))) (a1 : (List (List Int))) : fnK (impl_ruleCode_cx FUEL) 8 65 impl_ruleCode_i impl_ruleCode_sh [.pv (.pair (.int .i64) (.pair (.int .i64) (.pair (.int .i64) .unit))) a0, .pv (.slice (.slice (.int .u8))) a1] = impl_ruleCode_r a0 a1 :=
 (impl_ruleCode_start FUEL a0 a1).trans (bindC (fun b1 => condC (rfl) ((impl_ruleCode_l0_L_eq _ a0 a1 FUEL (0 : Int)).trans (impl_ruleCode_l0_congr _ _ _ _ a0 a1 FUEL (0 : Int) (fun x4 => (impl_ruleCode_l0_ret FUEL  a0 x4).trans (rfl)) (fun _ => (impl_ruleCode_l0_exit0 FUEL  a0).trans (rfl))))))

noncomputable def impl_ruleCode_con : Con := { ps := (.pair (.pair (.int .i64) (.pair (.int .i64) (.pair (.int .i64) .unit))) (.pair (.slice (.slice (.int .u8))) .unit)), sh := impl_ruleCode_sh, raw := fun x => impl_ruleCode_r x.1 x.2.1 }
theorem impl_ruleCode_conOk : ConOk Try.prog 65 impl_ruleCode_con := con_of_fn (impl_ruleCode_tabs FUEL) (depth := 8) impl_ruleCode_ok fun x y h => (impl_ruleCode_run x.1 x.2.1).trans h

noncomputable def impl_StartState_l0_cut : Cut := { keep := [0, 2, 3, 6], stk := [], ids := [20, 30], own := [], outs := [(1, [2, 3], [20, 30])] }
noncomputable def impl_StartState_inls : List (Nat × Inl) := []
noncomputable def impl_StartState_cons : List (Nat × Con) := []
noncomputable def impl_StartState_taks : List (Nat × ConT) := []
noncomputable def impl_StartState_inps : List (Nat × ConI) := []
noncomputable def impl_StartState_cuts : List (Nat × List (Nat × Cut)) := [(105, [(0, impl_StartState_l0_cut)])]
noncomputable def impl_StartState_cx (k : Nat) : Cx := mkCx tys tbytes telem nozero (Ai.look impl_StartState_inls) (Ai.look impl_StartState_cons) (Ai.look impl_StartState_taks) (Ai.look impl_StartState_inps) (fun f id => match Ai.look impl_StartState_cuts f with | some l => Ai.look l id | none => none) k []
theorem impl_StartState_tabs (k : Nat) : TabsOk Try.prog (impl_StartState_cx k) := ⟨tab_mk tabs_ok _ _ _ _ _ _ _, look_all (Q := ConOk Try.prog) _ trivial, look_all (Q := TakOk Try.prog) _ trivial, look_all (Q := InpOk Try.prog) _ trivial, look_all (Q := InlOk Try.prog) _ trivial, mixed_ok⟩
abbrev impl_StartState_sh : List Sh := [.pl (.arr 8 (.int .u32))]
noncomputable def impl_StartState_l0_s (a0 : Int) (x6 : Int) (y30 : (List Int)) : St := { env := [.pv (.int .u8) a0, .dead, .ptr 20 (.arr 8 (.int .u32)) [], .ptr 30 (.arr 8 (.int .u32)) [], .dead, .dead, .pv (.int .i64) x6, .dead, .dead, .dead, .dead, .dead, .dead, .dead, .dead, .dead, .dead, .dead, .dead, .dead], stk := [], heap := [(20, .var (.arr 8 (.int .u32)) (.pv (.arr 8 (.int .u32)) (List.replicate 8 (0 : Int)))), (30, .var (.arr 8 (.int .u32)) (.pv (.arr 8 (.int .u32)) y30))] }
noncomputable def impl_StartState_l0_o0 (y30 : (List Int)) : St := { env := [.dead, .dead, .ptr 20 (.arr 8 (.int .u32)) [], .ptr 30 (.arr 8 (.int .u32)) [], .dead, .dead, .dead, .dead, .dead, .dead, .dead, .dead, .dead, .dead, .dead, .dead, .dead, .dead, .dead, .dead], stk := [], heap := [(20, .var (.arr 8 (.int .u32)) (.pv (.arr 8 (.int .u32)) (List.replicate 8 (0 : Int)))), (30, .var (.arr 8 (.int .u32)) (.pv (.arr 8 (.int .u32)) y30))] }
noncomputable def impl_StartState_l0_b (rec : Int → (List Int) → Option (shDen impl_StartState_sh)) (ke0 : (List Int) → Option (shDen impl_StartState_sh)) (a0 : Int) (x6 : Int) (y30 : (List Int)) : Option (shDen impl_StartState_sh) :=
 (cond (decide (x6 < (8 : Int)))
 (cond ((decide ((0 : Int) ≤ x6)) && (decide (x6 < (8 : Int))))
 (rec (IntKind.wrap .i64 (x6 + (1 : Int))) (y30.set (x6.toNat) (IntKind.wrap .u32 ((IntKind.wrap .u32 ((16777619 : Int) * (IntKind.wrap .u32 (IntKind.wrap .i64 (x6 + (1 : Int)))))) + (IntKind.wrap .u32 a0)))))
 none)
 (ke0 y30))
noncomputable def impl_StartState_l0_L (ke0 : (List Int) → Option (shDen impl_StartState_sh)) (a0 : Int) : Nat → Int → (List Int) → Option (shDen impl_StartState_sh)
 | 0 => fun _ _ => none
 | n + 1 => impl_StartState_l0_b (impl_StartState_l0_L ke0 a0 n) ke0 a0
noncomputable def impl_StartState_r (a0 : Int) : Option (shDen impl_StartState_sh) :=
 (impl_StartState_l0_L (fun y30 => (some y30)) a0 FUEL (0 : Int) (List.replicate 8 (0 : Int)))
theorem impl_StartState_l0_round (k : Nat) (K : Ex → St → Option (shDen impl_StartState_sh)) (n : Nat) (a0 : Int) (x6 : Int) (y30 : (List Int)) : (loopK (impl_StartState_cx k) 0 (execK (impl_StartState_cx k) (callK (impl_StartState_cx k) 8) 0 105 (sub impl_StartState_c [1, 1, 0, 1, 0, 0])) impl_StartState_l0_cut K (n + 1) (impl_StartState_l0_s a0 x6 y30) : Option (shDen impl_StartState_sh)) =
 ((cond (decide (x6 < (8 : Int)))
 (cond ((decide ((0 : Int) ≤ x6)) && (decide (x6 < (8 : Int))))
 (loopK (impl_StartState_cx k) 0 (execK (impl_StartState_cx k) (callK (impl_StartState_cx k) 8) 0 105 (sub impl_StartState_c [1, 1, 0, 1, 0, 0])) impl_StartState_l0_cut K n (impl_StartState_l0_s a0 (IntKind.wrap .i64 (x6 + (1 : Int))) (y30.set (x6.toNat) (IntKind.wrap .u32 ((IntKind.wrap .u32 ((16777619 : Int) * (IntKind.wrap .u32 (IntKind.wrap .i64 (x6 + (1 : Int)))))) + (IntKind.wrap .u32 a0))))))
 none)
 (K (.exit 0) (impl_StartState_l0_o0 y30))) : Option (shDen impl_StartState_sh)) := by kernel_rfl

theorem impl_StartState_l0_exit0 (k : Nat)  (y30 : (List Int)) : ((blkK 0 (seqK (execK (impl_StartState_cx k) (callK (impl_StartState_cx k) 8) 0 105 (sub impl_StartState_c [1, 1, 1])) (finK (impl_StartState_cx k) impl_StartState_i impl_StartState_sh))) (.exit 0) (impl_StartState_l0_o0 y30) : Option (shDen impl_StartState_sh)) =
 ((some y30) : Option (shDen impl_StartState_sh)) := by kernel_rfl

theorem impl_StartState_l0_congr (ke0 : (List Int) → Option (shDen impl_StartState_sh)) (ke0' : (List Int) → Option (shDen impl_StartState_sh)) (a0 : Int) (n : Nat) (x6 : Int) (y30 : (List Int)) (hke0 : ∀ y30, ke0 y30 = ke0' y30) : impl_StartState_l0_L ke0 a0 n x6 y30 = impl_StartState_l0_L ke0' a0 n x6 y30 := by
 have : ke0 = ke0' := (by funext y30; exact hke0 y30); subst this; rfl

theorem impl_StartState_l0_L_eq (K : Ex → St → Option (shDen impl_StartState_sh)) (a0 : Int) : ∀ (n : Nat) (x6 : Int) (y30 : (List Int)), (loopK (impl_StartState_cx FUEL) 0 (execK (impl_StartState_cx FUEL) (callK (impl_StartState_cx FUEL) 8) 0 105 (sub impl_StartState_c [1, 1, 0, 1, 0, 0])) impl_StartState_l0_cut K n (impl_StartState_l0_s a0 x6 y30) : Option (shDen impl_StartState_sh)) = impl_StartState_l0_L (fun y30 => K (.exit 0) (impl_StartState_l0_o0 y30)) a0 n x6 y30 := by
 intro n
 induction n with
 | zero => intros; rfl
 | succ n ih =>
  intro x6 y30
  exact (impl_StartState_l0_round FUEL K n a0 x6 y30).trans (condC (condC (ih (IntKind.wrap .i64 (x6 + (1 : Int))) (y30.set (x6.toNat) (IntKind.wrap .u32 ((IntKind.wrap .u32 ((16777619 : Int) * (IntKind.wrap .u32 (IntKind.wrap .i64 (x6 + (1 : Int)))))) + (IntKind.wrap .u32 a0))))) (rfl)) (rfl))

theorem impl_StartState_start (k : Nat) (a0 : Int) : fnK (impl_StartState_cx k) 8 105 impl_StartState_i impl_StartState_sh [.pv (.int .u8) a0] =
 ((loopK (impl_StartState_cx k) 0 (execK (impl_StartState_cx k) (callK (impl_StartState_cx k) 8) 0 105 (sub impl_StartState_c [1, 1, 0, 1, 0, 0])) impl_StartState_l0_cut (blkK 0 (seqK (execK (impl_StartState_cx k) (callK (impl_StartState_cx k) 8) 0 105 (sub impl_StartState_c [1, 1, 1])) (finK (impl_StartState_cx k) impl_StartState_i impl_StartState_sh))) k (impl_StartState_l0_s a0 (0 : Int) (List.replicate 8 (0 : Int)))) : Option (shDen impl_StartState_sh)) := by kernel_rfl

theorem impl_StartState_run (a0 : Int) : fnK (impl_StartState_cx FUEL) 8 105 impl_StartState_i impl_StartState_sh [.pv (.int .u8) a0] = impl_StartState_r a0 :=
 (impl_StartState_start FUEL a0).trans ((impl_StartState_l0_L_eq _ a0 FUEL (0 : Int) (List.replicate 8 (0 : Int))).trans (impl_StartState_l0_congr _ _ a0 FUEL (0 : Int) (List.replicate 8 (0 : Int)) (fun y30 => (impl_StartState_l0_exit0 FUEL  y30).trans (rfl))))

noncomputable def impl_StartState_con : Con := { ps := (.pair (.int .u8) .unit), sh := impl_StartState_sh, raw := fun x => impl_StartState_r x.1 }
theorem impl_StartState_conOk : ConOk Try.prog 105 impl_StartState_con := con_of_fn (impl_StartState_tabs FUEL) (depth := 8) impl_StartState_ok fun x y h => (impl_StartState_run x.1).trans h

noncomputable def impl_littleNumber_l0_cut : Cut := { keep := [3, 6, 7, 8], stk := [], ids := [], own := [], outs := [(1, [3], [])] }
noncomputable def impl_littleNumber_inls : List (Nat × Inl) := []
noncomputable def impl_littleNumber_cons : List (Nat × Con) := []
noncomputable def impl_littleNumber_taks : List (Nat × ConT) := []
noncomputable def impl_littleNumber_inps : List (Nat × ConI) := []
noncomputable def impl_littleNumber_cuts : List (Nat × List (Nat × Cut)) := [(136, [(0, impl_littleNumber_l0_cut)])]
noncomputable def impl_littleNumber_cx (k : Nat) : Cx := mkCx tys tbytes telem nozero (Ai.look impl_littleNumber_inls) (Ai.look impl_littleNumber_cons) (Ai.look impl_littleNumber_taks) (Ai.look impl_littleNumber_inps) (fun f id => match Ai.look impl_littleNumber_cuts f with | some l => Ai.look l id | none => none) k []
theorem impl_littleNumber_tabs (k : Nat) : TabsOk Try.prog (impl_littleNumber_cx k) := ⟨tab_mk tabs_ok _ _ _ _ _ _ _, look_all (Q := ConOk Try.prog) _ trivial, look_all (Q := TakOk Try.prog) _ trivial, look_all (Q := InpOk Try.prog) _ trivial, look_all (Q := InlOk Try.prog) _ trivial, mixed_ok⟩
abbrev impl_littleNumber_sh : List Sh := [.pl (.int .u64)]
noncomputable def impl_littleNumber_l0_s (a0 : (List Int)) (x3 : Int) (x8 : Int) : St := { env := [.dead, .dead, .dead, .pv (.int .u64) x3, .dead, .dead, .pv (.slice (.int .u8)) a0, .pv (.int .i64) (a0.length : Int), .pv (.int .i64) x8, .dead, .dead, .dead, .dead, .dead, .dead, .dead, .dead, .dead, .dead, .dead, .dead, .dead], stk := [], heap := [] }
noncomputable def impl_littleNumber_l0_o0 (x3 : Int) : St := { env := [.dead, .dead, .dead, .pv (.int .u64) x3, .dead, .dead, .dead, .dead, .dead, .dead, .dead, .dead, .dead, .dead, .dead, .dead, .dead, .dead, .dead, .dead, .dead, .dead], stk := [], heap := [] }
noncomputable def impl_littleNumber_l0_b (rec : Int → Int → Option (shDen impl_littleNumber_sh)) (ke0 : Int → Option (shDen impl_littleNumber_sh)) (a0 : (List Int)) (x3 : Int) (x8 : Int) : Option (shDen impl_littleNumber_sh) :=
 (cond (decide (x8 < (a0.length : Int)))
 (cond ((decide ((0 : Int) ≤ x8)) && (decide (x8 < (a0.length : Int))))
 (cond (decide ((IntKind.wrap .i64 ((8 : Int) * x8)) < (0 : Int)))
 none
 (rec (bitI .or .u64 x3 (shlI .u64 (IntKind.wrap .u64 (a0.getD (x8.toNat) (0 : Int))) (IntKind.wrap .i64 ((8 : Int) * x8)))) (IntKind.wrap .i64 (x8 + (1 : Int)))))
 none)
 (ke0 x3))
noncomputable def impl_littleNumber_l0_L (ke0 : Int → Option (shDen impl_littleNumber_sh)) (a0 : (List Int)) : Nat → Int → Int → Option (shDen impl_littleNumber_sh)
 | 0 => fun _ _ => none
 | n + 1 => impl_littleNumber_l0_b (impl_littleNumber_l0_L ke0 a0 n) ke0 a0
noncomputable def impl_littleNumber_r (a0 : (List Int)) : Option (shDen impl_littleNumber_sh) :=
 (impl_littleNumber_l0_L (fun x3 => (some x3)) a0 FUEL (0 : Int) (0 : Int))
theorem impl_littleNumber_l0_round (k : Nat) (K : Ex → St → Option (shDen impl_littleNumber_sh)) (n : Nat) (a0 : (List Int)) (x3 : Int) (x8 : Int) : (loopK (impl_littleNumber_cx k) 0 (execK (impl_littleNumber_cx k) (callK (impl_littleNumber_cx k) 8) 0 136 (sub impl_littleNumber_c [1, 1, 0, 1, 0, 0])) impl_littleNumber_l0_cut K (n + 1) (impl_littleNumber_l0_s a0 x3 x8) : Option (shDen impl_littleNumber_sh)) =
 ((cond (decide (x8 < (a0.length : Int)))
 (cond ((decide ((0 : Int) ≤ x8)) && (decide (x8 < (a0.length : Int))))
 (cond (decide ((IntKind.wrap .i64 ((8 : Int) * x8)) < (0 : Int)))
 none
 (loopK (impl_littleNumber_cx k) 0 (execK (impl_littleNumber_cx k) (callK (impl_littleNumber_cx k) 8) 0 136 (sub impl_littleNumber_c [1, 1, 0, 1, 0, 0])) impl_littleNumber_l0_cut K n (impl_littleNumber_l0_s a0 (bitI .or .u64 x3 (shlI .u64 (IntKind.wrap .u64 (a0.getD (x8.toNat) (0 : Int))) (IntKind.wrap .i64 ((8 : Int) * x8)))) (IntKind.wrap .i64 (x8 + (1 : Int))))))
 none)
 (K (.exit 0) (impl_littleNumber_l0_o0 x3))) : Option (shDen impl_littleNumber_sh)) := by kernel_rfl

theorem impl_littleNumber_l0_exit0 (k : Nat)  (x3 : Int) : ((blkK 0 (seqK (execK (impl_littleNumber_cx k) (callK (impl_littleNumber_cx k) 8) 0 136 (sub impl_littleNumber_c [1, 1, 1])) (finK (impl_littleNumber_cx k) impl_littleNumber_i impl_littleNumber_sh))) (.exit 0) (impl_littleNumber_l0_o0 x3) : Option (shDen impl_littleNumber_sh)) =
 ((some x3) : Option (shDen impl_littleNumber_sh)) := by kernel_rfl

theorem impl_littleNumber_l0_congr (ke0 : Int → Option (shDen impl_littleNumber_sh)) (ke0' : Int → Option (shDen impl_littleNumber_sh)) (a0 : (List Int)) (n : Nat) (x3 : Int) (x8 : Int) (hke0 : ∀ x3, ke0 x3 = ke0' x3) : impl_littleNumber_l0_L ke0 a0 n x3 x8 = impl_littleNumber_l0_L ke0' a0 n x3 x8 := by
 have : ke0 = ke0' := (by funext x3; exact hke0 x3); subst this; rfl

theorem impl_littleNumber_l0_L_eq (K : Ex → St → Option (shDen impl_littleNumber_sh)) (a0 : (List Int)) : ∀ (n : Nat) (x3 : Int) (x8 : Int), (loopK (impl_littleNumber_cx FUEL) 0 (execK (impl_littleNumber_cx FUEL) (callK (impl_littleNumber_cx FUEL) 8) 0 136 (sub impl_littleNumber_c [1, 1, 0, 1, 0, 0])) impl_littleNumber_l0_cut K n (impl_littleNumber_l0_s a0 x3 x8) : Option (shDen impl_littleNumber_sh)) = impl_littleNumber_l0_L (fun x3 => K (.exit 0) (impl_littleNumber_l0_o0 x3)) a0 n x3 x8 := by
 intro n
 induction n with
 | zero => intros; rfl
 | succ n ih =>
  intro x3 x8
  exact (impl_littleNumber_l0_round FUEL K n a0 x3 x8).trans (condC (condC (condC (rfl) (ih (bitI .or .u64 x3 (shlI .u64 (IntKind.wrap .u64 (a0.getD (x8.toNat) (0 : Int))) (IntKind.wrap .i64 ((8 : Int) * x8)))) (IntKind.wrap .i64 (x8 + (1 : Int))))) (rfl)) (rfl))

theorem impl_littleNumber_start (k : Nat) (a0 : (List Int)) : fnK (impl_littleNumber_cx k) 8 136 impl_littleNumber_i impl_littleNumber_sh [.pv (.slice (.int .u8)) a0] =
 ((loopK (impl_littleNumber_cx k) 0 (execK (impl_littleNumber_cx k) (callK (impl_littleNumber_cx k) 8) 0 136 (sub impl_littleNumber_c [1, 1, 0, 1, 0, 0])) impl_littleNumber_l0_cut (blkK 0 (seqK (execK (impl_littleNumber_cx k) (callK (impl_littleNumber_cx k) 8) 0 136 (sub impl_littleNumber_c [1, 1, 1])) (finK (impl_littleNumber_cx k) impl_littleNumber_i impl_littleNumber_sh))) k (impl_littleNumber_l0_s a0 (0 : Int) (0 : Int))) : Option (shDen impl_littleNumber_sh)) := by kernel_rfl

theorem impl_littleNumber_run (a0 : (List Int)) : fnK (impl_littleNumber_cx FUEL) 8 136 impl_littleNumber_i impl_littleNumber_sh [.pv (.slice (.int .u8)) a0] = impl_littleNumber_r a0 :=
 (impl_littleNumber_start FUEL a0).trans ((impl_littleNumber_l0_L_eq _ a0 FUEL (0 : Int) (0 : Int)).trans (impl_littleNumber_l0_congr _ _ a0 FUEL (0 : Int) (0 : Int) (fun x3 => (impl_littleNumber_l0_exit0 FUEL  x3).trans (rfl))))

noncomputable def impl_littleNumber_con : Con := { ps := (.pair (.slice (.int .u8)) .unit), sh := impl_littleNumber_sh, raw := fun x => impl_littleNumber_r x.1 }
theorem impl_littleNumber_conOk : ConOk Try.prog 136 impl_littleNumber_con := con_of_fn (impl_littleNumber_tabs FUEL) (depth := 8) impl_littleNumber_ok fun x y h => (impl_littleNumber_run x.1).trans h

noncomputable def math_bits_RotateLeft32_inls : List (Nat × Inl) := []
noncomputable def math_bits_RotateLeft32_cons : List (Nat × Con) := []
noncomputable def math_bits_RotateLeft32_taks : List (Nat × ConT) := []
noncomputable def math_bits_RotateLeft32_inps : List (Nat × ConI) := []
noncomputable def math_bits_RotateLeft32_cuts : List (Nat × List (Nat × Cut)) := []
noncomputable def math_bits_RotateLeft32_cx (k : Nat) : Cx := mkCx tys tbytes telem nozero (Ai.look math_bits_RotateLeft32_inls) (Ai.look math_bits_RotateLeft32_cons) (Ai.look math_bits_RotateLeft32_taks) (Ai.look math_bits_RotateLeft32_inps) (fun f id => match Ai.look math_bits_RotateLeft32_cuts f with | some l => Ai.look l id | none => none) k []
theorem math_bits_RotateLeft32_tabs (k : Nat) : TabsOk Try.prog (math_bits_RotateLeft32_cx k) := ⟨tab_mk tabs_ok _ _ _ _ _ _ _, look_all (Q := ConOk Try.prog) _ trivial, look_all (Q := TakOk Try.prog) _ trivial, look_all (Q := InpOk Try.prog) _ trivial, look_all (Q := InlOk Try.prog) _ trivial, mixed_ok⟩
abbrev math_bits_RotateLeft32_sh : List Sh := [.pl (.int .u32)]
noncomputable def math_bits_RotateLeft32_r (a0 : Int) (a1 : Int) : Option (shDen math_bits_RotateLeft32_sh) :=
 (cond (decide ((bitI .and .u64 (IntKind.wrap .u64 a1) (31 : Int)) < (0 : Int)))
 none
 (cond (decide ((IntKind.wrap .u64 ((32 : Int) - (bitI .and .u64 (IntKind.wrap .u64 a1) (31 : Int)))) < (0 : Int)))
 none
 (some (bitI .or .u32 (shlI .u32 a0 (bitI .and .u64 (IntKind.wrap .u64 a1) (31 : Int))) (shrI .u32 a0 (IntKind.wrap .u64 ((32 : Int) - (bitI .and .u64 (IntKind.wrap .u64 a1) (31 : Int)))))))))
theorem math_bits_RotateLeft32_start (k : Nat) (a0 : Int) (a1 : Int) : fnK (math_bits_RotateLeft32_cx k) 8 137 math_bits_RotateLeft32_i math_bits_RotateLeft32_sh [.pv (.int .u32) a0, .pv (.int .i64) a1] =
 ((cond (decide ((bitI .and .u64 (IntKind.wrap .u64 a1) (31 : Int)) < (0 : Int)))
 none
 (cond (decide ((IntKind.wrap .u64 ((32 : Int) - (bitI .and .u64 (IntKind.wrap .u64 a1) (31 : Int)))) < (0 : Int)))
 none
 (some (bitI .or .u32 (shlI .u32 a0 (bitI .and .u64 (IntKind.wrap .u64 a1) (31 : Int))) (shrI .u32 a0 (IntKind.wrap .u64 ((32 : Int) - (bitI .and .u64 (IntKind.wrap .u64 a1) (31 : Int))))))))) : Option (shDen math_bits_RotateLeft32_sh)) := by kernel_rfl

theorem math_bits_RotateLeft32_run (a0 : Int) (a1 : Int) : fnK (math_bits_RotateLeft32_cx FUEL) 8 137 math_bits_RotateLeft32_i math_bits_RotateLeft32_sh [.pv (.int .u32) a0, .pv (.int .i64) a1] = math_bits_RotateLeft32_r a0 a1 :=
 (math_bits_RotateLeft32_start FUEL a0 a1).trans (rfl)

noncomputable def math_bits_RotateLeft32_con : Con := { ps := (.pair (.int .u32) (.pair (.int .i64) .unit)), sh := math_bits_RotateLeft32_sh, raw := fun x => math_bits_RotateLeft32_r x.1 x.2.1 }
theorem math_bits_RotateLeft32_conOk : ConOk Try.prog 137 math_bits_RotateLeft32_con := con_of_fn (math_bits_RotateLeft32_tabs FUEL) (depth := 8) math_bits_RotateLeft32_ok fun x y h => (math_bits_RotateLeft32_run x.1 x.2.1).trans h

noncomputable def impl_MixBlock_l0_cut : Cut := { keep := [2, 3, 4, 5, 14], stk := [], ids := [20, 30, 40, 50], own := [], outs := [(1, [2, 4, 5], [20, 40, 50])] }
noncomputable def impl_MixBlock_l1_cut : Cut := { keep := [2, 4, 5, 7, 29], stk := [], ids := [20, 40, 50, 70], own := [], outs := [(3, [2, 4, 7], [20, 40, 70])] }
noncomputable def impl_MixBlock_l2_cut : Cut := { keep := [2, 4, 5, 7, 8, 29, 32], stk := [], ids := [20, 40, 50, 70], own := [], outs := [(5, [2, 4, 5, 7, 29], [20, 40, 50, 70])] }
noncomputable def impl_MixBlock_l3_cut : Cut := { keep := [2, 4, 7, 74], stk := [], ids := [20, 40, 70], own := [], outs := [(7, [4, 7], [40, 70])] }
noncomputable def impl_MixBlock_inls : List (Nat × Inl) := []
noncomputable def impl_MixBlock_cons : List (Nat × Con) := [(136, impl_littleNumber_con), (137, math_bits_RotateLeft32_con)]
noncomputable def impl_MixBlock_taks : List (Nat × ConT) := []
noncomputable def impl_MixBlock_inps : List (Nat × ConI) := []
noncomputable def impl_MixBlock_cuts : List (Nat × List (Nat × Cut)) := [(126, [(0, impl_MixBlock_l0_cut), (2, impl_MixBlock_l1_cut), (4, impl_MixBlock_l2_cut), (6, impl_MixBlock_l3_cut)])]
noncomputable def impl_MixBlock_cx (k : Nat) : Cx := mkCx tys tbytes telem nozero (Ai.look impl_MixBlock_inls) (Ai.look impl_MixBlock_cons) (Ai.look impl_MixBlock_taks) (Ai.look impl_MixBlock_inps) (fun f id => match Ai.look impl_MixBlock_cuts f with | some l => Ai.look l id | none => none) k []
theorem impl_MixBlock_tabs (k : Nat) : TabsOk Try.prog (impl_MixBlock_cx k) := ⟨tab_mk tabs_ok _ _ _ _ _ _ _, look_all (Q := ConOk Try.prog) _ ⟨impl_littleNumber_conOk, math_bits_RotateLeft32_conOk, trivial⟩, look_all (Q := TakOk Try.prog) _ trivial, look_all (Q := InpOk Try.prog) _ trivial, look_all (Q := InlOk Try.prog) _ trivial, mixed_ok⟩
abbrev impl_MixBlock_sh : List Sh := [.pl (.arr 8 (.int .u32))]
noncomputable def impl_MixBlock_l0_s (a0 : (List Int)) (a1 : (List Int)) (x14 : Int) (y50 : (List Int)) : St := { env := [.dead, .dead, .ptr 20 (.arr 8 (.int .u32)) [], .ptr 30 (.arr 32 (.int .u8)) [], .ptr 40 (.arr 8 (.int .u32)) [], .ptr 50 (.arr 8 (.int .u32)) [], .dead, .dead, .dead, .dead, .dead, .dead, .dead, .dead, .pv (.int .i64) x14, .dead, .dead, .dead, .dead, .dead, .dead, .dead, .dead, .dead, .dead, .dead, .dead, .dead, .dead, .dead, .dead, .dead, .dead, .dead, .dead, .dead, .dead, .dead, .dead, .dead, .dead, .dead, .dead, .dead, .dead, .dead, .dead, .dead, .dead, .dead, .dead, .dead, .dead, .dead, .dead, .dead, .dead, .dead, .dead, .dead, .dead, .dead, .dead, .dead, .dead, .dead, .dead, .dead, .dead, .dead, .dead, .dead, .dead, .dead, .dead, .dead, .dead, .dead, .dead, .dead, .dead, .dead, .dead, .dead, .dead, .dead, .dead], stk := [], heap := [(20, .var (.arr 8 (.int .u32)) (.pv (.arr 8 (.int .u32)) a0)), (30, .var (.arr 32 (.int .u8)) (.pv (.arr 32 (.int .u8)) a1)), (40, .var (.arr 8 (.int .u32)) (.pv (.arr 8 (.int .u32)) (List.replicate 8 (0 : Int)))), (50, .var (.arr 8 (.int .u32)) (.pv (.arr 8 (.int .u32)) y50))] }
noncomputable def impl_MixBlock_l0_o0 (a0 : (List Int)) (y50 : (List Int)) : St := { env := [.dead, .dead, .ptr 20 (.arr 8 (.int .u32)) [], .dead, .ptr 40 (.arr 8 (.int .u32)) [], .ptr 50 (.arr 8 (.int .u32)) [], .dead, .dead, .dead, .dead, .dead, .dead, .dead, .dead, .dead, .dead, .dead, .dead, .dead, .dead, .dead, .dead, .dead, .dead, .dead, .dead, .dead, .dead, .dead, .dead, .dead, .dead, .dead, .dead, .dead, .dead, .dead, .dead, .dead, .dead, .dead, .dead, .dead, .dead, .dead, .dead, .dead, .dead, .dead, .dead, .dead, .dead, .dead, .dead, .dead, .dead, .dead, .dead, .dead, .dead, .dead, .dead, .dead, .dead, .dead, .dead, .dead, .dead, .dead, .dead, .dead, .dead, .dead, .dead, .dead, .dead, .dead, .dead, .dead, .dead, .dead, .dead, .dead, .dead, .dead, .dead, .dead], stk := [], heap := [(20, .var (.arr 8 (.int .u32)) (.pv (.arr 8 (.int .u32)) a0)), (40, .var (.arr 8 (.int .u32)) (.pv (.arr 8 (.int .u32)) (List.replicate 8 (0 : Int)))), (50, .var (.arr 8 (.int .u32)) (.pv (.arr 8 (.int .u32)) y50))] }
noncomputable def impl_MixBlock_l1_s (a0 : (List Int)) (y50 : (List Int)) (x29 : Int) (y70 : (List Int)) : St := { env := [.dead, .dead, .ptr 20 (.arr 8 (.int .u32)) [], .dead, .ptr 40 (.arr 8 (.int .u32)) [], .ptr 50 (.arr 8 (.int .u32)) [], .dead, .ptr 70 (.arr 8 (.int .u32)) [], .dead, .dead, .dead, .dead, .dead, .dead, .dead, .dead, .dead, .dead, .dead, .dead, .dead, .dead, .dead, .dead, .dead, .dead, .dead, .dead, .dead, .pv (.int .i64) x29, .dead, .dead, .dead, .dead, .dead, .dead, .dead, .dead, .dead, .dead, .dead, .dead, .dead, .dead, .dead, .dead, .dead, .dead, .dead, .dead, .dead, .dead, .dead, .dead, .dead, .dead, .dead, .dead, .dead, .dead, .dead, .dead, .dead, .dead, .dead, .dead, .dead, .dead, .dead, .dead, .dead, .dead, .dead, .dead, .dead, .dead, .dead, .dead, .dead, .dead, .dead, .dead, .dead, .dead, .dead, .dead, .dead], stk := [], heap := [(20, .var (.arr 8 (.int .u32)) (.pv (.arr 8 (.int .u32)) a0)), (40, .var (.arr 8 (.int .u32)) (.pv (.arr 8 (.int .u32)) (List.replicate 8 (0 : Int)))), (50, .var (.arr 8 (.int .u32)) (.pv (.arr 8 (.int .u32)) y50)), (70, .var (.arr 8 (.int .u32)) (.pv (.arr 8 (.int .u32)) y70))] }
noncomputable def impl_MixBlock_l1_o2 (a0 : (List Int)) (y70 : (List Int)) : St := { env := [.dead, .dead, .ptr 20 (.arr 8 (.int .u32)) [], .dead, .ptr 40 (.arr 8 (.int .u32)) [], .dead, .dead, .ptr 70 (.arr 8 (.int .u32)) [], .dead, .dead, .dead, .dead, .dead, .dead, .dead, .dead, .dead, .dead, .dead, .dead, .dead, .dead, .dead, .dead, .dead, .dead, .dead, .dead, .dead, .dead, .dead, .dead, .dead, .dead, .dead, .dead, .dead, .dead, .dead, .dead, .dead, .dead, .dead, .dead, .dead, .dead, .dead, .dead, .dead, .dead, .dead, .dead, .dead, .dead, .dead, .dead, .dead, .dead, .dead, .dead, .dead, .dead, .dead, .dead, .dead, .dead, .dead, .dead, .dead, .dead, .dead, .dead, .dead, .dead, .dead, .dead, .dead, .dead, .dead, .dead, .dead, .dead, .dead, .dead, .dead, .dead, .dead], stk := [], heap := [(20, .var (.arr 8 (.int .u32)) (.pv (.arr 8 (.int .u32)) a0)), (40, .var (.arr 8 (.int .u32)) (.pv (.arr 8 (.int .u32)) (List.replicate 8 (0 : Int)))), (70, .var (.arr 8 (.int .u32)) (.pv (.arr 8 (.int .u32)) y70))] }
noncomputable def impl_MixBlock_l2_s (a0 : (List Int)) (y50 : (List Int)) (x29 : Int) (x32 : Int) (y70 : (List Int)) : St := { env := [.dead, .dead, .ptr 20 (.arr 8 (.int .u32)) [], .dead, .ptr 40 (.arr 8 (.int .u32)) [], .ptr 50 (.arr 8 (.int .u32)) [], .dead, .ptr 70 (.arr 8 (.int .u32)) [], .pv (.int .i64) x29, .dead, .dead, .dead, .dead, .dead, .dead, .dead, .dead, .dead, .dead, .dead, .dead, .dead, .dead, .dead, .dead, .dead, .dead, .dead, .dead, .pv (.int .i64) x29, .dead, .dead, .pv (.int .i64) x32, .dead, .dead, .dead, .dead, .dead, .dead, .dead, .dead, .dead, .dead, .dead, .dead, .dead, .dead, .dead, .dead, .dead, .dead, .dead, .dead, .dead, .dead, .dead, .dead, .dead, .dead, .dead, .dead, .dead, .dead, .dead, .dead, .dead, .dead, .dead, .dead, .dead, .dead, .dead, .dead, .dead, .dead, .dead, .dead, .dead, .dead, .dead, .dead, .dead, .dead, .dead, .dead, .dead, .dead], stk := [], heap := [(20, .var (.arr 8 (.int .u32)) (.pv (.arr 8 (.int .u32)) a0)), (40, .var (.arr 8 (.int .u32)) (.pv (.arr 8 (.int .u32)) (List.replicate 8 (0 : Int)))), (50, .var (.arr 8 (.int .u32)) (.pv (.arr 8 (.int .u32)) y50)), (70, .var (.arr 8 (.int .u32)) (.pv (.arr 8 (.int .u32)) y70))] }
noncomputable def impl_MixBlock_l2_o4 (a0 : (List Int)) (y50 : (List Int)) (x29 : Int) (y70 : (List Int)) : St := { env := [.dead, .dead, .ptr 20 (.arr 8 (.int .u32)) [], .dead, .ptr 40 (.arr 8 (.int .u32)) [], .ptr 50 (.arr 8 (.int .u32)) [], .dead, .ptr 70 (.arr 8 (.int .u32)) [], .dead, .dead, .dead, .dead, .dead, .dead, .dead, .dead, .dead, .dead, .dead, .dead, .dead, .dead, .dead, .dead, .dead, .dead, .dead, .dead, .dead, .pv (.int .i64) x29, .dead, .dead, .dead, .dead, .dead, .dead, .dead, .dead, .dead, .dead, .dead, .dead, .dead, .dead, .dead, .dead, .dead, .dead, .dead, .dead, .dead, .dead, .dead, .dead, .dead, .dead, .dead, .dead, .dead, .dead, .dead, .dead, .dead, .dead, .dead, .dead, .dead, .dead, .dead, .dead, .dead, .dead, .dead, .dead, .dead, .dead, .dead, .dead, .dead, .dead, .dead, .dead, .dead, .dead, .dead, .dead, .dead], stk := [], heap := [(20, .var (.arr 8 (.int .u32)) (.pv (.arr 8 (.int .u32)) a0)), (40, .var (.arr 8 (.int .u32)) (.pv (.arr 8 (.int .u32)) (List.replicate 8 (0 : Int)))), (50, .var (.arr 8 (.int .u32)) (.pv (.arr 8 (.int .u32)) y50)), (70, .var (.arr 8 (.int .u32)) (.pv (.arr 8 (.int .u32)) y70))] }
noncomputable def impl_MixBlock_l3_s (a0 : (List Int)) (y70 : (List Int)) (x74 : Int) : St := { env := [.dead, .dead, .ptr 20 (.arr 8 (.int .u32)) [], .dead, .ptr 40 (.arr 8 (.int .u32)) [], .dead, .dead, .ptr 70 (.arr 8 (.int .u32)) [], .dead, .dead, .dead, .dead, .dead, .dead, .dead, .dead, .dead, .dead, .dead, .dead, .dead, .dead, .dead, .dead, .dead, .dead, .dead, .dead, .dead, .dead, .dead, .dead, .dead, .dead, .dead, .dead, .dead, .dead, .dead, .dead, .dead, .dead, .dead, .dead, .dead, .dead, .dead, .dead, .dead, .dead, .dead, .dead, .dead, .dead, .dead, .dead, .dead, .dead, .dead, .dead, .dead, .dead, .dead, .dead, .dead, .dead, .dead, .dead, .dead, .dead, .dead, .dead, .dead, .dead, .pv (.int .i64) x74, .dead, .dead, .dead, .dead, .dead, .dead, .dead, .dead, .dead, .dead, .dead, .dead], stk := [], heap := [(20, .var (.arr 8 (.int .u32)) (.pv (.arr 8 (.int .u32)) a0)), (40, .var (.arr 8 (.int .u32)) (.pv (.arr 8 (.int .u32)) (List.replicate 8 (0 : Int)))), (70, .var (.arr 8 (.int .u32)) (.pv (.arr 8 (.int .u32)) y70))] }
noncomputable def impl_MixBlock_l3_o6 (y70 : (List Int)) : St := { env := [.dead, .dead, .dead, .dead, .ptr 40 (.arr 8 (.int .u32)) [], .dead, .dead, .ptr 70 (.arr 8 (.int .u32)) [], .dead, .dead, .dead, .dead, .dead, .dead, .dead, .dead, .dead, .dead, .dead, .dead, .dead, .dead, .dead, .dead, .dead, .dead, .dead, .dead, .dead, .dead, .dead, .dead, .dead, .dead, .dead, .dead, .dead, .dead, .dead, .dead, .dead, .dead, .dead, .dead, .dead, .dead, .dead, .dead, .dead, .dead, .dead, .dead, .dead, .dead, .dead, .dead, .dead, .dead, .dead, .dead, .dead, .dead, .dead, .dead, .dead, .dead, .dead, .dead, .dead, .dead, .dead, .dead, .dead, .dead, .dead, .dead, .dead, .dead, .dead, .dead, .dead, .dead, .dead, .dead, .dead, .dead, .dead], stk := [], heap := [(40, .var (.arr 8 (.int .u32)) (.pv (.arr 8 (.int .u32)) (List.replicate 8 (0 : Int)))), (70, .var (.arr 8 (.int .u32)) (.pv (.arr 8 (.int .u32)) y70))] }
noncomputable def impl_MixBlock_l3_b (rec : (List Int) → Int → Option (shDen impl_MixBlock_sh)) (ke6 : (List Int) → Option (shDen impl_MixBlock_sh)) (a0 : (List Int)) (y70 : (List Int)) (x74 : Int) : Option (shDen impl_MixBlock_sh) :=
 (cond (decide (x74 < (8 : Int)))
 (cond ((decide ((0 : Int) ≤ x74)) && (decide (x74 < (8 : Int))))
 (cond ((decide ((0 : Int) ≤ x74)) && (decide (x74 < (8 : Int))))
 (cond ((decide ((0 : Int) ≤ x74)) && (decide (x74 < (8 : Int))))
 (rec (y70.set (x74.toNat) (bitI .xor .u32 (y70.getD (x74.toNat) (0 : Int)) (a0.getD (x74.toNat) (0 : Int)))) (IntKind.wrap .i64 (x74 + (1 : Int))))
 none)
 none)
 none)
 (ke6 y70))
noncomputable def impl_MixBlock_l3_L (ke6 : (List Int) → Option (shDen impl_MixBlock_sh)) (a0 : (List Int)) : Nat → (List Int) → Int → Option (shDen impl_MixBlock_sh)
 | 0 => fun _ _ => none
 | n + 1 => impl_MixBlock_l3_b (impl_MixBlock_l3_L ke6 a0 n) ke6 a0
noncomputable def impl_MixBlock_l2_b (rec : Int → (List Int) → Option (shDen impl_MixBlock_sh)) (ke4 : (List Int) → Option (shDen impl_MixBlock_sh)) (a0 : (List Int)) (y50 : (List Int)) (x29 : Int) (x32 : Int) (y70 : (List Int)) : Option (shDen impl_MixBlock_sh) :=
 (cond (decide (x32 < (8 : Int)))
 (cond ((decide ((0 : Int) ≤ x32)) && (decide (x32 < (8 : Int))))
 (cond ((decide ((0 : Int) ≤ (Int.tmod (IntKind.wrap .i64 (x32 + (IntKind.wrap .i64 ((3 : Int) * x29)))) (8 : Int)))) && (decide ((Int.tmod (IntKind.wrap .i64 (x32 + (IntKind.wrap .i64 ((3 : Int) * x29)))) (8 : Int)) < (8 : Int))))
 (bindO (math_bits_RotateLeft32_r (IntKind.wrap .u32 ((IntKind.wrap .u32 ((y70.getD (x32.toNat) (0 : Int)) + (y50.getD ((Int.tmod (IntKind.wrap .i64 (x32 + (IntKind.wrap .i64 ((3 : Int) * x29)))) (8 : Int)).toNat) (0 : Int)))) + (IntKind.wrap .u32 ((2654435769 : Int) * (IntKind.wrap .u32 (IntKind.wrap .i64 ((IntKind.wrap .i64 ((IntKind.wrap .i64 ((8 : Int) * x29)) + x32)) + (1 : Int)))))))) (7 : Int)) fun (b9 : Int) => (cond ((decide ((0 : Int) ≤ (Int.tmod (IntKind.wrap .i64 (x32 + (1 : Int))) (8 : Int)))) && (decide ((Int.tmod (IntKind.wrap .i64 (x32 + (1 : Int))) (8 : Int)) < (8 : Int))))
 (cond ((decide ((0 : Int) ≤ (Int.tmod (IntKind.wrap .i64 (x32 + (5 : Int))) (8 : Int)))) && (decide ((Int.tmod (IntKind.wrap .i64 (x32 + (5 : Int))) (8 : Int)) < (8 : Int))))
 (bindO (math_bits_RotateLeft32_r (y70.getD ((Int.tmod (IntKind.wrap .i64 (x32 + (5 : Int))) (8 : Int)).toNat) (0 : Int)) (13 : Int)) fun (b10 : Int) => (cond ((decide ((0 : Int) ≤ x32)) && (decide (x32 < (8 : Int))))
 (rec (IntKind.wrap .i64 (x32 + (1 : Int))) (y70.set (x32.toNat) (IntKind.wrap .u32 ((bitI .xor .u32 b9 (y70.getD ((Int.tmod (IntKind.wrap .i64 (x32 + (1 : Int))) (8 : Int)).toNat) (0 : Int))) + b10))))
 none))
 none)
 none))
 none)
 none)
 (ke4 y70))
noncomputable def impl_MixBlock_l2_L (ke4 : (List Int) → Option (shDen impl_MixBlock_sh)) (a0 : (List Int)) (y50 : (List Int)) (x29 : Int) : Nat → Int → (List Int) → Option (shDen impl_MixBlock_sh)
 | 0 => fun _ _ => none
 | n + 1 => impl_MixBlock_l2_b (impl_MixBlock_l2_L ke4 a0 y50 x29 n) ke4 a0 y50 x29
noncomputable def impl_MixBlock_l1_b (rec : (List Int) → Int → (List Int) → Option (shDen impl_MixBlock_sh)) (ke2 : (List Int) → Option (shDen impl_MixBlock_sh)) (a0 : (List Int)) (y50 : (List Int)) (x29 : Int) (y70 : (List Int)) : Option (shDen impl_MixBlock_sh) :=
 (cond (decide (x29 < (12 : Int)))
 (impl_MixBlock_l2_L (fun y70 => (rec y50 (IntKind.wrap .i64 (x29 + (1 : Int))) y70)) a0 y50 x29 FUEL (0 : Int) y70)
 (ke2 y70))
noncomputable def impl_MixBlock_l1_L (ke2 : (List Int) → Option (shDen impl_MixBlock_sh)) (a0 : (List Int)) : Nat → (List Int) → Int → (List Int) → Option (shDen impl_MixBlock_sh)
 | 0 => fun _ _ _ => none
 | n + 1 => impl_MixBlock_l1_b (impl_MixBlock_l1_L ke2 a0 n) ke2 a0
noncomputable def impl_MixBlock_l0_b (rec : Int → (List Int) → Option (shDen impl_MixBlock_sh)) (ke0 : (List Int) → Option (shDen impl_MixBlock_sh)) (a0 : (List Int)) (a1 : (List Int)) (x14 : Int) (y50 : (List Int)) : Option (shDen impl_MixBlock_sh) :=
 (cond (decide (x14 < (8 : Int)))
 (cond ((decide ((0 : Int) ≤ (IntKind.wrap .i64 ((IntKind.wrap .i64 ((4 : Int) * x14)) + (4 : Int))))) && (decide ((IntKind.wrap .i64 ((IntKind.wrap .i64 ((4 : Int) * x14)) + (4 : Int))) ≤ (32 : Int))))
 (cond ((decide ((0 : Int) ≤ (IntKind.wrap .i64 ((4 : Int) * x14)))) && (decide ((IntKind.wrap .i64 ((4 : Int) * x14)) ≤ (IntKind.wrap .i64 ((IntKind.wrap .i64 ((4 : Int) * x14)) + (4 : Int))))))
 (bindO (impl_littleNumber_r (cutL a1 ((IntKind.wrap .i64 ((4 : Int) * x14)).toNat) ((IntKind.wrap .i64 ((IntKind.wrap .i64 ((4 : Int) * x14)) + (4 : Int))).toNat))) fun (b2 : Int) => (cond ((decide ((0 : Int) ≤ x14)) && (decide (x14 < (8 : Int))))
 (rec (IntKind.wrap .i64 (x14 + (1 : Int))) (y50.set (x14.toNat) (IntKind.wrap .u32 b2)))
 none))
 none)
 none)
 (ke0 y50))
noncomputable def impl_MixBlock_l0_L (ke0 : (List Int) → Option (shDen impl_MixBlock_sh)) (a0 : (List Int)) (a1 : (List Int)) : Nat → Int → (List Int) → Option (shDen impl_MixBlock_sh)
 | 0 => fun _ _ => none
 | n + 1 => impl_MixBlock_l0_b (impl_MixBlock_l0_L ke0 a0 a1 n) ke0 a0 a1
noncomputable def impl_MixBlock_r (a0 : (List Int)) (a1 : (List Int)) : Option (shDen impl_MixBlock_sh) :=
 (impl_MixBlock_l0_L (fun y50 => (impl_MixBlock_l1_L (fun y70 => (impl_MixBlock_l3_L (fun y70 => (some y70)) a0 FUEL y70 (0 : Int))) a0 FUEL y50 (0 : Int) a0)) a0 a1 FUEL (0 : Int) (List.replicate 8 (0 : Int)))
theorem impl_MixBlock_l3_round (k : Nat) (K : Ex → St → Option (shDen impl_MixBlock_sh)) (n : Nat) (a0 : (List Int)) (y70 : (List Int)) (x74 : Int) : (loopK (impl_MixBlock_cx k) 0 (execK (impl_MixBlock_cx k) (callK (impl_MixBlock_cx k) 8) 0 126 (sub impl_MixBlock_c [1, 1, 1, 1, 1, 0, 1, 0, 0])) impl_MixBlock_l3_cut K (n + 1) (impl_MixBlock_l3_s a0 y70 x74) : Option (shDen impl_MixBlock_sh)) =
 ((cond (decide (x74 < (8 : Int)))
 (cond ((decide ((0 : Int) ≤ x74)) && (decide (x74 < (8 : Int))))
 (cond ((decide ((0 : Int) ≤ x74)) && (decide (x74 < (8 : Int))))
 (cond ((decide ((0 : Int) ≤ x74)) && (decide (x74 < (8 : Int))))
 (loopK (impl_MixBlock_cx k) 0 (execK (impl_MixBlock_cx k) (callK (impl_MixBlock_cx k) 8) 0 126 (sub impl_MixBlock_c [1, 1, 1, 1, 1, 0, 1, 0, 0])) impl_MixBlock_l3_cut K n (impl_MixBlock_l3_s a0 (y70.set (x74.toNat) (bitI .xor .u32 (y70.getD (x74.toNat) (0 : Int)) (a0.getD (x74.toNat) (0 : Int)))) (IntKind.wrap .i64 (x74 + (1 : Int)))))
 none)
 none)
 none)
 (K (.exit 6) (impl_MixBlock_l3_o6 y70))) : Option (shDen impl_MixBlock_sh)) := by kernel_rfl

theorem impl_MixBlock_l3_exit6 (k : Nat)  (y70 : (List Int)) : ((blkK 6 (seqK (execK (impl_MixBlock_cx k) (callK (impl_MixBlock_cx k) 8) 0 126 (sub impl_MixBlock_c [1, 1, 1, 1, 1, 1])) (finK (impl_MixBlock_cx k) impl_MixBlock_i impl_MixBlock_sh))) (.exit 6) (impl_MixBlock_l3_o6 y70) : Option (shDen impl_MixBlock_sh)) =
 ((some y70) : Option (shDen impl_MixBlock_sh)) := by kernel_rfl

theorem impl_MixBlock_l3_congr (ke6 : (List Int) → Option (shDen impl_MixBlock_sh)) (ke6' : (List Int) → Option (shDen impl_MixBlock_sh)) (a0 : (List Int)) (n : Nat) (y70 : (List Int)) (x74 : Int) (hke6 : ∀ y70, ke6 y70 = ke6' y70) : impl_MixBlock_l3_L ke6 a0 n y70 x74 = impl_MixBlock_l3_L ke6' a0 n y70 x74 := by
 have : ke6 = ke6' := (by funext y70; exact hke6 y70); subst this; rfl

theorem impl_MixBlock_l3_L_eq (K : Ex → St → Option (shDen impl_MixBlock_sh)) (a0 : (List Int)) : ∀ (n : Nat) (y70 : (List Int)) (x74 : Int), (loopK (impl_MixBlock_cx FUEL) 0 (execK (impl_MixBlock_cx FUEL) (callK (impl_MixBlock_cx FUEL) 8) 0 126 (sub impl_MixBlock_c [1, 1, 1, 1, 1, 0, 1, 0, 0])) impl_MixBlock_l3_cut K n (impl_MixBlock_l3_s a0 y70 x74) : Option (shDen impl_MixBlock_sh)) = impl_MixBlock_l3_L (fun y70 => K (.exit 6) (impl_MixBlock_l3_o6 y70)) a0 n y70 x74 := by
 intro n
 induction n with
 | zero => intros; rfl
 | succ n ih =>
  intro y70 x74
  exact (impl_MixBlock_l3_round FUEL K n a0 y70 x74).trans (condC (condC (condC (condC (ih (y70.set (x74.toNat) (bitI .xor .u32 (y70.getD (x74.toNat) (0 : Int)) (a0.getD (x74.toNat) (0 : Int)))) (IntKind.wrap .i64 (x74 + (1 : Int)))) (rfl)) (rfl)) (rfl)) (rfl))

theorem impl_MixBlock_l2_round (k : Nat) (K : Ex → St → Option (shDen impl_MixBlock_sh)) (n : Nat) (a0 : (List Int)) (y50 : (List Int)) (x29 : Int) (x32 : Int) (y70 : (List Int)) : (loopK (impl_MixBlock_cx k) 0 (execK (impl_MixBlock_cx k) (callK (impl_MixBlock_cx k) 8) 0 126 (sub impl_MixBlock_c [1, 1, 1, 1, 0, 1, 0, 0, 1, 1, 0, 0, 1, 1, 0, 0])) impl_MixBlock_l2_cut K (n + 1) (impl_MixBlock_l2_s a0 y50 x29 x32 y70) : Option (shDen impl_MixBlock_sh)) =
 ((cond (decide (x32 < (8 : Int)))
 (cond ((decide ((0 : Int) ≤ x32)) && (decide (x32 < (8 : Int))))
 (cond ((decide ((0 : Int) ≤ (Int.tmod (IntKind.wrap .i64 (x32 + (IntKind.wrap .i64 ((3 : Int) * x29)))) (8 : Int)))) && (decide ((Int.tmod (IntKind.wrap .i64 (x32 + (IntKind.wrap .i64 ((3 : Int) * x29)))) (8 : Int)) < (8 : Int))))
 (bindO (math_bits_RotateLeft32_r (IntKind.wrap .u32 ((IntKind.wrap .u32 ((y70.getD (x32.toNat) (0 : Int)) + (y50.getD ((Int.tmod (IntKind.wrap .i64 (x32 + (IntKind.wrap .i64 ((3 : Int) * x29)))) (8 : Int)).toNat) (0 : Int)))) + (IntKind.wrap .u32 ((2654435769 : Int) * (IntKind.wrap .u32 (IntKind.wrap .i64 ((IntKind.wrap .i64 ((IntKind.wrap .i64 ((8 : Int) * x29)) + x32)) + (1 : Int)))))))) (7 : Int)) fun (b9 : Int) => (cond ((decide ((0 : Int) ≤ (Int.tmod (IntKind.wrap .i64 (x32 + (1 : Int))) (8 : Int)))) && (decide ((Int.tmod (IntKind.wrap .i64 (x32 + (1 : Int))) (8 : Int)) < (8 : Int))))
 (cond ((decide ((0 : Int) ≤ (Int.tmod (IntKind.wrap .i64 (x32 + (5 : Int))) (8 : Int)))) && (decide ((Int.tmod (IntKind.wrap .i64 (x32 + (5 : Int))) (8 : Int)) < (8 : Int))))
 (bindO (math_bits_RotateLeft32_r (y70.getD ((Int.tmod (IntKind.wrap .i64 (x32 + (5 : Int))) (8 : Int)).toNat) (0 : Int)) (13 : Int)) fun (b10 : Int) => (cond ((decide ((0 : Int) ≤ x32)) && (decide (x32 < (8 : Int))))
 (loopK (impl_MixBlock_cx k) 0 (execK (impl_MixBlock_cx k) (callK (impl_MixBlock_cx k) 8) 0 126 (sub impl_MixBlock_c [1, 1, 1, 1, 0, 1, 0, 0, 1, 1, 0, 0, 1, 1, 0, 0])) impl_MixBlock_l2_cut K n (impl_MixBlock_l2_s a0 y50 x29 (IntKind.wrap .i64 (x32 + (1 : Int))) (y70.set (x32.toNat) (IntKind.wrap .u32 ((bitI .xor .u32 b9 (y70.getD ((Int.tmod (IntKind.wrap .i64 (x32 + (1 : Int))) (8 : Int)).toNat) (0 : Int))) + b10)))))
 none))
 none)
 none))
 none)
 none)
 (K (.exit 4) (impl_MixBlock_l2_o4 a0 y50 x29 y70))) : Option (shDen impl_MixBlock_sh)) := by kernel_rfl

theorem impl_MixBlock_l2_exit4 (k : Nat) (K : Ex → St → Option (shDen impl_MixBlock_sh)) (n : Nat) (a0 : (List Int)) (y50 : (List Int)) (x29 : Int) (y70 : (List Int)) : ((blkK 4 (blkK 3 (seqK (execK (impl_MixBlock_cx k) (callK (impl_MixBlock_cx k) 8) 0 126 (sub impl_MixBlock_c [1, 1, 1, 1, 0, 1, 0, 0, 1, 1, 1])) (iterK (impl_MixBlock_cx k) 0 impl_MixBlock_l1_cut (loopK (impl_MixBlock_cx k) 0 (execK (impl_MixBlock_cx k) (callK (impl_MixBlock_cx k) 8) 0 126 (sub impl_MixBlock_c [1, 1, 1, 1, 0, 1, 0, 0])) impl_MixBlock_l1_cut K n) K)))) (.exit 4) (impl_MixBlock_l2_o4 a0 y50 x29 y70) : Option (shDen impl_MixBlock_sh)) =
 ((loopK (impl_MixBlock_cx k) 0 (execK (impl_MixBlock_cx k) (callK (impl_MixBlock_cx k) 8) 0 126 (sub impl_MixBlock_c [1, 1, 1, 1, 0, 1, 0, 0])) impl_MixBlock_l1_cut K n (impl_MixBlock_l1_s a0 y50 (IntKind.wrap .i64 (x29 + (1 : Int))) y70)) : Option (shDen impl_MixBlock_sh)) := by kernel_rfl

theorem impl_MixBlock_l2_congr (ke4 : (List Int) → Option (shDen impl_MixBlock_sh)) (ke4' : (List Int) → Option (shDen impl_MixBlock_sh)) (a0 : (List Int)) (y50 : (List Int)) (x29 : Int) (n : Nat) (x32 : Int) (y70 : (List Int)) (hke4 : ∀ y70, ke4 y70 = ke4' y70) : impl_MixBlock_l2_L ke4 a0 y50 x29 n x32 y70 = impl_MixBlock_l2_L ke4' a0 y50 x29 n x32 y70 := by
 have : ke4 = ke4' := (by funext y70; exact hke4 y70); subst this; rfl

theorem impl_MixBlock_l2_L_eq (K : Ex → St → Option (shDen impl_MixBlock_sh)) (a0 : (List Int)) (y50 : (List Int)) (x29 : Int) : ∀ (n : Nat) (x32 : Int) (y70 : (List Int)), (loopK (impl_MixBlock_cx FUEL) 0 (execK (impl_MixBlock_cx FUEL) (callK (impl_MixBlock_cx FUEL) 8) 0 126 (sub impl_MixBlock_c [1, 1, 1, 1, 0, 1, 0, 0, 1, 1, 0, 0, 1, 1, 0, 0])) impl_MixBlock_l2_cut K n (impl_MixBlock_l2_s a0 y50 x29 x32 y70) : Option (shDen impl_MixBlock_sh)) = impl_MixBlock_l2_L (fun y70 => K (.exit 4) (impl_MixBlock_l2_o4 a0 y50 x29 y70)) a0 y50 x29 n x32 y70 := by
 intro n
 induction n with
 | zero => intros; rfl
 | succ n ih =>
  intro x32 y70
  exact (impl_MixBlock_l2_round FUEL K n a0 y50 x29 x32 y70).trans (condC (condC (condC (bindC (fun b9 => condC (condC (bindC (fun b10 => condC (ih (IntKind.wrap .i64 (x32 + (1 : Int))) (y70.set (x32.toNat) (IntKind.wrap .u32 ((bitI .xor .u32 b9 (y70.getD ((Int.tmod (IntKind.wrap .i64 (x32 + (1 : Int))) (8 : Int)).toNat) (0 : Int))) + b10)))) (rfl))) (rfl)) (rfl))) (rfl)) (rfl)) (rfl))

theorem impl_MixBlock_l1_round (k : Nat) (K : Ex → St → Option (shDen impl_MixBlock_sh)) (n : Nat) (a0 : (List Int)) (y50 : (List Int)) (x29 : Int) (y70 : (List Int)) : (loopK (impl_MixBlock_cx k) 0 (execK (impl_MixBlock_cx k) (callK (impl_MixBlock_cx k) 8) 0 126 (sub impl_MixBlock_c [1, 1, 1, 1, 0, 1, 0, 0])) impl_MixBlock_l1_cut K (n + 1) (impl_MixBlock_l1_s a0 y50 x29 y70) : Option (shDen impl_MixBlock_sh)) =
 ((cond (decide (x29 < (12 : Int)))
 (loopK (impl_MixBlock_cx k) 0 (execK (impl_MixBlock_cx k) (callK (impl_MixBlock_cx k) 8) 0 126 (sub impl_MixBlock_c [1, 1, 1, 1, 0, 1, 0, 0, 1, 1, 0, 0, 1, 1, 0, 0])) impl_MixBlock_l2_cut (blkK 4 (blkK 3 (seqK (execK (impl_MixBlock_cx k) (callK (impl_MixBlock_cx k) 8) 0 126 (sub impl_MixBlock_c [1, 1, 1, 1, 0, 1, 0, 0, 1, 1, 1])) (iterK (impl_MixBlock_cx k) 0 impl_MixBlock_l1_cut (loopK (impl_MixBlock_cx k) 0 (execK (impl_MixBlock_cx k) (callK (impl_MixBlock_cx k) 8) 0 126 (sub impl_MixBlock_c [1, 1, 1, 1, 0, 1, 0, 0])) impl_MixBlock_l1_cut K n) K)))) k (impl_MixBlock_l2_s a0 y50 x29 (0 : Int) y70))
 (K (.exit 2) (impl_MixBlock_l1_o2 a0 y70))) : Option (shDen impl_MixBlock_sh)) := by kernel_rfl

theorem impl_MixBlock_l1_exit2 (k : Nat)  (a0 : (List Int)) (y70 : (List Int)) : ((blkK 2 (seqK (execK (impl_MixBlock_cx k) (callK (impl_MixBlock_cx k) 8) 0 126 (sub impl_MixBlock_c [1, 1, 1, 1, 1])) (finK (impl_MixBlock_cx k) impl_MixBlock_i impl_MixBlock_sh))) (.exit 2) (impl_MixBlock_l1_o2 a0 y70) : Option (shDen impl_MixBlock_sh)) =
 ((loopK (impl_MixBlock_cx k) 0 (execK (impl_MixBlock_cx k) (callK (impl_MixBlock_cx k) 8) 0 126 (sub impl_MixBlock_c [1, 1, 1, 1, 1, 0, 1, 0, 0])) impl_MixBlock_l3_cut (blkK 6 (seqK (execK (impl_MixBlock_cx k) (callK (impl_MixBlock_cx k) 8) 0 126 (sub impl_MixBlock_c [1, 1, 1, 1, 1, 1])) (finK (impl_MixBlock_cx k) impl_MixBlock_i impl_MixBlock_sh))) k (impl_MixBlock_l3_s a0 y70 (0 : Int))) : Option (shDen impl_MixBlock_sh)) := by kernel_rfl

theorem impl_MixBlock_l1_congr (ke2 : (List Int) → Option (shDen impl_MixBlock_sh)) (ke2' : (List Int) → Option (shDen impl_MixBlock_sh)) (a0 : (List Int)) (n : Nat) (y50 : (List Int)) (x29 : Int) (y70 : (List Int)) (hke2 : ∀ y70, ke2 y70 = ke2' y70) : impl_MixBlock_l1_L ke2 a0 n y50 x29 y70 = impl_MixBlock_l1_L ke2' a0 n y50 x29 y70 := by
 have : ke2 = ke2' := (by funext y70; exact hke2 y70); subst this; rfl

theorem impl_MixBlock_l1_L_eq (K : Ex → St → Option (shDen impl_MixBlock_sh)) (a0 : (List Int)) : ∀ (n : Nat) (y50 : (List Int)) (x29 : Int) (y70 : (List Int)), (loopK (impl_MixBlock_cx FUEL) 0 (execK (impl_MixBlock_cx FUEL) (callK (impl_MixBlock_cx FUEL) 8) 0 126 (sub impl_MixBlock_c [1, 1, 1, 1, 0, 1, 0, 0])) impl_MixBlock_l1_cut K n (impl_MixBlock_l1_s a0 y50 x29 y70) : Option (shDen impl_MixBlock_sh)) = impl_MixBlock_l1_L (fun y70 => K (.exit 2) (impl_MixBlock_l1_o2 a0 y70)) a0 n y50 x29 y70 := by
 intro n
 induction n with
 | zero => intros; rfl
 | succ n ih =>
  intro y50 x29 y70
  exact (impl_MixBlock_l1_round FUEL K n a0 y50 x29 y70).trans (condC ((impl_MixBlock_l2_L_eq _ a0 y50 x29 FUEL (0 : Int) y70).trans (impl_MixBlock_l2_congr _ _ a0 y50 x29 FUEL (0 : Int) y70 (fun y70 => (impl_MixBlock_l2_exit4 FUEL K n a0 y50 x29 y70).trans (ih y50 (IntKind.wrap .i64 (x29 + (1 : Int))) y70)))) (rfl))

theorem impl_MixBlock_l0_round (k : Nat) (K : Ex → St → Option (shDen impl_MixBlock_sh)) (n : Nat) (a0 : (List Int)) (a1 : (List Int)) (x14 : Int) (y50 : (List Int)) : (loopK (impl_MixBlock_cx k) 0 (execK (impl_MixBlock_cx k) (callK (impl_MixBlock_cx k) 8) 0 126 (sub impl_MixBlock_c [1, 1, 0, 1, 0, 0])) impl_MixBlock_l0_cut K (n + 1) (impl_MixBlock_l0_s a0 a1 x14 y50) : Option (shDen impl_MixBlock_sh)) =
 ((cond (decide (x14 < (8 : Int)))
 (cond ((decide ((0 : Int) ≤ (IntKind.wrap .i64 ((IntKind.wrap .i64 ((4 : Int) * x14)) + (4 : Int))))) && (decide ((IntKind.wrap .i64 ((IntKind.wrap .i64 ((4 : Int) * x14)) + (4 : Int))) ≤ (32 : Int))))
 (cond ((decide ((0 : Int) ≤ (IntKind.wrap .i64 ((4 : Int) * x14)))) && (decide ((IntKind.wrap .i64 ((4 : Int) * x14)) ≤ (IntKind.wrap .i64 ((IntKind.wrap .i64 ((4 : Int) * x14)) + (4 : Int))))))
 (bindO (impl_littleNumber_r (cutL a1 ((IntKind.wrap .i64 ((4 : Int) * x14)).toNat) ((IntKind.wrap .i64 ((IntKind.wrap .i64 ((4 : Int) * x14)) + (4 : Int))).toNat))) fun (b2 : Int) => (cond ((decide ((0 : Int) ≤ x14)) && (decide (x14 < (8 : Int))))
 (loopK (impl_MixBlock_cx k) 0 (execK (impl_MixBlock_cx k) (callK (impl_MixBlock_cx k) 8) 0 126 (sub impl_MixBlock_c [1, 1, 0, 1, 0, 0])) impl_MixBlock_l0_cut K n (impl_MixBlock_l0_s a0 a1 (IntKind.wrap .i64 (x14 + (1 : Int))) (y50.set (x14.toNat) (IntKind.wrap .u32 b2))))
 none))
 none)
 none)
 (K (.exit 0) (impl_MixBlock_l0_o0 a0 y50))) : Option (shDen impl_MixBlock_sh)) := by kernel_rfl

theorem impl_MixBlock_l0_exit0 (k : Nat)  (a0 : (List Int)) (y50 : (List Int)) : ((blkK 0 (seqK (execK (impl_MixBlock_cx k) (callK (impl_MixBlock_cx k) 8) 0 126 (sub impl_MixBlock_c [1, 1, 1])) (finK (impl_MixBlock_cx k) impl_MixBlock_i impl_MixBlock_sh))) (.exit 0) (impl_MixBlock_l0_o0 a0 y50) : Option (shDen impl_MixBlock_sh)) =
 ((loopK (impl_MixBlock_cx k) 0 (execK (impl_MixBlock_cx k) (callK (impl_MixBlock_cx k) 8) 0 126 (sub impl_MixBlock_c [1, 1, 1, 1, 0, 1, 0, 0])) impl_MixBlock_l1_cut (blkK 2 (seqK (execK (impl_MixBlock_cx k) (callK (impl_MixBlock_cx k) 8) 0 126 (sub impl_MixBlock_c [1, 1, 1, 1, 1])) (finK (impl_MixBlock_cx k) impl_MixBlock_i impl_MixBlock_sh))) k (impl_MixBlock_l1_s a0 y50 (0 : Int) a0)) : Option (shDen impl_MixBlock_sh)) := by kernel_rfl

theorem impl_MixBlock_l0_congr (ke0 : (List Int) → Option (shDen impl_MixBlock_sh)) (ke0' : (List Int) → Option (shDen impl_MixBlock_sh)) (a0 : (List Int)) (a1 : (List Int)) (n : Nat) (x14 : Int) (y50 : (List Int)) (hke0 : ∀ y50, ke0 y50 = ke0' y50) : impl_MixBlock_l0_L ke0 a0 a1 n x14 y50 = impl_MixBlock_l0_L ke0' a0 a1 n x14 y50 := by
 have : ke0 = ke0' := (by funext y50; exact hke0 y50); subst this; rfl

theorem impl_MixBlock_l0_L_eq (K : Ex → St → Option (shDen impl_MixBlock_sh)) (a0 : (List Int)) (a1 : (List Int)) : ∀ (n : Nat) (x14 : Int) (y50 : (List Int)), (loopK (impl_MixBlock_cx FUEL) 0 (execK (impl_MixBlock_cx FUEL) (callK (impl_MixBlock_cx FUEL) 8) 0 126 (sub impl_MixBlock_c [1, 1, 0, 1, 0, 0])) impl_MixBlock_l0_cut K n (impl_MixBlock_l0_s a0 a1 x14 y50) : Option (shDen impl_MixBlock_sh)) = impl_MixBlock_l0_L (fun y50 => K (.exit 0) (impl_MixBlock_l0_o0 a0 y50)) a0 a1 n x14 y50 := by
 intro n
 induction n with
 | zero => intros; rfl
 | succ n ih =>
  intro x14 y50
  exact (impl_MixBlock_l0_round FUEL K n a0 a1 x14 y50).trans (condC (condC (condC (bindC (fun b2 => condC (ih (IntKind.wrap .i64 (x14 + (1 : Int))) (y50.set (x14.toNat) (IntKind.wrap .u32 b2))) (rfl))) (rfl)) (rfl)) (rfl))

theorem impl_MixBlock_start (k : Nat) (a0 : (List Int)) (a1 : (List Int)) : fnK (impl_MixBlock_cx k) 8 126 impl_MixBlock_i impl_MixBlock_sh [.pv (.arr 8 (.int .u32)) a0, .pv (.arr 32 (.int .u8)) a1] =
 ((loopK (impl_MixBlock_cx k) 0 (execK (impl_MixBlock_cx k) (callK (impl_MixBlock_cx k) 8) 0 126 (sub impl_MixBlock_c [1, 1, 0, 1, 0, 0])) impl_MixBlock_l0_cut (blkK 0 (seqK (execK (impl_MixBlock_cx k) (callK (impl_MixBlock_cx k) 8) 0 126 (sub impl_MixBlock_c [1, 1, 1])) (finK (impl_MixBlock_cx k) impl_MixBlock_i impl_MixBlock_sh))) k (impl_MixBlock_l0_s a0 a1 (0 : Int) (List.replicate 8 (0 : Int)))) : Option (shDen impl_MixBlock_sh)) := by kernel_rfl

theorem impl_MixBlock_run (a0 : (List Int)) (a1 : (List Int)) : fnK (impl_MixBlock_cx FUEL) 8 126 impl_MixBlock_i impl_MixBlock_sh [.pv (.arr 8 (.int .u32)) a0, .pv (.arr 32 (.int .u8)) a1] = impl_MixBlock_r a0 a1 :=
 (impl_MixBlock_start FUEL a0 a1).trans ((impl_MixBlock_l0_L_eq _ a0 a1 FUEL (0 : Int) (List.replicate 8 (0 : Int))).trans (impl_MixBlock_l0_congr _ _ a0 a1 FUEL (0 : Int) (List.replicate 8 (0 : Int)) (fun y50 => (impl_MixBlock_l0_exit0 FUEL  a0 y50).trans ((impl_MixBlock_l1_L_eq _ a0 FUEL y50 (0 : Int) a0).trans (impl_MixBlock_l1_congr _ _ a0 FUEL y50 (0 : Int) a0 (fun y70 => (impl_MixBlock_l1_exit2 FUEL  a0 y70).trans ((impl_MixBlock_l3_L_eq _ a0 FUEL y70 (0 : Int)).trans (impl_MixBlock_l3_congr _ _ a0 FUEL y70 (0 : Int) (fun y70 => (impl_MixBlock_l3_exit6 FUEL  y70).trans (rfl))))))))))

noncomputable def impl_MixBlock_con : Con := { ps := (.pair (.arr 8 (.int .u32)) (.pair (.arr 32 (.int .u8)) .unit)), sh := impl_MixBlock_sh, raw := fun x => impl_MixBlock_r x.1 x.2.1 }
theorem impl_MixBlock_conOk : ConOk Try.prog 126 impl_MixBlock_con := con_of_fn (impl_MixBlock_tabs FUEL) (depth := 8) impl_MixBlock_ok fun x y h => (impl_MixBlock_run x.1 x.2.1).trans h

noncomputable def impl_RollTable_l0_cut : Cut := { keep := [0, 1, 2, 6], stk := [], ids := [0, 10, 20], own := [], outs := [(1, [0, 1], [0, 10])] }
noncomputable def impl_RollTable_inls : List (Nat × Inl) := []
noncomputable def impl_RollTable_cons : List (Nat × Con) := [(105, impl_StartState_con), (126, impl_MixBlock_con)]
noncomputable def impl_RollTable_taks : List (Nat × ConT) := []
noncomputable def impl_RollTable_inps : List (Nat × ConI) := []
noncomputable def impl_RollTable_cuts : List (Nat × List (Nat × Cut)) := [(118, [(0, impl_RollTable_l0_cut)])]
noncomputable def impl_RollTable_cx (k : Nat) : Cx := mkCx tys tbytes telem nozero (Ai.look impl_RollTable_inls) (Ai.look impl_RollTable_cons) (Ai.look impl_RollTable_taks) (Ai.look impl_RollTable_inps) (fun f id => match Ai.look impl_RollTable_cuts f with | some l => Ai.look l id | none => none) k []
theorem impl_RollTable_tabs (k : Nat) : TabsOk Try.prog (impl_RollTable_cx k) := ⟨tab_mk tabs_ok _ _ _ _ _ _ _, look_all (Q := ConOk Try.prog) _ ⟨impl_StartState_conOk, impl_MixBlock_conOk, trivial⟩, look_all (Q := TakOk Try.prog) _ trivial, look_all (Q := InpOk Try.prog) _ trivial, look_all (Q := InlOk Try.prog) _ trivial, mixed_ok⟩
abbrev impl_RollTable_sh : List Sh := [.pl (.arr 256 (.int .u32))]
noncomputable def impl_RollTable_l0_s (y20 : (List Int)) (x6 : Int) (y10 : (List Int)) : St := { env := [.ptr 0 (.arr 256 (.int .u32)) [], .ptr 10 (.arr 256 (.int .u32)) [], .ptr 20 (.arr 8 (.int .u32)) [], .dead, .dead, .dead, .pv (.int .i64) x6, .dead, .dead, .dead, .dead, .dead, .dead, .dead, .dead, .dead, .dead, .dead, .dead], stk := [], heap := [(0, .var (.arr 256 (.int .u32)) (.pv (.arr 256 (.int .u32)) (List.replicate 256 (0 : Int)))), (10, .var (.arr 256 (.int .u32)) (.pv (.arr 256 (.int .u32)) y10)), (20, .var (.arr 8 (.int .u32)) (.pv (.arr 8 (.int .u32)) y20))] }
noncomputable def impl_RollTable_l0_o0 (y10 : (List Int)) : St := { env := [.ptr 0 (.arr 256 (.int .u32)) [], .ptr 10 (.arr 256 (.int .u32)) [], .dead, .dead, .dead, .dead, .dead, .dead, .dead, .dead, .dead, .dead, .dead, .dead, .dead, .dead, .dead, .dead, .dead], stk := [], heap := [(0, .var (.arr 256 (.int .u32)) (.pv (.arr 256 (.int .u32)) (List.replicate 256 (0 : Int)))), (10, .var (.arr 256 (.int .u32)) (.pv (.arr 256 (.int .u32)) y10))] }
noncomputable def impl_RollTable_l0_b (rec : (List Int) → Int → (List Int) → Option (shDen impl_RollTable_sh)) (ke0 : (List Int) → Option (shDen impl_RollTable_sh)) (y20 : (List Int)) (x6 : Int) (y10 : (List Int)) : Option (shDen impl_RollTable_sh) :=
 (cond (decide (x6 < (256 : Int)))
 (bindO (impl_MixBlock_r y20 ((List.replicate 32 (0 : Int)).set 0 (IntKind.wrap .u8 x6))) fun (b3 : (List Int)) => (cond ((decide ((0 : Int) ≤ x6)) && (decide (x6 < (256 : Int))))
 (rec y20 (IntKind.wrap .i64 (x6 + (1 : Int))) (y10.set (x6.toNat) (b3.getD 0 (0 : Int))))
 none))
 (ke0 y10))
noncomputable def impl_RollTable_l0_L (ke0 : (List Int) → Option (shDen impl_RollTable_sh))  : Nat → (List Int) → Int → (List Int) → Option (shDen impl_RollTable_sh)
 | 0 => fun _ _ _ => none
 | n + 1 => impl_RollTable_l0_b (impl_RollTable_l0_L ke0  n) ke0 
noncomputable def impl_RollTable_r  : Option (shDen impl_RollTable_sh) :=
 (bindO (impl_StartState_r (7 : Int)) fun (b1 : (List Int)) => (impl_RollTable_l0_L (fun y10 => (some y10)) FUEL b1 (0 : Int) (List.replicate 256 (0 : Int))))
theorem impl_RollTable_l0_round (k : Nat) (K : Ex → St → Option (shDen impl_RollTable_sh)) (n : Nat) (y20 : (List Int)) (x6 : Int) (y10 : (List Int)) : (loopK (impl_RollTable_cx k) 0 (execK (impl_RollTable_cx k) (callK (impl_RollTable_cx k) 8) 0 118 (sub impl_RollTable_c [1, 1, 0, 1, 0, 0])) impl_RollTable_l0_cut K (n + 1) (impl_RollTable_l0_s y20 x6 y10) : Option (shDen impl_RollTable_sh)) =
 ((cond (decide (x6 < (256 : Int)))
 (bindO (impl_MixBlock_r y20 ((List.replicate 32 (0 : Int)).set 0 (IntKind.wrap .u8 x6))) fun (b3 : (List Int)) => (cond ((decide ((0 : Int) ≤ x6)) && (decide (x6 < (256 : Int))))
 (loopK (impl_RollTable_cx k) 0 (execK (impl_RollTable_cx k) (callK (impl_RollTable_cx k) 8) 0 118 (sub impl_RollTable_c [1, 1, 0, 1, 0, 0])) impl_RollTable_l0_cut K n (impl_RollTable_l0_s y20 (IntKind.wrap .i64 (x6 + (1 : Int))) (y10.set (x6.toNat) (b3.getD 0 (0 : Int)))))
 none))
 (K (.exit 0) (impl_RollTable_l0_o0 y10))) : Option (shDen impl_RollTable_sh)) := by kernel_rfl

theorem impl_RollTable_l0_exit0 (k : Nat)  (y10 : (List Int)) : ((blkK 0 (seqK (execK (impl_RollTable_cx k) (callK (impl_RollTable_cx k) 8) 0 118 (sub impl_RollTable_c [1, 1, 1])) (finK (impl_RollTable_cx k) impl_RollTable_i impl_RollTable_sh))) (.exit 0) (impl_RollTable_l0_o0 y10) : Option (shDen impl_RollTable_sh)) =
 ((some y10) : Option (shDen impl_RollTable_sh)) := by kernel_rfl

theorem impl_RollTable_l0_congr (ke0 : (List Int) → Option (shDen impl_RollTable_sh)) (ke0' : (List Int) → Option (shDen impl_RollTable_sh))  (n : Nat) (y20 : (List Int)) (x6 : Int) (y10 : (List Int)) (hke0 : ∀ y10, ke0 y10 = ke0' y10) : impl_RollTable_l0_L ke0  n y20 x6 y10 = impl_RollTable_l0_L ke0'  n y20 x6 y10 := by
 have : ke0 = ke0' := (by funext y10; exact hke0 y10); subst this; rfl

theorem impl_RollTable_l0_L_eq (K : Ex → St → Option (shDen impl_RollTable_sh))  : ∀ (n : Nat) (y20 : (List Int)) (x6 : Int) (y10 : (List Int)), (loopK (impl_RollTable_cx FUEL) 0 (execK (impl_RollTable_cx FUEL) (callK (impl_RollTable_cx FUEL) 8) 0 118 (sub impl_RollTable_c [1, 1, 0, 1, 0, 0])) impl_RollTable_l0_cut K n (impl_RollTable_l0_s y20 x6 y10) : Option (shDen impl_RollTable_sh)) = impl_RollTable_l0_L (fun y10 => K (.exit 0) (impl_RollTable_l0_o0 y10))  n y20 x6 y10 := by
 intro n
 induction n with
 | zero => intros; rfl
 | succ n ih =>
  intro y20 x6 y10
  exact (impl_RollTable_l0_round FUEL K n  y20 x6 y10).trans (condC (bindC (fun b3 => condC (ih y20 (IntKind.wrap .i64 (x6 + (1 : Int))) (y10.set (x6.toNat) (b3.getD 0 (0 : Int)))) (rfl))) (rfl))

theorem impl_RollTable_start (k : Nat)  : fnK (impl_RollTable_cx k) 8 118 impl_RollTable_i impl_RollTable_sh [] =
 ((bindO (impl_StartState_r (7 : Int)) fun (b1 : (List Int)) => (loopK (impl_RollTable_cx k) 0 (execK (impl_RollTable_cx k) (callK (impl_RollTable_cx k) 8) 0 118 (sub impl_RollTable_c [1, 1, 0, 1, 0, 0])) impl_RollTable_l0_cut (blkK 0 (seqK (execK (impl_RollTable_cx k) (callK (impl_RollTable_cx k) 8) 0 118 (sub impl_RollTable_c [1, 1, 1])) (finK (impl_RollTable_cx k) impl_RollTable_i impl_RollTable_sh))) k (impl_RollTable_l0_s b1 (0 : Int) (List.replicate 256 (0 : Int))))) : Option (shDen impl_RollTable_sh)) := by kernel_rfl

theorem impl_RollTable_run  : fnK (impl_RollTable_cx FUEL) 8 118 impl_RollTable_i impl_RollTable_sh [] = impl_RollTable_r  :=
 (impl_RollTable_start FUEL ).trans (bindC (fun b1 => (impl_RollTable_l0_L_eq _  FUEL b1 (0 : Int) (List.replicate 256 (0 : Int))).trans (impl_RollTable_l0_congr _ _  FUEL b1 (0 : Int) (List.replicate 256 (0 : Int)) (fun y10 => (impl_RollTable_l0_exit0 FUEL  y10).trans (rfl)))))

noncomputable def impl_RollTable_con : Con := { ps := .unit, sh := impl_RollTable_sh, raw := fun x => impl_RollTable_r  }
theorem impl_RollTable_conOk : ConOk Try.prog 118 impl_RollTable_con := con_of_fn (impl_RollTable_tabs FUEL) (depth := 8) impl_RollTable_ok fun x y h => (impl_RollTable_run ).trans h

noncomputable def impl_roller_add_inls : List (Nat × Inl) := []
noncomputable def impl_roller_add_cons : List (Nat × Con) := []
noncomputable def impl_roller_add_taks : List (Nat × ConT) := []
noncomputable def impl_roller_add_inps : List (Nat × ConI) := []
noncomputable def impl_roller_add_cuts : List (Nat × List (Nat × Cut)) := []
noncomputable def impl_roller_add_cx (k : Nat) : Cx := mkCx tys tbytes telem nozero (Ai.look impl_roller_add_inls) (Ai.look impl_roller_add_cons) (Ai.look impl_roller_add_taks) (Ai.look impl_roller_add_inps) (fun f id => match Ai.look impl_roller_add_cuts f with | some l => Ai.look l id | none => none) k []
theorem impl_roller_add_tabs (k : Nat) : TabsOk Try.prog (impl_roller_add_cx k) := ⟨tab_mk tabs_ok _ _ _ _ _ _ _, look_all (Q := ConOk Try.prog) _ trivial, look_all (Q := TakOk Try.prog) _ trivial, look_all (Q := InpOk Try.prog) _ trivial, look_all (Q := InlOk Try.prog) _ trivial, mixed_ok⟩
abbrev impl_roller_add_sh : List Sh := []
noncomputable def impl_roller_add_r (a0 : ((List Int) × (Int × Unit))) (a1 : Int) : Option (((List Int) × (Int × Unit)) × shDen impl_roller_add_sh) :=
 (cond ((decide ((0 : Int) ≤ a1)) && (decide (a1 < (256 : Int))))
 (some ((a0.1, ((IntKind.wrap .u32 ((IntKind.wrap .u32 ((2 : Int) * a0.2.1)) + (a0.1.getD (a1.toNat) (0 : Int)))), a0.2.2)), ()))
 none)
theorem impl_roller_add_start (k : Nat) (a0 : ((List Int) × (Int × Unit))) (a1 : Int) : fnIK (impl_roller_add_cx k) 8 88 impl_roller_add_i (.var (.pair (.arr 256 (.int .u32)) (.pair (.int .u32) .unit))) impl_roller_add_sh a0 [.pv (.int .u8) a1] =
 ((cond ((decide ((0 : Int) ≤ a1)) && (decide (a1 < (256 : Int))))
 (some ((a0.1, ((IntKind.wrap .u32 ((IntKind.wrap .u32 ((2 : Int) * a0.2.1)) + (a0.1.getD (a1.toNat) (0 : Int)))), a0.2.2)), ()))
 none) : Option (((List Int) × (Int × Unit)) × shDen impl_roller_add_sh)) := by kernel_rfl

theorem impl_roller_add_run (a0 : ((List Int) × (Int × Unit))) (a1 : Int) : fnIK (impl_roller_add_cx FUEL) 8 88 impl_roller_add_i (.var (.pair (.arr 256 (.int .u32)) (.pair (.int .u32) .unit))) impl_roller_add_sh a0 [.pv (.int .u8) a1] = impl_roller_add_r a0 a1 :=
 (impl_roller_add_start FUEL a0 a1).trans (rfl)

noncomputable def impl_roller_add_inp : ConI := { k := (.var (.pair (.arr 256 (.int .u32)) (.pair (.int .u32) .unit))), ps := (.pair (.int .u8) .unit), sh := impl_roller_add_sh, raw := fun x q => impl_roller_add_r x q.1 }
theorem impl_roller_add_inpOk : InpOk Try.prog 88 impl_roller_add_inp := inp_of_fn (impl_roller_add_tabs FUEL) (depth := 8) impl_roller_add_ok fun x q z h => (impl_roller_add_run x q.1).trans h

noncomputable def impl_CutRule_ends_inls : List (Nat × Inl) := []
noncomputable def impl_CutRule_ends_cons : List (Nat × Con) := []
noncomputable def impl_CutRule_ends_taks : List (Nat × ConT) := []
noncomputable def impl_CutRule_ends_inps : List (Nat × ConI) := []
noncomputable def impl_CutRule_ends_cuts : List (Nat × List (Nat × Cut)) := []
noncomputable def impl_CutRule_ends_cx (k : Nat) : Cx := mkCx tys tbytes telem nozero (Ai.look impl_CutRule_ends_inls) (Ai.look impl_CutRule_ends_cons) (Ai.look impl_CutRule_ends_taks) (Ai.look impl_CutRule_ends_inps) (fun f id => match Ai.look impl_CutRule_ends_cuts f with | some l => Ai.look l id | none => none) k []
theorem impl_CutRule_ends_tabs (k : Nat) : TabsOk Try.prog (impl_CutRule_ends_cx k) := ⟨tab_mk tabs_ok _ _ _ _ _ _ _, look_all (Q := ConOk Try.prog) _ trivial, look_all (Q := TakOk Try.prog) _ trivial, look_all (Q := InpOk Try.prog) _ trivial, look_all (Q := InlOk Try.prog) _ trivial, mixed_ok⟩
abbrev impl_CutRule_ends_sh : List Sh := [.pl .bool]
noncomputable def impl_CutRule_ends_r (a0 : (Int × (Int × (Int × Unit)))) (a1 : Int) (a2 : Int) : Option (shDen impl_CutRule_ends_sh) :=
 (cond (decide (a1 = a0.2.1))
 (some true)
 (cond (decide (a0.1 ≤ a1))
 (cond (decide (a0.2.2.1 < (0 : Int)))
 none
 (some (decide ((bitI .and .u32 a2 (IntKind.wrap .u32 ((shlI .u32 (1 : Int) a0.2.2.1) - (1 : Int)))) = (0 : Int)))))
 (some false)))
theorem impl_CutRule_ends_start (k : Nat) (a0 : (Int × (Int × (Int × Unit)))) (a1 : Int) (a2 : Int) : fnK (impl_CutRule_ends_cx k) 8 95 impl_CutRule_ends_i impl_CutRule_ends_sh [.pv (.pair (.int .i64) (.pair (.int .i64) (.pair (.int .i64) .unit))) a0, .pv (.int .i64) a1, .pv (.int .u32) a2] =
 ((cond (decide (a1 = a0.2.1))
 (some true)
 (cond (decide (a0.1 ≤ a1))
 (cond (decide (a0.2.2.1 < (0 : Int)))
 none
 (some (decide ((bitI .and .u32 a2 (IntKind.wrap .u32 ((shlI .u32 (1 : Int) a0.2.2.1) - (1 : Int)))) = (0 : Int)))))
 (some false))) : Option (shDen impl_CutRule_ends_sh)) := by kernel_rfl

theorem impl_CutRule_ends_run (a0 : (Int × (Int × (Int × Unit)))) (a1 : Int) (a2 : Int) : fnK (impl_CutRule_ends_cx FUEL) 8 95 impl_CutRule_ends_i impl_CutRule_ends_sh [.pv (.pair (.int .i64) (.pair (.int .i64) (.pair (.int .i64) .unit))) a0, .pv (.int .i64) a1, .pv (.int .u32) a2] = impl_CutRule_ends_r a0 a1 a2 :=
 (impl_CutRule_ends_start FUEL a0 a1 a2).trans (rfl)

noncomputable def impl_CutRule_ends_con : Con := { ps := (.pair (.pair (.int .i64) (.pair (.int .i64) (.pair (.int .i64) .unit))) (.pair (.int .i64) (.pair (.int .u32) .unit))), sh := impl_CutRule_ends_sh, raw := fun x => impl_CutRule_ends_r x.1 x.2.1 x.2.2.1 }
theorem impl_CutRule_ends_conOk : ConOk Try.prog 95 impl_CutRule_ends_con := con_of_fn (impl_CutRule_ends_tabs FUEL) (depth := 8) impl_CutRule_ends_ok fun x y h => (impl_CutRule_ends_run x.1 x.2.1 x.2.2.1).trans h

noncomputable def slices_Clone_byte_byte_inls : List (Nat × Inl) := []
noncomputable def slices_Clone_byte_byte_cons : List (Nat × Con) := []
noncomputable def slices_Clone_byte_byte_taks : List (Nat × ConT) := []
noncomputable def slices_Clone_byte_byte_inps : List (Nat × ConI) := []
noncomputable def slices_Clone_byte_byte_cuts : List (Nat × List (Nat × Cut)) := []
noncomputable def slices_Clone_byte_byte_cx (k : Nat) : Cx := mkCx tys tbytes telem nozero (Ai.look slices_Clone_byte_byte_inls) (Ai.look slices_Clone_byte_byte_cons) (Ai.look slices_Clone_byte_byte_taks) (Ai.look slices_Clone_byte_byte_inps) (fun f id => match Ai.look slices_Clone_byte_byte_cuts f with | some l => Ai.look l id | none => none) k []
theorem slices_Clone_byte_byte_tabs (k : Nat) : TabsOk Try.prog (slices_Clone_byte_byte_cx k) := ⟨tab_mk tabs_ok _ _ _ _ _ _ _, look_all (Q := ConOk Try.prog) _ trivial, look_all (Q := TakOk Try.prog) _ trivial, look_all (Q := InpOk Try.prog) _ trivial, look_all (Q := InlOk Try.prog) _ trivial, mixed_ok⟩
abbrev slices_Clone_byte_byte_sh : List Sh := [.own 5 (.int .u8)]
noncomputable def slices_Clone_byte_byte_r (a0 : (List Int)) : Option (shDen slices_Clone_byte_byte_sh) :=
 (cond (List.isEmpty a0) (bothO (some []) (cond (decide ((0 + a0.length) * 1 ≤ 140737488355328) && decide (0 + a0.length ≤ 9223372036854775807))
 (some ([] ++ a0))
 none)) (cond (decide ((0 + a0.length) * 1 ≤ 140737488355328) && decide (0 + a0.length ≤ 9223372036854775807))
 (some ([] ++ a0))
 none))
theorem slices_Clone_byte_byte_start (k : Nat) (a0 : (List Int)) : fnK (slices_Clone_byte_byte_cx k) 8 91 slices_Clone_byte_byte_i slices_Clone_byte_byte_sh [.pv (.slice (.int .u8)) a0] =
 ((cond (List.isEmpty a0) (bothO (some []) (cond (decide ((0 + a0.length) * 1 ≤ 140737488355328) && decide (0 + a0.length ≤ 9223372036854775807))
 (some ([] ++ a0))
 none)) (cond (decide ((0 + a0.length) * 1 ≤ 140737488355328) && decide (0 + a0.length ≤ 9223372036854775807))
 (some ([] ++ a0))
 none)) : Option (shDen slices_Clone_byte_byte_sh)) := by kernel_rfl

theorem slices_Clone_byte_byte_run (a0 : (List Int)) : fnK (slices_Clone_byte_byte_cx FUEL) 8 91 slices_Clone_byte_byte_i slices_Clone_byte_byte_sh [.pv (.slice (.int .u8)) a0] = slices_Clone_byte_byte_r a0 :=
 (slices_Clone_byte_byte_start FUEL a0).trans (rfl)

noncomputable def slices_Clone_byte_byte_con : Con := { ps := (.pair (.slice (.int .u8)) .unit), sh := slices_Clone_byte_byte_sh, raw := fun x => slices_Clone_byte_byte_r x.1 }
theorem slices_Clone_byte_byte_conOk : ConOk Try.prog 91 slices_Clone_byte_byte_con := con_of_fn (slices_Clone_byte_byte_tabs FUEL) (depth := 8) slices_Clone_byte_byte_ok fun x y h => (slices_Clone_byte_byte_run x.1).trans h

noncomputable def impl_CutRule_cut_l0_cut : Cut := { keep := [1, 4, 11, 12, 13, 14], stk := [], ids := [40, 160, 90110], own := [(11, 90110, 32)], outs := [(1, [1, 11, 12, 13], [160, 90110])] }
noncomputable def impl_CutRule_cut_inls : List (Nat × Inl) := [(87, impl_newRoller_i)]
noncomputable def impl_CutRule_cut_cons : List (Nat × Con) := [(91, slices_Clone_byte_byte_con), (95, impl_CutRule_ends_con), (118, impl_RollTable_con)]
noncomputable def impl_CutRule_cut_taks : List (Nat × ConT) := []
noncomputable def impl_CutRule_cut_inps : List (Nat × ConI) := [(88, impl_roller_add_inp)]
noncomputable def impl_CutRule_cut_cuts : List (Nat × List (Nat × Cut)) := [(58, [(0, impl_CutRule_cut_l0_cut)])]
noncomputable def impl_CutRule_cut_cx (k : Nat) : Cx := mkCx tys tbytes telem nozero (Ai.look impl_CutRule_cut_inls) (Ai.look impl_CutRule_cut_cons) (Ai.look impl_CutRule_cut_taks) (Ai.look impl_CutRule_cut_inps) (fun f id => match Ai.look impl_CutRule_cut_cuts f with | some l => Ai.look l id | none => none) k []
theorem impl_CutRule_cut_tabs (k : Nat) : TabsOk Try.prog (impl_CutRule_cut_cx k) := ⟨tab_mk tabs_ok _ _ _ _ _ _ _, look_all (Q := ConOk Try.prog) _ ⟨slices_Clone_byte_byte_conOk, impl_CutRule_ends_conOk, impl_RollTable_conOk, trivial⟩, look_all (Q := TakOk Try.prog) _ trivial, look_all (Q := InpOk Try.prog) _ ⟨impl_roller_add_inpOk, trivial⟩, look_all (Q := InlOk Try.prog) _ ⟨impl_newRoller_ok, trivial⟩, mixed_ok⟩
abbrev impl_CutRule_cut_sh : List Sh := [.own 25 (.slice (.int .u8)), .own 5 (.int .u8), .pl (.int .u32)]
noncomputable def impl_CutRule_cut_l0_s (a0 : (Int × (Int × (Int × Unit)))) (a1 : (List Int)) (y160 : ((List Int) × (Int × Unit))) (x13 : Int) (x14 : Int) (z90110 : (List (List Int))) : St := { env := [.dead, .pv (.slice (.int .u8)) a1, .dead, .dead, .ptr 40 (.pair (.int .i64) (.pair (.int .i64) (.pair (.int .i64) .unit))) [], .dead, .dead, .dead, .dead, .dead, .dead, .sl 90110 (.slice (.int .u8)), .ptr 160 (.pair (.arr 256 (.int .u32)) (.pair (.int .u32) .unit)) [], .pv (.int .i64) x13, .pv (.int .i64) x14, .dead, .dead, .dead, .dead, .dead, .dead, .dead, .dead, .dead, .dead, .dead, .dead, .dead, .dead, .dead, .dead, .dead, .dead, .dead, .dead, .dead, .dead, .dead, .dead, .dead, .dead, .dead, .dead, .dead, .dead, .dead, .dead, .dead, .dead, .dead, .dead, .dead, .dead, .dead, .dead, .dead, .dead, .dead, .dead, .dead, .dead, .dead, .dead, .dead, .dead, .dead, .dead], stk := [], heap := [(40, .var (.pair (.int .i64) (.pair (.int .i64) (.pair (.int .i64) .unit))) (.pv (.pair (.int .i64) (.pair (.int .i64) (.pair (.int .i64) .unit))) a0)), (160, .var (.pair (.arr 256 (.int .u32)) (.pair (.int .u32) .unit)) (.pv (.pair (.arr 256 (.int .u32)) (.pair (.int .u32) .unit)) y160)), (90110, .arr 25 (.slice (.int .u8)) z90110)] }
noncomputable def impl_CutRule_cut_l0_o0 (a1 : (List Int)) (y160 : ((List Int) × (Int × Unit))) (x13 : Int) (z90110 : (List (List Int))) : St := { env := [.dead, .pv (.slice (.int .u8)) a1, .dead, .dead, .dead, .dead, .dead, .dead, .dead, .dead, .dead, .sl 90110 (.slice (.int .u8)), .ptr 160 (.pair (.arr 256 (.int .u32)) (.pair (.int .u32) .unit)) [], .pv (.int .i64) x13, .dead, .dead, .dead, .dead, .dead, .dead, .dead, .dead, .dead, .dead, .dead, .dead, .dead, .dead, .dead, .dead, .dead, .dead, .dead, .dead, .dead, .dead, .dead, .dead, .dead, .dead, .dead, .dead, .dead, .dead, .dead, .dead, .dead, .dead, .dead, .dead, .dead, .dead, .dead, .dead, .dead, .dead, .dead, .dead, .dead, .dead, .dead, .dead, .dead, .dead, .dead, .dead, .dead], stk := [], heap := [(160, .var (.pair (.arr 256 (.int .u32)) (.pair (.int .u32) .unit)) (.pv (.pair (.arr 256 (.int .u32)) (.pair (.int .u32) .unit)) y160)), (90110, .arr 25 (.slice (.int .u8)) z90110)] }
noncomputable def impl_CutRule_cut_l0_b (rec : ((List Int) × (Int × Unit)) → Int → Int → (List (List Int)) → Option (shDen impl_CutRule_cut_sh)) (ke0 : ((List Int) × (Int × Unit)) → Int → (List (List Int)) → Option (shDen impl_CutRule_cut_sh)) (a0 : (Int × (Int × (Int × Unit)))) (a1 : (List Int)) (y160 : ((List Int) × (Int × Unit))) (x13 : Int) (x14 : Int) (z90110 : (List (List Int))) : Option (shDen impl_CutRule_cut_sh) :=
 (cond (decide (x14 < (a1.length : Int)))
 (cond ((decide ((0 : Int) ≤ x14)) && (decide (x14 < (a1.length : Int))))
 (bindO (impl_roller_add_r y160 (a1.getD (x14.toNat) (0 : Int))) fun (b5 : (((List Int) × (Int × Unit)) × Unit)) => (bindO (impl_CutRule_ends_r a0 (IntKind.wrap .i64 ((IntKind.wrap .i64 (x14 + (1 : Int))) - x13)) b5.1.2.1) fun (b6 : Bool) => (cond b6
 (cond ((decide ((0 : Int) ≤ (IntKind.wrap .i64 (x14 + (1 : Int))))) && (decide ((IntKind.wrap .i64 (x14 + (1 : Int))) ≤ (a1.length : Int))))
 (cond ((decide ((0 : Int) ≤ x13)) && (decide (x13 ≤ (IntKind.wrap .i64 (x14 + (1 : Int))))))
 (bindO (slices_Clone_byte_byte_r (cutL a1 (x13.toNat) ((IntKind.wrap .i64 (x14 + (1 : Int))).toNat))) fun (b7 : (List Int)) => (cond (decide ((z90110.length + 1) * 24 ≤ 140737488355328) && decide (z90110.length + 1 ≤ 9223372036854775807))
 (rec (b5.1.1, ((0 : Int), b5.1.2.2)) (IntKind.wrap .i64 (x14 + (1 : Int))) (IntKind.wrap .i64 (x14 + (1 : Int))) (z90110 ++ [b7]))
 none))
 none)
 none)
 (rec b5.1 x13 (IntKind.wrap .i64 (x14 + (1 : Int))) z90110))))
 none)
 (ke0 y160 x13 z90110))
noncomputable def impl_CutRule_cut_l0_L (ke0 : ((List Int) × (Int × Unit)) → Int → (List (List Int)) → Option (shDen impl_CutRule_cut_sh)) (a0 : (Int × (Int × (Int × Unit)))) (a1 : (List Int)) : Nat → ((List Int) × (Int × Unit)) → Int → Int → (List (List Int)) → Option (shDen impl_CutRule_cut_sh)
 | 0 => fun _ _ _ _ => none
 | n + 1 => impl_CutRule_cut_l0_b (impl_CutRule_cut_l0_L ke0 a0 a1 n) ke0 a0 a1
noncomputable def impl_CutRule_cut_r (a0 : (Int × (Int × (Int × Unit)))) (a1 : (List Int)) (a2 : Int) (a3 : Int) : Option (shDen impl_CutRule_cut_sh) :=
 (bindO (impl_RollTable_r) fun (b1 : (List Int)) => (impl_CutRule_cut_l0_L (fun y160 x13 z90110 => (cond ((decide ((0 : Int) ≤ x13)) && (decide (x13 ≤ (a1.length : Int))))
 (bindO (slices_Clone_byte_byte_r (cutL a1 (x13.toNat) (a1.length))) fun (b8 : (List Int)) => (some (z90110, (b8, y160.2.1))))
 none)) a0 a1 FUEL (b1, (a3, ())) (0 : Int) a2 []))
theorem impl_CutRule_cut_l0_round (k : Nat) (K : Ex → St → Option (shDen impl_CutRule_cut_sh)) (n : Nat) (a0 : (Int × (Int × (Int × Unit)))) (a1 : (List Int)) (y160 : ((List Int) × (Int × Unit))) (x13 : Int) (x14 : Int) (z90110 : (List (List Int))) : (loopK (impl_CutRule_cut_cx k) 0 (execK (impl_CutRule_cut_cx k) (callK (impl_CutRule_cut_cx k) 8) 0 58 (sub impl_CutRule_cut_c [1, 1, 1, 1, 0, 1, 0, 0])) impl_CutRule_cut_l0_cut K (n + 1) (impl_CutRule_cut_l0_s a0 a1 y160 x13 x14 z90110) : Option (shDen impl_CutRule_cut_sh)) =
 ((cond (decide (x14 < (a1.length : Int)))
 (cond ((decide ((0 : Int) ≤ x14)) && (decide (x14 < (a1.length : Int))))
 (bindO (impl_roller_add_r y160 (a1.getD (x14.toNat) (0 : Int))) fun (b5 : (((List Int) × (Int × Unit)) × Unit)) => (bindO (impl_CutRule_ends_r a0 (IntKind.wrap .i64 ((IntKind.wrap .i64 (x14 + (1 : Int))) - x13)) b5.1.2.1) fun (b6 : Bool) => (cond b6
 (cond ((decide ((0 : Int) ≤ (IntKind.wrap .i64 (x14 + (1 : Int))))) && (decide ((IntKind.wrap .i64 (x14 + (1 : Int))) ≤ (a1.length : Int))))
 (cond ((decide ((0 : Int) ≤ x13)) && (decide (x13 ≤ (IntKind.wrap .i64 (x14 + (1 : Int))))))
 (bindO (slices_Clone_byte_byte_r (cutL a1 (x13.toNat) ((IntKind.wrap .i64 (x14 + (1 : Int))).toNat))) fun (b7 : (List Int)) => (cond (decide ((z90110.length + 1) * 24 ≤ 140737488355328) && decide (z90110.length + 1 ≤ 9223372036854775807))
 (loopK (impl_CutRule_cut_cx k) 0 (execK (impl_CutRule_cut_cx k) (callK (impl_CutRule_cut_cx k) 8) 0 58 (sub impl_CutRule_cut_c [1, 1, 1, 1, 0, 1, 0, 0])) impl_CutRule_cut_l0_cut K n (impl_CutRule_cut_l0_s a0 a1 (b5.1.1, ((0 : Int), b5.1.2.2)) (IntKind.wrap .i64 (x14 + (1 : Int))) (IntKind.wrap .i64 (x14 + (1 : Int))) (z90110 ++ [b7])))
 none))
 none)
 none)
 (loopK (impl_CutRule_cut_cx k) 0 (execK (impl_CutRule_cut_cx k) (callK (impl_CutRule_cut_cx k) 8) 0 58 (sub impl_CutRule_cut_c [1, 1, 1, 1, 0, 1, 0, 0])) impl_CutRule_cut_l0_cut K n (impl_CutRule_cut_l0_s a0 a1 b5.1 x13 (IntKind.wrap .i64 (x14 + (1 : Int))) z90110)))))
 none)
 (K (.exit 0) (impl_CutRule_cut_l0_o0 a1 y160 x13 z90110))) : Option (shDen impl_CutRule_cut_sh)) := by kernel_rfl

theorem impl_CutRule_cut_l0_exit0 (k : Nat)  (a1 : (List Int)) (y160 : ((List Int) × (Int × Unit))) (x13 : Int) (z90110 : (List (List Int))) : ((blkK 0 (seqK (execK (impl_CutRule_cut_cx k) (callK (impl_CutRule_cut_cx k) 8) 0 58 (sub impl_CutRule_cut_c [1, 1, 1, 1, 1])) (finK (impl_CutRule_cut_cx k) impl_CutRule_cut_i impl_CutRule_cut_sh))) (.exit 0) (impl_CutRule_cut_l0_o0 a1 y160 x13 z90110) : Option (shDen impl_CutRule_cut_sh)) =
 ((cond ((decide ((0 : Int) ≤ x13)) && (decide (x13 ≤ (a1.length : Int))))
 (bindO (slices_Clone_byte_byte_r (cutL a1 (x13.toNat) (a1.length))) fun (b8 : (List Int)) => (some (z90110, (b8, y160.2.1))))
 none) : Option (shDen impl_CutRule_cut_sh)) := by kernel_rfl

theorem impl_CutRule_cut_l0_congr (ke0 : ((List Int) × (Int × Unit)) → Int → (List (List Int)) → Option (shDen impl_CutRule_cut_sh)) (ke0' : ((List Int) × (Int × Unit)) → Int → (List (List Int)) → Option (shDen impl_CutRule_cut_sh)) (a0 : (Int × (Int × (Int × Unit)))) (a1 : (List Int)) (n : Nat) (y160 : ((List Int) × (Int × Unit))) (x13 : Int) (x14 : Int) (z90110 : (List (List Int))) (hke0 : ∀ y160 x13 z90110, ke0 y160 x13 z90110 = ke0' y160 x13 z90110) : impl_CutRule_cut_l0_L ke0 a0 a1 n y160 x13 x14 z90110 = impl_CutRule_cut_l0_L ke0' a0 a1 n y160 x13 x14 z90110 := by
 have : ke0 = ke0' := (by funext y160 x13 z90110; exact hke0 y160 x13 z90110); subst this; rfl

theorem impl_CutRule_cut_l0_L_eq (K : Ex → St → Option (shDen impl_CutRule_cut_sh)) (a0 : (Int × (Int × (Int × Unit)))) (a1 : (List Int)) : ∀ (n : Nat) (y160 : ((List Int) × (Int × Unit))) (x13 : Int) (x14 : Int) (z90110 : (List (List Int))), (loopK (impl_CutRule_cut_cx FUEL) 0 (execK (impl_CutRule_cut_cx FUEL) (callK (impl_CutRule_cut_cx FUEL) 8) 0 58 (sub impl_CutRule_cut_c [1, 1, 1, 1, 0, 1, 0, 0])) impl_CutRule_cut_l0_cut K n (impl_CutRule_cut_l0_s a0 a1 y160 x13 x14 z90110) : Option (shDen impl_CutRule_cut_sh)) = impl_CutRule_cut_l0_L (fun y160 x13 z90110 => K (.exit 0) (impl_CutRule_cut_l0_o0 a1 y160 x13 z90110)) a0 a1 n y160 x13 x14 z90110 := by
 intro n
 induction n with
 | zero => intros; rfl
 | succ n ih =>
  intro y160 x13 x14 z90110
  exact (impl_CutRule_cut_l0_round FUEL K n a0 a1 y160 x13 x14 z90110).trans (condC (condC (bindC (fun b5 => bindC (fun b6 => condC (condC (condC (bindC (fun b7 => condC (ih (b5.1.1, ((0 : Int), b5.1.2.2)) (IntKind.wrap .i64 (x14 + (1 : Int))) (IntKind.wrap .i64 (x14 + (1 : Int))) (z90110 ++ [b7])) (rfl))) (rfl)) (rfl)) (ih b5.1 x13 (IntKind.wrap .i64 (x14 + (1 : Int))) z90110)))) (rfl)) (rfl))

theorem impl_CutRule_cut_start (k : Nat) (a0 : (Int × (Int × (Int × Unit)))) (a1 : (List Int)) (a2 : Int) (a3 : Int) : fnK (impl_CutRule_cut_cx k) 8 58 impl_CutRule_cut_i impl_CutRule_cut_sh [.pv (.pair (.int .i64) (.pair (.int .i64) (.pair (.int .i64) .unit))) a0, .pv (.slice (.int .u8)) a1, .pv (.int .i64) a2, .pv (.int .u32) a3] =
 ((bindO (impl_RollTable_r) fun (b1 : (List Int)) => (loopK (impl_CutRule_cut_cx k) 0 (execK (impl_CutRule_cut_cx k) (callK (impl_CutRule_cut_cx k) 8) 0 58 (sub impl_CutRule_cut_c [1, 1, 1, 1, 0, 1, 0, 0])) impl_CutRule_cut_l0_cut (blkK 0 (seqK (execK (impl_CutRule_cut_cx k) (callK (impl_CutRule_cut_cx k) 8) 0 58 (sub impl_CutRule_cut_c [1, 1, 1, 1, 1])) (finK (impl_CutRule_cut_cx k) impl_CutRule_cut_i impl_CutRule_cut_sh))) k (impl_CutRule_cut_l0_s a0 a1 (b1, (a3, ())) (0 : Int) a2 []))) : Option (shDen impl_CutRule_cut_sh)) := by kernel_rfl

theorem impl_CutRule_cut_run (a0 : (Int × (Int × (Int × Unit)))) (a1 : (List Int)) (a2 : Int) (a3 : Int) : fnK (impl_CutRule_cut_cx FUEL) 8 58 impl_CutRule_cut_i impl_CutRule_cut_sh [.pv (.pair (.int .i64) (.pair (.int .i64) (.pair (.int .i64) .unit))) a0, .pv (.slice (.int .u8)) a1, .pv (.int .i64) a2, .pv (.int .u32) a3] = impl_CutRule_cut_r a0 a1 a2 a3 :=
 (impl_CutRule_cut_start FUEL a0 a1 a2 a3).trans (bindC (fun b1 => (impl_CutRule_cut_l0_L_eq _ a0 a1 FUEL (b1, (a3, ())) (0 : Int) a2 []).trans (impl_CutRule_cut_l0_congr _ _ a0 a1 FUEL (b1, (a3, ())) (0 : Int) a2 [] (fun y160 x13 z90110 => (impl_CutRule_cut_l0_exit0 FUEL  a1 y160 x13 z90110).trans (rfl)))))

noncomputable def impl_CutRule_cut_con : Con := { ps := (.pair (.pair (.int .i64) (.pair (.int .i64) (.pair (.int .i64) .unit))) (.pair (.slice (.int .u8)) (.pair (.int .i64) (.pair (.int .u32) .unit)))), sh := impl_CutRule_cut_sh, raw := fun x => impl_CutRule_cut_r x.1 x.2.1 x.2.2.1 x.2.2.2.1 }
theorem impl_CutRule_cut_conOk : ConOk Try.prog 58 impl_CutRule_cut_con := con_of_fn (impl_CutRule_cut_tabs FUEL) (depth := 8) impl_CutRule_cut_ok fun x y h => (impl_CutRule_cut_run x.1 x.2.1 x.2.2.1 x.2.2.2.1).trans h

noncomputable def impl_CutRule_chunks_inls : List (Nat × Inl) := []
noncomputable def impl_CutRule_chunks_cons : List (Nat × Con) := [(58, impl_CutRule_cut_con)]
noncomputable def impl_CutRule_chunks_taks : List (Nat × ConT) := []
noncomputable def impl_CutRule_chunks_inps : List (Nat × ConI) := []
noncomputable def impl_CutRule_chunks_cuts : List (Nat × List (Nat × Cut)) := []
noncomputable def impl_CutRule_chunks_cx (k : Nat) : Cx := mkCx tys tbytes telem nozero (Ai.look impl_CutRule_chunks_inls) (Ai.look impl_CutRule_chunks_cons) (Ai.look impl_CutRule_chunks_taks) (Ai.look impl_CutRule_chunks_inps) (fun f id => match Ai.look impl_CutRule_chunks_cuts f with | some l => Ai.look l id | none => none) k []
theorem impl_CutRule_chunks_tabs (k : Nat) : TabsOk Try.prog (impl_CutRule_chunks_cx k) := ⟨tab_mk tabs_ok _ _ _ _ _ _ _, look_all (Q := ConOk Try.prog) _ ⟨impl_CutRule_cut_conOk, trivial⟩, look_all (Q := TakOk Try.prog) _ trivial, look_all (Q := InpOk Try.prog) _ trivial, look_all (Q := InlOk Try.prog) _ trivial, mixed_ok⟩
abbrev impl_CutRule_chunks_sh : List Sh := [.own 25 (.slice (.int .u8))]
noncomputable def impl_CutRule_chunks_r (a0 : (Int × (Int × (Int × Unit)))) (a1 : (List Int)) : Option (shDen impl_CutRule_chunks_sh) :=
 (bindO (impl_CutRule_cut_r a0 a1 (0 : Int) (0 : Int)) fun (b1 : ((List (List Int)) × ((List Int) × Int))) => (cond (decide ((0 : Int) < (b1.2.1.length : Int)))
 (cond (decide ((b1.1.length + 1) * 24 ≤ 140737488355328) && decide (b1.1.length + 1 ≤ 9223372036854775807))
 (some (b1.1 ++ [b1.2.1]))
 none)
 (some b1.1)))
theorem impl_CutRule_chunks_start (k : Nat) (a0 : (Int × (Int × (Int × Unit)))) (a1 : (List Int)) : fnK (impl_CutRule_chunks_cx k) 8 66 impl_CutRule_chunks_i impl_CutRule_chunks_sh [.pv (.pair (.int .i64) (.pair (.int .i64) (.pair (.int .i64) .unit))) a0, .pv (.slice (.int .u8)) a1] =
 ((bindO (impl_CutRule_cut_r a0 a1 (0 : Int) (0 : Int)) fun (b1 : ((List (List Int)) × ((List Int) × Int))) => (cond (decide ((0 : Int) < (b1.2.1.length : Int)))
 (cond (decide ((b1.1.length + 1) * 24 ≤ 140737488355328) && decide (b1.1.length + 1 ≤ 9223372036854775807))
 (some (b1.1 ++ [b1.2.1]))
 none)
 (some b1.1))) : Option (shDen impl_CutRule_chunks_sh)) := by kernel_rfl

theorem impl_CutRule_chunks_run (a0 : (Int × (Int × (Int × Unit)))) (a1 : (List Int)) : fnK (impl_CutRule_chunks_cx FUEL) 8 66 impl_CutRule_chunks_i impl_CutRule_chunks_sh [.pv (.pair (.int .i64) (.pair (.int .i64) (.pair (.int .i64) .unit))) a0, .pv (.slice (.int .u8)) a1] = impl_CutRule_chunks_r a0 a1 :=
 (impl_CutRule_chunks_start FUEL a0 a1).trans (rfl)

noncomputable def impl_CutRule_chunks_con : Con := { ps := (.pair (.pair (.int .i64) (.pair (.int .i64) (.pair (.int .i64) .unit))) (.pair (.slice (.int .u8)) .unit)), sh := impl_CutRule_chunks_sh, raw := fun x => impl_CutRule_chunks_r x.1 x.2.1 }
theorem impl_CutRule_chunks_conOk : ConOk Try.prog 66 impl_CutRule_chunks_con := con_of_fn (impl_CutRule_chunks_tabs FUEL) (depth := 8) impl_CutRule_chunks_ok fun x y h => (impl_CutRule_chunks_run x.1 x.2.1).trans h

noncomputable def impl_ChunksOf_inls : List (Nat × Inl) := []
noncomputable def impl_ChunksOf_cons : List (Nat × Con) := [(65, impl_ruleCode_con), (66, impl_CutRule_chunks_con)]
noncomputable def impl_ChunksOf_taks : List (Nat × ConT) := []
noncomputable def impl_ChunksOf_inps : List (Nat × ConI) := []
noncomputable def impl_ChunksOf_cuts : List (Nat × List (Nat × Cut)) := []
noncomputable def impl_ChunksOf_cx (k : Nat) : Cx := mkCx tys tbytes telem nozero (Ai.look impl_ChunksOf_inls) (Ai.look impl_ChunksOf_cons) (Ai.look impl_ChunksOf_taks) (Ai.look impl_ChunksOf_inps) (fun f id => match Ai.look impl_ChunksOf_cuts f with | some l => Ai.look l id | none => none) k []
theorem impl_ChunksOf_tabs (k : Nat) : TabsOk Try.prog (impl_ChunksOf_cx k) := ⟨tab_mk tabs_ok _ _ _ _ _ _ _, look_all (Q := ConOk Try.prog) _ ⟨impl_ruleCode_conOk, impl_CutRule_chunks_conOk, trivial⟩, look_all (Q := TakOk Try.prog) _ trivial, look_all (Q := InpOk Try.prog) _ trivial, look_all (Q := InlOk Try.prog) _ trivial, mixed_ok⟩
abbrev impl_ChunksOf_sh : List Sh := [.own 25 (.slice (.int .u8)), .pl (.int .i64)]
noncomputable def impl_ChunksOf_r (a0 : (Int × (Int × (Int × Unit)))) (a1 : (List Int)) : Option (shDen impl_ChunksOf_sh) :=
 (bindO (impl_ruleCode_r a0 [a1]) fun (b1 : Int) => (cond (!(decide (b1 = (0 : Int))))
 (some ([], b1))
 (bindO (impl_CutRule_chunks_r a0 a1) fun (b2 : (List (List Int))) => (some (b2, (0 : Int))))))
theorem impl_ChunksOf_start (k : Nat) (a0 : (Int × (Int × (Int × Unit)))) (a1 : (List Int)) : fnK (impl_ChunksOf_cx k) 8 42 impl_ChunksOf_i impl_ChunksOf_sh [.pv (.pair (.int .i64) (.pair (.int .i64) (.pair (.int .i64) .unit))) a0, .pv (.slice (.int .u8)) a1] =
 ((bindO (impl_ruleCode_r a0 [a1]) fun (b1 : Int) => (cond (!(decide (b1 = (0 : Int))))
 (some ([], b1))
 (bindO (impl_CutRule_chunks_r a0 a1) fun (b2 : (List (List Int))) => (some (b2, (0 : Int)))))) : Option (shDen impl_ChunksOf_sh)) := by kernel_rfl

theorem impl_ChunksOf_run (a0 : (Int × (Int × (Int × Unit)))) (a1 : (List Int)) : fnK (impl_ChunksOf_cx FUEL) 8 42 impl_ChunksOf_i impl_ChunksOf_sh [.pv (.pair (.int .i64) (.pair (.int .i64) (.pair (.int .i64) .unit))) a0, .pv (.slice (.int .u8)) a1] = impl_ChunksOf_r a0 a1 :=
 (impl_ChunksOf_start FUEL a0 a1).trans (rfl)

noncomputable def impl_ChunksOf_con : Con := { ps := (.pair (.pair (.int .i64) (.pair (.int .i64) (.pair (.int .i64) .unit))) (.pair (.slice (.int .u8)) .unit)), sh := impl_ChunksOf_sh, raw := fun x => impl_ChunksOf_r x.1 x.2.1 }
theorem impl_ChunksOf_conOk : ConOk Try.prog 42 impl_ChunksOf_con := con_of_fn (impl_ChunksOf_tabs FUEL) (depth := 8) impl_ChunksOf_ok fun x y h => (impl_ChunksOf_run x.1 x.2.1).trans h

noncomputable def impl_chunksCode_l0_cut : Cut := { keep := [0, 3, 6, 7, 8], stk := [], ids := [], own := [], outs := [(1, [0, 3], [])] }
noncomputable def impl_chunksCode_inls : List (Nat × Inl) := []
noncomputable def impl_chunksCode_cons : List (Nat × Con) := []
noncomputable def impl_chunksCode_taks : List (Nat × ConT) := []
noncomputable def impl_chunksCode_inps : List (Nat × ConI) := []
noncomputable def impl_chunksCode_cuts : List (Nat × List (Nat × Cut)) := [(84, [(0, impl_chunksCode_l0_cut)])]
noncomputable def impl_chunksCode_cx (k : Nat) : Cx := mkCx tys tbytes telem nozero (Ai.look impl_chunksCode_inls) (Ai.look impl_chunksCode_cons) (Ai.look impl_chunksCode_taks) (Ai.look impl_chunksCode_inps) (fun f id => match Ai.look impl_chunksCode_cuts f with | some l => Ai.look l id | none => none) k []
theorem impl_chunksCode_tabs (k : Nat) : TabsOk Try.prog (impl_chunksCode_cx k) := ⟨tab_mk tabs_ok _ _ _ _ _ _ _, look_all (Q := ConOk Try.prog) _ trivial, look_all (Q := TakOk Try.prog) _ trivial, look_all (Q := InpOk Try.prog) _ trivial, look_all (Q := InlOk Try.prog) _ trivial, mixed_ok⟩
abbrev impl_chunksCode_sh : List Sh := [.pl (.int .i64)]
noncomputable def impl_chunksCode_l0_s (a0 : (List (List Int))) (x3 : Int) (x8 : Int) : St := { env := [.pv (.slice (.slice (.int .u8))) a0, .dead, .dead, .pv (.int .i64) x3, .dead, .dead, .pv (.slice (.slice (.int .u8))) a0, .pv (.int .i64) (a0.length : Int), .pv (.int .i64) x8, .dead, .dead, .dead, .dead, .dead, .dead, .dead, .dead, .dead, .dead, .dead, .dead, .dead, .dead, .dead], stk := [], heap := [] }
noncomputable def impl_chunksCode_l0_o0 (a0 : (List (List Int))) (x3 : Int) : St := { env := [.pv (.slice (.slice (.int .u8))) a0, .dead, .dead, .pv (.int .i64) x3, .dead, .dead, .dead, .dead, .dead, .dead, .dead, .dead, .dead, .dead, .dead, .dead, .dead, .dead, .dead, .dead, .dead, .dead, .dead, .dead], stk := [], heap := [] }
noncomputable def impl_chunksCode_l0_b (rec : Int → Int → Option (shDen impl_chunksCode_sh)) (ke0 : Int → Option (shDen impl_chunksCode_sh)) (a0 : (List (List Int))) (x3 : Int) (x8 : Int) : Option (shDen impl_chunksCode_sh) :=
 (cond (decide (x8 < (a0.length : Int)))
 (cond ((decide ((0 : Int) ≤ x8)) && (decide (x8 < (a0.length : Int))))
 (rec (IntKind.wrap .i64 (x3 + ((a0.getD (x8.toNat) []).length : Int))) (IntKind.wrap .i64 (x8 + (1 : Int))))
 none)
 (ke0 x3))
noncomputable def impl_chunksCode_l0_L (ke0 : Int → Option (shDen impl_chunksCode_sh)) (a0 : (List (List Int))) : Nat → Int → Int → Option (shDen impl_chunksCode_sh)
 | 0 => fun _ _ => none
 | n + 1 => impl_chunksCode_l0_b (impl_chunksCode_l0_L ke0 a0 n) ke0 a0
noncomputable def impl_chunksCode_r (a0 : (List (List Int))) : Option (shDen impl_chunksCode_sh) :=
 (impl_chunksCode_l0_L (fun x3 => (cond (decide ((4096 : Int) < x3))
 (some (3 : Int))
 (cond (decide ((4096 : Int) < (a0.length : Int)))
 (some (3 : Int))
 (some (0 : Int))))) a0 FUEL (0 : Int) (0 : Int))
theorem impl_chunksCode_l0_round (k : Nat) (K : Ex → St → Option (shDen impl_chunksCode_sh)) (n : Nat) (a0 : (List (List Int))) (x3 : Int) (x8 : Int) : (loopK (impl_chunksCode_cx k) 0 (execK (impl_chunksCode_cx k) (callK (impl_chunksCode_cx k) 8) 0 84 (sub impl_chunksCode_c [1, 1, 0, 1, 0, 0])) impl_chunksCode_l0_cut K (n + 1) (impl_chunksCode_l0_s a0 x3 x8) : Option (shDen impl_chunksCode_sh)) =
 ((cond (decide (x8 < (a0.length : Int)))
 (cond ((decide ((0 : Int) ≤ x8)) && (decide (x8 < (a0.length : Int))))
 (loopK (impl_chunksCode_cx k) 0 (execK (impl_chunksCode_cx k) (callK (impl_chunksCode_cx k) 8) 0 84 (sub impl_chunksCode_c [1, 1, 0, 1, 0, 0])) impl_chunksCode_l0_cut K n (impl_chunksCode_l0_s a0 (IntKind.wrap .i64 (x3 + ((a0.getD (x8.toNat) []).length : Int))) (IntKind.wrap .i64 (x8 + (1 : Int)))))
 none)
 (K (.exit 0) (impl_chunksCode_l0_o0 a0 x3))) : Option (shDen impl_chunksCode_sh)) := by kernel_rfl

theorem impl_chunksCode_l0_exit0 (k : Nat)  (a0 : (List (List Int))) (x3 : Int) : ((blkK 0 (seqK (execK (impl_chunksCode_cx k) (callK (impl_chunksCode_cx k) 8) 0 84 (sub impl_chunksCode_c [1, 1, 1])) (finK (impl_chunksCode_cx k) impl_chunksCode_i impl_chunksCode_sh))) (.exit 0) (impl_chunksCode_l0_o0 a0 x3) : Option (shDen impl_chunksCode_sh)) =
 ((cond (decide ((4096 : Int) < x3))
 (some (3 : Int))
 (cond (decide ((4096 : Int) < (a0.length : Int)))
 (some (3 : Int))
 (some (0 : Int)))) : Option (shDen impl_chunksCode_sh)) := by kernel_rfl

theorem impl_chunksCode_l0_congr (ke0 : Int → Option (shDen impl_chunksCode_sh)) (ke0' : Int → Option (shDen impl_chunksCode_sh)) (a0 : (List (List Int))) (n : Nat) (x3 : Int) (x8 : Int) (hke0 : ∀ x3, ke0 x3 = ke0' x3) : impl_chunksCode_l0_L ke0 a0 n x3 x8 = impl_chunksCode_l0_L ke0' a0 n x3 x8 := by
 have : ke0 = ke0' := (by funext x3; exact hke0 x3); subst this; rfl

theorem impl_chunksCode_l0_L_eq (K : Ex → St → Option (shDen impl_chunksCode_sh)) (a0 : (List (List Int))) : ∀ (n : Nat) (x3 : Int) (x8 : Int), (loopK (impl_chunksCode_cx FUEL) 0 (execK (impl_chunksCode_cx FUEL) (callK (impl_chunksCode_cx FUEL) 8) 0 84 (sub impl_chunksCode_c [1, 1, 0, 1, 0, 0])) impl_chunksCode_l0_cut K n (impl_chunksCode_l0_s a0 x3 x8) : Option (shDen impl_chunksCode_sh)) = impl_chunksCode_l0_L (fun x3 => K (.exit 0) (impl_chunksCode_l0_o0 a0 x3)) a0 n x3 x8 := by
 intro n
 induction n with
 | zero => intros; rfl
 | succ n ih =>
  intro x3 x8
  exact (impl_chunksCode_l0_round FUEL K n a0 x3 x8).trans (condC (condC (ih (IntKind.wrap .i64 (x3 + ((a0.getD (x8.toNat) []).length : Int))) (IntKind.wrap .i64 (x8 + (1 : Int)))) (rfl)) (rfl))

theorem impl_chunksCode_start (k : Nat) (a0 : (List (List Int))) : fnK (impl_chunksCode_cx k) 8 84 impl_chunksCode_i impl_chunksCode_sh [.pv (.slice (.slice (.int .u8))) a0] =
 ((loopK (impl_chunksCode_cx k) 0 (execK (impl_chunksCode_cx k) (callK (impl_chunksCode_cx k) 8) 0 84 (sub impl_chunksCode_c [1, 1, 0, 1, 0, 0])) impl_chunksCode_l0_cut (blkK 0 (seqK (execK (impl_chunksCode_cx k) (callK (impl_chunksCode_cx k) 8) 0 84 (sub impl_chunksCode_c [1, 1, 1])) (finK (impl_chunksCode_cx k) impl_chunksCode_i impl_chunksCode_sh))) k (impl_chunksCode_l0_s a0 (0 : Int) (0 : Int))) : Option (shDen impl_chunksCode_sh)) := by kernel_rfl

theorem impl_chunksCode_run (a0 : (List (List Int))) : fnK (impl_chunksCode_cx FUEL) 8 84 impl_chunksCode_i impl_chunksCode_sh [.pv (.slice (.slice (.int .u8))) a0] = impl_chunksCode_r a0 :=
 (impl_chunksCode_start FUEL a0).trans ((impl_chunksCode_l0_L_eq _ a0 FUEL (0 : Int) (0 : Int)).trans (impl_chunksCode_l0_congr _ _ a0 FUEL (0 : Int) (0 : Int) (fun x3 => (impl_chunksCode_l0_exit0 FUEL  a0 x3).trans (rfl))))

noncomputable def impl_chunksCode_con : Con := { ps := (.pair (.slice (.slice (.int .u8))) .unit), sh := impl_chunksCode_sh, raw := fun x => impl_chunksCode_r x.1 }
theorem impl_chunksCode_conOk : ConOk Try.prog 84 impl_chunksCode_con := con_of_fn (impl_chunksCode_tabs FUEL) (depth := 8) impl_chunksCode_ok fun x y h => (impl_chunksCode_run x.1).trans h

noncomputable def slices_Concat_byte_byte_l0_cut : Cut := { keep := [0, 3, 9, 10, 11], stk := [], ids := [], own := [], outs := [(1, [0, 3], [])] }
noncomputable def slices_Concat_byte_byte_l1_cut : Cut := { keep := [6, 25, 26, 27], stk := [], ids := [90060], own := [(6, 90060, 25)], outs := [(3, [6], [90060])] }
noncomputable def slices_Concat_byte_byte_inls : List (Nat × Inl) := []
noncomputable def slices_Concat_byte_byte_cons : List (Nat × Con) := []
noncomputable def slices_Concat_byte_byte_taks : List (Nat × ConT) := [(96, slices_Grow_byte_byte_tak)]
noncomputable def slices_Concat_byte_byte_inps : List (Nat × ConI) := []
noncomputable def slices_Concat_byte_byte_cuts : List (Nat × List (Nat × Cut)) := [(59, [(0, slices_Concat_byte_byte_l0_cut), (2, slices_Concat_byte_byte_l1_cut)])]
noncomputable def slices_Concat_byte_byte_cx (k : Nat) : Cx := mkCx tys tbytes telem nozero (Ai.look slices_Concat_byte_byte_inls) (Ai.look slices_Concat_byte_byte_cons) (Ai.look slices_Concat_byte_byte_taks) (Ai.look slices_Concat_byte_byte_inps) (fun f id => match Ai.look slices_Concat_byte_byte_cuts f with | some l => Ai.look l id | none => none) k []
theorem slices_Concat_byte_byte_tabs (k : Nat) : TabsOk Try.prog (slices_Concat_byte_byte_cx k) := ⟨tab_mk tabs_ok _ _ _ _ _ _ _, look_all (Q := ConOk Try.prog) _ trivial, look_all (Q := TakOk Try.prog) _ ⟨slices_Grow_byte_byte_takOk, trivial⟩, look_all (Q := InpOk Try.prog) _ trivial, look_all (Q := InlOk Try.prog) _ trivial, mixed_ok⟩
abbrev slices_Concat_byte_byte_sh : List Sh := [.own 5 (.int .u8)]
noncomputable def slices_Concat_byte_byte_l0_s (a0 : (List (List Int))) (x3 : Int) (x11 : Int) : St := { env := [.pv (.slice (.slice (.int .u8))) a0, .dead, .dead, .pv (.int .i64) x3, .dead, .dead, .dead, .dead, .dead, .pv (.slice (.slice (.int .u8))) a0, .pv (.int .i64) (a0.length : Int), .pv (.int .i64) x11, .dead, .dead, .dead, .dead, .dead, .dead, .dead, .dead, .dead, .dead, .dead, .dead, .dead, .dead, .dead, .dead, .dead, .dead, .dead, .dead, .dead, .dead, .dead, .dead], stk := [], heap := [] }
noncomputable def slices_Concat_byte_byte_l0_o0 (a0 : (List (List Int))) (x3 : Int) : St := { env := [.pv (.slice (.slice (.int .u8))) a0, .dead, .dead, .pv (.int .i64) x3, .dead, .dead, .dead, .dead, .dead, .dead, .dead, .dead, .dead, .dead, .dead, .dead, .dead, .dead, .dead, .dead, .dead, .dead, .dead, .dead, .dead, .dead, .dead, .dead, .dead, .dead, .dead, .dead, .dead, .dead, .dead, .dead], stk := [], heap := [] }
noncomputable def slices_Concat_byte_byte_l1_s (a0 : (List (List Int))) (z90060 : (List Int)) (x27 : Int) : St := { env := [.dead, .dead, .dead, .dead, .dead, .dead, .sl 90060 (.int .u8), .dead, .dead, .dead, .dead, .dead, .dead, .dead, .dead, .dead, .dead, .dead, .dead, .dead, .dead, .dead, .dead, .dead, .dead, .pv (.slice (.slice (.int .u8))) a0, .pv (.int .i64) (a0.length : Int), .pv (.int .i64) x27, .dead, .dead, .dead, .dead, .dead, .dead, .dead, .dead], stk := [], heap := [(90060, .arr 5 (.int .u8) z90060)] }
noncomputable def slices_Concat_byte_byte_l1_o2 (z90060 : (List Int)) : St := { env := [.dead, .dead, .dead, .dead, .dead, .dead, .sl 90060 (.int .u8), .dead, .dead, .dead, .dead, .dead, .dead, .dead, .dead, .dead, .dead, .dead, .dead, .dead, .dead, .dead, .dead, .dead, .dead, .dead, .dead, .dead, .dead, .dead, .dead, .dead, .dead, .dead, .dead, .dead], stk := [], heap := [(90060, .arr 5 (.int .u8) z90060)] }
noncomputable def slices_Concat_byte_byte_l1_b (rec : (List Int) → Int → Option (shDen slices_Concat_byte_byte_sh)) (ke2 : (List Int) → Option (shDen slices_Concat_byte_byte_sh)) (a0 : (List (List Int))) (z90060 : (List Int)) (x27 : Int) : Option (shDen slices_Concat_byte_byte_sh) :=
 (cond (decide (x27 < (a0.length : Int)))
 (cond ((decide ((0 : Int) ≤ x27)) && (decide (x27 < (a0.length : Int))))
 (cond (decide ((z90060.length + (a0.getD (x27.toNat) []).length) * 1 ≤ 140737488355328) && decide (z90060.length + (a0.getD (x27.toNat) []).length ≤ 9223372036854775807))
 (rec (z90060 ++ (a0.getD (x27.toNat) [])) (IntKind.wrap .i64 (x27 + (1 : Int))))
 none)
 none)
 (ke2 z90060))
noncomputable def slices_Concat_byte_byte_l1_L (ke2 : (List Int) → Option (shDen slices_Concat_byte_byte_sh)) (a0 : (List (List Int))) : Nat → (List Int) → Int → Option (shDen slices_Concat_byte_byte_sh)
 | 0 => fun _ _ => none
 | n + 1 => slices_Concat_byte_byte_l1_b (slices_Concat_byte_byte_l1_L ke2 a0 n) ke2 a0
noncomputable def slices_Concat_byte_byte_l0_b (rec : Int → Int → Option (shDen slices_Concat_byte_byte_sh)) (ke0 : Int → Option (shDen slices_Concat_byte_byte_sh)) (a0 : (List (List Int))) (x3 : Int) (x11 : Int) : Option (shDen slices_Concat_byte_byte_sh) :=
 (cond (decide (x11 < (a0.length : Int)))
 (cond ((decide ((0 : Int) ≤ x11)) && (decide (x11 < (a0.length : Int))))
 (cond (decide ((IntKind.wrap .i64 (x3 + ((a0.getD (x11.toNat) []).length : Int))) < (0 : Int)))
 none
 (rec (IntKind.wrap .i64 (x3 + ((a0.getD (x11.toNat) []).length : Int))) (IntKind.wrap .i64 (x11 + (1 : Int)))))
 none)
 (ke0 x3))
noncomputable def slices_Concat_byte_byte_l0_L (ke0 : Int → Option (shDen slices_Concat_byte_byte_sh)) (a0 : (List (List Int))) : Nat → Int → Int → Option (shDen slices_Concat_byte_byte_sh)
 | 0 => fun _ _ => none
 | n + 1 => slices_Concat_byte_byte_l0_b (slices_Concat_byte_byte_l0_L ke0 a0 n) ke0 a0
noncomputable def slices_Concat_byte_byte_r (a0 : (List (List Int))) : Option (shDen slices_Concat_byte_byte_sh) :=
 (slices_Concat_byte_byte_l0_L (fun x3 => (bindO (slices_Grow_byte_byte_tr [] x3) fun (b1 : (List Int)) => (slices_Concat_byte_byte_l1_L (fun z90060 => (some z90060)) a0 FUEL b1 (0 : Int)))) a0 FUEL (0 : Int) (0 : Int))
theorem slices_Concat_byte_byte_l1_round (k : Nat) (K : Ex → St → Option (shDen slices_Concat_byte_byte_sh)) (n : Nat) (a0 : (List (List Int))) (z90060 : (List Int)) (x27 : Int) : (loopK (slices_Concat_byte_byte_cx k) 0 (execK (slices_Concat_byte_byte_cx k) (callK (slices_Concat_byte_byte_cx k) 8) 0 59 (sub slices_Concat_byte_byte_c [1, 1, 1, 1, 0, 1, 0, 0])) slices_Concat_byte_byte_l1_cut K (n + 1) (slices_Concat_byte_byte_l1_s a0 z90060 x27) : Option (shDen slices_Concat_byte_byte_sh)) =
 ((cond (decide (x27 < (a0.length : Int)))
 (cond ((decide ((0 : Int) ≤ x27)) && (decide (x27 < (a0.length : Int))))
 (cond (decide ((z90060.length + (a0.getD (x27.toNat) []).length) * 1 ≤ 140737488355328) && decide (z90060.length + (a0.getD (x27.toNat) []).length ≤ 9223372036854775807))
 (loopK (slices_Concat_byte_byte_cx k) 0 (execK (slices_Concat_byte_byte_cx k) (callK (slices_Concat_byte_byte_cx k) 8) 0 59 (sub slices_Concat_byte_byte_c [1, 1, 1, 1, 0, 1, 0, 0])) slices_Concat_byte_byte_l1_cut K n (slices_Concat_byte_byte_l1_s a0 (z90060 ++ (a0.getD (x27.toNat) [])) (IntKind.wrap .i64 (x27 + (1 : Int)))))
 none)
 none)
 (K (.exit 2) (slices_Concat_byte_byte_l1_o2 z90060))) : Option (shDen slices_Concat_byte_byte_sh)) := by kernel_rfl

theorem slices_Concat_byte_byte_l1_exit2 (k : Nat)  (z90060 : (List Int)) : ((blkK 2 (seqK (execK (slices_Concat_byte_byte_cx k) (callK (slices_Concat_byte_byte_cx k) 8) 0 59 (sub slices_Concat_byte_byte_c [1, 1, 1, 1, 1])) (finK (slices_Concat_byte_byte_cx k) slices_Concat_byte_byte_i slices_Concat_byte_byte_sh))) (.exit 2) (slices_Concat_byte_byte_l1_o2 z90060) : Option (shDen slices_Concat_byte_byte_sh)) =
 ((some z90060) : Option (shDen slices_Concat_byte_byte_sh)) := by kernel_rfl

theorem slices_Concat_byte_byte_l1_congr (ke2 : (List Int) → Option (shDen slices_Concat_byte_byte_sh)) (ke2' : (List Int) → Option (shDen slices_Concat_byte_byte_sh)) (a0 : (List (List Int))) (n : Nat) (z90060 : (List Int)) (x27 : Int) (hke2 : ∀ z90060, ke2 z90060 = ke2' z90060) : slices_Concat_byte_byte_l1_L ke2 a0 n z90060 x27 = slices_Concat_byte_byte_l1_L ke2' a0 n z90060 x27 := by
 have : ke2 = ke2' := (by funext z90060; exact hke2 z90060); subst this; rfl

theorem slices_Concat_byte_byte_l1_L_eq (K : Ex → St → Option (shDen slices_Concat_byte_byte_sh)) (a0 : (List (List Int))) : ∀ (n : Nat) (z90060 : (List Int)) (x27 : Int), (loopK (slices_Concat_byte_byte_cx FUEL) 0 (execK (slices_Concat_byte_byte_cx FUEL) (callK (slices_Concat_byte_byte_cx FUEL) 8) 0 59 (sub slices_Concat_byte_byte_c [1, 1, 1, 1, 0, 1, 0, 0])) slices_Concat_byte_byte_l1_cut K n (slices_Concat_byte_byte_l1_s a0 z90060 x27) : Option (shDen slices_Concat_byte_byte_sh)) = slices_Concat_byte_byte_l1_L (fun z90060 => K (.exit 2) (slices_Concat_byte_byte_l1_o2 z90060)) a0 n z90060 x27 := by
 intro n
 induction n with
 | zero => intros; rfl
 | succ n ih =>
  intro z90060 x27
  exact (slices_Concat_byte_byte_l1_round FUEL K n a0 z90060 x27).trans (condC (condC (condC (ih (z90060 ++ (a0.getD (x27.toNat) [])) (IntKind.wrap .i64 (x27 + (1 : Int)))) (rfl)) (rfl)) (rfl))

theorem slices_Concat_byte_byte_l0_round (k : Nat) (K : Ex → St → Option (shDen slices_Concat_byte_byte_sh)) (n : Nat) (a0 : (List (List Int))) (x3 : Int) (x11 : Int) : (loopK (slices_Concat_byte_byte_cx k) 0 (execK (slices_Concat_byte_byte_cx k) (callK (slices_Concat_byte_byte_cx k) 8) 0 59 (sub slices_Concat_byte_byte_c [1, 1, 0, 1, 0, 0])) slices_Concat_byte_byte_l0_cut K (n + 1) (slices_Concat_byte_byte_l0_s a0 x3 x11) : Option (shDen slices_Concat_byte_byte_sh)) =
 ((cond (decide (x11 < (a0.length : Int)))
 (cond ((decide ((0 : Int) ≤ x11)) && (decide (x11 < (a0.length : Int))))
 (cond (decide ((IntKind.wrap .i64 (x3 + ((a0.getD (x11.toNat) []).length : Int))) < (0 : Int)))
 none
 (loopK (slices_Concat_byte_byte_cx k) 0 (execK (slices_Concat_byte_byte_cx k) (callK (slices_Concat_byte_byte_cx k) 8) 0 59 (sub slices_Concat_byte_byte_c [1, 1, 0, 1, 0, 0])) slices_Concat_byte_byte_l0_cut K n (slices_Concat_byte_byte_l0_s a0 (IntKind.wrap .i64 (x3 + ((a0.getD (x11.toNat) []).length : Int))) (IntKind.wrap .i64 (x11 + (1 : Int))))))
 none)
 (K (.exit 0) (slices_Concat_byte_byte_l0_o0 a0 x3))) : Option (shDen slices_Concat_byte_byte_sh)) := by kernel_rfl

theorem slices_Concat_byte_byte_l0_exit0 (k : Nat)  (a0 : (List (List Int))) (x3 : Int) : ((blkK 0 (seqK (execK (slices_Concat_byte_byte_cx k) (callK (slices_Concat_byte_byte_cx k) 8) 0 59 (sub slices_Concat_byte_byte_c [1, 1, 1])) (finK (slices_Concat_byte_byte_cx k) slices_Concat_byte_byte_i slices_Concat_byte_byte_sh))) (.exit 0) (slices_Concat_byte_byte_l0_o0 a0 x3) : Option (shDen slices_Concat_byte_byte_sh)) =
 ((bindO (slices_Grow_byte_byte_tr [] x3) fun (b1 : (List Int)) => (loopK (slices_Concat_byte_byte_cx k) 0 (execK (slices_Concat_byte_byte_cx k) (callK (slices_Concat_byte_byte_cx k) 8) 0 59 (sub slices_Concat_byte_byte_c [1, 1, 1, 1, 0, 1, 0, 0])) slices_Concat_byte_byte_l1_cut (blkK 2 (seqK (execK (slices_Concat_byte_byte_cx k) (callK (slices_Concat_byte_byte_cx k) 8) 0 59 (sub slices_Concat_byte_byte_c [1, 1, 1, 1, 1])) (finK (slices_Concat_byte_byte_cx k) slices_Concat_byte_byte_i slices_Concat_byte_byte_sh))) k (slices_Concat_byte_byte_l1_s a0 b1 (0 : Int)))) : Option (shDen slices_Concat_byte_byte_sh)) := by kernel_rfl

theorem slices_Concat_byte_byte_l0_congr (ke0 : Int → Option (shDen slices_Concat_byte_byte_sh)) (ke0' : Int → Option (shDen slices_Concat_byte_byte_sh)) (a0 : (List (List Int))) (n : Nat) (x3 : Int) (x11 : Int) (hke0 : ∀ x3, ke0 x3 = ke0' x3) : slices_Concat_byte_byte_l0_L ke0 a0 n x3 x11 = slices_Concat_byte_byte_l0_L ke0' a0 n x3 x11 := by
 have : ke0 = ke0' := (by funext x3; exact hke0 x3); subst this; rfl

theorem slices_Concat_byte_byte_l0_L_eq (K : Ex → St → Option (shDen slices_Concat_byte_byte_sh)) (a0 : (List (List Int))) : ∀ (n : Nat) (x3 : Int) (x11 : Int), (loopK (slices_Concat_byte_byte_cx FUEL) 0 (execK (slices_Concat_byte_byte_cx FUEL) (callK (slices_Concat_byte_byte_cx FUEL) 8) 0 59 (sub slices_Concat_byte_byte_c [1, 1, 0, 1, 0, 0])) slices_Concat_byte_byte_l0_cut K n (slices_Concat_byte_byte_l0_s a0 x3 x11) : Option (shDen slices_Concat_byte_byte_sh)) = slices_Concat_byte_byte_l0_L (fun x3 => K (.exit 0) (slices_Concat_byte_byte_l0_o0 a0 x3)) a0 n x3 x11 := by
 intro n
 induction n with
 | zero => intros; rfl
 | succ n ih =>
  intro x3 x11
  exact (slices_Concat_byte_byte_l0_round FUEL K n a0 x3 x11).trans (condC (condC (condC (rfl) (ih (IntKind.wrap .i64 (x3 + ((a0.getD (x11.toNat) []).length : Int))) (IntKind.wrap .i64 (x11 + (1 : Int))))) (rfl)) (rfl))

theorem slices_Concat_byte_byte_start (k : Nat) (a0 : (List (List Int))) : fnK (slices_Concat_byte_byte_cx k) 8 59 slices_Concat_byte_byte_i slices_Concat_byte_byte_sh [.pv (.slice (.slice (.int .u8))) a0] =
 ((loopK (slices_Concat_byte_byte_cx k) 0 (execK (slices_Concat_byte_byte_cx k) (callK (slices_Concat_byte_byte_cx k) 8) 0 59 (sub slices_Concat_byte_byte_c [1, 1, 0, 1, 0, 0])) slices_Concat_byte_byte_l0_cut (blkK 0 (seqK (execK (slices_Concat_byte_byte_cx k) (callK (slices_Concat_byte_byte_cx k) 8) 0 59 (sub slices_Concat_byte_byte_c [1, 1, 1])) (finK (slices_Concat_byte_byte_cx k) slices_Concat_byte_byte_i slices_Concat_byte_byte_sh))) k (slices_Concat_byte_byte_l0_s a0 (0 : Int) (0 : Int))) : Option (shDen slices_Concat_byte_byte_sh)) := by kernel_rfl

theorem slices_Concat_byte_byte_run (a0 : (List (List Int))) : fnK (slices_Concat_byte_byte_cx FUEL) 8 59 slices_Concat_byte_byte_i slices_Concat_byte_byte_sh [.pv (.slice (.slice (.int .u8))) a0] = slices_Concat_byte_byte_r a0 :=
 (slices_Concat_byte_byte_start FUEL a0).trans ((slices_Concat_byte_byte_l0_L_eq _ a0 FUEL (0 : Int) (0 : Int)).trans (slices_Concat_byte_byte_l0_congr _ _ a0 FUEL (0 : Int) (0 : Int) (fun x3 => (slices_Concat_byte_byte_l0_exit0 FUEL  a0 x3).trans (bindC (fun b1 => (slices_Concat_byte_byte_l1_L_eq _ a0 FUEL b1 (0 : Int)).trans (slices_Concat_byte_byte_l1_congr _ _ a0 FUEL b1 (0 : Int) (fun z90060 => (slices_Concat_byte_byte_l1_exit2 FUEL  z90060).trans (rfl))))))))

noncomputable def slices_Concat_byte_byte_con : Con := { ps := (.pair (.slice (.slice (.int .u8))) .unit), sh := slices_Concat_byte_byte_sh, raw := fun x => slices_Concat_byte_byte_r x.1 }
theorem slices_Concat_byte_byte_conOk : ConOk Try.prog 59 slices_Concat_byte_byte_con := con_of_fn (slices_Concat_byte_byte_tabs FUEL) (depth := 8) slices_Concat_byte_byte_ok fun x y h => (slices_Concat_byte_byte_run x.1).trans h

noncomputable def impl_JoinChunks_inls : List (Nat × Inl) := []
noncomputable def impl_JoinChunks_cons : List (Nat × Con) := [(59, slices_Concat_byte_byte_con), (84, impl_chunksCode_con)]
noncomputable def impl_JoinChunks_taks : List (Nat × ConT) := []
noncomputable def impl_JoinChunks_inps : List (Nat × ConI) := []
noncomputable def impl_JoinChunks_cuts : List (Nat × List (Nat × Cut)) := []
noncomputable def impl_JoinChunks_cx (k : Nat) : Cx := mkCx tys tbytes telem nozero (Ai.look impl_JoinChunks_inls) (Ai.look impl_JoinChunks_cons) (Ai.look impl_JoinChunks_taks) (Ai.look impl_JoinChunks_inps) (fun f id => match Ai.look impl_JoinChunks_cuts f with | some l => Ai.look l id | none => none) k []
theorem impl_JoinChunks_tabs (k : Nat) : TabsOk Try.prog (impl_JoinChunks_cx k) := ⟨tab_mk tabs_ok _ _ _ _ _ _ _, look_all (Q := ConOk Try.prog) _ ⟨slices_Concat_byte_byte_conOk, impl_chunksCode_conOk, trivial⟩, look_all (Q := TakOk Try.prog) _ trivial, look_all (Q := InpOk Try.prog) _ trivial, look_all (Q := InlOk Try.prog) _ trivial, mixed_ok⟩
abbrev impl_JoinChunks_sh : List Sh := [.own 5 (.int .u8), .pl (.int .i64)]
noncomputable def impl_JoinChunks_r (a0 : (List (List Int))) : Option (shDen impl_JoinChunks_sh) :=
 (bindO (impl_chunksCode_r a0) fun (b1 : Int) => (cond (!(decide (b1 = (0 : Int))))
 (some ([], b1))
 (bindO (slices_Concat_byte_byte_r a0) fun (b2 : (List Int)) => (some (b2, (0 : Int))))))
theorem impl_JoinChunks_start (k : Nat) (a0 : (List (List Int))) : fnK (impl_JoinChunks_cx k) 8 43 impl_JoinChunks_i impl_JoinChunks_sh [.pv (.slice (.slice (.int .u8))) a0] =
 ((bindO (impl_chunksCode_r a0) fun (b1 : Int) => (cond (!(decide (b1 = (0 : Int))))
 (some ([], b1))
 (bindO (slices_Concat_byte_byte_r a0) fun (b2 : (List Int)) => (some (b2, (0 : Int)))))) : Option (shDen impl_JoinChunks_sh)) := by kernel_rfl

theorem impl_JoinChunks_run (a0 : (List (List Int))) : fnK (impl_JoinChunks_cx FUEL) 8 43 impl_JoinChunks_i impl_JoinChunks_sh [.pv (.slice (.slice (.int .u8))) a0] = impl_JoinChunks_r a0 :=
 (impl_JoinChunks_start FUEL a0).trans (rfl)

noncomputable def impl_JoinChunks_con : Con := { ps := (.pair (.slice (.slice (.int .u8))) .unit), sh := impl_JoinChunks_sh, raw := fun x => impl_JoinChunks_r x.1 }
theorem impl_JoinChunks_conOk : ConOk Try.prog 43 impl_JoinChunks_con := con_of_fn (impl_JoinChunks_tabs FUEL) (depth := 8) impl_JoinChunks_ok fun x y h => (impl_JoinChunks_run x.1).trans h

noncomputable def impl_size_byte_inls : List (Nat × Inl) := []
noncomputable def impl_size_byte_cons : List (Nat × Con) := []
noncomputable def impl_size_byte_taks : List (Nat × ConT) := []
noncomputable def impl_size_byte_inps : List (Nat × ConI) := []
noncomputable def impl_size_byte_cuts : List (Nat × List (Nat × Cut)) := []
noncomputable def impl_size_byte_cx (k : Nat) : Cx := mkCx tys tbytes telem nozero (Ai.look impl_size_byte_inls) (Ai.look impl_size_byte_cons) (Ai.look impl_size_byte_taks) (Ai.look impl_size_byte_inps) (fun f id => match Ai.look impl_size_byte_cuts f with | some l => Ai.look l id | none => none) k []
theorem impl_size_byte_tabs (k : Nat) : TabsOk Try.prog (impl_size_byte_cx k) := ⟨tab_mk tabs_ok _ _ _ _ _ _ _, look_all (Q := ConOk Try.prog) _ trivial, look_all (Q := TakOk Try.prog) _ trivial, look_all (Q := InpOk Try.prog) _ trivial, look_all (Q := InlOk Try.prog) _ trivial, mixed_ok⟩
abbrev impl_size_byte_sh : List Sh := [.pl (.int .i64)]
noncomputable def impl_size_byte_r (a0 : (List Int)) : Option (shDen impl_size_byte_sh) :=
 (some (a0.length : Int))
theorem impl_size_byte_start (k : Nat) (a0 : (List Int)) : fnK (impl_size_byte_cx k) 8 68 impl_size_byte_i impl_size_byte_sh [.pv (.slice (.int .u8)) a0] =
 ((some (a0.length : Int)) : Option (shDen impl_size_byte_sh)) := by kernel_rfl

theorem impl_size_byte_run (a0 : (List Int)) : fnK (impl_size_byte_cx FUEL) 8 68 impl_size_byte_i impl_size_byte_sh [.pv (.slice (.int .u8)) a0] = impl_size_byte_r a0 :=
 (impl_size_byte_start FUEL a0).trans (rfl)

noncomputable def impl_size_byte_con : Con := { ps := (.pair (.slice (.int .u8)) .unit), sh := impl_size_byte_sh, raw := fun x => impl_size_byte_r x.1 }
theorem impl_size_byte_conOk : ConOk Try.prog 68 impl_size_byte_con := con_of_fn (impl_size_byte_tabs FUEL) (depth := 8) impl_size_byte_ok fun x y h => (impl_size_byte_run x.1).trans h

noncomputable def impl_CutPlaces_l0_cut : Cut := { keep := [7, 8, 21, 22, 23], stk := [], ids := [210, 90070], own := [(7, 90070, 71)], outs := [(1, [7], [90070])] }
noncomputable def impl_CutPlaces_inls : List (Nat × Inl) := []
noncomputable def impl_CutPlaces_cons : List (Nat × Con) := [(65, impl_ruleCode_con), (66, impl_CutRule_chunks_con), (68, impl_size_byte_con)]
noncomputable def impl_CutPlaces_taks : List (Nat × ConT) := []
noncomputable def impl_CutPlaces_inps : List (Nat × ConI) := []
noncomputable def impl_CutPlaces_cuts : List (Nat × List (Nat × Cut)) := [(44, [(0, impl_CutPlaces_l0_cut)])]
noncomputable def impl_CutPlaces_cx (k : Nat) : Cx := mkCx tys tbytes telem nozero (Ai.look impl_CutPlaces_inls) (Ai.look impl_CutPlaces_cons) (Ai.look impl_CutPlaces_taks) (Ai.look impl_CutPlaces_inps) (fun f id => match Ai.look impl_CutPlaces_cuts f with | some l => Ai.look l id | none => none) k []
theorem impl_CutPlaces_tabs (k : Nat) : TabsOk Try.prog (impl_CutPlaces_cx k) := ⟨tab_mk tabs_ok _ _ _ _ _ _ _, look_all (Q := ConOk Try.prog) _ ⟨impl_ruleCode_conOk, impl_CutRule_chunks_conOk, impl_size_byte_conOk, trivial⟩, look_all (Q := TakOk Try.prog) _ trivial, look_all (Q := InpOk Try.prog) _ trivial, look_all (Q := InlOk Try.prog) _ trivial, mixed_ok⟩
abbrev impl_CutPlaces_sh : List Sh := [.own 2 (.int .i64), .pl (.int .i64)]
noncomputable def impl_CutPlaces_l0_s (x22 : Int) (z210 : (List (List Int))) (x8 : Int) (x23 : Int) (z90070 : (List Int)) : St := { env := [.dead, .dead, .dead, .dead, .dead, .dead, .dead, .sl 90070 (.int .i64), .pv (.int .i64) x8, .dead, .dead, .dead, .dead, .dead, .dead, .dead, .dead, .dead, .dead, .dead, .dead, .sl 210 (.slice (.int .u8)), .pv (.int .i64) x22, .pv (.int .i64) x23, .dead, .dead, .dead, .dead, .dead, .dead, .dead, .dead, .dead, .dead, .dead, .dead, .dead], stk := [], heap := [(210, .arr 25 (.slice (.int .u8)) z210), (90070, .arr 2 (.int .i64) z90070)] }
noncomputable def impl_CutPlaces_l0_o0 (z90070 : (List Int)) : St := { env := [.dead, .dead, .dead, .dead, .dead, .dead, .dead, .sl 90070 (.int .i64), .dead, .dead, .dead, .dead, .dead, .dead, .dead, .dead, .dead, .dead, .dead, .dead, .dead, .dead, .dead, .dead, .dead, .dead, .dead, .dead, .dead, .dead, .dead, .dead, .dead, .dead, .dead, .dead, .dead], stk := [], heap := [(90070, .arr 2 (.int .i64) z90070)] }
noncomputable def impl_CutPlaces_l0_b (rec : Int → (List (List Int)) → Int → Int → (List Int) → Option (shDen impl_CutPlaces_sh)) (ke0 : (List Int) → Option (shDen impl_CutPlaces_sh)) (x22 : Int) (z210 : (List (List Int))) (x8 : Int) (x23 : Int) (z90070 : (List Int)) : Option (shDen impl_CutPlaces_sh) :=
 (cond (decide (x23 < x22))
 (cond ((decide ((0 : Int) ≤ x23)) && (decide (x23 < (z210.length : Int))))
 (bindO (impl_size_byte_r (z210.getD (x23.toNat) [])) fun (b4 : Int) => (cond (decide ((z90070.length + 1) * 8 ≤ 140737488355328) && decide (z90070.length + 1 ≤ 9223372036854775807))
 (rec x22 z210 (IntKind.wrap .i64 (x8 + b4)) (IntKind.wrap .i64 (x23 + (1 : Int))) (z90070 ++ [(IntKind.wrap .i64 (x8 + b4))]))
 none))
 none)
 (ke0 z90070))
noncomputable def impl_CutPlaces_l0_L (ke0 : (List Int) → Option (shDen impl_CutPlaces_sh))  : Nat → Int → (List (List Int)) → Int → Int → (List Int) → Option (shDen impl_CutPlaces_sh)
 | 0 => fun _ _ _ _ _ => none
 | n + 1 => impl_CutPlaces_l0_b (impl_CutPlaces_l0_L ke0  n) ke0 
noncomputable def impl_CutPlaces_r (a0 : (Int × (Int × (Int × Unit)))) (a1 : (List Int)) : Option (shDen impl_CutPlaces_sh) :=
 (bindO (impl_ruleCode_r a0 [a1]) fun (b1 : Int) => (cond (!(decide (b1 = (0 : Int))))
 (some ([], b1))
 (bindO (impl_CutRule_chunks_r a0 a1) fun (b2 : (List (List Int))) => (impl_CutPlaces_l0_L (fun z90070 => (some (z90070, (0 : Int)))) FUEL (b2.length : Int) b2 (0 : Int) (0 : Int) []))))
theorem impl_CutPlaces_l0_round (k : Nat) (K : Ex → St → Option (shDen impl_CutPlaces_sh)) (n : Nat) (x22 : Int) (z210 : (List (List Int))) (x8 : Int) (x23 : Int) (z90070 : (List Int)) : (loopK (impl_CutPlaces_cx k) 0 (execK (impl_CutPlaces_cx k) (callK (impl_CutPlaces_cx k) 8) 0 44 (sub impl_CutPlaces_c [1, 1, 1, 0, 1, 0, 0])) impl_CutPlaces_l0_cut K (n + 1) (impl_CutPlaces_l0_s x22 z210 x8 x23 z90070) : Option (shDen impl_CutPlaces_sh)) =
 ((cond (decide (x23 < x22))
 (cond ((decide ((0 : Int) ≤ x23)) && (decide (x23 < (z210.length : Int))))
 (bindO (impl_size_byte_r (z210.getD (x23.toNat) [])) fun (b4 : Int) => (cond (decide ((z90070.length + 1) * 8 ≤ 140737488355328) && decide (z90070.length + 1 ≤ 9223372036854775807))
 (loopK (impl_CutPlaces_cx k) 0 (execK (impl_CutPlaces_cx k) (callK (impl_CutPlaces_cx k) 8) 0 44 (sub impl_CutPlaces_c [1, 1, 1, 0, 1, 0, 0])) impl_CutPlaces_l0_cut K n (impl_CutPlaces_l0_s x22 z210 (IntKind.wrap .i64 (x8 + b4)) (IntKind.wrap .i64 (x23 + (1 : Int))) (z90070 ++ [(IntKind.wrap .i64 (x8 + b4))])))
 none))
 none)
 (K (.exit 0) (impl_CutPlaces_l0_o0 z90070))) : Option (shDen impl_CutPlaces_sh)) := by kernel_rfl

theorem impl_CutPlaces_l0_exit0 (k : Nat)  (z90070 : (List Int)) : ((blkK 0 (seqK (execK (impl_CutPlaces_cx k) (callK (impl_CutPlaces_cx k) 8) 0 44 (sub impl_CutPlaces_c [1, 1, 1, 1])) (finK (impl_CutPlaces_cx k) impl_CutPlaces_i impl_CutPlaces_sh))) (.exit 0) (impl_CutPlaces_l0_o0 z90070) : Option (shDen impl_CutPlaces_sh)) =
 ((some (z90070, (0 : Int))) : Option (shDen impl_CutPlaces_sh)) := by kernel_rfl

theorem impl_CutPlaces_l0_congr (ke0 : (List Int) → Option (shDen impl_CutPlaces_sh)) (ke0' : (List Int) → Option (shDen impl_CutPlaces_sh))  (n : Nat) (x22 : Int) (z210 : (List (List Int))) (x8 : Int) (x23 : Int) (z90070 : (List Int)) (hke0 : ∀ z90070, ke0 z90070 = ke0' z90070) : impl_CutPlaces_l0_L ke0  n x22 z210 x8 x23 z90070 = impl_CutPlaces_l0_L ke0'  n x22 z210 x8 x23 z90070 := by
 have : ke0 = ke0' := (by funext z90070; exact hke0 z90070); subst this; rfl

theorem impl_CutPlaces_l0_L_eq (K : Ex → St → Option (shDen impl_CutPlaces_sh))  : ∀ (n : Nat) (x22 : Int) (z210 : (List (List Int))) (x8 : Int) (x23 : Int) (z90070 : (List Int)), (loopK (impl_CutPlaces_cx FUEL) 0 (execK (impl_CutPlaces_cx FUEL) (callK (impl_CutPlaces_cx FUEL) 8) 0 44 (sub impl_CutPlaces_c [1, 1, 1, 0, 1, 0, 0])) impl_CutPlaces_l0_cut K n (impl_CutPlaces_l0_s x22 z210 x8 x23 z90070) : Option (shDen impl_CutPlaces_sh)) = impl_CutPlaces_l0_L (fun z90070 => K (.exit 0) (impl_CutPlaces_l0_o0 z90070))  n x22 z210 x8 x23 z90070 := by
 intro n
 induction n with
 | zero => intros; rfl
 | succ n ih =>
  intro x22 z210 x8 x23 z90070
  exact (impl_CutPlaces_l0_round FUEL K n  x22 z210 x8 x23 z90070).trans (condC (condC (bindC (fun b4 => condC (ih x22 z210 (IntKind.wrap .i64 (x8 + b4)) (IntKind.wrap .i64 (x23 + (1 : Int))) (z90070 ++ [(IntKind.wrap .i64 (x8 + b4))])) (rfl))) (rfl)) (rfl))

theorem impl_CutPlaces_start (k : Nat) (a0 : (Int × (Int × (Int × Unit)))) (a1 : (List Int)) : fnK (impl_CutPlaces_cx k) 8 44 impl_CutPlaces_i impl_CutPlaces_sh [.pv (.pair (.int .i64) (.pair (.int .i64) (.pair (.int .i64) .unit))) a0, .pv (.slice (.int .u8)) a1] =
 ((bindO (impl_ruleCode_r a0 [a1]) fun (b1 : Int) => (cond (!(decide (b1 = (0 : Int))))
 (some ([], b1))
 (bindO (impl_CutRule_chunks_r a0 a1) fun (b2 : (List (List Int))) => (loopK (impl_CutPlaces_cx k) 0 (execK (impl_CutPlaces_cx k) (callK (impl_CutPlaces_cx k) 8) 0 44 (sub impl_CutPlaces_c [1, 1, 1, 0, 1, 0, 0])) impl_CutPlaces_l0_cut (blkK 0 (seqK (execK (impl_CutPlaces_cx k) (callK (impl_CutPlaces_cx k) 8) 0 44 (sub impl_CutPlaces_c [1, 1, 1, 1])) (finK (impl_CutPlaces_cx k) impl_CutPlaces_i impl_CutPlaces_sh))) k (impl_CutPlaces_l0_s (b2.length : Int) b2 (0 : Int) (0 : Int) []))))) : Option (shDen impl_CutPlaces_sh)) := by kernel_rfl

theorem impl_CutPlaces_run (a0 : (Int × (Int × (Int × Unit)))) (a1 : (List Int)) : fnK (impl_CutPlaces_cx FUEL) 8 44 impl_CutPlaces_i impl_CutPlaces_sh [.pv (.pair (.int .i64) (.pair (.int .i64) (.pair (.int .i64) .unit))) a0, .pv (.slice (.int .u8)) a1] = impl_CutPlaces_r a0 a1 :=
 (impl_CutPlaces_start FUEL a0 a1).trans (bindC (fun b1 => condC (rfl) (bindC (fun b2 => (impl_CutPlaces_l0_L_eq _  FUEL (b2.length : Int) b2 (0 : Int) (0 : Int) []).trans (impl_CutPlaces_l0_congr _ _  FUEL (b2.length : Int) b2 (0 : Int) (0 : Int) [] (fun z90070 => (impl_CutPlaces_l0_exit0 FUEL  z90070).trans (rfl)))))))

noncomputable def impl_CutPlaces_con : Con := { ps := (.pair (.pair (.int .i64) (.pair (.int .i64) (.pair (.int .i64) .unit))) (.pair (.slice (.int .u8)) .unit)), sh := impl_CutPlaces_sh, raw := fun x => impl_CutPlaces_r x.1 x.2.1 }
theorem impl_CutPlaces_conOk : ConOk Try.prog 44 impl_CutPlaces_con := con_of_fn (impl_CutPlaces_tabs FUEL) (depth := 8) impl_CutPlaces_ok fun x y h => (impl_CutPlaces_run x.1 x.2.1).trans h

noncomputable def spec_l01Bytes_l0_cut : Cut := { keep := [0, 1, 5], stk := [], ids := [], own := [], outs := [(0, [4], []), (1, [], [])] }
noncomputable def spec_l01Bytes_inls : List (Nat × Inl) := []
noncomputable def spec_l01Bytes_cons : List (Nat × Con) := []
noncomputable def spec_l01Bytes_taks : List (Nat × ConT) := []
noncomputable def spec_l01Bytes_inps : List (Nat × ConI) := []
noncomputable def spec_l01Bytes_cuts : List (Nat × List (Nat × Cut)) := [(85, [(0, spec_l01Bytes_l0_cut)])]
noncomputable def spec_l01Bytes_cx (k : Nat) : Cx := mkCx tys tbytes telem nozero (Ai.look spec_l01Bytes_inls) (Ai.look spec_l01Bytes_cons) (Ai.look spec_l01Bytes_taks) (Ai.look spec_l01Bytes_inps) (fun f id => match Ai.look spec_l01Bytes_cuts f with | some l => Ai.look l id | none => none) k []
theorem spec_l01Bytes_tabs (k : Nat) : TabsOk Try.prog (spec_l01Bytes_cx k) := ⟨tab_mk tabs_ok _ _ _ _ _ _ _, look_all (Q := ConOk Try.prog) _ trivial, look_all (Q := TakOk Try.prog) _ trivial, look_all (Q := InpOk Try.prog) _ trivial, look_all (Q := InlOk Try.prog) _ trivial, mixed_ok⟩
abbrev spec_l01Bytes_sh : List Sh := [.pl .bool]
noncomputable def spec_l01Bytes_l0_s (a0 : (List Int)) (a1 : (List Int)) (x5 : Int) : St := { env := [.pv (.slice (.int .u8)) a0, .pv (.slice (.int .u8)) a1, .dead, .dead, .dead, .pv (.int .i64) x5, .dead, .dead, .dead, .dead, .dead, .dead, .dead, .dead, .dead, .dead, .dead, .dead, .dead, .dead, .dead, .dead, .dead, .dead, .dead, .dead], stk := [], heap := [] }
noncomputable def spec_l01Bytes_l0_o  : St := { env := [.dead, .dead, .dead, .dead, .pv .bool false, .dead, .dead, .dead, .dead, .dead, .dead, .dead, .dead, .dead, .dead, .dead, .dead, .dead, .dead, .dead, .dead, .dead, .dead, .dead, .dead, .dead], stk := [], heap := [] }
noncomputable def spec_l01Bytes_l0_o0  : St := { env := [.dead, .dead, .dead, .dead, .dead, .dead, .dead, .dead, .dead, .dead, .dead, .dead, .dead, .dead, .dead, .dead, .dead, .dead, .dead, .dead, .dead, .dead, .dead, .dead, .dead, .dead], stk := [], heap := [] }
noncomputable def spec_l01Bytes_l0_b (rec : Int → Option (shDen spec_l01Bytes_sh)) (kr : Option (shDen spec_l01Bytes_sh)) (ke0 : Option (shDen spec_l01Bytes_sh)) (a0 : (List Int)) (a1 : (List Int)) (x5 : Int) : Option (shDen spec_l01Bytes_sh) :=
 (cond (decide (x5 < (a0.length : Int)))
 (cond ((decide ((0 : Int) ≤ x5)) && (decide (x5 < (a0.length : Int))))
 (cond ((decide ((0 : Int) ≤ x5)) && (decide (x5 < (a1.length : Int))))
 (cond (!(decide ((a0.getD (x5.toNat) (0 : Int)) = (a1.getD (x5.toNat) (0 : Int)))))
 (kr)
 (rec (IntKind.wrap .i64 (x5 + (1 : Int)))))
 none)
 none)
 (ke0))
noncomputable def spec_l01Bytes_l0_L (kr : Option (shDen spec_l01Bytes_sh)) (ke0 : Option (shDen spec_l01Bytes_sh)) (a0 : (List Int)) (a1 : (List Int)) : Nat → Int → Option (shDen spec_l01Bytes_sh)
 | 0 => fun _ => none
 | n + 1 => spec_l01Bytes_l0_b (spec_l01Bytes_l0_L kr ke0 a0 a1 n) kr ke0 a0 a1
noncomputable def spec_l01Bytes_r (a0 : (List Int)) (a1 : (List Int)) : Option (shDen spec_l01Bytes_sh) :=
 (cond (!(decide ((a0.length : Int) = (a1.length : Int))))
 (some false)
 (spec_l01Bytes_l0_L (some false) (some true) a0 a1 FUEL (0 : Int)))
theorem spec_l01Bytes_l0_round (k : Nat) (K : Ex → St → Option (shDen spec_l01Bytes_sh)) (n : Nat) (a0 : (List Int)) (a1 : (List Int)) (x5 : Int) : (loopK (spec_l01Bytes_cx k) 0 (execK (spec_l01Bytes_cx k) (callK (spec_l01Bytes_cx k) 8) 0 85 (sub spec_l01Bytes_c [1, 1, 0, 1, 0, 0])) spec_l01Bytes_l0_cut K (n + 1) (spec_l01Bytes_l0_s a0 a1 x5) : Option (shDen spec_l01Bytes_sh)) =
 ((cond (decide (x5 < (a0.length : Int)))
 (cond ((decide ((0 : Int) ≤ x5)) && (decide (x5 < (a0.length : Int))))
 (cond ((decide ((0 : Int) ≤ x5)) && (decide (x5 < (a1.length : Int))))
 (cond (!(decide ((a0.getD (x5.toNat) (0 : Int)) = (a1.getD (x5.toNat) (0 : Int)))))
 (K .ret (spec_l01Bytes_l0_o ))
 (loopK (spec_l01Bytes_cx k) 0 (execK (spec_l01Bytes_cx k) (callK (spec_l01Bytes_cx k) 8) 0 85 (sub spec_l01Bytes_c [1, 1, 0, 1, 0, 0])) spec_l01Bytes_l0_cut K n (spec_l01Bytes_l0_s a0 a1 (IntKind.wrap .i64 (x5 + (1 : Int))))))
 none)
 none)
 (K (.exit 0) (spec_l01Bytes_l0_o0 ))) : Option (shDen spec_l01Bytes_sh)) := by kernel_rfl

theorem spec_l01Bytes_l0_ret (k : Nat)   : ((blkK 0 (seqK (execK (spec_l01Bytes_cx k) (callK (spec_l01Bytes_cx k) 8) 0 85 (sub spec_l01Bytes_c [1, 1, 1])) (finK (spec_l01Bytes_cx k) spec_l01Bytes_i spec_l01Bytes_sh))) .ret (spec_l01Bytes_l0_o) : Option (shDen spec_l01Bytes_sh)) =
 ((some false) : Option (shDen spec_l01Bytes_sh)) := by kernel_rfl

theorem spec_l01Bytes_l0_exit0 (k : Nat)   : ((blkK 0 (seqK (execK (spec_l01Bytes_cx k) (callK (spec_l01Bytes_cx k) 8) 0 85 (sub spec_l01Bytes_c [1, 1, 1])) (finK (spec_l01Bytes_cx k) spec_l01Bytes_i spec_l01Bytes_sh))) (.exit 0) (spec_l01Bytes_l0_o0) : Option (shDen spec_l01Bytes_sh)) =
 ((some true) : Option (shDen spec_l01Bytes_sh)) := by kernel_rfl

theorem spec_l01Bytes_l0_congr (kr : Option (shDen spec_l01Bytes_sh)) (ke0 : Option (shDen spec_l01Bytes_sh)) (kr' : Option (shDen spec_l01Bytes_sh)) (ke0' : Option (shDen spec_l01Bytes_sh)) (a0 : (List Int)) (a1 : (List Int)) (n : Nat) (x5 : Int) (hkr : ∀ (_ : Unit), kr  = kr' ) (hke0 : ∀ (_ : Unit), ke0  = ke0' ) : spec_l01Bytes_l0_L kr ke0 a0 a1 n x5 = spec_l01Bytes_l0_L kr' ke0' a0 a1 n x5 := by
 have : kr = kr' := hkr (); subst this; have : ke0 = ke0' := hke0 (); subst this; rfl

theorem spec_l01Bytes_l0_L_eq (K : Ex → St → Option (shDen spec_l01Bytes_sh)) (a0 : (List Int)) (a1 : (List Int)) : ∀ (n : Nat) (x5 : Int), (loopK (spec_l01Bytes_cx FUEL) 0 (execK (spec_l01Bytes_cx FUEL) (callK (spec_l01Bytes_cx FUEL) 8) 0 85 (sub spec_l01Bytes_c [1, 1, 0, 1, 0, 0])) spec_l01Bytes_l0_cut K n (spec_l01Bytes_l0_s a0 a1 x5) : Option (shDen spec_l01Bytes_sh)) = spec_l01Bytes_l0_L (K .ret (spec_l01Bytes_l0_o)) (K (.exit 0) (spec_l01Bytes_l0_o0)) a0 a1 n x5 := by
 intro n
 induction n with
 | zero => intros; rfl
 | succ n ih =>
  intro x5
  exact (spec_l01Bytes_l0_round FUEL K n a0 a1 x5).trans (condC (condC (condC (condC (rfl) (ih (IntKind.wrap .i64 (x5 + (1 : Int))))) (rfl)) (rfl)) (rfl))

theorem spec_l01Bytes_start (k : Nat) (a0 : (List Int)) (a1 : (List Int)) : fnK (spec_l01Bytes_cx k) 8 85 spec_l01Bytes_i spec_l01Bytes_sh [.pv (.slice (.int .u8)) a0, .pv (.slice (.int .u8)) a1] =
 ((cond (!(decide ((a0.length : Int) = (a1.length : Int))))
 (some false)
 (loopK (spec_l01Bytes_cx k) 0 (execK (spec_l01Bytes_cx k) (callK (spec_l01Bytes_cx k) 8) 0 85 (sub spec_l01Bytes_c [1, 1, 0, 1, 0, 0])) spec_l01Bytes_l0_cut (blkK 0 (seqK (execK (spec_l01Bytes_cx k) (callK (spec_l01Bytes_cx k) 8) 0 85 (sub spec_l01Bytes_c [1, 1, 1])) (finK (spec_l01Bytes_cx k) spec_l01Bytes_i spec_l01Bytes_sh))) k (spec_l01Bytes_l0_s a0 a1 (0 : Int)))) : Option (shDen spec_l01Bytes_sh)) := by kernel_rfl

theorem spec_l01Bytes_run (a0 : (List Int)) (a1 : (List Int)) : fnK (spec_l01Bytes_cx FUEL) 8 85 spec_l01Bytes_i spec_l01Bytes_sh [.pv (.slice (.int .u8)) a0, .pv (.slice (.int .u8)) a1] = spec_l01Bytes_r a0 a1 :=
 (spec_l01Bytes_start FUEL a0 a1).trans (condC (rfl) ((spec_l01Bytes_l0_L_eq _ a0 a1 FUEL (0 : Int)).trans (spec_l01Bytes_l0_congr _ _ _ _ a0 a1 FUEL (0 : Int) (fun _ => (spec_l01Bytes_l0_ret FUEL  ).trans (rfl)) (fun _ => (spec_l01Bytes_l0_exit0 FUEL  ).trans (rfl)))))

noncomputable def spec_l01Bytes_con : Con := { ps := (.pair (.slice (.int .u8)) (.pair (.slice (.int .u8)) .unit)), sh := spec_l01Bytes_sh, raw := fun x => spec_l01Bytes_r x.1 x.2.1 }
theorem spec_l01Bytes_conOk : ConOk Try.prog 85 spec_l01Bytes_con := con_of_fn (spec_l01Bytes_tabs FUEL) (depth := 8) spec_l01Bytes_ok fun x y h => (spec_l01Bytes_run x.1 x.2.1).trans h

noncomputable def spec_SameBytes_inls : List (Nat × Inl) := []
noncomputable def spec_SameBytes_cons : List (Nat × Con) := [(85, spec_l01Bytes_con)]
noncomputable def spec_SameBytes_taks : List (Nat × ConT) := []
noncomputable def spec_SameBytes_inps : List (Nat × ConI) := []
noncomputable def spec_SameBytes_cuts : List (Nat × List (Nat × Cut)) := []
noncomputable def spec_SameBytes_cx (k : Nat) : Cx := mkCx tys tbytes telem nozero (Ai.look spec_SameBytes_inls) (Ai.look spec_SameBytes_cons) (Ai.look spec_SameBytes_taks) (Ai.look spec_SameBytes_inps) (fun f id => match Ai.look spec_SameBytes_cuts f with | some l => Ai.look l id | none => none) k []
theorem spec_SameBytes_tabs (k : Nat) : TabsOk Try.prog (spec_SameBytes_cx k) := ⟨tab_mk tabs_ok _ _ _ _ _ _ _, look_all (Q := ConOk Try.prog) _ ⟨spec_l01Bytes_conOk, trivial⟩, look_all (Q := TakOk Try.prog) _ trivial, look_all (Q := InpOk Try.prog) _ trivial, look_all (Q := InlOk Try.prog) _ trivial, mixed_ok⟩
abbrev spec_SameBytes_sh : List Sh := [.pl .bool]
noncomputable def spec_SameBytes_r (a0 : (List Int)) (a1 : (List Int)) : Option (shDen spec_SameBytes_sh) :=
 (bindO (spec_l01Bytes_r a0 a1) fun (b1 : Bool) => (some b1))
theorem spec_SameBytes_start (k : Nat) (a0 : (List Int)) (a1 : (List Int)) : fnK (spec_SameBytes_cx k) 8 45 spec_SameBytes_i spec_SameBytes_sh [.pv (.slice (.int .u8)) a0, .pv (.slice (.int .u8)) a1] =
 ((bindO (spec_l01Bytes_r a0 a1) fun (b1 : Bool) => (some b1)) : Option (shDen spec_SameBytes_sh)) := by kernel_rfl

theorem spec_SameBytes_run (a0 : (List Int)) (a1 : (List Int)) : fnK (spec_SameBytes_cx FUEL) 8 45 spec_SameBytes_i spec_SameBytes_sh [.pv (.slice (.int .u8)) a0, .pv (.slice (.int .u8)) a1] = spec_SameBytes_r a0 a1 :=
 (spec_SameBytes_start FUEL a0 a1).trans (rfl)

noncomputable def spec_SameBytes_con : Con := { ps := (.pair (.slice (.int .u8)) (.pair (.slice (.int .u8)) .unit)), sh := spec_SameBytes_sh, raw := fun x => spec_SameBytes_r x.1 x.2.1 }
theorem spec_SameBytes_conOk : ConOk Try.prog 45 spec_SameBytes_con := con_of_fn (spec_SameBytes_tabs FUEL) (depth := 8) spec_SameBytes_ok fun x y h => (spec_SameBytes_run x.1 x.2.1).trans h

noncomputable def impl_RollOf_l0_cut : Cut := { keep := [3, 7, 8, 9], stk := [], ids := [60], own := [], outs := [(1, [3], [60])] }
noncomputable def impl_RollOf_inls : List (Nat × Inl) := [(87, impl_newRoller_i)]
noncomputable def impl_RollOf_cons : List (Nat × Con) := [(118, impl_RollTable_con)]
noncomputable def impl_RollOf_taks : List (Nat × ConT) := []
noncomputable def impl_RollOf_inps : List (Nat × ConI) := [(88, impl_roller_add_inp)]
noncomputable def impl_RollOf_cuts : List (Nat × List (Nat × Cut)) := [(47, [(0, impl_RollOf_l0_cut)])]
noncomputable def impl_RollOf_cx (k : Nat) : Cx := mkCx tys tbytes telem nozero (Ai.look impl_RollOf_inls) (Ai.look impl_RollOf_cons) (Ai.look impl_RollOf_taks) (Ai.look impl_RollOf_inps) (fun f id => match Ai.look impl_RollOf_cuts f with | some l => Ai.look l id | none => none) k []
theorem impl_RollOf_tabs (k : Nat) : TabsOk Try.prog (impl_RollOf_cx k) := ⟨tab_mk tabs_ok _ _ _ _ _ _ _, look_all (Q := ConOk Try.prog) _ ⟨impl_RollTable_conOk, trivial⟩, look_all (Q := TakOk Try.prog) _ trivial, look_all (Q := InpOk Try.prog) _ ⟨impl_roller_add_inpOk, trivial⟩, look_all (Q := InlOk Try.prog) _ ⟨impl_newRoller_ok, trivial⟩, mixed_ok⟩
abbrev impl_RollOf_sh : List Sh := [.pl (.int .u32)]
noncomputable def impl_RollOf_l0_s (a0 : (List Int)) (y60 : ((List Int) × (Int × Unit))) (x9 : Int) : St := { env := [.dead, .dead, .dead, .ptr 60 (.pair (.arr 256 (.int .u32)) (.pair (.int .u32) .unit)) [], .dead, .dead, .dead, .pv (.slice (.int .u8)) a0, .pv (.int .i64) (a0.length : Int), .pv (.int .i64) x9, .dead, .dead, .dead, .dead, .dead, .dead, .dead, .dead, .dead, .dead, .dead], stk := [], heap := [(60, .var (.pair (.arr 256 (.int .u32)) (.pair (.int .u32) .unit)) (.pv (.pair (.arr 256 (.int .u32)) (.pair (.int .u32) .unit)) y60))] }
noncomputable def impl_RollOf_l0_o0 (y60 : ((List Int) × (Int × Unit))) : St := { env := [.dead, .dead, .dead, .ptr 60 (.pair (.arr 256 (.int .u32)) (.pair (.int .u32) .unit)) [], .dead, .dead, .dead, .dead, .dead, .dead, .dead, .dead, .dead, .dead, .dead, .dead, .dead, .dead, .dead, .dead, .dead], stk := [], heap := [(60, .var (.pair (.arr 256 (.int .u32)) (.pair (.int .u32) .unit)) (.pv (.pair (.arr 256 (.int .u32)) (.pair (.int .u32) .unit)) y60))] }
noncomputable def impl_RollOf_l0_b (rec : ((List Int) × (Int × Unit)) → Int → Option (shDen impl_RollOf_sh)) (ke0 : ((List Int) × (Int × Unit)) → Option (shDen impl_RollOf_sh)) (a0 : (List Int)) (y60 : ((List Int) × (Int × Unit))) (x9 : Int) : Option (shDen impl_RollOf_sh) :=
 (cond (decide (x9 < (a0.length : Int)))
 (cond ((decide ((0 : Int) ≤ x9)) && (decide (x9 < (a0.length : Int))))
 (bindO (impl_roller_add_r y60 (a0.getD (x9.toNat) (0 : Int))) fun (b3 : (((List Int) × (Int × Unit)) × Unit)) => (rec b3.1 (IntKind.wrap .i64 (x9 + (1 : Int)))))
 none)
 (ke0 y60))
noncomputable def impl_RollOf_l0_L (ke0 : ((List Int) × (Int × Unit)) → Option (shDen impl_RollOf_sh)) (a0 : (List Int)) : Nat → ((List Int) × (Int × Unit)) → Int → Option (shDen impl_RollOf_sh)
 | 0 => fun _ _ => none
 | n + 1 => impl_RollOf_l0_b (impl_RollOf_l0_L ke0 a0 n) ke0 a0
noncomputable def impl_RollOf_r (a0 : (List Int)) : Option (shDen impl_RollOf_sh) :=
 (bindO (impl_RollTable_r) fun (b1 : (List Int)) => (impl_RollOf_l0_L (fun y60 => (some y60.2.1)) a0 FUEL (b1, ((0 : Int), ())) (0 : Int)))
theorem impl_RollOf_l0_round (k : Nat) (K : Ex → St → Option (shDen impl_RollOf_sh)) (n : Nat) (a0 : (List Int)) (y60 : ((List Int) × (Int × Unit))) (x9 : Int) : (loopK (impl_RollOf_cx k) 0 (execK (impl_RollOf_cx k) (callK (impl_RollOf_cx k) 8) 0 47 (sub impl_RollOf_c [1, 1, 0, 1, 0, 0])) impl_RollOf_l0_cut K (n + 1) (impl_RollOf_l0_s a0 y60 x9) : Option (shDen impl_RollOf_sh)) =
 ((cond (decide (x9 < (a0.length : Int)))
 (cond ((decide ((0 : Int) ≤ x9)) && (decide (x9 < (a0.length : Int))))
 (bindO (impl_roller_add_r y60 (a0.getD (x9.toNat) (0 : Int))) fun (b3 : (((List Int) × (Int × Unit)) × Unit)) => (loopK (impl_RollOf_cx k) 0 (execK (impl_RollOf_cx k) (callK (impl_RollOf_cx k) 8) 0 47 (sub impl_RollOf_c [1, 1, 0, 1, 0, 0])) impl_RollOf_l0_cut K n (impl_RollOf_l0_s a0 b3.1 (IntKind.wrap .i64 (x9 + (1 : Int))))))
 none)
 (K (.exit 0) (impl_RollOf_l0_o0 y60))) : Option (shDen impl_RollOf_sh)) := by kernel_rfl

theorem impl_RollOf_l0_exit0 (k : Nat)  (y60 : ((List Int) × (Int × Unit))) : ((blkK 0 (seqK (execK (impl_RollOf_cx k) (callK (impl_RollOf_cx k) 8) 0 47 (sub impl_RollOf_c [1, 1, 1])) (finK (impl_RollOf_cx k) impl_RollOf_i impl_RollOf_sh))) (.exit 0) (impl_RollOf_l0_o0 y60) : Option (shDen impl_RollOf_sh)) =
 ((some y60.2.1) : Option (shDen impl_RollOf_sh)) := by kernel_rfl

theorem impl_RollOf_l0_congr (ke0 : ((List Int) × (Int × Unit)) → Option (shDen impl_RollOf_sh)) (ke0' : ((List Int) × (Int × Unit)) → Option (shDen impl_RollOf_sh)) (a0 : (List Int)) (n : Nat) (y60 : ((List Int) × (Int × Unit))) (x9 : Int) (hke0 : ∀ y60, ke0 y60 = ke0' y60) : impl_RollOf_l0_L ke0 a0 n y60 x9 = impl_RollOf_l0_L ke0' a0 n y60 x9 := by
 have : ke0 = ke0' := (by funext y60; exact hke0 y60); subst this; rfl

theorem impl_RollOf_l0_L_eq (K : Ex → St → Option (shDen impl_RollOf_sh)) (a0 : (List Int)) : ∀ (n : Nat) (y60 : ((List Int) × (Int × Unit))) (x9 : Int), (loopK (impl_RollOf_cx FUEL) 0 (execK (impl_RollOf_cx FUEL) (callK (impl_RollOf_cx FUEL) 8) 0 47 (sub impl_RollOf_c [1, 1, 0, 1, 0, 0])) impl_RollOf_l0_cut K n (impl_RollOf_l0_s a0 y60 x9) : Option (shDen impl_RollOf_sh)) = impl_RollOf_l0_L (fun y60 => K (.exit 0) (impl_RollOf_l0_o0 y60)) a0 n y60 x9 := by
 intro n
 induction n with
 | zero => intros; rfl
 | succ n ih =>
  intro y60 x9
  exact (impl_RollOf_l0_round FUEL K n a0 y60 x9).trans (condC (condC (bindC (fun b3 => ih b3.1 (IntKind.wrap .i64 (x9 + (1 : Int))))) (rfl)) (rfl))

theorem impl_RollOf_start (k : Nat) (a0 : (List Int)) : fnK (impl_RollOf_cx k) 8 47 impl_RollOf_i impl_RollOf_sh [.pv (.slice (.int .u8)) a0] =
 ((bindO (impl_RollTable_r) fun (b1 : (List Int)) => (loopK (impl_RollOf_cx k) 0 (execK (impl_RollOf_cx k) (callK (impl_RollOf_cx k) 8) 0 47 (sub impl_RollOf_c [1, 1, 0, 1, 0, 0])) impl_RollOf_l0_cut (blkK 0 (seqK (execK (impl_RollOf_cx k) (callK (impl_RollOf_cx k) 8) 0 47 (sub impl_RollOf_c [1, 1, 1])) (finK (impl_RollOf_cx k) impl_RollOf_i impl_RollOf_sh))) k (impl_RollOf_l0_s a0 (b1, ((0 : Int), ())) (0 : Int)))) : Option (shDen impl_RollOf_sh)) := by kernel_rfl

theorem impl_RollOf_run (a0 : (List Int)) : fnK (impl_RollOf_cx FUEL) 8 47 impl_RollOf_i impl_RollOf_sh [.pv (.slice (.int .u8)) a0] = impl_RollOf_r a0 :=
 (impl_RollOf_start FUEL a0).trans (bindC (fun b1 => (impl_RollOf_l0_L_eq _ a0 FUEL (b1, ((0 : Int), ())) (0 : Int)).trans (impl_RollOf_l0_congr _ _ a0 FUEL (b1, ((0 : Int), ())) (0 : Int) (fun y60 => (impl_RollOf_l0_exit0 FUEL  y60).trans (rfl)))))

noncomputable def impl_RollOf_con : Con := { ps := (.pair (.slice (.int .u8)) .unit), sh := impl_RollOf_sh, raw := fun x => impl_RollOf_r x.1 }
theorem impl_RollOf_conOk : ConOk Try.prog 47 impl_RollOf_con := con_of_fn (impl_RollOf_tabs FUEL) (depth := 8) impl_RollOf_ok fun x y h => (impl_RollOf_run x.1).trans h

noncomputable def spec_l00Max_inls : List (Nat × Inl) := []
noncomputable def spec_l00Max_cons : List (Nat × Con) := []
noncomputable def spec_l00Max_taks : List (Nat × ConT) := []
noncomputable def spec_l00Max_inps : List (Nat × ConI) := []
noncomputable def spec_l00Max_cuts : List (Nat × List (Nat × Cut)) := []
noncomputable def spec_l00Max_cx (k : Nat) : Cx := mkCx tys tbytes telem nozero (Ai.look spec_l00Max_inls) (Ai.look spec_l00Max_cons) (Ai.look spec_l00Max_taks) (Ai.look spec_l00Max_inps) (fun f id => match Ai.look spec_l00Max_cuts f with | some l => Ai.look l id | none => none) k []
theorem spec_l00Max_tabs (k : Nat) : TabsOk Try.prog (spec_l00Max_cx k) := ⟨tab_mk tabs_ok _ _ _ _ _ _ _, look_all (Q := ConOk Try.prog) _ trivial, look_all (Q := TakOk Try.prog) _ trivial, look_all (Q := InpOk Try.prog) _ trivial, look_all (Q := InlOk Try.prog) _ trivial, mixed_ok⟩
abbrev spec_l00Max_sh : List Sh := [.pl (.int .i64)]
noncomputable def spec_l00Max_r (a0 : Int) (a1 : Int) : Option (shDen spec_l00Max_sh) :=
 (cond (decide (a1 < a0))
 (some a0)
 (some a1))
theorem spec_l00Max_start (k : Nat) (a0 : Int) (a1 : Int) : fnK (spec_l00Max_cx k) 8 89 spec_l00Max_i spec_l00Max_sh [.pv (.int .i64) a0, .pv (.int .i64) a1] =
 ((cond (decide (a1 < a0))
 (some a0)
 (some a1)) : Option (shDen spec_l00Max_sh)) := by kernel_rfl

theorem spec_l00Max_run (a0 : Int) (a1 : Int) : fnK (spec_l00Max_cx FUEL) 8 89 spec_l00Max_i spec_l00Max_sh [.pv (.int .i64) a0, .pv (.int .i64) a1] = spec_l00Max_r a0 a1 :=
 (spec_l00Max_start FUEL a0 a1).trans (rfl)

noncomputable def spec_l00Max_con : Con := { ps := (.pair (.int .i64) (.pair (.int .i64) .unit)), sh := spec_l00Max_sh, raw := fun x => spec_l00Max_r x.1 x.2.1 }
theorem spec_l00Max_conOk : ConOk Try.prog 89 spec_l00Max_con := con_of_fn (spec_l00Max_tabs FUEL) (depth := 8) spec_l00Max_ok fun x y h => (spec_l00Max_run x.1 x.2.1).trans h

noncomputable def spec_l01Start_l0_cut : Cut := { keep := [0, 2, 3, 4], stk := [], ids := [20, 30], own := [], outs := [(1, [2, 3], [20, 30])] }
noncomputable def spec_l01Start_inls : List (Nat × Inl) := []
noncomputable def spec_l01Start_cons : List (Nat × Con) := []
noncomputable def spec_l01Start_taks : List (Nat × ConT) := []
noncomputable def spec_l01Start_inps : List (Nat × ConI) := []
noncomputable def spec_l01Start_cuts : List (Nat × List (Nat × Cut)) := [(98, [(0, spec_l01Start_l0_cut)])]
noncomputable def spec_l01Start_cx (k : Nat) : Cx := mkCx tys tbytes telem nozero (Ai.look spec_l01Start_inls) (Ai.look spec_l01Start_cons) (Ai.look spec_l01Start_taks) (Ai.look spec_l01Start_inps) (fun f id => match Ai.look spec_l01Start_cuts f with | some l => Ai.look l id | none => none) k []
theorem spec_l01Start_tabs (k : Nat) : TabsOk Try.prog (spec_l01Start_cx k) := ⟨tab_mk tabs_ok _ _ _ _ _ _ _, look_all (Q := ConOk Try.prog) _ trivial, look_all (Q := TakOk Try.prog) _ trivial, look_all (Q := InpOk Try.prog) _ trivial, look_all (Q := InlOk Try.prog) _ trivial, mixed_ok⟩
abbrev spec_l01Start_sh : List Sh := [.pl (.arr 8 (.int .u32))]
noncomputable def spec_l01Start_l0_s (a0 : Int) (x4 : Int) (y30 : (List Int)) : St := { env := [.pv (.int .u8) a0, .dead, .ptr 20 (.arr 8 (.int .u32)) [], .ptr 30 (.arr 8 (.int .u32)) [], .pv (.int .i64) x4, .dead, .dead, .dead, .dead, .dead, .dead, .dead, .dead, .dead, .dead, .dead, .dead, .dead, .dead, .dead], stk := [], heap := [(20, .var (.arr 8 (.int .u32)) (.pv (.arr 8 (.int .u32)) (List.replicate 8 (0 : Int)))), (30, .var (.arr 8 (.int .u32)) (.pv (.arr 8 (.int .u32)) y30))] }
noncomputable def spec_l01Start_l0_o0 (y30 : (List Int)) : St := { env := [.dead, .dead, .ptr 20 (.arr 8 (.int .u32)) [], .ptr 30 (.arr 8 (.int .u32)) [], .dead, .dead, .dead, .dead, .dead, .dead, .dead, .dead, .dead, .dead, .dead, .dead, .dead, .dead, .dead, .dead], stk := [], heap := [(20, .var (.arr 8 (.int .u32)) (.pv (.arr 8 (.int .u32)) (List.replicate 8 (0 : Int)))), (30, .var (.arr 8 (.int .u32)) (.pv (.arr 8 (.int .u32)) y30))] }
noncomputable def spec_l01Start_l0_b (rec : Int → (List Int) → Option (shDen spec_l01Start_sh)) (ke0 : (List Int) → Option (shDen spec_l01Start_sh)) (a0 : Int) (x4 : Int) (y30 : (List Int)) : Option (shDen spec_l01Start_sh) :=
 (cond (decide (x4 < (8 : Int)))
 (cond ((decide ((0 : Int) ≤ x4)) && (decide (x4 < (8 : Int))))
 (rec (IntKind.wrap .i64 (x4 + (1 : Int))) (y30.set (x4.toNat) (IntKind.wrap .u32 ((IntKind.wrap .u32 ((16777619 : Int) * (IntKind.wrap .u32 (IntKind.wrap .i64 (x4 + (1 : Int)))))) + (IntKind.wrap .u32 a0)))))
 none)
 (ke0 y30))
noncomputable def spec_l01Start_l0_L (ke0 : (List Int) → Option (shDen spec_l01Start_sh)) (a0 : Int) : Nat → Int → (List Int) → Option (shDen spec_l01Start_sh)
 | 0 => fun _ _ => none
 | n + 1 => spec_l01Start_l0_b (spec_l01Start_l0_L ke0 a0 n) ke0 a0
noncomputable def spec_l01Start_r (a0 : Int) : Option (shDen spec_l01Start_sh) :=
 (spec_l01Start_l0_L (fun y30 => (some y30)) a0 FUEL (0 : Int) (List.replicate 8 (0 : Int)))
theorem spec_l01Start_l0_round (k : Nat) (K : Ex → St → Option (shDen spec_l01Start_sh)) (n : Nat) (a0 : Int) (x4 : Int) (y30 : (List Int)) : (loopK (spec_l01Start_cx k) 0 (execK (spec_l01Start_cx k) (callK (spec_l01Start_cx k) 8) 0 98 (sub spec_l01Start_c [1, 1, 0, 1, 0, 0])) spec_l01Start_l0_cut K (n + 1) (spec_l01Start_l0_s a0 x4 y30) : Option (shDen spec_l01Start_sh)) =
 ((cond (decide (x4 < (8 : Int)))
 (cond ((decide ((0 : Int) ≤ x4)) && (decide (x4 < (8 : Int))))
 (loopK (spec_l01Start_cx k) 0 (execK (spec_l01Start_cx k) (callK (spec_l01Start_cx k) 8) 0 98 (sub spec_l01Start_c [1, 1, 0, 1, 0, 0])) spec_l01Start_l0_cut K n (spec_l01Start_l0_s a0 (IntKind.wrap .i64 (x4 + (1 : Int))) (y30.set (x4.toNat) (IntKind.wrap .u32 ((IntKind.wrap .u32 ((16777619 : Int) * (IntKind.wrap .u32 (IntKind.wrap .i64 (x4 + (1 : Int)))))) + (IntKind.wrap .u32 a0))))))
 none)
 (K (.exit 0) (spec_l01Start_l0_o0 y30))) : Option (shDen spec_l01Start_sh)) := by kernel_rfl

theorem spec_l01Start_l0_exit0 (k : Nat)  (y30 : (List Int)) : ((blkK 0 (seqK (execK (spec_l01Start_cx k) (callK (spec_l01Start_cx k) 8) 0 98 (sub spec_l01Start_c [1, 1, 1])) (finK (spec_l01Start_cx k) spec_l01Start_i spec_l01Start_sh))) (.exit 0) (spec_l01Start_l0_o0 y30) : Option (shDen spec_l01Start_sh)) =
 ((some y30) : Option (shDen spec_l01Start_sh)) := by kernel_rfl

theorem spec_l01Start_l0_congr (ke0 : (List Int) → Option (shDen spec_l01Start_sh)) (ke0' : (List Int) → Option (shDen spec_l01Start_sh)) (a0 : Int) (n : Nat) (x4 : Int) (y30 : (List Int)) (hke0 : ∀ y30, ke0 y30 = ke0' y30) : spec_l01Start_l0_L ke0 a0 n x4 y30 = spec_l01Start_l0_L ke0' a0 n x4 y30 := by
 have : ke0 = ke0' := (by funext y30; exact hke0 y30); subst this; rfl

theorem spec_l01Start_l0_L_eq (K : Ex → St → Option (shDen spec_l01Start_sh)) (a0 : Int) : ∀ (n : Nat) (x4 : Int) (y30 : (List Int)), (loopK (spec_l01Start_cx FUEL) 0 (execK (spec_l01Start_cx FUEL) (callK (spec_l01Start_cx FUEL) 8) 0 98 (sub spec_l01Start_c [1, 1, 0, 1, 0, 0])) spec_l01Start_l0_cut K n (spec_l01Start_l0_s a0 x4 y30) : Option (shDen spec_l01Start_sh)) = spec_l01Start_l0_L (fun y30 => K (.exit 0) (spec_l01Start_l0_o0 y30)) a0 n x4 y30 := by
 intro n
 induction n with
 | zero => intros; rfl
 | succ n ih =>
  intro x4 y30
  exact (spec_l01Start_l0_round FUEL K n a0 x4 y30).trans (condC (condC (ih (IntKind.wrap .i64 (x4 + (1 : Int))) (y30.set (x4.toNat) (IntKind.wrap .u32 ((IntKind.wrap .u32 ((16777619 : Int) * (IntKind.wrap .u32 (IntKind.wrap .i64 (x4 + (1 : Int)))))) + (IntKind.wrap .u32 a0))))) (rfl)) (rfl))

theorem spec_l01Start_start (k : Nat) (a0 : Int) : fnK (spec_l01Start_cx k) 8 98 spec_l01Start_i spec_l01Start_sh [.pv (.int .u8) a0] =
 ((loopK (spec_l01Start_cx k) 0 (execK (spec_l01Start_cx k) (callK (spec_l01Start_cx k) 8) 0 98 (sub spec_l01Start_c [1, 1, 0, 1, 0, 0])) spec_l01Start_l0_cut (blkK 0 (seqK (execK (spec_l01Start_cx k) (callK (spec_l01Start_cx k) 8) 0 98 (sub spec_l01Start_c [1, 1, 1])) (finK (spec_l01Start_cx k) spec_l01Start_i spec_l01Start_sh))) k (spec_l01Start_l0_s a0 (0 : Int) (List.replicate 8 (0 : Int)))) : Option (shDen spec_l01Start_sh)) := by kernel_rfl

theorem spec_l01Start_run (a0 : Int) : fnK (spec_l01Start_cx FUEL) 8 98 spec_l01Start_i spec_l01Start_sh [.pv (.int .u8) a0] = spec_l01Start_r a0 :=
 (spec_l01Start_start FUEL a0).trans ((spec_l01Start_l0_L_eq _ a0 FUEL (0 : Int) (List.replicate 8 (0 : Int))).trans (spec_l01Start_l0_congr _ _ a0 FUEL (0 : Int) (List.replicate 8 (0 : Int)) (fun y30 => (spec_l01Start_l0_exit0 FUEL  y30).trans (rfl))))

noncomputable def spec_l01Start_con : Con := { ps := (.pair (.int .u8) .unit), sh := spec_l01Start_sh, raw := fun x => spec_l01Start_r x.1 }
theorem spec_l01Start_conOk : ConOk Try.prog 98 spec_l01Start_con := con_of_fn (spec_l01Start_tabs FUEL) (depth := 8) spec_l01Start_ok fun x y h => (spec_l01Start_run x.1).trans h

noncomputable def spec_l01Turn_inls : List (Nat × Inl) := []
noncomputable def spec_l01Turn_cons : List (Nat × Con) := []
noncomputable def spec_l01Turn_taks : List (Nat × ConT) := []
noncomputable def spec_l01Turn_inps : List (Nat × ConI) := []
noncomputable def spec_l01Turn_cuts : List (Nat × List (Nat × Cut)) := []
noncomputable def spec_l01Turn_cx (k : Nat) : Cx := mkCx tys tbytes telem nozero (Ai.look spec_l01Turn_inls) (Ai.look spec_l01Turn_cons) (Ai.look spec_l01Turn_taks) (Ai.look spec_l01Turn_inps) (fun f id => match Ai.look spec_l01Turn_cuts f with | some l => Ai.look l id | none => none) k []
theorem spec_l01Turn_tabs (k : Nat) : TabsOk Try.prog (spec_l01Turn_cx k) := ⟨tab_mk tabs_ok _ _ _ _ _ _ _, look_all (Q := ConOk Try.prog) _ trivial, look_all (Q := TakOk Try.prog) _ trivial, look_all (Q := InpOk Try.prog) _ trivial, look_all (Q := InlOk Try.prog) _ trivial, mixed_ok⟩
abbrev spec_l01Turn_sh : List Sh := [.pl (.int .u32)]
noncomputable def spec_l01Turn_r (a0 : Int) (a1 : Int) : Option (shDen spec_l01Turn_sh) :=
 (cond (decide (a1 < (0 : Int)))
 none
 (cond (decide ((IntKind.wrap .u64 ((32 : Int) - a1)) < (0 : Int)))
 none
 (some (bitI .or .u32 (shlI .u32 a0 a1) (shrI .u32 a0 (IntKind.wrap .u64 ((32 : Int) - a1)))))))
theorem spec_l01Turn_start (k : Nat) (a0 : Int) (a1 : Int) : fnK (spec_l01Turn_cx k) 8 135 spec_l01Turn_i spec_l01Turn_sh [.pv (.int .u32) a0, .pv (.int .u64) a1] =
 ((cond (decide (a1 < (0 : Int)))
 none
 (cond (decide ((IntKind.wrap .u64 ((32 : Int) - a1)) < (0 : Int)))
 none
 (some (bitI .or .u32 (shlI .u32 a0 a1) (shrI .u32 a0 (IntKind.wrap .u64 ((32 : Int) - a1))))))) : Option (shDen spec_l01Turn_sh)) := by kernel_rfl

theorem spec_l01Turn_run (a0 : Int) (a1 : Int) : fnK (spec_l01Turn_cx FUEL) 8 135 spec_l01Turn_i spec_l01Turn_sh [.pv (.int .u32) a0, .pv (.int .u64) a1] = spec_l01Turn_r a0 a1 :=
 (spec_l01Turn_start FUEL a0 a1).trans (rfl)

noncomputable def spec_l01Turn_con : Con := { ps := (.pair (.int .u32) (.pair (.int .u64) .unit)), sh := spec_l01Turn_sh, raw := fun x => spec_l01Turn_r x.1 x.2.1 }
theorem spec_l01Turn_conOk : ConOk Try.prog 135 spec_l01Turn_con := con_of_fn (spec_l01Turn_tabs FUEL) (depth := 8) spec_l01Turn_ok fun x y h => (spec_l01Turn_run x.1 x.2.1).trans h

end Go.Ai.G
