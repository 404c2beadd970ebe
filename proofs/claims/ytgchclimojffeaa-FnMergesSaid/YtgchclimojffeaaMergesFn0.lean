/- Made by a program of this work out of the program: tables and plain functions, with the proof that each Go function does what its plain function says. No conditions. -/
import Derived.Test.YtgchclimojffeaaMergesTab
namespace Go.Ai.G
open Go.Proofs
open Go.Ai
set_option linter.unusedVariables false
set_option linter.unusedSimpArgs false
set_option maxRecDepth 100000

noncomputable def laws_a2Long_inls : List (Nat × Inl) := []
noncomputable def laws_a2Long_cons : List (Nat × Con) := []
noncomputable def laws_a2Long_taks : List (Nat × ConT) := []
noncomputable def laws_a2Long_inps : List (Nat × ConI) := []
noncomputable def laws_a2Long_cuts : List (Nat × List (Nat × Cut)) := []
noncomputable def laws_a2Long_cx (k : Nat) : Cx := mkCx tys tbytes telem nozero (Ai.look laws_a2Long_inls) (Ai.look laws_a2Long_cons) (Ai.look laws_a2Long_taks) (Ai.look laws_a2Long_inps) (fun f id => match Ai.look laws_a2Long_cuts f with | some l => Ai.look l id | none => none) k [] false
theorem laws_a2Long_tabs (k : Nat) : TabsOk Try.prog (laws_a2Long_cx k) := ⟨tab_mk tabs_ok _ _ _ _ _ _ _ _, look_all (Q := ConOk Try.prog) _ trivial, look_all (Q := TakOk Try.prog) _ trivial, look_all (Q := InpOk Try.prog) _ trivial, look_all (Q := InlOk Try.prog) _ trivial, mixed_ok⟩
abbrev laws_a2Long_sh : List Sh := [.pl .bool]
noncomputable def laws_a2Long_r (a0 : (List Int)) (a1 : (List Int)) : Option (shDen laws_a2Long_sh) :=
 (cond (decide ((3000 : Int) < (a0.length : Int)))
 (some true)
 (some (decide ((3000 : Int) < (a1.length : Int)))))
theorem laws_a2Long_start (k : Nat) (a0 : (List Int)) (a1 : (List Int)) : fnK (laws_a2Long_cx k) 8 4 laws_a2Long_i laws_a2Long_sh [.pv (.slice (.int .u8)) a0, .pv (.slice (.int .u8)) a1] =
 ((cond (decide ((3000 : Int) < (a0.length : Int)))
 (some true)
 (some (decide ((3000 : Int) < (a1.length : Int))))) : Option (shDen laws_a2Long_sh)) := by kernel_rfl

theorem laws_a2Long_run (a0 : (List Int)) (a1 : (List Int)) : fnK (laws_a2Long_cx FUEL) 8 4 laws_a2Long_i laws_a2Long_sh [.pv (.slice (.int .u8)) a0, .pv (.slice (.int .u8)) a1] = laws_a2Long_r a0 a1 :=
 (laws_a2Long_start FUEL a0 a1).trans (rfl)

noncomputable def laws_a2Long_con : Con := { ps := (.pair (.slice (.int .u8)) (.pair (.slice (.int .u8)) .unit)), sh := laws_a2Long_sh, raw := fun x => laws_a2Long_r x.1 x.2.1 }
theorem laws_a2Long_conOk : ConOk Try.prog 4 laws_a2Long_con := con_of_fn (laws_a2Long_tabs FUEL) (depth := 8) laws_a2Long_ok fun x y h => (laws_a2Long_run x.1 x.2.1).trans h

noncomputable def spec_l00Src_next_inls : List (Nat × Inl) := []
noncomputable def spec_l00Src_next_cons : List (Nat × Con) := []
noncomputable def spec_l00Src_next_taks : List (Nat × ConT) := []
noncomputable def spec_l00Src_next_inps : List (Nat × ConI) := []
noncomputable def spec_l00Src_next_cuts : List (Nat × List (Nat × Cut)) := []
noncomputable def spec_l00Src_next_cx (k : Nat) : Cx := mkCx tys tbytes telem nozero (Ai.look spec_l00Src_next_inls) (Ai.look spec_l00Src_next_cons) (Ai.look spec_l00Src_next_taks) (Ai.look spec_l00Src_next_inps) (fun f id => match Ai.look spec_l00Src_next_cuts f with | some l => Ai.look l id | none => none) k [] false
theorem spec_l00Src_next_tabs (k : Nat) : TabsOk Try.prog (spec_l00Src_next_cx k) := ⟨tab_mk tabs_ok _ _ _ _ _ _ _ _, look_all (Q := ConOk Try.prog) _ trivial, look_all (Q := TakOk Try.prog) _ trivial, look_all (Q := InpOk Try.prog) _ trivial, look_all (Q := InlOk Try.prog) _ trivial, mixed_ok⟩
abbrev spec_l00Src_next_sh : List Sh := [.pl (.int .i64)]
noncomputable def spec_l00Src_next_r (a0 : ((List Int) × (Int × (Int × Unit)))) : Option (((List Int) × (Int × (Int × Unit))) × shDen spec_l00Src_next_sh) :=
 (cond (decide (a0.2.1 < (a0.1.length : Int)))
 (cond ((decide ((0 : Int) ≤ a0.2.1)) && (decide (a0.2.1 < (a0.1.length : Int))))
 (cond (decide ((IntKind.wrap .i64 (a0.2.1 + (1 : Int))) ≤ (a0.1.length : Int)))
 (some ((a0.1, ((IntKind.wrap .i64 (a0.2.1 + (1 : Int))), ((IntKind.wrap .u64 ((IntKind.wrap .u64 ((IntKind.wrap .u64 (a0.2.2.1 * (6364136223846793005 : Int))) + (IntKind.wrap .u64 (IntKind.wrap .i64 (a0.1.getD (a0.2.1.toNat) (0 : Int)))))) + (1442695040888963407 : Int))), a0.2.2.2))), (IntKind.wrap .i64 (a0.1.getD (a0.2.1.toNat) (0 : Int)))))
 (some ((a0.1, ((IntKind.wrap .i64 (a0.2.1 + (1 : Int))), ((IntKind.wrap .u64 ((IntKind.wrap .u64 ((IntKind.wrap .u64 (a0.2.2.1 * (6364136223846793005 : Int))) + (IntKind.wrap .u64 (IntKind.wrap .i64 (a0.1.getD (a0.2.1.toNat) (0 : Int)))))) + (1442695040888963407 : Int))), a0.2.2.2))), (IntKind.wrap .i64 (bitI .and .u64 (shrI .u64 (IntKind.wrap .u64 ((IntKind.wrap .u64 ((IntKind.wrap .u64 (a0.2.2.1 * (6364136223846793005 : Int))) + (IntKind.wrap .u64 (IntKind.wrap .i64 (a0.1.getD (a0.2.1.toNat) (0 : Int)))))) + (1442695040888963407 : Int))) (40 : Int)) (255 : Int))))))
 none)
 (cond (decide ((IntKind.wrap .i64 (a0.2.1 + (1 : Int))) ≤ (a0.1.length : Int)))
 (some ((a0.1, ((IntKind.wrap .i64 (a0.2.1 + (1 : Int))), ((IntKind.wrap .u64 ((IntKind.wrap .u64 ((IntKind.wrap .u64 (a0.2.2.1 * (6364136223846793005 : Int))) + (0 : Int))) + (1442695040888963407 : Int))), a0.2.2.2))), (0 : Int)))
 (some ((a0.1, ((IntKind.wrap .i64 (a0.2.1 + (1 : Int))), ((IntKind.wrap .u64 ((IntKind.wrap .u64 ((IntKind.wrap .u64 (a0.2.2.1 * (6364136223846793005 : Int))) + (0 : Int))) + (1442695040888963407 : Int))), a0.2.2.2))), (IntKind.wrap .i64 (bitI .and .u64 (shrI .u64 (IntKind.wrap .u64 ((IntKind.wrap .u64 ((IntKind.wrap .u64 (a0.2.2.1 * (6364136223846793005 : Int))) + (0 : Int))) + (1442695040888963407 : Int))) (40 : Int)) (255 : Int)))))))
theorem spec_l00Src_next_start (k : Nat) (a0 : ((List Int) × (Int × (Int × Unit)))) : fnIK (spec_l00Src_next_cx k) 8 34 spec_l00Src_next_i (.var (.pair (.slice (.int .u8)) (.pair (.int .i64) (.pair (.int .u64) .unit)))) spec_l00Src_next_sh a0 [] =
 ((cond (decide (a0.2.1 < (a0.1.length : Int)))
 (cond ((decide ((0 : Int) ≤ a0.2.1)) && (decide (a0.2.1 < (a0.1.length : Int))))
 (cond (decide ((IntKind.wrap .i64 (a0.2.1 + (1 : Int))) ≤ (a0.1.length : Int)))
 (some ((a0.1, ((IntKind.wrap .i64 (a0.2.1 + (1 : Int))), ((IntKind.wrap .u64 ((IntKind.wrap .u64 ((IntKind.wrap .u64 (a0.2.2.1 * (6364136223846793005 : Int))) + (IntKind.wrap .u64 (IntKind.wrap .i64 (a0.1.getD (a0.2.1.toNat) (0 : Int)))))) + (1442695040888963407 : Int))), a0.2.2.2))), (IntKind.wrap .i64 (a0.1.getD (a0.2.1.toNat) (0 : Int)))))
 (some ((a0.1, ((IntKind.wrap .i64 (a0.2.1 + (1 : Int))), ((IntKind.wrap .u64 ((IntKind.wrap .u64 ((IntKind.wrap .u64 (a0.2.2.1 * (6364136223846793005 : Int))) + (IntKind.wrap .u64 (IntKind.wrap .i64 (a0.1.getD (a0.2.1.toNat) (0 : Int)))))) + (1442695040888963407 : Int))), a0.2.2.2))), (IntKind.wrap .i64 (bitI .and .u64 (shrI .u64 (IntKind.wrap .u64 ((IntKind.wrap .u64 ((IntKind.wrap .u64 (a0.2.2.1 * (6364136223846793005 : Int))) + (IntKind.wrap .u64 (IntKind.wrap .i64 (a0.1.getD (a0.2.1.toNat) (0 : Int)))))) + (1442695040888963407 : Int))) (40 : Int)) (255 : Int))))))
 none)
 (cond (decide ((IntKind.wrap .i64 (a0.2.1 + (1 : Int))) ≤ (a0.1.length : Int)))
 (some ((a0.1, ((IntKind.wrap .i64 (a0.2.1 + (1 : Int))), ((IntKind.wrap .u64 ((IntKind.wrap .u64 ((IntKind.wrap .u64 (a0.2.2.1 * (6364136223846793005 : Int))) + (0 : Int))) + (1442695040888963407 : Int))), a0.2.2.2))), (0 : Int)))
 (some ((a0.1, ((IntKind.wrap .i64 (a0.2.1 + (1 : Int))), ((IntKind.wrap .u64 ((IntKind.wrap .u64 ((IntKind.wrap .u64 (a0.2.2.1 * (6364136223846793005 : Int))) + (0 : Int))) + (1442695040888963407 : Int))), a0.2.2.2))), (IntKind.wrap .i64 (bitI .and .u64 (shrI .u64 (IntKind.wrap .u64 ((IntKind.wrap .u64 ((IntKind.wrap .u64 (a0.2.2.1 * (6364136223846793005 : Int))) + (0 : Int))) + (1442695040888963407 : Int))) (40 : Int)) (255 : Int))))))) : Option (((List Int) × (Int × (Int × Unit))) × shDen spec_l00Src_next_sh)) := by kernel_rfl

theorem spec_l00Src_next_run (a0 : ((List Int) × (Int × (Int × Unit)))) : fnIK (spec_l00Src_next_cx FUEL) 8 34 spec_l00Src_next_i (.var (.pair (.slice (.int .u8)) (.pair (.int .i64) (.pair (.int .u64) .unit)))) spec_l00Src_next_sh a0 [] = spec_l00Src_next_r a0 :=
 (spec_l00Src_next_start FUEL a0).trans (rfl)

noncomputable def spec_l00Src_next_inp : ConI := { k := (.var (.pair (.slice (.int .u8)) (.pair (.int .i64) (.pair (.int .u64) .unit)))), ps := .unit, sh := spec_l00Src_next_sh, raw := fun x q => spec_l00Src_next_r x  }
theorem spec_l00Src_next_inpOk : InpOk Try.prog 34 spec_l00Src_next_inp := inp_of_fn (spec_l00Src_next_tabs FUEL) (depth := 8) spec_l00Src_next_ok fun x q z h => (spec_l00Src_next_run x ).trans h

noncomputable def spec_l00Src_pick_inls : List (Nat × Inl) := []
noncomputable def spec_l00Src_pick_cons : List (Nat × Con) := []
noncomputable def spec_l00Src_pick_taks : List (Nat × ConT) := []
noncomputable def spec_l00Src_pick_inps : List (Nat × ConI) := [(34, spec_l00Src_next_inp)]
noncomputable def spec_l00Src_pick_cuts : List (Nat × List (Nat × Cut)) := []
noncomputable def spec_l00Src_pick_cx (k : Nat) : Cx := mkCx tys tbytes telem nozero (Ai.look spec_l00Src_pick_inls) (Ai.look spec_l00Src_pick_cons) (Ai.look spec_l00Src_pick_taks) (Ai.look spec_l00Src_pick_inps) (fun f id => match Ai.look spec_l00Src_pick_cuts f with | some l => Ai.look l id | none => none) k [] false
theorem spec_l00Src_pick_tabs (k : Nat) : TabsOk Try.prog (spec_l00Src_pick_cx k) := ⟨tab_mk tabs_ok _ _ _ _ _ _ _ _, look_all (Q := ConOk Try.prog) _ trivial, look_all (Q := TakOk Try.prog) _ trivial, look_all (Q := InpOk Try.prog) _ ⟨spec_l00Src_next_inpOk, trivial⟩, look_all (Q := InlOk Try.prog) _ trivial, mixed_ok⟩
abbrev spec_l00Src_pick_sh : List Sh := [.pl (.int .i64)]
noncomputable def spec_l00Src_pick_r (a0 : ((List Int) × (Int × (Int × Unit)))) (a1 : Int) : Option (((List Int) × (Int × (Int × Unit))) × shDen spec_l00Src_pick_sh) :=
 (cond (decide (a1 ≤ (1 : Int)))
 (some (a0, (0 : Int)))
 (bindO (spec_l00Src_next_r a0) fun (b1 : (((List Int) × (Int × (Int × Unit))) × Int)) => (cond (decide ((200 : Int) < a1))
 (bindO (spec_l00Src_next_r b1.1) fun (b2 : (((List Int) × (Int × (Int × Unit))) × Int)) => (cond (decide (a1 = (0 : Int)))
 none
 (some (b2.1, (Int.tmod (IntKind.wrap .i64 ((IntKind.wrap .i64 (b1.2 * (256 : Int))) + b2.2)) a1)))))
 (cond (decide (a1 = (0 : Int)))
 none
 (some (b1.1, (Int.tmod b1.2 a1)))))))
theorem spec_l00Src_pick_start (k : Nat) (a0 : ((List Int) × (Int × (Int × Unit)))) (a1 : Int) : fnIK (spec_l00Src_pick_cx k) 8 25 spec_l00Src_pick_i (.var (.pair (.slice (.int .u8)) (.pair (.int .i64) (.pair (.int .u64) .unit)))) spec_l00Src_pick_sh a0 [.pv (.int .i64) a1] =
 ((cond (decide (a1 ≤ (1 : Int)))
 (some (a0, (0 : Int)))
 (bindO (spec_l00Src_next_r a0) fun (b1 : (((List Int) × (Int × (Int × Unit))) × Int)) => (cond (decide ((200 : Int) < a1))
 (bindO (spec_l00Src_next_r b1.1) fun (b2 : (((List Int) × (Int × (Int × Unit))) × Int)) => (cond (decide (a1 = (0 : Int)))
 none
 (some (b2.1, (Int.tmod (IntKind.wrap .i64 ((IntKind.wrap .i64 (b1.2 * (256 : Int))) + b2.2)) a1)))))
 (cond (decide (a1 = (0 : Int)))
 none
 (some (b1.1, (Int.tmod b1.2 a1))))))) : Option (((List Int) × (Int × (Int × Unit))) × shDen spec_l00Src_pick_sh)) := by kernel_rfl

theorem spec_l00Src_pick_run (a0 : ((List Int) × (Int × (Int × Unit)))) (a1 : Int) : fnIK (spec_l00Src_pick_cx FUEL) 8 25 spec_l00Src_pick_i (.var (.pair (.slice (.int .u8)) (.pair (.int .i64) (.pair (.int .u64) .unit)))) spec_l00Src_pick_sh a0 [.pv (.int .i64) a1] = spec_l00Src_pick_r a0 a1 :=
 (spec_l00Src_pick_start FUEL a0 a1).trans (rfl)

noncomputable def spec_l00Src_pick_inp : ConI := { k := (.var (.pair (.slice (.int .u8)) (.pair (.int .i64) (.pair (.int .u64) .unit)))), ps := (.pair (.int .i64) .unit), sh := spec_l00Src_pick_sh, raw := fun x q => spec_l00Src_pick_r x q.1 }
theorem spec_l00Src_pick_inpOk : InpOk Try.prog 25 spec_l00Src_pick_inp := inp_of_fn (spec_l00Src_pick_tabs FUEL) (depth := 8) spec_l00Src_pick_ok fun x q z h => (spec_l00Src_pick_run x q.1).trans h

noncomputable def spec_l00Src_one_inls : List (Nat × Inl) := []
noncomputable def spec_l00Src_one_cons : List (Nat × Con) := []
noncomputable def spec_l00Src_one_taks : List (Nat × ConT) := []
noncomputable def spec_l00Src_one_inps : List (Nat × ConI) := [(25, spec_l00Src_pick_inp)]
noncomputable def spec_l00Src_one_cuts : List (Nat × List (Nat × Cut)) := []
noncomputable def spec_l00Src_one_cx (k : Nat) : Cx := mkCx tys tbytes telem nozero (Ai.look spec_l00Src_one_inls) (Ai.look spec_l00Src_one_cons) (Ai.look spec_l00Src_one_taks) (Ai.look spec_l00Src_one_inps) (fun f id => match Ai.look spec_l00Src_one_cuts f with | some l => Ai.look l id | none => none) k [] false
theorem spec_l00Src_one_tabs (k : Nat) : TabsOk Try.prog (spec_l00Src_one_cx k) := ⟨tab_mk tabs_ok _ _ _ _ _ _ _ _, look_all (Q := ConOk Try.prog) _ trivial, look_all (Q := TakOk Try.prog) _ trivial, look_all (Q := InpOk Try.prog) _ ⟨spec_l00Src_pick_inpOk, trivial⟩, look_all (Q := InlOk Try.prog) _ trivial, mixed_ok⟩
abbrev spec_l00Src_one_sh : List Sh := [.pl .bool]
noncomputable def spec_l00Src_one_r (a0 : ((List Int) × (Int × (Int × Unit)))) (a1 : Int) : Option (((List Int) × (Int × (Int × Unit))) × shDen spec_l00Src_one_sh) :=
 (bindO (spec_l00Src_pick_r a0 a1) fun (b1 : (((List Int) × (Int × (Int × Unit))) × Int)) => (some (b1.1, (decide (b1.2 = (0 : Int))))))
theorem spec_l00Src_one_start (k : Nat) (a0 : ((List Int) × (Int × (Int × Unit)))) (a1 : Int) : fnIK (spec_l00Src_one_cx k) 8 18 spec_l00Src_one_i (.var (.pair (.slice (.int .u8)) (.pair (.int .i64) (.pair (.int .u64) .unit)))) spec_l00Src_one_sh a0 [.pv (.int .i64) a1] =
 ((bindO (spec_l00Src_pick_r a0 a1) fun (b1 : (((List Int) × (Int × (Int × Unit))) × Int)) => (some (b1.1, (decide (b1.2 = (0 : Int)))))) : Option (((List Int) × (Int × (Int × Unit))) × shDen spec_l00Src_one_sh)) := by kernel_rfl

theorem spec_l00Src_one_run (a0 : ((List Int) × (Int × (Int × Unit)))) (a1 : Int) : fnIK (spec_l00Src_one_cx FUEL) 8 18 spec_l00Src_one_i (.var (.pair (.slice (.int .u8)) (.pair (.int .i64) (.pair (.int .u64) .unit)))) spec_l00Src_one_sh a0 [.pv (.int .i64) a1] = spec_l00Src_one_r a0 a1 :=
 (spec_l00Src_one_start FUEL a0 a1).trans (rfl)

noncomputable def spec_l00Src_one_inp : ConI := { k := (.var (.pair (.slice (.int .u8)) (.pair (.int .i64) (.pair (.int .u64) .unit)))), ps := (.pair (.int .i64) .unit), sh := spec_l00Src_one_sh, raw := fun x q => spec_l00Src_one_r x q.1 }
theorem spec_l00Src_one_inpOk : InpOk Try.prog 18 spec_l00Src_one_inp := inp_of_fn (spec_l00Src_one_tabs FUEL) (depth := 8) spec_l00Src_one_ok fun x q z h => (spec_l00Src_one_run x q.1).trans h

noncomputable def spec_l00Src_text_inls : List (Nat × Inl) := []
noncomputable def spec_l00Src_text_cons : List (Nat × Con) := []
noncomputable def spec_l00Src_text_taks : List (Nat × ConT) := []
noncomputable def spec_l00Src_text_inps : List (Nat × ConI) := [(25, spec_l00Src_pick_inp)]
noncomputable def spec_l00Src_text_cuts : List (Nat × List (Nat × Cut)) := []
noncomputable def spec_l00Src_text_cx (k : Nat) : Cx := mkCx tys tbytes telem nozero (Ai.look spec_l00Src_text_inls) (Ai.look spec_l00Src_text_cons) (Ai.look spec_l00Src_text_taks) (Ai.look spec_l00Src_text_inps) (fun f id => match Ai.look spec_l00Src_text_cuts f with | some l => Ai.look l id | none => none) k [] false
theorem spec_l00Src_text_tabs (k : Nat) : TabsOk Try.prog (spec_l00Src_text_cx k) := ⟨tab_mk tabs_ok _ _ _ _ _ _ _ _, look_all (Q := ConOk Try.prog) _ trivial, look_all (Q := TakOk Try.prog) _ trivial, look_all (Q := InpOk Try.prog) _ ⟨spec_l00Src_pick_inpOk, trivial⟩, look_all (Q := InlOk Try.prog) _ trivial, mixed_ok⟩
abbrev spec_l00Src_text_sh : List Sh := [.pl .str]
noncomputable def spec_l00Src_text_r (a0 : ((List Int) × (Int × (Int × Unit)))) (a1 : (List (List Int))) : Option (((List Int) × (Int × (Int × Unit))) × shDen spec_l00Src_text_sh) :=
 (bindO (spec_l00Src_pick_r a0 (a1.length : Int)) fun (b1 : (((List Int) × (Int × (Int × Unit))) × Int)) => (cond ((decide ((0 : Int) ≤ b1.2)) && (decide (b1.2 < (a1.length : Int))))
 (some (b1.1, (a1.getD (b1.2.toNat) [])))
 none))
theorem spec_l00Src_text_start (k : Nat) (a0 : ((List Int) × (Int × (Int × Unit)))) (a1 : (List (List Int))) : fnIK (spec_l00Src_text_cx k) 8 19 spec_l00Src_text_i (.var (.pair (.slice (.int .u8)) (.pair (.int .i64) (.pair (.int .u64) .unit)))) spec_l00Src_text_sh a0 [.pv (.slice .str) a1] =
 ((bindO (spec_l00Src_pick_r a0 (a1.length : Int)) fun (b1 : (((List Int) × (Int × (Int × Unit))) × Int)) => (cond ((decide ((0 : Int) ≤ b1.2)) && (decide (b1.2 < (a1.length : Int))))
 (some (b1.1, (a1.getD (b1.2.toNat) [])))
 none)) : Option (((List Int) × (Int × (Int × Unit))) × shDen spec_l00Src_text_sh)) := by kernel_rfl

theorem spec_l00Src_text_run (a0 : ((List Int) × (Int × (Int × Unit)))) (a1 : (List (List Int))) : fnIK (spec_l00Src_text_cx FUEL) 8 19 spec_l00Src_text_i (.var (.pair (.slice (.int .u8)) (.pair (.int .i64) (.pair (.int .u64) .unit)))) spec_l00Src_text_sh a0 [.pv (.slice .str) a1] = spec_l00Src_text_r a0 a1 :=
 (spec_l00Src_text_start FUEL a0 a1).trans (rfl)

noncomputable def spec_l00Src_text_inp : ConI := { k := (.var (.pair (.slice (.int .u8)) (.pair (.int .i64) (.pair (.int .u64) .unit)))), ps := (.pair (.slice .str) .unit), sh := spec_l00Src_text_sh, raw := fun x q => spec_l00Src_text_r x q.1 }
theorem spec_l00Src_text_inpOk : InpOk Try.prog 19 spec_l00Src_text_inp := inp_of_fn (spec_l00Src_text_tabs FUEL) (depth := 8) spec_l00Src_text_ok fun x q z h => (spec_l00Src_text_run x q.1).trans h

noncomputable def spec_l07Map_l0_cut : Cut := { keep := [0, 3, 4], stk := [], ids := [7, 90030], own := [(3, 90030, 24)], outs := [(1, [3], [7, 90030])] }
noncomputable def spec_l07Map_inls : List (Nat × Inl) := []
noncomputable def spec_l07Map_cons : List (Nat × Con) := []
noncomputable def spec_l07Map_taks : List (Nat × ConT) := []
noncomputable def spec_l07Map_inps : List (Nat × ConI) := [(18, spec_l00Src_one_inp), (19, spec_l00Src_text_inp)]
noncomputable def spec_l07Map_cuts : List (Nat × List (Nat × Cut)) := [(11, [(0, spec_l07Map_l0_cut)])]
noncomputable def spec_l07Map_cx (k : Nat) : Cx := mkCx tys tbytes telem nozero (Ai.look spec_l07Map_inls) (Ai.look spec_l07Map_cons) (Ai.look spec_l07Map_taks) (Ai.look spec_l07Map_inps) (fun f id => match Ai.look spec_l07Map_cuts f with | some l => Ai.look l id | none => none) k [] false
theorem spec_l07Map_tabs (k : Nat) : TabsOk Try.prog (spec_l07Map_cx k) := ⟨tab_mk tabs_ok _ _ _ _ _ _ _ _, look_all (Q := ConOk Try.prog) _ trivial, look_all (Q := TakOk Try.prog) _ trivial, look_all (Q := InpOk Try.prog) _ ⟨spec_l00Src_one_inpOk, spec_l00Src_text_inpOk, trivial⟩, look_all (Q := InlOk Try.prog) _ trivial, mixed_ok⟩
abbrev spec_l07Map_sh : List Sh := [.own 43 (.pair .str (.pair .str .unit))]
noncomputable def spec_l07Map_l0_s (x4 : Int) (y7 : ((List Int) × (Int × (Int × Unit)))) (z90030 : (List (List Int × (List Int × Unit)))) : St := { env := [.ptr 7 (.pair (.slice (.int .u8)) (.pair (.int .i64) (.pair (.int .u64) .unit))) [], .dead, .dead, .sl 90030 (.pair .str (.pair .str .unit)), .pv (.int .i64) x4, .dead, .dead, .dead, .dead, .dead, .dead, .dead, .dead, .dead, .dead, .dead, .dead, .dead, .dead, .dead, .dead, .dead, .dead, .dead], stk := [], heap := [(7, .var (.pair (.slice (.int .u8)) (.pair (.int .i64) (.pair (.int .u64) .unit))) (.pv (.pair (.slice (.int .u8)) (.pair (.int .i64) (.pair (.int .u64) .unit))) y7)), (90030, .arr 43 (.pair .str (.pair .str .unit)) z90030)] }
noncomputable def spec_l07Map_l0_o0 (y7 : ((List Int) × (Int × (Int × Unit)))) (z90030 : (List (List Int × (List Int × Unit)))) : St := { env := [.dead, .dead, .dead, .sl 90030 (.pair .str (.pair .str .unit)), .dead, .dead, .dead, .dead, .dead, .dead, .dead, .dead, .dead, .dead, .dead, .dead, .dead, .dead, .dead, .dead, .dead, .dead, .dead, .dead], stk := [], heap := [(7, .var (.pair (.slice (.int .u8)) (.pair (.int .i64) (.pair (.int .u64) .unit))) (.pv (.pair (.slice (.int .u8)) (.pair (.int .i64) (.pair (.int .u64) .unit))) y7)), (90030, .arr 43 (.pair .str (.pair .str .unit)) z90030)] }
noncomputable def spec_l07Map_l0_b (rec : Int → ((List Int) × (Int × (Int × Unit))) → (List (List Int × (List Int × Unit))) → Option (((List Int) × (Int × (Int × Unit))) × shDen spec_l07Map_sh)) (ke0 : ((List Int) × (Int × (Int × Unit))) → (List (List Int × (List Int × Unit))) → Option (((List Int) × (Int × (Int × Unit))) × shDen spec_l07Map_sh)) (x4 : Int) (y7 : ((List Int) × (Int × (Int × Unit)))) (z90030 : (List (List Int × (List Int × Unit)))) : Option (((List Int) × (Int × (Int × Unit))) × shDen spec_l07Map_sh) :=
 (cond (decide (x4 < (4 : Int)))
 (bindO (spec_l00Src_one_r y7 (2 : Int)) fun (b3 : (((List Int) × (Int × (Int × Unit))) × Bool)) => (cond b3.2
 (cond ((decide ((0 : Int) ≤ (IntKind.wrap .i64 (x4 + (1 : Int))))) && (decide ((IntKind.wrap .i64 (x4 + (1 : Int))) ≤ (4 : Int))))
 (cond ((decide ((0 : Int) ≤ x4)) && (decide (x4 ≤ (IntKind.wrap .i64 (x4 + (1 : Int))))))
 (bindO (spec_l00Src_text_r b3.1 ([[(49 : Int)], [(50 : Int)], [(51 : Int)], []])) fun (b4 : (((List Int) × (Int × (Int × Unit))) × List Int)) => (cond (decide ((z90030.length + 1) * 32 ≤ 140737488355328) && decide (z90030.length + 1 ≤ 9223372036854775807))
 (rec (IntKind.wrap .i64 (x4 + (1 : Int))) b4.1 (z90030 ++ [((cutL [(119 : Int), (120 : Int), (121 : Int), (122 : Int)] (x4.toNat) ((IntKind.wrap .i64 (x4 + (1 : Int))).toNat)), (b4.2, ()))]))
 none))
 none)
 none)
 (rec (IntKind.wrap .i64 (x4 + (1 : Int))) b3.1 z90030)))
 (ke0 y7 z90030))
noncomputable def spec_l07Map_l0_L (ke0 : ((List Int) × (Int × (Int × Unit))) → (List (List Int × (List Int × Unit))) → Option (((List Int) × (Int × (Int × Unit))) × shDen spec_l07Map_sh))  : Nat → Int → ((List Int) × (Int × (Int × Unit))) → (List (List Int × (List Int × Unit))) → Option (((List Int) × (Int × (Int × Unit))) × shDen spec_l07Map_sh)
 | 0 => fun _ _ _ => none
 | n + 1 => spec_l07Map_l0_b (spec_l07Map_l0_L ke0  n) ke0 
noncomputable def spec_l07Map_r (a0 : ((List Int) × (Int × (Int × Unit)))) : Option (((List Int) × (Int × (Int × Unit))) × shDen spec_l07Map_sh) :=
 (spec_l07Map_l0_L (fun y7 z90030 => (some (y7, z90030))) FUEL (0 : Int) a0 [])
theorem spec_l07Map_l0_round (k : Nat) (K : Ex → St → Option (((List Int) × (Int × (Int × Unit))) × shDen spec_l07Map_sh)) (n : Nat) (x4 : Int) (y7 : ((List Int) × (Int × (Int × Unit)))) (z90030 : (List (List Int × (List Int × Unit)))) : (loopK (spec_l07Map_cx k) 0 (execK (spec_l07Map_cx k) (callK (spec_l07Map_cx k) 8) 0 11 (sub spec_l07Map_c [1, 1, 0, 1, 0, 0])) spec_l07Map_l0_cut K (n + 1) (spec_l07Map_l0_s x4 y7 z90030) : Option (((List Int) × (Int × (Int × Unit))) × shDen spec_l07Map_sh)) =
 ((cond (decide (x4 < (4 : Int)))
 (bindO (spec_l00Src_one_r y7 (2 : Int)) fun (b3 : (((List Int) × (Int × (Int × Unit))) × Bool)) => (cond b3.2
 (cond ((decide ((0 : Int) ≤ (IntKind.wrap .i64 (x4 + (1 : Int))))) && (decide ((IntKind.wrap .i64 (x4 + (1 : Int))) ≤ (4 : Int))))
 (cond ((decide ((0 : Int) ≤ x4)) && (decide (x4 ≤ (IntKind.wrap .i64 (x4 + (1 : Int))))))
 (bindO (spec_l00Src_text_r b3.1 ([[(49 : Int)], [(50 : Int)], [(51 : Int)], []])) fun (b4 : (((List Int) × (Int × (Int × Unit))) × List Int)) => (cond (decide ((z90030.length + 1) * 32 ≤ 140737488355328) && decide (z90030.length + 1 ≤ 9223372036854775807))
 (loopK (spec_l07Map_cx k) 0 (execK (spec_l07Map_cx k) (callK (spec_l07Map_cx k) 8) 0 11 (sub spec_l07Map_c [1, 1, 0, 1, 0, 0])) spec_l07Map_l0_cut K n (spec_l07Map_l0_s (IntKind.wrap .i64 (x4 + (1 : Int))) b4.1 (z90030 ++ [((cutL [(119 : Int), (120 : Int), (121 : Int), (122 : Int)] (x4.toNat) ((IntKind.wrap .i64 (x4 + (1 : Int))).toNat)), (b4.2, ()))])))
 none))
 none)
 none)
 (loopK (spec_l07Map_cx k) 0 (execK (spec_l07Map_cx k) (callK (spec_l07Map_cx k) 8) 0 11 (sub spec_l07Map_c [1, 1, 0, 1, 0, 0])) spec_l07Map_l0_cut K n (spec_l07Map_l0_s (IntKind.wrap .i64 (x4 + (1 : Int))) b3.1 z90030))))
 (K (.exit 0) (spec_l07Map_l0_o0 y7 z90030))) : Option (((List Int) × (Int × (Int × Unit))) × shDen spec_l07Map_sh)) := by kernel_rfl

theorem spec_l07Map_l0_exit0 (k : Nat)  (y7 : ((List Int) × (Int × (Int × Unit)))) (z90030 : (List (List Int × (List Int × Unit)))) : ((blkK 0 (seqK (execK (spec_l07Map_cx k) (callK (spec_l07Map_cx k) 8) 0 11 (sub spec_l07Map_c [1, 1, 1])) (finIK (spec_l07Map_cx k) spec_l07Map_i (.var (.pair (.slice (.int .u8)) (.pair (.int .i64) (.pair (.int .u64) .unit)))) spec_l07Map_sh))) (.exit 0) (spec_l07Map_l0_o0 y7 z90030) : Option (((List Int) × (Int × (Int × Unit))) × shDen spec_l07Map_sh)) =
 ((some (y7, z90030)) : Option (((List Int) × (Int × (Int × Unit))) × shDen spec_l07Map_sh)) := by kernel_rfl

theorem spec_l07Map_l0_congr (ke0 : ((List Int) × (Int × (Int × Unit))) → (List (List Int × (List Int × Unit))) → Option (((List Int) × (Int × (Int × Unit))) × shDen spec_l07Map_sh)) (ke0' : ((List Int) × (Int × (Int × Unit))) → (List (List Int × (List Int × Unit))) → Option (((List Int) × (Int × (Int × Unit))) × shDen spec_l07Map_sh))  (n : Nat) (x4 : Int) (y7 : ((List Int) × (Int × (Int × Unit)))) (z90030 : (List (List Int × (List Int × Unit)))) (hke0 : ∀ y7 z90030, ke0 y7 z90030 = ke0' y7 z90030) : spec_l07Map_l0_L ke0  n x4 y7 z90030 = spec_l07Map_l0_L ke0'  n x4 y7 z90030 := by
 have : ke0 = ke0' := (by funext y7 z90030; exact hke0 y7 z90030); subst this; rfl

theorem spec_l07Map_l0_L_eq (K : Ex → St → Option (((List Int) × (Int × (Int × Unit))) × shDen spec_l07Map_sh))  : ∀ (n : Nat) (x4 : Int) (y7 : ((List Int) × (Int × (Int × Unit)))) (z90030 : (List (List Int × (List Int × Unit)))), (loopK (spec_l07Map_cx FUEL) 0 (execK (spec_l07Map_cx FUEL) (callK (spec_l07Map_cx FUEL) 8) 0 11 (sub spec_l07Map_c [1, 1, 0, 1, 0, 0])) spec_l07Map_l0_cut K n (spec_l07Map_l0_s x4 y7 z90030) : Option (((List Int) × (Int × (Int × Unit))) × shDen spec_l07Map_sh)) = spec_l07Map_l0_L (fun y7 z90030 => K (.exit 0) (spec_l07Map_l0_o0 y7 z90030))  n x4 y7 z90030 := by
 intro n
 induction n with
 | zero => intros; rfl
 | succ n ih =>
  intro x4 y7 z90030
  exact (spec_l07Map_l0_round FUEL K n  x4 y7 z90030).trans (condC (bindC (fun b3 => condC (condC (condC (bindC (fun b4 => condC (ih (IntKind.wrap .i64 (x4 + (1 : Int))) b4.1 (z90030 ++ [((cutL [(119 : Int), (120 : Int), (121 : Int), (122 : Int)] (x4.toNat) ((IntKind.wrap .i64 (x4 + (1 : Int))).toNat)), (b4.2, ()))])) (rfl))) (rfl)) (rfl)) (ih (IntKind.wrap .i64 (x4 + (1 : Int))) b3.1 z90030))) (rfl))

theorem spec_l07Map_start (k : Nat) (a0 : ((List Int) × (Int × (Int × Unit)))) : fnIK (spec_l07Map_cx k) 8 11 spec_l07Map_i (.var (.pair (.slice (.int .u8)) (.pair (.int .i64) (.pair (.int .u64) .unit)))) spec_l07Map_sh a0 [] =
 ((loopK (spec_l07Map_cx k) 0 (execK (spec_l07Map_cx k) (callK (spec_l07Map_cx k) 8) 0 11 (sub spec_l07Map_c [1, 1, 0, 1, 0, 0])) spec_l07Map_l0_cut (blkK 0 (seqK (execK (spec_l07Map_cx k) (callK (spec_l07Map_cx k) 8) 0 11 (sub spec_l07Map_c [1, 1, 1])) (finIK (spec_l07Map_cx k) spec_l07Map_i (.var (.pair (.slice (.int .u8)) (.pair (.int .i64) (.pair (.int .u64) .unit)))) spec_l07Map_sh))) k (spec_l07Map_l0_s (0 : Int) a0 [])) : Option (((List Int) × (Int × (Int × Unit))) × shDen spec_l07Map_sh)) := by kernel_rfl

theorem spec_l07Map_run (a0 : ((List Int) × (Int × (Int × Unit)))) : fnIK (spec_l07Map_cx FUEL) 8 11 spec_l07Map_i (.var (.pair (.slice (.int .u8)) (.pair (.int .i64) (.pair (.int .u64) .unit)))) spec_l07Map_sh a0 [] = spec_l07Map_r a0 :=
 (spec_l07Map_start FUEL a0).trans ((spec_l07Map_l0_L_eq _  FUEL (0 : Int) a0 []).trans (spec_l07Map_l0_congr _ _  FUEL (0 : Int) a0 [] (fun y7 z90030 => (spec_l07Map_l0_exit0 FUEL  y7 z90030).trans (rfl))))

noncomputable def spec_l07Map_inp : ConI := { k := (.var (.pair (.slice (.int .u8)) (.pair (.int .i64) (.pair (.int .u64) .unit)))), ps := .unit, sh := spec_l07Map_sh, raw := fun x q => spec_l07Map_r x  }
theorem spec_l07Map_inpOk : InpOk Try.prog 11 spec_l07Map_inp := inp_of_fn (spec_l07Map_tabs FUEL) (depth := 8) spec_l07Map_ok fun x q z h => (spec_l07Map_run x ).trans h

noncomputable def spec_A2Map_inls : List (Nat × Inl) := [(12, spec_l00From_i)]
noncomputable def spec_A2Map_cons : List (Nat × Con) := []
noncomputable def spec_A2Map_taks : List (Nat × ConT) := []
noncomputable def spec_A2Map_inps : List (Nat × ConI) := [(11, spec_l07Map_inp)]
noncomputable def spec_A2Map_cuts : List (Nat × List (Nat × Cut)) := []
noncomputable def spec_A2Map_cx (k : Nat) : Cx := mkCx tys tbytes telem nozero (Ai.look spec_A2Map_inls) (Ai.look spec_A2Map_cons) (Ai.look spec_A2Map_taks) (Ai.look spec_A2Map_inps) (fun f id => match Ai.look spec_A2Map_cuts f with | some l => Ai.look l id | none => none) k [] false
theorem spec_A2Map_tabs (k : Nat) : TabsOk Try.prog (spec_A2Map_cx k) := ⟨tab_mk tabs_ok _ _ _ _ _ _ _ _, look_all (Q := ConOk Try.prog) _ trivial, look_all (Q := TakOk Try.prog) _ trivial, look_all (Q := InpOk Try.prog) _ ⟨spec_l07Map_inpOk, trivial⟩, look_all (Q := InlOk Try.prog) _ ⟨spec_l00From_ok, trivial⟩, mixed_ok⟩
abbrev spec_A2Map_sh : List Sh := [.own 43 (.pair .str (.pair .str .unit))]
noncomputable def spec_A2Map_r (a0 : (List Int)) : Option (shDen spec_A2Map_sh) :=
 (bindO (spec_l07Map_r (a0, ((0 : Int), ((0 : Int), ())))) fun (b1 : (((List Int) × (Int × (Int × Unit))) × (List (List Int × (List Int × Unit))))) => (some b1.2))
theorem spec_A2Map_start (k : Nat) (a0 : (List Int)) : fnK (spec_A2Map_cx k) 8 5 spec_A2Map_i spec_A2Map_sh [.pv (.slice (.int .u8)) a0] =
 ((bindO (spec_l07Map_r (a0, ((0 : Int), ((0 : Int), ())))) fun (b1 : (((List Int) × (Int × (Int × Unit))) × (List (List Int × (List Int × Unit))))) => (some b1.2)) : Option (shDen spec_A2Map_sh)) := by kernel_rfl

theorem spec_A2Map_run (a0 : (List Int)) : fnK (spec_A2Map_cx FUEL) 8 5 spec_A2Map_i spec_A2Map_sh [.pv (.slice (.int .u8)) a0] = spec_A2Map_r a0 :=
 (spec_A2Map_start FUEL a0).trans (rfl)

noncomputable def spec_A2Map_con : Con := { ps := (.pair (.slice (.int .u8)) .unit), sh := spec_A2Map_sh, raw := fun x => spec_A2Map_r x.1 }
theorem spec_A2Map_conOk : ConOk Try.prog 5 spec_A2Map_con := con_of_fn (spec_A2Map_tabs FUEL) (depth := 8) spec_A2Map_ok fun x y h => (spec_A2Map_run x.1).trans h

noncomputable def impl_within_inls : List (Nat × Inl) := []
noncomputable def impl_within_cons : List (Nat × Con) := []
noncomputable def impl_within_taks : List (Nat × ConT) := []
noncomputable def impl_within_inps : List (Nat × ConI) := []
noncomputable def impl_within_cuts : List (Nat × List (Nat × Cut)) := []
noncomputable def impl_within_cx (k : Nat) : Cx := mkCx tys tbytes telem nozero (Ai.look impl_within_inls) (Ai.look impl_within_cons) (Ai.look impl_within_taks) (Ai.look impl_within_inps) (fun f id => match Ai.look impl_within_cuts f with | some l => Ai.look l id | none => none) k [] false
theorem impl_within_tabs (k : Nat) : TabsOk Try.prog (impl_within_cx k) := ⟨tab_mk tabs_ok _ _ _ _ _ _ _ _, look_all (Q := ConOk Try.prog) _ trivial, look_all (Q := TakOk Try.prog) _ trivial, look_all (Q := InpOk Try.prog) _ trivial, look_all (Q := InlOk Try.prog) _ trivial, mixed_ok⟩
abbrev impl_within_sh : List Sh := [.pl .bool]
noncomputable def impl_within_r (a0 : Int) (a1 : Int) (a2 : Int) : Option (shDen impl_within_sh) :=
 (cond (decide (a1 ≤ a0))
 (some (decide (a0 ≤ a2)))
 (some false))
theorem impl_within_start (k : Nat) (a0 : Int) (a1 : Int) (a2 : Int) : fnK (impl_within_cx k) 8 35 impl_within_i impl_within_sh [.pv (.int .i64) a0, .pv (.int .i64) a1, .pv (.int .i64) a2] =
 ((cond (decide (a1 ≤ a0))
 (some (decide (a0 ≤ a2)))
 (some false)) : Option (shDen impl_within_sh)) := by kernel_rfl

theorem impl_within_run (a0 : Int) (a1 : Int) (a2 : Int) : fnK (impl_within_cx FUEL) 8 35 impl_within_i impl_within_sh [.pv (.int .i64) a0, .pv (.int .i64) a1, .pv (.int .i64) a2] = impl_within_r a0 a1 a2 :=
 (impl_within_start FUEL a0 a1 a2).trans (rfl)

noncomputable def impl_within_con : Con := { ps := (.pair (.int .i64) (.pair (.int .i64) (.pair (.int .i64) .unit))), sh := impl_within_sh, raw := fun x => impl_within_r x.1 x.2.1 x.2.2.1 }
theorem impl_within_conOk : ConOk Try.prog 35 impl_within_con := con_of_fn (impl_within_tabs FUEL) (depth := 8) impl_within_ok fun x y h => (impl_within_run x.1 x.2.1 x.2.2.1).trans h

noncomputable def impl_isName_inls : List (Nat × Inl) := []
noncomputable def impl_isName_cons : List (Nat × Con) := [(35, impl_within_con)]
noncomputable def impl_isName_taks : List (Nat × ConT) := []
noncomputable def impl_isName_inps : List (Nat × ConI) := []
noncomputable def impl_isName_cuts : List (Nat × List (Nat × Cut)) := []
noncomputable def impl_isName_cx (k : Nat) : Cx := mkCx tys tbytes telem nozero (Ai.look impl_isName_inls) (Ai.look impl_isName_cons) (Ai.look impl_isName_taks) (Ai.look impl_isName_inps) (fun f id => match Ai.look impl_isName_cuts f with | some l => Ai.look l id | none => none) k [] false
theorem impl_isName_tabs (k : Nat) : TabsOk Try.prog (impl_isName_cx k) := ⟨tab_mk tabs_ok _ _ _ _ _ _ _ _, look_all (Q := ConOk Try.prog) _ ⟨impl_within_conOk, trivial⟩, look_all (Q := TakOk Try.prog) _ trivial, look_all (Q := InpOk Try.prog) _ trivial, look_all (Q := InlOk Try.prog) _ trivial, mixed_ok⟩
abbrev impl_isName_sh : List Sh := [.pl .bool]
noncomputable def impl_isName_r (a0 : List Int) : Option (shDen impl_isName_sh) :=
 (bindO (impl_within_r (a0.length : Int) (1 : Int) (24 : Int)) fun (b1 : Bool) => (some b1))
theorem impl_isName_start (k : Nat) (a0 : List Int) : fnK (impl_isName_cx k) 8 26 impl_isName_i impl_isName_sh [.pv .str a0] =
 ((bindO (impl_within_r (a0.length : Int) (1 : Int) (24 : Int)) fun (b1 : Bool) => (some b1)) : Option (shDen impl_isName_sh)) := by kernel_rfl

theorem impl_isName_run (a0 : List Int) : fnK (impl_isName_cx FUEL) 8 26 impl_isName_i impl_isName_sh [.pv .str a0] = impl_isName_r a0 :=
 (impl_isName_start FUEL a0).trans (rfl)

noncomputable def impl_isName_con : Con := { ps := (.pair .str .unit), sh := impl_isName_sh, raw := fun x => impl_isName_r x.1 }
theorem impl_isName_conOk : ConOk Try.prog 26 impl_isName_con := con_of_fn (impl_isName_tabs FUEL) (depth := 8) impl_isName_ok fun x y h => (impl_isName_run x.1).trans h

noncomputable def impl_ValidEntry_inls : List (Nat × Inl) := []
noncomputable def impl_ValidEntry_cons : List (Nat × Con) := [(26, impl_isName_con)]
noncomputable def impl_ValidEntry_taks : List (Nat × ConT) := []
noncomputable def impl_ValidEntry_inps : List (Nat × ConI) := []
noncomputable def impl_ValidEntry_cuts : List (Nat × List (Nat × Cut)) := []
noncomputable def impl_ValidEntry_cx (k : Nat) : Cx := mkCx tys tbytes telem nozero (Ai.look impl_ValidEntry_inls) (Ai.look impl_ValidEntry_cons) (Ai.look impl_ValidEntry_taks) (Ai.look impl_ValidEntry_inps) (fun f id => match Ai.look impl_ValidEntry_cuts f with | some l => Ai.look l id | none => none) k [] false
theorem impl_ValidEntry_tabs (k : Nat) : TabsOk Try.prog (impl_ValidEntry_cx k) := ⟨tab_mk tabs_ok _ _ _ _ _ _ _ _, look_all (Q := ConOk Try.prog) _ ⟨impl_isName_conOk, trivial⟩, look_all (Q := TakOk Try.prog) _ trivial, look_all (Q := InpOk Try.prog) _ trivial, look_all (Q := InlOk Try.prog) _ trivial, mixed_ok⟩
abbrev impl_ValidEntry_sh : List Sh := [.pl .bool]
noncomputable def impl_ValidEntry_r (a0 : (List Int × (List Int × Unit))) : Option (shDen impl_ValidEntry_sh) :=
 (bindO (impl_isName_r a0.1) fun (b1 : Bool) => (cond b1
 (some (decide ((a0.2.1.length : Int) ≤ (64 : Int))))
 (some false)))
theorem impl_ValidEntry_start (k : Nat) (a0 : (List Int × (List Int × Unit))) : fnK (impl_ValidEntry_cx k) 8 20 impl_ValidEntry_i impl_ValidEntry_sh [.pv (.pair .str (.pair .str .unit)) a0] =
 ((bindO (impl_isName_r a0.1) fun (b1 : Bool) => (cond b1
 (some (decide ((a0.2.1.length : Int) ≤ (64 : Int))))
 (some false))) : Option (shDen impl_ValidEntry_sh)) := by kernel_rfl

theorem impl_ValidEntry_run (a0 : (List Int × (List Int × Unit))) : fnK (impl_ValidEntry_cx FUEL) 8 20 impl_ValidEntry_i impl_ValidEntry_sh [.pv (.pair .str (.pair .str .unit)) a0] = impl_ValidEntry_r a0 :=
 (impl_ValidEntry_start FUEL a0).trans (rfl)

noncomputable def impl_ValidEntry_con : Con := { ps := (.pair (.pair .str (.pair .str .unit)) .unit), sh := impl_ValidEntry_sh, raw := fun x => impl_ValidEntry_r x.1 }
theorem impl_ValidEntry_conOk : ConOk Try.prog 20 impl_ValidEntry_con := con_of_fn (impl_ValidEntry_tabs FUEL) (depth := 8) impl_ValidEntry_ok fun x y h => (impl_ValidEntry_run x.1).trans h

noncomputable def impl_ValidEntries_l0_cut : Cut := { keep := [0, 5, 6, 7], stk := [], ids := [], own := [], outs := [(0, [2], []), (1, [0], [])] }
noncomputable def impl_ValidEntries_inls : List (Nat × Inl) := []
noncomputable def impl_ValidEntries_cons : List (Nat × Con) := [(20, impl_ValidEntry_con)]
noncomputable def impl_ValidEntries_taks : List (Nat × ConT) := []
noncomputable def impl_ValidEntries_inps : List (Nat × ConI) := []
noncomputable def impl_ValidEntries_cuts : List (Nat × List (Nat × Cut)) := [(13, [(0, impl_ValidEntries_l0_cut)])]
noncomputable def impl_ValidEntries_cx (k : Nat) : Cx := mkCx tys tbytes telem nozero (Ai.look impl_ValidEntries_inls) (Ai.look impl_ValidEntries_cons) (Ai.look impl_ValidEntries_taks) (Ai.look impl_ValidEntries_inps) (fun f id => match Ai.look impl_ValidEntries_cuts f with | some l => Ai.look l id | none => none) k [] false
theorem impl_ValidEntries_tabs (k : Nat) : TabsOk Try.prog (impl_ValidEntries_cx k) := ⟨tab_mk tabs_ok _ _ _ _ _ _ _ _, look_all (Q := ConOk Try.prog) _ ⟨impl_ValidEntry_conOk, trivial⟩, look_all (Q := TakOk Try.prog) _ trivial, look_all (Q := InpOk Try.prog) _ trivial, look_all (Q := InlOk Try.prog) _ trivial, mixed_ok⟩
abbrev impl_ValidEntries_sh : List Sh := [.pl .bool]
noncomputable def impl_ValidEntries_l0_s (a0 : (List (List Int × (List Int × Unit)))) (x7 : Int) : St := { env := [.pv (.slice (.pair .str (.pair .str .unit))) a0, .dead, .dead, .dead, .dead, .pv (.slice (.pair .str (.pair .str .unit))) a0, .pv (.int .i64) (a0.length : Int), .pv (.int .i64) x7, .dead, .dead, .dead, .dead, .dead, .dead, .dead, .dead, .dead, .dead, .dead, .dead, .dead, .dead, .dead, .dead, .dead, .dead, .dead, .dead, .dead, .dead, .dead, .dead, .dead, .dead], stk := [], heap := [] }
noncomputable def impl_ValidEntries_l0_o  : St := { env := [.dead, .dead, .pv .bool false, .dead, .dead, .dead, .dead, .dead, .dead, .dead, .dead, .dead, .dead, .dead, .dead, .dead, .dead, .dead, .dead, .dead, .dead, .dead, .dead, .dead, .dead, .dead, .dead, .dead, .dead, .dead, .dead, .dead, .dead, .dead], stk := [], heap := [] }
noncomputable def impl_ValidEntries_l0_o0 (a0 : (List (List Int × (List Int × Unit)))) : St := { env := [.pv (.slice (.pair .str (.pair .str .unit))) a0, .dead, .dead, .dead, .dead, .dead, .dead, .dead, .dead, .dead, .dead, .dead, .dead, .dead, .dead, .dead, .dead, .dead, .dead, .dead, .dead, .dead, .dead, .dead, .dead, .dead, .dead, .dead, .dead, .dead, .dead, .dead, .dead, .dead], stk := [], heap := [] }
noncomputable def impl_ValidEntries_l0_b (rec : Int → Option (shDen impl_ValidEntries_sh)) (kr : Option (shDen impl_ValidEntries_sh)) (ke0 : Option (shDen impl_ValidEntries_sh)) (a0 : (List (List Int × (List Int × Unit)))) (x7 : Int) : Option (shDen impl_ValidEntries_sh) :=
 (cond (decide (x7 < (a0.length : Int)))
 (cond ((decide ((0 : Int) ≤ x7)) && (decide (x7 < (a0.length : Int))))
 (bindO (impl_ValidEntry_r (a0.getD (x7.toNat) ([], ([], ())))) fun (b2 : Bool) => (cond (!b2)
 (kr)
 (cond (decide ((0 : Int) < x7))
 (cond ((decide ((0 : Int) ≤ (IntKind.wrap .i64 (x7 - (1 : Int))))) && (decide ((IntKind.wrap .i64 (x7 - (1 : Int))) < (a0.length : Int))))
 (cond ((ltI ((a0.getD (x7.toNat) ([], ([], ()))).1) ((a0.getD ((IntKind.wrap .i64 (x7 - (1 : Int))).toNat) ([], ([], ()))).1)) || (decide ((a0.getD (x7.toNat) ([], ([], ()))).1 = (a0.getD ((IntKind.wrap .i64 (x7 - (1 : Int))).toNat) ([], ([], ()))).1)))
 (kr)
 (rec (IntKind.wrap .i64 (x7 + (1 : Int)))))
 none)
 (rec (IntKind.wrap .i64 (x7 + (1 : Int)))))))
 none)
 (ke0))
noncomputable def impl_ValidEntries_l0_L (kr : Option (shDen impl_ValidEntries_sh)) (ke0 : Option (shDen impl_ValidEntries_sh)) (a0 : (List (List Int × (List Int × Unit)))) : Nat → Int → Option (shDen impl_ValidEntries_sh)
 | 0 => fun _ => none
 | n + 1 => impl_ValidEntries_l0_b (impl_ValidEntries_l0_L kr ke0 a0 n) kr ke0 a0
noncomputable def impl_ValidEntries_r (a0 : (List (List Int × (List Int × Unit)))) : Option (shDen impl_ValidEntries_sh) :=
 (impl_ValidEntries_l0_L (some false) (some (decide ((a0.length : Int) ≤ (64 : Int)))) a0 FUEL (0 : Int))
theorem impl_ValidEntries_l0_round (k : Nat) (K : Ex → St → Option (shDen impl_ValidEntries_sh)) (n : Nat) (a0 : (List (List Int × (List Int × Unit)))) (x7 : Int) : (loopK (impl_ValidEntries_cx k) 0 (execK (impl_ValidEntries_cx k) (callK (impl_ValidEntries_cx k) 8) 0 13 (sub impl_ValidEntries_c [1, 0, 1, 0, 0])) impl_ValidEntries_l0_cut K (n + 1) (impl_ValidEntries_l0_s a0 x7) : Option (shDen impl_ValidEntries_sh)) =
 ((cond (decide (x7 < (a0.length : Int)))
 (cond ((decide ((0 : Int) ≤ x7)) && (decide (x7 < (a0.length : Int))))
 (bindO (impl_ValidEntry_r (a0.getD (x7.toNat) ([], ([], ())))) fun (b2 : Bool) => (cond (!b2)
 (K .ret (impl_ValidEntries_l0_o ))
 (cond (decide ((0 : Int) < x7))
 (cond ((decide ((0 : Int) ≤ (IntKind.wrap .i64 (x7 - (1 : Int))))) && (decide ((IntKind.wrap .i64 (x7 - (1 : Int))) < (a0.length : Int))))
 (cond ((ltI ((a0.getD (x7.toNat) ([], ([], ()))).1) ((a0.getD ((IntKind.wrap .i64 (x7 - (1 : Int))).toNat) ([], ([], ()))).1)) || (decide ((a0.getD (x7.toNat) ([], ([], ()))).1 = (a0.getD ((IntKind.wrap .i64 (x7 - (1 : Int))).toNat) ([], ([], ()))).1)))
 (K .ret (impl_ValidEntries_l0_o ))
 (loopK (impl_ValidEntries_cx k) 0 (execK (impl_ValidEntries_cx k) (callK (impl_ValidEntries_cx k) 8) 0 13 (sub impl_ValidEntries_c [1, 0, 1, 0, 0])) impl_ValidEntries_l0_cut K n (impl_ValidEntries_l0_s a0 (IntKind.wrap .i64 (x7 + (1 : Int))))))
 none)
 (loopK (impl_ValidEntries_cx k) 0 (execK (impl_ValidEntries_cx k) (callK (impl_ValidEntries_cx k) 8) 0 13 (sub impl_ValidEntries_c [1, 0, 1, 0, 0])) impl_ValidEntries_l0_cut K n (impl_ValidEntries_l0_s a0 (IntKind.wrap .i64 (x7 + (1 : Int))))))))
 none)
 (K (.exit 0) (impl_ValidEntries_l0_o0 a0))) : Option (shDen impl_ValidEntries_sh)) := by kernel_rfl

theorem impl_ValidEntries_l0_ret (k : Nat)   : ((blkK 0 (seqK (execK (impl_ValidEntries_cx k) (callK (impl_ValidEntries_cx k) 8) 0 13 (sub impl_ValidEntries_c [1, 1])) (finK (impl_ValidEntries_cx k) impl_ValidEntries_i impl_ValidEntries_sh))) .ret (impl_ValidEntries_l0_o) : Option (shDen impl_ValidEntries_sh)) =
 ((some false) : Option (shDen impl_ValidEntries_sh)) := by kernel_rfl

theorem impl_ValidEntries_l0_exit0 (k : Nat)  (a0 : (List (List Int × (List Int × Unit)))) : ((blkK 0 (seqK (execK (impl_ValidEntries_cx k) (callK (impl_ValidEntries_cx k) 8) 0 13 (sub impl_ValidEntries_c [1, 1])) (finK (impl_ValidEntries_cx k) impl_ValidEntries_i impl_ValidEntries_sh))) (.exit 0) (impl_ValidEntries_l0_o0 a0) : Option (shDen impl_ValidEntries_sh)) =
 ((some (decide ((a0.length : Int) ≤ (64 : Int)))) : Option (shDen impl_ValidEntries_sh)) := by kernel_rfl

theorem impl_ValidEntries_l0_congr (kr : Option (shDen impl_ValidEntries_sh)) (ke0 : Option (shDen impl_ValidEntries_sh)) (kr' : Option (shDen impl_ValidEntries_sh)) (ke0' : Option (shDen impl_ValidEntries_sh)) (a0 : (List (List Int × (List Int × Unit)))) (n : Nat) (x7 : Int) (hkr : ∀ (_ : Unit), kr  = kr' ) (hke0 : ∀ (_ : Unit), ke0  = ke0' ) : impl_ValidEntries_l0_L kr ke0 a0 n x7 = impl_ValidEntries_l0_L kr' ke0' a0 n x7 := by
 have : kr = kr' := hkr (); subst this; have : ke0 = ke0' := hke0 (); subst this; rfl

theorem impl_ValidEntries_l0_L_eq (K : Ex → St → Option (shDen impl_ValidEntries_sh)) (a0 : (List (List Int × (List Int × Unit)))) : ∀ (n : Nat) (x7 : Int), (loopK (impl_ValidEntries_cx FUEL) 0 (execK (impl_ValidEntries_cx FUEL) (callK (impl_ValidEntries_cx FUEL) 8) 0 13 (sub impl_ValidEntries_c [1, 0, 1, 0, 0])) impl_ValidEntries_l0_cut K n (impl_ValidEntries_l0_s a0 x7) : Option (shDen impl_ValidEntries_sh)) = impl_ValidEntries_l0_L (K .ret (impl_ValidEntries_l0_o)) (K (.exit 0) (impl_ValidEntries_l0_o0 a0)) a0 n x7 := by
 intro n
 induction n with
 | zero => intros; rfl
 | succ n ih =>
  intro x7
  exact (impl_ValidEntries_l0_round FUEL K n a0 x7).trans (condC (condC (bindC (fun b2 => condC (rfl) (condC (condC (condC (rfl) (ih (IntKind.wrap .i64 (x7 + (1 : Int))))) (rfl)) (ih (IntKind.wrap .i64 (x7 + (1 : Int))))))) (rfl)) (rfl))

theorem impl_ValidEntries_start (k : Nat) (a0 : (List (List Int × (List Int × Unit)))) : fnK (impl_ValidEntries_cx k) 8 13 impl_ValidEntries_i impl_ValidEntries_sh [.pv (.slice (.pair .str (.pair .str .unit))) a0] =
 ((loopK (impl_ValidEntries_cx k) 0 (execK (impl_ValidEntries_cx k) (callK (impl_ValidEntries_cx k) 8) 0 13 (sub impl_ValidEntries_c [1, 0, 1, 0, 0])) impl_ValidEntries_l0_cut (blkK 0 (seqK (execK (impl_ValidEntries_cx k) (callK (impl_ValidEntries_cx k) 8) 0 13 (sub impl_ValidEntries_c [1, 1])) (finK (impl_ValidEntries_cx k) impl_ValidEntries_i impl_ValidEntries_sh))) k (impl_ValidEntries_l0_s a0 (0 : Int))) : Option (shDen impl_ValidEntries_sh)) := by kernel_rfl

theorem impl_ValidEntries_run (a0 : (List (List Int × (List Int × Unit)))) : fnK (impl_ValidEntries_cx FUEL) 8 13 impl_ValidEntries_i impl_ValidEntries_sh [.pv (.slice (.pair .str (.pair .str .unit))) a0] = impl_ValidEntries_r a0 :=
 (impl_ValidEntries_start FUEL a0).trans ((impl_ValidEntries_l0_L_eq _ a0 FUEL (0 : Int)).trans (impl_ValidEntries_l0_congr _ _ _ _ a0 FUEL (0 : Int) (fun _ => (impl_ValidEntries_l0_ret FUEL  ).trans (rfl)) (fun _ => (impl_ValidEntries_l0_exit0 FUEL  a0).trans (rfl))))

noncomputable def impl_ValidEntries_con : Con := { ps := (.pair (.slice (.pair .str (.pair .str .unit))) .unit), sh := impl_ValidEntries_sh, raw := fun x => impl_ValidEntries_r x.1 }
theorem impl_ValidEntries_conOk : ConOk Try.prog 13 impl_ValidEntries_con := con_of_fn (impl_ValidEntries_tabs FUEL) (depth := 8) impl_ValidEntries_ok fun x y h => (impl_ValidEntries_run x.1).trans h

noncomputable def slices_Concat_impl_Entry_impl_Entry_l0_cut : Cut := { keep := [0, 3, 9, 10, 11], stk := [], ids := [], own := [], outs := [(1, [0, 3], [])] }
noncomputable def slices_Concat_impl_Entry_impl_Entry_l1_cut : Cut := { keep := [6, 25, 26, 27], stk := [], ids := [90060], own := [(6, 90060, 24)], outs := [(3, [6], [90060])] }
noncomputable def slices_Concat_impl_Entry_impl_Entry_inls : List (Nat × Inl) := []
noncomputable def slices_Concat_impl_Entry_impl_Entry_cons : List (Nat × Con) := []
noncomputable def slices_Concat_impl_Entry_impl_Entry_taks : List (Nat × ConT) := [(36, slices_Grow_impl_Entry_impl_Entry_tak)]
noncomputable def slices_Concat_impl_Entry_impl_Entry_inps : List (Nat × ConI) := []
noncomputable def slices_Concat_impl_Entry_impl_Entry_cuts : List (Nat × List (Nat × Cut)) := [(27, [(0, slices_Concat_impl_Entry_impl_Entry_l0_cut), (2, slices_Concat_impl_Entry_impl_Entry_l1_cut)])]
noncomputable def slices_Concat_impl_Entry_impl_Entry_cx (k : Nat) : Cx := mkCx tys tbytes telem nozero (Ai.look slices_Concat_impl_Entry_impl_Entry_inls) (Ai.look slices_Concat_impl_Entry_impl_Entry_cons) (Ai.look slices_Concat_impl_Entry_impl_Entry_taks) (Ai.look slices_Concat_impl_Entry_impl_Entry_inps) (fun f id => match Ai.look slices_Concat_impl_Entry_impl_Entry_cuts f with | some l => Ai.look l id | none => none) k [] false
theorem slices_Concat_impl_Entry_impl_Entry_tabs (k : Nat) : TabsOk Try.prog (slices_Concat_impl_Entry_impl_Entry_cx k) := ⟨tab_mk tabs_ok _ _ _ _ _ _ _ _, look_all (Q := ConOk Try.prog) _ trivial, look_all (Q := TakOk Try.prog) _ ⟨slices_Grow_impl_Entry_impl_Entry_takOk, trivial⟩, look_all (Q := InpOk Try.prog) _ trivial, look_all (Q := InlOk Try.prog) _ trivial, mixed_ok⟩
abbrev slices_Concat_impl_Entry_impl_Entry_sh : List Sh := [.own 43 (.pair .str (.pair .str .unit))]
noncomputable def slices_Concat_impl_Entry_impl_Entry_l0_s (a0 : (List (List (List Int × (List Int × Unit))))) (x3 : Int) (x11 : Int) : St := { env := [.pv (.slice (.slice (.pair .str (.pair .str .unit)))) a0, .dead, .dead, .pv (.int .i64) x3, .dead, .dead, .dead, .dead, .dead, .pv (.slice (.slice (.pair .str (.pair .str .unit)))) a0, .pv (.int .i64) (a0.length : Int), .pv (.int .i64) x11, .dead, .dead, .dead, .dead, .dead, .dead, .dead, .dead, .dead, .dead, .dead, .dead, .dead, .dead, .dead, .dead, .dead, .dead, .dead, .dead, .dead, .dead, .dead, .dead], stk := [], heap := [] }
noncomputable def slices_Concat_impl_Entry_impl_Entry_l0_o0 (a0 : (List (List (List Int × (List Int × Unit))))) (x3 : Int) : St := { env := [.pv (.slice (.slice (.pair .str (.pair .str .unit)))) a0, .dead, .dead, .pv (.int .i64) x3, .dead, .dead, .dead, .dead, .dead, .dead, .dead, .dead, .dead, .dead, .dead, .dead, .dead, .dead, .dead, .dead, .dead, .dead, .dead, .dead, .dead, .dead, .dead, .dead, .dead, .dead, .dead, .dead, .dead, .dead, .dead, .dead], stk := [], heap := [] }
noncomputable def slices_Concat_impl_Entry_impl_Entry_l1_s (a0 : (List (List (List Int × (List Int × Unit))))) (z90060 : (List (List Int × (List Int × Unit)))) (x27 : Int) : St := { env := [.dead, .dead, .dead, .dead, .dead, .dead, .sl 90060 (.pair .str (.pair .str .unit)), .dead, .dead, .dead, .dead, .dead, .dead, .dead, .dead, .dead, .dead, .dead, .dead, .dead, .dead, .dead, .dead, .dead, .dead, .pv (.slice (.slice (.pair .str (.pair .str .unit)))) a0, .pv (.int .i64) (a0.length : Int), .pv (.int .i64) x27, .dead, .dead, .dead, .dead, .dead, .dead, .dead, .dead], stk := [], heap := [(90060, .arr 43 (.pair .str (.pair .str .unit)) z90060)] }
noncomputable def slices_Concat_impl_Entry_impl_Entry_l1_o2 (z90060 : (List (List Int × (List Int × Unit)))) : St := { env := [.dead, .dead, .dead, .dead, .dead, .dead, .sl 90060 (.pair .str (.pair .str .unit)), .dead, .dead, .dead, .dead, .dead, .dead, .dead, .dead, .dead, .dead, .dead, .dead, .dead, .dead, .dead, .dead, .dead, .dead, .dead, .dead, .dead, .dead, .dead, .dead, .dead, .dead, .dead, .dead, .dead], stk := [], heap := [(90060, .arr 43 (.pair .str (.pair .str .unit)) z90060)] }
noncomputable def slices_Concat_impl_Entry_impl_Entry_l1_b (rec : (List (List Int × (List Int × Unit))) → Int → Option (shDen slices_Concat_impl_Entry_impl_Entry_sh)) (ke2 : (List (List Int × (List Int × Unit))) → Option (shDen slices_Concat_impl_Entry_impl_Entry_sh)) (a0 : (List (List (List Int × (List Int × Unit))))) (z90060 : (List (List Int × (List Int × Unit)))) (x27 : Int) : Option (shDen slices_Concat_impl_Entry_impl_Entry_sh) :=
 (cond (decide (x27 < (a0.length : Int)))
 (cond ((decide ((0 : Int) ≤ x27)) && (decide (x27 < (a0.length : Int))))
 (cond (decide ((z90060.length + (a0.getD (x27.toNat) []).length) * 32 ≤ 140737488355328) && decide (z90060.length + (a0.getD (x27.toNat) []).length ≤ 9223372036854775807))
 (rec (z90060 ++ (a0.getD (x27.toNat) [])) (IntKind.wrap .i64 (x27 + (1 : Int))))
 none)
 none)
 (ke2 z90060))
noncomputable def slices_Concat_impl_Entry_impl_Entry_l1_L (ke2 : (List (List Int × (List Int × Unit))) → Option (shDen slices_Concat_impl_Entry_impl_Entry_sh)) (a0 : (List (List (List Int × (List Int × Unit))))) : Nat → (List (List Int × (List Int × Unit))) → Int → Option (shDen slices_Concat_impl_Entry_impl_Entry_sh)
 | 0 => fun _ _ => none
 | n + 1 => slices_Concat_impl_Entry_impl_Entry_l1_b (slices_Concat_impl_Entry_impl_Entry_l1_L ke2 a0 n) ke2 a0
noncomputable def slices_Concat_impl_Entry_impl_Entry_l0_b (rec : Int → Int → Option (shDen slices_Concat_impl_Entry_impl_Entry_sh)) (ke0 : Int → Option (shDen slices_Concat_impl_Entry_impl_Entry_sh)) (a0 : (List (List (List Int × (List Int × Unit))))) (x3 : Int) (x11 : Int) : Option (shDen slices_Concat_impl_Entry_impl_Entry_sh) :=
 (cond (decide (x11 < (a0.length : Int)))
 (cond ((decide ((0 : Int) ≤ x11)) && (decide (x11 < (a0.length : Int))))
 (cond (decide ((IntKind.wrap .i64 (x3 + ((a0.getD (x11.toNat) []).length : Int))) < (0 : Int)))
 none
 (rec (IntKind.wrap .i64 (x3 + ((a0.getD (x11.toNat) []).length : Int))) (IntKind.wrap .i64 (x11 + (1 : Int)))))
 none)
 (ke0 x3))
noncomputable def slices_Concat_impl_Entry_impl_Entry_l0_L (ke0 : Int → Option (shDen slices_Concat_impl_Entry_impl_Entry_sh)) (a0 : (List (List (List Int × (List Int × Unit))))) : Nat → Int → Int → Option (shDen slices_Concat_impl_Entry_impl_Entry_sh)
 | 0 => fun _ _ => none
 | n + 1 => slices_Concat_impl_Entry_impl_Entry_l0_b (slices_Concat_impl_Entry_impl_Entry_l0_L ke0 a0 n) ke0 a0
noncomputable def slices_Concat_impl_Entry_impl_Entry_r (a0 : (List (List (List Int × (List Int × Unit))))) : Option (shDen slices_Concat_impl_Entry_impl_Entry_sh) :=
 (slices_Concat_impl_Entry_impl_Entry_l0_L (fun x3 => (bindO (slices_Grow_impl_Entry_impl_Entry_tr [] x3) fun (b1 : (List (List Int × (List Int × Unit)))) => (slices_Concat_impl_Entry_impl_Entry_l1_L (fun z90060 => (some z90060)) a0 FUEL b1 (0 : Int)))) a0 FUEL (0 : Int) (0 : Int))
theorem slices_Concat_impl_Entry_impl_Entry_l1_round (k : Nat) (K : Ex → St → Option (shDen slices_Concat_impl_Entry_impl_Entry_sh)) (n : Nat) (a0 : (List (List (List Int × (List Int × Unit))))) (z90060 : (List (List Int × (List Int × Unit)))) (x27 : Int) : (loopK (slices_Concat_impl_Entry_impl_Entry_cx k) 0 (execK (slices_Concat_impl_Entry_impl_Entry_cx k) (callK (slices_Concat_impl_Entry_impl_Entry_cx k) 8) 0 27 (sub slices_Concat_impl_Entry_impl_Entry_c [1, 1, 1, 1, 0, 1, 0, 0])) slices_Concat_impl_Entry_impl_Entry_l1_cut K (n + 1) (slices_Concat_impl_Entry_impl_Entry_l1_s a0 z90060 x27) : Option (shDen slices_Concat_impl_Entry_impl_Entry_sh)) =
 ((cond (decide (x27 < (a0.length : Int)))
 (cond ((decide ((0 : Int) ≤ x27)) && (decide (x27 < (a0.length : Int))))
 (cond (decide ((z90060.length + (a0.getD (x27.toNat) []).length) * 32 ≤ 140737488355328) && decide (z90060.length + (a0.getD (x27.toNat) []).length ≤ 9223372036854775807))
 (loopK (slices_Concat_impl_Entry_impl_Entry_cx k) 0 (execK (slices_Concat_impl_Entry_impl_Entry_cx k) (callK (slices_Concat_impl_Entry_impl_Entry_cx k) 8) 0 27 (sub slices_Concat_impl_Entry_impl_Entry_c [1, 1, 1, 1, 0, 1, 0, 0])) slices_Concat_impl_Entry_impl_Entry_l1_cut K n (slices_Concat_impl_Entry_impl_Entry_l1_s a0 (z90060 ++ (a0.getD (x27.toNat) [])) (IntKind.wrap .i64 (x27 + (1 : Int)))))
 none)
 none)
 (K (.exit 2) (slices_Concat_impl_Entry_impl_Entry_l1_o2 z90060))) : Option (shDen slices_Concat_impl_Entry_impl_Entry_sh)) := by kernel_rfl

theorem slices_Concat_impl_Entry_impl_Entry_l1_exit2 (k : Nat)  (z90060 : (List (List Int × (List Int × Unit)))) : ((blkK 2 (seqK (execK (slices_Concat_impl_Entry_impl_Entry_cx k) (callK (slices_Concat_impl_Entry_impl_Entry_cx k) 8) 0 27 (sub slices_Concat_impl_Entry_impl_Entry_c [1, 1, 1, 1, 1])) (finK (slices_Concat_impl_Entry_impl_Entry_cx k) slices_Concat_impl_Entry_impl_Entry_i slices_Concat_impl_Entry_impl_Entry_sh))) (.exit 2) (slices_Concat_impl_Entry_impl_Entry_l1_o2 z90060) : Option (shDen slices_Concat_impl_Entry_impl_Entry_sh)) =
 ((some z90060) : Option (shDen slices_Concat_impl_Entry_impl_Entry_sh)) := by kernel_rfl

theorem slices_Concat_impl_Entry_impl_Entry_l1_congr (ke2 : (List (List Int × (List Int × Unit))) → Option (shDen slices_Concat_impl_Entry_impl_Entry_sh)) (ke2' : (List (List Int × (List Int × Unit))) → Option (shDen slices_Concat_impl_Entry_impl_Entry_sh)) (a0 : (List (List (List Int × (List Int × Unit))))) (n : Nat) (z90060 : (List (List Int × (List Int × Unit)))) (x27 : Int) (hke2 : ∀ z90060, ke2 z90060 = ke2' z90060) : slices_Concat_impl_Entry_impl_Entry_l1_L ke2 a0 n z90060 x27 = slices_Concat_impl_Entry_impl_Entry_l1_L ke2' a0 n z90060 x27 := by
 have : ke2 = ke2' := (by funext z90060; exact hke2 z90060); subst this; rfl

theorem slices_Concat_impl_Entry_impl_Entry_l1_L_eq (K : Ex → St → Option (shDen slices_Concat_impl_Entry_impl_Entry_sh)) (a0 : (List (List (List Int × (List Int × Unit))))) : ∀ (n : Nat) (z90060 : (List (List Int × (List Int × Unit)))) (x27 : Int), (loopK (slices_Concat_impl_Entry_impl_Entry_cx FUEL) 0 (execK (slices_Concat_impl_Entry_impl_Entry_cx FUEL) (callK (slices_Concat_impl_Entry_impl_Entry_cx FUEL) 8) 0 27 (sub slices_Concat_impl_Entry_impl_Entry_c [1, 1, 1, 1, 0, 1, 0, 0])) slices_Concat_impl_Entry_impl_Entry_l1_cut K n (slices_Concat_impl_Entry_impl_Entry_l1_s a0 z90060 x27) : Option (shDen slices_Concat_impl_Entry_impl_Entry_sh)) = slices_Concat_impl_Entry_impl_Entry_l1_L (fun z90060 => K (.exit 2) (slices_Concat_impl_Entry_impl_Entry_l1_o2 z90060)) a0 n z90060 x27 := by
 intro n
 induction n with
 | zero => intros; rfl
 | succ n ih =>
  intro z90060 x27
  exact (slices_Concat_impl_Entry_impl_Entry_l1_round FUEL K n a0 z90060 x27).trans (condC (condC (condC (ih (z90060 ++ (a0.getD (x27.toNat) [])) (IntKind.wrap .i64 (x27 + (1 : Int)))) (rfl)) (rfl)) (rfl))

theorem slices_Concat_impl_Entry_impl_Entry_l0_round (k : Nat) (K : Ex → St → Option (shDen slices_Concat_impl_Entry_impl_Entry_sh)) (n : Nat) (a0 : (List (List (List Int × (List Int × Unit))))) (x3 : Int) (x11 : Int) : (loopK (slices_Concat_impl_Entry_impl_Entry_cx k) 0 (execK (slices_Concat_impl_Entry_impl_Entry_cx k) (callK (slices_Concat_impl_Entry_impl_Entry_cx k) 8) 0 27 (sub slices_Concat_impl_Entry_impl_Entry_c [1, 1, 0, 1, 0, 0])) slices_Concat_impl_Entry_impl_Entry_l0_cut K (n + 1) (slices_Concat_impl_Entry_impl_Entry_l0_s a0 x3 x11) : Option (shDen slices_Concat_impl_Entry_impl_Entry_sh)) =
 ((cond (decide (x11 < (a0.length : Int)))
 (cond ((decide ((0 : Int) ≤ x11)) && (decide (x11 < (a0.length : Int))))
 (cond (decide ((IntKind.wrap .i64 (x3 + ((a0.getD (x11.toNat) []).length : Int))) < (0 : Int)))
 none
 (loopK (slices_Concat_impl_Entry_impl_Entry_cx k) 0 (execK (slices_Concat_impl_Entry_impl_Entry_cx k) (callK (slices_Concat_impl_Entry_impl_Entry_cx k) 8) 0 27 (sub slices_Concat_impl_Entry_impl_Entry_c [1, 1, 0, 1, 0, 0])) slices_Concat_impl_Entry_impl_Entry_l0_cut K n (slices_Concat_impl_Entry_impl_Entry_l0_s a0 (IntKind.wrap .i64 (x3 + ((a0.getD (x11.toNat) []).length : Int))) (IntKind.wrap .i64 (x11 + (1 : Int))))))
 none)
 (K (.exit 0) (slices_Concat_impl_Entry_impl_Entry_l0_o0 a0 x3))) : Option (shDen slices_Concat_impl_Entry_impl_Entry_sh)) := by kernel_rfl

theorem slices_Concat_impl_Entry_impl_Entry_l0_exit0 (k : Nat)  (a0 : (List (List (List Int × (List Int × Unit))))) (x3 : Int) : ((blkK 0 (seqK (execK (slices_Concat_impl_Entry_impl_Entry_cx k) (callK (slices_Concat_impl_Entry_impl_Entry_cx k) 8) 0 27 (sub slices_Concat_impl_Entry_impl_Entry_c [1, 1, 1])) (finK (slices_Concat_impl_Entry_impl_Entry_cx k) slices_Concat_impl_Entry_impl_Entry_i slices_Concat_impl_Entry_impl_Entry_sh))) (.exit 0) (slices_Concat_impl_Entry_impl_Entry_l0_o0 a0 x3) : Option (shDen slices_Concat_impl_Entry_impl_Entry_sh)) =
 ((bindO (slices_Grow_impl_Entry_impl_Entry_tr [] x3) fun (b1 : (List (List Int × (List Int × Unit)))) => (loopK (slices_Concat_impl_Entry_impl_Entry_cx k) 0 (execK (slices_Concat_impl_Entry_impl_Entry_cx k) (callK (slices_Concat_impl_Entry_impl_Entry_cx k) 8) 0 27 (sub slices_Concat_impl_Entry_impl_Entry_c [1, 1, 1, 1, 0, 1, 0, 0])) slices_Concat_impl_Entry_impl_Entry_l1_cut (blkK 2 (seqK (execK (slices_Concat_impl_Entry_impl_Entry_cx k) (callK (slices_Concat_impl_Entry_impl_Entry_cx k) 8) 0 27 (sub slices_Concat_impl_Entry_impl_Entry_c [1, 1, 1, 1, 1])) (finK (slices_Concat_impl_Entry_impl_Entry_cx k) slices_Concat_impl_Entry_impl_Entry_i slices_Concat_impl_Entry_impl_Entry_sh))) k (slices_Concat_impl_Entry_impl_Entry_l1_s a0 b1 (0 : Int)))) : Option (shDen slices_Concat_impl_Entry_impl_Entry_sh)) := by kernel_rfl

theorem slices_Concat_impl_Entry_impl_Entry_l0_congr (ke0 : Int → Option (shDen slices_Concat_impl_Entry_impl_Entry_sh)) (ke0' : Int → Option (shDen slices_Concat_impl_Entry_impl_Entry_sh)) (a0 : (List (List (List Int × (List Int × Unit))))) (n : Nat) (x3 : Int) (x11 : Int) (hke0 : ∀ x3, ke0 x3 = ke0' x3) : slices_Concat_impl_Entry_impl_Entry_l0_L ke0 a0 n x3 x11 = slices_Concat_impl_Entry_impl_Entry_l0_L ke0' a0 n x3 x11 := by
 have : ke0 = ke0' := (by funext x3; exact hke0 x3); subst this; rfl

theorem slices_Concat_impl_Entry_impl_Entry_l0_L_eq (K : Ex → St → Option (shDen slices_Concat_impl_Entry_impl_Entry_sh)) (a0 : (List (List (List Int × (List Int × Unit))))) : ∀ (n : Nat) (x3 : Int) (x11 : Int), (loopK (slices_Concat_impl_Entry_impl_Entry_cx FUEL) 0 (execK (slices_Concat_impl_Entry_impl_Entry_cx FUEL) (callK (slices_Concat_impl_Entry_impl_Entry_cx FUEL) 8) 0 27 (sub slices_Concat_impl_Entry_impl_Entry_c [1, 1, 0, 1, 0, 0])) slices_Concat_impl_Entry_impl_Entry_l0_cut K n (slices_Concat_impl_Entry_impl_Entry_l0_s a0 x3 x11) : Option (shDen slices_Concat_impl_Entry_impl_Entry_sh)) = slices_Concat_impl_Entry_impl_Entry_l0_L (fun x3 => K (.exit 0) (slices_Concat_impl_Entry_impl_Entry_l0_o0 a0 x3)) a0 n x3 x11 := by
 intro n
 induction n with
 | zero => intros; rfl
 | succ n ih =>
  intro x3 x11
  exact (slices_Concat_impl_Entry_impl_Entry_l0_round FUEL K n a0 x3 x11).trans (condC (condC (condC (rfl) (ih (IntKind.wrap .i64 (x3 + ((a0.getD (x11.toNat) []).length : Int))) (IntKind.wrap .i64 (x11 + (1 : Int))))) (rfl)) (rfl))

theorem slices_Concat_impl_Entry_impl_Entry_start (k : Nat) (a0 : (List (List (List Int × (List Int × Unit))))) : fnK (slices_Concat_impl_Entry_impl_Entry_cx k) 8 27 slices_Concat_impl_Entry_impl_Entry_i slices_Concat_impl_Entry_impl_Entry_sh [.pv (.slice (.slice (.pair .str (.pair .str .unit)))) a0] =
 ((loopK (slices_Concat_impl_Entry_impl_Entry_cx k) 0 (execK (slices_Concat_impl_Entry_impl_Entry_cx k) (callK (slices_Concat_impl_Entry_impl_Entry_cx k) 8) 0 27 (sub slices_Concat_impl_Entry_impl_Entry_c [1, 1, 0, 1, 0, 0])) slices_Concat_impl_Entry_impl_Entry_l0_cut (blkK 0 (seqK (execK (slices_Concat_impl_Entry_impl_Entry_cx k) (callK (slices_Concat_impl_Entry_impl_Entry_cx k) 8) 0 27 (sub slices_Concat_impl_Entry_impl_Entry_c [1, 1, 1])) (finK (slices_Concat_impl_Entry_impl_Entry_cx k) slices_Concat_impl_Entry_impl_Entry_i slices_Concat_impl_Entry_impl_Entry_sh))) k (slices_Concat_impl_Entry_impl_Entry_l0_s a0 (0 : Int) (0 : Int))) : Option (shDen slices_Concat_impl_Entry_impl_Entry_sh)) := by kernel_rfl

theorem slices_Concat_impl_Entry_impl_Entry_run (a0 : (List (List (List Int × (List Int × Unit))))) : fnK (slices_Concat_impl_Entry_impl_Entry_cx FUEL) 8 27 slices_Concat_impl_Entry_impl_Entry_i slices_Concat_impl_Entry_impl_Entry_sh [.pv (.slice (.slice (.pair .str (.pair .str .unit)))) a0] = slices_Concat_impl_Entry_impl_Entry_r a0 :=
 (slices_Concat_impl_Entry_impl_Entry_start FUEL a0).trans ((slices_Concat_impl_Entry_impl_Entry_l0_L_eq _ a0 FUEL (0 : Int) (0 : Int)).trans (slices_Concat_impl_Entry_impl_Entry_l0_congr _ _ a0 FUEL (0 : Int) (0 : Int) (fun x3 => (slices_Concat_impl_Entry_impl_Entry_l0_exit0 FUEL  a0 x3).trans (bindC (fun b1 => (slices_Concat_impl_Entry_impl_Entry_l1_L_eq _ a0 FUEL b1 (0 : Int)).trans (slices_Concat_impl_Entry_impl_Entry_l1_congr _ _ a0 FUEL b1 (0 : Int) (fun z90060 => (slices_Concat_impl_Entry_impl_Entry_l1_exit2 FUEL  z90060).trans (rfl))))))))

noncomputable def slices_Concat_impl_Entry_impl_Entry_con : Con := { ps := (.pair (.slice (.slice (.pair .str (.pair .str .unit)))) .unit), sh := slices_Concat_impl_Entry_impl_Entry_sh, raw := fun x => slices_Concat_impl_Entry_impl_Entry_r x.1 }
theorem slices_Concat_impl_Entry_impl_Entry_conOk : ConOk Try.prog 27 slices_Concat_impl_Entry_impl_Entry_con := con_of_fn (slices_Concat_impl_Entry_impl_Entry_tabs FUEL) (depth := 8) slices_Concat_impl_Entry_impl_Entry_ok fun x y h => (slices_Concat_impl_Entry_impl_Entry_run x.1).trans h

noncomputable def cmp_isNaN_string_inls : List (Nat × Inl) := []
noncomputable def cmp_isNaN_string_cons : List (Nat × Con) := []
noncomputable def cmp_isNaN_string_taks : List (Nat × ConT) := []
noncomputable def cmp_isNaN_string_inps : List (Nat × ConI) := []
noncomputable def cmp_isNaN_string_cuts : List (Nat × List (Nat × Cut)) := []
noncomputable def cmp_isNaN_string_cx (k : Nat) : Cx := mkCx tys tbytes telem nozero (Ai.look cmp_isNaN_string_inls) (Ai.look cmp_isNaN_string_cons) (Ai.look cmp_isNaN_string_taks) (Ai.look cmp_isNaN_string_inps) (fun f id => match Ai.look cmp_isNaN_string_cuts f with | some l => Ai.look l id | none => none) k [] false
theorem cmp_isNaN_string_tabs (k : Nat) : TabsOk Try.prog (cmp_isNaN_string_cx k) := ⟨tab_mk tabs_ok _ _ _ _ _ _ _ _, look_all (Q := ConOk Try.prog) _ trivial, look_all (Q := TakOk Try.prog) _ trivial, look_all (Q := InpOk Try.prog) _ trivial, look_all (Q := InlOk Try.prog) _ trivial, mixed_ok⟩
abbrev cmp_isNaN_string_sh : List Sh := [.pl .bool]
noncomputable def cmp_isNaN_string_r (a0 : List Int) : Option (shDen cmp_isNaN_string_sh) :=
 (some (!(decide (a0 = a0))))
theorem cmp_isNaN_string_start (k : Nat) (a0 : List Int) : fnK (cmp_isNaN_string_cx k) 8 54 cmp_isNaN_string_i cmp_isNaN_string_sh [.pv .str a0] =
 ((some (!(decide (a0 = a0)))) : Option (shDen cmp_isNaN_string_sh)) := by kernel_rfl

theorem cmp_isNaN_string_run (a0 : List Int) : fnK (cmp_isNaN_string_cx FUEL) 8 54 cmp_isNaN_string_i cmp_isNaN_string_sh [.pv .str a0] = cmp_isNaN_string_r a0 :=
 (cmp_isNaN_string_start FUEL a0).trans (rfl)

noncomputable def cmp_isNaN_string_con : Con := { ps := (.pair .str .unit), sh := cmp_isNaN_string_sh, raw := fun x => cmp_isNaN_string_r x.1 }
theorem cmp_isNaN_string_conOk : ConOk Try.prog 54 cmp_isNaN_string_con := con_of_fn (cmp_isNaN_string_tabs FUEL) (depth := 8) cmp_isNaN_string_ok fun x y h => (cmp_isNaN_string_run x.1).trans h

noncomputable def slices_Compact_string_string_l0_cut : Cut := { keep := [0, 3], stk := [], ids := [8], own := [], outs := [(1, [0], [8]), (0, [2], [8])] }
noncomputable def slices_Compact_string_string_l1_cut : Cut := { keep := [0, 3, 4, 5], stk := [], ids := [8], own := [], outs := [(3, [0, 3], [8])] }
noncomputable def slices_Compact_string_string_inls : List (Nat × Inl) := []
noncomputable def slices_Compact_string_string_cons : List (Nat × Con) := []
noncomputable def slices_Compact_string_string_taks : List (Nat × ConT) := []
noncomputable def slices_Compact_string_string_inps : List (Nat × ConI) := []
noncomputable def slices_Compact_string_string_cuts : List (Nat × List (Nat × Cut)) := [(29, [(0, slices_Compact_string_string_l0_cut), (2, slices_Compact_string_string_l1_cut)])]
noncomputable def slices_Compact_string_string_cx (k : Nat) : Cx := mkCx tys tbytes telem nozero (Ai.look slices_Compact_string_string_inls) (Ai.look slices_Compact_string_string_cons) (Ai.look slices_Compact_string_string_taks) (Ai.look slices_Compact_string_string_inps) (fun f id => match Ai.look slices_Compact_string_string_cuts f with | some l => Ai.look l id | none => none) k [] false
theorem slices_Compact_string_string_tabs (k : Nat) : TabsOk Try.prog (slices_Compact_string_string_cx k) := ⟨tab_mk tabs_ok _ _ _ _ _ _ _ _, look_all (Q := ConOk Try.prog) _ trivial, look_all (Q := TakOk Try.prog) _ trivial, look_all (Q := InpOk Try.prog) _ trivial, look_all (Q := InlOk Try.prog) _ trivial, mixed_ok⟩
noncomputable def slices_Compact_string_string_l0_s (a0 : (List (List Int))) (x3 : Int) : St := { env := [.sl 8 .str, .dead, .dead, .pv (.int .i64) x3, .dead, .dead, .dead, .dead, .dead, .dead, .dead, .dead, .dead, .dead, .dead, .dead, .dead, .dead, .dead, .dead, .dead, .dead, .dead, .dead, .dead, .dead, .dead, .dead, .dead, .dead, .dead, .dead, .dead, .dead, .dead, .dead, .dead, .dead, .dead, .dead, .dead, .dead, .dead, .dead, .dead, .dead, .dead, .dead, .dead, .dead, .dead, .dead, .dead, .dead, .dead, .dead, .dead, .dead, .dead, .dead, .dead], stk := [], heap := [(8, .arr 9 .str a0)] }
noncomputable def slices_Compact_string_string_l0_o0 (a0 : (List (List Int))) : St := { env := [.sl 8 .str, .dead, .dead, .dead, .dead, .dead, .dead, .dead, .dead, .dead, .dead, .dead, .dead, .dead, .dead, .dead, .dead, .dead, .dead, .dead, .dead, .dead, .dead, .dead, .dead, .dead, .dead, .dead, .dead, .dead, .dead, .dead, .dead, .dead, .dead, .dead, .dead, .dead, .dead, .dead, .dead, .dead, .dead, .dead, .dead, .dead, .dead, .dead, .dead, .dead, .dead, .dead, .dead, .dead, .dead, .dead, .dead, .dead, .dead, .dead, .dead], stk := [], heap := [(8, .arr 9 .str a0)] }
noncomputable def slices_Compact_string_string_l0_o (x2v : Nat) (z8 : (List (List Int))) : St := { env := [.dead, .dead, .vw 8 (.slice .str) [] .str 0 x2v, .dead, .dead, .dead, .dead, .dead, .dead, .dead, .dead, .dead, .dead, .dead, .dead, .dead, .dead, .dead, .dead, .dead, .dead, .dead, .dead, .dead, .dead, .dead, .dead, .dead, .dead, .dead, .dead, .dead, .dead, .dead, .dead, .dead, .dead, .dead, .dead, .dead, .dead, .dead, .dead, .dead, .dead, .dead, .dead, .dead, .dead, .dead, .dead, .dead, .dead, .dead, .dead, .dead, .dead, .dead, .dead, .dead, .dead], stk := [], heap := [(8, .arr 9 .str z8)] }
noncomputable def slices_Compact_string_string_l1_s (a0 : (List (List Int))) (x3 : Int) (x5 : Int) (z8 : (List (List Int))) (x4u : Nat) : St := { env := [.sl 8 .str, .dead, .dead, .pv (.int .i64) x3, .vw 8 (.slice .str) [] .str x4u (a0.length), .pv (.int .i64) x5, .dead, .dead, .dead, .dead, .dead, .dead, .dead, .dead, .dead, .dead, .dead, .dead, .dead, .dead, .dead, .dead, .dead, .dead, .dead, .dead, .dead, .dead, .dead, .dead, .dead, .dead, .dead, .dead, .dead, .dead, .dead, .dead, .dead, .dead, .dead, .dead, .dead, .dead, .dead, .dead, .dead, .dead, .dead, .dead, .dead, .dead, .dead, .dead, .dead, .dead, .dead, .dead, .dead, .dead, .dead], stk := [], heap := [(8, .arr 9 .str z8)] }
noncomputable def slices_Compact_string_string_l1_o2 (x3 : Int) (z8 : (List (List Int))) : St := { env := [.sl 8 .str, .dead, .dead, .pv (.int .i64) x3, .dead, .dead, .dead, .dead, .dead, .dead, .dead, .dead, .dead, .dead, .dead, .dead, .dead, .dead, .dead, .dead, .dead, .dead, .dead, .dead, .dead, .dead, .dead, .dead, .dead, .dead, .dead, .dead, .dead, .dead, .dead, .dead, .dead, .dead, .dead, .dead, .dead, .dead, .dead, .dead, .dead, .dead, .dead, .dead, .dead, .dead, .dead, .dead, .dead, .dead, .dead, .dead, .dead, .dead, .dead, .dead, .dead], stk := [], heap := [(8, .arr 9 .str z8)] }
noncomputable def slices_Compact_string_string_l1_b (rec : Int → Int → (List (List Int)) → Nat → Option (List (List Int))) (ke2 : Int → (List (List Int)) → Option (List (List Int))) (a0 : (List (List Int))) (x3 : Int) (x5 : Int) (z8 : (List (List Int))) (x4u : Nat) : Option (List (List Int)) :=
 (cond (decide (x5 < (((a0.length) - x4u : Nat) : Int)))
 (cond ((decide ((0 : Int) ≤ x5)) && (decide (x5 < (((a0.length) - x4u : Nat) : Int))))
 (cond ((decide ((0 : Int) ≤ (IntKind.wrap .i64 (x5 - (1 : Int))))) && (decide ((IntKind.wrap .i64 (x5 - (1 : Int))) < (((a0.length) - x4u : Nat) : Int))))
 (cond (!(decide ((z8.getD (x4u + (x5.toNat)) []) = (z8.getD (x4u + ((IntKind.wrap .i64 (x5 - (1 : Int))).toNat)) []))))
 (cond ((decide ((0 : Int) ≤ x5)) && (decide (x5 < (((a0.length) - x4u : Nat) : Int))))
 (cond ((decide ((0 : Int) ≤ x3)) && (decide (x3 < (z8.length : Int))))
 (rec (IntKind.wrap .i64 (x3 + (1 : Int))) (IntKind.wrap .i64 (x5 + (1 : Int))) (z8.set (x3.toNat) (z8.getD (x4u + (x5.toNat)) [])) x4u)
 none)
 none)
 (rec x3 (IntKind.wrap .i64 (x5 + (1 : Int))) z8 x4u))
 none)
 none)
 (ke2 x3 z8))
noncomputable def slices_Compact_string_string_l1_L (ke2 : Int → (List (List Int)) → Option (List (List Int))) (a0 : (List (List Int))) : Nat → Int → Int → (List (List Int)) → Nat → Option (List (List Int))
 | 0 => fun _ _ _ _ => none
 | n + 1 => slices_Compact_string_string_l1_b (slices_Compact_string_string_l1_L ke2 a0 n) ke2 a0
noncomputable def slices_Compact_string_string_l0_b (rec : Int → Option (List (List Int))) (ke0 : Option (List (List Int))) (kr : Nat → (List (List Int)) → Option (List (List Int))) (a0 : (List (List Int))) (x3 : Int) : Option (List (List Int)) :=
 (cond (decide (x3 < (a0.length : Int)))
 (cond ((decide ((0 : Int) ≤ x3)) && (decide (x3 < (a0.length : Int))))
 (cond ((decide ((0 : Int) ≤ (IntKind.wrap .i64 (x3 - (1 : Int))))) && (decide ((IntKind.wrap .i64 (x3 - (1 : Int))) < (a0.length : Int))))
 (cond (decide ((a0.getD (x3.toNat) []) = (a0.getD ((IntKind.wrap .i64 (x3 - (1 : Int))).toNat) [])))
 (cond ((decide ((0 : Int) ≤ x3)) && (decide (x3 ≤ (a0.length : Int))))
 (slices_Compact_string_string_l1_L (fun x3 z8 => (cond ((decide ((0 : Int) ≤ x3)) && (decide (x3 ≤ (z8.length : Int))))
 (cond ((decide ((0 : Int) ≤ x3)) && (decide (x3 ≤ ((splL z8 (x3.toNat) (List.take ((z8.length) - (x3.toNat)) (List.replicate ((z8.length) - (x3.toNat)) []))).length : Int))))
 (kr (x3.toNat) (splL z8 (x3.toNat) (List.take ((z8.length) - (x3.toNat)) (List.replicate ((z8.length) - (x3.toNat)) []))))
 none)
 none)) a0 FUEL x3 (1 : Int) a0 (x3.toNat))
 none)
 (rec (IntKind.wrap .i64 (x3 + (1 : Int)))))
 none)
 none)
 (ke0))
noncomputable def slices_Compact_string_string_l0_L (ke0 : Option (List (List Int))) (kr : Nat → (List (List Int)) → Option (List (List Int))) (a0 : (List (List Int))) : Nat → Int → Option (List (List Int))
 | 0 => fun _ => none
 | n + 1 => slices_Compact_string_string_l0_b (slices_Compact_string_string_l0_L ke0 kr a0 n) ke0 kr a0
noncomputable def slices_Compact_string_string_r (a0 : (List (List Int))) : Option (List (List Int)) :=
 (cond (decide ((a0.length : Int) < (2 : Int)))
 (some a0)
 (slices_Compact_string_string_l0_L (some a0) (fun x2v z8 => (some (List.take x2v z8))) a0 FUEL (1 : Int)))
theorem slices_Compact_string_string_l1_round (k : Nat) (K : Ex → St → Option (List (List Int))) (n : Nat) (a0 : (List (List Int))) (x3 : Int) (x5 : Int) (z8 : (List (List Int))) (x4u : Nat) : (loopK (slices_Compact_string_string_cx k) 0 (execK (slices_Compact_string_string_cx k) (callK (slices_Compact_string_string_cx k) 8) 0 29 (sub slices_Compact_string_string_c [1, 1, 0, 1, 0, 0, 1, 0, 0, 1, 0, 1, 0, 1, 0, 0])) slices_Compact_string_string_l1_cut K (n + 1) (slices_Compact_string_string_l1_s a0 x3 x5 z8 x4u) : Option (List (List Int))) =
 ((cond (decide (x5 < (((a0.length) - x4u : Nat) : Int)))
 (cond ((decide ((0 : Int) ≤ x5)) && (decide (x5 < (((a0.length) - x4u : Nat) : Int))))
 (cond ((decide ((0 : Int) ≤ (IntKind.wrap .i64 (x5 - (1 : Int))))) && (decide ((IntKind.wrap .i64 (x5 - (1 : Int))) < (((a0.length) - x4u : Nat) : Int))))
 (cond (!(decide ((z8.getD (x4u + (x5.toNat)) []) = (z8.getD (x4u + ((IntKind.wrap .i64 (x5 - (1 : Int))).toNat)) []))))
 (cond ((decide ((0 : Int) ≤ x5)) && (decide (x5 < (((a0.length) - x4u : Nat) : Int))))
 (cond ((decide ((0 : Int) ≤ x3)) && (decide (x3 < (z8.length : Int))))
 (loopK (slices_Compact_string_string_cx k) 0 (execK (slices_Compact_string_string_cx k) (callK (slices_Compact_string_string_cx k) 8) 0 29 (sub slices_Compact_string_string_c [1, 1, 0, 1, 0, 0, 1, 0, 0, 1, 0, 1, 0, 1, 0, 0])) slices_Compact_string_string_l1_cut K n (slices_Compact_string_string_l1_s a0 (IntKind.wrap .i64 (x3 + (1 : Int))) (IntKind.wrap .i64 (x5 + (1 : Int))) (z8.set (x3.toNat) (z8.getD (x4u + (x5.toNat)) [])) x4u))
 none)
 none)
 (loopK (slices_Compact_string_string_cx k) 0 (execK (slices_Compact_string_string_cx k) (callK (slices_Compact_string_string_cx k) 8) 0 29 (sub slices_Compact_string_string_c [1, 1, 0, 1, 0, 0, 1, 0, 0, 1, 0, 1, 0, 1, 0, 0])) slices_Compact_string_string_l1_cut K n (slices_Compact_string_string_l1_s a0 x3 (IntKind.wrap .i64 (x5 + (1 : Int))) z8 x4u)))
 none)
 none)
 (K (.exit 2) (slices_Compact_string_string_l1_o2 x3 z8))) : Option (List (List Int))) := by kernel_rfl

theorem slices_Compact_string_string_l1_exit2 (k : Nat) (K : Ex → St → Option (List (List Int))) (n : Nat) (x3 : Int) (z8 : (List (List Int))) : ((blkK 2 (seqK (execK (slices_Compact_string_string_cx k) (callK (slices_Compact_string_string_cx k) 8) 0 29 (sub slices_Compact_string_string_c [1, 1, 0, 1, 0, 0, 1, 0, 0, 1, 0, 1, 1])) (blkK 1 (seqK (execK (slices_Compact_string_string_cx k) (callK (slices_Compact_string_string_cx k) 8) 0 29 (sub slices_Compact_string_string_c [1, 1, 0, 1, 0, 0, 1, 1])) (iterK (slices_Compact_string_string_cx k) 0 slices_Compact_string_string_l0_cut (loopK (slices_Compact_string_string_cx k) 0 (execK (slices_Compact_string_string_cx k) (callK (slices_Compact_string_string_cx k) 8) 0 29 (sub slices_Compact_string_string_c [1, 1, 0, 1, 0, 0])) slices_Compact_string_string_l0_cut K n) K))))) (.exit 2) (slices_Compact_string_string_l1_o2 x3 z8) : Option (List (List Int))) =
 ((cond ((decide ((0 : Int) ≤ x3)) && (decide (x3 ≤ (z8.length : Int))))
 (cond ((decide ((0 : Int) ≤ x3)) && (decide (x3 ≤ ((splL z8 (x3.toNat) (List.take ((z8.length) - (x3.toNat)) (List.replicate ((z8.length) - (x3.toNat)) []))).length : Int))))
 (K .ret (slices_Compact_string_string_l0_o (x3.toNat) (splL z8 (x3.toNat) (List.take ((z8.length) - (x3.toNat)) (List.replicate ((z8.length) - (x3.toNat)) [])))))
 none)
 none) : Option (List (List Int))) := by kernel_rfl

theorem slices_Compact_string_string_l1_congr (ke2 : Int → (List (List Int)) → Option (List (List Int))) (ke2' : Int → (List (List Int)) → Option (List (List Int))) (a0 : (List (List Int))) (n : Nat) (x3 : Int) (x5 : Int) (z8 : (List (List Int))) (x4u : Nat) (hke2 : ∀ x3 z8, ke2 x3 z8 = ke2' x3 z8) : slices_Compact_string_string_l1_L ke2 a0 n x3 x5 z8 x4u = slices_Compact_string_string_l1_L ke2' a0 n x3 x5 z8 x4u := by
 have : ke2 = ke2' := (by funext x3 z8; exact hke2 x3 z8); subst this; rfl

theorem slices_Compact_string_string_l1_L_eq (K : Ex → St → Option (List (List Int))) (a0 : (List (List Int))) : ∀ (n : Nat) (x3 : Int) (x5 : Int) (z8 : (List (List Int))) (x4u : Nat), (loopK (slices_Compact_string_string_cx FUEL) 0 (execK (slices_Compact_string_string_cx FUEL) (callK (slices_Compact_string_string_cx FUEL) 8) 0 29 (sub slices_Compact_string_string_c [1, 1, 0, 1, 0, 0, 1, 0, 0, 1, 0, 1, 0, 1, 0, 0])) slices_Compact_string_string_l1_cut K n (slices_Compact_string_string_l1_s a0 x3 x5 z8 x4u) : Option (List (List Int))) = slices_Compact_string_string_l1_L (fun x3 z8 => K (.exit 2) (slices_Compact_string_string_l1_o2 x3 z8)) a0 n x3 x5 z8 x4u := by
 intro n
 induction n with
 | zero => intros; rfl
 | succ n ih =>
  intro x3 x5 z8 x4u
  exact (slices_Compact_string_string_l1_round FUEL K n a0 x3 x5 z8 x4u).trans (condC (condC (condC (condC (condC (condC (ih (IntKind.wrap .i64 (x3 + (1 : Int))) (IntKind.wrap .i64 (x5 + (1 : Int))) (z8.set (x3.toNat) (z8.getD (x4u + (x5.toNat)) [])) x4u) (rfl)) (rfl)) (ih x3 (IntKind.wrap .i64 (x5 + (1 : Int))) z8 x4u)) (rfl)) (rfl)) (rfl))

theorem slices_Compact_string_string_l0_round (k : Nat) (K : Ex → St → Option (List (List Int))) (n : Nat) (a0 : (List (List Int))) (x3 : Int) : (loopK (slices_Compact_string_string_cx k) 0 (execK (slices_Compact_string_string_cx k) (callK (slices_Compact_string_string_cx k) 8) 0 29 (sub slices_Compact_string_string_c [1, 1, 0, 1, 0, 0])) slices_Compact_string_string_l0_cut K (n + 1) (slices_Compact_string_string_l0_s a0 x3) : Option (List (List Int))) =
 ((cond (decide (x3 < (a0.length : Int)))
 (cond ((decide ((0 : Int) ≤ x3)) && (decide (x3 < (a0.length : Int))))
 (cond ((decide ((0 : Int) ≤ (IntKind.wrap .i64 (x3 - (1 : Int))))) && (decide ((IntKind.wrap .i64 (x3 - (1 : Int))) < (a0.length : Int))))
 (cond (decide ((a0.getD (x3.toNat) []) = (a0.getD ((IntKind.wrap .i64 (x3 - (1 : Int))).toNat) [])))
 (cond ((decide ((0 : Int) ≤ x3)) && (decide (x3 ≤ (a0.length : Int))))
 (loopK (slices_Compact_string_string_cx k) 0 (execK (slices_Compact_string_string_cx k) (callK (slices_Compact_string_string_cx k) 8) 0 29 (sub slices_Compact_string_string_c [1, 1, 0, 1, 0, 0, 1, 0, 0, 1, 0, 1, 0, 1, 0, 0])) slices_Compact_string_string_l1_cut (blkK 2 (seqK (execK (slices_Compact_string_string_cx k) (callK (slices_Compact_string_string_cx k) 8) 0 29 (sub slices_Compact_string_string_c [1, 1, 0, 1, 0, 0, 1, 0, 0, 1, 0, 1, 1])) (blkK 1 (seqK (execK (slices_Compact_string_string_cx k) (callK (slices_Compact_string_string_cx k) 8) 0 29 (sub slices_Compact_string_string_c [1, 1, 0, 1, 0, 0, 1, 1])) (iterK (slices_Compact_string_string_cx k) 0 slices_Compact_string_string_l0_cut (loopK (slices_Compact_string_string_cx k) 0 (execK (slices_Compact_string_string_cx k) (callK (slices_Compact_string_string_cx k) 8) 0 29 (sub slices_Compact_string_string_c [1, 1, 0, 1, 0, 0])) slices_Compact_string_string_l0_cut K n) K))))) k (slices_Compact_string_string_l1_s a0 x3 (1 : Int) a0 (x3.toNat)))
 none)
 (loopK (slices_Compact_string_string_cx k) 0 (execK (slices_Compact_string_string_cx k) (callK (slices_Compact_string_string_cx k) 8) 0 29 (sub slices_Compact_string_string_c [1, 1, 0, 1, 0, 0])) slices_Compact_string_string_l0_cut K n (slices_Compact_string_string_l0_s a0 (IntKind.wrap .i64 (x3 + (1 : Int))))))
 none)
 none)
 (K (.exit 0) (slices_Compact_string_string_l0_o0 a0))) : Option (List (List Int))) := by kernel_rfl

theorem slices_Compact_string_string_l0_exit0 (k : Nat)  (a0 : (List (List Int))) : ((blkK 0 (seqK (execK (slices_Compact_string_string_cx k) (callK (slices_Compact_string_string_cx k) 8) 0 29 (sub slices_Compact_string_string_c [1, 1, 1])) (finTK (slices_Compact_string_string_cx k) slices_Compact_string_string_i 9 .str))) (.exit 0) (slices_Compact_string_string_l0_o0 a0) : Option (List (List Int))) =
 ((some a0) : Option (List (List Int))) := by kernel_rfl

theorem slices_Compact_string_string_l0_ret (k : Nat)  (x2v : Nat) (z8 : (List (List Int))) : ((blkK 0 (seqK (execK (slices_Compact_string_string_cx k) (callK (slices_Compact_string_string_cx k) 8) 0 29 (sub slices_Compact_string_string_c [1, 1, 1])) (finTK (slices_Compact_string_string_cx k) slices_Compact_string_string_i 9 .str))) .ret (slices_Compact_string_string_l0_o x2v z8) : Option (List (List Int))) =
 ((some (List.take x2v z8)) : Option (List (List Int))) := by kernel_rfl

theorem slices_Compact_string_string_l0_congr (ke0 : Option (List (List Int))) (kr : Nat → (List (List Int)) → Option (List (List Int))) (ke0' : Option (List (List Int))) (kr' : Nat → (List (List Int)) → Option (List (List Int))) (a0 : (List (List Int))) (n : Nat) (x3 : Int) (hke0 : ∀ (_ : Unit), ke0  = ke0' ) (hkr : ∀ x2v z8, kr x2v z8 = kr' x2v z8) : slices_Compact_string_string_l0_L ke0 kr a0 n x3 = slices_Compact_string_string_l0_L ke0' kr' a0 n x3 := by
 have : ke0 = ke0' := hke0 (); subst this; have : kr = kr' := (by funext x2v z8; exact hkr x2v z8); subst this; rfl

theorem slices_Compact_string_string_l0_L_eq (K : Ex → St → Option (List (List Int))) (a0 : (List (List Int))) : ∀ (n : Nat) (x3 : Int), (loopK (slices_Compact_string_string_cx FUEL) 0 (execK (slices_Compact_string_string_cx FUEL) (callK (slices_Compact_string_string_cx FUEL) 8) 0 29 (sub slices_Compact_string_string_c [1, 1, 0, 1, 0, 0])) slices_Compact_string_string_l0_cut K n (slices_Compact_string_string_l0_s a0 x3) : Option (List (List Int))) = slices_Compact_string_string_l0_L (K (.exit 0) (slices_Compact_string_string_l0_o0 a0)) (fun x2v z8 => K .ret (slices_Compact_string_string_l0_o x2v z8)) a0 n x3 := by
 intro n
 induction n with
 | zero => intros; rfl
 | succ n ih =>
  intro x3
  exact (slices_Compact_string_string_l0_round FUEL K n a0 x3).trans (condC (condC (condC (condC (condC ((slices_Compact_string_string_l1_L_eq _ a0 FUEL x3 (1 : Int) a0 (x3.toNat)).trans (slices_Compact_string_string_l1_congr _ _ a0 FUEL x3 (1 : Int) a0 (x3.toNat) (fun x3 z8 => (slices_Compact_string_string_l1_exit2 FUEL K n x3 z8).trans (condC (condC (rfl) (rfl)) (rfl))))) (rfl)) (ih (IntKind.wrap .i64 (x3 + (1 : Int))))) (rfl)) (rfl)) (rfl))

theorem slices_Compact_string_string_start (k : Nat) (a0 : (List (List Int))) : fnTK (slices_Compact_string_string_cx k) 8 29 slices_Compact_string_string_i 9 .str a0 [] =
 ((cond (decide ((a0.length : Int) < (2 : Int)))
 (some a0)
 (loopK (slices_Compact_string_string_cx k) 0 (execK (slices_Compact_string_string_cx k) (callK (slices_Compact_string_string_cx k) 8) 0 29 (sub slices_Compact_string_string_c [1, 1, 0, 1, 0, 0])) slices_Compact_string_string_l0_cut (blkK 0 (seqK (execK (slices_Compact_string_string_cx k) (callK (slices_Compact_string_string_cx k) 8) 0 29 (sub slices_Compact_string_string_c [1, 1, 1])) (finTK (slices_Compact_string_string_cx k) slices_Compact_string_string_i 9 .str))) k (slices_Compact_string_string_l0_s a0 (1 : Int)))) : Option (List (List Int))) := by kernel_rfl

theorem slices_Compact_string_string_run (a0 : (List (List Int))) : fnTK (slices_Compact_string_string_cx FUEL) 8 29 slices_Compact_string_string_i 9 .str a0 [] = slices_Compact_string_string_r a0 :=
 (slices_Compact_string_string_start FUEL a0).trans (condC (rfl) ((slices_Compact_string_string_l0_L_eq _ a0 FUEL (1 : Int)).trans (slices_Compact_string_string_l0_congr _ _ _ _ a0 FUEL (1 : Int) (fun _ => (slices_Compact_string_string_l0_exit0 FUEL  a0).trans (rfl)) (fun x2v z8 => (slices_Compact_string_string_l0_ret FUEL  x2v z8).trans (rfl)))))

noncomputable def slices_Compact_string_string_tak : ConT := { E := 9, e := .str, ps := .unit, raw := fun x q => slices_Compact_string_string_r x  }
theorem slices_Compact_string_string_takOk : TakOk Try.prog 29 slices_Compact_string_string_tak := tak_of_fn (slices_Compact_string_string_tabs FUEL) (depth := 8) slices_Compact_string_string_ok rfl fun xs q z h => (slices_Compact_string_string_run xs ).trans h

noncomputable def cmp_Compare_string_inls : List (Nat × Inl) := []
noncomputable def cmp_Compare_string_cons : List (Nat × Con) := [(54, cmp_isNaN_string_con)]
noncomputable def cmp_Compare_string_taks : List (Nat × ConT) := []
noncomputable def cmp_Compare_string_inps : List (Nat × ConI) := []
noncomputable def cmp_Compare_string_cuts : List (Nat × List (Nat × Cut)) := []
noncomputable def cmp_Compare_string_cx (k : Nat) : Cx := mkCx tys tbytes telem nozero (Ai.look cmp_Compare_string_inls) (Ai.look cmp_Compare_string_cons) (Ai.look cmp_Compare_string_taks) (Ai.look cmp_Compare_string_inps) (fun f id => match Ai.look cmp_Compare_string_cuts f with | some l => Ai.look l id | none => none) k [] false
theorem cmp_Compare_string_tabs (k : Nat) : TabsOk Try.prog (cmp_Compare_string_cx k) := ⟨tab_mk tabs_ok _ _ _ _ _ _ _ _, look_all (Q := ConOk Try.prog) _ ⟨cmp_isNaN_string_conOk, trivial⟩, look_all (Q := TakOk Try.prog) _ trivial, look_all (Q := InpOk Try.prog) _ trivial, look_all (Q := InlOk Try.prog) _ trivial, mixed_ok⟩
abbrev cmp_Compare_string_sh : List Sh := [.pl (.int .i64)]
noncomputable def cmp_Compare_string_r (a0 : List Int) (a1 : List Int) : Option (shDen cmp_Compare_string_sh) :=
 (bindO (cmp_isNaN_string_r a0) fun (b1 : Bool) => (bindO (cmp_isNaN_string_r a1) fun (b2 : Bool) => (cond b1
 (cond b2
 (some (0 : Int))
 (some (-1 : Int)))
 (cond b2
 (some (1 : Int))
 (cond (ltI a0 a1)
 (some (-1 : Int))
 (cond (!((ltI a0 a1) || (decide (a0 = a1))))
 (some (1 : Int))
 (some (0 : Int))))))))
theorem cmp_Compare_string_start (k : Nat) (a0 : List Int) (a1 : List Int) : fnK (cmp_Compare_string_cx k) 8 41 cmp_Compare_string_i cmp_Compare_string_sh [.pv .str a0, .pv .str a1] =
 ((bindO (cmp_isNaN_string_r a0) fun (b1 : Bool) => (bindO (cmp_isNaN_string_r a1) fun (b2 : Bool) => (cond b1
 (cond b2
 (some (0 : Int))
 (some (-1 : Int)))
 (cond b2
 (some (1 : Int))
 (cond (ltI a0 a1)
 (some (-1 : Int))
 (cond (!((ltI a0 a1) || (decide (a0 = a1))))
 (some (1 : Int))
 (some (0 : Int)))))))) : Option (shDen cmp_Compare_string_sh)) := by kernel_rfl

theorem cmp_Compare_string_run (a0 : List Int) (a1 : List Int) : fnK (cmp_Compare_string_cx FUEL) 8 41 cmp_Compare_string_i cmp_Compare_string_sh [.pv .str a0, .pv .str a1] = cmp_Compare_string_r a0 a1 :=
 (cmp_Compare_string_start FUEL a0 a1).trans (rfl)

noncomputable def cmp_Compare_string_con : Con := { ps := (.pair .str (.pair .str .unit)), sh := cmp_Compare_string_sh, raw := fun x => cmp_Compare_string_r x.1 x.2.1 }
theorem cmp_Compare_string_conOk : ConOk Try.prog 41 cmp_Compare_string_con := con_of_fn (cmp_Compare_string_tabs FUEL) (depth := 8) cmp_Compare_string_ok fun x y h => (cmp_Compare_string_run x.1 x.2.1).trans h

noncomputable def impl_find_1_inls : List (Nat × Inl) := []
noncomputable def impl_find_1_cons : List (Nat × Con) := [(41, cmp_Compare_string_con)]
noncomputable def impl_find_1_taks : List (Nat × ConT) := []
noncomputable def impl_find_1_inps : List (Nat × ConI) := []
noncomputable def impl_find_1_cuts : List (Nat × List (Nat × Cut)) := []
noncomputable def impl_find_1_cx (k : Nat) : Cx := mkCx tys tbytes telem nozero (Ai.look impl_find_1_inls) (Ai.look impl_find_1_cons) (Ai.look impl_find_1_taks) (Ai.look impl_find_1_inps) (fun f id => match Ai.look impl_find_1_cuts f with | some l => Ai.look l id | none => none) k [] false
theorem impl_find_1_tabs (k : Nat) : TabsOk Try.prog (impl_find_1_cx k) := ⟨tab_mk tabs_ok _ _ _ _ _ _ _ _, look_all (Q := ConOk Try.prog) _ ⟨cmp_Compare_string_conOk, trivial⟩, look_all (Q := TakOk Try.prog) _ trivial, look_all (Q := InpOk Try.prog) _ trivial, look_all (Q := InlOk Try.prog) _ trivial, mixed_ok⟩
abbrev impl_find_1_sh : List Sh := [.pl (.int .i64)]
noncomputable def impl_find_1_r (a0 : (List Int × (List Int × Unit))) (a1 : List Int) : Option (shDen impl_find_1_sh) :=
 (bindO (cmp_Compare_string_r a0.1 a1) fun (b1 : Int) => (some b1))
theorem impl_find_1_start (k : Nat) (a0 : (List Int × (List Int × Unit))) (a1 : List Int) : fnK (impl_find_1_cx k) 8 40 impl_find_1_i impl_find_1_sh [.pv (.pair .str (.pair .str .unit)) a0, .pv .str a1] =
 ((bindO (cmp_Compare_string_r a0.1 a1) fun (b1 : Int) => (some b1)) : Option (shDen impl_find_1_sh)) := by kernel_rfl

theorem impl_find_1_run (a0 : (List Int × (List Int × Unit))) (a1 : List Int) : fnK (impl_find_1_cx FUEL) 8 40 impl_find_1_i impl_find_1_sh [.pv (.pair .str (.pair .str .unit)) a0, .pv .str a1] = impl_find_1_r a0 a1 :=
 (impl_find_1_start FUEL a0 a1).trans (rfl)

noncomputable def impl_find_1_con : Con := { ps := (.pair (.pair .str (.pair .str .unit)) (.pair .str .unit)), sh := impl_find_1_sh, raw := fun x => impl_find_1_r x.1 x.2.1 }
theorem impl_find_1_conOk : ConOk Try.prog 40 impl_find_1_con := con_of_fn (impl_find_1_tabs FUEL) (depth := 8) impl_find_1_ok fun x y h => (impl_find_1_run x.1 x.2.1).trans h

noncomputable def impl_find_l0_cut : Cut := { keep := [0, 1, 2, 8, 9, 10], stk := [[]], ids := [], own := [], outs := [(1, [0, 1, 2, 8, 9], [])] }
noncomputable def impl_find_inls : List (Nat × Inl) := [(39, slices_BinarySearchFunc_impl_Entry_impl_Entry_string_i)]
noncomputable def impl_find_cons : List (Nat × Con) := [(40, impl_find_1_con)]
noncomputable def impl_find_taks : List (Nat × ConT) := []
noncomputable def impl_find_inps : List (Nat × ConI) := []
noncomputable def impl_find_cuts : List (Nat × List (Nat × Cut)) := [(3200080039, [(0, impl_find_l0_cut)])]
noncomputable def impl_find_cx (k : Nat) : Cx := mkCx tys tbytes telem nozero (Ai.look impl_find_inls) (Ai.look impl_find_cons) (Ai.look impl_find_taks) (Ai.look impl_find_inps) (fun f id => match Ai.look impl_find_cuts f with | some l => Ai.look l id | none => none) k [] false
theorem impl_find_tabs (k : Nat) : TabsOk Try.prog (impl_find_cx k) := ⟨tab_mk tabs_ok _ _ _ _ _ _ _ _, look_all (Q := ConOk Try.prog) _ ⟨impl_find_1_conOk, trivial⟩, look_all (Q := TakOk Try.prog) _ trivial, look_all (Q := InpOk Try.prog) _ trivial, look_all (Q := InlOk Try.prog) _ ⟨slices_BinarySearchFunc_impl_Entry_impl_Entry_string_ok, trivial⟩, mixed_ok⟩
abbrev impl_find_sh : List Sh := [.pl (.int .i64), .pl .bool]
noncomputable def impl_find_l0_s (a0 : (List (List Int × (List Int × Unit)))) (a1 : List Int) (x9 : Int) (x10 : Int) : St := { env := [.pv (.slice (.pair .str (.pair .str .unit))) a0, .pv .str a1, .fn 40 (.pv .unit ()), .dead, .dead, .dead, .dead, .dead, .pv (.int .i64) (a0.length : Int), .pv (.int .i64) x9, .pv (.int .i64) x10, .dead, .dead, .dead, .dead, .dead, .dead, .dead, .dead, .dead, .dead, .dead, .dead, .dead, .dead, .dead, .dead, .dead, .dead, .dead, .dead, .dead, .dead, .dead, .dead, .dead, .dead, .dead, .dead, .dead, .dead, .dead, .dead, .dead, .dead, .dead, .dead, .dead, .dead], stk := [[.dead, .dead, .dead, .dead, .dead, .dead, .dead, .dead, .dead, .dead, .dead]], heap := [] }
noncomputable def impl_find_l0_o0 (a0 : (List (List Int × (List Int × Unit)))) (a1 : List Int) (x9 : Int) : St := { env := [.pv (.slice (.pair .str (.pair .str .unit))) a0, .pv .str a1, .fn 40 (.pv .unit ()), .dead, .dead, .dead, .dead, .dead, .pv (.int .i64) (a0.length : Int), .pv (.int .i64) x9, .dead, .dead, .dead, .dead, .dead, .dead, .dead, .dead, .dead, .dead, .dead, .dead, .dead, .dead, .dead, .dead, .dead, .dead, .dead, .dead, .dead, .dead, .dead, .dead, .dead, .dead, .dead, .dead, .dead, .dead, .dead, .dead, .dead, .dead, .dead, .dead, .dead, .dead, .dead], stk := [[.dead, .dead, .dead, .dead, .dead, .dead, .dead, .dead, .dead, .dead, .dead]], heap := [] }
noncomputable def impl_find_l0_b (rec : Int → Int → Option (shDen impl_find_sh)) (ke0 : Int → Option (shDen impl_find_sh)) (a0 : (List (List Int × (List Int × Unit)))) (a1 : List Int) (x9 : Int) (x10 : Int) : Option (shDen impl_find_sh) :=
 (cond (decide (x9 < x10))
 (cond ((decide ((0 : Int) ≤ (IntKind.wrap .i64 (shrI .u64 (IntKind.wrap .u64 (IntKind.wrap .i64 (x9 + x10))) (1 : Int))))) && (decide ((IntKind.wrap .i64 (shrI .u64 (IntKind.wrap .u64 (IntKind.wrap .i64 (x9 + x10))) (1 : Int))) < (a0.length : Int))))
 (bindO (impl_find_1_r (a0.getD ((IntKind.wrap .i64 (shrI .u64 (IntKind.wrap .u64 (IntKind.wrap .i64 (x9 + x10))) (1 : Int))).toNat) ([], ([], ()))) a1) fun (b2 : Int) => (cond (decide (b2 < (0 : Int)))
 (rec (IntKind.wrap .i64 ((IntKind.wrap .i64 (shrI .u64 (IntKind.wrap .u64 (IntKind.wrap .i64 (x9 + x10))) (1 : Int))) + (1 : Int))) x10)
 (rec x9 (IntKind.wrap .i64 (shrI .u64 (IntKind.wrap .u64 (IntKind.wrap .i64 (x9 + x10))) (1 : Int))))))
 none)
 (ke0 x9))
noncomputable def impl_find_l0_L (ke0 : Int → Option (shDen impl_find_sh)) (a0 : (List (List Int × (List Int × Unit)))) (a1 : List Int) : Nat → Int → Int → Option (shDen impl_find_sh)
 | 0 => fun _ _ => none
 | n + 1 => impl_find_l0_b (impl_find_l0_L ke0 a0 a1 n) ke0 a0 a1
noncomputable def impl_find_r (a0 : (List (List Int × (List Int × Unit)))) (a1 : List Int) : Option (shDen impl_find_sh) :=
 (impl_find_l0_L (fun x9 => (cond (decide (x9 < (a0.length : Int)))
 (cond ((decide ((0 : Int) ≤ x9)) && (decide (x9 < (a0.length : Int))))
 (bindO (impl_find_1_r (a0.getD (x9.toNat) ([], ([], ()))) a1) fun (b3 : Int) => (some (x9, (decide (b3 = (0 : Int))))))
 none)
 (some (x9, false)))) a0 a1 FUEL (0 : Int) (a0.length : Int))
theorem impl_find_l0_round (k : Nat) (K : Ex → St → Option (shDen impl_find_sh)) (n : Nat) (a0 : (List (List Int × (List Int × Unit)))) (a1 : List Int) (x9 : Int) (x10 : Int) : (loopK (impl_find_cx k) 1 (execK (impl_find_cx k) (callK (impl_find_cx k) 7) 1 3200080039 (sub slices_BinarySearchFunc_impl_Entry_impl_Entry_string_c [1, 1, 1, 0, 0, 0])) impl_find_l0_cut K (n + 1) (impl_find_l0_s a0 a1 x9 x10) : Option (shDen impl_find_sh)) =
 ((cond (decide (x9 < x10))
 (cond ((decide ((0 : Int) ≤ (IntKind.wrap .i64 (shrI .u64 (IntKind.wrap .u64 (IntKind.wrap .i64 (x9 + x10))) (1 : Int))))) && (decide ((IntKind.wrap .i64 (shrI .u64 (IntKind.wrap .u64 (IntKind.wrap .i64 (x9 + x10))) (1 : Int))) < (a0.length : Int))))
 (bindO (impl_find_1_r (a0.getD ((IntKind.wrap .i64 (shrI .u64 (IntKind.wrap .u64 (IntKind.wrap .i64 (x9 + x10))) (1 : Int))).toNat) ([], ([], ()))) a1) fun (b2 : Int) => (cond (decide (b2 < (0 : Int)))
 (loopK (impl_find_cx k) 1 (execK (impl_find_cx k) (callK (impl_find_cx k) 7) 1 3200080039 (sub slices_BinarySearchFunc_impl_Entry_impl_Entry_string_c [1, 1, 1, 0, 0, 0])) impl_find_l0_cut K n (impl_find_l0_s a0 a1 (IntKind.wrap .i64 ((IntKind.wrap .i64 (shrI .u64 (IntKind.wrap .u64 (IntKind.wrap .i64 (x9 + x10))) (1 : Int))) + (1 : Int))) x10))
 (loopK (impl_find_cx k) 1 (execK (impl_find_cx k) (callK (impl_find_cx k) 7) 1 3200080039 (sub slices_BinarySearchFunc_impl_Entry_impl_Entry_string_c [1, 1, 1, 0, 0, 0])) impl_find_l0_cut K n (impl_find_l0_s a0 a1 x9 (IntKind.wrap .i64 (shrI .u64 (IntKind.wrap .u64 (IntKind.wrap .i64 (x9 + x10))) (1 : Int)))))))
 none)
 (K (.exit 0) (impl_find_l0_o0 a0 a1 x9))) : Option (shDen impl_find_sh)) := by kernel_rfl

theorem impl_find_l0_exit0 (k : Nat)  (a0 : (List (List Int × (List Int × Unit)))) (a1 : List Int) (x9 : Int) : ((blkK 0 (seqK (execK (impl_find_cx k) (callK (impl_find_cx k) 7) 1 3200080039 (sub slices_BinarySearchFunc_impl_Entry_impl_Entry_string_c [1, 1, 1, 1])) (retK (impl_find_cx k) slices_BinarySearchFunc_impl_Entry_impl_Entry_string_i (some 8) 0 (opsRest (impl_find_cx k) (callK (impl_find_cx k) 8) 0 32 false (regOps (sub impl_find_c [1, 0])) 2 (seqK (execK (impl_find_cx k) (callK (impl_find_cx k) 8) 0 32 (sub impl_find_c [1, 1])) (finK (impl_find_cx k) impl_find_i impl_find_sh)))))) (.exit 0) (impl_find_l0_o0 a0 a1 x9) : Option (shDen impl_find_sh)) =
 ((cond (decide (x9 < (a0.length : Int)))
 (cond ((decide ((0 : Int) ≤ x9)) && (decide (x9 < (a0.length : Int))))
 (bindO (impl_find_1_r (a0.getD (x9.toNat) ([], ([], ()))) a1) fun (b3 : Int) => (some (x9, (decide (b3 = (0 : Int))))))
 none)
 (some (x9, false))) : Option (shDen impl_find_sh)) := by kernel_rfl

theorem impl_find_l0_congr (ke0 : Int → Option (shDen impl_find_sh)) (ke0' : Int → Option (shDen impl_find_sh)) (a0 : (List (List Int × (List Int × Unit)))) (a1 : List Int) (n : Nat) (x9 : Int) (x10 : Int) (hke0 : ∀ x9, ke0 x9 = ke0' x9) : impl_find_l0_L ke0 a0 a1 n x9 x10 = impl_find_l0_L ke0' a0 a1 n x9 x10 := by
 have : ke0 = ke0' := (by funext x9; exact hke0 x9); subst this; rfl

theorem impl_find_l0_L_eq (K : Ex → St → Option (shDen impl_find_sh)) (a0 : (List (List Int × (List Int × Unit)))) (a1 : List Int) : ∀ (n : Nat) (x9 : Int) (x10 : Int), (loopK (impl_find_cx FUEL) 1 (execK (impl_find_cx FUEL) (callK (impl_find_cx FUEL) 7) 1 3200080039 (sub slices_BinarySearchFunc_impl_Entry_impl_Entry_string_c [1, 1, 1, 0, 0, 0])) impl_find_l0_cut K n (impl_find_l0_s a0 a1 x9 x10) : Option (shDen impl_find_sh)) = impl_find_l0_L (fun x9 => K (.exit 0) (impl_find_l0_o0 a0 a1 x9)) a0 a1 n x9 x10 := by
 intro n
 induction n with
 | zero => intros; rfl
 | succ n ih =>
  intro x9 x10
  exact (impl_find_l0_round FUEL K n a0 a1 x9 x10).trans (condC (condC (bindC (fun b2 => condC (ih (IntKind.wrap .i64 ((IntKind.wrap .i64 (shrI .u64 (IntKind.wrap .u64 (IntKind.wrap .i64 (x9 + x10))) (1 : Int))) + (1 : Int))) x10) (ih x9 (IntKind.wrap .i64 (shrI .u64 (IntKind.wrap .u64 (IntKind.wrap .i64 (x9 + x10))) (1 : Int)))))) (rfl)) (rfl))

theorem impl_find_start (k : Nat) (a0 : (List (List Int × (List Int × Unit)))) (a1 : List Int) : fnK (impl_find_cx k) 8 32 impl_find_i impl_find_sh [.pv (.slice (.pair .str (.pair .str .unit))) a0, .pv .str a1] =
 ((loopK (impl_find_cx k) 1 (execK (impl_find_cx k) (callK (impl_find_cx k) 7) 1 3200080039 (sub slices_BinarySearchFunc_impl_Entry_impl_Entry_string_c [1, 1, 1, 0, 0, 0])) impl_find_l0_cut (blkK 0 (seqK (execK (impl_find_cx k) (callK (impl_find_cx k) 7) 1 3200080039 (sub slices_BinarySearchFunc_impl_Entry_impl_Entry_string_c [1, 1, 1, 1])) (retK (impl_find_cx k) slices_BinarySearchFunc_impl_Entry_impl_Entry_string_i (some 8) 0 (opsRest (impl_find_cx k) (callK (impl_find_cx k) 8) 0 32 false (regOps (sub impl_find_c [1, 0])) 2 (seqK (execK (impl_find_cx k) (callK (impl_find_cx k) 8) 0 32 (sub impl_find_c [1, 1])) (finK (impl_find_cx k) impl_find_i impl_find_sh)))))) k (impl_find_l0_s a0 a1 (0 : Int) (a0.length : Int))) : Option (shDen impl_find_sh)) := by kernel_rfl

theorem impl_find_run (a0 : (List (List Int × (List Int × Unit)))) (a1 : List Int) : fnK (impl_find_cx FUEL) 8 32 impl_find_i impl_find_sh [.pv (.slice (.pair .str (.pair .str .unit))) a0, .pv .str a1] = impl_find_r a0 a1 :=
 (impl_find_start FUEL a0 a1).trans ((impl_find_l0_L_eq _ a0 a1 FUEL (0 : Int) (a0.length : Int)).trans (impl_find_l0_congr _ _ a0 a1 FUEL (0 : Int) (a0.length : Int) (fun x9 => (impl_find_l0_exit0 FUEL  a0 a1 x9).trans (rfl))))

noncomputable def impl_find_con : Con := { ps := (.pair (.slice (.pair .str (.pair .str .unit))) (.pair .str .unit)), sh := impl_find_sh, raw := fun x => impl_find_r x.1 x.2.1 }
theorem impl_find_conOk : ConOk Try.prog 32 impl_find_con := con_of_fn (impl_find_tabs FUEL) (depth := 8) impl_find_ok fun x y h => (impl_find_run x.1 x.2.1).trans h

noncomputable def impl_same_inls : List (Nat × Inl) := []
noncomputable def impl_same_cons : List (Nat × Con) := [(32, impl_find_con)]
noncomputable def impl_same_taks : List (Nat × ConT) := []
noncomputable def impl_same_inps : List (Nat × ConI) := []
noncomputable def impl_same_cuts : List (Nat × List (Nat × Cut)) := []
noncomputable def impl_same_cx (k : Nat) : Cx := mkCx tys tbytes telem nozero (Ai.look impl_same_inls) (Ai.look impl_same_cons) (Ai.look impl_same_taks) (Ai.look impl_same_inps) (fun f id => match Ai.look impl_same_cuts f with | some l => Ai.look l id | none => none) k [] false
theorem impl_same_tabs (k : Nat) : TabsOk Try.prog (impl_same_cx k) := ⟨tab_mk tabs_ok _ _ _ _ _ _ _ _, look_all (Q := ConOk Try.prog) _ ⟨impl_find_conOk, trivial⟩, look_all (Q := TakOk Try.prog) _ trivial, look_all (Q := InpOk Try.prog) _ trivial, look_all (Q := InlOk Try.prog) _ trivial, mixed_ok⟩
abbrev impl_same_sh : List Sh := [.pl .bool]
noncomputable def impl_same_r (a0 : (List (List Int × (List Int × Unit)))) (a1 : (List (List Int × (List Int × Unit)))) (a2 : List Int) : Option (shDen impl_same_sh) :=
 (bindO (impl_find_r a0 a2) fun (b1 : (Int × Bool)) => (bindO (impl_find_r a1 a2) fun (b2 : (Int × Bool)) => (cond (decide (b1.2 = b2.2))
 (cond (!b1.2)
 (some true)
 (cond ((decide ((0 : Int) ≤ b1.1)) && (decide (b1.1 < (a0.length : Int))))
 (cond ((decide ((0 : Int) ≤ b2.1)) && (decide (b2.1 < (a1.length : Int))))
 (some (decide (((a0.getD (b1.1.toNat) ([], ([], ()))).2).1 = ((a1.getD (b2.1.toNat) ([], ([], ()))).2).1)))
 none)
 none))
 (some false))))
theorem impl_same_start (k : Nat) (a0 : (List (List Int × (List Int × Unit)))) (a1 : (List (List Int × (List Int × Unit)))) (a2 : List Int) : fnK (impl_same_cx k) 8 30 impl_same_i impl_same_sh [.pv (.slice (.pair .str (.pair .str .unit))) a0, .pv (.slice (.pair .str (.pair .str .unit))) a1, .pv .str a2] =
 ((bindO (impl_find_r a0 a2) fun (b1 : (Int × Bool)) => (bindO (impl_find_r a1 a2) fun (b2 : (Int × Bool)) => (cond (decide (b1.2 = b2.2))
 (cond (!b1.2)
 (some true)
 (cond ((decide ((0 : Int) ≤ b1.1)) && (decide (b1.1 < (a0.length : Int))))
 (cond ((decide ((0 : Int) ≤ b2.1)) && (decide (b2.1 < (a1.length : Int))))
 (some (decide (((a0.getD (b1.1.toNat) ([], ([], ()))).2).1 = ((a1.getD (b2.1.toNat) ([], ([], ()))).2).1)))
 none)
 none))
 (some false)))) : Option (shDen impl_same_sh)) := by kernel_rfl

theorem impl_same_run (a0 : (List (List Int × (List Int × Unit)))) (a1 : (List (List Int × (List Int × Unit)))) (a2 : List Int) : fnK (impl_same_cx FUEL) 8 30 impl_same_i impl_same_sh [.pv (.slice (.pair .str (.pair .str .unit))) a0, .pv (.slice (.pair .str (.pair .str .unit))) a1, .pv .str a2] = impl_same_r a0 a1 a2 :=
 (impl_same_start FUEL a0 a1 a2).trans (rfl)

noncomputable def impl_same_con : Con := { ps := (.pair (.slice (.pair .str (.pair .str .unit))) (.pair (.slice (.pair .str (.pair .str .unit))) (.pair .str .unit))), sh := impl_same_sh, raw := fun x => impl_same_r x.1 x.2.1 x.2.2.1 }
theorem impl_same_conOk : ConOk Try.prog 30 impl_same_con := con_of_fn (impl_same_tabs FUEL) (depth := 8) impl_same_ok fun x y h => (impl_same_run x.1 x.2.1 x.2.2.1).trans h

noncomputable def impl_told_inls : List (Nat × Inl) := []
noncomputable def impl_told_cons : List (Nat × Con) := [(32, impl_find_con)]
noncomputable def impl_told_taks : List (Nat × ConT) := []
noncomputable def impl_told_inps : List (Nat × ConI) := []
noncomputable def impl_told_cuts : List (Nat × List (Nat × Cut)) := []
noncomputable def impl_told_cx (k : Nat) : Cx := mkCx tys tbytes telem nozero (Ai.look impl_told_inls) (Ai.look impl_told_cons) (Ai.look impl_told_taks) (Ai.look impl_told_inps) (fun f id => match Ai.look impl_told_cuts f with | some l => Ai.look l id | none => none) k [] false
theorem impl_told_tabs (k : Nat) : TabsOk Try.prog (impl_told_cx k) := ⟨tab_mk tabs_ok _ _ _ _ _ _ _ _, look_all (Q := ConOk Try.prog) _ ⟨impl_find_conOk, trivial⟩, look_all (Q := TakOk Try.prog) _ trivial, look_all (Q := InpOk Try.prog) _ trivial, look_all (Q := InlOk Try.prog) _ trivial, mixed_ok⟩
abbrev impl_told_sh : List Sh := [.pl (.pair .str (.pair .bool (.pair .str (.pair .bool (.pair .str .unit)))))]
noncomputable def impl_told_r (a0 : (List (List Int × (List Int × Unit)))) (a1 : List Int) : Option (shDen impl_told_sh) :=
 (bindO (impl_find_r a0 a1) fun (b1 : (Int × Bool)) => (cond b1.2
 (cond ((decide ((0 : Int) ≤ b1.1)) && (decide (b1.1 < (a0.length : Int))))
 (some (a1, (false, ([], (true, (((a0.getD (b1.1.toNat) ([], ([], ()))).2).1, ()))))))
 none)
 (some (a1, (false, ([], (false, ([], ()))))))))
theorem impl_told_start (k : Nat) (a0 : (List (List Int × (List Int × Unit)))) (a1 : List Int) : fnK (impl_told_cx k) 8 31 impl_told_i impl_told_sh [.pv (.slice (.pair .str (.pair .str .unit))) a0, .pv .str a1] =
 ((bindO (impl_find_r a0 a1) fun (b1 : (Int × Bool)) => (cond b1.2
 (cond ((decide ((0 : Int) ≤ b1.1)) && (decide (b1.1 < (a0.length : Int))))
 (some (a1, (false, ([], (true, (((a0.getD (b1.1.toNat) ([], ([], ()))).2).1, ()))))))
 none)
 (some (a1, (false, ([], (false, ([], ())))))))) : Option (shDen impl_told_sh)) := by kernel_rfl

theorem impl_told_run (a0 : (List (List Int × (List Int × Unit)))) (a1 : List Int) : fnK (impl_told_cx FUEL) 8 31 impl_told_i impl_told_sh [.pv (.slice (.pair .str (.pair .str .unit))) a0, .pv .str a1] = impl_told_r a0 a1 :=
 (impl_told_start FUEL a0 a1).trans (rfl)

noncomputable def impl_told_con : Con := { ps := (.pair (.slice (.pair .str (.pair .str .unit))) (.pair .str .unit)), sh := impl_told_sh, raw := fun x => impl_told_r x.1 x.2.1 }
theorem impl_told_conOk : ConOk Try.prog 31 impl_told_con := con_of_fn (impl_told_tabs FUEL) (depth := 8) impl_told_ok fun x y h => (impl_told_run x.1 x.2.1).trans h

noncomputable def impl_merge_l0_cut : Cut := { keep := [0, 1, 2, 3, 11, 27, 28, 29], stk := [[]], ids := [30, 100270, 190110], own := [(11, 190110, 46)], outs := [(1, [0, 1, 2, 3, 11], [30, 190110])] }
noncomputable def impl_merge_l1_cut : Cut := { keep := [0, 1, 2, 3, 14, 15, 44, 45, 46], stk := [[]], ids := [30, 190110, 190140, 190150], own := [(14, 190140, 24), (15, 190150, 26)], outs := [(3, [14, 15], [190140, 190150])] }
noncomputable def impl_merge_inls : List (Nat × Inl) := [(21, impl_mergeBy_i), (22, impl_merge_1_i)]
noncomputable def impl_merge_cons : List (Nat × Con) := [(27, slices_Concat_impl_Entry_impl_Entry_con), (30, impl_same_con), (31, impl_told_con), (32, impl_find_con)]
noncomputable def impl_merge_taks : List (Nat × ConT) := [(29, slices_Compact_string_string_tak)]
noncomputable def impl_merge_inps : List (Nat × ConI) := [(28, slices_Sort_string_string_inp)]
noncomputable def impl_merge_cuts : List (Nat × List (Nat × Cut)) := [(1400130021, [(0, impl_merge_l0_cut), (2, impl_merge_l1_cut)])]
noncomputable def impl_merge_cx (k : Nat) : Cx := mkCx tys tbytes telem nozero (Ai.look impl_merge_inls) (Ai.look impl_merge_cons) (Ai.look impl_merge_taks) (Ai.look impl_merge_inps) (fun f id => match Ai.look impl_merge_cuts f with | some l => Ai.look l id | none => none) k [] false
theorem impl_merge_tabs (k : Nat) : TabsOk Try.prog (impl_merge_cx k) := ⟨tab_mk tabs_ok _ _ _ _ _ _ _ _, look_all (Q := ConOk Try.prog) _ ⟨slices_Concat_impl_Entry_impl_Entry_conOk, impl_same_conOk, impl_told_conOk, impl_find_conOk, trivial⟩, look_all (Q := TakOk Try.prog) _ ⟨slices_Compact_string_string_takOk, trivial⟩, look_all (Q := InpOk Try.prog) _ ⟨slices_Sort_string_string_inpOk, trivial⟩, look_all (Q := InlOk Try.prog) _ ⟨impl_mergeBy_ok, impl_merge_1_ok, trivial⟩, mixed_ok⟩
abbrev impl_merge_sh : List Sh := [.own 43 (.pair .str (.pair .str .unit)), .own 38 (.pair .str (.pair (.pair .str (.pair .bool (.pair .str (.pair .bool (.pair .str .unit))))) (.pair (.pair .str (.pair .bool (.pair .str (.pair .bool (.pair .str .unit))))) (.pair (.pair .str (.pair .bool (.pair .str (.pair .bool (.pair .str .unit))))) .unit)))), .pl (.int .i64)]
noncomputable def impl_merge_l0_s (a0 : (List (List Int × (List Int × Unit)))) (a1 : (List (List Int × (List Int × Unit)))) (a2 : (List (List Int × (List Int × Unit)))) (x28 : Int) (z100270 : (List (List Int × (List Int × Unit)))) (x29 : Int) (z190110 : (List (List Int))) : St := { env := [.pv (.slice (.pair .str (.pair .str .unit))) a0, .pv (.slice (.pair .str (.pair .str .unit))) a1, .pv (.slice (.pair .str (.pair .str .unit))) a2, .fn 22 (.pr (.ptr 30 (.slice (.pair .str (.pair .str .unit))) []) (.pv .unit ())), .dead, .dead, .dead, .dead, .dead, .dead, .dead, .sl 190110 .str, .dead, .dead, .dead, .dead, .dead, .dead, .dead, .dead, .dead, .dead, .dead, .dead, .dead, .dead, .dead, .sl 100270 (.pair .str (.pair .str .unit)), .pv (.int .i64) x28, .pv (.int .i64) x29, .dead, .dead, .dead, .dead, .dead, .dead, .dead, .dead, .dead, .dead, .dead, .dead, .dead, .dead, .dead, .dead, .dead, .dead, .dead, .dead, .dead, .dead, .dead, .dead, .dead, .dead, .dead, .dead, .dead, .dead, .dead, .dead, .dead, .dead, .dead, .dead, .dead, .dead, .dead, .dead, .dead, .dead, .dead, .dead, .dead, .dead, .dead, .dead, .dead, .dead, .dead, .dead, .dead, .dead, .dead, .dead, .dead, .dead, .dead, .dead, .dead, .dead, .dead, .dead, .dead, .dead, .dead, .dead, .dead, .dead, .dead, .dead, .dead, .dead, .dead, .dead, .dead], stk := [[.dead, .dead, .dead, .dead, .dead, .dead, .dead, .dead, .dead, .dead, .dead, .dead, .dead, .dead, .dead, .dead, .dead]], heap := [(30, .var (.slice (.pair .str (.pair .str .unit))) (.pv (.slice (.pair .str (.pair .str .unit))) a0)), (100270, .arr 43 (.pair .str (.pair .str .unit)) z100270), (190110, .arr 9 .str z190110)] }
noncomputable def impl_merge_l0_o0 (a0 : (List (List Int × (List Int × Unit)))) (a1 : (List (List Int × (List Int × Unit)))) (a2 : (List (List Int × (List Int × Unit)))) (z190110 : (List (List Int))) : St := { env := [.pv (.slice (.pair .str (.pair .str .unit))) a0, .pv (.slice (.pair .str (.pair .str .unit))) a1, .pv (.slice (.pair .str (.pair .str .unit))) a2, .fn 22 (.pr (.ptr 30 (.slice (.pair .str (.pair .str .unit))) []) (.pv .unit ())), .dead, .dead, .dead, .dead, .dead, .dead, .dead, .sl 190110 .str, .dead, .dead, .dead, .dead, .dead, .dead, .dead, .dead, .dead, .dead, .dead, .dead, .dead, .dead, .dead, .dead, .dead, .dead, .dead, .dead, .dead, .dead, .dead, .dead, .dead, .dead, .dead, .dead, .dead, .dead, .dead, .dead, .dead, .dead, .dead, .dead, .dead, .dead, .dead, .dead, .dead, .dead, .dead, .dead, .dead, .dead, .dead, .dead, .dead, .dead, .dead, .dead, .dead, .dead, .dead, .dead, .dead, .dead, .dead, .dead, .dead, .dead, .dead, .dead, .dead, .dead, .dead, .dead, .dead, .dead, .dead, .dead, .dead, .dead, .dead, .dead, .dead, .dead, .dead, .dead, .dead, .dead, .dead, .dead, .dead, .dead, .dead, .dead, .dead, .dead, .dead, .dead, .dead, .dead, .dead], stk := [[.dead, .dead, .dead, .dead, .dead, .dead, .dead, .dead, .dead, .dead, .dead, .dead, .dead, .dead, .dead, .dead, .dead]], heap := [(30, .var (.slice (.pair .str (.pair .str .unit))) (.pv (.slice (.pair .str (.pair .str .unit))) a0)), (190110, .arr 9 .str z190110)] }
noncomputable def impl_merge_l1_s (a0 : (List (List Int × (List Int × Unit)))) (a1 : (List (List Int × (List Int × Unit)))) (a2 : (List (List Int × (List Int × Unit)))) (x45 : Int) (z190110 : (List (List Int))) (x46 : Int) (z190140 : (List (List Int × (List Int × Unit)))) (z190150 : (List (List Int × ((List Int × (Bool × (List Int × (Bool × (List Int × Unit))))) × ((List Int × (Bool × (List Int × (Bool × (List Int × Unit))))) × ((List Int × (Bool × (List Int × (Bool × (List Int × Unit))))) × Unit)))))) : St := { env := [.pv (.slice (.pair .str (.pair .str .unit))) a0, .pv (.slice (.pair .str (.pair .str .unit))) a1, .pv (.slice (.pair .str (.pair .str .unit))) a2, .fn 22 (.pr (.ptr 30 (.slice (.pair .str (.pair .str .unit))) []) (.pv .unit ())), .dead, .dead, .dead, .dead, .dead, .dead, .dead, .dead, .dead, .dead, .sl 190140 (.pair .str (.pair .str .unit)), .sl 190150 (.pair .str (.pair (.pair .str (.pair .bool (.pair .str (.pair .bool (.pair .str .unit))))) (.pair (.pair .str (.pair .bool (.pair .str (.pair .bool (.pair .str .unit))))) (.pair (.pair .str (.pair .bool (.pair .str (.pair .bool (.pair .str .unit))))) .unit)))), .dead, .dead, .dead, .dead, .dead, .dead, .dead, .dead, .dead, .dead, .dead, .dead, .dead, .dead, .dead, .dead, .dead, .dead, .dead, .dead, .dead, .dead, .dead, .dead, .dead, .dead, .dead, .dead, .sl 190110 .str, .pv (.int .i64) x45, .pv (.int .i64) x46, .dead, .dead, .dead, .dead, .dead, .dead, .dead, .dead, .dead, .dead, .dead, .dead, .dead, .dead, .dead, .dead, .dead, .dead, .dead, .dead, .dead, .dead, .dead, .dead, .dead, .dead, .dead, .dead, .dead, .dead, .dead, .dead, .dead, .dead, .dead, .dead, .dead, .dead, .dead, .dead, .dead, .dead, .dead, .dead, .dead, .dead, .dead, .dead, .dead, .dead, .dead, .dead, .dead, .dead, .dead, .dead, .dead, .dead, .dead, .dead], stk := [[.dead, .dead, .dead, .dead, .dead, .dead, .dead, .dead, .dead, .dead, .dead, .dead, .dead, .dead, .dead, .dead, .dead]], heap := [(30, .var (.slice (.pair .str (.pair .str .unit))) (.pv (.slice (.pair .str (.pair .str .unit))) a0)), (190110, .arr 9 .str z190110), (190140, .arr 43 (.pair .str (.pair .str .unit)) z190140), (190150, .arr 38 (.pair .str (.pair (.pair .str (.pair .bool (.pair .str (.pair .bool (.pair .str .unit))))) (.pair (.pair .str (.pair .bool (.pair .str (.pair .bool (.pair .str .unit))))) (.pair (.pair .str (.pair .bool (.pair .str (.pair .bool (.pair .str .unit))))) .unit)))) z190150)] }
noncomputable def impl_merge_l1_o2 (a0 : (List (List Int × (List Int × Unit)))) (z190140 : (List (List Int × (List Int × Unit)))) (z190150 : (List (List Int × ((List Int × (Bool × (List Int × (Bool × (List Int × Unit))))) × ((List Int × (Bool × (List Int × (Bool × (List Int × Unit))))) × ((List Int × (Bool × (List Int × (Bool × (List Int × Unit))))) × Unit)))))) : St := { env := [.dead, .dead, .dead, .dead, .dead, .dead, .dead, .dead, .dead, .dead, .dead, .dead, .dead, .dead, .sl 190140 (.pair .str (.pair .str .unit)), .sl 190150 (.pair .str (.pair (.pair .str (.pair .bool (.pair .str (.pair .bool (.pair .str .unit))))) (.pair (.pair .str (.pair .bool (.pair .str (.pair .bool (.pair .str .unit))))) (.pair (.pair .str (.pair .bool (.pair .str (.pair .bool (.pair .str .unit))))) .unit)))), .dead, .dead, .dead, .dead, .dead, .dead, .dead, .dead, .dead, .dead, .dead, .dead, .dead, .dead, .dead, .dead, .dead, .dead, .dead, .dead, .dead, .dead, .dead, .dead, .dead, .dead, .dead, .dead, .dead, .dead, .dead, .dead, .dead, .dead, .dead, .dead, .dead, .dead, .dead, .dead, .dead, .dead, .dead, .dead, .dead, .dead, .dead, .dead, .dead, .dead, .dead, .dead, .dead, .dead, .dead, .dead, .dead, .dead, .dead, .dead, .dead, .dead, .dead, .dead, .dead, .dead, .dead, .dead, .dead, .dead, .dead, .dead, .dead, .dead, .dead, .dead, .dead, .dead, .dead, .dead, .dead, .dead, .dead, .dead, .dead, .dead, .dead, .dead, .dead, .dead, .dead], stk := [[.dead, .dead, .dead, .dead, .dead, .dead, .dead, .dead, .dead, .dead, .dead, .dead, .dead, .dead, .dead, .dead, .dead]], heap := [(30, .var (.slice (.pair .str (.pair .str .unit))) (.pv (.slice (.pair .str (.pair .str .unit))) a0)), (190140, .arr 43 (.pair .str (.pair .str .unit)) z190140), (190150, .arr 38 (.pair .str (.pair (.pair .str (.pair .bool (.pair .str (.pair .bool (.pair .str .unit))))) (.pair (.pair .str (.pair .bool (.pair .str (.pair .bool (.pair .str .unit))))) (.pair (.pair .str (.pair .bool (.pair .str (.pair .bool (.pair .str .unit))))) .unit)))) z190150)] }
noncomputable def impl_merge_l1_b (rec : Int → (List (List Int)) → Int → (List (List Int × (List Int × Unit))) → (List (List Int × ((List Int × (Bool × (List Int × (Bool × (List Int × Unit))))) × ((List Int × (Bool × (List Int × (Bool × (List Int × Unit))))) × ((List Int × (Bool × (List Int × (Bool × (List Int × Unit))))) × Unit))))) → Option (shDen impl_merge_sh)) (ke2 : (List (List Int × (List Int × Unit))) → (List (List Int × ((List Int × (Bool × (List Int × (Bool × (List Int × Unit))))) × ((List Int × (Bool × (List Int × (Bool × (List Int × Unit))))) × ((List Int × (Bool × (List Int × (Bool × (List Int × Unit))))) × Unit))))) → Option (shDen impl_merge_sh)) (a0 : (List (List Int × (List Int × Unit)))) (a1 : (List (List Int × (List Int × Unit)))) (a2 : (List (List Int × (List Int × Unit)))) (x45 : Int) (z190110 : (List (List Int))) (x46 : Int) (z190140 : (List (List Int × (List Int × Unit)))) (z190150 : (List (List Int × ((List Int × (Bool × (List Int × (Bool × (List Int × Unit))))) × ((List Int × (Bool × (List Int × (Bool × (List Int × Unit))))) × ((List Int × (Bool × (List Int × (Bool × (List Int × Unit))))) × Unit)))))) : Option (shDen impl_merge_sh) :=
 (cond (decide (x46 < x45))
 (cond ((decide ((0 : Int) ≤ x46)) && (decide (x46 < (z190110.length : Int))))
 (bindO (impl_same_r a1 a2 (z190110.getD (x46.toNat) [])) fun (b14 : Bool) => (cond b14
 (bindO (impl_find_r a1 (z190110.getD (x46.toNat) [])) fun (b15 : (Int × Bool)) => (cond b15.2
 (cond ((decide ((0 : Int) ≤ b15.1)) && (decide (b15.1 < (a1.length : Int))))
 (cond (decide ((z190140.length + 1) * 32 ≤ 140737488355328) && decide (z190140.length + 1 ≤ 9223372036854775807))
 (rec x45 z190110 (IntKind.wrap .i64 (x46 + (1 : Int))) (z190140 ++ [(a1.getD (b15.1.toNat) ([], ([], ())))]) z190150)
 none)
 none)
 (rec x45 z190110 (IntKind.wrap .i64 (x46 + (1 : Int))) z190140 z190150)))
 (bindO (impl_same_r a2 a0 (z190110.getD (x46.toNat) [])) fun (b16 : Bool) => (cond b16
 (bindO (impl_find_r a1 (z190110.getD (x46.toNat) [])) fun (b17 : (Int × Bool)) => (cond b17.2
 (cond ((decide ((0 : Int) ≤ b17.1)) && (decide (b17.1 < (a1.length : Int))))
 (cond (decide ((z190140.length + 1) * 32 ≤ 140737488355328) && decide (z190140.length + 1 ≤ 9223372036854775807))
 (rec x45 z190110 (IntKind.wrap .i64 (x46 + (1 : Int))) (z190140 ++ [(a1.getD (b17.1.toNat) ([], ([], ())))]) z190150)
 none)
 none)
 (rec x45 z190110 (IntKind.wrap .i64 (x46 + (1 : Int))) z190140 z190150)))
 (bindO (impl_same_r a1 a0 (z190110.getD (x46.toNat) [])) fun (b18 : Bool) => (cond b18
 (bindO (impl_find_r a2 (z190110.getD (x46.toNat) [])) fun (b19 : (Int × Bool)) => (cond b19.2
 (cond ((decide ((0 : Int) ≤ b19.1)) && (decide (b19.1 < (a2.length : Int))))
 (cond (decide ((z190140.length + 1) * 32 ≤ 140737488355328) && decide (z190140.length + 1 ≤ 9223372036854775807))
 (rec x45 z190110 (IntKind.wrap .i64 (x46 + (1 : Int))) (z190140 ++ [(a2.getD (b19.1.toNat) ([], ([], ())))]) z190150)
 none)
 none)
 (rec x45 z190110 (IntKind.wrap .i64 (x46 + (1 : Int))) z190140 z190150)))
 (bindO (impl_told_r a0 (z190110.getD (x46.toNat) [])) fun (b20 : (List Int × (Bool × (List Int × (Bool × (List Int × Unit)))))) => (bindO (impl_told_r a1 (z190110.getD (x46.toNat) [])) fun (b21 : (List Int × (Bool × (List Int × (Bool × (List Int × Unit)))))) => (bindO (impl_told_r a2 (z190110.getD (x46.toNat) [])) fun (b22 : (List Int × (Bool × (List Int × (Bool × (List Int × Unit)))))) => (cond (decide ((z190150.length + 1) * 208 ≤ 140737488355328) && decide (z190150.length + 1 ≤ 9223372036854775807))
 (bindO (impl_find_r a0 (z190110.getD (x46.toNat) [])) fun (b23 : (Int × Bool)) => (cond b23.2
 (cond ((decide ((0 : Int) ≤ b23.1)) && (decide (b23.1 < (a0.length : Int))))
 (cond (decide ((z190140.length + 1) * 32 ≤ 140737488355328) && decide (z190140.length + 1 ≤ 9223372036854775807))
 (rec x45 z190110 (IntKind.wrap .i64 (x46 + (1 : Int))) (z190140 ++ [(a0.getD (b23.1.toNat) ([], ([], ())))]) (z190150 ++ [((z190110.getD (x46.toNat) []), (b20, (b21, (b22, ()))))]))
 none)
 none)
 (rec x45 z190110 (IntKind.wrap .i64 (x46 + (1 : Int))) z190140 (z190150 ++ [((z190110.getD (x46.toNat) []), (b20, (b21, (b22, ()))))]))))
 none))))))))))
 none)
 (ke2 z190140 z190150))
noncomputable def impl_merge_l1_L (ke2 : (List (List Int × (List Int × Unit))) → (List (List Int × ((List Int × (Bool × (List Int × (Bool × (List Int × Unit))))) × ((List Int × (Bool × (List Int × (Bool × (List Int × Unit))))) × ((List Int × (Bool × (List Int × (Bool × (List Int × Unit))))) × Unit))))) → Option (shDen impl_merge_sh)) (a0 : (List (List Int × (List Int × Unit)))) (a1 : (List (List Int × (List Int × Unit)))) (a2 : (List (List Int × (List Int × Unit)))) : Nat → Int → (List (List Int)) → Int → (List (List Int × (List Int × Unit))) → (List (List Int × ((List Int × (Bool × (List Int × (Bool × (List Int × Unit))))) × ((List Int × (Bool × (List Int × (Bool × (List Int × Unit))))) × ((List Int × (Bool × (List Int × (Bool × (List Int × Unit))))) × Unit))))) → Option (shDen impl_merge_sh)
 | 0 => fun _ _ _ _ _ => none
 | n + 1 => impl_merge_l1_b (impl_merge_l1_L ke2 a0 a1 a2 n) ke2 a0 a1 a2
noncomputable def impl_merge_l0_b (rec : Int → (List (List Int × (List Int × Unit))) → Int → (List (List Int)) → Option (shDen impl_merge_sh)) (ke0 : (List (List Int)) → Option (shDen impl_merge_sh)) (a0 : (List (List Int × (List Int × Unit)))) (a1 : (List (List Int × (List Int × Unit)))) (a2 : (List (List Int × (List Int × Unit)))) (x28 : Int) (z100270 : (List (List Int × (List Int × Unit)))) (x29 : Int) (z190110 : (List (List Int))) : Option (shDen impl_merge_sh) :=
 (cond (decide (x29 < x28))
 (cond ((decide ((0 : Int) ≤ x29)) && (decide (x29 < (z100270.length : Int))))
 (cond (decide ((z190110.length + 1) * 16 ≤ 140737488355328) && decide (z190110.length + 1 ≤ 9223372036854775807))
 (rec x28 z100270 (IntKind.wrap .i64 (x29 + (1 : Int))) (z190110 ++ [(z100270.getD (x29.toNat) ([], ([], ()))).1]))
 none)
 none)
 (ke0 z190110))
noncomputable def impl_merge_l0_L (ke0 : (List (List Int)) → Option (shDen impl_merge_sh)) (a0 : (List (List Int × (List Int × Unit)))) (a1 : (List (List Int × (List Int × Unit)))) (a2 : (List (List Int × (List Int × Unit)))) : Nat → Int → (List (List Int × (List Int × Unit))) → Int → (List (List Int)) → Option (shDen impl_merge_sh)
 | 0 => fun _ _ _ _ => none
 | n + 1 => impl_merge_l0_b (impl_merge_l0_L ke0 a0 a1 a2 n) ke0 a0 a1 a2
noncomputable def impl_merge_r (a0 : (List (List Int × (List Int × Unit)))) (a1 : (List (List Int × (List Int × Unit)))) (a2 : (List (List Int × (List Int × Unit)))) : Option (shDen impl_merge_sh) :=
 (bindO (slices_Concat_impl_Entry_impl_Entry_r [a0, a1, a2]) fun (b1 : (List (List Int × (List Int × Unit)))) => (impl_merge_l0_L (fun z190110 => (bindO (slices_Sort_string_string_r z190110) fun (b2 : ((List (List Int)) × Unit)) => (bindO (slices_Compact_string_string_r b2.1) fun (b3 : (List (List Int))) => (impl_merge_l1_L (fun z190140 z190150 => (cond (decide ((64 : Int) < (z190140.length : Int)))
 (some ([], ([], (3 : Int))))
 (some (z190140, (z190150, (0 : Int)))))) a0 a1 a2 FUEL (b3.length : Int) b3 (0 : Int) [] [])))) a0 a1 a2 FUEL (b1.length : Int) b1 (0 : Int) []))
theorem impl_merge_l1_round (k : Nat) (K : Ex → St → Option (shDen impl_merge_sh)) (n : Nat) (a0 : (List (List Int × (List Int × Unit)))) (a1 : (List (List Int × (List Int × Unit)))) (a2 : (List (List Int × (List Int × Unit)))) (x45 : Int) (z190110 : (List (List Int))) (x46 : Int) (z190140 : (List (List Int × (List Int × Unit)))) (z190150 : (List (List Int × ((List Int × (Bool × (List Int × (Bool × (List Int × Unit))))) × ((List Int × (Bool × (List Int × (Bool × (List Int × Unit))))) × ((List Int × (Bool × (List Int × (Bool × (List Int × Unit))))) × Unit)))))) : (loopK (impl_merge_cx k) 1 (execK (impl_merge_cx k) (callK (impl_merge_cx k) 7) 1 1400130021 (sub impl_mergeBy_c [1, 1, 1, 1, 1, 0, 1, 0, 0])) impl_merge_l1_cut K (n + 1) (impl_merge_l1_s a0 a1 a2 x45 z190110 x46 z190140 z190150) : Option (shDen impl_merge_sh)) =
 ((cond (decide (x46 < x45))
 (cond ((decide ((0 : Int) ≤ x46)) && (decide (x46 < (z190110.length : Int))))
 (bindO (impl_same_r a1 a2 (z190110.getD (x46.toNat) [])) fun (b14 : Bool) => (cond b14
 (bindO (impl_find_r a1 (z190110.getD (x46.toNat) [])) fun (b15 : (Int × Bool)) => (cond b15.2
 (cond ((decide ((0 : Int) ≤ b15.1)) && (decide (b15.1 < (a1.length : Int))))
 (cond (decide ((z190140.length + 1) * 32 ≤ 140737488355328) && decide (z190140.length + 1 ≤ 9223372036854775807))
 (loopK (impl_merge_cx k) 1 (execK (impl_merge_cx k) (callK (impl_merge_cx k) 7) 1 1400130021 (sub impl_mergeBy_c [1, 1, 1, 1, 1, 0, 1, 0, 0])) impl_merge_l1_cut K n (impl_merge_l1_s a0 a1 a2 x45 z190110 (IntKind.wrap .i64 (x46 + (1 : Int))) (z190140 ++ [(a1.getD (b15.1.toNat) ([], ([], ())))]) z190150))
 none)
 none)
 (loopK (impl_merge_cx k) 1 (execK (impl_merge_cx k) (callK (impl_merge_cx k) 7) 1 1400130021 (sub impl_mergeBy_c [1, 1, 1, 1, 1, 0, 1, 0, 0])) impl_merge_l1_cut K n (impl_merge_l1_s a0 a1 a2 x45 z190110 (IntKind.wrap .i64 (x46 + (1 : Int))) z190140 z190150))))
 (bindO (impl_same_r a2 a0 (z190110.getD (x46.toNat) [])) fun (b16 : Bool) => (cond b16
 (bindO (impl_find_r a1 (z190110.getD (x46.toNat) [])) fun (b17 : (Int × Bool)) => (cond b17.2
 (cond ((decide ((0 : Int) ≤ b17.1)) && (decide (b17.1 < (a1.length : Int))))
 (cond (decide ((z190140.length + 1) * 32 ≤ 140737488355328) && decide (z190140.length + 1 ≤ 9223372036854775807))
 (loopK (impl_merge_cx k) 1 (execK (impl_merge_cx k) (callK (impl_merge_cx k) 7) 1 1400130021 (sub impl_mergeBy_c [1, 1, 1, 1, 1, 0, 1, 0, 0])) impl_merge_l1_cut K n (impl_merge_l1_s a0 a1 a2 x45 z190110 (IntKind.wrap .i64 (x46 + (1 : Int))) (z190140 ++ [(a1.getD (b17.1.toNat) ([], ([], ())))]) z190150))
 none)
 none)
 (loopK (impl_merge_cx k) 1 (execK (impl_merge_cx k) (callK (impl_merge_cx k) 7) 1 1400130021 (sub impl_mergeBy_c [1, 1, 1, 1, 1, 0, 1, 0, 0])) impl_merge_l1_cut K n (impl_merge_l1_s a0 a1 a2 x45 z190110 (IntKind.wrap .i64 (x46 + (1 : Int))) z190140 z190150))))
 (bindO (impl_same_r a1 a0 (z190110.getD (x46.toNat) [])) fun (b18 : Bool) => (cond b18
 (bindO (impl_find_r a2 (z190110.getD (x46.toNat) [])) fun (b19 : (Int × Bool)) => (cond b19.2
 (cond ((decide ((0 : Int) ≤ b19.1)) && (decide (b19.1 < (a2.length : Int))))
 (cond (decide ((z190140.length + 1) * 32 ≤ 140737488355328) && decide (z190140.length + 1 ≤ 9223372036854775807))
 (loopK (impl_merge_cx k) 1 (execK (impl_merge_cx k) (callK (impl_merge_cx k) 7) 1 1400130021 (sub impl_mergeBy_c [1, 1, 1, 1, 1, 0, 1, 0, 0])) impl_merge_l1_cut K n (impl_merge_l1_s a0 a1 a2 x45 z190110 (IntKind.wrap .i64 (x46 + (1 : Int))) (z190140 ++ [(a2.getD (b19.1.toNat) ([], ([], ())))]) z190150))
 none)
 none)
 (loopK (impl_merge_cx k) 1 (execK (impl_merge_cx k) (callK (impl_merge_cx k) 7) 1 1400130021 (sub impl_mergeBy_c [1, 1, 1, 1, 1, 0, 1, 0, 0])) impl_merge_l1_cut K n (impl_merge_l1_s a0 a1 a2 x45 z190110 (IntKind.wrap .i64 (x46 + (1 : Int))) z190140 z190150))))
 (bindO (impl_told_r a0 (z190110.getD (x46.toNat) [])) fun (b20 : (List Int × (Bool × (List Int × (Bool × (List Int × Unit)))))) => (bindO (impl_told_r a1 (z190110.getD (x46.toNat) [])) fun (b21 : (List Int × (Bool × (List Int × (Bool × (List Int × Unit)))))) => (bindO (impl_told_r a2 (z190110.getD (x46.toNat) [])) fun (b22 : (List Int × (Bool × (List Int × (Bool × (List Int × Unit)))))) => (cond (decide ((z190150.length + 1) * 208 ≤ 140737488355328) && decide (z190150.length + 1 ≤ 9223372036854775807))
 (bindO (impl_find_r a0 (z190110.getD (x46.toNat) [])) fun (b23 : (Int × Bool)) => (cond b23.2
 (cond ((decide ((0 : Int) ≤ b23.1)) && (decide (b23.1 < (a0.length : Int))))
 (cond (decide ((z190140.length + 1) * 32 ≤ 140737488355328) && decide (z190140.length + 1 ≤ 9223372036854775807))
 (loopK (impl_merge_cx k) 1 (execK (impl_merge_cx k) (callK (impl_merge_cx k) 7) 1 1400130021 (sub impl_mergeBy_c [1, 1, 1, 1, 1, 0, 1, 0, 0])) impl_merge_l1_cut K n (impl_merge_l1_s a0 a1 a2 x45 z190110 (IntKind.wrap .i64 (x46 + (1 : Int))) (z190140 ++ [(a0.getD (b23.1.toNat) ([], ([], ())))]) (z190150 ++ [((z190110.getD (x46.toNat) []), (b20, (b21, (b22, ()))))])))
 none)
 none)
 (loopK (impl_merge_cx k) 1 (execK (impl_merge_cx k) (callK (impl_merge_cx k) 7) 1 1400130021 (sub impl_mergeBy_c [1, 1, 1, 1, 1, 0, 1, 0, 0])) impl_merge_l1_cut K n (impl_merge_l1_s a0 a1 a2 x45 z190110 (IntKind.wrap .i64 (x46 + (1 : Int))) z190140 (z190150 ++ [((z190110.getD (x46.toNat) []), (b20, (b21, (b22, ()))))])))))
 none))))))))))
 none)
 (K (.exit 2) (impl_merge_l1_o2 a0 z190140 z190150))) : Option (shDen impl_merge_sh)) := by kernel_rfl

theorem impl_merge_l1_exit2 (k : Nat)  (a0 : (List (List Int × (List Int × Unit)))) (z190140 : (List (List Int × (List Int × Unit)))) (z190150 : (List (List Int × ((List Int × (Bool × (List Int × (Bool × (List Int × Unit))))) × ((List Int × (Bool × (List Int × (Bool × (List Int × Unit))))) × ((List Int × (Bool × (List Int × (Bool × (List Int × Unit))))) × Unit)))))) : ((blkK 2 (seqK (execK (impl_merge_cx k) (callK (impl_merge_cx k) 7) 1 1400130021 (sub impl_mergeBy_c [1, 1, 1, 1, 1, 1])) (retK (impl_merge_cx k) impl_mergeBy_i (some 13) 0 (opsRest (impl_merge_cx k) (callK (impl_merge_cx k) 8) 0 14 false (regOps (sub impl_merge_c [1, 0])) 4 (seqK (execK (impl_merge_cx k) (callK (impl_merge_cx k) 8) 0 14 (sub impl_merge_c [1, 1])) (finK (impl_merge_cx k) impl_merge_i impl_merge_sh)))))) (.exit 2) (impl_merge_l1_o2 a0 z190140 z190150) : Option (shDen impl_merge_sh)) =
 ((cond (decide ((64 : Int) < (z190140.length : Int)))
 (some ([], ([], (3 : Int))))
 (some (z190140, (z190150, (0 : Int))))) : Option (shDen impl_merge_sh)) := by kernel_rfl

theorem impl_merge_l1_congr (ke2 : (List (List Int × (List Int × Unit))) → (List (List Int × ((List Int × (Bool × (List Int × (Bool × (List Int × Unit))))) × ((List Int × (Bool × (List Int × (Bool × (List Int × Unit))))) × ((List Int × (Bool × (List Int × (Bool × (List Int × Unit))))) × Unit))))) → Option (shDen impl_merge_sh)) (ke2' : (List (List Int × (List Int × Unit))) → (List (List Int × ((List Int × (Bool × (List Int × (Bool × (List Int × Unit))))) × ((List Int × (Bool × (List Int × (Bool × (List Int × Unit))))) × ((List Int × (Bool × (List Int × (Bool × (List Int × Unit))))) × Unit))))) → Option (shDen impl_merge_sh)) (a0 : (List (List Int × (List Int × Unit)))) (a1 : (List (List Int × (List Int × Unit)))) (a2 : (List (List Int × (List Int × Unit)))) (n : Nat) (x45 : Int) (z190110 : (List (List Int))) (x46 : Int) (z190140 : (List (List Int × (List Int × Unit)))) (z190150 : (List (List Int × ((List Int × (Bool × (List Int × (Bool × (List Int × Unit))))) × ((List Int × (Bool × (List Int × (Bool × (List Int × Unit))))) × ((List Int × (Bool × (List Int × (Bool × (List Int × Unit))))) × Unit)))))) (hke2 : ∀ z190140 z190150, ke2 z190140 z190150 = ke2' z190140 z190150) : impl_merge_l1_L ke2 a0 a1 a2 n x45 z190110 x46 z190140 z190150 = impl_merge_l1_L ke2' a0 a1 a2 n x45 z190110 x46 z190140 z190150 := by
 have : ke2 = ke2' := (by funext z190140 z190150; exact hke2 z190140 z190150); subst this; rfl

theorem impl_merge_l1_L_eq (K : Ex → St → Option (shDen impl_merge_sh)) (a0 : (List (List Int × (List Int × Unit)))) (a1 : (List (List Int × (List Int × Unit)))) (a2 : (List (List Int × (List Int × Unit)))) : ∀ (n : Nat) (x45 : Int) (z190110 : (List (List Int))) (x46 : Int) (z190140 : (List (List Int × (List Int × Unit)))) (z190150 : (List (List Int × ((List Int × (Bool × (List Int × (Bool × (List Int × Unit))))) × ((List Int × (Bool × (List Int × (Bool × (List Int × Unit))))) × ((List Int × (Bool × (List Int × (Bool × (List Int × Unit))))) × Unit)))))), (loopK (impl_merge_cx FUEL) 1 (execK (impl_merge_cx FUEL) (callK (impl_merge_cx FUEL) 7) 1 1400130021 (sub impl_mergeBy_c [1, 1, 1, 1, 1, 0, 1, 0, 0])) impl_merge_l1_cut K n (impl_merge_l1_s a0 a1 a2 x45 z190110 x46 z190140 z190150) : Option (shDen impl_merge_sh)) = impl_merge_l1_L (fun z190140 z190150 => K (.exit 2) (impl_merge_l1_o2 a0 z190140 z190150)) a0 a1 a2 n x45 z190110 x46 z190140 z190150 := by
 intro n
 induction n with
 | zero => intros; rfl
 | succ n ih =>
  intro x45 z190110 x46 z190140 z190150
  exact (impl_merge_l1_round FUEL K n a0 a1 a2 x45 z190110 x46 z190140 z190150).trans (condC (condC (bindC (fun b14 => condC (bindC (fun b15 => condC (condC (condC (ih x45 z190110 (IntKind.wrap .i64 (x46 + (1 : Int))) (z190140 ++ [(a1.getD (b15.1.toNat) ([], ([], ())))]) z190150) (rfl)) (rfl)) (ih x45 z190110 (IntKind.wrap .i64 (x46 + (1 : Int))) z190140 z190150))) (bindC (fun b16 => condC (bindC (fun b17 => condC (condC (condC (ih x45 z190110 (IntKind.wrap .i64 (x46 + (1 : Int))) (z190140 ++ [(a1.getD (b17.1.toNat) ([], ([], ())))]) z190150) (rfl)) (rfl)) (ih x45 z190110 (IntKind.wrap .i64 (x46 + (1 : Int))) z190140 z190150))) (bindC (fun b18 => condC (bindC (fun b19 => condC (condC (condC (ih x45 z190110 (IntKind.wrap .i64 (x46 + (1 : Int))) (z190140 ++ [(a2.getD (b19.1.toNat) ([], ([], ())))]) z190150) (rfl)) (rfl)) (ih x45 z190110 (IntKind.wrap .i64 (x46 + (1 : Int))) z190140 z190150))) (bindC (fun b20 => bindC (fun b21 => bindC (fun b22 => condC (bindC (fun b23 => condC (condC (condC (ih x45 z190110 (IntKind.wrap .i64 (x46 + (1 : Int))) (z190140 ++ [(a0.getD (b23.1.toNat) ([], ([], ())))]) (z190150 ++ [((z190110.getD (x46.toNat) []), (b20, (b21, (b22, ()))))])) (rfl)) (rfl)) (ih x45 z190110 (IntKind.wrap .i64 (x46 + (1 : Int))) z190140 (z190150 ++ [((z190110.getD (x46.toNat) []), (b20, (b21, (b22, ()))))])))) (rfl))))))))))) (rfl)) (rfl))

theorem impl_merge_l0_round (k : Nat) (K : Ex → St → Option (shDen impl_merge_sh)) (n : Nat) (a0 : (List (List Int × (List Int × Unit)))) (a1 : (List (List Int × (List Int × Unit)))) (a2 : (List (List Int × (List Int × Unit)))) (x28 : Int) (z100270 : (List (List Int × (List Int × Unit)))) (x29 : Int) (z190110 : (List (List Int))) : (loopK (impl_merge_cx k) 1 (execK (impl_merge_cx k) (callK (impl_merge_cx k) 7) 1 1400130021 (sub impl_mergeBy_c [1, 1, 0, 1, 0, 0])) impl_merge_l0_cut K (n + 1) (impl_merge_l0_s a0 a1 a2 x28 z100270 x29 z190110) : Option (shDen impl_merge_sh)) =
 ((cond (decide (x29 < x28))
 (cond ((decide ((0 : Int) ≤ x29)) && (decide (x29 < (z100270.length : Int))))
 (cond (decide ((z190110.length + 1) * 16 ≤ 140737488355328) && decide (z190110.length + 1 ≤ 9223372036854775807))
 (loopK (impl_merge_cx k) 1 (execK (impl_merge_cx k) (callK (impl_merge_cx k) 7) 1 1400130021 (sub impl_mergeBy_c [1, 1, 0, 1, 0, 0])) impl_merge_l0_cut K n (impl_merge_l0_s a0 a1 a2 x28 z100270 (IntKind.wrap .i64 (x29 + (1 : Int))) (z190110 ++ [(z100270.getD (x29.toNat) ([], ([], ()))).1])))
 none)
 none)
 (K (.exit 0) (impl_merge_l0_o0 a0 a1 a2 z190110))) : Option (shDen impl_merge_sh)) := by kernel_rfl

theorem impl_merge_l0_exit0 (k : Nat)  (a0 : (List (List Int × (List Int × Unit)))) (a1 : (List (List Int × (List Int × Unit)))) (a2 : (List (List Int × (List Int × Unit)))) (z190110 : (List (List Int))) : ((blkK 0 (seqK (execK (impl_merge_cx k) (callK (impl_merge_cx k) 7) 1 1400130021 (sub impl_mergeBy_c [1, 1, 1])) (retK (impl_merge_cx k) impl_mergeBy_i (some 13) 0 (opsRest (impl_merge_cx k) (callK (impl_merge_cx k) 8) 0 14 false (regOps (sub impl_merge_c [1, 0])) 4 (seqK (execK (impl_merge_cx k) (callK (impl_merge_cx k) 8) 0 14 (sub impl_merge_c [1, 1])) (finK (impl_merge_cx k) impl_merge_i impl_merge_sh)))))) (.exit 0) (impl_merge_l0_o0 a0 a1 a2 z190110) : Option (shDen impl_merge_sh)) =
 ((bindO (slices_Sort_string_string_r z190110) fun (b2 : ((List (List Int)) × Unit)) => (bindO (slices_Compact_string_string_r b2.1) fun (b3 : (List (List Int))) => (loopK (impl_merge_cx k) 1 (execK (impl_merge_cx k) (callK (impl_merge_cx k) 7) 1 1400130021 (sub impl_mergeBy_c [1, 1, 1, 1, 1, 0, 1, 0, 0])) impl_merge_l1_cut (blkK 2 (seqK (execK (impl_merge_cx k) (callK (impl_merge_cx k) 7) 1 1400130021 (sub impl_mergeBy_c [1, 1, 1, 1, 1, 1])) (retK (impl_merge_cx k) impl_mergeBy_i (some 13) 0 (opsRest (impl_merge_cx k) (callK (impl_merge_cx k) 8) 0 14 false (regOps (sub impl_merge_c [1, 0])) 4 (seqK (execK (impl_merge_cx k) (callK (impl_merge_cx k) 8) 0 14 (sub impl_merge_c [1, 1])) (finK (impl_merge_cx k) impl_merge_i impl_merge_sh)))))) k (impl_merge_l1_s a0 a1 a2 (b3.length : Int) b3 (0 : Int) [] [])))) : Option (shDen impl_merge_sh)) := by kernel_rfl

theorem impl_merge_l0_congr (ke0 : (List (List Int)) → Option (shDen impl_merge_sh)) (ke0' : (List (List Int)) → Option (shDen impl_merge_sh)) (a0 : (List (List Int × (List Int × Unit)))) (a1 : (List (List Int × (List Int × Unit)))) (a2 : (List (List Int × (List Int × Unit)))) (n : Nat) (x28 : Int) (z100270 : (List (List Int × (List Int × Unit)))) (x29 : Int) (z190110 : (List (List Int))) (hke0 : ∀ z190110, ke0 z190110 = ke0' z190110) : impl_merge_l0_L ke0 a0 a1 a2 n x28 z100270 x29 z190110 = impl_merge_l0_L ke0' a0 a1 a2 n x28 z100270 x29 z190110 := by
 have : ke0 = ke0' := (by funext z190110; exact hke0 z190110); subst this; rfl

theorem impl_merge_l0_L_eq (K : Ex → St → Option (shDen impl_merge_sh)) (a0 : (List (List Int × (List Int × Unit)))) (a1 : (List (List Int × (List Int × Unit)))) (a2 : (List (List Int × (List Int × Unit)))) : ∀ (n : Nat) (x28 : Int) (z100270 : (List (List Int × (List Int × Unit)))) (x29 : Int) (z190110 : (List (List Int))), (loopK (impl_merge_cx FUEL) 1 (execK (impl_merge_cx FUEL) (callK (impl_merge_cx FUEL) 7) 1 1400130021 (sub impl_mergeBy_c [1, 1, 0, 1, 0, 0])) impl_merge_l0_cut K n (impl_merge_l0_s a0 a1 a2 x28 z100270 x29 z190110) : Option (shDen impl_merge_sh)) = impl_merge_l0_L (fun z190110 => K (.exit 0) (impl_merge_l0_o0 a0 a1 a2 z190110)) a0 a1 a2 n x28 z100270 x29 z190110 := by
 intro n
 induction n with
 | zero => intros; rfl
 | succ n ih =>
  intro x28 z100270 x29 z190110
  exact (impl_merge_l0_round FUEL K n a0 a1 a2 x28 z100270 x29 z190110).trans (condC (condC (condC (ih x28 z100270 (IntKind.wrap .i64 (x29 + (1 : Int))) (z190110 ++ [(z100270.getD (x29.toNat) ([], ([], ()))).1])) (rfl)) (rfl)) (rfl))

theorem impl_merge_start (k : Nat) (a0 : (List (List Int × (List Int × Unit)))) (a1 : (List (List Int × (List Int × Unit)))) (a2 : (List (List Int × (List Int × Unit)))) : fnK (impl_merge_cx k) 8 14 impl_merge_i impl_merge_sh [.pv (.slice (.pair .str (.pair .str .unit))) a0, .pv (.slice (.pair .str (.pair .str .unit))) a1, .pv (.slice (.pair .str (.pair .str .unit))) a2] =
 ((bindO (slices_Concat_impl_Entry_impl_Entry_r [a0, a1, a2]) fun (b1 : (List (List Int × (List Int × Unit)))) => (loopK (impl_merge_cx k) 1 (execK (impl_merge_cx k) (callK (impl_merge_cx k) 7) 1 1400130021 (sub impl_mergeBy_c [1, 1, 0, 1, 0, 0])) impl_merge_l0_cut (blkK 0 (seqK (execK (impl_merge_cx k) (callK (impl_merge_cx k) 7) 1 1400130021 (sub impl_mergeBy_c [1, 1, 1])) (retK (impl_merge_cx k) impl_mergeBy_i (some 13) 0 (opsRest (impl_merge_cx k) (callK (impl_merge_cx k) 8) 0 14 false (regOps (sub impl_merge_c [1, 0])) 4 (seqK (execK (impl_merge_cx k) (callK (impl_merge_cx k) 8) 0 14 (sub impl_merge_c [1, 1])) (finK (impl_merge_cx k) impl_merge_i impl_merge_sh)))))) k (impl_merge_l0_s a0 a1 a2 (b1.length : Int) b1 (0 : Int) []))) : Option (shDen impl_merge_sh)) := by kernel_rfl

theorem impl_merge_run (a0 : (List (List Int × (List Int × Unit)))) (a1 : (List (List Int × (List Int × Unit)))) (a2 : (List (List Int × (List Int × Unit)))) : fnK (impl_merge_cx FUEL) 8 14 impl_merge_i impl_merge_sh [.pv (.slice (.pair .str (.pair .str .unit))) a0, .pv (.slice (.pair .str (.pair .str .unit))) a1, .pv (.slice (.pair .str (.pair .str .unit))) a2] = impl_merge_r a0 a1 a2 :=
 (impl_merge_start FUEL a0 a1 a2).trans (bindC (fun b1 => (impl_merge_l0_L_eq _ a0 a1 a2 FUEL (b1.length : Int) b1 (0 : Int) []).trans (impl_merge_l0_congr _ _ a0 a1 a2 FUEL (b1.length : Int) b1 (0 : Int) [] (fun z190110 => (impl_merge_l0_exit0 FUEL  a0 a1 a2 z190110).trans (bindC (fun b2 => bindC (fun b3 => (impl_merge_l1_L_eq _ a0 a1 a2 FUEL (b3.length : Int) b3 (0 : Int) [] []).trans (impl_merge_l1_congr _ _ a0 a1 a2 FUEL (b3.length : Int) b3 (0 : Int) [] [] (fun z190140 z190150 => (impl_merge_l1_exit2 FUEL  a0 z190140 z190150).trans (rfl))))))))))

noncomputable def impl_merge_con : Con := { ps := (.pair (.slice (.pair .str (.pair .str .unit))) (.pair (.slice (.pair .str (.pair .str .unit))) (.pair (.slice (.pair .str (.pair .str .unit))) .unit))), sh := impl_merge_sh, raw := fun x => impl_merge_r x.1 x.2.1 x.2.2.1 }
theorem impl_merge_conOk : ConOk Try.prog 14 impl_merge_con := con_of_fn (impl_merge_tabs FUEL) (depth := 8) impl_merge_ok fun x y h => (impl_merge_run x.1 x.2.1 x.2.2.1).trans h

noncomputable def impl_MergeMaps_inls : List (Nat × Inl) := []
noncomputable def impl_MergeMaps_cons : List (Nat × Con) := [(13, impl_ValidEntries_con), (14, impl_merge_con)]
noncomputable def impl_MergeMaps_taks : List (Nat × ConT) := []
noncomputable def impl_MergeMaps_inps : List (Nat × ConI) := []
noncomputable def impl_MergeMaps_cuts : List (Nat × List (Nat × Cut)) := []
noncomputable def impl_MergeMaps_cx (k : Nat) : Cx := mkCx tys tbytes telem nozero (Ai.look impl_MergeMaps_inls) (Ai.look impl_MergeMaps_cons) (Ai.look impl_MergeMaps_taks) (Ai.look impl_MergeMaps_inps) (fun f id => match Ai.look impl_MergeMaps_cuts f with | some l => Ai.look l id | none => none) k [] false
theorem impl_MergeMaps_tabs (k : Nat) : TabsOk Try.prog (impl_MergeMaps_cx k) := ⟨tab_mk tabs_ok _ _ _ _ _ _ _ _, look_all (Q := ConOk Try.prog) _ ⟨impl_ValidEntries_conOk, impl_merge_conOk, trivial⟩, look_all (Q := TakOk Try.prog) _ trivial, look_all (Q := InpOk Try.prog) _ trivial, look_all (Q := InlOk Try.prog) _ trivial, mixed_ok⟩
abbrev impl_MergeMaps_sh : List Sh := [.own 43 (.pair .str (.pair .str .unit)), .own 38 (.pair .str (.pair (.pair .str (.pair .bool (.pair .str (.pair .bool (.pair .str .unit))))) (.pair (.pair .str (.pair .bool (.pair .str (.pair .bool (.pair .str .unit))))) (.pair (.pair .str (.pair .bool (.pair .str (.pair .bool (.pair .str .unit))))) .unit)))), .pl (.int .i64)]
noncomputable def impl_MergeMaps_r (a0 : (List (List Int × (List Int × Unit)))) (a1 : (List (List Int × (List Int × Unit)))) (a2 : (List (List Int × (List Int × Unit)))) : Option (shDen impl_MergeMaps_sh) :=
 (bindO (impl_ValidEntries_r a0) fun (b1 : Bool) => (cond (!b1)
 (some ([], ([], (1 : Int))))
 (bindO (impl_ValidEntries_r a1) fun (b2 : Bool) => (cond (!b2)
 (some ([], ([], (1 : Int))))
 (bindO (impl_ValidEntries_r a2) fun (b3 : Bool) => (cond (!b3)
 (some ([], ([], (1 : Int))))
 (bindO (impl_merge_r a0 a1 a2) fun (b4 : ((List (List Int × (List Int × Unit))) × ((List (List Int × ((List Int × (Bool × (List Int × (Bool × (List Int × Unit))))) × ((List Int × (Bool × (List Int × (Bool × (List Int × Unit))))) × ((List Int × (Bool × (List Int × (Bool × (List Int × Unit))))) × Unit))))) × Int))) => (some (b4.1, (b4.2.1, b4.2.2))))))))))
theorem impl_MergeMaps_start (k : Nat) (a0 : (List (List Int × (List Int × Unit)))) (a1 : (List (List Int × (List Int × Unit)))) (a2 : (List (List Int × (List Int × Unit)))) : fnK (impl_MergeMaps_cx k) 8 6 impl_MergeMaps_i impl_MergeMaps_sh [.pv (.slice (.pair .str (.pair .str .unit))) a0, .pv (.slice (.pair .str (.pair .str .unit))) a1, .pv (.slice (.pair .str (.pair .str .unit))) a2] =
 ((bindO (impl_ValidEntries_r a0) fun (b1 : Bool) => (cond (!b1)
 (some ([], ([], (1 : Int))))
 (bindO (impl_ValidEntries_r a1) fun (b2 : Bool) => (cond (!b2)
 (some ([], ([], (1 : Int))))
 (bindO (impl_ValidEntries_r a2) fun (b3 : Bool) => (cond (!b3)
 (some ([], ([], (1 : Int))))
 (bindO (impl_merge_r a0 a1 a2) fun (b4 : ((List (List Int × (List Int × Unit))) × ((List (List Int × ((List Int × (Bool × (List Int × (Bool × (List Int × Unit))))) × ((List Int × (Bool × (List Int × (Bool × (List Int × Unit))))) × ((List Int × (Bool × (List Int × (Bool × (List Int × Unit))))) × Unit))))) × Int))) => (some (b4.1, (b4.2.1, b4.2.2)))))))))) : Option (shDen impl_MergeMaps_sh)) := by kernel_rfl

theorem impl_MergeMaps_run (a0 : (List (List Int × (List Int × Unit)))) (a1 : (List (List Int × (List Int × Unit)))) (a2 : (List (List Int × (List Int × Unit)))) : fnK (impl_MergeMaps_cx FUEL) 8 6 impl_MergeMaps_i impl_MergeMaps_sh [.pv (.slice (.pair .str (.pair .str .unit))) a0, .pv (.slice (.pair .str (.pair .str .unit))) a1, .pv (.slice (.pair .str (.pair .str .unit))) a2] = impl_MergeMaps_r a0 a1 a2 :=
 (impl_MergeMaps_start FUEL a0 a1 a2).trans (rfl)

noncomputable def impl_MergeMaps_con : Con := { ps := (.pair (.slice (.pair .str (.pair .str .unit))) (.pair (.slice (.pair .str (.pair .str .unit))) (.pair (.slice (.pair .str (.pair .str .unit))) .unit))), sh := impl_MergeMaps_sh, raw := fun x => impl_MergeMaps_r x.1 x.2.1 x.2.2.1 }
theorem impl_MergeMaps_conOk : ConOk Try.prog 6 impl_MergeMaps_con := con_of_fn (impl_MergeMaps_tabs FUEL) (depth := 8) impl_MergeMaps_ok fun x y h => (impl_MergeMaps_run x.1 x.2.1 x.2.2.1).trans h

noncomputable def impl_joined_l0_cut : Cut := { keep := [0, 1, 2, 3, 11, 27, 28, 29], stk := [[]], ids := [40, 50, 100270, 190110], own := [(11, 190110, 46)], outs := [(1, [0, 1, 2, 3, 11], [40, 50, 190110])] }
noncomputable def impl_joined_l1_cut : Cut := { keep := [0, 1, 2, 3, 14, 15, 44, 45, 46], stk := [[]], ids := [40, 50, 190110, 190140, 190150], own := [(14, 190140, 24), (15, 190150, 26)], outs := [(3, [14, 15], [190140, 190150])] }
noncomputable def impl_joined_inls : List (Nat × Inl) := [(21, impl_mergeBy_i), (23, impl_joined_1_i)]
noncomputable def impl_joined_cons : List (Nat × Con) := [(27, slices_Concat_impl_Entry_impl_Entry_con), (30, impl_same_con), (31, impl_told_con), (32, impl_find_con)]
noncomputable def impl_joined_taks : List (Nat × ConT) := [(29, slices_Compact_string_string_tak)]
noncomputable def impl_joined_inps : List (Nat × ConI) := [(28, slices_Sort_string_string_inp)]
noncomputable def impl_joined_cuts : List (Nat × List (Nat × Cut)) := [(1500160021, [(0, impl_joined_l0_cut), (2, impl_joined_l1_cut)])]
noncomputable def impl_joined_cx (k : Nat) : Cx := mkCx tys tbytes telem nozero (Ai.look impl_joined_inls) (Ai.look impl_joined_cons) (Ai.look impl_joined_taks) (Ai.look impl_joined_inps) (fun f id => match Ai.look impl_joined_cuts f with | some l => Ai.look l id | none => none) k [] false
theorem impl_joined_tabs (k : Nat) : TabsOk Try.prog (impl_joined_cx k) := ⟨tab_mk tabs_ok _ _ _ _ _ _ _ _, look_all (Q := ConOk Try.prog) _ ⟨slices_Concat_impl_Entry_impl_Entry_conOk, impl_same_conOk, impl_told_conOk, impl_find_conOk, trivial⟩, look_all (Q := TakOk Try.prog) _ ⟨slices_Compact_string_string_takOk, trivial⟩, look_all (Q := InpOk Try.prog) _ ⟨slices_Sort_string_string_inpOk, trivial⟩, look_all (Q := InlOk Try.prog) _ ⟨impl_mergeBy_ok, impl_joined_1_ok, trivial⟩, mixed_ok⟩
abbrev impl_joined_sh : List Sh := [.own 43 (.pair .str (.pair .str .unit)), .pl (.int .i64)]
noncomputable def impl_joined_l0_s (a0 : (List (List Int × (List Int × Unit)))) (a1 : (List (List Int × (List Int × Unit)))) (a2 : (List (List Int × (List Int × Unit)))) (x28 : Int) (z100270 : (List (List Int × (List Int × Unit)))) (x29 : Int) (z190110 : (List (List Int))) : St := { env := [.pv (.slice (.pair .str (.pair .str .unit))) a0, .pv (.slice (.pair .str (.pair .str .unit))) a1, .pv (.slice (.pair .str (.pair .str .unit))) a2, .fn 23 (.pr (.ptr 40 (.slice (.pair .str (.pair .str .unit))) []) (.pr (.ptr 50 (.slice (.pair .str (.pair .str .unit))) []) (.pv .unit ()))), .dead, .dead, .dead, .dead, .dead, .dead, .dead, .sl 190110 .str, .dead, .dead, .dead, .dead, .dead, .dead, .dead, .dead, .dead, .dead, .dead, .dead, .dead, .dead, .dead, .sl 100270 (.pair .str (.pair .str .unit)), .pv (.int .i64) x28, .pv (.int .i64) x29, .dead, .dead, .dead, .dead, .dead, .dead, .dead, .dead, .dead, .dead, .dead, .dead, .dead, .dead, .dead, .dead, .dead, .dead, .dead, .dead, .dead, .dead, .dead, .dead, .dead, .dead, .dead, .dead, .dead, .dead, .dead, .dead, .dead, .dead, .dead, .dead, .dead, .dead, .dead, .dead, .dead, .dead, .dead, .dead, .dead, .dead, .dead, .dead, .dead, .dead, .dead, .dead, .dead, .dead, .dead, .dead, .dead, .dead, .dead, .dead, .dead, .dead, .dead, .dead, .dead, .dead, .dead, .dead, .dead, .dead, .dead, .dead, .dead, .dead, .dead, .dead, .dead], stk := [[.dead, .dead, .dead, .dead, .dead, .dead, .dead, .dead, .dead, .dead, .dead, .dead, .dead, .dead, .dead, .dead, .dead, .dead, .dead, .dead, .dead, .dead]], heap := [(40, .var (.slice (.pair .str (.pair .str .unit))) (.pv (.slice (.pair .str (.pair .str .unit))) a1)), (50, .var (.slice (.pair .str (.pair .str .unit))) (.pv (.slice (.pair .str (.pair .str .unit))) a2)), (100270, .arr 43 (.pair .str (.pair .str .unit)) z100270), (190110, .arr 9 .str z190110)] }
noncomputable def impl_joined_l0_o0 (a0 : (List (List Int × (List Int × Unit)))) (a1 : (List (List Int × (List Int × Unit)))) (a2 : (List (List Int × (List Int × Unit)))) (z190110 : (List (List Int))) : St := { env := [.pv (.slice (.pair .str (.pair .str .unit))) a0, .pv (.slice (.pair .str (.pair .str .unit))) a1, .pv (.slice (.pair .str (.pair .str .unit))) a2, .fn 23 (.pr (.ptr 40 (.slice (.pair .str (.pair .str .unit))) []) (.pr (.ptr 50 (.slice (.pair .str (.pair .str .unit))) []) (.pv .unit ()))), .dead, .dead, .dead, .dead, .dead, .dead, .dead, .sl 190110 .str, .dead, .dead, .dead, .dead, .dead, .dead, .dead, .dead, .dead, .dead, .dead, .dead, .dead, .dead, .dead, .dead, .dead, .dead, .dead, .dead, .dead, .dead, .dead, .dead, .dead, .dead, .dead, .dead, .dead, .dead, .dead, .dead, .dead, .dead, .dead, .dead, .dead, .dead, .dead, .dead, .dead, .dead, .dead, .dead, .dead, .dead, .dead, .dead, .dead, .dead, .dead, .dead, .dead, .dead, .dead, .dead, .dead, .dead, .dead, .dead, .dead, .dead, .dead, .dead, .dead, .dead, .dead, .dead, .dead, .dead, .dead, .dead, .dead, .dead, .dead, .dead, .dead, .dead, .dead, .dead, .dead, .dead, .dead, .dead, .dead, .dead, .dead, .dead, .dead, .dead, .dead, .dead, .dead, .dead, .dead], stk := [[.dead, .dead, .dead, .dead, .dead, .dead, .dead, .dead, .dead, .dead, .dead, .dead, .dead, .dead, .dead, .dead, .dead, .dead, .dead, .dead, .dead, .dead]], heap := [(40, .var (.slice (.pair .str (.pair .str .unit))) (.pv (.slice (.pair .str (.pair .str .unit))) a1)), (50, .var (.slice (.pair .str (.pair .str .unit))) (.pv (.slice (.pair .str (.pair .str .unit))) a2)), (190110, .arr 9 .str z190110)] }
noncomputable def impl_joined_l1_s (a0 : (List (List Int × (List Int × Unit)))) (a1 : (List (List Int × (List Int × Unit)))) (a2 : (List (List Int × (List Int × Unit)))) (x45 : Int) (z190110 : (List (List Int))) (x46 : Int) (z190140 : (List (List Int × (List Int × Unit)))) (z190150 : (List (List Int × ((List Int × (Bool × (List Int × (Bool × (List Int × Unit))))) × ((List Int × (Bool × (List Int × (Bool × (List Int × Unit))))) × ((List Int × (Bool × (List Int × (Bool × (List Int × Unit))))) × Unit)))))) : St := { env := [.pv (.slice (.pair .str (.pair .str .unit))) a0, .pv (.slice (.pair .str (.pair .str .unit))) a1, .pv (.slice (.pair .str (.pair .str .unit))) a2, .fn 23 (.pr (.ptr 40 (.slice (.pair .str (.pair .str .unit))) []) (.pr (.ptr 50 (.slice (.pair .str (.pair .str .unit))) []) (.pv .unit ()))), .dead, .dead, .dead, .dead, .dead, .dead, .dead, .dead, .dead, .dead, .sl 190140 (.pair .str (.pair .str .unit)), .sl 190150 (.pair .str (.pair (.pair .str (.pair .bool (.pair .str (.pair .bool (.pair .str .unit))))) (.pair (.pair .str (.pair .bool (.pair .str (.pair .bool (.pair .str .unit))))) (.pair (.pair .str (.pair .bool (.pair .str (.pair .bool (.pair .str .unit))))) .unit)))), .dead, .dead, .dead, .dead, .dead, .dead, .dead, .dead, .dead, .dead, .dead, .dead, .dead, .dead, .dead, .dead, .dead, .dead, .dead, .dead, .dead, .dead, .dead, .dead, .dead, .dead, .dead, .dead, .sl 190110 .str, .pv (.int .i64) x45, .pv (.int .i64) x46, .dead, .dead, .dead, .dead, .dead, .dead, .dead, .dead, .dead, .dead, .dead, .dead, .dead, .dead, .dead, .dead, .dead, .dead, .dead, .dead, .dead, .dead, .dead, .dead, .dead, .dead, .dead, .dead, .dead, .dead, .dead, .dead, .dead, .dead, .dead, .dead, .dead, .dead, .dead, .dead, .dead, .dead, .dead, .dead, .dead, .dead, .dead, .dead, .dead, .dead, .dead, .dead, .dead, .dead, .dead, .dead, .dead, .dead, .dead, .dead], stk := [[.dead, .dead, .dead, .dead, .dead, .dead, .dead, .dead, .dead, .dead, .dead, .dead, .dead, .dead, .dead, .dead, .dead, .dead, .dead, .dead, .dead, .dead]], heap := [(40, .var (.slice (.pair .str (.pair .str .unit))) (.pv (.slice (.pair .str (.pair .str .unit))) a1)), (50, .var (.slice (.pair .str (.pair .str .unit))) (.pv (.slice (.pair .str (.pair .str .unit))) a2)), (190110, .arr 9 .str z190110), (190140, .arr 43 (.pair .str (.pair .str .unit)) z190140), (190150, .arr 38 (.pair .str (.pair (.pair .str (.pair .bool (.pair .str (.pair .bool (.pair .str .unit))))) (.pair (.pair .str (.pair .bool (.pair .str (.pair .bool (.pair .str .unit))))) (.pair (.pair .str (.pair .bool (.pair .str (.pair .bool (.pair .str .unit))))) .unit)))) z190150)] }
noncomputable def impl_joined_l1_o2 (a1 : (List (List Int × (List Int × Unit)))) (a2 : (List (List Int × (List Int × Unit)))) (z190140 : (List (List Int × (List Int × Unit)))) (z190150 : (List (List Int × ((List Int × (Bool × (List Int × (Bool × (List Int × Unit))))) × ((List Int × (Bool × (List Int × (Bool × (List Int × Unit))))) × ((List Int × (Bool × (List Int × (Bool × (List Int × Unit))))) × Unit)))))) : St := { env := [.dead, .dead, .dead, .dead, .dead, .dead, .dead, .dead, .dead, .dead, .dead, .dead, .dead, .dead, .sl 190140 (.pair .str (.pair .str .unit)), .sl 190150 (.pair .str (.pair (.pair .str (.pair .bool (.pair .str (.pair .bool (.pair .str .unit))))) (.pair (.pair .str (.pair .bool (.pair .str (.pair .bool (.pair .str .unit))))) (.pair (.pair .str (.pair .bool (.pair .str (.pair .bool (.pair .str .unit))))) .unit)))), .dead, .dead, .dead, .dead, .dead, .dead, .dead, .dead, .dead, .dead, .dead, .dead, .dead, .dead, .dead, .dead, .dead, .dead, .dead, .dead, .dead, .dead, .dead, .dead, .dead, .dead, .dead, .dead, .dead, .dead, .dead, .dead, .dead, .dead, .dead, .dead, .dead, .dead, .dead, .dead, .dead, .dead, .dead, .dead, .dead, .dead, .dead, .dead, .dead, .dead, .dead, .dead, .dead, .dead, .dead, .dead, .dead, .dead, .dead, .dead, .dead, .dead, .dead, .dead, .dead, .dead, .dead, .dead, .dead, .dead, .dead, .dead, .dead, .dead, .dead, .dead, .dead, .dead, .dead, .dead, .dead, .dead, .dead, .dead, .dead, .dead, .dead, .dead, .dead, .dead, .dead], stk := [[.dead, .dead, .dead, .dead, .dead, .dead, .dead, .dead, .dead, .dead, .dead, .dead, .dead, .dead, .dead, .dead, .dead, .dead, .dead, .dead, .dead, .dead]], heap := [(40, .var (.slice (.pair .str (.pair .str .unit))) (.pv (.slice (.pair .str (.pair .str .unit))) a1)), (50, .var (.slice (.pair .str (.pair .str .unit))) (.pv (.slice (.pair .str (.pair .str .unit))) a2)), (190140, .arr 43 (.pair .str (.pair .str .unit)) z190140), (190150, .arr 38 (.pair .str (.pair (.pair .str (.pair .bool (.pair .str (.pair .bool (.pair .str .unit))))) (.pair (.pair .str (.pair .bool (.pair .str (.pair .bool (.pair .str .unit))))) (.pair (.pair .str (.pair .bool (.pair .str (.pair .bool (.pair .str .unit))))) .unit)))) z190150)] }
noncomputable def impl_joined_l1_b (rec : Int → (List (List Int)) → Int → (List (List Int × (List Int × Unit))) → (List (List Int × ((List Int × (Bool × (List Int × (Bool × (List Int × Unit))))) × ((List Int × (Bool × (List Int × (Bool × (List Int × Unit))))) × ((List Int × (Bool × (List Int × (Bool × (List Int × Unit))))) × Unit))))) → Option (shDen impl_joined_sh)) (ke2 : (List (List Int × (List Int × Unit))) → (List (List Int × ((List Int × (Bool × (List Int × (Bool × (List Int × Unit))))) × ((List Int × (Bool × (List Int × (Bool × (List Int × Unit))))) × ((List Int × (Bool × (List Int × (Bool × (List Int × Unit))))) × Unit))))) → Option (shDen impl_joined_sh)) (a0 : (List (List Int × (List Int × Unit)))) (a1 : (List (List Int × (List Int × Unit)))) (a2 : (List (List Int × (List Int × Unit)))) (x45 : Int) (z190110 : (List (List Int))) (x46 : Int) (z190140 : (List (List Int × (List Int × Unit)))) (z190150 : (List (List Int × ((List Int × (Bool × (List Int × (Bool × (List Int × Unit))))) × ((List Int × (Bool × (List Int × (Bool × (List Int × Unit))))) × ((List Int × (Bool × (List Int × (Bool × (List Int × Unit))))) × Unit)))))) : Option (shDen impl_joined_sh) :=
 (cond (decide (x46 < x45))
 (cond ((decide ((0 : Int) ≤ x46)) && (decide (x46 < (z190110.length : Int))))
 (bindO (impl_same_r a1 a2 (z190110.getD (x46.toNat) [])) fun (b17 : Bool) => (cond b17
 (bindO (impl_find_r a1 (z190110.getD (x46.toNat) [])) fun (b18 : (Int × Bool)) => (cond b18.2
 (cond ((decide ((0 : Int) ≤ b18.1)) && (decide (b18.1 < (a1.length : Int))))
 (cond (decide ((z190140.length + 1) * 32 ≤ 140737488355328) && decide (z190140.length + 1 ≤ 9223372036854775807))
 (rec x45 z190110 (IntKind.wrap .i64 (x46 + (1 : Int))) (z190140 ++ [(a1.getD (b18.1.toNat) ([], ([], ())))]) z190150)
 none)
 none)
 (rec x45 z190110 (IntKind.wrap .i64 (x46 + (1 : Int))) z190140 z190150)))
 (bindO (impl_same_r a2 a0 (z190110.getD (x46.toNat) [])) fun (b19 : Bool) => (cond b19
 (bindO (impl_find_r a1 (z190110.getD (x46.toNat) [])) fun (b20 : (Int × Bool)) => (cond b20.2
 (cond ((decide ((0 : Int) ≤ b20.1)) && (decide (b20.1 < (a1.length : Int))))
 (cond (decide ((z190140.length + 1) * 32 ≤ 140737488355328) && decide (z190140.length + 1 ≤ 9223372036854775807))
 (rec x45 z190110 (IntKind.wrap .i64 (x46 + (1 : Int))) (z190140 ++ [(a1.getD (b20.1.toNat) ([], ([], ())))]) z190150)
 none)
 none)
 (rec x45 z190110 (IntKind.wrap .i64 (x46 + (1 : Int))) z190140 z190150)))
 (bindO (impl_same_r a1 a0 (z190110.getD (x46.toNat) [])) fun (b21 : Bool) => (cond b21
 (bindO (impl_find_r a2 (z190110.getD (x46.toNat) [])) fun (b22 : (Int × Bool)) => (cond b22.2
 (cond ((decide ((0 : Int) ≤ b22.1)) && (decide (b22.1 < (a2.length : Int))))
 (cond (decide ((z190140.length + 1) * 32 ≤ 140737488355328) && decide (z190140.length + 1 ≤ 9223372036854775807))
 (rec x45 z190110 (IntKind.wrap .i64 (x46 + (1 : Int))) (z190140 ++ [(a2.getD (b22.1.toNat) ([], ([], ())))]) z190150)
 none)
 none)
 (rec x45 z190110 (IntKind.wrap .i64 (x46 + (1 : Int))) z190140 z190150)))
 (bindO (impl_told_r a0 (z190110.getD (x46.toNat) [])) fun (b23 : (List Int × (Bool × (List Int × (Bool × (List Int × Unit)))))) => (bindO (impl_told_r a1 (z190110.getD (x46.toNat) [])) fun (b24 : (List Int × (Bool × (List Int × (Bool × (List Int × Unit)))))) => (bindO (impl_told_r a2 (z190110.getD (x46.toNat) [])) fun (b25 : (List Int × (Bool × (List Int × (Bool × (List Int × Unit)))))) => (cond (decide ((z190150.length + 1) * 208 ≤ 140737488355328) && decide (z190150.length + 1 ≤ 9223372036854775807))
 (cond (!b25.2.2.2.1)
 (bindO (impl_find_r a1 (z190110.getD (x46.toNat) [])) fun (b26 : (Int × Bool)) => (cond b26.2
 (cond ((decide ((0 : Int) ≤ b26.1)) && (decide (b26.1 < (a1.length : Int))))
 (cond (decide ((z190140.length + 1) * 32 ≤ 140737488355328) && decide (z190140.length + 1 ≤ 9223372036854775807))
 (rec x45 z190110 (IntKind.wrap .i64 (x46 + (1 : Int))) (z190140 ++ [(a1.getD (b26.1.toNat) ([], ([], ())))]) (z190150 ++ [((z190110.getD (x46.toNat) []), (b23, (b24, (b25, ()))))]))
 none)
 none)
 (rec x45 z190110 (IntKind.wrap .i64 (x46 + (1 : Int))) z190140 (z190150 ++ [((z190110.getD (x46.toNat) []), (b23, (b24, (b25, ()))))]))))
 (cond b24.2.2.2.1
 (cond (!((ltI b24.2.2.2.2.1 b25.2.2.2.2.1) || (decide (b24.2.2.2.2.1 = b25.2.2.2.2.1))))
 (bindO (impl_find_r a1 (z190110.getD (x46.toNat) [])) fun (b27 : (Int × Bool)) => (cond b27.2
 (cond ((decide ((0 : Int) ≤ b27.1)) && (decide (b27.1 < (a1.length : Int))))
 (cond (decide ((z190140.length + 1) * 32 ≤ 140737488355328) && decide (z190140.length + 1 ≤ 9223372036854775807))
 (rec x45 z190110 (IntKind.wrap .i64 (x46 + (1 : Int))) (z190140 ++ [(a1.getD (b27.1.toNat) ([], ([], ())))]) (z190150 ++ [((z190110.getD (x46.toNat) []), (b23, (b24, (b25, ()))))]))
 none)
 none)
 (rec x45 z190110 (IntKind.wrap .i64 (x46 + (1 : Int))) z190140 (z190150 ++ [((z190110.getD (x46.toNat) []), (b23, (b24, (b25, ()))))]))))
 (bindO (impl_find_r a2 (z190110.getD (x46.toNat) [])) fun (b28 : (Int × Bool)) => (cond b28.2
 (cond ((decide ((0 : Int) ≤ b28.1)) && (decide (b28.1 < (a2.length : Int))))
 (cond (decide ((z190140.length + 1) * 32 ≤ 140737488355328) && decide (z190140.length + 1 ≤ 9223372036854775807))
 (rec x45 z190110 (IntKind.wrap .i64 (x46 + (1 : Int))) (z190140 ++ [(a2.getD (b28.1.toNat) ([], ([], ())))]) (z190150 ++ [((z190110.getD (x46.toNat) []), (b23, (b24, (b25, ()))))]))
 none)
 none)
 (rec x45 z190110 (IntKind.wrap .i64 (x46 + (1 : Int))) z190140 (z190150 ++ [((z190110.getD (x46.toNat) []), (b23, (b24, (b25, ()))))])))))
 (bindO (impl_find_r a2 (z190110.getD (x46.toNat) [])) fun (b29 : (Int × Bool)) => (cond b29.2
 (cond ((decide ((0 : Int) ≤ b29.1)) && (decide (b29.1 < (a2.length : Int))))
 (cond (decide ((z190140.length + 1) * 32 ≤ 140737488355328) && decide (z190140.length + 1 ≤ 9223372036854775807))
 (rec x45 z190110 (IntKind.wrap .i64 (x46 + (1 : Int))) (z190140 ++ [(a2.getD (b29.1.toNat) ([], ([], ())))]) (z190150 ++ [((z190110.getD (x46.toNat) []), (b23, (b24, (b25, ()))))]))
 none)
 none)
 (rec x45 z190110 (IntKind.wrap .i64 (x46 + (1 : Int))) z190140 (z190150 ++ [((z190110.getD (x46.toNat) []), (b23, (b24, (b25, ()))))]))))))
 none))))))))))
 none)
 (ke2 z190140 z190150))
noncomputable def impl_joined_l1_L (ke2 : (List (List Int × (List Int × Unit))) → (List (List Int × ((List Int × (Bool × (List Int × (Bool × (List Int × Unit))))) × ((List Int × (Bool × (List Int × (Bool × (List Int × Unit))))) × ((List Int × (Bool × (List Int × (Bool × (List Int × Unit))))) × Unit))))) → Option (shDen impl_joined_sh)) (a0 : (List (List Int × (List Int × Unit)))) (a1 : (List (List Int × (List Int × Unit)))) (a2 : (List (List Int × (List Int × Unit)))) : Nat → Int → (List (List Int)) → Int → (List (List Int × (List Int × Unit))) → (List (List Int × ((List Int × (Bool × (List Int × (Bool × (List Int × Unit))))) × ((List Int × (Bool × (List Int × (Bool × (List Int × Unit))))) × ((List Int × (Bool × (List Int × (Bool × (List Int × Unit))))) × Unit))))) → Option (shDen impl_joined_sh)
 | 0 => fun _ _ _ _ _ => none
 | n + 1 => impl_joined_l1_b (impl_joined_l1_L ke2 a0 a1 a2 n) ke2 a0 a1 a2
noncomputable def impl_joined_l0_b (rec : Int → (List (List Int × (List Int × Unit))) → Int → (List (List Int)) → Option (shDen impl_joined_sh)) (ke0 : (List (List Int)) → Option (shDen impl_joined_sh)) (a0 : (List (List Int × (List Int × Unit)))) (a1 : (List (List Int × (List Int × Unit)))) (a2 : (List (List Int × (List Int × Unit)))) (x28 : Int) (z100270 : (List (List Int × (List Int × Unit)))) (x29 : Int) (z190110 : (List (List Int))) : Option (shDen impl_joined_sh) :=
 (cond (decide (x29 < x28))
 (cond ((decide ((0 : Int) ≤ x29)) && (decide (x29 < (z100270.length : Int))))
 (cond (decide ((z190110.length + 1) * 16 ≤ 140737488355328) && decide (z190110.length + 1 ≤ 9223372036854775807))
 (rec x28 z100270 (IntKind.wrap .i64 (x29 + (1 : Int))) (z190110 ++ [(z100270.getD (x29.toNat) ([], ([], ()))).1]))
 none)
 none)
 (ke0 z190110))
noncomputable def impl_joined_l0_L (ke0 : (List (List Int)) → Option (shDen impl_joined_sh)) (a0 : (List (List Int × (List Int × Unit)))) (a1 : (List (List Int × (List Int × Unit)))) (a2 : (List (List Int × (List Int × Unit)))) : Nat → Int → (List (List Int × (List Int × Unit))) → Int → (List (List Int)) → Option (shDen impl_joined_sh)
 | 0 => fun _ _ _ _ => none
 | n + 1 => impl_joined_l0_b (impl_joined_l0_L ke0 a0 a1 a2 n) ke0 a0 a1 a2
noncomputable def impl_joined_r (a0 : (List (List Int × (List Int × Unit)))) (a1 : (List (List Int × (List Int × Unit)))) (a2 : (List (List Int × (List Int × Unit)))) : Option (shDen impl_joined_sh) :=
 (bindO (slices_Concat_impl_Entry_impl_Entry_r [a0, a1, a2]) fun (b1 : (List (List Int × (List Int × Unit)))) => (impl_joined_l0_L (fun z190110 => (bindO (slices_Sort_string_string_r z190110) fun (b2 : ((List (List Int)) × Unit)) => (bindO (slices_Compact_string_string_r b2.1) fun (b3 : (List (List Int))) => (impl_joined_l1_L (fun z190140 z190150 => (cond (decide ((64 : Int) < (z190140.length : Int)))
 (some ([], (3 : Int)))
 (some (z190140, (0 : Int))))) a0 a1 a2 FUEL (b3.length : Int) b3 (0 : Int) [] [])))) a0 a1 a2 FUEL (b1.length : Int) b1 (0 : Int) []))
theorem impl_joined_l1_round (k : Nat) (K : Ex → St → Option (shDen impl_joined_sh)) (n : Nat) (a0 : (List (List Int × (List Int × Unit)))) (a1 : (List (List Int × (List Int × Unit)))) (a2 : (List (List Int × (List Int × Unit)))) (x45 : Int) (z190110 : (List (List Int))) (x46 : Int) (z190140 : (List (List Int × (List Int × Unit)))) (z190150 : (List (List Int × ((List Int × (Bool × (List Int × (Bool × (List Int × Unit))))) × ((List Int × (Bool × (List Int × (Bool × (List Int × Unit))))) × ((List Int × (Bool × (List Int × (Bool × (List Int × Unit))))) × Unit)))))) : (loopK (impl_joined_cx k) 1 (execK (impl_joined_cx k) (callK (impl_joined_cx k) 7) 1 1500160021 (sub impl_mergeBy_c [1, 1, 1, 1, 1, 0, 1, 0, 0])) impl_joined_l1_cut K (n + 1) (impl_joined_l1_s a0 a1 a2 x45 z190110 x46 z190140 z190150) : Option (shDen impl_joined_sh)) =
 ((cond (decide (x46 < x45))
 (cond ((decide ((0 : Int) ≤ x46)) && (decide (x46 < (z190110.length : Int))))
 (bindO (impl_same_r a1 a2 (z190110.getD (x46.toNat) [])) fun (b17 : Bool) => (cond b17
 (bindO (impl_find_r a1 (z190110.getD (x46.toNat) [])) fun (b18 : (Int × Bool)) => (cond b18.2
 (cond ((decide ((0 : Int) ≤ b18.1)) && (decide (b18.1 < (a1.length : Int))))
 (cond (decide ((z190140.length + 1) * 32 ≤ 140737488355328) && decide (z190140.length + 1 ≤ 9223372036854775807))
 (loopK (impl_joined_cx k) 1 (execK (impl_joined_cx k) (callK (impl_joined_cx k) 7) 1 1500160021 (sub impl_mergeBy_c [1, 1, 1, 1, 1, 0, 1, 0, 0])) impl_joined_l1_cut K n (impl_joined_l1_s a0 a1 a2 x45 z190110 (IntKind.wrap .i64 (x46 + (1 : Int))) (z190140 ++ [(a1.getD (b18.1.toNat) ([], ([], ())))]) z190150))
 none)
 none)
 (loopK (impl_joined_cx k) 1 (execK (impl_joined_cx k) (callK (impl_joined_cx k) 7) 1 1500160021 (sub impl_mergeBy_c [1, 1, 1, 1, 1, 0, 1, 0, 0])) impl_joined_l1_cut K n (impl_joined_l1_s a0 a1 a2 x45 z190110 (IntKind.wrap .i64 (x46 + (1 : Int))) z190140 z190150))))
 (bindO (impl_same_r a2 a0 (z190110.getD (x46.toNat) [])) fun (b19 : Bool) => (cond b19
 (bindO (impl_find_r a1 (z190110.getD (x46.toNat) [])) fun (b20 : (Int × Bool)) => (cond b20.2
 (cond ((decide ((0 : Int) ≤ b20.1)) && (decide (b20.1 < (a1.length : Int))))
 (cond (decide ((z190140.length + 1) * 32 ≤ 140737488355328) && decide (z190140.length + 1 ≤ 9223372036854775807))
 (loopK (impl_joined_cx k) 1 (execK (impl_joined_cx k) (callK (impl_joined_cx k) 7) 1 1500160021 (sub impl_mergeBy_c [1, 1, 1, 1, 1, 0, 1, 0, 0])) impl_joined_l1_cut K n (impl_joined_l1_s a0 a1 a2 x45 z190110 (IntKind.wrap .i64 (x46 + (1 : Int))) (z190140 ++ [(a1.getD (b20.1.toNat) ([], ([], ())))]) z190150))
 none)
 none)
 (loopK (impl_joined_cx k) 1 (execK (impl_joined_cx k) (callK (impl_joined_cx k) 7) 1 1500160021 (sub impl_mergeBy_c [1, 1, 1, 1, 1, 0, 1, 0, 0])) impl_joined_l1_cut K n (impl_joined_l1_s a0 a1 a2 x45 z190110 (IntKind.wrap .i64 (x46 + (1 : Int))) z190140 z190150))))
 (bindO (impl_same_r a1 a0 (z190110.getD (x46.toNat) [])) fun (b21 : Bool) => (cond b21
 (bindO (impl_find_r a2 (z190110.getD (x46.toNat) [])) fun (b22 : (Int × Bool)) => (cond b22.2
 (cond ((decide ((0 : Int) ≤ b22.1)) && (decide (b22.1 < (a2.length : Int))))
 (cond (decide ((z190140.length + 1) * 32 ≤ 140737488355328) && decide (z190140.length + 1 ≤ 9223372036854775807))
 (loopK (impl_joined_cx k) 1 (execK (impl_joined_cx k) (callK (impl_joined_cx k) 7) 1 1500160021 (sub impl_mergeBy_c [1, 1, 1, 1, 1, 0, 1, 0, 0])) impl_joined_l1_cut K n (impl_joined_l1_s a0 a1 a2 x45 z190110 (IntKind.wrap .i64 (x46 + (1 : Int))) (z190140 ++ [(a2.getD (b22.1.toNat) ([], ([], ())))]) z190150))
 none)
 none)
 (loopK (impl_joined_cx k) 1 (execK (impl_joined_cx k) (callK (impl_joined_cx k) 7) 1 1500160021 (sub impl_mergeBy_c [1, 1, 1, 1, 1, 0, 1, 0, 0])) impl_joined_l1_cut K n (impl_joined_l1_s a0 a1 a2 x45 z190110 (IntKind.wrap .i64 (x46 + (1 : Int))) z190140 z190150))))
 (bindO (impl_told_r a0 (z190110.getD (x46.toNat) [])) fun (b23 : (List Int × (Bool × (List Int × (Bool × (List Int × Unit)))))) => (bindO (impl_told_r a1 (z190110.getD (x46.toNat) [])) fun (b24 : (List Int × (Bool × (List Int × (Bool × (List Int × Unit)))))) => (bindO (impl_told_r a2 (z190110.getD (x46.toNat) [])) fun (b25 : (List Int × (Bool × (List Int × (Bool × (List Int × Unit)))))) => (cond (decide ((z190150.length + 1) * 208 ≤ 140737488355328) && decide (z190150.length + 1 ≤ 9223372036854775807))
 (cond (!b25.2.2.2.1)
 (bindO (impl_find_r a1 (z190110.getD (x46.toNat) [])) fun (b26 : (Int × Bool)) => (cond b26.2
 (cond ((decide ((0 : Int) ≤ b26.1)) && (decide (b26.1 < (a1.length : Int))))
 (cond (decide ((z190140.length + 1) * 32 ≤ 140737488355328) && decide (z190140.length + 1 ≤ 9223372036854775807))
 (loopK (impl_joined_cx k) 1 (execK (impl_joined_cx k) (callK (impl_joined_cx k) 7) 1 1500160021 (sub impl_mergeBy_c [1, 1, 1, 1, 1, 0, 1, 0, 0])) impl_joined_l1_cut K n (impl_joined_l1_s a0 a1 a2 x45 z190110 (IntKind.wrap .i64 (x46 + (1 : Int))) (z190140 ++ [(a1.getD (b26.1.toNat) ([], ([], ())))]) (z190150 ++ [((z190110.getD (x46.toNat) []), (b23, (b24, (b25, ()))))])))
 none)
 none)
 (loopK (impl_joined_cx k) 1 (execK (impl_joined_cx k) (callK (impl_joined_cx k) 7) 1 1500160021 (sub impl_mergeBy_c [1, 1, 1, 1, 1, 0, 1, 0, 0])) impl_joined_l1_cut K n (impl_joined_l1_s a0 a1 a2 x45 z190110 (IntKind.wrap .i64 (x46 + (1 : Int))) z190140 (z190150 ++ [((z190110.getD (x46.toNat) []), (b23, (b24, (b25, ()))))])))))
 (cond b24.2.2.2.1
 (cond (!((ltI b24.2.2.2.2.1 b25.2.2.2.2.1) || (decide (b24.2.2.2.2.1 = b25.2.2.2.2.1))))
 (bindO (impl_find_r a1 (z190110.getD (x46.toNat) [])) fun (b27 : (Int × Bool)) => (cond b27.2
 (cond ((decide ((0 : Int) ≤ b27.1)) && (decide (b27.1 < (a1.length : Int))))
 (cond (decide ((z190140.length + 1) * 32 ≤ 140737488355328) && decide (z190140.length + 1 ≤ 9223372036854775807))
 (loopK (impl_joined_cx k) 1 (execK (impl_joined_cx k) (callK (impl_joined_cx k) 7) 1 1500160021 (sub impl_mergeBy_c [1, 1, 1, 1, 1, 0, 1, 0, 0])) impl_joined_l1_cut K n (impl_joined_l1_s a0 a1 a2 x45 z190110 (IntKind.wrap .i64 (x46 + (1 : Int))) (z190140 ++ [(a1.getD (b27.1.toNat) ([], ([], ())))]) (z190150 ++ [((z190110.getD (x46.toNat) []), (b23, (b24, (b25, ()))))])))
 none)
 none)
 (loopK (impl_joined_cx k) 1 (execK (impl_joined_cx k) (callK (impl_joined_cx k) 7) 1 1500160021 (sub impl_mergeBy_c [1, 1, 1, 1, 1, 0, 1, 0, 0])) impl_joined_l1_cut K n (impl_joined_l1_s a0 a1 a2 x45 z190110 (IntKind.wrap .i64 (x46 + (1 : Int))) z190140 (z190150 ++ [((z190110.getD (x46.toNat) []), (b23, (b24, (b25, ()))))])))))
 (bindO (impl_find_r a2 (z190110.getD (x46.toNat) [])) fun (b28 : (Int × Bool)) => (cond b28.2
 (cond ((decide ((0 : Int) ≤ b28.1)) && (decide (b28.1 < (a2.length : Int))))
 (cond (decide ((z190140.length + 1) * 32 ≤ 140737488355328) && decide (z190140.length + 1 ≤ 9223372036854775807))
 (loopK (impl_joined_cx k) 1 (execK (impl_joined_cx k) (callK (impl_joined_cx k) 7) 1 1500160021 (sub impl_mergeBy_c [1, 1, 1, 1, 1, 0, 1, 0, 0])) impl_joined_l1_cut K n (impl_joined_l1_s a0 a1 a2 x45 z190110 (IntKind.wrap .i64 (x46 + (1 : Int))) (z190140 ++ [(a2.getD (b28.1.toNat) ([], ([], ())))]) (z190150 ++ [((z190110.getD (x46.toNat) []), (b23, (b24, (b25, ()))))])))
 none)
 none)
 (loopK (impl_joined_cx k) 1 (execK (impl_joined_cx k) (callK (impl_joined_cx k) 7) 1 1500160021 (sub impl_mergeBy_c [1, 1, 1, 1, 1, 0, 1, 0, 0])) impl_joined_l1_cut K n (impl_joined_l1_s a0 a1 a2 x45 z190110 (IntKind.wrap .i64 (x46 + (1 : Int))) z190140 (z190150 ++ [((z190110.getD (x46.toNat) []), (b23, (b24, (b25, ()))))]))))))
 (bindO (impl_find_r a2 (z190110.getD (x46.toNat) [])) fun (b29 : (Int × Bool)) => (cond b29.2
 (cond ((decide ((0 : Int) ≤ b29.1)) && (decide (b29.1 < (a2.length : Int))))
 (cond (decide ((z190140.length + 1) * 32 ≤ 140737488355328) && decide (z190140.length + 1 ≤ 9223372036854775807))
 (loopK (impl_joined_cx k) 1 (execK (impl_joined_cx k) (callK (impl_joined_cx k) 7) 1 1500160021 (sub impl_mergeBy_c [1, 1, 1, 1, 1, 0, 1, 0, 0])) impl_joined_l1_cut K n (impl_joined_l1_s a0 a1 a2 x45 z190110 (IntKind.wrap .i64 (x46 + (1 : Int))) (z190140 ++ [(a2.getD (b29.1.toNat) ([], ([], ())))]) (z190150 ++ [((z190110.getD (x46.toNat) []), (b23, (b24, (b25, ()))))])))
 none)
 none)
 (loopK (impl_joined_cx k) 1 (execK (impl_joined_cx k) (callK (impl_joined_cx k) 7) 1 1500160021 (sub impl_mergeBy_c [1, 1, 1, 1, 1, 0, 1, 0, 0])) impl_joined_l1_cut K n (impl_joined_l1_s a0 a1 a2 x45 z190110 (IntKind.wrap .i64 (x46 + (1 : Int))) z190140 (z190150 ++ [((z190110.getD (x46.toNat) []), (b23, (b24, (b25, ()))))])))))))
 none))))))))))
 none)
 (K (.exit 2) (impl_joined_l1_o2 a1 a2 z190140 z190150))) : Option (shDen impl_joined_sh)) := by kernel_rfl

theorem impl_joined_l1_exit2 (k : Nat)  (a1 : (List (List Int × (List Int × Unit)))) (a2 : (List (List Int × (List Int × Unit)))) (z190140 : (List (List Int × (List Int × Unit)))) (z190150 : (List (List Int × ((List Int × (Bool × (List Int × (Bool × (List Int × Unit))))) × ((List Int × (Bool × (List Int × (Bool × (List Int × Unit))))) × ((List Int × (Bool × (List Int × (Bool × (List Int × Unit))))) × Unit)))))) : ((blkK 2 (seqK (execK (impl_joined_cx k) (callK (impl_joined_cx k) 7) 1 1500160021 (sub impl_mergeBy_c [1, 1, 1, 1, 1, 1])) (retK (impl_joined_cx k) impl_mergeBy_i (some 16) 0 (opsRest (impl_joined_cx k) (callK (impl_joined_cx k) 8) 0 15 false (regOps (sub impl_joined_c [1, 0])) 4 (seqK (execK (impl_joined_cx k) (callK (impl_joined_cx k) 8) 0 15 (sub impl_joined_c [1, 1])) (finK (impl_joined_cx k) impl_joined_i impl_joined_sh)))))) (.exit 2) (impl_joined_l1_o2 a1 a2 z190140 z190150) : Option (shDen impl_joined_sh)) =
 ((cond (decide ((64 : Int) < (z190140.length : Int)))
 (some ([], (3 : Int)))
 (some (z190140, (0 : Int)))) : Option (shDen impl_joined_sh)) := by kernel_rfl

theorem impl_joined_l1_congr (ke2 : (List (List Int × (List Int × Unit))) → (List (List Int × ((List Int × (Bool × (List Int × (Bool × (List Int × Unit))))) × ((List Int × (Bool × (List Int × (Bool × (List Int × Unit))))) × ((List Int × (Bool × (List Int × (Bool × (List Int × Unit))))) × Unit))))) → Option (shDen impl_joined_sh)) (ke2' : (List (List Int × (List Int × Unit))) → (List (List Int × ((List Int × (Bool × (List Int × (Bool × (List Int × Unit))))) × ((List Int × (Bool × (List Int × (Bool × (List Int × Unit))))) × ((List Int × (Bool × (List Int × (Bool × (List Int × Unit))))) × Unit))))) → Option (shDen impl_joined_sh)) (a0 : (List (List Int × (List Int × Unit)))) (a1 : (List (List Int × (List Int × Unit)))) (a2 : (List (List Int × (List Int × Unit)))) (n : Nat) (x45 : Int) (z190110 : (List (List Int))) (x46 : Int) (z190140 : (List (List Int × (List Int × Unit)))) (z190150 : (List (List Int × ((List Int × (Bool × (List Int × (Bool × (List Int × Unit))))) × ((List Int × (Bool × (List Int × (Bool × (List Int × Unit))))) × ((List Int × (Bool × (List Int × (Bool × (List Int × Unit))))) × Unit)))))) (hke2 : ∀ z190140 z190150, ke2 z190140 z190150 = ke2' z190140 z190150) : impl_joined_l1_L ke2 a0 a1 a2 n x45 z190110 x46 z190140 z190150 = impl_joined_l1_L ke2' a0 a1 a2 n x45 z190110 x46 z190140 z190150 := by
 have : ke2 = ke2' := (by funext z190140 z190150; exact hke2 z190140 z190150); subst this; rfl

theorem impl_joined_l1_L_eq (K : Ex → St → Option (shDen impl_joined_sh)) (a0 : (List (List Int × (List Int × Unit)))) (a1 : (List (List Int × (List Int × Unit)))) (a2 : (List (List Int × (List Int × Unit)))) : ∀ (n : Nat) (x45 : Int) (z190110 : (List (List Int))) (x46 : Int) (z190140 : (List (List Int × (List Int × Unit)))) (z190150 : (List (List Int × ((List Int × (Bool × (List Int × (Bool × (List Int × Unit))))) × ((List Int × (Bool × (List Int × (Bool × (List Int × Unit))))) × ((List Int × (Bool × (List Int × (Bool × (List Int × Unit))))) × Unit)))))), (loopK (impl_joined_cx FUEL) 1 (execK (impl_joined_cx FUEL) (callK (impl_joined_cx FUEL) 7) 1 1500160021 (sub impl_mergeBy_c [1, 1, 1, 1, 1, 0, 1, 0, 0])) impl_joined_l1_cut K n (impl_joined_l1_s a0 a1 a2 x45 z190110 x46 z190140 z190150) : Option (shDen impl_joined_sh)) = impl_joined_l1_L (fun z190140 z190150 => K (.exit 2) (impl_joined_l1_o2 a1 a2 z190140 z190150)) a0 a1 a2 n x45 z190110 x46 z190140 z190150 := by
 intro n
 induction n with
 | zero => intros; rfl
 | succ n ih =>
  intro x45 z190110 x46 z190140 z190150
  exact (impl_joined_l1_round FUEL K n a0 a1 a2 x45 z190110 x46 z190140 z190150).trans (condC (condC (bindC (fun b17 => condC (bindC (fun b18 => condC (condC (condC (ih x45 z190110 (IntKind.wrap .i64 (x46 + (1 : Int))) (z190140 ++ [(a1.getD (b18.1.toNat) ([], ([], ())))]) z190150) (rfl)) (rfl)) (ih x45 z190110 (IntKind.wrap .i64 (x46 + (1 : Int))) z190140 z190150))) (bindC (fun b19 => condC (bindC (fun b20 => condC (condC (condC (ih x45 z190110 (IntKind.wrap .i64 (x46 + (1 : Int))) (z190140 ++ [(a1.getD (b20.1.toNat) ([], ([], ())))]) z190150) (rfl)) (rfl)) (ih x45 z190110 (IntKind.wrap .i64 (x46 + (1 : Int))) z190140 z190150))) (bindC (fun b21 => condC (bindC (fun b22 => condC (condC (condC (ih x45 z190110 (IntKind.wrap .i64 (x46 + (1 : Int))) (z190140 ++ [(a2.getD (b22.1.toNat) ([], ([], ())))]) z190150) (rfl)) (rfl)) (ih x45 z190110 (IntKind.wrap .i64 (x46 + (1 : Int))) z190140 z190150))) (bindC (fun b23 => bindC (fun b24 => bindC (fun b25 => condC (condC (bindC (fun b26 => condC (condC (condC (ih x45 z190110 (IntKind.wrap .i64 (x46 + (1 : Int))) (z190140 ++ [(a1.getD (b26.1.toNat) ([], ([], ())))]) (z190150 ++ [((z190110.getD (x46.toNat) []), (b23, (b24, (b25, ()))))])) (rfl)) (rfl)) (ih x45 z190110 (IntKind.wrap .i64 (x46 + (1 : Int))) z190140 (z190150 ++ [((z190110.getD (x46.toNat) []), (b23, (b24, (b25, ()))))])))) (condC (condC (bindC (fun b27 => condC (condC (condC (ih x45 z190110 (IntKind.wrap .i64 (x46 + (1 : Int))) (z190140 ++ [(a1.getD (b27.1.toNat) ([], ([], ())))]) (z190150 ++ [((z190110.getD (x46.toNat) []), (b23, (b24, (b25, ()))))])) (rfl)) (rfl)) (ih x45 z190110 (IntKind.wrap .i64 (x46 + (1 : Int))) z190140 (z190150 ++ [((z190110.getD (x46.toNat) []), (b23, (b24, (b25, ()))))])))) (bindC (fun b28 => condC (condC (condC (ih x45 z190110 (IntKind.wrap .i64 (x46 + (1 : Int))) (z190140 ++ [(a2.getD (b28.1.toNat) ([], ([], ())))]) (z190150 ++ [((z190110.getD (x46.toNat) []), (b23, (b24, (b25, ()))))])) (rfl)) (rfl)) (ih x45 z190110 (IntKind.wrap .i64 (x46 + (1 : Int))) z190140 (z190150 ++ [((z190110.getD (x46.toNat) []), (b23, (b24, (b25, ()))))]))))) (bindC (fun b29 => condC (condC (condC (ih x45 z190110 (IntKind.wrap .i64 (x46 + (1 : Int))) (z190140 ++ [(a2.getD (b29.1.toNat) ([], ([], ())))]) (z190150 ++ [((z190110.getD (x46.toNat) []), (b23, (b24, (b25, ()))))])) (rfl)) (rfl)) (ih x45 z190110 (IntKind.wrap .i64 (x46 + (1 : Int))) z190140 (z190150 ++ [((z190110.getD (x46.toNat) []), (b23, (b24, (b25, ()))))])))))) (rfl))))))))))) (rfl)) (rfl))

theorem impl_joined_l0_round (k : Nat) (K : Ex → St → Option (shDen impl_joined_sh)) (n : Nat) (a0 : (List (List Int × (List Int × Unit)))) (a1 : (List (List Int × (List Int × Unit)))) (a2 : (List (List Int × (List Int × Unit)))) (x28 : Int) (z100270 : (List (List Int × (List Int × Unit)))) (x29 : Int) (z190110 : (List (List Int))) : (loopK (impl_joined_cx k) 1 (execK (impl_joined_cx k) (callK (impl_joined_cx k) 7) 1 1500160021 (sub impl_mergeBy_c [1, 1, 0, 1, 0, 0])) impl_joined_l0_cut K (n + 1) (impl_joined_l0_s a0 a1 a2 x28 z100270 x29 z190110) : Option (shDen impl_joined_sh)) =
 ((cond (decide (x29 < x28))
 (cond ((decide ((0 : Int) ≤ x29)) && (decide (x29 < (z100270.length : Int))))
 (cond (decide ((z190110.length + 1) * 16 ≤ 140737488355328) && decide (z190110.length + 1 ≤ 9223372036854775807))
 (loopK (impl_joined_cx k) 1 (execK (impl_joined_cx k) (callK (impl_joined_cx k) 7) 1 1500160021 (sub impl_mergeBy_c [1, 1, 0, 1, 0, 0])) impl_joined_l0_cut K n (impl_joined_l0_s a0 a1 a2 x28 z100270 (IntKind.wrap .i64 (x29 + (1 : Int))) (z190110 ++ [(z100270.getD (x29.toNat) ([], ([], ()))).1])))
 none)
 none)
 (K (.exit 0) (impl_joined_l0_o0 a0 a1 a2 z190110))) : Option (shDen impl_joined_sh)) := by kernel_rfl

theorem impl_joined_l0_exit0 (k : Nat)  (a0 : (List (List Int × (List Int × Unit)))) (a1 : (List (List Int × (List Int × Unit)))) (a2 : (List (List Int × (List Int × Unit)))) (z190110 : (List (List Int))) : ((blkK 0 (seqK (execK (impl_joined_cx k) (callK (impl_joined_cx k) 7) 1 1500160021 (sub impl_mergeBy_c [1, 1, 1])) (retK (impl_joined_cx k) impl_mergeBy_i (some 16) 0 (opsRest (impl_joined_cx k) (callK (impl_joined_cx k) 8) 0 15 false (regOps (sub impl_joined_c [1, 0])) 4 (seqK (execK (impl_joined_cx k) (callK (impl_joined_cx k) 8) 0 15 (sub impl_joined_c [1, 1])) (finK (impl_joined_cx k) impl_joined_i impl_joined_sh)))))) (.exit 0) (impl_joined_l0_o0 a0 a1 a2 z190110) : Option (shDen impl_joined_sh)) =
 ((bindO (slices_Sort_string_string_r z190110) fun (b2 : ((List (List Int)) × Unit)) => (bindO (slices_Compact_string_string_r b2.1) fun (b3 : (List (List Int))) => (loopK (impl_joined_cx k) 1 (execK (impl_joined_cx k) (callK (impl_joined_cx k) 7) 1 1500160021 (sub impl_mergeBy_c [1, 1, 1, 1, 1, 0, 1, 0, 0])) impl_joined_l1_cut (blkK 2 (seqK (execK (impl_joined_cx k) (callK (impl_joined_cx k) 7) 1 1500160021 (sub impl_mergeBy_c [1, 1, 1, 1, 1, 1])) (retK (impl_joined_cx k) impl_mergeBy_i (some 16) 0 (opsRest (impl_joined_cx k) (callK (impl_joined_cx k) 8) 0 15 false (regOps (sub impl_joined_c [1, 0])) 4 (seqK (execK (impl_joined_cx k) (callK (impl_joined_cx k) 8) 0 15 (sub impl_joined_c [1, 1])) (finK (impl_joined_cx k) impl_joined_i impl_joined_sh)))))) k (impl_joined_l1_s a0 a1 a2 (b3.length : Int) b3 (0 : Int) [] [])))) : Option (shDen impl_joined_sh)) := by kernel_rfl

theorem impl_joined_l0_congr (ke0 : (List (List Int)) → Option (shDen impl_joined_sh)) (ke0' : (List (List Int)) → Option (shDen impl_joined_sh)) (a0 : (List (List Int × (List Int × Unit)))) (a1 : (List (List Int × (List Int × Unit)))) (a2 : (List (List Int × (List Int × Unit)))) (n : Nat) (x28 : Int) (z100270 : (List (List Int × (List Int × Unit)))) (x29 : Int) (z190110 : (List (List Int))) (hke0 : ∀ z190110, ke0 z190110 = ke0' z190110) : impl_joined_l0_L ke0 a0 a1 a2 n x28 z100270 x29 z190110 = impl_joined_l0_L ke0' a0 a1 a2 n x28 z100270 x29 z190110 := by
 have : ke0 = ke0' := (by funext z190110; exact hke0 z190110); subst this; rfl

theorem impl_joined_l0_L_eq (K : Ex → St → Option (shDen impl_joined_sh)) (a0 : (List (List Int × (List Int × Unit)))) (a1 : (List (List Int × (List Int × Unit)))) (a2 : (List (List Int × (List Int × Unit)))) : ∀ (n : Nat) (x28 : Int) (z100270 : (List (List Int × (List Int × Unit)))) (x29 : Int) (z190110 : (List (List Int))), (loopK (impl_joined_cx FUEL) 1 (execK (impl_joined_cx FUEL) (callK (impl_joined_cx FUEL) 7) 1 1500160021 (sub impl_mergeBy_c [1, 1, 0, 1, 0, 0])) impl_joined_l0_cut K n (impl_joined_l0_s a0 a1 a2 x28 z100270 x29 z190110) : Option (shDen impl_joined_sh)) = impl_joined_l0_L (fun z190110 => K (.exit 0) (impl_joined_l0_o0 a0 a1 a2 z190110)) a0 a1 a2 n x28 z100270 x29 z190110 := by
 intro n
 induction n with
 | zero => intros; rfl
 | succ n ih =>
  intro x28 z100270 x29 z190110
  exact (impl_joined_l0_round FUEL K n a0 a1 a2 x28 z100270 x29 z190110).trans (condC (condC (condC (ih x28 z100270 (IntKind.wrap .i64 (x29 + (1 : Int))) (z190110 ++ [(z100270.getD (x29.toNat) ([], ([], ()))).1])) (rfl)) (rfl)) (rfl))

theorem impl_joined_start (k : Nat) (a0 : (List (List Int × (List Int × Unit)))) (a1 : (List (List Int × (List Int × Unit)))) (a2 : (List (List Int × (List Int × Unit)))) : fnK (impl_joined_cx k) 8 15 impl_joined_i impl_joined_sh [.pv (.slice (.pair .str (.pair .str .unit))) a0, .pv (.slice (.pair .str (.pair .str .unit))) a1, .pv (.slice (.pair .str (.pair .str .unit))) a2] =
 ((bindO (slices_Concat_impl_Entry_impl_Entry_r [a0, a1, a2]) fun (b1 : (List (List Int × (List Int × Unit)))) => (loopK (impl_joined_cx k) 1 (execK (impl_joined_cx k) (callK (impl_joined_cx k) 7) 1 1500160021 (sub impl_mergeBy_c [1, 1, 0, 1, 0, 0])) impl_joined_l0_cut (blkK 0 (seqK (execK (impl_joined_cx k) (callK (impl_joined_cx k) 7) 1 1500160021 (sub impl_mergeBy_c [1, 1, 1])) (retK (impl_joined_cx k) impl_mergeBy_i (some 16) 0 (opsRest (impl_joined_cx k) (callK (impl_joined_cx k) 8) 0 15 false (regOps (sub impl_joined_c [1, 0])) 4 (seqK (execK (impl_joined_cx k) (callK (impl_joined_cx k) 8) 0 15 (sub impl_joined_c [1, 1])) (finK (impl_joined_cx k) impl_joined_i impl_joined_sh)))))) k (impl_joined_l0_s a0 a1 a2 (b1.length : Int) b1 (0 : Int) []))) : Option (shDen impl_joined_sh)) := by kernel_rfl

theorem impl_joined_run (a0 : (List (List Int × (List Int × Unit)))) (a1 : (List (List Int × (List Int × Unit)))) (a2 : (List (List Int × (List Int × Unit)))) : fnK (impl_joined_cx FUEL) 8 15 impl_joined_i impl_joined_sh [.pv (.slice (.pair .str (.pair .str .unit))) a0, .pv (.slice (.pair .str (.pair .str .unit))) a1, .pv (.slice (.pair .str (.pair .str .unit))) a2] = impl_joined_r a0 a1 a2 :=
 (impl_joined_start FUEL a0 a1 a2).trans (bindC (fun b1 => (impl_joined_l0_L_eq _ a0 a1 a2 FUEL (b1.length : Int) b1 (0 : Int) []).trans (impl_joined_l0_congr _ _ a0 a1 a2 FUEL (b1.length : Int) b1 (0 : Int) [] (fun z190110 => (impl_joined_l0_exit0 FUEL  a0 a1 a2 z190110).trans (bindC (fun b2 => bindC (fun b3 => (impl_joined_l1_L_eq _ a0 a1 a2 FUEL (b3.length : Int) b3 (0 : Int) [] []).trans (impl_joined_l1_congr _ _ a0 a1 a2 FUEL (b3.length : Int) b3 (0 : Int) [] [] (fun z190140 z190150 => (impl_joined_l1_exit2 FUEL  a1 a2 z190140 z190150).trans (rfl))))))))))

noncomputable def impl_joined_con : Con := { ps := (.pair (.slice (.pair .str (.pair .str .unit))) (.pair (.slice (.pair .str (.pair .str .unit))) (.pair (.slice (.pair .str (.pair .str .unit))) .unit))), sh := impl_joined_sh, raw := fun x => impl_joined_r x.1 x.2.1 x.2.2.1 }
theorem impl_joined_conOk : ConOk Try.prog 15 impl_joined_con := con_of_fn (impl_joined_tabs FUEL) (depth := 8) impl_joined_ok fun x y h => (impl_joined_run x.1 x.2.1 x.2.2.1).trans h

noncomputable def impl_JoinMaps_inls : List (Nat × Inl) := []
noncomputable def impl_JoinMaps_cons : List (Nat × Con) := [(13, impl_ValidEntries_con), (15, impl_joined_con)]
noncomputable def impl_JoinMaps_taks : List (Nat × ConT) := []
noncomputable def impl_JoinMaps_inps : List (Nat × ConI) := []
noncomputable def impl_JoinMaps_cuts : List (Nat × List (Nat × Cut)) := []
noncomputable def impl_JoinMaps_cx (k : Nat) : Cx := mkCx tys tbytes telem nozero (Ai.look impl_JoinMaps_inls) (Ai.look impl_JoinMaps_cons) (Ai.look impl_JoinMaps_taks) (Ai.look impl_JoinMaps_inps) (fun f id => match Ai.look impl_JoinMaps_cuts f with | some l => Ai.look l id | none => none) k [] false
theorem impl_JoinMaps_tabs (k : Nat) : TabsOk Try.prog (impl_JoinMaps_cx k) := ⟨tab_mk tabs_ok _ _ _ _ _ _ _ _, look_all (Q := ConOk Try.prog) _ ⟨impl_ValidEntries_conOk, impl_joined_conOk, trivial⟩, look_all (Q := TakOk Try.prog) _ trivial, look_all (Q := InpOk Try.prog) _ trivial, look_all (Q := InlOk Try.prog) _ trivial, mixed_ok⟩
abbrev impl_JoinMaps_sh : List Sh := [.own 43 (.pair .str (.pair .str .unit)), .pl (.int .i64)]
noncomputable def impl_JoinMaps_r (a0 : (List (List Int × (List Int × Unit)))) (a1 : (List (List Int × (List Int × Unit)))) (a2 : (List (List Int × (List Int × Unit)))) : Option (shDen impl_JoinMaps_sh) :=
 (bindO (impl_ValidEntries_r a0) fun (b1 : Bool) => (cond (!b1)
 (some ([], (1 : Int)))
 (bindO (impl_ValidEntries_r a1) fun (b2 : Bool) => (cond (!b2)
 (some ([], (1 : Int)))
 (bindO (impl_ValidEntries_r a2) fun (b3 : Bool) => (cond (!b3)
 (some ([], (1 : Int)))
 (bindO (impl_joined_r a0 a1 a2) fun (b4 : ((List (List Int × (List Int × Unit))) × Int)) => (some (b4.1, b4.2)))))))))
theorem impl_JoinMaps_start (k : Nat) (a0 : (List (List Int × (List Int × Unit)))) (a1 : (List (List Int × (List Int × Unit)))) (a2 : (List (List Int × (List Int × Unit)))) : fnK (impl_JoinMaps_cx k) 8 7 impl_JoinMaps_i impl_JoinMaps_sh [.pv (.slice (.pair .str (.pair .str .unit))) a0, .pv (.slice (.pair .str (.pair .str .unit))) a1, .pv (.slice (.pair .str (.pair .str .unit))) a2] =
 ((bindO (impl_ValidEntries_r a0) fun (b1 : Bool) => (cond (!b1)
 (some ([], (1 : Int)))
 (bindO (impl_ValidEntries_r a1) fun (b2 : Bool) => (cond (!b2)
 (some ([], (1 : Int)))
 (bindO (impl_ValidEntries_r a2) fun (b3 : Bool) => (cond (!b3)
 (some ([], (1 : Int)))
 (bindO (impl_joined_r a0 a1 a2) fun (b4 : ((List (List Int × (List Int × Unit))) × Int)) => (some (b4.1, b4.2))))))))) : Option (shDen impl_JoinMaps_sh)) := by kernel_rfl

theorem impl_JoinMaps_run (a0 : (List (List Int × (List Int × Unit)))) (a1 : (List (List Int × (List Int × Unit)))) (a2 : (List (List Int × (List Int × Unit)))) : fnK (impl_JoinMaps_cx FUEL) 8 7 impl_JoinMaps_i impl_JoinMaps_sh [.pv (.slice (.pair .str (.pair .str .unit))) a0, .pv (.slice (.pair .str (.pair .str .unit))) a1, .pv (.slice (.pair .str (.pair .str .unit))) a2] = impl_JoinMaps_r a0 a1 a2 :=
 (impl_JoinMaps_start FUEL a0 a1 a2).trans (rfl)

noncomputable def impl_JoinMaps_con : Con := { ps := (.pair (.slice (.pair .str (.pair .str .unit))) (.pair (.slice (.pair .str (.pair .str .unit))) (.pair (.slice (.pair .str (.pair .str .unit))) .unit))), sh := impl_JoinMaps_sh, raw := fun x => impl_JoinMaps_r x.1 x.2.1 x.2.2.1 }
theorem impl_JoinMaps_conOk : ConOk Try.prog 7 impl_JoinMaps_con := con_of_fn (impl_JoinMaps_tabs FUEL) (depth := 8) impl_JoinMaps_ok fun x y h => (impl_JoinMaps_run x.1 x.2.1 x.2.2.1).trans h

noncomputable def spec_l07SameMaps_l0_cut : Cut := { keep := [0, 1, 5], stk := [], ids := [], own := [], outs := [(0, [4], []), (1, [], [])] }
noncomputable def spec_l07SameMaps_inls : List (Nat × Inl) := []
noncomputable def spec_l07SameMaps_cons : List (Nat × Con) := []
noncomputable def spec_l07SameMaps_taks : List (Nat × ConT) := []
noncomputable def spec_l07SameMaps_inps : List (Nat × ConI) := []
noncomputable def spec_l07SameMaps_cuts : List (Nat × List (Nat × Cut)) := [(16, [(0, spec_l07SameMaps_l0_cut)])]
noncomputable def spec_l07SameMaps_cx (k : Nat) : Cx := mkCx tys tbytes telem nozero (Ai.look spec_l07SameMaps_inls) (Ai.look spec_l07SameMaps_cons) (Ai.look spec_l07SameMaps_taks) (Ai.look spec_l07SameMaps_inps) (fun f id => match Ai.look spec_l07SameMaps_cuts f with | some l => Ai.look l id | none => none) k [] false
theorem spec_l07SameMaps_tabs (k : Nat) : TabsOk Try.prog (spec_l07SameMaps_cx k) := ⟨tab_mk tabs_ok _ _ _ _ _ _ _ _, look_all (Q := ConOk Try.prog) _ trivial, look_all (Q := TakOk Try.prog) _ trivial, look_all (Q := InpOk Try.prog) _ trivial, look_all (Q := InlOk Try.prog) _ trivial, mixed_ok⟩
abbrev spec_l07SameMaps_sh : List Sh := [.pl .bool]
noncomputable def spec_l07SameMaps_l0_s (a0 : (List (List Int × (List Int × Unit)))) (a1 : (List (List Int × (List Int × Unit)))) (x5 : Int) : St := { env := [.pv (.slice (.pair .str (.pair .str .unit))) a0, .pv (.slice (.pair .str (.pair .str .unit))) a1, .dead, .dead, .dead, .pv (.int .i64) x5, .dead, .dead, .dead, .dead, .dead, .dead, .dead, .dead, .dead, .dead, .dead, .dead, .dead, .dead, .dead, .dead, .dead, .dead, .dead, .dead], stk := [], heap := [] }
noncomputable def spec_l07SameMaps_l0_o  : St := { env := [.dead, .dead, .dead, .dead, .pv .bool false, .dead, .dead, .dead, .dead, .dead, .dead, .dead, .dead, .dead, .dead, .dead, .dead, .dead, .dead, .dead, .dead, .dead, .dead, .dead, .dead, .dead], stk := [], heap := [] }
noncomputable def spec_l07SameMaps_l0_o0  : St := { env := [.dead, .dead, .dead, .dead, .dead, .dead, .dead, .dead, .dead, .dead, .dead, .dead, .dead, .dead, .dead, .dead, .dead, .dead, .dead, .dead, .dead, .dead, .dead, .dead, .dead, .dead], stk := [], heap := [] }
noncomputable def spec_l07SameMaps_l0_b (rec : Int → Option (shDen spec_l07SameMaps_sh)) (kr : Option (shDen spec_l07SameMaps_sh)) (ke0 : Option (shDen spec_l07SameMaps_sh)) (a0 : (List (List Int × (List Int × Unit)))) (a1 : (List (List Int × (List Int × Unit)))) (x5 : Int) : Option (shDen spec_l07SameMaps_sh) :=
 (cond (decide (x5 < (a0.length : Int)))
 (cond ((decide ((0 : Int) ≤ x5)) && (decide (x5 < (a0.length : Int))))
 (cond ((decide ((0 : Int) ≤ x5)) && (decide (x5 < (a1.length : Int))))
 (cond (!(eqd (.pair .str (.pair .str .unit)) (a0.getD (x5.toNat) ([], ([], ()))) (a1.getD (x5.toNat) ([], ([], ())))))
 (kr)
 (rec (IntKind.wrap .i64 (x5 + (1 : Int)))))
 none)
 none)
 (ke0))
noncomputable def spec_l07SameMaps_l0_L (kr : Option (shDen spec_l07SameMaps_sh)) (ke0 : Option (shDen spec_l07SameMaps_sh)) (a0 : (List (List Int × (List Int × Unit)))) (a1 : (List (List Int × (List Int × Unit)))) : Nat → Int → Option (shDen spec_l07SameMaps_sh)
 | 0 => fun _ => none
 | n + 1 => spec_l07SameMaps_l0_b (spec_l07SameMaps_l0_L kr ke0 a0 a1 n) kr ke0 a0 a1
noncomputable def spec_l07SameMaps_r (a0 : (List (List Int × (List Int × Unit)))) (a1 : (List (List Int × (List Int × Unit)))) : Option (shDen spec_l07SameMaps_sh) :=
 (cond (!(decide ((a0.length : Int) = (a1.length : Int))))
 (some false)
 (spec_l07SameMaps_l0_L (some false) (some true) a0 a1 FUEL (0 : Int)))
theorem spec_l07SameMaps_l0_round (k : Nat) (K : Ex → St → Option (shDen spec_l07SameMaps_sh)) (n : Nat) (a0 : (List (List Int × (List Int × Unit)))) (a1 : (List (List Int × (List Int × Unit)))) (x5 : Int) : (loopK (spec_l07SameMaps_cx k) 0 (execK (spec_l07SameMaps_cx k) (callK (spec_l07SameMaps_cx k) 8) 0 16 (sub spec_l07SameMaps_c [1, 1, 0, 1, 0, 0])) spec_l07SameMaps_l0_cut K (n + 1) (spec_l07SameMaps_l0_s a0 a1 x5) : Option (shDen spec_l07SameMaps_sh)) =
 ((cond (decide (x5 < (a0.length : Int)))
 (cond ((decide ((0 : Int) ≤ x5)) && (decide (x5 < (a0.length : Int))))
 (cond ((decide ((0 : Int) ≤ x5)) && (decide (x5 < (a1.length : Int))))
 (cond (!(eqd (.pair .str (.pair .str .unit)) (a0.getD (x5.toNat) ([], ([], ()))) (a1.getD (x5.toNat) ([], ([], ())))))
 (K .ret (spec_l07SameMaps_l0_o ))
 (loopK (spec_l07SameMaps_cx k) 0 (execK (spec_l07SameMaps_cx k) (callK (spec_l07SameMaps_cx k) 8) 0 16 (sub spec_l07SameMaps_c [1, 1, 0, 1, 0, 0])) spec_l07SameMaps_l0_cut K n (spec_l07SameMaps_l0_s a0 a1 (IntKind.wrap .i64 (x5 + (1 : Int))))))
 none)
 none)
 (K (.exit 0) (spec_l07SameMaps_l0_o0 ))) : Option (shDen spec_l07SameMaps_sh)) := by kernel_rfl

theorem spec_l07SameMaps_l0_ret (k : Nat)   : ((blkK 0 (seqK (execK (spec_l07SameMaps_cx k) (callK (spec_l07SameMaps_cx k) 8) 0 16 (sub spec_l07SameMaps_c [1, 1, 1])) (finK (spec_l07SameMaps_cx k) spec_l07SameMaps_i spec_l07SameMaps_sh))) .ret (spec_l07SameMaps_l0_o) : Option (shDen spec_l07SameMaps_sh)) =
 ((some false) : Option (shDen spec_l07SameMaps_sh)) := by kernel_rfl

theorem spec_l07SameMaps_l0_exit0 (k : Nat)   : ((blkK 0 (seqK (execK (spec_l07SameMaps_cx k) (callK (spec_l07SameMaps_cx k) 8) 0 16 (sub spec_l07SameMaps_c [1, 1, 1])) (finK (spec_l07SameMaps_cx k) spec_l07SameMaps_i spec_l07SameMaps_sh))) (.exit 0) (spec_l07SameMaps_l0_o0) : Option (shDen spec_l07SameMaps_sh)) =
 ((some true) : Option (shDen spec_l07SameMaps_sh)) := by kernel_rfl

theorem spec_l07SameMaps_l0_congr (kr : Option (shDen spec_l07SameMaps_sh)) (ke0 : Option (shDen spec_l07SameMaps_sh)) (kr' : Option (shDen spec_l07SameMaps_sh)) (ke0' : Option (shDen spec_l07SameMaps_sh)) (a0 : (List (List Int × (List Int × Unit)))) (a1 : (List (List Int × (List Int × Unit)))) (n : Nat) (x5 : Int) (hkr : ∀ (_ : Unit), kr  = kr' ) (hke0 : ∀ (_ : Unit), ke0  = ke0' ) : spec_l07SameMaps_l0_L kr ke0 a0 a1 n x5 = spec_l07SameMaps_l0_L kr' ke0' a0 a1 n x5 := by
 have : kr = kr' := hkr (); subst this; have : ke0 = ke0' := hke0 (); subst this; rfl

theorem spec_l07SameMaps_l0_L_eq (K : Ex → St → Option (shDen spec_l07SameMaps_sh)) (a0 : (List (List Int × (List Int × Unit)))) (a1 : (List (List Int × (List Int × Unit)))) : ∀ (n : Nat) (x5 : Int), (loopK (spec_l07SameMaps_cx FUEL) 0 (execK (spec_l07SameMaps_cx FUEL) (callK (spec_l07SameMaps_cx FUEL) 8) 0 16 (sub spec_l07SameMaps_c [1, 1, 0, 1, 0, 0])) spec_l07SameMaps_l0_cut K n (spec_l07SameMaps_l0_s a0 a1 x5) : Option (shDen spec_l07SameMaps_sh)) = spec_l07SameMaps_l0_L (K .ret (spec_l07SameMaps_l0_o)) (K (.exit 0) (spec_l07SameMaps_l0_o0)) a0 a1 n x5 := by
 intro n
 induction n with
 | zero => intros; rfl
 | succ n ih =>
  intro x5
  exact (spec_l07SameMaps_l0_round FUEL K n a0 a1 x5).trans (condC (condC (condC (condC (rfl) (ih (IntKind.wrap .i64 (x5 + (1 : Int))))) (rfl)) (rfl)) (rfl))

theorem spec_l07SameMaps_start (k : Nat) (a0 : (List (List Int × (List Int × Unit)))) (a1 : (List (List Int × (List Int × Unit)))) : fnK (spec_l07SameMaps_cx k) 8 16 spec_l07SameMaps_i spec_l07SameMaps_sh [.pv (.slice (.pair .str (.pair .str .unit))) a0, .pv (.slice (.pair .str (.pair .str .unit))) a1] =
 ((cond (!(decide ((a0.length : Int) = (a1.length : Int))))
 (some false)
 (loopK (spec_l07SameMaps_cx k) 0 (execK (spec_l07SameMaps_cx k) (callK (spec_l07SameMaps_cx k) 8) 0 16 (sub spec_l07SameMaps_c [1, 1, 0, 1, 0, 0])) spec_l07SameMaps_l0_cut (blkK 0 (seqK (execK (spec_l07SameMaps_cx k) (callK (spec_l07SameMaps_cx k) 8) 0 16 (sub spec_l07SameMaps_c [1, 1, 1])) (finK (spec_l07SameMaps_cx k) spec_l07SameMaps_i spec_l07SameMaps_sh))) k (spec_l07SameMaps_l0_s a0 a1 (0 : Int)))) : Option (shDen spec_l07SameMaps_sh)) := by kernel_rfl

theorem spec_l07SameMaps_run (a0 : (List (List Int × (List Int × Unit)))) (a1 : (List (List Int × (List Int × Unit)))) : fnK (spec_l07SameMaps_cx FUEL) 8 16 spec_l07SameMaps_i spec_l07SameMaps_sh [.pv (.slice (.pair .str (.pair .str .unit))) a0, .pv (.slice (.pair .str (.pair .str .unit))) a1] = spec_l07SameMaps_r a0 a1 :=
 (spec_l07SameMaps_start FUEL a0 a1).trans (condC (rfl) ((spec_l07SameMaps_l0_L_eq _ a0 a1 FUEL (0 : Int)).trans (spec_l07SameMaps_l0_congr _ _ _ _ a0 a1 FUEL (0 : Int) (fun _ => (spec_l07SameMaps_l0_ret FUEL  ).trans (rfl)) (fun _ => (spec_l07SameMaps_l0_exit0 FUEL  ).trans (rfl)))))

noncomputable def spec_l07SameMaps_con : Con := { ps := (.pair (.slice (.pair .str (.pair .str .unit))) (.pair (.slice (.pair .str (.pair .str .unit))) .unit)), sh := spec_l07SameMaps_sh, raw := fun x => spec_l07SameMaps_r x.1 x.2.1 }
theorem spec_l07SameMaps_conOk : ConOk Try.prog 16 spec_l07SameMaps_con := con_of_fn (spec_l07SameMaps_tabs FUEL) (depth := 8) spec_l07SameMaps_ok fun x y h => (spec_l07SameMaps_run x.1 x.2.1).trans h

noncomputable def spec_SameMap_inls : List (Nat × Inl) := []
noncomputable def spec_SameMap_cons : List (Nat × Con) := [(16, spec_l07SameMaps_con)]
noncomputable def spec_SameMap_taks : List (Nat × ConT) := []
noncomputable def spec_SameMap_inps : List (Nat × ConI) := []
noncomputable def spec_SameMap_cuts : List (Nat × List (Nat × Cut)) := []
noncomputable def spec_SameMap_cx (k : Nat) : Cx := mkCx tys tbytes telem nozero (Ai.look spec_SameMap_inls) (Ai.look spec_SameMap_cons) (Ai.look spec_SameMap_taks) (Ai.look spec_SameMap_inps) (fun f id => match Ai.look spec_SameMap_cuts f with | some l => Ai.look l id | none => none) k [] false
theorem spec_SameMap_tabs (k : Nat) : TabsOk Try.prog (spec_SameMap_cx k) := ⟨tab_mk tabs_ok _ _ _ _ _ _ _ _, look_all (Q := ConOk Try.prog) _ ⟨spec_l07SameMaps_conOk, trivial⟩, look_all (Q := TakOk Try.prog) _ trivial, look_all (Q := InpOk Try.prog) _ trivial, look_all (Q := InlOk Try.prog) _ trivial, mixed_ok⟩
abbrev spec_SameMap_sh : List Sh := [.pl .bool]
noncomputable def spec_SameMap_r (a0 : (List (List Int × (List Int × Unit)))) (a1 : (List (List Int × (List Int × Unit)))) : Option (shDen spec_SameMap_sh) :=
 (bindO (spec_l07SameMaps_r a0 a1) fun (b1 : Bool) => (some b1))
theorem spec_SameMap_start (k : Nat) (a0 : (List (List Int × (List Int × Unit)))) (a1 : (List (List Int × (List Int × Unit)))) : fnK (spec_SameMap_cx k) 8 8 spec_SameMap_i spec_SameMap_sh [.pv (.slice (.pair .str (.pair .str .unit))) a0, .pv (.slice (.pair .str (.pair .str .unit))) a1] =
 ((bindO (spec_l07SameMaps_r a0 a1) fun (b1 : Bool) => (some b1)) : Option (shDen spec_SameMap_sh)) := by kernel_rfl

theorem spec_SameMap_run (a0 : (List (List Int × (List Int × Unit)))) (a1 : (List (List Int × (List Int × Unit)))) : fnK (spec_SameMap_cx FUEL) 8 8 spec_SameMap_i spec_SameMap_sh [.pv (.slice (.pair .str (.pair .str .unit))) a0, .pv (.slice (.pair .str (.pair .str .unit))) a1] = spec_SameMap_r a0 a1 :=
 (spec_SameMap_start FUEL a0 a1).trans (rfl)

noncomputable def spec_SameMap_con : Con := { ps := (.pair (.slice (.pair .str (.pair .str .unit))) (.pair (.slice (.pair .str (.pair .str .unit))) .unit)), sh := spec_SameMap_sh, raw := fun x => spec_SameMap_r x.1 x.2.1 }
theorem spec_SameMap_conOk : ConOk Try.prog 8 spec_SameMap_con := con_of_fn (spec_SameMap_tabs FUEL) (depth := 8) spec_SameMap_ok fun x y h => (spec_SameMap_run x.1 x.2.1).trans h

noncomputable def spec_l00In_inls : List (Nat × Inl) := []
noncomputable def spec_l00In_cons : List (Nat × Con) := []
noncomputable def spec_l00In_taks : List (Nat × ConT) := []
noncomputable def spec_l00In_inps : List (Nat × ConI) := []
noncomputable def spec_l00In_cuts : List (Nat × List (Nat × Cut)) := []
noncomputable def spec_l00In_cx (k : Nat) : Cx := mkCx tys tbytes telem nozero (Ai.look spec_l00In_inls) (Ai.look spec_l00In_cons) (Ai.look spec_l00In_taks) (Ai.look spec_l00In_inps) (fun f id => match Ai.look spec_l00In_cuts f with | some l => Ai.look l id | none => none) k [] false
theorem spec_l00In_tabs (k : Nat) : TabsOk Try.prog (spec_l00In_cx k) := ⟨tab_mk tabs_ok _ _ _ _ _ _ _ _, look_all (Q := ConOk Try.prog) _ trivial, look_all (Q := TakOk Try.prog) _ trivial, look_all (Q := InpOk Try.prog) _ trivial, look_all (Q := InlOk Try.prog) _ trivial, mixed_ok⟩
abbrev spec_l00In_sh : List Sh := [.pl .bool]
noncomputable def spec_l00In_r (a0 : Int) (a1 : Int) (a2 : Int) : Option (shDen spec_l00In_sh) :=
 (cond (decide (a1 ≤ a0))
 (some (decide (a0 ≤ a2)))
 (some false))
theorem spec_l00In_start (k : Nat) (a0 : Int) (a1 : Int) (a2 : Int) : fnK (spec_l00In_cx k) 8 42 spec_l00In_i spec_l00In_sh [.pv (.int .i64) a0, .pv (.int .i64) a1, .pv (.int .i64) a2] =
 ((cond (decide (a1 ≤ a0))
 (some (decide (a0 ≤ a2)))
 (some false)) : Option (shDen spec_l00In_sh)) := by kernel_rfl

theorem spec_l00In_run (a0 : Int) (a1 : Int) (a2 : Int) : fnK (spec_l00In_cx FUEL) 8 42 spec_l00In_i spec_l00In_sh [.pv (.int .i64) a0, .pv (.int .i64) a1, .pv (.int .i64) a2] = spec_l00In_r a0 a1 a2 :=
 (spec_l00In_start FUEL a0 a1 a2).trans (rfl)

noncomputable def spec_l00In_con : Con := { ps := (.pair (.int .i64) (.pair (.int .i64) (.pair (.int .i64) .unit))), sh := spec_l00In_sh, raw := fun x => spec_l00In_r x.1 x.2.1 x.2.2.1 }
theorem spec_l00In_conOk : ConOk Try.prog 42 spec_l00In_con := con_of_fn (spec_l00In_tabs FUEL) (depth := 8) spec_l00In_ok fun x y h => (spec_l00In_run x.1 x.2.1 x.2.2.1).trans h

noncomputable def spec_l04Name_inls : List (Nat × Inl) := []
noncomputable def spec_l04Name_cons : List (Nat × Con) := [(42, spec_l00In_con)]
noncomputable def spec_l04Name_taks : List (Nat × ConT) := []
noncomputable def spec_l04Name_inps : List (Nat × ConI) := []
noncomputable def spec_l04Name_cuts : List (Nat × List (Nat × Cut)) := []
noncomputable def spec_l04Name_cx (k : Nat) : Cx := mkCx tys tbytes telem nozero (Ai.look spec_l04Name_inls) (Ai.look spec_l04Name_cons) (Ai.look spec_l04Name_taks) (Ai.look spec_l04Name_inps) (fun f id => match Ai.look spec_l04Name_cuts f with | some l => Ai.look l id | none => none) k [] false
theorem spec_l04Name_tabs (k : Nat) : TabsOk Try.prog (spec_l04Name_cx k) := ⟨tab_mk tabs_ok _ _ _ _ _ _ _ _, look_all (Q := ConOk Try.prog) _ ⟨spec_l00In_conOk, trivial⟩, look_all (Q := TakOk Try.prog) _ trivial, look_all (Q := InpOk Try.prog) _ trivial, look_all (Q := InlOk Try.prog) _ trivial, mixed_ok⟩
abbrev spec_l04Name_sh : List Sh := [.pl .bool]
noncomputable def spec_l04Name_r (a0 : List Int) : Option (shDen spec_l04Name_sh) :=
 (bindO (spec_l00In_r (a0.length : Int) (1 : Int) (24 : Int)) fun (b1 : Bool) => (some b1))
theorem spec_l04Name_start (k : Nat) (a0 : List Int) : fnK (spec_l04Name_cx k) 8 33 spec_l04Name_i spec_l04Name_sh [.pv .str a0] =
 ((bindO (spec_l00In_r (a0.length : Int) (1 : Int) (24 : Int)) fun (b1 : Bool) => (some b1)) : Option (shDen spec_l04Name_sh)) := by kernel_rfl

theorem spec_l04Name_run (a0 : List Int) : fnK (spec_l04Name_cx FUEL) 8 33 spec_l04Name_i spec_l04Name_sh [.pv .str a0] = spec_l04Name_r a0 :=
 (spec_l04Name_start FUEL a0).trans (rfl)

noncomputable def spec_l04Name_con : Con := { ps := (.pair .str .unit), sh := spec_l04Name_sh, raw := fun x => spec_l04Name_r x.1 }
theorem spec_l04Name_conOk : ConOk Try.prog 33 spec_l04Name_con := con_of_fn (spec_l04Name_tabs FUEL) (depth := 8) spec_l04Name_ok fun x y h => (spec_l04Name_run x.1).trans h

noncomputable def spec_l04Entry_inls : List (Nat × Inl) := []
noncomputable def spec_l04Entry_cons : List (Nat × Con) := [(33, spec_l04Name_con)]
noncomputable def spec_l04Entry_taks : List (Nat × ConT) := []
noncomputable def spec_l04Entry_inps : List (Nat × ConI) := []
noncomputable def spec_l04Entry_cuts : List (Nat × List (Nat × Cut)) := []
noncomputable def spec_l04Entry_cx (k : Nat) : Cx := mkCx tys tbytes telem nozero (Ai.look spec_l04Entry_inls) (Ai.look spec_l04Entry_cons) (Ai.look spec_l04Entry_taks) (Ai.look spec_l04Entry_inps) (fun f id => match Ai.look spec_l04Entry_cuts f with | some l => Ai.look l id | none => none) k [] false
theorem spec_l04Entry_tabs (k : Nat) : TabsOk Try.prog (spec_l04Entry_cx k) := ⟨tab_mk tabs_ok _ _ _ _ _ _ _ _, look_all (Q := ConOk Try.prog) _ ⟨spec_l04Name_conOk, trivial⟩, look_all (Q := TakOk Try.prog) _ trivial, look_all (Q := InpOk Try.prog) _ trivial, look_all (Q := InlOk Try.prog) _ trivial, mixed_ok⟩
abbrev spec_l04Entry_sh : List Sh := [.pl .bool]
noncomputable def spec_l04Entry_r (a0 : (List Int × (List Int × Unit))) : Option (shDen spec_l04Entry_sh) :=
 (bindO (spec_l04Name_r a0.1) fun (b1 : Bool) => (cond b1
 (some (decide ((a0.2.1.length : Int) ≤ (64 : Int))))
 (some false)))
theorem spec_l04Entry_start (k : Nat) (a0 : (List Int × (List Int × Unit))) : fnK (spec_l04Entry_cx k) 8 24 spec_l04Entry_i spec_l04Entry_sh [.pv (.ref (.pair .str (.pair .str .unit))) a0] =
 ((bindO (spec_l04Name_r a0.1) fun (b1 : Bool) => (cond b1
 (some (decide ((a0.2.1.length : Int) ≤ (64 : Int))))
 (some false))) : Option (shDen spec_l04Entry_sh)) := by kernel_rfl

theorem spec_l04Entry_run (a0 : (List Int × (List Int × Unit))) : fnK (spec_l04Entry_cx FUEL) 8 24 spec_l04Entry_i spec_l04Entry_sh [.pv (.ref (.pair .str (.pair .str .unit))) a0] = spec_l04Entry_r a0 :=
 (spec_l04Entry_start FUEL a0).trans (rfl)

noncomputable def spec_l04Entry_con : Con := { ps := (.pair (.ref (.pair .str (.pair .str .unit))) .unit), sh := spec_l04Entry_sh, raw := fun x => spec_l04Entry_r x.1 }
theorem spec_l04Entry_conOk : ConOk Try.prog 24 spec_l04Entry_con := con_of_fn (spec_l04Entry_tabs FUEL) (depth := 8) spec_l04Entry_ok fun x y h => (spec_l04Entry_run x.1).trans h

noncomputable def spec_l04Ok_l0_cut : Cut := { keep := [0, 3], stk := [], ids := [], own := [], outs := [(0, [2], []), (1, [0], [])] }
noncomputable def spec_l04Ok_inls : List (Nat × Inl) := []
noncomputable def spec_l04Ok_cons : List (Nat × Con) := [(24, spec_l04Entry_con)]
noncomputable def spec_l04Ok_taks : List (Nat × ConT) := []
noncomputable def spec_l04Ok_inps : List (Nat × ConI) := []
noncomputable def spec_l04Ok_cuts : List (Nat × List (Nat × Cut)) := [(17, [(0, spec_l04Ok_l0_cut)])]
noncomputable def spec_l04Ok_cx (k : Nat) : Cx := mkCx tys tbytes telem nozero (Ai.look spec_l04Ok_inls) (Ai.look spec_l04Ok_cons) (Ai.look spec_l04Ok_taks) (Ai.look spec_l04Ok_inps) (fun f id => match Ai.look spec_l04Ok_cuts f with | some l => Ai.look l id | none => none) k [] false
theorem spec_l04Ok_tabs (k : Nat) : TabsOk Try.prog (spec_l04Ok_cx k) := ⟨tab_mk tabs_ok _ _ _ _ _ _ _ _, look_all (Q := ConOk Try.prog) _ ⟨spec_l04Entry_conOk, trivial⟩, look_all (Q := TakOk Try.prog) _ trivial, look_all (Q := InpOk Try.prog) _ trivial, look_all (Q := InlOk Try.prog) _ trivial, mixed_ok⟩
abbrev spec_l04Ok_sh : List Sh := [.pl .bool]
noncomputable def spec_l04Ok_l0_s (a0 : (List (List Int × (List Int × Unit)))) (x3 : Int) : St := { env := [.pv (.slice (.pair .str (.pair .str .unit))) a0, .dead, .dead, .pv (.int .i64) x3, .dead, .dead, .dead, .dead, .dead, .dead, .dead, .dead, .dead, .dead, .dead, .dead, .dead, .dead, .dead, .dead, .dead, .dead, .dead, .dead, .dead, .dead, .dead, .dead, .dead, .dead, .dead, .dead, .dead, .dead, .dead, .dead], stk := [], heap := [] }
noncomputable def spec_l04Ok_l0_o  : St := { env := [.dead, .dead, .pv .bool false, .dead, .dead, .dead, .dead, .dead, .dead, .dead, .dead, .dead, .dead, .dead, .dead, .dead, .dead, .dead, .dead, .dead, .dead, .dead, .dead, .dead, .dead, .dead, .dead, .dead, .dead, .dead, .dead, .dead, .dead, .dead, .dead, .dead], stk := [], heap := [] }
noncomputable def spec_l04Ok_l0_o0 (a0 : (List (List Int × (List Int × Unit)))) : St := { env := [.pv (.slice (.pair .str (.pair .str .unit))) a0, .dead, .dead, .dead, .dead, .dead, .dead, .dead, .dead, .dead, .dead, .dead, .dead, .dead, .dead, .dead, .dead, .dead, .dead, .dead, .dead, .dead, .dead, .dead, .dead, .dead, .dead, .dead, .dead, .dead, .dead, .dead, .dead, .dead, .dead, .dead], stk := [], heap := [] }
noncomputable def spec_l04Ok_l0_b (rec : Int → Option (shDen spec_l04Ok_sh)) (kr : Option (shDen spec_l04Ok_sh)) (ke0 : Option (shDen spec_l04Ok_sh)) (a0 : (List (List Int × (List Int × Unit)))) (x3 : Int) : Option (shDen spec_l04Ok_sh) :=
 (cond (decide (x3 < (a0.length : Int)))
 (cond ((decide ((0 : Int) ≤ x3)) && (decide (x3 < (a0.length : Int))))
 (bindO (spec_l04Entry_r (a0.getD (x3.toNat) ([], ([], ())))) fun (b2 : Bool) => (cond (!b2)
 (kr)
 (cond (decide ((0 : Int) < x3))
 (cond ((decide ((0 : Int) ≤ (IntKind.wrap .i64 (x3 - (1 : Int))))) && (decide ((IntKind.wrap .i64 (x3 - (1 : Int))) < (a0.length : Int))))
 (cond ((decide ((0 : Int) ≤ x3)) && (decide (x3 < (a0.length : Int))))
 (cond (!(ltI ((a0.getD ((IntKind.wrap .i64 (x3 - (1 : Int))).toNat) ([], ([], ()))).1) ((a0.getD (x3.toNat) ([], ([], ()))).1)))
 (kr)
 (rec (IntKind.wrap .i64 (x3 + (1 : Int)))))
 none)
 none)
 (rec (IntKind.wrap .i64 (x3 + (1 : Int)))))))
 none)
 (ke0))
noncomputable def spec_l04Ok_l0_L (kr : Option (shDen spec_l04Ok_sh)) (ke0 : Option (shDen spec_l04Ok_sh)) (a0 : (List (List Int × (List Int × Unit)))) : Nat → Int → Option (shDen spec_l04Ok_sh)
 | 0 => fun _ => none
 | n + 1 => spec_l04Ok_l0_b (spec_l04Ok_l0_L kr ke0 a0 n) kr ke0 a0
noncomputable def spec_l04Ok_r (a0 : (List (List Int × (List Int × Unit)))) : Option (shDen spec_l04Ok_sh) :=
 (spec_l04Ok_l0_L (some false) (some (decide ((a0.length : Int) ≤ (64 : Int)))) a0 FUEL (0 : Int))
theorem spec_l04Ok_l0_round (k : Nat) (K : Ex → St → Option (shDen spec_l04Ok_sh)) (n : Nat) (a0 : (List (List Int × (List Int × Unit)))) (x3 : Int) : (loopK (spec_l04Ok_cx k) 0 (execK (spec_l04Ok_cx k) (callK (spec_l04Ok_cx k) 8) 0 17 (sub spec_l04Ok_c [1, 0, 1, 0, 0])) spec_l04Ok_l0_cut K (n + 1) (spec_l04Ok_l0_s a0 x3) : Option (shDen spec_l04Ok_sh)) =
 ((cond (decide (x3 < (a0.length : Int)))
 (cond ((decide ((0 : Int) ≤ x3)) && (decide (x3 < (a0.length : Int))))
 (bindO (spec_l04Entry_r (a0.getD (x3.toNat) ([], ([], ())))) fun (b2 : Bool) => (cond (!b2)
 (K .ret (spec_l04Ok_l0_o ))
 (cond (decide ((0 : Int) < x3))
 (cond ((decide ((0 : Int) ≤ (IntKind.wrap .i64 (x3 - (1 : Int))))) && (decide ((IntKind.wrap .i64 (x3 - (1 : Int))) < (a0.length : Int))))
 (cond ((decide ((0 : Int) ≤ x3)) && (decide (x3 < (a0.length : Int))))
 (cond (!(ltI ((a0.getD ((IntKind.wrap .i64 (x3 - (1 : Int))).toNat) ([], ([], ()))).1) ((a0.getD (x3.toNat) ([], ([], ()))).1)))
 (K .ret (spec_l04Ok_l0_o ))
 (loopK (spec_l04Ok_cx k) 0 (execK (spec_l04Ok_cx k) (callK (spec_l04Ok_cx k) 8) 0 17 (sub spec_l04Ok_c [1, 0, 1, 0, 0])) spec_l04Ok_l0_cut K n (spec_l04Ok_l0_s a0 (IntKind.wrap .i64 (x3 + (1 : Int))))))
 none)
 none)
 (loopK (spec_l04Ok_cx k) 0 (execK (spec_l04Ok_cx k) (callK (spec_l04Ok_cx k) 8) 0 17 (sub spec_l04Ok_c [1, 0, 1, 0, 0])) spec_l04Ok_l0_cut K n (spec_l04Ok_l0_s a0 (IntKind.wrap .i64 (x3 + (1 : Int))))))))
 none)
 (K (.exit 0) (spec_l04Ok_l0_o0 a0))) : Option (shDen spec_l04Ok_sh)) := by kernel_rfl

theorem spec_l04Ok_l0_ret (k : Nat)   : ((blkK 0 (seqK (execK (spec_l04Ok_cx k) (callK (spec_l04Ok_cx k) 8) 0 17 (sub spec_l04Ok_c [1, 1])) (finK (spec_l04Ok_cx k) spec_l04Ok_i spec_l04Ok_sh))) .ret (spec_l04Ok_l0_o) : Option (shDen spec_l04Ok_sh)) =
 ((some false) : Option (shDen spec_l04Ok_sh)) := by kernel_rfl

theorem spec_l04Ok_l0_exit0 (k : Nat)  (a0 : (List (List Int × (List Int × Unit)))) : ((blkK 0 (seqK (execK (spec_l04Ok_cx k) (callK (spec_l04Ok_cx k) 8) 0 17 (sub spec_l04Ok_c [1, 1])) (finK (spec_l04Ok_cx k) spec_l04Ok_i spec_l04Ok_sh))) (.exit 0) (spec_l04Ok_l0_o0 a0) : Option (shDen spec_l04Ok_sh)) =
 ((some (decide ((a0.length : Int) ≤ (64 : Int)))) : Option (shDen spec_l04Ok_sh)) := by kernel_rfl

theorem spec_l04Ok_l0_congr (kr : Option (shDen spec_l04Ok_sh)) (ke0 : Option (shDen spec_l04Ok_sh)) (kr' : Option (shDen spec_l04Ok_sh)) (ke0' : Option (shDen spec_l04Ok_sh)) (a0 : (List (List Int × (List Int × Unit)))) (n : Nat) (x3 : Int) (hkr : ∀ (_ : Unit), kr  = kr' ) (hke0 : ∀ (_ : Unit), ke0  = ke0' ) : spec_l04Ok_l0_L kr ke0 a0 n x3 = spec_l04Ok_l0_L kr' ke0' a0 n x3 := by
 have : kr = kr' := hkr (); subst this; have : ke0 = ke0' := hke0 (); subst this; rfl

theorem spec_l04Ok_l0_L_eq (K : Ex → St → Option (shDen spec_l04Ok_sh)) (a0 : (List (List Int × (List Int × Unit)))) : ∀ (n : Nat) (x3 : Int), (loopK (spec_l04Ok_cx FUEL) 0 (execK (spec_l04Ok_cx FUEL) (callK (spec_l04Ok_cx FUEL) 8) 0 17 (sub spec_l04Ok_c [1, 0, 1, 0, 0])) spec_l04Ok_l0_cut K n (spec_l04Ok_l0_s a0 x3) : Option (shDen spec_l04Ok_sh)) = spec_l04Ok_l0_L (K .ret (spec_l04Ok_l0_o)) (K (.exit 0) (spec_l04Ok_l0_o0 a0)) a0 n x3 := by
 intro n
 induction n with
 | zero => intros; rfl
 | succ n ih =>
  intro x3
  exact (spec_l04Ok_l0_round FUEL K n a0 x3).trans (condC (condC (bindC (fun b2 => condC (rfl) (condC (condC (condC (condC (rfl) (ih (IntKind.wrap .i64 (x3 + (1 : Int))))) (rfl)) (rfl)) (ih (IntKind.wrap .i64 (x3 + (1 : Int))))))) (rfl)) (rfl))

theorem spec_l04Ok_start (k : Nat) (a0 : (List (List Int × (List Int × Unit)))) : fnK (spec_l04Ok_cx k) 8 17 spec_l04Ok_i spec_l04Ok_sh [.pv (.slice (.pair .str (.pair .str .unit))) a0] =
 ((loopK (spec_l04Ok_cx k) 0 (execK (spec_l04Ok_cx k) (callK (spec_l04Ok_cx k) 8) 0 17 (sub spec_l04Ok_c [1, 0, 1, 0, 0])) spec_l04Ok_l0_cut (blkK 0 (seqK (execK (spec_l04Ok_cx k) (callK (spec_l04Ok_cx k) 8) 0 17 (sub spec_l04Ok_c [1, 1])) (finK (spec_l04Ok_cx k) spec_l04Ok_i spec_l04Ok_sh))) k (spec_l04Ok_l0_s a0 (0 : Int))) : Option (shDen spec_l04Ok_sh)) := by kernel_rfl

theorem spec_l04Ok_run (a0 : (List (List Int × (List Int × Unit)))) : fnK (spec_l04Ok_cx FUEL) 8 17 spec_l04Ok_i spec_l04Ok_sh [.pv (.slice (.pair .str (.pair .str .unit))) a0] = spec_l04Ok_r a0 :=
 (spec_l04Ok_start FUEL a0).trans ((spec_l04Ok_l0_L_eq _ a0 FUEL (0 : Int)).trans (spec_l04Ok_l0_congr _ _ _ _ a0 FUEL (0 : Int) (fun _ => (spec_l04Ok_l0_ret FUEL  ).trans (rfl)) (fun _ => (spec_l04Ok_l0_exit0 FUEL  a0).trans (rfl))))

noncomputable def spec_l04Ok_con : Con := { ps := (.pair (.slice (.pair .str (.pair .str .unit))) .unit), sh := spec_l04Ok_sh, raw := fun x => spec_l04Ok_r x.1 }
theorem spec_l04Ok_conOk : ConOk Try.prog 17 spec_l04Ok_con := con_of_fn (spec_l04Ok_tabs FUEL) (depth := 8) spec_l04Ok_ok fun x y h => (spec_l04Ok_run x.1).trans h

noncomputable def spec_ValidEntries_inls : List (Nat × Inl) := []
noncomputable def spec_ValidEntries_cons : List (Nat × Con) := [(17, spec_l04Ok_con)]
noncomputable def spec_ValidEntries_taks : List (Nat × ConT) := []
noncomputable def spec_ValidEntries_inps : List (Nat × ConI) := []
noncomputable def spec_ValidEntries_cuts : List (Nat × List (Nat × Cut)) := []
noncomputable def spec_ValidEntries_cx (k : Nat) : Cx := mkCx tys tbytes telem nozero (Ai.look spec_ValidEntries_inls) (Ai.look spec_ValidEntries_cons) (Ai.look spec_ValidEntries_taks) (Ai.look spec_ValidEntries_inps) (fun f id => match Ai.look spec_ValidEntries_cuts f with | some l => Ai.look l id | none => none) k [] false
theorem spec_ValidEntries_tabs (k : Nat) : TabsOk Try.prog (spec_ValidEntries_cx k) := ⟨tab_mk tabs_ok _ _ _ _ _ _ _ _, look_all (Q := ConOk Try.prog) _ ⟨spec_l04Ok_conOk, trivial⟩, look_all (Q := TakOk Try.prog) _ trivial, look_all (Q := InpOk Try.prog) _ trivial, look_all (Q := InlOk Try.prog) _ trivial, mixed_ok⟩
abbrev spec_ValidEntries_sh : List Sh := [.pl .bool]
noncomputable def spec_ValidEntries_r (a0 : (List (List Int × (List Int × Unit)))) : Option (shDen spec_ValidEntries_sh) :=
 (bindO (spec_l04Ok_r a0) fun (b1 : Bool) => (some b1))
theorem spec_ValidEntries_start (k : Nat) (a0 : (List (List Int × (List Int × Unit)))) : fnK (spec_ValidEntries_cx k) 8 9 spec_ValidEntries_i spec_ValidEntries_sh [.pv (.slice (.pair .str (.pair .str .unit))) a0] =
 ((bindO (spec_l04Ok_r a0) fun (b1 : Bool) => (some b1)) : Option (shDen spec_ValidEntries_sh)) := by kernel_rfl

theorem spec_ValidEntries_run (a0 : (List (List Int × (List Int × Unit)))) : fnK (spec_ValidEntries_cx FUEL) 8 9 spec_ValidEntries_i spec_ValidEntries_sh [.pv (.slice (.pair .str (.pair .str .unit))) a0] = spec_ValidEntries_r a0 :=
 (spec_ValidEntries_start FUEL a0).trans (rfl)

noncomputable def spec_ValidEntries_con : Con := { ps := (.pair (.slice (.pair .str (.pair .str .unit))) .unit), sh := spec_ValidEntries_sh, raw := fun x => spec_ValidEntries_r x.1 }
theorem spec_ValidEntries_conOk : ConOk Try.prog 9 spec_ValidEntries_con := con_of_fn (spec_ValidEntries_tabs FUEL) (depth := 8) spec_ValidEntries_ok fun x y h => (spec_ValidEntries_run x.1).trans h

end Go.Ai.G
