/- Made by a program of this work out of the program: tables and plain functions, with the proof that each Go function does what its plain function says. No conditions. -/
import Derived.Test.YtnmkmlhllpifgaaExactValidSetupTab
namespace Go.Ai.G
open Go.Proofs
open Go.Ai
set_option linter.unusedVariables false
set_option linter.unusedSimpArgs false
set_option maxRecDepth 100000

noncomputable def laws_szEntry_inls : List (Nat × Inl) := []
noncomputable def laws_szEntry_cons : List (Nat × Con) := []
noncomputable def laws_szEntry_cuts : List (Nat × List (Nat × Cut)) := []
noncomputable def laws_szEntry_cx (k : Nat) : Cx := mkCx tys tbytes telem nozero (Ai.look laws_szEntry_inls) (Ai.look laws_szEntry_cons) (fun f id => match Ai.look laws_szEntry_cuts f with | some l => Ai.look l id | none => none) k
theorem laws_szEntry_tabs (k : Nat) : TabsOk Try.prog (laws_szEntry_cx k) := ⟨tab_mk tabs_ok _ _ _ _, look_all (Q := ConOk Try.prog) _ trivial, look_all (Q := InlOk Try.prog) _ trivial, mixed_ok⟩
abbrev laws_szEntry_sh : List Sh := [.pl (.int .i64)]
noncomputable def laws_szEntry_r (a0 : (List Int × (List Int × Unit))) (a1 : Int) : Option (shDen laws_szEntry_sh) :=
 (cond (decide ((IntKind.wrap .i64 (a1 - (a0.1.length : Int))) < (0 : Int)))
 (some (-1 : Int))
 (cond (decide ((IntKind.wrap .i64 ((IntKind.wrap .i64 (a1 - (a0.1.length : Int))) - (a0.2.1.length : Int))) < (0 : Int)))
 (some (-1 : Int))
 (some (IntKind.wrap .i64 ((IntKind.wrap .i64 (a1 - (a0.1.length : Int))) - (a0.2.1.length : Int))))))
theorem laws_szEntry_start (k : Nat) (a0 : (List Int × (List Int × Unit))) (a1 : Int) : fnK (laws_szEntry_cx k) 8 71 laws_szEntry_i laws_szEntry_sh [.pv (.pair .str (.pair .str .unit)) a0, .pv (.int .i64) a1] =
 ((cond (decide ((IntKind.wrap .i64 (a1 - (a0.1.length : Int))) < (0 : Int)))
 (some (-1 : Int))
 (cond (decide ((IntKind.wrap .i64 ((IntKind.wrap .i64 (a1 - (a0.1.length : Int))) - (a0.2.1.length : Int))) < (0 : Int)))
 (some (-1 : Int))
 (some (IntKind.wrap .i64 ((IntKind.wrap .i64 (a1 - (a0.1.length : Int))) - (a0.2.1.length : Int)))))) : Option (shDen laws_szEntry_sh)) := by kernel_rfl

theorem laws_szEntry_run (a0 : (List Int × (List Int × Unit))) (a1 : Int) : fnK (laws_szEntry_cx FUEL) 8 71 laws_szEntry_i laws_szEntry_sh [.pv (.pair .str (.pair .str .unit)) a0, .pv (.int .i64) a1] = laws_szEntry_r a0 a1 :=
 (laws_szEntry_start FUEL a0 a1).trans (rfl)

noncomputable def laws_szEntry_con : Con := { ps := (.pair (.pair .str (.pair .str .unit)) (.pair (.int .i64) .unit)), sh := laws_szEntry_sh, raw := fun x => laws_szEntry_r x.1 x.2.1 }
theorem laws_szEntry_conOk : ConOk Try.prog 71 laws_szEntry_con := con_of_fn (laws_szEntry_tabs FUEL) (depth := 8) laws_szEntry_ok fun x y h => (laws_szEntry_run x.1 x.2.1).trans h

noncomputable def laws_szEdit_inls : List (Nat × Inl) := []
noncomputable def laws_szEdit_cons : List (Nat × Con) := [(71, laws_szEntry_con)]
noncomputable def laws_szEdit_cuts : List (Nat × List (Nat × Cut)) := []
noncomputable def laws_szEdit_cx (k : Nat) : Cx := mkCx tys tbytes telem nozero (Ai.look laws_szEdit_inls) (Ai.look laws_szEdit_cons) (fun f id => match Ai.look laws_szEdit_cuts f with | some l => Ai.look l id | none => none) k
theorem laws_szEdit_tabs (k : Nat) : TabsOk Try.prog (laws_szEdit_cx k) := ⟨tab_mk tabs_ok _ _ _ _, look_all (Q := ConOk Try.prog) _ ⟨laws_szEntry_conOk, trivial⟩, look_all (Q := InlOk Try.prog) _ trivial, mixed_ok⟩
abbrev laws_szEdit_sh : List Sh := [.pl (.int .i64)]
noncomputable def laws_szEdit_r (a0 : (Int × ((List Int × (List Int × Unit)) × (Bool × Unit)))) (a1 : Int) : Option (shDen laws_szEdit_sh) :=
 (bindO (laws_szEntry_r a0.2.1 a1) fun (b1 : Int) => (cond (decide (b1 < (0 : Int)))
 (some (-1 : Int))
 (some b1)))
theorem laws_szEdit_start (k : Nat) (a0 : (Int × ((List Int × (List Int × Unit)) × (Bool × Unit)))) (a1 : Int) : fnK (laws_szEdit_cx k) 8 55 laws_szEdit_i laws_szEdit_sh [.pv (.pair (.int .i64) (.pair (.pair .str (.pair .str .unit)) (.pair .bool .unit))) a0, .pv (.int .i64) a1] =
 ((bindO (laws_szEntry_r a0.2.1 a1) fun (b1 : Int) => (cond (decide (b1 < (0 : Int)))
 (some (-1 : Int))
 (some b1))) : Option (shDen laws_szEdit_sh)) := by kernel_rfl

theorem laws_szEdit_run (a0 : (Int × ((List Int × (List Int × Unit)) × (Bool × Unit)))) (a1 : Int) : fnK (laws_szEdit_cx FUEL) 8 55 laws_szEdit_i laws_szEdit_sh [.pv (.pair (.int .i64) (.pair (.pair .str (.pair .str .unit)) (.pair .bool .unit))) a0, .pv (.int .i64) a1] = laws_szEdit_r a0 a1 :=
 (laws_szEdit_start FUEL a0 a1).trans (rfl)

noncomputable def laws_szEdit_con : Con := { ps := (.pair (.pair (.int .i64) (.pair (.pair .str (.pair .str .unit)) (.pair .bool .unit))) (.pair (.int .i64) .unit)), sh := laws_szEdit_sh, raw := fun x => laws_szEdit_r x.1 x.2.1 }
theorem laws_szEdit_conOk : ConOk Try.prog 55 laws_szEdit_con := con_of_fn (laws_szEdit_tabs FUEL) (depth := 8) laws_szEdit_ok fun x y h => (laws_szEdit_run x.1 x.2.1).trans h

noncomputable def laws_szEditS_l0_cut : Cut := { keep := [0, 1, 5], stk := [], ids := [], own := [], outs := [(0, [4], []), (1, [1], [])] }
noncomputable def laws_szEditS_inls : List (Nat × Inl) := []
noncomputable def laws_szEditS_cons : List (Nat × Con) := [(55, laws_szEdit_con)]
noncomputable def laws_szEditS_cuts : List (Nat × List (Nat × Cut)) := [(35, [(0, laws_szEditS_l0_cut)])]
noncomputable def laws_szEditS_cx (k : Nat) : Cx := mkCx tys tbytes telem nozero (Ai.look laws_szEditS_inls) (Ai.look laws_szEditS_cons) (fun f id => match Ai.look laws_szEditS_cuts f with | some l => Ai.look l id | none => none) k
theorem laws_szEditS_tabs (k : Nat) : TabsOk Try.prog (laws_szEditS_cx k) := ⟨tab_mk tabs_ok _ _ _ _, look_all (Q := ConOk Try.prog) _ ⟨laws_szEdit_conOk, trivial⟩, look_all (Q := InlOk Try.prog) _ trivial, mixed_ok⟩
abbrev laws_szEditS_sh : List Sh := [.pl (.int .i64)]
noncomputable def laws_szEditS_l0_s (a0 : (List (Int × ((List Int × (List Int × Unit)) × (Bool × Unit))))) (x1 : Int) (x5 : Int) : St := { env := [.pv (.slice (.pair (.int .i64) (.pair (.pair .str (.pair .str .unit)) (.pair .bool .unit)))) a0, .pv (.int .i64) x1, .dead, .dead, .dead, .pv (.int .i64) x5, .dead, .dead, .dead, .dead, .dead, .dead, .dead, .dead, .dead, .dead, .dead, .dead, .dead, .dead, .dead, .dead, .dead, .dead, .dead, .dead, .dead], stk := [], heap := [] }
noncomputable def laws_szEditS_l0_o  : St := { env := [.dead, .dead, .dead, .dead, .pv (.int .i64) (-1 : Int), .dead, .dead, .dead, .dead, .dead, .dead, .dead, .dead, .dead, .dead, .dead, .dead, .dead, .dead, .dead, .dead, .dead, .dead, .dead, .dead, .dead, .dead], stk := [], heap := [] }
noncomputable def laws_szEditS_l0_o0 (x1 : Int) : St := { env := [.dead, .pv (.int .i64) x1, .dead, .dead, .dead, .dead, .dead, .dead, .dead, .dead, .dead, .dead, .dead, .dead, .dead, .dead, .dead, .dead, .dead, .dead, .dead, .dead, .dead, .dead, .dead, .dead, .dead], stk := [], heap := [] }
noncomputable def laws_szEditS_l0_b (rec : Int → Int → Option (shDen laws_szEditS_sh)) (kr : Option (shDen laws_szEditS_sh)) (ke0 : Int → Option (shDen laws_szEditS_sh)) (a0 : (List (Int × ((List Int × (List Int × Unit)) × (Bool × Unit))))) (x1 : Int) (x5 : Int) : Option (shDen laws_szEditS_sh) :=
 (cond (decide (x5 < (a0.length : Int)))
 (cond ((decide ((0 : Int) ≤ x5)) && (decide (x5 < (a0.length : Int))))
 (bindO (laws_szEdit_r (a0.getD (x5.toNat) ((0 : Int), (([], ([], ())), (false, ())))) x1) fun (b2 : Int) => (cond (decide (b2 < (0 : Int)))
 (kr)
 (rec b2 (IntKind.wrap .i64 (x5 + (1 : Int))))))
 none)
 (ke0 x1))
noncomputable def laws_szEditS_l0_L (kr : Option (shDen laws_szEditS_sh)) (ke0 : Int → Option (shDen laws_szEditS_sh)) (a0 : (List (Int × ((List Int × (List Int × Unit)) × (Bool × Unit))))) : Nat → Int → Int → Option (shDen laws_szEditS_sh)
 | 0 => fun _ _ => none
 | n + 1 => laws_szEditS_l0_b (laws_szEditS_l0_L kr ke0 a0 n) kr ke0 a0
noncomputable def laws_szEditS_r (a0 : (List (Int × ((List Int × (List Int × Unit)) × (Bool × Unit))))) (a1 : Int) : Option (shDen laws_szEditS_sh) :=
 (cond (decide ((IntKind.wrap .i64 (a1 - (a0.length : Int))) < (0 : Int)))
 (some (-1 : Int))
 (laws_szEditS_l0_L (some (-1 : Int)) (fun x1 => (some x1)) a0 FUEL (IntKind.wrap .i64 (a1 - (a0.length : Int))) (0 : Int)))
theorem laws_szEditS_l0_round (k : Nat) (K : Ex → St → Option (shDen laws_szEditS_sh)) (n : Nat) (a0 : (List (Int × ((List Int × (List Int × Unit)) × (Bool × Unit))))) (x1 : Int) (x5 : Int) : (loopK (laws_szEditS_cx k) 0 (execK (laws_szEditS_cx k) (callK (laws_szEditS_cx k) 8) 0 35 (sub laws_szEditS_c [1, 1, 1, 0, 1, 0, 0])) laws_szEditS_l0_cut K (n + 1) (laws_szEditS_l0_s a0 x1 x5) : Option (shDen laws_szEditS_sh)) =
 ((cond (decide (x5 < (a0.length : Int)))
 (cond ((decide ((0 : Int) ≤ x5)) && (decide (x5 < (a0.length : Int))))
 (bindO (laws_szEdit_r (a0.getD (x5.toNat) ((0 : Int), (([], ([], ())), (false, ())))) x1) fun (b2 : Int) => (cond (decide (b2 < (0 : Int)))
 (K .ret (laws_szEditS_l0_o ))
 (loopK (laws_szEditS_cx k) 0 (execK (laws_szEditS_cx k) (callK (laws_szEditS_cx k) 8) 0 35 (sub laws_szEditS_c [1, 1, 1, 0, 1, 0, 0])) laws_szEditS_l0_cut K n (laws_szEditS_l0_s a0 b2 (IntKind.wrap .i64 (x5 + (1 : Int)))))))
 none)
 (K (.exit 0) (laws_szEditS_l0_o0 x1))) : Option (shDen laws_szEditS_sh)) := by kernel_rfl

theorem laws_szEditS_l0_ret (k : Nat)   : ((blkK 0 (seqK (execK (laws_szEditS_cx k) (callK (laws_szEditS_cx k) 8) 0 35 (sub laws_szEditS_c [1, 1, 1, 1])) (finK (laws_szEditS_cx k) laws_szEditS_i laws_szEditS_sh))) .ret (laws_szEditS_l0_o) : Option (shDen laws_szEditS_sh)) =
 ((some (-1 : Int)) : Option (shDen laws_szEditS_sh)) := by kernel_rfl

theorem laws_szEditS_l0_exit0 (k : Nat)  (x1 : Int) : ((blkK 0 (seqK (execK (laws_szEditS_cx k) (callK (laws_szEditS_cx k) 8) 0 35 (sub laws_szEditS_c [1, 1, 1, 1])) (finK (laws_szEditS_cx k) laws_szEditS_i laws_szEditS_sh))) (.exit 0) (laws_szEditS_l0_o0 x1) : Option (shDen laws_szEditS_sh)) =
 ((some x1) : Option (shDen laws_szEditS_sh)) := by kernel_rfl

theorem laws_szEditS_l0_congr (kr : Option (shDen laws_szEditS_sh)) (ke0 : Int → Option (shDen laws_szEditS_sh)) (kr' : Option (shDen laws_szEditS_sh)) (ke0' : Int → Option (shDen laws_szEditS_sh)) (a0 : (List (Int × ((List Int × (List Int × Unit)) × (Bool × Unit))))) (n : Nat) (x1 : Int) (x5 : Int) (hkr : ∀ (_ : Unit), kr  = kr' ) (hke0 : ∀ x1, ke0 x1 = ke0' x1) : laws_szEditS_l0_L kr ke0 a0 n x1 x5 = laws_szEditS_l0_L kr' ke0' a0 n x1 x5 := by
 have : kr = kr' := hkr (); subst this; have : ke0 = ke0' := (by funext x1; exact hke0 x1); subst this; rfl

theorem laws_szEditS_l0_L_eq (K : Ex → St → Option (shDen laws_szEditS_sh)) (a0 : (List (Int × ((List Int × (List Int × Unit)) × (Bool × Unit))))) : ∀ (n : Nat) (x1 : Int) (x5 : Int), (loopK (laws_szEditS_cx FUEL) 0 (execK (laws_szEditS_cx FUEL) (callK (laws_szEditS_cx FUEL) 8) 0 35 (sub laws_szEditS_c [1, 1, 1, 0, 1, 0, 0])) laws_szEditS_l0_cut K n (laws_szEditS_l0_s a0 x1 x5) : Option (shDen laws_szEditS_sh)) = laws_szEditS_l0_L (K .ret (laws_szEditS_l0_o)) (fun x1 => K (.exit 0) (laws_szEditS_l0_o0 x1)) a0 n x1 x5 := by
 intro n
 induction n with
 | zero => intros; rfl
 | succ n ih =>
  intro x1 x5
  exact (laws_szEditS_l0_round FUEL K n a0 x1 x5).trans (condC (condC (bindC (fun b2 => condC (rfl) (ih b2 (IntKind.wrap .i64 (x5 + (1 : Int)))))) (rfl)) (rfl))

theorem laws_szEditS_start (k : Nat) (a0 : (List (Int × ((List Int × (List Int × Unit)) × (Bool × Unit))))) (a1 : Int) : fnK (laws_szEditS_cx k) 8 35 laws_szEditS_i laws_szEditS_sh [.pv (.slice (.pair (.int .i64) (.pair (.pair .str (.pair .str .unit)) (.pair .bool .unit)))) a0, .pv (.int .i64) a1] =
 ((cond (decide ((IntKind.wrap .i64 (a1 - (a0.length : Int))) < (0 : Int)))
 (some (-1 : Int))
 (loopK (laws_szEditS_cx k) 0 (execK (laws_szEditS_cx k) (callK (laws_szEditS_cx k) 8) 0 35 (sub laws_szEditS_c [1, 1, 1, 0, 1, 0, 0])) laws_szEditS_l0_cut (blkK 0 (seqK (execK (laws_szEditS_cx k) (callK (laws_szEditS_cx k) 8) 0 35 (sub laws_szEditS_c [1, 1, 1, 1])) (finK (laws_szEditS_cx k) laws_szEditS_i laws_szEditS_sh))) k (laws_szEditS_l0_s a0 (IntKind.wrap .i64 (a1 - (a0.length : Int))) (0 : Int)))) : Option (shDen laws_szEditS_sh)) := by kernel_rfl

theorem laws_szEditS_run (a0 : (List (Int × ((List Int × (List Int × Unit)) × (Bool × Unit))))) (a1 : Int) : fnK (laws_szEditS_cx FUEL) 8 35 laws_szEditS_i laws_szEditS_sh [.pv (.slice (.pair (.int .i64) (.pair (.pair .str (.pair .str .unit)) (.pair .bool .unit)))) a0, .pv (.int .i64) a1] = laws_szEditS_r a0 a1 :=
 (laws_szEditS_start FUEL a0 a1).trans (condC (rfl) ((laws_szEditS_l0_L_eq _ a0 FUEL (IntKind.wrap .i64 (a1 - (a0.length : Int))) (0 : Int)).trans (laws_szEditS_l0_congr _ _ _ _ a0 FUEL (IntKind.wrap .i64 (a1 - (a0.length : Int))) (0 : Int) (fun _ => (laws_szEditS_l0_ret FUEL  ).trans (rfl)) (fun x1 => (laws_szEditS_l0_exit0 FUEL  x1).trans (rfl)))))

noncomputable def laws_szEditS_con : Con := { ps := (.pair (.slice (.pair (.int .i64) (.pair (.pair .str (.pair .str .unit)) (.pair .bool .unit)))) (.pair (.int .i64) .unit)), sh := laws_szEditS_sh, raw := fun x => laws_szEditS_r x.1 x.2.1 }
theorem laws_szEditS_conOk : ConOk Try.prog 35 laws_szEditS_con := con_of_fn (laws_szEditS_tabs FUEL) (depth := 8) laws_szEditS_ok fun x y h => (laws_szEditS_run x.1 x.2.1).trans h

noncomputable def laws_szSetup_inls : List (Nat × Inl) := []
noncomputable def laws_szSetup_cons : List (Nat × Con) := [(35, laws_szEditS_con)]
noncomputable def laws_szSetup_cuts : List (Nat × List (Nat × Cut)) := []
noncomputable def laws_szSetup_cx (k : Nat) : Cx := mkCx tys tbytes telem nozero (Ai.look laws_szSetup_inls) (Ai.look laws_szSetup_cons) (fun f id => match Ai.look laws_szSetup_cuts f with | some l => Ai.look l id | none => none) k
theorem laws_szSetup_tabs (k : Nat) : TabsOk Try.prog (laws_szSetup_cx k) := ⟨tab_mk tabs_ok _ _ _ _, look_all (Q := ConOk Try.prog) _ ⟨laws_szEditS_conOk, trivial⟩, look_all (Q := InlOk Try.prog) _ trivial, mixed_ok⟩
abbrev laws_szSetup_sh : List Sh := [.pl (.int .i64)]
noncomputable def laws_szSetup_r (a0 : (Int × ((List (Int × ((List Int × (List Int × Unit)) × (Bool × Unit)))) × Unit))) (a1 : Int) : Option (shDen laws_szSetup_sh) :=
 (bindO (laws_szEditS_r a0.2.1 a1) fun (b1 : Int) => (cond (decide (b1 < (0 : Int)))
 (some (-1 : Int))
 (some b1)))
theorem laws_szSetup_start (k : Nat) (a0 : (Int × ((List (Int × ((List Int × (List Int × Unit)) × (Bool × Unit)))) × Unit))) (a1 : Int) : fnK (laws_szSetup_cx k) 8 15 laws_szSetup_i laws_szSetup_sh [.pv (.pair (.int .i64) (.pair (.slice (.pair (.int .i64) (.pair (.pair .str (.pair .str .unit)) (.pair .bool .unit)))) .unit)) a0, .pv (.int .i64) a1] =
 ((bindO (laws_szEditS_r a0.2.1 a1) fun (b1 : Int) => (cond (decide (b1 < (0 : Int)))
 (some (-1 : Int))
 (some b1))) : Option (shDen laws_szSetup_sh)) := by kernel_rfl

theorem laws_szSetup_run (a0 : (Int × ((List (Int × ((List Int × (List Int × Unit)) × (Bool × Unit)))) × Unit))) (a1 : Int) : fnK (laws_szSetup_cx FUEL) 8 15 laws_szSetup_i laws_szSetup_sh [.pv (.pair (.int .i64) (.pair (.slice (.pair (.int .i64) (.pair (.pair .str (.pair .str .unit)) (.pair .bool .unit)))) .unit)) a0, .pv (.int .i64) a1] = laws_szSetup_r a0 a1 :=
 (laws_szSetup_start FUEL a0 a1).trans (rfl)

noncomputable def laws_szSetup_con : Con := { ps := (.pair (.pair (.int .i64) (.pair (.slice (.pair (.int .i64) (.pair (.pair .str (.pair .str .unit)) (.pair .bool .unit)))) .unit)) (.pair (.int .i64) .unit)), sh := laws_szSetup_sh, raw := fun x => laws_szSetup_r x.1 x.2.1 }
theorem laws_szSetup_conOk : ConOk Try.prog 15 laws_szSetup_con := con_of_fn (laws_szSetup_tabs FUEL) (depth := 8) laws_szSetup_ok fun x y h => (laws_szSetup_run x.1 x.2.1).trans h

noncomputable def laws_toEntry_inls : List (Nat × Inl) := []
noncomputable def laws_toEntry_cons : List (Nat × Con) := []
noncomputable def laws_toEntry_cuts : List (Nat × List (Nat × Cut)) := []
noncomputable def laws_toEntry_cx (k : Nat) : Cx := mkCx tys tbytes telem nozero (Ai.look laws_toEntry_inls) (Ai.look laws_toEntry_cons) (fun f id => match Ai.look laws_toEntry_cuts f with | some l => Ai.look l id | none => none) k
theorem laws_toEntry_tabs (k : Nat) : TabsOk Try.prog (laws_toEntry_cx k) := ⟨tab_mk tabs_ok _ _ _ _, look_all (Q := ConOk Try.prog) _ trivial, look_all (Q := InlOk Try.prog) _ trivial, mixed_ok⟩
abbrev laws_toEntry_sh : List Sh := [.pl (.pair .str (.pair .str .unit))]
noncomputable def laws_toEntry_r (a0 : (List Int × (List Int × Unit))) : Option (shDen laws_toEntry_sh) :=
 (some (a0.1, (a0.2.1, ())))
theorem laws_toEntry_start (k : Nat) (a0 : (List Int × (List Int × Unit))) : fnK (laws_toEntry_cx k) 8 73 laws_toEntry_i laws_toEntry_sh [.pv (.pair .str (.pair .str .unit)) a0] =
 ((some (a0.1, (a0.2.1, ()))) : Option (shDen laws_toEntry_sh)) := by kernel_rfl

theorem laws_toEntry_run (a0 : (List Int × (List Int × Unit))) : fnK (laws_toEntry_cx FUEL) 8 73 laws_toEntry_i laws_toEntry_sh [.pv (.pair .str (.pair .str .unit)) a0] = laws_toEntry_r a0 :=
 (laws_toEntry_start FUEL a0).trans (rfl)

noncomputable def laws_toEntry_con : Con := { ps := (.pair (.pair .str (.pair .str .unit)) .unit), sh := laws_toEntry_sh, raw := fun x => laws_toEntry_r x.1 }
theorem laws_toEntry_conOk : ConOk Try.prog 73 laws_toEntry_con := con_of_fn (laws_toEntry_tabs FUEL) (depth := 8) laws_toEntry_ok fun x y h => (laws_toEntry_run x.1).trans h

noncomputable def laws_toEdit_inls : List (Nat × Inl) := []
noncomputable def laws_toEdit_cons : List (Nat × Con) := [(73, laws_toEntry_con)]
noncomputable def laws_toEdit_cuts : List (Nat × List (Nat × Cut)) := []
noncomputable def laws_toEdit_cx (k : Nat) : Cx := mkCx tys tbytes telem nozero (Ai.look laws_toEdit_inls) (Ai.look laws_toEdit_cons) (fun f id => match Ai.look laws_toEdit_cuts f with | some l => Ai.look l id | none => none) k
theorem laws_toEdit_tabs (k : Nat) : TabsOk Try.prog (laws_toEdit_cx k) := ⟨tab_mk tabs_ok _ _ _ _, look_all (Q := ConOk Try.prog) _ ⟨laws_toEntry_conOk, trivial⟩, look_all (Q := InlOk Try.prog) _ trivial, mixed_ok⟩
abbrev laws_toEdit_sh : List Sh := [.pl (.pair (.int .i64) (.pair (.pair .str (.pair .str .unit)) (.pair .bool .unit)))]
noncomputable def laws_toEdit_r (a0 : (Int × ((List Int × (List Int × Unit)) × (Bool × Unit)))) : Option (shDen laws_toEdit_sh) :=
 (bindO (laws_toEntry_r a0.2.1) fun (b1 : (List Int × (List Int × Unit))) => (some (a0.1, (b1, (a0.2.2.1, ())))))
theorem laws_toEdit_start (k : Nat) (a0 : (Int × ((List Int × (List Int × Unit)) × (Bool × Unit)))) : fnK (laws_toEdit_cx k) 8 57 laws_toEdit_i laws_toEdit_sh [.pv (.pair (.int .i64) (.pair (.pair .str (.pair .str .unit)) (.pair .bool .unit))) a0] =
 ((bindO (laws_toEntry_r a0.2.1) fun (b1 : (List Int × (List Int × Unit))) => (some (a0.1, (b1, (a0.2.2.1, ()))))) : Option (shDen laws_toEdit_sh)) := by kernel_rfl

theorem laws_toEdit_run (a0 : (Int × ((List Int × (List Int × Unit)) × (Bool × Unit)))) : fnK (laws_toEdit_cx FUEL) 8 57 laws_toEdit_i laws_toEdit_sh [.pv (.pair (.int .i64) (.pair (.pair .str (.pair .str .unit)) (.pair .bool .unit))) a0] = laws_toEdit_r a0 :=
 (laws_toEdit_start FUEL a0).trans (rfl)

noncomputable def laws_toEdit_con : Con := { ps := (.pair (.pair (.int .i64) (.pair (.pair .str (.pair .str .unit)) (.pair .bool .unit))) .unit), sh := laws_toEdit_sh, raw := fun x => laws_toEdit_r x.1 }
theorem laws_toEdit_conOk : ConOk Try.prog 57 laws_toEdit_con := con_of_fn (laws_toEdit_tabs FUEL) (depth := 8) laws_toEdit_ok fun x y h => (laws_toEdit_run x.1).trans h

noncomputable def laws_toEditS_l0_cut : Cut := { keep := [0, 3, 4], stk := [], ids := [70], own := [], outs := [(1, [3], [70])] }
noncomputable def laws_toEditS_inls : List (Nat × Inl) := []
noncomputable def laws_toEditS_cons : List (Nat × Con) := [(57, laws_toEdit_con)]
noncomputable def laws_toEditS_cuts : List (Nat × List (Nat × Cut)) := [(37, [(0, laws_toEditS_l0_cut)])]
noncomputable def laws_toEditS_cx (k : Nat) : Cx := mkCx tys tbytes telem nozero (Ai.look laws_toEditS_inls) (Ai.look laws_toEditS_cons) (fun f id => match Ai.look laws_toEditS_cuts f with | some l => Ai.look l id | none => none) k
theorem laws_toEditS_tabs (k : Nat) : TabsOk Try.prog (laws_toEditS_cx k) := ⟨tab_mk tabs_ok _ _ _ _, look_all (Q := ConOk Try.prog) _ ⟨laws_toEdit_conOk, trivial⟩, look_all (Q := InlOk Try.prog) _ trivial, mixed_ok⟩
abbrev laws_toEditS_sh : List Sh := [.own 80 (.pair (.int .i64) (.pair (.pair .str (.pair .str .unit)) (.pair .bool .unit)))]
noncomputable def laws_toEditS_l0_s (a0 : (List (Int × ((List Int × (List Int × Unit)) × (Bool × Unit))))) (x4 : Int) (z70 : (List (Int × ((List Int × (List Int × Unit)) × (Bool × Unit))))) : St := { env := [.pv (.slice (.pair (.int .i64) (.pair (.pair .str (.pair .str .unit)) (.pair .bool .unit)))) a0, .dead, .dead, .sl 70 (.pair (.int .i64) (.pair (.pair .str (.pair .str .unit)) (.pair .bool .unit))), .pv (.int .i64) x4, .dead, .dead, .dead, .dead, .dead, .dead, .dead, .dead, .dead, .dead, .dead, .dead, .dead, .dead, .dead, .dead, .dead, .dead], stk := [], heap := [(70, .arr 80 (.pair (.int .i64) (.pair (.pair .str (.pair .str .unit)) (.pair .bool .unit))) z70)] }
noncomputable def laws_toEditS_l0_o0 (z70 : (List (Int × ((List Int × (List Int × Unit)) × (Bool × Unit))))) : St := { env := [.dead, .dead, .dead, .sl 70 (.pair (.int .i64) (.pair (.pair .str (.pair .str .unit)) (.pair .bool .unit))), .dead, .dead, .dead, .dead, .dead, .dead, .dead, .dead, .dead, .dead, .dead, .dead, .dead, .dead, .dead, .dead, .dead, .dead, .dead], stk := [], heap := [(70, .arr 80 (.pair (.int .i64) (.pair (.pair .str (.pair .str .unit)) (.pair .bool .unit))) z70)] }
noncomputable def laws_toEditS_l0_b (rec : Int → (List (Int × ((List Int × (List Int × Unit)) × (Bool × Unit)))) → Option (shDen laws_toEditS_sh)) (ke0 : (List (Int × ((List Int × (List Int × Unit)) × (Bool × Unit)))) → Option (shDen laws_toEditS_sh)) (a0 : (List (Int × ((List Int × (List Int × Unit)) × (Bool × Unit))))) (x4 : Int) (z70 : (List (Int × ((List Int × (List Int × Unit)) × (Bool × Unit))))) : Option (shDen laws_toEditS_sh) :=
 (cond (decide (x4 < (a0.length : Int)))
 (cond ((decide ((0 : Int) ≤ x4)) && (decide (x4 < (a0.length : Int))))
 (bindO (laws_toEdit_r (a0.getD (x4.toNat) ((0 : Int), (([], ([], ())), (false, ()))))) fun (b2 : (Int × ((List Int × (List Int × Unit)) × (Bool × Unit)))) => (cond ((decide ((0 : Int) ≤ x4)) && (decide (x4 < (z70.length : Int))))
 (rec (IntKind.wrap .i64 (x4 + (1 : Int))) (z70.set (x4.toNat) b2))
 none))
 none)
 (ke0 z70))
noncomputable def laws_toEditS_l0_L (ke0 : (List (Int × ((List Int × (List Int × Unit)) × (Bool × Unit)))) → Option (shDen laws_toEditS_sh)) (a0 : (List (Int × ((List Int × (List Int × Unit)) × (Bool × Unit))))) : Nat → Int → (List (Int × ((List Int × (List Int × Unit)) × (Bool × Unit)))) → Option (shDen laws_toEditS_sh)
 | 0 => fun _ _ => none
 | n + 1 => laws_toEditS_l0_b (laws_toEditS_l0_L ke0 a0 n) ke0 a0
noncomputable def laws_toEditS_r (a0 : (List (Int × ((List Int × (List Int × Unit)) × (Bool × Unit))))) : Option (shDen laws_toEditS_sh) :=
 (cond (((decide ((0 : Int) ≤ (a0.length : Int))) && (decide (((a0.length : Int) * (48 : Int)) ≤ (140737488355328 : Int)))) && (decide ((a0.length : Int) ≤ (9223372036854775807 : Int))))
 (laws_toEditS_l0_L (fun z70 => (some z70)) a0 FUEL (0 : Int) (List.replicate ((a0.length : Int).toNat) ((0 : Int), (([], ([], ())), (false, ())))))
 none)
theorem laws_toEditS_l0_round (k : Nat) (K : Ex → St → Option (shDen laws_toEditS_sh)) (n : Nat) (a0 : (List (Int × ((List Int × (List Int × Unit)) × (Bool × Unit))))) (x4 : Int) (z70 : (List (Int × ((List Int × (List Int × Unit)) × (Bool × Unit))))) : (loopK (laws_toEditS_cx k) 0 (execK (laws_toEditS_cx k) (callK (laws_toEditS_cx k) 8) 0 37 (sub laws_toEditS_c [1, 1, 0, 1, 0, 0])) laws_toEditS_l0_cut K (n + 1) (laws_toEditS_l0_s a0 x4 z70) : Option (shDen laws_toEditS_sh)) =
 ((cond (decide (x4 < (a0.length : Int)))
 (cond ((decide ((0 : Int) ≤ x4)) && (decide (x4 < (a0.length : Int))))
 (bindO (laws_toEdit_r (a0.getD (x4.toNat) ((0 : Int), (([], ([], ())), (false, ()))))) fun (b2 : (Int × ((List Int × (List Int × Unit)) × (Bool × Unit)))) => (cond ((decide ((0 : Int) ≤ x4)) && (decide (x4 < (z70.length : Int))))
 (loopK (laws_toEditS_cx k) 0 (execK (laws_toEditS_cx k) (callK (laws_toEditS_cx k) 8) 0 37 (sub laws_toEditS_c [1, 1, 0, 1, 0, 0])) laws_toEditS_l0_cut K n (laws_toEditS_l0_s a0 (IntKind.wrap .i64 (x4 + (1 : Int))) (z70.set (x4.toNat) b2)))
 none))
 none)
 (K (.exit 0) (laws_toEditS_l0_o0 z70))) : Option (shDen laws_toEditS_sh)) := by kernel_rfl

theorem laws_toEditS_l0_exit0 (k : Nat)  (z70 : (List (Int × ((List Int × (List Int × Unit)) × (Bool × Unit))))) : ((blkK 0 (seqK (execK (laws_toEditS_cx k) (callK (laws_toEditS_cx k) 8) 0 37 (sub laws_toEditS_c [1, 1, 1])) (finK (laws_toEditS_cx k) laws_toEditS_i laws_toEditS_sh))) (.exit 0) (laws_toEditS_l0_o0 z70) : Option (shDen laws_toEditS_sh)) =
 ((some z70) : Option (shDen laws_toEditS_sh)) := by kernel_rfl

theorem laws_toEditS_l0_congr (ke0 : (List (Int × ((List Int × (List Int × Unit)) × (Bool × Unit)))) → Option (shDen laws_toEditS_sh)) (ke0' : (List (Int × ((List Int × (List Int × Unit)) × (Bool × Unit)))) → Option (shDen laws_toEditS_sh)) (a0 : (List (Int × ((List Int × (List Int × Unit)) × (Bool × Unit))))) (n : Nat) (x4 : Int) (z70 : (List (Int × ((List Int × (List Int × Unit)) × (Bool × Unit))))) (hke0 : ∀ z70, ke0 z70 = ke0' z70) : laws_toEditS_l0_L ke0 a0 n x4 z70 = laws_toEditS_l0_L ke0' a0 n x4 z70 := by
 have : ke0 = ke0' := (by funext z70; exact hke0 z70); subst this; rfl

theorem laws_toEditS_l0_L_eq (K : Ex → St → Option (shDen laws_toEditS_sh)) (a0 : (List (Int × ((List Int × (List Int × Unit)) × (Bool × Unit))))) : ∀ (n : Nat) (x4 : Int) (z70 : (List (Int × ((List Int × (List Int × Unit)) × (Bool × Unit))))), (loopK (laws_toEditS_cx FUEL) 0 (execK (laws_toEditS_cx FUEL) (callK (laws_toEditS_cx FUEL) 8) 0 37 (sub laws_toEditS_c [1, 1, 0, 1, 0, 0])) laws_toEditS_l0_cut K n (laws_toEditS_l0_s a0 x4 z70) : Option (shDen laws_toEditS_sh)) = laws_toEditS_l0_L (fun z70 => K (.exit 0) (laws_toEditS_l0_o0 z70)) a0 n x4 z70 := by
 intro n
 induction n with
 | zero => intros; rfl
 | succ n ih =>
  intro x4 z70
  exact (laws_toEditS_l0_round FUEL K n a0 x4 z70).trans (condC (condC (bindC (fun b2 => condC (ih (IntKind.wrap .i64 (x4 + (1 : Int))) (z70.set (x4.toNat) b2)) (rfl))) (rfl)) (rfl))

theorem laws_toEditS_start (k : Nat) (a0 : (List (Int × ((List Int × (List Int × Unit)) × (Bool × Unit))))) : fnK (laws_toEditS_cx k) 8 37 laws_toEditS_i laws_toEditS_sh [.pv (.slice (.pair (.int .i64) (.pair (.pair .str (.pair .str .unit)) (.pair .bool .unit)))) a0] =
 ((cond (((decide ((0 : Int) ≤ (a0.length : Int))) && (decide (((a0.length : Int) * (48 : Int)) ≤ (140737488355328 : Int)))) && (decide ((a0.length : Int) ≤ (9223372036854775807 : Int))))
 (loopK (laws_toEditS_cx k) 0 (execK (laws_toEditS_cx k) (callK (laws_toEditS_cx k) 8) 0 37 (sub laws_toEditS_c [1, 1, 0, 1, 0, 0])) laws_toEditS_l0_cut (blkK 0 (seqK (execK (laws_toEditS_cx k) (callK (laws_toEditS_cx k) 8) 0 37 (sub laws_toEditS_c [1, 1, 1])) (finK (laws_toEditS_cx k) laws_toEditS_i laws_toEditS_sh))) k (laws_toEditS_l0_s a0 (0 : Int) (List.replicate ((a0.length : Int).toNat) ((0 : Int), (([], ([], ())), (false, ()))))))
 none) : Option (shDen laws_toEditS_sh)) := by kernel_rfl

theorem laws_toEditS_run (a0 : (List (Int × ((List Int × (List Int × Unit)) × (Bool × Unit))))) : fnK (laws_toEditS_cx FUEL) 8 37 laws_toEditS_i laws_toEditS_sh [.pv (.slice (.pair (.int .i64) (.pair (.pair .str (.pair .str .unit)) (.pair .bool .unit)))) a0] = laws_toEditS_r a0 :=
 (laws_toEditS_start FUEL a0).trans (condC ((laws_toEditS_l0_L_eq _ a0 FUEL (0 : Int) (List.replicate ((a0.length : Int).toNat) ((0 : Int), (([], ([], ())), (false, ()))))).trans (laws_toEditS_l0_congr _ _ a0 FUEL (0 : Int) (List.replicate ((a0.length : Int).toNat) ((0 : Int), (([], ([], ())), (false, ())))) (fun z70 => (laws_toEditS_l0_exit0 FUEL  z70).trans (rfl)))) (rfl))

noncomputable def laws_toEditS_con : Con := { ps := (.pair (.slice (.pair (.int .i64) (.pair (.pair .str (.pair .str .unit)) (.pair .bool .unit)))) .unit), sh := laws_toEditS_sh, raw := fun x => laws_toEditS_r x.1 }
theorem laws_toEditS_conOk : ConOk Try.prog 37 laws_toEditS_con := con_of_fn (laws_toEditS_tabs FUEL) (depth := 8) laws_toEditS_ok fun x y h => (laws_toEditS_run x.1).trans h

noncomputable def laws_toSetup_inls : List (Nat × Inl) := []
noncomputable def laws_toSetup_cons : List (Nat × Con) := [(37, laws_toEditS_con)]
noncomputable def laws_toSetup_cuts : List (Nat × List (Nat × Cut)) := []
noncomputable def laws_toSetup_cx (k : Nat) : Cx := mkCx tys tbytes telem nozero (Ai.look laws_toSetup_inls) (Ai.look laws_toSetup_cons) (fun f id => match Ai.look laws_toSetup_cuts f with | some l => Ai.look l id | none => none) k
theorem laws_toSetup_tabs (k : Nat) : TabsOk Try.prog (laws_toSetup_cx k) := ⟨tab_mk tabs_ok _ _ _ _, look_all (Q := ConOk Try.prog) _ ⟨laws_toEditS_conOk, trivial⟩, look_all (Q := InlOk Try.prog) _ trivial, mixed_ok⟩
abbrev laws_toSetup_sh : List Sh := [.pl (.pair (.int .i64) (.pair (.slice (.pair (.int .i64) (.pair (.pair .str (.pair .str .unit)) (.pair .bool .unit)))) .unit))]
noncomputable def laws_toSetup_r (a0 : (Int × ((List (Int × ((List Int × (List Int × Unit)) × (Bool × Unit)))) × Unit))) : Option (shDen laws_toSetup_sh) :=
 (bindO (laws_toEditS_r a0.2.1) fun (b1 : (List (Int × ((List Int × (List Int × Unit)) × (Bool × Unit))))) => (some (a0.1, (b1, ()))))
theorem laws_toSetup_start (k : Nat) (a0 : (Int × ((List (Int × ((List Int × (List Int × Unit)) × (Bool × Unit)))) × Unit))) : fnK (laws_toSetup_cx k) 8 17 laws_toSetup_i laws_toSetup_sh [.pv (.pair (.int .i64) (.pair (.slice (.pair (.int .i64) (.pair (.pair .str (.pair .str .unit)) (.pair .bool .unit)))) .unit)) a0] =
 ((bindO (laws_toEditS_r a0.2.1) fun (b1 : (List (Int × ((List Int × (List Int × Unit)) × (Bool × Unit))))) => (some (a0.1, (b1, ())))) : Option (shDen laws_toSetup_sh)) := by kernel_rfl

theorem laws_toSetup_run (a0 : (Int × ((List (Int × ((List Int × (List Int × Unit)) × (Bool × Unit)))) × Unit))) : fnK (laws_toSetup_cx FUEL) 8 17 laws_toSetup_i laws_toSetup_sh [.pv (.pair (.int .i64) (.pair (.slice (.pair (.int .i64) (.pair (.pair .str (.pair .str .unit)) (.pair .bool .unit)))) .unit)) a0] = laws_toSetup_r a0 :=
 (laws_toSetup_start FUEL a0).trans (rfl)

noncomputable def laws_toSetup_con : Con := { ps := (.pair (.pair (.int .i64) (.pair (.slice (.pair (.int .i64) (.pair (.pair .str (.pair .str .unit)) (.pair .bool .unit)))) .unit)) .unit), sh := laws_toSetup_sh, raw := fun x => laws_toSetup_r x.1 }
theorem laws_toSetup_conOk : ConOk Try.prog 17 laws_toSetup_con := con_of_fn (laws_toSetup_tabs FUEL) (depth := 8) laws_toSetup_ok fun x y h => (laws_toSetup_run x.1).trans h

noncomputable def spec_l00In_inls : List (Nat × Inl) := []
noncomputable def spec_l00In_cons : List (Nat × Con) := []
noncomputable def spec_l00In_cuts : List (Nat × List (Nat × Cut)) := []
noncomputable def spec_l00In_cx (k : Nat) : Cx := mkCx tys tbytes telem nozero (Ai.look spec_l00In_inls) (Ai.look spec_l00In_cons) (fun f id => match Ai.look spec_l00In_cuts f with | some l => Ai.look l id | none => none) k
theorem spec_l00In_tabs (k : Nat) : TabsOk Try.prog (spec_l00In_cx k) := ⟨tab_mk tabs_ok _ _ _ _, look_all (Q := ConOk Try.prog) _ trivial, look_all (Q := InlOk Try.prog) _ trivial, mixed_ok⟩
abbrev spec_l00In_sh : List Sh := [.pl .bool]
noncomputable def spec_l00In_r (a0 : Int) (a1 : Int) (a2 : Int) : Option (shDen spec_l00In_sh) :=
 (cond (decide (a1 ≤ a0))
 (some (decide (a0 ≤ a2)))
 (some false))
theorem spec_l00In_start (k : Nat) (a0 : Int) (a1 : Int) (a2 : Int) : fnK (spec_l00In_cx k) 8 49 spec_l00In_i spec_l00In_sh [.pv (.int .i64) a0, .pv (.int .i64) a1, .pv (.int .i64) a2] =
 ((cond (decide (a1 ≤ a0))
 (some (decide (a0 ≤ a2)))
 (some false)) : Option (shDen spec_l00In_sh)) := by kernel_rfl

theorem spec_l00In_run (a0 : Int) (a1 : Int) (a2 : Int) : fnK (spec_l00In_cx FUEL) 8 49 spec_l00In_i spec_l00In_sh [.pv (.int .i64) a0, .pv (.int .i64) a1, .pv (.int .i64) a2] = spec_l00In_r a0 a1 a2 :=
 (spec_l00In_start FUEL a0 a1 a2).trans (rfl)

noncomputable def spec_l00In_con : Con := { ps := (.pair (.int .i64) (.pair (.int .i64) (.pair (.int .i64) .unit))), sh := spec_l00In_sh, raw := fun x => spec_l00In_r x.1 x.2.1 x.2.2.1 }
theorem spec_l00In_conOk : ConOk Try.prog 49 spec_l00In_con := con_of_fn (spec_l00In_tabs FUEL) (depth := 8) spec_l00In_ok fun x y h => (spec_l00In_run x.1 x.2.1 x.2.2.1).trans h

noncomputable def spec_l04Name_inls : List (Nat × Inl) := []
noncomputable def spec_l04Name_cons : List (Nat × Con) := [(49, spec_l00In_con)]
noncomputable def spec_l04Name_cuts : List (Nat × List (Nat × Cut)) := []
noncomputable def spec_l04Name_cx (k : Nat) : Cx := mkCx tys tbytes telem nozero (Ai.look spec_l04Name_inls) (Ai.look spec_l04Name_cons) (fun f id => match Ai.look spec_l04Name_cuts f with | some l => Ai.look l id | none => none) k
theorem spec_l04Name_tabs (k : Nat) : TabsOk Try.prog (spec_l04Name_cx k) := ⟨tab_mk tabs_ok _ _ _ _, look_all (Q := ConOk Try.prog) _ ⟨spec_l00In_conOk, trivial⟩, look_all (Q := InlOk Try.prog) _ trivial, mixed_ok⟩
abbrev spec_l04Name_sh : List Sh := [.pl .bool]
noncomputable def spec_l04Name_r (a0 : List Int) : Option (shDen spec_l04Name_sh) :=
 (bindO (spec_l00In_r (a0.length : Int) (1 : Int) (24 : Int)) fun (b1 : Bool) => (some b1))
theorem spec_l04Name_start (k : Nat) (a0 : List Int) : fnK (spec_l04Name_cx k) 8 81 spec_l04Name_i spec_l04Name_sh [.pv .str a0] =
 ((bindO (spec_l00In_r (a0.length : Int) (1 : Int) (24 : Int)) fun (b1 : Bool) => (some b1)) : Option (shDen spec_l04Name_sh)) := by kernel_rfl

theorem spec_l04Name_run (a0 : List Int) : fnK (spec_l04Name_cx FUEL) 8 81 spec_l04Name_i spec_l04Name_sh [.pv .str a0] = spec_l04Name_r a0 :=
 (spec_l04Name_start FUEL a0).trans (rfl)

noncomputable def spec_l04Name_con : Con := { ps := (.pair .str .unit), sh := spec_l04Name_sh, raw := fun x => spec_l04Name_r x.1 }
theorem spec_l04Name_conOk : ConOk Try.prog 81 spec_l04Name_con := con_of_fn (spec_l04Name_tabs FUEL) (depth := 8) spec_l04Name_ok fun x y h => (spec_l04Name_run x.1).trans h

noncomputable def spec_l04Entry_inls : List (Nat × Inl) := []
noncomputable def spec_l04Entry_cons : List (Nat × Con) := [(81, spec_l04Name_con)]
noncomputable def spec_l04Entry_cuts : List (Nat × List (Nat × Cut)) := []
noncomputable def spec_l04Entry_cx (k : Nat) : Cx := mkCx tys tbytes telem nozero (Ai.look spec_l04Entry_inls) (Ai.look spec_l04Entry_cons) (fun f id => match Ai.look spec_l04Entry_cuts f with | some l => Ai.look l id | none => none) k
theorem spec_l04Entry_tabs (k : Nat) : TabsOk Try.prog (spec_l04Entry_cx k) := ⟨tab_mk tabs_ok _ _ _ _, look_all (Q := ConOk Try.prog) _ ⟨spec_l04Name_conOk, trivial⟩, look_all (Q := InlOk Try.prog) _ trivial, mixed_ok⟩
abbrev spec_l04Entry_sh : List Sh := [.pl .bool]
noncomputable def spec_l04Entry_r (a0 : (List Int × (List Int × Unit))) : Option (shDen spec_l04Entry_sh) :=
 (bindO (spec_l04Name_r a0.1) fun (b1 : Bool) => (cond b1
 (some (decide ((a0.2.1.length : Int) ≤ (64 : Int))))
 (some false)))
theorem spec_l04Entry_start (k : Nat) (a0 : (List Int × (List Int × Unit))) : fnK (spec_l04Entry_cx k) 8 72 spec_l04Entry_i spec_l04Entry_sh [.pv (.ref (.pair .str (.pair .str .unit))) a0] =
 ((bindO (spec_l04Name_r a0.1) fun (b1 : Bool) => (cond b1
 (some (decide ((a0.2.1.length : Int) ≤ (64 : Int))))
 (some false))) : Option (shDen spec_l04Entry_sh)) := by kernel_rfl

theorem spec_l04Entry_run (a0 : (List Int × (List Int × Unit))) : fnK (spec_l04Entry_cx FUEL) 8 72 spec_l04Entry_i spec_l04Entry_sh [.pv (.ref (.pair .str (.pair .str .unit))) a0] = spec_l04Entry_r a0 :=
 (spec_l04Entry_start FUEL a0).trans (rfl)

noncomputable def spec_l04Entry_con : Con := { ps := (.pair (.ref (.pair .str (.pair .str .unit))) .unit), sh := spec_l04Entry_sh, raw := fun x => spec_l04Entry_r x.1 }
theorem spec_l04Entry_conOk : ConOk Try.prog 72 spec_l04Entry_con := con_of_fn (spec_l04Entry_tabs FUEL) (depth := 8) spec_l04Entry_ok fun x y h => (spec_l04Entry_run x.1).trans h

noncomputable def spec_ValidEntry_inls : List (Nat × Inl) := []
noncomputable def spec_ValidEntry_cons : List (Nat × Con) := [(72, spec_l04Entry_con)]
noncomputable def spec_ValidEntry_cuts : List (Nat × List (Nat × Cut)) := []
noncomputable def spec_ValidEntry_cx (k : Nat) : Cx := mkCx tys tbytes telem nozero (Ai.look spec_ValidEntry_inls) (Ai.look spec_ValidEntry_cons) (fun f id => match Ai.look spec_ValidEntry_cuts f with | some l => Ai.look l id | none => none) k
theorem spec_ValidEntry_tabs (k : Nat) : TabsOk Try.prog (spec_ValidEntry_cx k) := ⟨tab_mk tabs_ok _ _ _ _, look_all (Q := ConOk Try.prog) _ ⟨spec_l04Entry_conOk, trivial⟩, look_all (Q := InlOk Try.prog) _ trivial, mixed_ok⟩
abbrev spec_ValidEntry_sh : List Sh := [.pl .bool]
noncomputable def spec_ValidEntry_r (a0 : (List Int × (List Int × Unit))) : Option (shDen spec_ValidEntry_sh) :=
 (bindO (spec_l04Entry_r a0) fun (b1 : Bool) => (some b1))
theorem spec_ValidEntry_start (k : Nat) (a0 : (List Int × (List Int × Unit))) : fnK (spec_ValidEntry_cx k) 8 56 spec_ValidEntry_i spec_ValidEntry_sh [.pv (.pair .str (.pair .str .unit)) a0] =
 ((bindO (spec_l04Entry_r a0) fun (b1 : Bool) => (some b1)) : Option (shDen spec_ValidEntry_sh)) := by kernel_rfl

theorem spec_ValidEntry_run (a0 : (List Int × (List Int × Unit))) : fnK (spec_ValidEntry_cx FUEL) 8 56 spec_ValidEntry_i spec_ValidEntry_sh [.pv (.pair .str (.pair .str .unit)) a0] = spec_ValidEntry_r a0 :=
 (spec_ValidEntry_start FUEL a0).trans (rfl)

noncomputable def spec_ValidEntry_con : Con := { ps := (.pair (.pair .str (.pair .str .unit)) .unit), sh := spec_ValidEntry_sh, raw := fun x => spec_ValidEntry_r x.1 }
theorem spec_ValidEntry_conOk : ConOk Try.prog 56 spec_ValidEntry_con := con_of_fn (spec_ValidEntry_tabs FUEL) (depth := 8) spec_ValidEntry_ok fun x y h => (spec_ValidEntry_run x.1).trans h

noncomputable def spec_l09Ok_l0_cut : Cut := { keep := [0, 3], stk := [], ids := [], own := [], outs := [(0, [2], []), (1, [], [])] }
noncomputable def spec_l09Ok_inls : List (Nat × Inl) := []
noncomputable def spec_l09Ok_cons : List (Nat × Con) := [(49, spec_l00In_con), (56, spec_ValidEntry_con)]
noncomputable def spec_l09Ok_cuts : List (Nat × List (Nat × Cut)) := [(36, [(0, spec_l09Ok_l0_cut)])]
noncomputable def spec_l09Ok_cx (k : Nat) : Cx := mkCx tys tbytes telem nozero (Ai.look spec_l09Ok_inls) (Ai.look spec_l09Ok_cons) (fun f id => match Ai.look spec_l09Ok_cuts f with | some l => Ai.look l id | none => none) k
theorem spec_l09Ok_tabs (k : Nat) : TabsOk Try.prog (spec_l09Ok_cx k) := ⟨tab_mk tabs_ok _ _ _ _, look_all (Q := ConOk Try.prog) _ ⟨spec_l00In_conOk, spec_ValidEntry_conOk, trivial⟩, look_all (Q := InlOk Try.prog) _ trivial, mixed_ok⟩
abbrev spec_l09Ok_sh : List Sh := [.pl .bool]
noncomputable def spec_l09Ok_l0_s (a0 : (Int × ((List (Int × ((List Int × (List Int × Unit)) × (Bool × Unit)))) × Unit))) (x3 : Int) : St := { env := [.pv (.ref (.pair (.int .i64) (.pair (.slice (.pair (.int .i64) (.pair (.pair .str (.pair .str .unit)) (.pair .bool .unit)))) .unit))) a0, .dead, .dead, .pv (.int .i64) x3, .dead, .dead, .dead, .dead, .dead, .dead, .dead, .dead, .dead, .dead, .dead, .dead, .dead, .dead, .dead, .dead, .dead, .dead, .dead, .dead, .dead, .dead, .dead, .dead, .dead, .dead, .dead, .dead, .dead, .dead, .dead, .dead, .dead, .dead, .dead, .dead, .dead, .dead, .dead, .dead, .dead, .dead, .dead, .dead, .dead, .dead, .dead, .dead, .dead, .dead, .dead, .dead, .dead, .dead, .dead, .dead], stk := [], heap := [] }
noncomputable def spec_l09Ok_l0_o  : St := { env := [.dead, .dead, .pv .bool false, .dead, .dead, .dead, .dead, .dead, .dead, .dead, .dead, .dead, .dead, .dead, .dead, .dead, .dead, .dead, .dead, .dead, .dead, .dead, .dead, .dead, .dead, .dead, .dead, .dead, .dead, .dead, .dead, .dead, .dead, .dead, .dead, .dead, .dead, .dead, .dead, .dead, .dead, .dead, .dead, .dead, .dead, .dead, .dead, .dead, .dead, .dead, .dead, .dead, .dead, .dead, .dead, .dead, .dead, .dead, .dead, .dead], stk := [], heap := [] }
noncomputable def spec_l09Ok_l0_o0  : St := { env := [.dead, .dead, .dead, .dead, .dead, .dead, .dead, .dead, .dead, .dead, .dead, .dead, .dead, .dead, .dead, .dead, .dead, .dead, .dead, .dead, .dead, .dead, .dead, .dead, .dead, .dead, .dead, .dead, .dead, .dead, .dead, .dead, .dead, .dead, .dead, .dead, .dead, .dead, .dead, .dead, .dead, .dead, .dead, .dead, .dead, .dead, .dead, .dead, .dead, .dead, .dead, .dead, .dead, .dead, .dead, .dead, .dead, .dead, .dead, .dead], stk := [], heap := [] }
noncomputable def spec_l09Ok_l0_b (rec : Int → Option (shDen spec_l09Ok_sh)) (kr : Option (shDen spec_l09Ok_sh)) (ke0 : Option (shDen spec_l09Ok_sh)) (a0 : (Int × ((List (Int × ((List Int × (List Int × Unit)) × (Bool × Unit)))) × Unit))) (x3 : Int) : Option (shDen spec_l09Ok_sh) :=
 (cond (decide (x3 < (a0.2.1.length : Int)))
 (cond ((decide ((0 : Int) ≤ x3)) && (decide (x3 < (a0.2.1.length : Int))))
 (bindO (spec_l00In_r ((a0.2.1.getD (x3.toNat) ((0 : Int), (([], ([], ())), (false, ())))).1) (0 : Int) (IntKind.wrap .i64 (a0.1 - (1 : Int)))) fun (b4 : Bool) => (cond (!b4)
 (kr)
 (bindO (spec_ValidEntry_r (((a0.2.1.getD (x3.toNat) ((0 : Int), (([], ([], ())), (false, ())))).2).1)) fun (b5 : Bool) => (cond (!b5)
 (kr)
 (cond ((((a0.2.1.getD (x3.toNat) ((0 : Int), (([], ([], ())), (false, ())))).2).2).1)
 (cond (!(decide (((((a0.2.1.getD (x3.toNat) ((0 : Int), (([], ([], ())), (false, ())))).2).1).2).1 = [])))
 (kr)
 (rec (IntKind.wrap .i64 (x3 + (1 : Int)))))
 (rec (IntKind.wrap .i64 (x3 + (1 : Int)))))))))
 none)
 (ke0))
noncomputable def spec_l09Ok_l0_L (kr : Option (shDen spec_l09Ok_sh)) (ke0 : Option (shDen spec_l09Ok_sh)) (a0 : (Int × ((List (Int × ((List Int × (List Int × Unit)) × (Bool × Unit)))) × Unit))) : Nat → Int → Option (shDen spec_l09Ok_sh)
 | 0 => fun _ => none
 | n + 1 => spec_l09Ok_l0_b (spec_l09Ok_l0_L kr ke0 a0 n) kr ke0 a0
noncomputable def spec_l09Ok_r (a0 : (Int × ((List (Int × ((List Int × (List Int × Unit)) × (Bool × Unit)))) × Unit))) : Option (shDen spec_l09Ok_sh) :=
 (bindO (spec_l00In_r a0.1 (1 : Int) (3 : Int)) fun (b1 : Bool) => (cond (!b1)
 (some false)
 (cond (decide ((8 : Int) < (a0.2.1.length : Int)))
 (some false)
 (spec_l09Ok_l0_L (some false) (some true) a0 FUEL (0 : Int)))))
theorem spec_l09Ok_l0_round (k : Nat) (K : Ex → St → Option (shDen spec_l09Ok_sh)) (n : Nat) (a0 : (Int × ((List (Int × ((List Int × (List Int × Unit)) × (Bool × Unit)))) × Unit))) (x3 : Int) : (loopK (spec_l09Ok_cx k) 0 (execK (spec_l09Ok_cx k) (callK (spec_l09Ok_cx k) 8) 0 36 (sub spec_l09Ok_c [1, 1, 0, 1, 0, 0])) spec_l09Ok_l0_cut K (n + 1) (spec_l09Ok_l0_s a0 x3) : Option (shDen spec_l09Ok_sh)) =
 ((cond (decide (x3 < (a0.2.1.length : Int)))
 (cond ((decide ((0 : Int) ≤ x3)) && (decide (x3 < (a0.2.1.length : Int))))
 (bindO (spec_l00In_r ((a0.2.1.getD (x3.toNat) ((0 : Int), (([], ([], ())), (false, ())))).1) (0 : Int) (IntKind.wrap .i64 (a0.1 - (1 : Int)))) fun (b4 : Bool) => (cond (!b4)
 (K .ret (spec_l09Ok_l0_o ))
 (bindO (spec_ValidEntry_r (((a0.2.1.getD (x3.toNat) ((0 : Int), (([], ([], ())), (false, ())))).2).1)) fun (b5 : Bool) => (cond (!b5)
 (K .ret (spec_l09Ok_l0_o ))
 (cond ((((a0.2.1.getD (x3.toNat) ((0 : Int), (([], ([], ())), (false, ())))).2).2).1)
 (cond (!(decide (((((a0.2.1.getD (x3.toNat) ((0 : Int), (([], ([], ())), (false, ())))).2).1).2).1 = [])))
 (K .ret (spec_l09Ok_l0_o ))
 (loopK (spec_l09Ok_cx k) 0 (execK (spec_l09Ok_cx k) (callK (spec_l09Ok_cx k) 8) 0 36 (sub spec_l09Ok_c [1, 1, 0, 1, 0, 0])) spec_l09Ok_l0_cut K n (spec_l09Ok_l0_s a0 (IntKind.wrap .i64 (x3 + (1 : Int))))))
 (loopK (spec_l09Ok_cx k) 0 (execK (spec_l09Ok_cx k) (callK (spec_l09Ok_cx k) 8) 0 36 (sub spec_l09Ok_c [1, 1, 0, 1, 0, 0])) spec_l09Ok_l0_cut K n (spec_l09Ok_l0_s a0 (IntKind.wrap .i64 (x3 + (1 : Int))))))))))
 none)
 (K (.exit 0) (spec_l09Ok_l0_o0 ))) : Option (shDen spec_l09Ok_sh)) := by kernel_rfl

theorem spec_l09Ok_l0_ret (k : Nat)   : ((blkK 0 (seqK (execK (spec_l09Ok_cx k) (callK (spec_l09Ok_cx k) 8) 0 36 (sub spec_l09Ok_c [1, 1, 1])) (finK (spec_l09Ok_cx k) spec_l09Ok_i spec_l09Ok_sh))) .ret (spec_l09Ok_l0_o) : Option (shDen spec_l09Ok_sh)) =
 ((some false) : Option (shDen spec_l09Ok_sh)) := by kernel_rfl

theorem spec_l09Ok_l0_exit0 (k : Nat)   : ((blkK 0 (seqK (execK (spec_l09Ok_cx k) (callK (spec_l09Ok_cx k) 8) 0 36 (sub spec_l09Ok_c [1, 1, 1])) (finK (spec_l09Ok_cx k) spec_l09Ok_i spec_l09Ok_sh))) (.exit 0) (spec_l09Ok_l0_o0) : Option (shDen spec_l09Ok_sh)) =
 ((some true) : Option (shDen spec_l09Ok_sh)) := by kernel_rfl

theorem spec_l09Ok_l0_congr (kr : Option (shDen spec_l09Ok_sh)) (ke0 : Option (shDen spec_l09Ok_sh)) (kr' : Option (shDen spec_l09Ok_sh)) (ke0' : Option (shDen spec_l09Ok_sh)) (a0 : (Int × ((List (Int × ((List Int × (List Int × Unit)) × (Bool × Unit)))) × Unit))) (n : Nat) (x3 : Int) (hkr : ∀ (_ : Unit), kr  = kr' ) (hke0 : ∀ (_ : Unit), ke0  = ke0' ) : spec_l09Ok_l0_L kr ke0 a0 n x3 = spec_l09Ok_l0_L kr' ke0' a0 n x3 := by
 have : kr = kr' := hkr (); subst this; have : ke0 = ke0' := hke0 (); subst this; rfl

theorem spec_l09Ok_l0_L_eq (K : Ex → St → Option (shDen spec_l09Ok_sh)) (a0 : (Int × ((List (Int × ((List Int × (List Int × Unit)) × (Bool × Unit)))) × Unit))) : ∀ (n : Nat) (x3 : Int), (loopK (spec_l09Ok_cx FUEL) 0 (execK (spec_l09Ok_cx FUEL) (callK (spec_l09Ok_cx FUEL) 8) 0 36 (sub spec_l09Ok_c [1, 1, 0, 1, 0, 0])) spec_l09Ok_l0_cut K n (spec_l09Ok_l0_s a0 x3) : Option (shDen spec_l09Ok_sh)) = spec_l09Ok_l0_L (K .ret (spec_l09Ok_l0_o)) (K (.exit 0) (spec_l09Ok_l0_o0)) a0 n x3 := by
 intro n
 induction n with
 | zero => intros; rfl
 | succ n ih =>
  intro x3
  exact (spec_l09Ok_l0_round FUEL K n a0 x3).trans (condC (condC (bindC (fun b4 => condC (rfl) (bindC (fun b5 => condC (rfl) (condC (condC (rfl) (ih (IntKind.wrap .i64 (x3 + (1 : Int))))) (ih (IntKind.wrap .i64 (x3 + (1 : Int))))))))) (rfl)) (rfl))

theorem spec_l09Ok_start (k : Nat) (a0 : (Int × ((List (Int × ((List Int × (List Int × Unit)) × (Bool × Unit)))) × Unit))) : fnK (spec_l09Ok_cx k) 8 36 spec_l09Ok_i spec_l09Ok_sh [.pv (.ref (.pair (.int .i64) (.pair (.slice (.pair (.int .i64) (.pair (.pair .str (.pair .str .unit)) (.pair .bool .unit)))) .unit))) a0] =
 ((bindO (spec_l00In_r a0.1 (1 : Int) (3 : Int)) fun (b1 : Bool) => (cond (!b1)
 (some false)
 (cond (decide ((8 : Int) < (a0.2.1.length : Int)))
 (some false)
 (loopK (spec_l09Ok_cx k) 0 (execK (spec_l09Ok_cx k) (callK (spec_l09Ok_cx k) 8) 0 36 (sub spec_l09Ok_c [1, 1, 0, 1, 0, 0])) spec_l09Ok_l0_cut (blkK 0 (seqK (execK (spec_l09Ok_cx k) (callK (spec_l09Ok_cx k) 8) 0 36 (sub spec_l09Ok_c [1, 1, 1])) (finK (spec_l09Ok_cx k) spec_l09Ok_i spec_l09Ok_sh))) k (spec_l09Ok_l0_s a0 (0 : Int)))))) : Option (shDen spec_l09Ok_sh)) := by kernel_rfl

theorem spec_l09Ok_run (a0 : (Int × ((List (Int × ((List Int × (List Int × Unit)) × (Bool × Unit)))) × Unit))) : fnK (spec_l09Ok_cx FUEL) 8 36 spec_l09Ok_i spec_l09Ok_sh [.pv (.ref (.pair (.int .i64) (.pair (.slice (.pair (.int .i64) (.pair (.pair .str (.pair .str .unit)) (.pair .bool .unit)))) .unit))) a0] = spec_l09Ok_r a0 :=
 (spec_l09Ok_start FUEL a0).trans (bindC (fun b1 => condC (rfl) (condC (rfl) ((spec_l09Ok_l0_L_eq _ a0 FUEL (0 : Int)).trans (spec_l09Ok_l0_congr _ _ _ _ a0 FUEL (0 : Int) (fun _ => (spec_l09Ok_l0_ret FUEL  ).trans (rfl)) (fun _ => (spec_l09Ok_l0_exit0 FUEL  ).trans (rfl)))))))

noncomputable def spec_l09Ok_con : Con := { ps := (.pair (.ref (.pair (.int .i64) (.pair (.slice (.pair (.int .i64) (.pair (.pair .str (.pair .str .unit)) (.pair .bool .unit)))) .unit))) .unit), sh := spec_l09Ok_sh, raw := fun x => spec_l09Ok_r x.1 }
theorem spec_l09Ok_conOk : ConOk Try.prog 36 spec_l09Ok_con := con_of_fn (spec_l09Ok_tabs FUEL) (depth := 8) spec_l09Ok_ok fun x y h => (spec_l09Ok_run x.1).trans h

noncomputable def spec_ValidSetup_inls : List (Nat × Inl) := []
noncomputable def spec_ValidSetup_cons : List (Nat × Con) := [(36, spec_l09Ok_con)]
noncomputable def spec_ValidSetup_cuts : List (Nat × List (Nat × Cut)) := []
noncomputable def spec_ValidSetup_cx (k : Nat) : Cx := mkCx tys tbytes telem nozero (Ai.look spec_ValidSetup_inls) (Ai.look spec_ValidSetup_cons) (fun f id => match Ai.look spec_ValidSetup_cuts f with | some l => Ai.look l id | none => none) k
theorem spec_ValidSetup_tabs (k : Nat) : TabsOk Try.prog (spec_ValidSetup_cx k) := ⟨tab_mk tabs_ok _ _ _ _, look_all (Q := ConOk Try.prog) _ ⟨spec_l09Ok_conOk, trivial⟩, look_all (Q := InlOk Try.prog) _ trivial, mixed_ok⟩
abbrev spec_ValidSetup_sh : List Sh := [.pl .bool]
noncomputable def spec_ValidSetup_r (a0 : (Int × ((List (Int × ((List Int × (List Int × Unit)) × (Bool × Unit)))) × Unit))) : Option (shDen spec_ValidSetup_sh) :=
 (bindO (spec_l09Ok_r a0) fun (b1 : Bool) => (some b1))
theorem spec_ValidSetup_start (k : Nat) (a0 : (Int × ((List (Int × ((List Int × (List Int × Unit)) × (Bool × Unit)))) × Unit))) : fnK (spec_ValidSetup_cx k) 8 16 spec_ValidSetup_i spec_ValidSetup_sh [.pv (.pair (.int .i64) (.pair (.slice (.pair (.int .i64) (.pair (.pair .str (.pair .str .unit)) (.pair .bool .unit)))) .unit)) a0] =
 ((bindO (spec_l09Ok_r a0) fun (b1 : Bool) => (some b1)) : Option (shDen spec_ValidSetup_sh)) := by kernel_rfl

theorem spec_ValidSetup_run (a0 : (Int × ((List (Int × ((List Int × (List Int × Unit)) × (Bool × Unit)))) × Unit))) : fnK (spec_ValidSetup_cx FUEL) 8 16 spec_ValidSetup_i spec_ValidSetup_sh [.pv (.pair (.int .i64) (.pair (.slice (.pair (.int .i64) (.pair (.pair .str (.pair .str .unit)) (.pair .bool .unit)))) .unit)) a0] = spec_ValidSetup_r a0 :=
 (spec_ValidSetup_start FUEL a0).trans (rfl)

noncomputable def spec_ValidSetup_con : Con := { ps := (.pair (.pair (.int .i64) (.pair (.slice (.pair (.int .i64) (.pair (.pair .str (.pair .str .unit)) (.pair .bool .unit)))) .unit)) .unit), sh := spec_ValidSetup_sh, raw := fun x => spec_ValidSetup_r x.1 }
theorem spec_ValidSetup_conOk : ConOk Try.prog 16 spec_ValidSetup_con := con_of_fn (spec_ValidSetup_tabs FUEL) (depth := 8) spec_ValidSetup_ok fun x y h => (spec_ValidSetup_run x.1).trans h

noncomputable def impl_within_inls : List (Nat × Inl) := []
noncomputable def impl_within_cons : List (Nat × Con) := []
noncomputable def impl_within_cuts : List (Nat × List (Nat × Cut)) := []
noncomputable def impl_within_cx (k : Nat) : Cx := mkCx tys tbytes telem nozero (Ai.look impl_within_inls) (Ai.look impl_within_cons) (fun f id => match Ai.look impl_within_cuts f with | some l => Ai.look l id | none => none) k
theorem impl_within_tabs (k : Nat) : TabsOk Try.prog (impl_within_cx k) := ⟨tab_mk tabs_ok _ _ _ _, look_all (Q := ConOk Try.prog) _ trivial, look_all (Q := InlOk Try.prog) _ trivial, mixed_ok⟩
abbrev impl_within_sh : List Sh := [.pl .bool]
noncomputable def impl_within_r (a0 : Int) (a1 : Int) (a2 : Int) : Option (shDen impl_within_sh) :=
 (cond (decide (a1 ≤ a0))
 (some (decide (a0 ≤ a2)))
 (some false))
theorem impl_within_start (k : Nat) (a0 : Int) (a1 : Int) (a2 : Int) : fnK (impl_within_cx k) 8 30 impl_within_i impl_within_sh [.pv (.int .i64) a0, .pv (.int .i64) a1, .pv (.int .i64) a2] =
 ((cond (decide (a1 ≤ a0))
 (some (decide (a0 ≤ a2)))
 (some false)) : Option (shDen impl_within_sh)) := by kernel_rfl

theorem impl_within_run (a0 : Int) (a1 : Int) (a2 : Int) : fnK (impl_within_cx FUEL) 8 30 impl_within_i impl_within_sh [.pv (.int .i64) a0, .pv (.int .i64) a1, .pv (.int .i64) a2] = impl_within_r a0 a1 a2 :=
 (impl_within_start FUEL a0 a1 a2).trans (rfl)

noncomputable def impl_within_con : Con := { ps := (.pair (.int .i64) (.pair (.int .i64) (.pair (.int .i64) .unit))), sh := impl_within_sh, raw := fun x => impl_within_r x.1 x.2.1 x.2.2.1 }
theorem impl_within_conOk : ConOk Try.prog 30 impl_within_con := con_of_fn (impl_within_tabs FUEL) (depth := 8) impl_within_ok fun x y h => (impl_within_run x.1 x.2.1 x.2.2.1).trans h

noncomputable def impl_isName_inls : List (Nat × Inl) := []
noncomputable def impl_isName_cons : List (Nat × Con) := [(30, impl_within_con)]
noncomputable def impl_isName_cuts : List (Nat × List (Nat × Cut)) := []
noncomputable def impl_isName_cx (k : Nat) : Cx := mkCx tys tbytes telem nozero (Ai.look impl_isName_inls) (Ai.look impl_isName_cons) (fun f id => match Ai.look impl_isName_cuts f with | some l => Ai.look l id | none => none) k
theorem impl_isName_tabs (k : Nat) : TabsOk Try.prog (impl_isName_cx k) := ⟨tab_mk tabs_ok _ _ _ _, look_all (Q := ConOk Try.prog) _ ⟨impl_within_conOk, trivial⟩, look_all (Q := InlOk Try.prog) _ trivial, mixed_ok⟩
abbrev impl_isName_sh : List Sh := [.pl .bool]
noncomputable def impl_isName_r (a0 : List Int) : Option (shDen impl_isName_sh) :=
 (bindO (impl_within_r (a0.length : Int) (1 : Int) (24 : Int)) fun (b1 : Bool) => (some b1))
theorem impl_isName_start (k : Nat) (a0 : List Int) : fnK (impl_isName_cx k) 8 59 impl_isName_i impl_isName_sh [.pv .str a0] =
 ((bindO (impl_within_r (a0.length : Int) (1 : Int) (24 : Int)) fun (b1 : Bool) => (some b1)) : Option (shDen impl_isName_sh)) := by kernel_rfl

theorem impl_isName_run (a0 : List Int) : fnK (impl_isName_cx FUEL) 8 59 impl_isName_i impl_isName_sh [.pv .str a0] = impl_isName_r a0 :=
 (impl_isName_start FUEL a0).trans (rfl)

noncomputable def impl_isName_con : Con := { ps := (.pair .str .unit), sh := impl_isName_sh, raw := fun x => impl_isName_r x.1 }
theorem impl_isName_conOk : ConOk Try.prog 59 impl_isName_con := con_of_fn (impl_isName_tabs FUEL) (depth := 8) impl_isName_ok fun x y h => (impl_isName_run x.1).trans h

noncomputable def impl_ValidEntry_inls : List (Nat × Inl) := []
noncomputable def impl_ValidEntry_cons : List (Nat × Con) := [(59, impl_isName_con)]
noncomputable def impl_ValidEntry_cuts : List (Nat × List (Nat × Cut)) := []
noncomputable def impl_ValidEntry_cx (k : Nat) : Cx := mkCx tys tbytes telem nozero (Ai.look impl_ValidEntry_inls) (Ai.look impl_ValidEntry_cons) (fun f id => match Ai.look impl_ValidEntry_cuts f with | some l => Ai.look l id | none => none) k
theorem impl_ValidEntry_tabs (k : Nat) : TabsOk Try.prog (impl_ValidEntry_cx k) := ⟨tab_mk tabs_ok _ _ _ _, look_all (Q := ConOk Try.prog) _ ⟨impl_isName_conOk, trivial⟩, look_all (Q := InlOk Try.prog) _ trivial, mixed_ok⟩
abbrev impl_ValidEntry_sh : List Sh := [.pl .bool]
noncomputable def impl_ValidEntry_r (a0 : (List Int × (List Int × Unit))) : Option (shDen impl_ValidEntry_sh) :=
 (bindO (impl_isName_r a0.1) fun (b1 : Bool) => (cond b1
 (some (decide ((a0.2.1.length : Int) ≤ (64 : Int))))
 (some false)))
theorem impl_ValidEntry_start (k : Nat) (a0 : (List Int × (List Int × Unit))) : fnK (impl_ValidEntry_cx k) 8 40 impl_ValidEntry_i impl_ValidEntry_sh [.pv (.pair .str (.pair .str .unit)) a0] =
 ((bindO (impl_isName_r a0.1) fun (b1 : Bool) => (cond b1
 (some (decide ((a0.2.1.length : Int) ≤ (64 : Int))))
 (some false))) : Option (shDen impl_ValidEntry_sh)) := by kernel_rfl

theorem impl_ValidEntry_run (a0 : (List Int × (List Int × Unit))) : fnK (impl_ValidEntry_cx FUEL) 8 40 impl_ValidEntry_i impl_ValidEntry_sh [.pv (.pair .str (.pair .str .unit)) a0] = impl_ValidEntry_r a0 :=
 (impl_ValidEntry_start FUEL a0).trans (rfl)

noncomputable def impl_ValidEntry_con : Con := { ps := (.pair (.pair .str (.pair .str .unit)) .unit), sh := impl_ValidEntry_sh, raw := fun x => impl_ValidEntry_r x.1 }
theorem impl_ValidEntry_conOk : ConOk Try.prog 40 impl_ValidEntry_con := con_of_fn (impl_ValidEntry_tabs FUEL) (depth := 8) impl_ValidEntry_ok fun x y h => (impl_ValidEntry_run x.1).trans h

noncomputable def impl_ValidSetup_l0_cut : Cut := { keep := [0, 1, 7, 8], stk := [[], [12]], ids := [10], own := [], outs := [(0, [4], []), (1, [], [])] }
noncomputable def impl_ValidSetup_inls : List (Nat × Inl) := [(38, slices_ContainsFunc_impl_Edit_impl_Edit_i), (39, impl_ValidSetup_1_i), (58, slices_IndexFunc_impl_Edit_impl_Edit_i)]
noncomputable def impl_ValidSetup_cons : List (Nat × Con) := [(30, impl_within_con), (40, impl_ValidEntry_con)]
noncomputable def impl_ValidSetup_cuts : List (Nat × List (Nat × Cut)) := [(58, [(0, impl_ValidSetup_l0_cut)])]
noncomputable def impl_ValidSetup_cx (k : Nat) : Cx := mkCx tys tbytes telem nozero (Ai.look impl_ValidSetup_inls) (Ai.look impl_ValidSetup_cons) (fun f id => match Ai.look impl_ValidSetup_cuts f with | some l => Ai.look l id | none => none) k
theorem impl_ValidSetup_tabs (k : Nat) : TabsOk Try.prog (impl_ValidSetup_cx k) := ⟨tab_mk tabs_ok _ _ _ _, look_all (Q := ConOk Try.prog) _ ⟨impl_within_conOk, impl_ValidEntry_conOk, trivial⟩, look_all (Q := InlOk Try.prog) _ ⟨slices_ContainsFunc_impl_Edit_impl_Edit_ok, impl_ValidSetup_1_ok, slices_IndexFunc_impl_Edit_impl_Edit_ok, trivial⟩, mixed_ok⟩
abbrev impl_ValidSetup_sh : List Sh := [.pl .bool]
noncomputable def impl_ValidSetup_l0_s (a0 : (Int × ((List (Int × ((List Int × (List Int × Unit)) × (Bool × Unit)))) × Unit))) (x8 : Int) : St := { env := [.pv (.slice (.pair (.int .i64) (.pair (.pair .str (.pair .str .unit)) (.pair .bool .unit)))) a0.2.1, .fn 39 (.pr (.ptr 10 (.pair (.int .i64) (.pair (.slice (.pair (.int .i64) (.pair (.pair .str (.pair .str .unit)) (.pair .bool .unit)))) .unit)) []) (.pv .unit ())), .dead, .dead, .dead, .dead, .dead, .pv (.int .i64) (a0.2.1.length : Int), .pv (.int .i64) x8, .dead, .dead, .dead, .dead, .dead, .dead, .dead, .dead, .dead, .dead], stk := [[.dead, .dead, .dead, .dead, .dead, .dead, .dead, .dead, .dead], [.dead, .dead, .dead, .dead, .dead, .dead, .dead, .dead, .dead, .dead, .dead, .dead, .pv .bool true, .dead, .dead, .dead, .dead, .dead, .dead]], heap := [(10, .var (.pair (.int .i64) (.pair (.slice (.pair (.int .i64) (.pair (.pair .str (.pair .str .unit)) (.pair .bool .unit)))) .unit)) (.pv (.pair (.int .i64) (.pair (.slice (.pair (.int .i64) (.pair (.pair .str (.pair .str .unit)) (.pair .bool .unit)))) .unit)) a0))] }
noncomputable def impl_ValidSetup_l0_o (a0 : (Int × ((List (Int × ((List Int × (List Int × Unit)) × (Bool × Unit)))) × Unit))) (x4 : Int) : St := { env := [.dead, .dead, .dead, .dead, .pv (.int .i64) x4, .dead, .dead, .dead, .dead, .dead, .dead, .dead, .dead, .dead, .dead, .dead, .dead, .dead, .dead], stk := [[.dead, .dead, .dead, .dead, .dead, .dead, .dead, .dead, .dead], [.dead, .dead, .dead, .dead, .dead, .dead, .dead, .dead, .dead, .dead, .dead, .dead, .pv .bool true, .dead, .dead, .dead, .dead, .dead, .dead]], heap := [(10, .var (.pair (.int .i64) (.pair (.slice (.pair (.int .i64) (.pair (.pair .str (.pair .str .unit)) (.pair .bool .unit)))) .unit)) (.pv (.pair (.int .i64) (.pair (.slice (.pair (.int .i64) (.pair (.pair .str (.pair .str .unit)) (.pair .bool .unit)))) .unit)) a0))] }
noncomputable def impl_ValidSetup_l0_o0 (a0 : (Int × ((List (Int × ((List Int × (List Int × Unit)) × (Bool × Unit)))) × Unit))) : St := { env := [.dead, .dead, .dead, .dead, .dead, .dead, .dead, .dead, .dead, .dead, .dead, .dead, .dead, .dead, .dead, .dead, .dead, .dead, .dead], stk := [[.dead, .dead, .dead, .dead, .dead, .dead, .dead, .dead, .dead], [.dead, .dead, .dead, .dead, .dead, .dead, .dead, .dead, .dead, .dead, .dead, .dead, .pv .bool true, .dead, .dead, .dead, .dead, .dead, .dead]], heap := [(10, .var (.pair (.int .i64) (.pair (.slice (.pair (.int .i64) (.pair (.pair .str (.pair .str .unit)) (.pair .bool .unit)))) .unit)) (.pv (.pair (.int .i64) (.pair (.slice (.pair (.int .i64) (.pair (.pair .str (.pair .str .unit)) (.pair .bool .unit)))) .unit)) a0))] }
noncomputable def impl_ValidSetup_l0_b (rec : Int → Option (shDen impl_ValidSetup_sh)) (kr : Int → Option (shDen impl_ValidSetup_sh)) (ke0 : Option (shDen impl_ValidSetup_sh)) (a0 : (Int × ((List (Int × ((List Int × (List Int × Unit)) × (Bool × Unit)))) × Unit))) (x8 : Int) : Option (shDen impl_ValidSetup_sh) :=
 (cond (decide (x8 < (a0.2.1.length : Int)))
 (cond ((decide ((0 : Int) ≤ x8)) && (decide (x8 < (a0.2.1.length : Int))))
 (bindO (impl_within_r ((a0.2.1.getD (x8.toNat) ((0 : Int), (([], ([], ())), (false, ())))).1) (0 : Int) (IntKind.wrap .i64 (a0.1 - (1 : Int)))) fun (b4 : Bool) => (cond (!b4)
 (kr x8)
 (bindO (impl_ValidEntry_r (((a0.2.1.getD (x8.toNat) ((0 : Int), (([], ([], ())), (false, ())))).2).1)) fun (b5 : Bool) => (cond (!b5)
 (kr x8)
 (cond ((((a0.2.1.getD (x8.toNat) ((0 : Int), (([], ([], ())), (false, ())))).2).2).1)
 (cond (!(decide (((((a0.2.1.getD (x8.toNat) ((0 : Int), (([], ([], ())), (false, ())))).2).1).2).1 = [])))
 (kr x8)
 (rec (IntKind.wrap .i64 (x8 + (1 : Int)))))
 (rec (IntKind.wrap .i64 (x8 + (1 : Int)))))))))
 none)
 (ke0))
noncomputable def impl_ValidSetup_l0_L (kr : Int → Option (shDen impl_ValidSetup_sh)) (ke0 : Option (shDen impl_ValidSetup_sh)) (a0 : (Int × ((List (Int × ((List Int × (List Int × Unit)) × (Bool × Unit)))) × Unit))) : Nat → Int → Option (shDen impl_ValidSetup_sh)
 | 0 => fun _ => none
 | n + 1 => impl_ValidSetup_l0_b (impl_ValidSetup_l0_L kr ke0 a0 n) kr ke0 a0
noncomputable def impl_ValidSetup_r (a0 : (Int × ((List (Int × ((List Int × (List Int × Unit)) × (Bool × Unit)))) × Unit))) : Option (shDen impl_ValidSetup_sh) :=
 (bindO (impl_within_r a0.1 (1 : Int) (3 : Int)) fun (b1 : Bool) => (cond b1
 (cond (decide ((a0.2.1.length : Int) ≤ (8 : Int)))
 (impl_ValidSetup_l0_L (fun x4 => (some (!(decide ((0 : Int) ≤ x4))))) (some true) a0 FUEL (0 : Int))
 (some false))
 (some false)))
theorem impl_ValidSetup_l0_round (k : Nat) (K : Ex → St → Option (shDen impl_ValidSetup_sh)) (n : Nat) (a0 : (Int × ((List (Int × ((List Int × (List Int × Unit)) × (Bool × Unit)))) × Unit))) (x8 : Int) : (loopK (impl_ValidSetup_cx k) 2 (execK (impl_ValidSetup_cx k) (callK (impl_ValidSetup_cx k) 6) 2 58 (sub slices_IndexFunc_impl_Edit_impl_Edit_c [1, 0, 1, 0, 0])) impl_ValidSetup_l0_cut K (n + 1) (impl_ValidSetup_l0_s a0 x8) : Option (shDen impl_ValidSetup_sh)) =
 ((cond (decide (x8 < (a0.2.1.length : Int)))
 (cond ((decide ((0 : Int) ≤ x8)) && (decide (x8 < (a0.2.1.length : Int))))
 (bindO (impl_within_r ((a0.2.1.getD (x8.toNat) ((0 : Int), (([], ([], ())), (false, ())))).1) (0 : Int) (IntKind.wrap .i64 (a0.1 - (1 : Int)))) fun (b4 : Bool) => (cond (!b4)
 (K .ret (impl_ValidSetup_l0_o a0 x8))
 (bindO (impl_ValidEntry_r (((a0.2.1.getD (x8.toNat) ((0 : Int), (([], ([], ())), (false, ())))).2).1)) fun (b5 : Bool) => (cond (!b5)
 (K .ret (impl_ValidSetup_l0_o a0 x8))
 (cond ((((a0.2.1.getD (x8.toNat) ((0 : Int), (([], ([], ())), (false, ())))).2).2).1)
 (cond (!(decide (((((a0.2.1.getD (x8.toNat) ((0 : Int), (([], ([], ())), (false, ())))).2).1).2).1 = [])))
 (K .ret (impl_ValidSetup_l0_o a0 x8))
 (loopK (impl_ValidSetup_cx k) 2 (execK (impl_ValidSetup_cx k) (callK (impl_ValidSetup_cx k) 6) 2 58 (sub slices_IndexFunc_impl_Edit_impl_Edit_c [1, 0, 1, 0, 0])) impl_ValidSetup_l0_cut K n (impl_ValidSetup_l0_s a0 (IntKind.wrap .i64 (x8 + (1 : Int))))))
 (loopK (impl_ValidSetup_cx k) 2 (execK (impl_ValidSetup_cx k) (callK (impl_ValidSetup_cx k) 6) 2 58 (sub slices_IndexFunc_impl_Edit_impl_Edit_c [1, 0, 1, 0, 0])) impl_ValidSetup_l0_cut K n (impl_ValidSetup_l0_s a0 (IntKind.wrap .i64 (x8 + (1 : Int))))))))))
 none)
 (K (.exit 0) (impl_ValidSetup_l0_o0 a0))) : Option (shDen impl_ValidSetup_sh)) := by kernel_rfl

theorem impl_ValidSetup_l0_ret (k : Nat)  (a0 : (Int × ((List (Int × ((List Int × (List Int × Unit)) × (Bool × Unit)))) × Unit))) (x4 : Int) : ((blkK 0 (seqK (execK (impl_ValidSetup_cx k) (callK (impl_ValidSetup_cx k) 6) 2 58 (sub slices_IndexFunc_impl_Edit_impl_Edit_c [1, 1])) (retK (impl_ValidSetup_cx k) slices_IndexFunc_impl_Edit_impl_Edit_i (some 7) 1 (opsRest (impl_ValidSetup_cx k) (callK (impl_ValidSetup_cx k) 7) 1 38 false (regOps (sub slices_ContainsFunc_impl_Edit_impl_Edit_c [1, 0])) 2 (seqK (execK (impl_ValidSetup_cx k) (callK (impl_ValidSetup_cx k) 7) 1 38 (sub slices_ContainsFunc_impl_Edit_impl_Edit_c [1, 1])) (retK (impl_ValidSetup_cx k) slices_ContainsFunc_impl_Edit_impl_Edit_i (some 16) 0 (opsRest (impl_ValidSetup_cx k) (callK (impl_ValidSetup_cx k) 8) 0 18 false (regOps (sub impl_ValidSetup_c [1, 0])) 13 (seqK (execK (impl_ValidSetup_cx k) (callK (impl_ValidSetup_cx k) 8) 0 18 (sub impl_ValidSetup_c [1, 1])) (finK (impl_ValidSetup_cx k) impl_ValidSetup_i impl_ValidSetup_sh))))))))) .ret (impl_ValidSetup_l0_o a0 x4) : Option (shDen impl_ValidSetup_sh)) =
 ((some (!(decide ((0 : Int) ≤ x4)))) : Option (shDen impl_ValidSetup_sh)) := by kernel_rfl

theorem impl_ValidSetup_l0_exit0 (k : Nat)  (a0 : (Int × ((List (Int × ((List Int × (List Int × Unit)) × (Bool × Unit)))) × Unit))) : ((blkK 0 (seqK (execK (impl_ValidSetup_cx k) (callK (impl_ValidSetup_cx k) 6) 2 58 (sub slices_IndexFunc_impl_Edit_impl_Edit_c [1, 1])) (retK (impl_ValidSetup_cx k) slices_IndexFunc_impl_Edit_impl_Edit_i (some 7) 1 (opsRest (impl_ValidSetup_cx k) (callK (impl_ValidSetup_cx k) 7) 1 38 false (regOps (sub slices_ContainsFunc_impl_Edit_impl_Edit_c [1, 0])) 2 (seqK (execK (impl_ValidSetup_cx k) (callK (impl_ValidSetup_cx k) 7) 1 38 (sub slices_ContainsFunc_impl_Edit_impl_Edit_c [1, 1])) (retK (impl_ValidSetup_cx k) slices_ContainsFunc_impl_Edit_impl_Edit_i (some 16) 0 (opsRest (impl_ValidSetup_cx k) (callK (impl_ValidSetup_cx k) 8) 0 18 false (regOps (sub impl_ValidSetup_c [1, 0])) 13 (seqK (execK (impl_ValidSetup_cx k) (callK (impl_ValidSetup_cx k) 8) 0 18 (sub impl_ValidSetup_c [1, 1])) (finK (impl_ValidSetup_cx k) impl_ValidSetup_i impl_ValidSetup_sh))))))))) (.exit 0) (impl_ValidSetup_l0_o0 a0) : Option (shDen impl_ValidSetup_sh)) =
 ((some true) : Option (shDen impl_ValidSetup_sh)) := by kernel_rfl

theorem impl_ValidSetup_l0_congr (kr : Int → Option (shDen impl_ValidSetup_sh)) (ke0 : Option (shDen impl_ValidSetup_sh)) (kr' : Int → Option (shDen impl_ValidSetup_sh)) (ke0' : Option (shDen impl_ValidSetup_sh)) (a0 : (Int × ((List (Int × ((List Int × (List Int × Unit)) × (Bool × Unit)))) × Unit))) (n : Nat) (x8 : Int) (hkr : ∀ x4, kr x4 = kr' x4) (hke0 : ∀ (_ : Unit), ke0  = ke0' ) : impl_ValidSetup_l0_L kr ke0 a0 n x8 = impl_ValidSetup_l0_L kr' ke0' a0 n x8 := by
 have : kr = kr' := (by funext x4; exact hkr x4); subst this; have : ke0 = ke0' := hke0 (); subst this; rfl

theorem impl_ValidSetup_l0_L_eq (K : Ex → St → Option (shDen impl_ValidSetup_sh)) (a0 : (Int × ((List (Int × ((List Int × (List Int × Unit)) × (Bool × Unit)))) × Unit))) : ∀ (n : Nat) (x8 : Int), (loopK (impl_ValidSetup_cx FUEL) 2 (execK (impl_ValidSetup_cx FUEL) (callK (impl_ValidSetup_cx FUEL) 6) 2 58 (sub slices_IndexFunc_impl_Edit_impl_Edit_c [1, 0, 1, 0, 0])) impl_ValidSetup_l0_cut K n (impl_ValidSetup_l0_s a0 x8) : Option (shDen impl_ValidSetup_sh)) = impl_ValidSetup_l0_L (fun x4 => K .ret (impl_ValidSetup_l0_o a0 x4)) (K (.exit 0) (impl_ValidSetup_l0_o0 a0)) a0 n x8 := by
 intro n
 induction n with
 | zero => intros; rfl
 | succ n ih =>
  intro x8
  exact (impl_ValidSetup_l0_round FUEL K n a0 x8).trans (condC (condC (bindC (fun b4 => condC (rfl) (bindC (fun b5 => condC (rfl) (condC (condC (rfl) (ih (IntKind.wrap .i64 (x8 + (1 : Int))))) (ih (IntKind.wrap .i64 (x8 + (1 : Int))))))))) (rfl)) (rfl))

theorem impl_ValidSetup_start (k : Nat) (a0 : (Int × ((List (Int × ((List Int × (List Int × Unit)) × (Bool × Unit)))) × Unit))) : fnK (impl_ValidSetup_cx k) 8 18 impl_ValidSetup_i impl_ValidSetup_sh [.pv (.pair (.int .i64) (.pair (.slice (.pair (.int .i64) (.pair (.pair .str (.pair .str .unit)) (.pair .bool .unit)))) .unit)) a0] =
 ((bindO (impl_within_r a0.1 (1 : Int) (3 : Int)) fun (b1 : Bool) => (cond b1
 (cond (decide ((a0.2.1.length : Int) ≤ (8 : Int)))
 (loopK (impl_ValidSetup_cx k) 2 (execK (impl_ValidSetup_cx k) (callK (impl_ValidSetup_cx k) 6) 2 58 (sub slices_IndexFunc_impl_Edit_impl_Edit_c [1, 0, 1, 0, 0])) impl_ValidSetup_l0_cut (blkK 0 (seqK (execK (impl_ValidSetup_cx k) (callK (impl_ValidSetup_cx k) 6) 2 58 (sub slices_IndexFunc_impl_Edit_impl_Edit_c [1, 1])) (retK (impl_ValidSetup_cx k) slices_IndexFunc_impl_Edit_impl_Edit_i (some 7) 1 (opsRest (impl_ValidSetup_cx k) (callK (impl_ValidSetup_cx k) 7) 1 38 false (regOps (sub slices_ContainsFunc_impl_Edit_impl_Edit_c [1, 0])) 2 (seqK (execK (impl_ValidSetup_cx k) (callK (impl_ValidSetup_cx k) 7) 1 38 (sub slices_ContainsFunc_impl_Edit_impl_Edit_c [1, 1])) (retK (impl_ValidSetup_cx k) slices_ContainsFunc_impl_Edit_impl_Edit_i (some 16) 0 (opsRest (impl_ValidSetup_cx k) (callK (impl_ValidSetup_cx k) 8) 0 18 false (regOps (sub impl_ValidSetup_c [1, 0])) 13 (seqK (execK (impl_ValidSetup_cx k) (callK (impl_ValidSetup_cx k) 8) 0 18 (sub impl_ValidSetup_c [1, 1])) (finK (impl_ValidSetup_cx k) impl_ValidSetup_i impl_ValidSetup_sh))))))))) k (impl_ValidSetup_l0_s a0 (0 : Int)))
 (some false))
 (some false))) : Option (shDen impl_ValidSetup_sh)) := by kernel_rfl

theorem impl_ValidSetup_run (a0 : (Int × ((List (Int × ((List Int × (List Int × Unit)) × (Bool × Unit)))) × Unit))) : fnK (impl_ValidSetup_cx FUEL) 8 18 impl_ValidSetup_i impl_ValidSetup_sh [.pv (.pair (.int .i64) (.pair (.slice (.pair (.int .i64) (.pair (.pair .str (.pair .str .unit)) (.pair .bool .unit)))) .unit)) a0] = impl_ValidSetup_r a0 :=
 (impl_ValidSetup_start FUEL a0).trans (bindC (fun b1 => condC (condC ((impl_ValidSetup_l0_L_eq _ a0 FUEL (0 : Int)).trans (impl_ValidSetup_l0_congr _ _ _ _ a0 FUEL (0 : Int) (fun x4 => (impl_ValidSetup_l0_ret FUEL  a0 x4).trans (rfl)) (fun _ => (impl_ValidSetup_l0_exit0 FUEL  a0).trans (rfl)))) (rfl)) (rfl)))

noncomputable def impl_ValidSetup_con : Con := { ps := (.pair (.pair (.int .i64) (.pair (.slice (.pair (.int .i64) (.pair (.pair .str (.pair .str .unit)) (.pair .bool .unit)))) .unit)) .unit), sh := impl_ValidSetup_sh, raw := fun x => impl_ValidSetup_r x.1 }
theorem impl_ValidSetup_conOk : ConOk Try.prog 18 impl_ValidSetup_con := con_of_fn (impl_ValidSetup_tabs FUEL) (depth := 8) impl_ValidSetup_ok fun x y h => (impl_ValidSetup_run x.1).trans h

noncomputable def laws_eqEntry_inls : List (Nat × Inl) := []
noncomputable def laws_eqEntry_cons : List (Nat × Con) := []
noncomputable def laws_eqEntry_cuts : List (Nat × List (Nat × Cut)) := []
noncomputable def laws_eqEntry_cx (k : Nat) : Cx := mkCx tys tbytes telem nozero (Ai.look laws_eqEntry_inls) (Ai.look laws_eqEntry_cons) (fun f id => match Ai.look laws_eqEntry_cuts f with | some l => Ai.look l id | none => none) k
theorem laws_eqEntry_tabs (k : Nat) : TabsOk Try.prog (laws_eqEntry_cx k) := ⟨tab_mk tabs_ok _ _ _ _, look_all (Q := ConOk Try.prog) _ trivial, look_all (Q := InlOk Try.prog) _ trivial, mixed_ok⟩
abbrev laws_eqEntry_sh : List Sh := [.pl .bool]
noncomputable def laws_eqEntry_r (a0 : (List Int × (List Int × Unit))) (a1 : (List Int × (List Int × Unit))) : Option (shDen laws_eqEntry_sh) :=
 (cond (!(decide (a0.1 = a1.1)))
 (some false)
 (cond (!(decide (a0.2.1 = a1.2.1)))
 (some false)
 (some true)))
theorem laws_eqEntry_start (k : Nat) (a0 : (List Int × (List Int × Unit))) (a1 : (List Int × (List Int × Unit))) : fnK (laws_eqEntry_cx k) 8 74 laws_eqEntry_i laws_eqEntry_sh [.pv (.pair .str (.pair .str .unit)) a0, .pv (.pair .str (.pair .str .unit)) a1] =
 ((cond (!(decide (a0.1 = a1.1)))
 (some false)
 (cond (!(decide (a0.2.1 = a1.2.1)))
 (some false)
 (some true))) : Option (shDen laws_eqEntry_sh)) := by kernel_rfl

theorem laws_eqEntry_run (a0 : (List Int × (List Int × Unit))) (a1 : (List Int × (List Int × Unit))) : fnK (laws_eqEntry_cx FUEL) 8 74 laws_eqEntry_i laws_eqEntry_sh [.pv (.pair .str (.pair .str .unit)) a0, .pv (.pair .str (.pair .str .unit)) a1] = laws_eqEntry_r a0 a1 :=
 (laws_eqEntry_start FUEL a0 a1).trans (rfl)

noncomputable def laws_eqEntry_con : Con := { ps := (.pair (.pair .str (.pair .str .unit)) (.pair (.pair .str (.pair .str .unit)) .unit)), sh := laws_eqEntry_sh, raw := fun x => laws_eqEntry_r x.1 x.2.1 }
theorem laws_eqEntry_conOk : ConOk Try.prog 74 laws_eqEntry_con := con_of_fn (laws_eqEntry_tabs FUEL) (depth := 8) laws_eqEntry_ok fun x y h => (laws_eqEntry_run x.1 x.2.1).trans h

noncomputable def laws_eqEdit_inls : List (Nat × Inl) := []
noncomputable def laws_eqEdit_cons : List (Nat × Con) := [(74, laws_eqEntry_con)]
noncomputable def laws_eqEdit_cuts : List (Nat × List (Nat × Cut)) := []
noncomputable def laws_eqEdit_cx (k : Nat) : Cx := mkCx tys tbytes telem nozero (Ai.look laws_eqEdit_inls) (Ai.look laws_eqEdit_cons) (fun f id => match Ai.look laws_eqEdit_cuts f with | some l => Ai.look l id | none => none) k
theorem laws_eqEdit_tabs (k : Nat) : TabsOk Try.prog (laws_eqEdit_cx k) := ⟨tab_mk tabs_ok _ _ _ _, look_all (Q := ConOk Try.prog) _ ⟨laws_eqEntry_conOk, trivial⟩, look_all (Q := InlOk Try.prog) _ trivial, mixed_ok⟩
abbrev laws_eqEdit_sh : List Sh := [.pl .bool]
noncomputable def laws_eqEdit_r (a0 : (Int × ((List Int × (List Int × Unit)) × (Bool × Unit)))) (a1 : (Int × ((List Int × (List Int × Unit)) × (Bool × Unit)))) : Option (shDen laws_eqEdit_sh) :=
 (cond (!(decide (a0.1 = a1.1)))
 (some false)
 (bindO (laws_eqEntry_r a0.2.1 a1.2.1) fun (b1 : Bool) => (cond (!b1)
 (some false)
 (cond (!(decide (a0.2.2.1 = a1.2.2.1)))
 (some false)
 (some true)))))
theorem laws_eqEdit_start (k : Nat) (a0 : (Int × ((List Int × (List Int × Unit)) × (Bool × Unit)))) (a1 : (Int × ((List Int × (List Int × Unit)) × (Bool × Unit)))) : fnK (laws_eqEdit_cx k) 8 60 laws_eqEdit_i laws_eqEdit_sh [.pv (.pair (.int .i64) (.pair (.pair .str (.pair .str .unit)) (.pair .bool .unit))) a0, .pv (.pair (.int .i64) (.pair (.pair .str (.pair .str .unit)) (.pair .bool .unit))) a1] =
 ((cond (!(decide (a0.1 = a1.1)))
 (some false)
 (bindO (laws_eqEntry_r a0.2.1 a1.2.1) fun (b1 : Bool) => (cond (!b1)
 (some false)
 (cond (!(decide (a0.2.2.1 = a1.2.2.1)))
 (some false)
 (some true))))) : Option (shDen laws_eqEdit_sh)) := by kernel_rfl

theorem laws_eqEdit_run (a0 : (Int × ((List Int × (List Int × Unit)) × (Bool × Unit)))) (a1 : (Int × ((List Int × (List Int × Unit)) × (Bool × Unit)))) : fnK (laws_eqEdit_cx FUEL) 8 60 laws_eqEdit_i laws_eqEdit_sh [.pv (.pair (.int .i64) (.pair (.pair .str (.pair .str .unit)) (.pair .bool .unit))) a0, .pv (.pair (.int .i64) (.pair (.pair .str (.pair .str .unit)) (.pair .bool .unit))) a1] = laws_eqEdit_r a0 a1 :=
 (laws_eqEdit_start FUEL a0 a1).trans (rfl)

noncomputable def laws_eqEdit_con : Con := { ps := (.pair (.pair (.int .i64) (.pair (.pair .str (.pair .str .unit)) (.pair .bool .unit))) (.pair (.pair (.int .i64) (.pair (.pair .str (.pair .str .unit)) (.pair .bool .unit))) .unit)), sh := laws_eqEdit_sh, raw := fun x => laws_eqEdit_r x.1 x.2.1 }
theorem laws_eqEdit_conOk : ConOk Try.prog 60 laws_eqEdit_con := con_of_fn (laws_eqEdit_tabs FUEL) (depth := 8) laws_eqEdit_ok fun x y h => (laws_eqEdit_run x.1 x.2.1).trans h

noncomputable def laws_eqEditS_l0_cut : Cut := { keep := [0, 1, 5], stk := [], ids := [], own := [], outs := [(0, [4], []), (1, [], [])] }
noncomputable def laws_eqEditS_inls : List (Nat × Inl) := []
noncomputable def laws_eqEditS_cons : List (Nat × Con) := [(60, laws_eqEdit_con)]
noncomputable def laws_eqEditS_cuts : List (Nat × List (Nat × Cut)) := [(41, [(0, laws_eqEditS_l0_cut)])]
noncomputable def laws_eqEditS_cx (k : Nat) : Cx := mkCx tys tbytes telem nozero (Ai.look laws_eqEditS_inls) (Ai.look laws_eqEditS_cons) (fun f id => match Ai.look laws_eqEditS_cuts f with | some l => Ai.look l id | none => none) k
theorem laws_eqEditS_tabs (k : Nat) : TabsOk Try.prog (laws_eqEditS_cx k) := ⟨tab_mk tabs_ok _ _ _ _, look_all (Q := ConOk Try.prog) _ ⟨laws_eqEdit_conOk, trivial⟩, look_all (Q := InlOk Try.prog) _ trivial, mixed_ok⟩
abbrev laws_eqEditS_sh : List Sh := [.pl .bool]
noncomputable def laws_eqEditS_l0_s (a0 : (List (Int × ((List Int × (List Int × Unit)) × (Bool × Unit))))) (a1 : (List (Int × ((List Int × (List Int × Unit)) × (Bool × Unit))))) (x5 : Int) : St := { env := [.pv (.slice (.pair (.int .i64) (.pair (.pair .str (.pair .str .unit)) (.pair .bool .unit)))) a0, .pv (.slice (.pair (.int .i64) (.pair (.pair .str (.pair .str .unit)) (.pair .bool .unit)))) a1, .dead, .dead, .dead, .pv (.int .i64) x5, .dead, .dead, .dead, .dead, .dead, .dead, .dead, .dead, .dead, .dead, .dead, .dead, .dead, .dead, .dead, .dead, .dead, .dead, .dead, .dead, .dead], stk := [], heap := [] }
noncomputable def laws_eqEditS_l0_o  : St := { env := [.dead, .dead, .dead, .dead, .pv .bool false, .dead, .dead, .dead, .dead, .dead, .dead, .dead, .dead, .dead, .dead, .dead, .dead, .dead, .dead, .dead, .dead, .dead, .dead, .dead, .dead, .dead, .dead], stk := [], heap := [] }
noncomputable def laws_eqEditS_l0_o0  : St := { env := [.dead, .dead, .dead, .dead, .dead, .dead, .dead, .dead, .dead, .dead, .dead, .dead, .dead, .dead, .dead, .dead, .dead, .dead, .dead, .dead, .dead, .dead, .dead, .dead, .dead, .dead, .dead], stk := [], heap := [] }
noncomputable def laws_eqEditS_l0_b (rec : Int → Option (shDen laws_eqEditS_sh)) (kr : Option (shDen laws_eqEditS_sh)) (ke0 : Option (shDen laws_eqEditS_sh)) (a0 : (List (Int × ((List Int × (List Int × Unit)) × (Bool × Unit))))) (a1 : (List (Int × ((List Int × (List Int × Unit)) × (Bool × Unit))))) (x5 : Int) : Option (shDen laws_eqEditS_sh) :=
 (cond (decide (x5 < (a0.length : Int)))
 (cond ((decide ((0 : Int) ≤ x5)) && (decide (x5 < (a0.length : Int))))
 (cond ((decide ((0 : Int) ≤ x5)) && (decide (x5 < (a1.length : Int))))
 (bindO (laws_eqEdit_r (a0.getD (x5.toNat) ((0 : Int), (([], ([], ())), (false, ())))) (a1.getD (x5.toNat) ((0 : Int), (([], ([], ())), (false, ()))))) fun (b2 : Bool) => (cond (!b2)
 (kr)
 (rec (IntKind.wrap .i64 (x5 + (1 : Int))))))
 none)
 none)
 (ke0))
noncomputable def laws_eqEditS_l0_L (kr : Option (shDen laws_eqEditS_sh)) (ke0 : Option (shDen laws_eqEditS_sh)) (a0 : (List (Int × ((List Int × (List Int × Unit)) × (Bool × Unit))))) (a1 : (List (Int × ((List Int × (List Int × Unit)) × (Bool × Unit))))) : Nat → Int → Option (shDen laws_eqEditS_sh)
 | 0 => fun _ => none
 | n + 1 => laws_eqEditS_l0_b (laws_eqEditS_l0_L kr ke0 a0 a1 n) kr ke0 a0 a1
noncomputable def laws_eqEditS_r (a0 : (List (Int × ((List Int × (List Int × Unit)) × (Bool × Unit))))) (a1 : (List (Int × ((List Int × (List Int × Unit)) × (Bool × Unit))))) : Option (shDen laws_eqEditS_sh) :=
 (cond (!(decide ((a0.length : Int) = (a1.length : Int))))
 (some false)
 (laws_eqEditS_l0_L (some false) (some true) a0 a1 FUEL (0 : Int)))
theorem laws_eqEditS_l0_round (k : Nat) (K : Ex → St → Option (shDen laws_eqEditS_sh)) (n : Nat) (a0 : (List (Int × ((List Int × (List Int × Unit)) × (Bool × Unit))))) (a1 : (List (Int × ((List Int × (List Int × Unit)) × (Bool × Unit))))) (x5 : Int) : (loopK (laws_eqEditS_cx k) 0 (execK (laws_eqEditS_cx k) (callK (laws_eqEditS_cx k) 8) 0 41 (sub laws_eqEditS_c [1, 1, 0, 1, 0, 0])) laws_eqEditS_l0_cut K (n + 1) (laws_eqEditS_l0_s a0 a1 x5) : Option (shDen laws_eqEditS_sh)) =
 ((cond (decide (x5 < (a0.length : Int)))
 (cond ((decide ((0 : Int) ≤ x5)) && (decide (x5 < (a0.length : Int))))
 (cond ((decide ((0 : Int) ≤ x5)) && (decide (x5 < (a1.length : Int))))
 (bindO (laws_eqEdit_r (a0.getD (x5.toNat) ((0 : Int), (([], ([], ())), (false, ())))) (a1.getD (x5.toNat) ((0 : Int), (([], ([], ())), (false, ()))))) fun (b2 : Bool) => (cond (!b2)
 (K .ret (laws_eqEditS_l0_o ))
 (loopK (laws_eqEditS_cx k) 0 (execK (laws_eqEditS_cx k) (callK (laws_eqEditS_cx k) 8) 0 41 (sub laws_eqEditS_c [1, 1, 0, 1, 0, 0])) laws_eqEditS_l0_cut K n (laws_eqEditS_l0_s a0 a1 (IntKind.wrap .i64 (x5 + (1 : Int)))))))
 none)
 none)
 (K (.exit 0) (laws_eqEditS_l0_o0 ))) : Option (shDen laws_eqEditS_sh)) := by kernel_rfl

theorem laws_eqEditS_l0_ret (k : Nat)   : ((blkK 0 (seqK (execK (laws_eqEditS_cx k) (callK (laws_eqEditS_cx k) 8) 0 41 (sub laws_eqEditS_c [1, 1, 1])) (finK (laws_eqEditS_cx k) laws_eqEditS_i laws_eqEditS_sh))) .ret (laws_eqEditS_l0_o) : Option (shDen laws_eqEditS_sh)) =
 ((some false) : Option (shDen laws_eqEditS_sh)) := by kernel_rfl

theorem laws_eqEditS_l0_exit0 (k : Nat)   : ((blkK 0 (seqK (execK (laws_eqEditS_cx k) (callK (laws_eqEditS_cx k) 8) 0 41 (sub laws_eqEditS_c [1, 1, 1])) (finK (laws_eqEditS_cx k) laws_eqEditS_i laws_eqEditS_sh))) (.exit 0) (laws_eqEditS_l0_o0) : Option (shDen laws_eqEditS_sh)) =
 ((some true) : Option (shDen laws_eqEditS_sh)) := by kernel_rfl

theorem laws_eqEditS_l0_congr (kr : Option (shDen laws_eqEditS_sh)) (ke0 : Option (shDen laws_eqEditS_sh)) (kr' : Option (shDen laws_eqEditS_sh)) (ke0' : Option (shDen laws_eqEditS_sh)) (a0 : (List (Int × ((List Int × (List Int × Unit)) × (Bool × Unit))))) (a1 : (List (Int × ((List Int × (List Int × Unit)) × (Bool × Unit))))) (n : Nat) (x5 : Int) (hkr : ∀ (_ : Unit), kr  = kr' ) (hke0 : ∀ (_ : Unit), ke0  = ke0' ) : laws_eqEditS_l0_L kr ke0 a0 a1 n x5 = laws_eqEditS_l0_L kr' ke0' a0 a1 n x5 := by
 have : kr = kr' := hkr (); subst this; have : ke0 = ke0' := hke0 (); subst this; rfl

theorem laws_eqEditS_l0_L_eq (K : Ex → St → Option (shDen laws_eqEditS_sh)) (a0 : (List (Int × ((List Int × (List Int × Unit)) × (Bool × Unit))))) (a1 : (List (Int × ((List Int × (List Int × Unit)) × (Bool × Unit))))) : ∀ (n : Nat) (x5 : Int), (loopK (laws_eqEditS_cx FUEL) 0 (execK (laws_eqEditS_cx FUEL) (callK (laws_eqEditS_cx FUEL) 8) 0 41 (sub laws_eqEditS_c [1, 1, 0, 1, 0, 0])) laws_eqEditS_l0_cut K n (laws_eqEditS_l0_s a0 a1 x5) : Option (shDen laws_eqEditS_sh)) = laws_eqEditS_l0_L (K .ret (laws_eqEditS_l0_o)) (K (.exit 0) (laws_eqEditS_l0_o0)) a0 a1 n x5 := by
 intro n
 induction n with
 | zero => intros; rfl
 | succ n ih =>
  intro x5
  exact (laws_eqEditS_l0_round FUEL K n a0 a1 x5).trans (condC (condC (condC (bindC (fun b2 => condC (rfl) (ih (IntKind.wrap .i64 (x5 + (1 : Int)))))) (rfl)) (rfl)) (rfl))

theorem laws_eqEditS_start (k : Nat) (a0 : (List (Int × ((List Int × (List Int × Unit)) × (Bool × Unit))))) (a1 : (List (Int × ((List Int × (List Int × Unit)) × (Bool × Unit))))) : fnK (laws_eqEditS_cx k) 8 41 laws_eqEditS_i laws_eqEditS_sh [.pv (.slice (.pair (.int .i64) (.pair (.pair .str (.pair .str .unit)) (.pair .bool .unit)))) a0, .pv (.slice (.pair (.int .i64) (.pair (.pair .str (.pair .str .unit)) (.pair .bool .unit)))) a1] =
 ((cond (!(decide ((a0.length : Int) = (a1.length : Int))))
 (some false)
 (loopK (laws_eqEditS_cx k) 0 (execK (laws_eqEditS_cx k) (callK (laws_eqEditS_cx k) 8) 0 41 (sub laws_eqEditS_c [1, 1, 0, 1, 0, 0])) laws_eqEditS_l0_cut (blkK 0 (seqK (execK (laws_eqEditS_cx k) (callK (laws_eqEditS_cx k) 8) 0 41 (sub laws_eqEditS_c [1, 1, 1])) (finK (laws_eqEditS_cx k) laws_eqEditS_i laws_eqEditS_sh))) k (laws_eqEditS_l0_s a0 a1 (0 : Int)))) : Option (shDen laws_eqEditS_sh)) := by kernel_rfl

theorem laws_eqEditS_run (a0 : (List (Int × ((List Int × (List Int × Unit)) × (Bool × Unit))))) (a1 : (List (Int × ((List Int × (List Int × Unit)) × (Bool × Unit))))) : fnK (laws_eqEditS_cx FUEL) 8 41 laws_eqEditS_i laws_eqEditS_sh [.pv (.slice (.pair (.int .i64) (.pair (.pair .str (.pair .str .unit)) (.pair .bool .unit)))) a0, .pv (.slice (.pair (.int .i64) (.pair (.pair .str (.pair .str .unit)) (.pair .bool .unit)))) a1] = laws_eqEditS_r a0 a1 :=
 (laws_eqEditS_start FUEL a0 a1).trans (condC (rfl) ((laws_eqEditS_l0_L_eq _ a0 a1 FUEL (0 : Int)).trans (laws_eqEditS_l0_congr _ _ _ _ a0 a1 FUEL (0 : Int) (fun _ => (laws_eqEditS_l0_ret FUEL  ).trans (rfl)) (fun _ => (laws_eqEditS_l0_exit0 FUEL  ).trans (rfl)))))

noncomputable def laws_eqEditS_con : Con := { ps := (.pair (.slice (.pair (.int .i64) (.pair (.pair .str (.pair .str .unit)) (.pair .bool .unit)))) (.pair (.slice (.pair (.int .i64) (.pair (.pair .str (.pair .str .unit)) (.pair .bool .unit)))) .unit)), sh := laws_eqEditS_sh, raw := fun x => laws_eqEditS_r x.1 x.2.1 }
theorem laws_eqEditS_conOk : ConOk Try.prog 41 laws_eqEditS_con := con_of_fn (laws_eqEditS_tabs FUEL) (depth := 8) laws_eqEditS_ok fun x y h => (laws_eqEditS_run x.1 x.2.1).trans h

noncomputable def laws_eqSetup_inls : List (Nat × Inl) := []
noncomputable def laws_eqSetup_cons : List (Nat × Con) := [(41, laws_eqEditS_con)]
noncomputable def laws_eqSetup_cuts : List (Nat × List (Nat × Cut)) := []
noncomputable def laws_eqSetup_cx (k : Nat) : Cx := mkCx tys tbytes telem nozero (Ai.look laws_eqSetup_inls) (Ai.look laws_eqSetup_cons) (fun f id => match Ai.look laws_eqSetup_cuts f with | some l => Ai.look l id | none => none) k
theorem laws_eqSetup_tabs (k : Nat) : TabsOk Try.prog (laws_eqSetup_cx k) := ⟨tab_mk tabs_ok _ _ _ _, look_all (Q := ConOk Try.prog) _ ⟨laws_eqEditS_conOk, trivial⟩, look_all (Q := InlOk Try.prog) _ trivial, mixed_ok⟩
abbrev laws_eqSetup_sh : List Sh := [.pl .bool]
noncomputable def laws_eqSetup_r (a0 : (Int × ((List (Int × ((List Int × (List Int × Unit)) × (Bool × Unit)))) × Unit))) (a1 : (Int × ((List (Int × ((List Int × (List Int × Unit)) × (Bool × Unit)))) × Unit))) : Option (shDen laws_eqSetup_sh) :=
 (cond (!(decide (a0.1 = a1.1)))
 (some false)
 (bindO (laws_eqEditS_r a0.2.1 a1.2.1) fun (b1 : Bool) => (cond (!b1)
 (some false)
 (some true))))
theorem laws_eqSetup_start (k : Nat) (a0 : (Int × ((List (Int × ((List Int × (List Int × Unit)) × (Bool × Unit)))) × Unit))) (a1 : (Int × ((List (Int × ((List Int × (List Int × Unit)) × (Bool × Unit)))) × Unit))) : fnK (laws_eqSetup_cx k) 8 19 laws_eqSetup_i laws_eqSetup_sh [.pv (.pair (.int .i64) (.pair (.slice (.pair (.int .i64) (.pair (.pair .str (.pair .str .unit)) (.pair .bool .unit)))) .unit)) a0, .pv (.pair (.int .i64) (.pair (.slice (.pair (.int .i64) (.pair (.pair .str (.pair .str .unit)) (.pair .bool .unit)))) .unit)) a1] =
 ((cond (!(decide (a0.1 = a1.1)))
 (some false)
 (bindO (laws_eqEditS_r a0.2.1 a1.2.1) fun (b1 : Bool) => (cond (!b1)
 (some false)
 (some true)))) : Option (shDen laws_eqSetup_sh)) := by kernel_rfl

theorem laws_eqSetup_run (a0 : (Int × ((List (Int × ((List Int × (List Int × Unit)) × (Bool × Unit)))) × Unit))) (a1 : (Int × ((List (Int × ((List Int × (List Int × Unit)) × (Bool × Unit)))) × Unit))) : fnK (laws_eqSetup_cx FUEL) 8 19 laws_eqSetup_i laws_eqSetup_sh [.pv (.pair (.int .i64) (.pair (.slice (.pair (.int .i64) (.pair (.pair .str (.pair .str .unit)) (.pair .bool .unit)))) .unit)) a0, .pv (.pair (.int .i64) (.pair (.slice (.pair (.int .i64) (.pair (.pair .str (.pair .str .unit)) (.pair .bool .unit)))) .unit)) a1] = laws_eqSetup_r a0 a1 :=
 (laws_eqSetup_start FUEL a0 a1).trans (rfl)

noncomputable def laws_eqSetup_con : Con := { ps := (.pair (.pair (.int .i64) (.pair (.slice (.pair (.int .i64) (.pair (.pair .str (.pair .str .unit)) (.pair .bool .unit)))) .unit)) (.pair (.pair (.int .i64) (.pair (.slice (.pair (.int .i64) (.pair (.pair .str (.pair .str .unit)) (.pair .bool .unit)))) .unit)) .unit)), sh := laws_eqSetup_sh, raw := fun x => laws_eqSetup_r x.1 x.2.1 }
theorem laws_eqSetup_conOk : ConOk Try.prog 19 laws_eqSetup_con := con_of_fn (laws_eqSetup_tabs FUEL) (depth := 8) laws_eqSetup_ok fun x y h => (laws_eqSetup_run x.1 x.2.1).trans h

noncomputable def laws_FnExactValidSetup_inls : List (Nat × Inl) := []
noncomputable def laws_FnExactValidSetup_cons : List (Nat × Con) := [(15, laws_szSetup_con), (16, spec_ValidSetup_con), (17, laws_toSetup_con), (18, impl_ValidSetup_con), (19, laws_eqSetup_con)]
noncomputable def laws_FnExactValidSetup_cuts : List (Nat × List (Nat × Cut)) := []
noncomputable def laws_FnExactValidSetup_cx (k : Nat) : Cx := mkCx tys tbytes telem nozero (Ai.look laws_FnExactValidSetup_inls) (Ai.look laws_FnExactValidSetup_cons) (fun f id => match Ai.look laws_FnExactValidSetup_cuts f with | some l => Ai.look l id | none => none) k
theorem laws_FnExactValidSetup_tabs (k : Nat) : TabsOk Try.prog (laws_FnExactValidSetup_cx k) := ⟨tab_mk tabs_ok _ _ _ _, look_all (Q := ConOk Try.prog) _ ⟨laws_szSetup_conOk, spec_ValidSetup_conOk, laws_toSetup_conOk, impl_ValidSetup_conOk, laws_eqSetup_conOk, trivial⟩, look_all (Q := InlOk Try.prog) _ trivial, mixed_ok⟩
abbrev laws_FnExactValidSetup_sh : List Sh := [.pl .bool]
noncomputable def laws_FnExactValidSetup_r (a0 : (Int × ((List (Int × ((List Int × (List Int × Unit)) × (Bool × Unit)))) × Unit))) : Option (shDen laws_FnExactValidSetup_sh) :=
 (bindO (laws_szSetup_r a0 (1048576 : Int)) fun (b1 : Int) => (cond (decide (b1 < (0 : Int)))
 (some true)
 (bindO (laws_toSetup_r a0) fun (b2 : (Int × ((List (Int × ((List Int × (List Int × Unit)) × (Bool × Unit)))) × Unit))) => (bindO (spec_ValidSetup_r b2) fun (b3 : Bool) => (bindO (laws_toSetup_r a0) fun (b4 : (Int × ((List (Int × ((List Int × (List Int × Unit)) × (Bool × Unit)))) × Unit))) => (bindO (impl_ValidSetup_r b4) fun (b5 : Bool) => (cond (!(decide (b5 = b3)))
 (some false)
 (bindO (laws_toSetup_r a0) fun (b6 : (Int × ((List (Int × ((List Int × (List Int × Unit)) × (Bool × Unit)))) × Unit))) => (bindO (laws_eqSetup_r b4 b6) fun (b7 : Bool) => (cond (!b7)
 (some false)
 (some true)))))))))))
theorem laws_FnExactValidSetup_start (k : Nat) (a0 : (Int × ((List (Int × ((List Int × (List Int × Unit)) × (Bool × Unit)))) × Unit))) : fnK (laws_FnExactValidSetup_cx k) 8 5 laws_FnExactValidSetup_i laws_FnExactValidSetup_sh [.pv (.pair (.int .i64) (.pair (.slice (.pair (.int .i64) (.pair (.pair .str (.pair .str .unit)) (.pair .bool .unit)))) .unit)) a0] =
 ((bindO (laws_szSetup_r a0 (1048576 : Int)) fun (b1 : Int) => (cond (decide (b1 < (0 : Int)))
 (some true)
 (bindO (laws_toSetup_r a0) fun (b2 : (Int × ((List (Int × ((List Int × (List Int × Unit)) × (Bool × Unit)))) × Unit))) => (bindO (spec_ValidSetup_r b2) fun (b3 : Bool) => (bindO (laws_toSetup_r a0) fun (b4 : (Int × ((List (Int × ((List Int × (List Int × Unit)) × (Bool × Unit)))) × Unit))) => (bindO (impl_ValidSetup_r b4) fun (b5 : Bool) => (cond (!(decide (b5 = b3)))
 (some false)
 (bindO (laws_toSetup_r a0) fun (b6 : (Int × ((List (Int × ((List Int × (List Int × Unit)) × (Bool × Unit)))) × Unit))) => (bindO (laws_eqSetup_r b4 b6) fun (b7 : Bool) => (cond (!b7)
 (some false)
 (some true))))))))))) : Option (shDen laws_FnExactValidSetup_sh)) := by kernel_rfl

theorem laws_FnExactValidSetup_run (a0 : (Int × ((List (Int × ((List Int × (List Int × Unit)) × (Bool × Unit)))) × Unit))) : fnK (laws_FnExactValidSetup_cx FUEL) 8 5 laws_FnExactValidSetup_i laws_FnExactValidSetup_sh [.pv (.pair (.int .i64) (.pair (.slice (.pair (.int .i64) (.pair (.pair .str (.pair .str .unit)) (.pair .bool .unit)))) .unit)) a0] = laws_FnExactValidSetup_r a0 :=
 (laws_FnExactValidSetup_start FUEL a0).trans (rfl)

noncomputable def laws_FnExactValidSetup_con : Con := { ps := (.pair (.pair (.int .i64) (.pair (.slice (.pair (.int .i64) (.pair (.pair .str (.pair .str .unit)) (.pair .bool .unit)))) .unit)) .unit), sh := laws_FnExactValidSetup_sh, raw := fun x => laws_FnExactValidSetup_r x.1 }
theorem laws_FnExactValidSetup_conOk : ConOk Try.prog 5 laws_FnExactValidSetup_con := con_of_fn (laws_FnExactValidSetup_tabs FUEL) (depth := 8) laws_FnExactValidSetup_ok fun x y h => (laws_FnExactValidSetup_run x.1).trans h

end Go.Ai.G
