/-
  FnExactValidDeed: for every input that can be read the law returns true, and each argument reads afterwards as it read before. Conditions: none beyond the given row.
-/
import Derived.Test.YtnmkmlhllpifgaaRows
import Derived.Test.YtnmkmlhllpifgaaExactValidDeedFn0
import Derived.Test.YtnmkmlhllpifgaaExactValidDeedHa
import Derived.ProofKit
namespace Go.Proofs.Ytnmkmlhllpifgaa
open Go.Ai Go.RowKit
set_option maxRecDepth 100000

theorem fnExactValidDeed_own : ownKnob Try.prog.godebug = none := by kernel_rfl
theorem fnExactValidDeed_laid : laidOutB Try.prog = true := by kernel_rfl
theorem fnExactValidDeed_ps : PsIs Try.prog (.pair (.pair (.int .i64) (.pair (.int .i64) (.pair (.int .i64) (.pair (.int .i64) .unit)))) .unit) Try.f3.params.toList := psIs_of (Ai.G.laws_FnExactValidDeed_tabs Ai.G.FUEL).tab.c _ _ (by kernel_rfl)
theorem fnExactValidDeed_lifted (os : Os) (started : os.Started) (H : Type) (enc : TypeId × Value → H) :
    ReturnsInHanded {} Try.checked os 3 .any (Rows.fnExactValidDeedSpec.pre6 enc Try.prog Try.f3 Rows.fnExactValidDeedRow.domain false) (Rows.fnExactValidDeedSpec.post enc Try.prog Try.f3 false true false false) := by
  refine returnsInHanded_of_change (C := Try.checked) fnExactValidDeed_own started (by kernel_rfl) Try.func3
    (ChangeSpec.witness6 (enc := enc) (C := Try.checked) false ⟨#[], #[.agg #[.int .i64 0, .int .i64 0, .int .i64 0, .int .i64 0]], []⟩ 8 (by kernel_rfl) (by kernel_rfl) (by kernel_rfl) (by kernel_rfl)) ?_
  intro W base args ds gs before hval hW hcnd _
  refine law_contract (P := Try.prog) (ps := (.pair (.pair (.int .i64) (.pair (.int .i64) (.pair (.int .i64) (.pair (.int .i64) .unit)))) .unit)) (raw := fun x => Ai.G.laws_FnExactValidDeed_r x.1) Ai.G.laws_FnExactValidDeed_conOk Ai.G.laws_FnExactValidDeed_ok fnExactValidDeed_ps (B := 4) (by kernel_rfl) (by kernel_rfl) fnExactValidDeed_laid (by kernel_rfl) rfl (fun ds hds => ?_) hval hW (fun x hx => ?_)
  · have hn : Try.f3.params.toList.length = 1 := by kernel_rfl
    rw [hn] at hds
    match ds, hds with
    | [d0], _ => rfl
  · exact Ai.H.FnExactValidDeed_true x.1 (args_ok _ _ x hx)

theorem fnExactValidDeed_holds : Rows.FnExactValidDeedSaid :=
  OpenClaim.holds_of_wide 3 Try.f3 rfl rfl rfl rfl rfl rfl rfl ⟨rfl, rfl, rfl, rfl, rfl⟩ rfl rfl rfl rfl rfl (by kernel_rfl) Try.func3 (by kernel_rfl)
    (of_decide_eq_true (by kernel_rfl)) (by unfold Func.isWrapper; first | (rw [if_pos (by decide +kernel)]; kernel_rfl) | (rw [if_neg (by decide +kernel)]; exact ⟨rfl, rfl⟩))
    (fun os started H enc _ => fnExactValidDeed_lifted os started H enc)
end Go.Proofs.Ytnmkmlhllpifgaa
