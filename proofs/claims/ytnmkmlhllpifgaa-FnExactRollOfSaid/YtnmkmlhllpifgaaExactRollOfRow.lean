/-
  FnExactRollOf: for every input that can be read the law returns true, and each argument reads afterwards as it read before. Conditions: none beyond the given row.
-/
import Derived.Test.YtnmkmlhllpifgaaRows
import Derived.Test.YtnmkmlhllpifgaaExactRollOfFn0
import Derived.Test.YtnmkmlhllpifgaaExactRollOfHb
import Derived.Test.YtnmkmlhllpifgaaExactRollOfHc
import Derived.Test.YtnmkmlhllpifgaaExactRollOfHd
import Derived.ProofKit
namespace Go.Proofs.Ytnmkmlhllpifgaa
open Go.Ai Go.RowKit
set_option maxRecDepth 100000

theorem fnExactRollOf_own : ownKnob Try.prog.godebug = none := by kernel_rfl
theorem fnExactRollOf_laid : laidOutB Try.prog = true := by kernel_rfl
theorem fnExactRollOf_ps : PsIs Try.prog (.pair (.slice (.int .u8)) .unit) Try.f4.params.toList := psIs_of (Ai.G.laws_FnExactRollOf_tabs Ai.G.FUEL).tab.c _ _ (by kernel_rfl)
theorem fnExactRollOf_lifted (os : Os) (started : os.Started) (H : Type) (enc : TypeId × Value → H) :
    ReturnsInHanded {} Try.checked os 4 .any (Rows.fnExactRollOfSpec.pre6 enc Try.prog Try.f4 Rows.fnExactRollOfRow.domain false) (Rows.fnExactRollOfSpec.post enc Try.prog Try.f4 false true false false) := by
  refine returnsInHanded_of_change (C := Try.checked) fnExactRollOf_own started (by kernel_rfl) Try.func4
    (ChangeSpec.witness6 (enc := enc) (C := Try.checked) false ⟨#[], #[.slice none 0 0], []⟩ 8 (by kernel_rfl) (by kernel_rfl) (by kernel_rfl) (by kernel_rfl)) ?_
  intro W base args ds gs before hval hW hcnd _
  refine law_contract (P := Try.prog) (ps := (.pair (.slice (.int .u8)) .unit)) (raw := fun x => Ai.G.laws_FnExactRollOf_r x.1) Ai.G.laws_FnExactRollOf_conOk Ai.G.laws_FnExactRollOf_ok fnExactRollOf_ps (B := 4) (by kernel_rfl) (by kernel_rfl) fnExactRollOf_laid (by kernel_rfl) rfl (fun ds hds => ?_) hval hW (fun x hx => ?_)
  · have hn : Try.f4.params.toList.length = 1 := by kernel_rfl
    rw [hn] at hds
    match ds, hds with
    | [d0], _ => rfl
  · exact Ai.H.FnExactRollOf_true x.1 (args_ok _ _ x hx)

theorem fnExactRollOf_holds : Rows.FnExactRollOfSaid :=
  OpenClaim.holds_of_wide 4 Try.f4 rfl rfl rfl rfl rfl rfl rfl ⟨rfl, rfl, rfl, rfl, rfl⟩ rfl rfl rfl rfl rfl (by kernel_rfl) Try.func4 (by kernel_rfl)
    (of_decide_eq_true (by kernel_rfl)) (by unfold Func.isWrapper; first | (rw [if_pos (by decide +kernel)]; kernel_rfl) | (rw [if_neg (by decide +kernel)]; exact ⟨rfl, rfl⟩))
    (fun os started H enc _ => fnExactRollOf_lifted os started H enc)
end Go.Proofs.Ytnmkmlhllpifgaa
