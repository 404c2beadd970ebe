/-
  FnMerges: for every input that can be read the law returns true, and each argument reads afterwards as it read before. Conditions: none beyond the given row.
-/
import Derived.Test.YtgchclimojffeaaRows
import Derived.Test.YtgchclimojffeaaMergesFn1
import Derived.Test.YtgchclimojffeaaMergesH0
import Derived.ProofKit
namespace Go.Proofs.Ytgchclimojffeaa
open Go.Ai Go.RowKit
set_option maxRecDepth 100000

theorem fnMerges_own : ownKnob Try.prog.godebug = none := by kernel_rfl
theorem fnMerges_laid : laidOutB Try.prog = true := by kernel_rfl
theorem fnMerges_ps : PsIs Try.prog (.pair (.slice (.int .u8)) (.pair (.slice (.int .u8)) .unit)) Try.f3.params.toList := psIs_of (Ai.G.laws_FnMerges_tabs Ai.G.FUEL).tab.c _ _ (by kernel_rfl)
theorem fnMerges_lifted (os : Os) (started : os.Started) (H : Type) (enc : TypeId × Value → H) :
    ReturnsInHanded {} Try.checked os 3 .any (Rows.fnMergesSpec.pre6 enc Try.prog Try.f3 Rows.fnMergesRow.domain false) (Rows.fnMergesSpec.post enc Try.prog Try.f3 false true false false) := by
  refine returnsInHanded_of_change (C := Try.checked) fnMerges_own started (by kernel_rfl) Try.func3
    (ChangeSpec.witness6 (enc := enc) (C := Try.checked) false ⟨#[], #[.slice none 0 0, .slice none 0 0], []⟩ 8 (by kernel_rfl) (by kernel_rfl) (by kernel_rfl) (by kernel_rfl)) ?_
  intro W base args ds gs before hval hW hcnd _
  refine law_contract (P := Try.prog) (ps := (.pair (.slice (.int .u8)) (.pair (.slice (.int .u8)) .unit))) (raw := fun x => Ai.G.laws_FnMerges_r x.1 x.2.1) Ai.G.laws_FnMerges_conOk Ai.G.laws_FnMerges_ok fnMerges_ps (B := 4) (by kernel_rfl) (by kernel_rfl) fnMerges_laid (by kernel_rfl) rfl (fun ds hds => ?_) hval hW (fun x hx => ?_)
  · have hn : Try.f3.params.toList.length = 2 := by kernel_rfl
    rw [hn] at hds
    match ds, hds with
    | [d0, d1], _ => rfl
  · exact Ai.H.FnMerges_true x.1 x.2.1 (args_ok _ _ x hx)

theorem fnMerges_holds : Rows.FnMergesSaid :=
  OpenClaim.holds_of_wide 3 Try.f3 rfl rfl rfl rfl rfl rfl rfl ⟨rfl, rfl, rfl, rfl, rfl⟩ rfl rfl rfl rfl rfl (by kernel_rfl) Try.func3 (by kernel_rfl)
    (of_decide_eq_true (by kernel_rfl)) (by unfold Func.isWrapper; first | (rw [if_pos (by decide +kernel)]; kernel_rfl) | (rw [if_neg (by decide +kernel)]; exact ⟨rfl, rfl⟩))
    (fun os started H enc _ => fnMerges_lifted os started H enc)
end Go.Proofs.Ytgchclimojffeaa
