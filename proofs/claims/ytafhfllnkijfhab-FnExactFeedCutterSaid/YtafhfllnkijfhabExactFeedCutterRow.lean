/-
  FnExactFeedCutter: for every input that can be read the law returns true, and each argument reads afterwards as it read before. Conditions: none beyond the given row.
-/
import Derived.Test.YtafhfllnkijfhabRows
import Derived.Test.YtafhfllnkijfhabExactFeedCutterFn1
import Derived.Test.YtafhfllnkijfhabExactFeedCutterH0
import Derived.ProofKit
namespace Go.Proofs.Ytafhfllnkijfhab
open Go.Ai Go.RowKit
set_option maxRecDepth 100000

theorem fnExactFeedCutter_own : ownKnob Try.prog.godebug = none := by kernel_rfl
theorem fnExactFeedCutter_laid : laidOutB Try.prog = true := by kernel_rfl
theorem fnExactFeedCutter_ps : PsIs Try.prog (.pair (.pair (.pair (.int .i64) (.pair (.int .i64) (.pair (.int .i64) .unit))) (.pair (.int .u32) (.pair (.slice (.int .u8)) .unit))) (.pair (.slice (.int .u8)) .unit)) Try.f3.params.toList := psIs_of (Ai.G.laws_FnExactFeedCutter_d_tabs Ai.G.FUEL).tab.c _ _ (by kernel_rfl)
theorem fnExactFeedCutter_lifted (os : Os) (started : os.Started) (H : Type) (enc : TypeId × Value → H) :
    ReturnsInHanded {} Try.checked os 3 .any (Rows.fnExactFeedCutterSpec.pre6 enc Try.prog Try.f3 Rows.fnExactFeedCutterRow.domain false) (Rows.fnExactFeedCutterSpec.post enc Try.prog Try.f3 false true false false) := by
  refine returnsInHanded_of_change (C := Try.checked) fnExactFeedCutter_own started (by kernel_rfl) Try.func3
    (ChangeSpec.witness6 (enc := enc) (C := Try.checked) false ⟨#[], #[.agg #[.int .i64 0, .int .i64 0, .int .i64 0, .int .u32 0, .slice none 0 0], .slice none 0 0], []⟩ 8 (by kernel_rfl) (by kernel_rfl) (by kernel_rfl) (by kernel_rfl)) ?_
  intro W base args ds gs before hval hW hcnd _
  refine law_contract (P := Try.prog) (ps := (.pair (.pair (.pair (.int .i64) (.pair (.int .i64) (.pair (.int .i64) .unit))) (.pair (.int .u32) (.pair (.slice (.int .u8)) .unit))) (.pair (.slice (.int .u8)) .unit))) (raw := fun x => Ai.G.laws_FnExactFeedCutter_d_r x.1 x.2.1) Ai.G.laws_FnExactFeedCutter_d_conOk Ai.G.laws_FnExactFeedCutter_ok fnExactFeedCutter_ps (B := 4) (by kernel_rfl) (by kernel_rfl) fnExactFeedCutter_laid (by kernel_rfl) rfl (fun ds hds => ?_) hval hW (fun x hx => ?_)
  · have hn : Try.f3.params.toList.length = 2 := by kernel_rfl
    rw [hn] at hds
    match ds, hds with
    | [d0, d1], _ => rfl
  · exact Ai.H.FnExactFeedCutter_true x.1 x.2.1 (args_ok _ _ x hx)

theorem fnExactFeedCutter_holds : Rows.FnExactFeedCutterSaid :=
  OpenClaim.holds_of_wide 3 Try.f3 rfl rfl rfl rfl rfl rfl rfl ⟨rfl, rfl, rfl, rfl, rfl⟩ rfl rfl rfl rfl rfl (by kernel_rfl) Try.func3 (by kernel_rfl)
    (of_decide_eq_true (by kernel_rfl)) (by unfold Func.isWrapper; first | (rw [if_pos (by decide +kernel)]; kernel_rfl) | (rw [if_neg (by decide +kernel)]; exact ⟨rfl, rfl⟩))
    (fun os started H enc _ => fnExactFeedCutter_lifted os started H enc)
end Go.Proofs.Ytafhfllnkijfhab
