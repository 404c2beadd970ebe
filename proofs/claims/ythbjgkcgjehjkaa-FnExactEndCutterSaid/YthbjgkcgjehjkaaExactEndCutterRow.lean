/-
  FnExactEndCutter: for every input that can be read the law returns true, and each argument reads afterwards as it read before. Conditions: none beyond the given row.
-/
import Derived.Test.YthbjgkcgjehjkaaRows
import Derived.Test.YthbjgkcgjehjkaaExactEndCutterFn1
import Derived.Test.YthbjgkcgjehjkaaExactEndCutterH0
import Derived.ProofKit
namespace Go.Proofs.Ythbjgkcgjehjkaa
open Go.Ai Go.RowKit
set_option maxRecDepth 100000

theorem fnExactEndCutter_own : ownKnob Try.prog.godebug = none := by kernel_rfl
theorem fnExactEndCutter_laid : laidOutB Try.prog = true := by kernel_rfl
theorem fnExactEndCutter_ps : PsIs Try.prog (.pair (.pair (.pair (.int .i64) (.pair (.int .i64) (.pair (.int .i64) .unit))) (.pair (.int .u32) (.pair (.slice (.int .u8)) .unit))) .unit) Try.f5.params.toList := psIs_of (Ai.G.laws_FnExactEndCutter_tabs Ai.G.FUEL).tab.c _ _ (by kernel_rfl)
theorem fnExactEndCutter_lifted (os : Os) (started : os.Started) (H : Type) (enc : TypeId × Value → H) :
    ReturnsInHanded {} Try.checked os 5 .any (Rows.fnExactEndCutterSpec.pre6 enc Try.prog Try.f5 Rows.fnExactEndCutterRow.domain false) (Rows.fnExactEndCutterSpec.post enc Try.prog Try.f5 false true false false) := by
  refine returnsInHanded_of_change (C := Try.checked) fnExactEndCutter_own started (by kernel_rfl) Try.func5
    (ChangeSpec.witness6 (enc := enc) (C := Try.checked) false ⟨#[], #[.agg #[.int .i64 0, .int .i64 0, .int .i64 0, .int .u32 0, .slice none 0 0]], []⟩ 8 (by kernel_rfl) (by kernel_rfl) (by kernel_rfl) (by kernel_rfl)) ?_
  intro W base args ds gs before hval hW hcnd _
  refine law_contract (P := Try.prog) (ps := (.pair (.pair (.pair (.int .i64) (.pair (.int .i64) (.pair (.int .i64) .unit))) (.pair (.int .u32) (.pair (.slice (.int .u8)) .unit))) .unit)) (raw := fun x => Ai.G.laws_FnExactEndCutter_r x.1) Ai.G.laws_FnExactEndCutter_conOk Ai.G.laws_FnExactEndCutter_ok fnExactEndCutter_ps (B := 4) (by kernel_rfl) (by kernel_rfl) fnExactEndCutter_laid (by kernel_rfl) rfl (fun ds hds => ?_) hval hW (fun x hx => ?_)
  · have hn : Try.f5.params.toList.length = 1 := by kernel_rfl
    rw [hn] at hds
    match ds, hds with
    | [d0], _ => rfl
  · exact Ai.H.FnExactEndCutter_true x.1 (args_ok _ _ x hx)

theorem fnExactEndCutter_holds : Rows.FnExactEndCutterSaid :=
  OpenClaim.holds_of_wide 5 Try.f5 rfl rfl rfl rfl rfl rfl rfl ⟨rfl, rfl, rfl, rfl, rfl⟩ rfl rfl rfl rfl rfl (by kernel_rfl) Try.func5 (by kernel_rfl)
    (of_decide_eq_true (by kernel_rfl)) (by unfold Func.isWrapper; first | (rw [if_pos (by decide +kernel)]; kernel_rfl) | (rw [if_neg (by decide +kernel)]; exact ⟨rfl, rfl⟩))
    (fun os started H enc _ => fnExactEndCutter_lifted os started H enc)
end Go.Proofs.Ythbjgkcgjehjkaa
