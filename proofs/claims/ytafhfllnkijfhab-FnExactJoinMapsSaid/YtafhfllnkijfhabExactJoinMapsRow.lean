/-
  FnExactJoinMaps: for every input that can be read the law returns true, and each argument reads afterwards as it read before. Conditions: none beyond the given row.
-/
import Derived.Test.YtafhfllnkijfhabRows
import Derived.Test.YtafhfllnkijfhabExactJoinMapsFn1
import Derived.Test.YtafhfllnkijfhabExactJoinMapsH0
import Derived.ProofKit
namespace Go.Proofs.Ytafhfllnkijfhab
open Go.Ai Go.RowKit
set_option maxRecDepth 100000

theorem fnExactJoinMaps_own : ownKnob Try.prog.godebug = none := by kernel_rfl
theorem fnExactJoinMaps_laid : laidOutB Try.prog = true := by kernel_rfl
theorem fnExactJoinMaps_ps : PsIs Try.prog (.pair (.slice (.pair .str (.pair .str .unit))) (.pair (.slice (.pair .str (.pair .str .unit))) (.pair (.slice (.pair .str (.pair .str .unit))) .unit))) Try.f5.params.toList := psIs_of (Ai.G.laws_FnExactJoinMaps_tabs Ai.G.FUEL).tab.c _ _ (by kernel_rfl)
theorem fnExactJoinMaps_lifted (os : Os) (started : os.Started) (H : Type) (enc : TypeId × Value → H) :
    ReturnsInHanded {} Try.checked os 5 .any (Rows.fnExactJoinMapsSpec.pre6 enc Try.prog Try.f5 Rows.fnExactJoinMapsRow.domain false) (Rows.fnExactJoinMapsSpec.post enc Try.prog Try.f5 false true false false) := by
  refine returnsInHanded_of_change (C := Try.checked) fnExactJoinMaps_own started (by kernel_rfl) Try.func5
    (ChangeSpec.witness6 (enc := enc) (C := Try.checked) false ⟨#[], #[.slice none 0 0, .slice none 0 0, .slice none 0 0], []⟩ 8 (by kernel_rfl) (by kernel_rfl) (by kernel_rfl) (by kernel_rfl)) ?_
  intro W base args ds gs before hval hW hcnd _
  refine law_contract (P := Try.prog) (ps := (.pair (.slice (.pair .str (.pair .str .unit))) (.pair (.slice (.pair .str (.pair .str .unit))) (.pair (.slice (.pair .str (.pair .str .unit))) .unit)))) (raw := fun x => Ai.G.laws_FnExactJoinMaps_r x.1 x.2.1 x.2.2.1) Ai.G.laws_FnExactJoinMaps_conOk Ai.G.laws_FnExactJoinMaps_ok fnExactJoinMaps_ps (B := 4) (by kernel_rfl) (by kernel_rfl) fnExactJoinMaps_laid (by kernel_rfl) rfl (fun ds hds => ?_) hval hW (fun x hx => ?_)
  · have hn : Try.f5.params.toList.length = 3 := by kernel_rfl
    rw [hn] at hds
    match ds, hds with
    | [d0, d1, d2], _ => rfl
  · exact Ai.H.FnExactJoinMaps_true x.1 x.2.1 x.2.2.1 (args_ok _ _ x hx)

theorem fnExactJoinMaps_holds : Rows.FnExactJoinMapsSaid :=
  OpenClaim.holds_of_wide 5 Try.f5 rfl rfl rfl rfl rfl rfl rfl ⟨rfl, rfl, rfl, rfl, rfl⟩ rfl rfl rfl rfl rfl (by kernel_rfl) Try.func5 (by kernel_rfl)
    (of_decide_eq_true (by kernel_rfl)) (by unfold Func.isWrapper; first | (rw [if_pos (by decide +kernel)]; kernel_rfl) | (rw [if_neg (by decide +kernel)]; exact ⟨rfl, rfl⟩))
    (fun os started H enc _ => fnExactJoinMaps_lifted os started H enc)
end Go.Proofs.Ytafhfllnkijfhab
