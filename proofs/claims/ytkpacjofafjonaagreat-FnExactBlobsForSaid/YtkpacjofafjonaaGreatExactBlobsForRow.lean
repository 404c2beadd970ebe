/-
  FnExactBlobsFor: for every input that can be read the law returns true, and each argument reads afterwards as it read before. Conditions: none beyond the given row.
-/
import Derived.Test.YtkpacjofafjonaaGreatRows
import Derived.Test.YtkpacjofafjonaaGreatExactBlobsForFn2
import Derived.Test.YtkpacjofafjonaaGreatExactBlobsForH0
import Derived.Test.YtkpacjofafjonaaGreatExactBlobsForH1
import Derived.ProofKit
namespace Go.Proofs.YtkpacjofafjonaaGreat
open Go.Ai Go.RowKit
set_option maxRecDepth 100000

theorem fnExactBlobsFor_own : ownKnob Tryz.prog.godebug = none := by kernel_rfl
theorem fnExactBlobsFor_laid : laidOutB Tryz.prog = true := by kernel_rfl
theorem fnExactBlobsFor_ps : PsIs Tryz.prog (.pair (.pair (.slice (.pair (.int .u8) (.pair (.slice (.int .u8)) .unit))) .unit) (.pair (.slice (.arr 32 (.int .u8))) (.pair (.slice (.arr 32 (.int .u8))) .unit))) Tryz.f6.params.toList := psIs_of (Ai.G.laws_FnExactBlobsFor_d_tabs Ai.G.FUEL).tab.c _ _ (by kernel_rfl)
theorem fnExactBlobsFor_gok (W : World) : GOk Tryz.prog W := by
  intro t ht g hg
  have ht := List.mem_singleton.1 ht
  subst ht
  have hn : Tryz.prog.globalNamed "internal/strconv.uint64pow10" = none := by kernel_rfl
  rw [hn] at hg; cases hg

theorem fnExactBlobsFor_lifted (os : Os) (started : os.Started) (H : Type) (enc : TypeId × Value → H) :
    ReturnsInHanded {} Tryz.checked os 6 .any (Rows.fnExactBlobsForSpec.pre6 enc Tryz.prog Tryz.f6 Rows.fnExactBlobsForRow.domain false) (Rows.fnExactBlobsForSpec.post enc Tryz.prog Tryz.f6 false true false false) := by
  refine returnsInHanded_of_change (C := Tryz.checked) fnExactBlobsFor_own started (by kernel_rfl) Tryz.func6
    (ChangeSpec.witness6 (enc := enc) (C := Tryz.checked) false ⟨#[], #[.agg #[.slice none 0 0], .slice none 0 0, .slice none 0 0], []⟩ 8 (by kernel_rfl) (by kernel_rfl) (by kernel_rfl) (by kernel_rfl)) ?_
  intro W base args ds gs before hval hW hcnd _ 
  refine law_contract (P := Tryz.prog) (ps := (.pair (.pair (.slice (.pair (.int .u8) (.pair (.slice (.int .u8)) .unit))) .unit) (.pair (.slice (.arr 32 (.int .u8))) (.pair (.slice (.arr 32 (.int .u8))) .unit)))) (raw := fun x => Ai.G.laws_FnExactBlobsFor_d_r x.1 x.2.1 x.2.2.1) Ai.G.laws_FnExactBlobsFor_d_conOk Ai.G.laws_FnExactBlobsFor_ok fnExactBlobsFor_ps (B := 4) (by kernel_rfl) (by kernel_rfl) fnExactBlobsFor_laid (by kernel_rfl) rfl (fun ds hds => ?_) hval hW (fun x hx => ?_) (fnExactBlobsFor_gok W)
  · have hn : Tryz.f6.params.toList.length = 3 := by kernel_rfl
    rw [hn] at hds
    match ds, hds with
    | [d0, d1, d2], _ => rfl
  · exact Ai.H.FnExactBlobsFor_true x.1 x.2.1 x.2.2.1 (args_ok _ _ x hx)

theorem fnExactBlobsFor_holds : Rows.FnExactBlobsForSaid :=
  OpenClaim.holds_of_wide 6 Tryz.f6 rfl rfl rfl rfl rfl rfl rfl ⟨rfl, rfl, rfl, rfl, rfl⟩ rfl rfl rfl rfl rfl (by kernel_rfl) Tryz.func6 (by kernel_rfl)
    (of_decide_eq_true (by kernel_rfl)) (by unfold Func.isWrapper; first | (rw [if_pos (by decide +kernel)]; kernel_rfl) | (rw [if_neg (by decide +kernel)]; exact ⟨rfl, rfl⟩))
    (fun os started H enc _ => fnExactBlobsFor_lifted os started H enc)
end Go.Proofs.YtkpacjofafjonaaGreat
