/-
  FnExactTakeBlobs: for every input that can be read the law returns true, and each argument reads afterwards as it read before. Conditions: none beyond the given row.
-/
import Derived.Test.YtgchclimojffeaaGreatRows
import Derived.Test.YtgchclimojffeaaGreatExactTakeBlobsFn2
import Derived.Test.YtgchclimojffeaaGreatExactTakeBlobsH0
import Derived.ProofKit
namespace Go.Proofs.YtgchclimojffeaaGreat
open Go.Ai Go.RowKit
set_option maxRecDepth 100000

theorem fnExactTakeBlobs_own : ownKnob Tryz.prog.godebug = none := by kernel_rfl
theorem fnExactTakeBlobs_laid : laidOutB Tryz.prog = true := by kernel_rfl
theorem fnExactTakeBlobs_ps : PsIs Tryz.prog (.pair (.pair (.slice (.pair (.int .u8) (.pair (.slice (.int .u8)) .unit))) .unit) (.pair (.slice (.arr 32 (.int .u8))) (.pair (.slice (.pair (.int .u8) (.pair (.slice (.int .u8)) .unit))) .unit))) Tryz.f5.params.toList := psIs_of (Ai.G.laws_FnExactTakeBlobs_d_tabs Ai.G.FUEL).tab.c _ _ (by kernel_rfl)
theorem fnExactTakeBlobs_gok (W : World) : GOk Tryz.prog W := by
  intro t ht g hg
  have ht := List.mem_singleton.1 ht
  subst ht
  have hn : Tryz.prog.globalNamed "internal/strconv.uint64pow10" = none := by kernel_rfl
  rw [hn] at hg; cases hg

theorem fnExactTakeBlobs_lifted (os : Os) (started : os.Started) (H : Type) (enc : TypeId × Value → H) :
    ReturnsInHanded {} Tryz.checked os 5 .any (Rows.fnExactTakeBlobsSpec.pre6 enc Tryz.prog Tryz.f5 Rows.fnExactTakeBlobsRow.domain false) (Rows.fnExactTakeBlobsSpec.post enc Tryz.prog Tryz.f5 false true false false) := by
  refine returnsInHanded_of_change (C := Tryz.checked) fnExactTakeBlobs_own started (by kernel_rfl) Tryz.func5
    (ChangeSpec.witness6 (enc := enc) (C := Tryz.checked) false ⟨#[], #[.agg #[.slice none 0 0], .slice none 0 0, .slice none 0 0], []⟩ 8 (by kernel_rfl) (by kernel_rfl) (by kernel_rfl) (by kernel_rfl)) ?_
  intro W base args ds gs before hval hW hcnd _ 
  refine law_contract (P := Tryz.prog) (ps := (.pair (.pair (.slice (.pair (.int .u8) (.pair (.slice (.int .u8)) .unit))) .unit) (.pair (.slice (.arr 32 (.int .u8))) (.pair (.slice (.pair (.int .u8) (.pair (.slice (.int .u8)) .unit))) .unit)))) (raw := fun x => Ai.G.laws_FnExactTakeBlobs_d_r x.1 x.2.1 x.2.2.1) Ai.G.laws_FnExactTakeBlobs_d_conOk Ai.G.laws_FnExactTakeBlobs_ok fnExactTakeBlobs_ps (B := 4) (by kernel_rfl) (by kernel_rfl) fnExactTakeBlobs_laid (by kernel_rfl) rfl (fun ds hds => ?_) hval hW (fun x hx => ?_) (fnExactTakeBlobs_gok W)
  · have hn : Tryz.f5.params.toList.length = 3 := by kernel_rfl
    rw [hn] at hds
    match ds, hds with
    | [d0, d1, d2], _ => rfl
  · exact Ai.H.FnExactTakeBlobs_true x.1 x.2.1 x.2.2.1 (args_ok _ _ x hx)

theorem fnExactTakeBlobs_holds : Rows.FnExactTakeBlobsSaid :=
  OpenClaim.holds_of_wide 5 Tryz.f5 rfl rfl rfl rfl rfl rfl rfl ⟨rfl, rfl, rfl, rfl, rfl⟩ rfl rfl rfl rfl rfl (by kernel_rfl) Tryz.func5 (by kernel_rfl)
    (of_decide_eq_true (by kernel_rfl)) (by unfold Func.isWrapper; first | (rw [if_pos (by decide +kernel)]; kernel_rfl) | (rw [if_neg (by decide +kernel)]; exact ⟨rfl, rfl⟩))
    (fun os started H enc _ => fnExactTakeBlobs_lifted os started H enc)
end Go.Proofs.YtgchclimojffeaaGreat
