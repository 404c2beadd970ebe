/-
  FnExactProofFromCopy: for every input that can be read the law returns true, and each argument reads afterwards as it read before. Conditions: none beyond the given row.
-/
import Derived.Test.YtgchclimojffeaaGreatRows
import Derived.Test.YtgchclimojffeaaGreatExactProofFromCopyFn1
import Derived.Test.YtgchclimojffeaaGreatExactProofFromCopyH0
import Derived.ProofKit
namespace Go.Proofs.YtgchclimojffeaaGreat
open Go.Ai Go.RowKit
set_option maxRecDepth 100000

theorem fnExactProofFromCopy_own : ownKnob Tryz.prog.godebug = none := by kernel_rfl
theorem fnExactProofFromCopy_laid : laidOutB Tryz.prog = true := by kernel_rfl
theorem fnExactProofFromCopy_ps : PsIs Tryz.prog (.pair (.pair (.slice (.pair (.int .u8) (.pair (.slice (.int .u8)) .unit))) .unit) (.pair (.arr 32 (.int .u8)) (.pair .str .unit))) Tryz.f4.params.toList := psIs_of (Ai.G.laws_FnExactProofFromCopy_d_tabs Ai.G.FUEL).tab.c _ _ (by kernel_rfl)
theorem fnExactProofFromCopy_gok (W : World) : GOk Tryz.prog W := by
  intro t ht g hg
  have ht := List.mem_singleton.1 ht
  subst ht
  have hn : Tryz.prog.globalNamed "internal/strconv.uint64pow10" = none := by kernel_rfl
  rw [hn] at hg; cases hg

theorem fnExactProofFromCopy_lifted (os : Os) (started : os.Started) (H : Type) (enc : TypeId × Value → H) :
    ReturnsInHanded {} Tryz.checked os 4 .any (Rows.fnExactProofFromCopySpec.pre6 enc Tryz.prog Tryz.f4 Rows.fnExactProofFromCopyRow.domain false) (Rows.fnExactProofFromCopySpec.post enc Tryz.prog Tryz.f4 false true false false) := by
  refine returnsInHanded_of_change (C := Tryz.checked) fnExactProofFromCopy_own started (by kernel_rfl) Tryz.func4
    (ChangeSpec.witness6 (enc := enc) (C := Tryz.checked) false ⟨#[], #[.agg #[.slice none 0 0], .agg #[.int .u8 0, .int .u8 0, .int .u8 0, .int .u8 0, .int .u8 0, .int .u8 0, .int .u8 0, .int .u8 0, .int .u8 0, .int .u8 0, .int .u8 0, .int .u8 0, .int .u8 0, .int .u8 0, .int .u8 0, .int .u8 0, .int .u8 0, .int .u8 0, .int .u8 0, .int .u8 0, .int .u8 0, .int .u8 0, .int .u8 0, .int .u8 0, .int .u8 0, .int .u8 0, .int .u8 0, .int .u8 0, .int .u8 0, .int .u8 0, .int .u8 0, .int .u8 0], .string ⟨#[]⟩], []⟩ 8 (by kernel_rfl) (by kernel_rfl) (by kernel_rfl) (by kernel_rfl)) ?_
  intro W base args ds gs before hval hW hcnd _ 
  refine law_contract (P := Tryz.prog) (ps := (.pair (.pair (.slice (.pair (.int .u8) (.pair (.slice (.int .u8)) .unit))) .unit) (.pair (.arr 32 (.int .u8)) (.pair .str .unit)))) (raw := fun x => Ai.G.laws_FnExactProofFromCopy_d_r x.1 x.2.1 x.2.2.1) Ai.G.laws_FnExactProofFromCopy_d_conOk Ai.G.laws_FnExactProofFromCopy_ok fnExactProofFromCopy_ps (B := 4) (by kernel_rfl) (by kernel_rfl) fnExactProofFromCopy_laid (by kernel_rfl) rfl (fun ds hds => ?_) hval hW (fun x hx => ?_) (fnExactProofFromCopy_gok W)
  · have hn : Tryz.f4.params.toList.length = 3 := by kernel_rfl
    rw [hn] at hds
    match ds, hds with
    | [d0, d1, d2], _ => rfl
  · exact Ai.H.FnExactProofFromCopy_true x.1 x.2.1 x.2.2.1 (args_ok _ _ x hx)

theorem fnExactProofFromCopy_holds : Rows.FnExactProofFromCopySaid :=
  OpenClaim.holds_of_wide 4 Tryz.f4 rfl rfl rfl rfl rfl rfl rfl ⟨rfl, rfl, rfl, rfl, rfl⟩ rfl rfl rfl rfl rfl (by kernel_rfl) Tryz.func4 (by kernel_rfl)
    (of_decide_eq_true (by kernel_rfl)) (by unfold Func.isWrapper; first | (rw [if_pos (by decide +kernel)]; kernel_rfl) | (rw [if_neg (by decide +kernel)]; exact ⟨rfl, rfl⟩))
    (fun os started H enc _ => fnExactProofFromCopy_lifted os started H enc)
end Go.Proofs.YtgchclimojffeaaGreat
