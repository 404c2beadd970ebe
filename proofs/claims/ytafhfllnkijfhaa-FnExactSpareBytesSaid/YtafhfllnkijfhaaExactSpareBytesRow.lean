/-
  FnExactSpareBytes: for every input that can be read the law returns true, and each argument reads afterwards as it read before. Conditions: none beyond the given row.
-/
import Derived.Test.YtafhfllnkijfhaaRows
import Derived.Test.YtafhfllnkijfhaaExactSpareBytesFn0
import Derived.Test.YtafhfllnkijfhaaExactSpareBytesH0
import Derived.ProofKit
namespace Go.Proofs.Ytafhfllnkijfhaa
open Go.Ai Go.RowKit
set_option maxRecDepth 100000

theorem fnExactSpareBytes_own : ownKnob Try.prog.godebug = none := by kernel_rfl
theorem fnExactSpareBytes_laid : laidOutB Try.prog = true := by kernel_rfl
theorem fnExactSpareBytes_ps : PsIs Try.prog (.pair (.pair (.int .i64) (.pair (.int .i64) (.pair (.int .i64) .unit))) (.pair (.slice (.int .u8)) (.pair (.slice (.int .u8)) .unit))) Try.f4.params.toList := psIs_of (Ai.G.laws_FnExactSpareBytes_tabs Ai.G.FUEL).tab.c _ _ (by kernel_rfl)
theorem fnExactSpareBytes_gok (W : World) : GOk Try.prog W := by
  intro t ht g hg
  have ht := List.mem_singleton.1 ht
  subst ht
  have hn : Try.prog.globalNamed "internal/strconv.uint64pow10" = none := by kernel_rfl
  rw [hn] at hg; cases hg

theorem fnExactSpareBytes_lifted (os : Os) (started : os.Started) (H : Type) (enc : TypeId × Value → H) :
    ReturnsInHanded {} Try.checked os 4 .any (Rows.fnExactSpareBytesSpec.pre6 enc Try.prog Try.f4 Rows.fnExactSpareBytesRow.domain false) (Rows.fnExactSpareBytesSpec.post enc Try.prog Try.f4 false true false false) := by
  refine returnsInHanded_of_change (C := Try.checked) fnExactSpareBytes_own started (by kernel_rfl) Try.func4
    (ChangeSpec.witness6 (enc := enc) (C := Try.checked) false ⟨#[], #[.agg #[.int .i64 0, .int .i64 0, .int .i64 0], .slice none 0 0, .slice none 0 0], []⟩ 8 (by kernel_rfl) (by kernel_rfl) (by kernel_rfl) (by kernel_rfl)) ?_
  intro W base args ds gs before hval hW hcnd _ 
  refine law_contract (P := Try.prog) (ps := (.pair (.pair (.int .i64) (.pair (.int .i64) (.pair (.int .i64) .unit))) (.pair (.slice (.int .u8)) (.pair (.slice (.int .u8)) .unit)))) (raw := fun x => Ai.G.laws_FnExactSpareBytes_r x.1 x.2.1 x.2.2.1) Ai.G.laws_FnExactSpareBytes_conOk Ai.G.laws_FnExactSpareBytes_ok fnExactSpareBytes_ps (B := 4) (by kernel_rfl) (by kernel_rfl) fnExactSpareBytes_laid (by kernel_rfl) rfl (fun ds hds => ?_) hval hW (fun x hx => ?_) (fnExactSpareBytes_gok W)
  · have hn : Try.f4.params.toList.length = 3 := by kernel_rfl
    rw [hn] at hds
    match ds, hds with
    | [d0, d1, d2], _ => rfl
  · exact Ai.H.FnExactSpareBytes_true x.1 x.2.1 x.2.2.1 (args_ok _ _ x hx)

theorem fnExactSpareBytes_holds : Rows.FnExactSpareBytesSaid :=
  OpenClaim.holds_of_wide 4 Try.f4 rfl rfl rfl rfl rfl rfl rfl ⟨rfl, rfl, rfl, rfl, rfl⟩ rfl rfl rfl rfl rfl (by kernel_rfl) Try.func4 (by kernel_rfl)
    (of_decide_eq_true (by kernel_rfl)) (by unfold Func.isWrapper; first | (rw [if_pos (by decide +kernel)]; kernel_rfl) | (rw [if_neg (by decide +kernel)]; exact ⟨rfl, rfl⟩))
    (fun os started H enc _ => fnExactSpareBytes_lifted os started H enc)
end Go.Proofs.Ytafhfllnkijfhaa
