/-
  FnExactFetchAll: for every input that can be read the law returns true, and each argument reads afterwards as it read before. Conditions: none beyond the given row.
-/
import Derived.Test.YtkpacjofafjonabGreatRows
import Derived.Test.YtkpacjofafjonabGreatExactFetchAllFn3
import Derived.Test.YtkpacjofafjonabGreatExactFetchAllH0
import Derived.Test.YtkpacjofafjonabGreatExactFetchAllH1
import Derived.ProofKit
namespace Go.Proofs.YtkpacjofafjonabGreat
open Go.Ai Go.RowKit
set_option maxRecDepth 100000

theorem a9p : ownKnob Tryz.prog.godebug = none := by kernel_rfl
theorem a8u : laidOutB Tryz.prog = true := by kernel_rfl
theorem b0h : B3v Tryz.prog (.pair (.pair (.slice (.pair (.int .u8) (.pair (.slice (.int .u8)) .unit))) .unit) (.pair (.pair (.slice (.pair (.int .u8) (.pair (.slice (.int .u8)) .unit))) .unit) (.pair (.slice (.arr 32 (.int .u8))) (.pair (.int .i64) (.pair (.int .i64) (.pair (.int .i64) .unit)))))) Tryz.f4.params.toList := B4M (Ai.G.laws_FnExactFetchAll_d_tabs Ai.G.FUEL).tab.c _ _ (by kernel_rfl)
theorem a9o (W : World) : GOk Tryz.prog W := by
  intro t ht g hg
  have ht := List.mem_singleton.1 ht
  subst ht
  have hn : Tryz.prog.globalNamed "internal/strconv.uint64pow10" = none := by kernel_rfl
  rw [hn] at hg; cases hg

theorem a7d (os : Os) (started : os.Started) (H : Type) (enc : TypeId × Value → H) :
    ReturnsInHanded {} Tryz.checked os 4 .any (Rows.fnExactFetchAllSpec.pre6 enc Tryz.prog Tryz.f4 Rows.fnExactFetchAllRow.domain false) (Rows.fnExactFetchAllSpec.post enc Tryz.prog Tryz.f4 false true false false) := by
  refine returnsInHanded_of_change (C := Tryz.checked) a9p started (by kernel_rfl) Tryz.func4
    (ChangeSpec.witness6 (enc := enc) (C := Tryz.checked) false ⟨#[], #[.agg #[.slice none 0 0], .agg #[.slice none 0 0], .slice none 0 0, .int .i64 0, .int .i64 0, .int .i64 0], []⟩ 8 (by kernel_rfl) (by kernel_rfl) (by kernel_rfl) (by kernel_rfl)) ?_
  intro W base args ds gs before hval hW hcnd _ 
  refine B4H (P := Tryz.prog) (ps := (.pair (.pair (.slice (.pair (.int .u8) (.pair (.slice (.int .u8)) .unit))) .unit) (.pair (.pair (.slice (.pair (.int .u8) (.pair (.slice (.int .u8)) .unit))) .unit) (.pair (.slice (.arr 32 (.int .u8))) (.pair (.int .i64) (.pair (.int .i64) (.pair (.int .i64) .unit))))))) (raw := fun x => Ai.G.laws_FnExactFetchAll_d_r x.1 x.2.1 x.2.2.1 x.2.2.2.1 x.2.2.2.2.1 x.2.2.2.2.2.1) Ai.G.laws_FnExactFetchAll_d_conOk Ai.G.laws_FnExactFetchAll_ok b0h (B := 4) (by kernel_rfl) (by kernel_rfl) a8u (by kernel_rfl) rfl (fun ds hds => ?_) hval hW (fun x hx => ?_) (a9o W)
  · have hn : Tryz.f4.params.toList.length = 6 := by kernel_rfl
    rw [hn] at hds
    match ds, hds with
    | [d0, d1, d2, d3, d4, d5], _ => rfl
  · exact Ai.H.FnExactFetchAll_true x.1 x.2.1 x.2.2.1 x.2.2.2.1 x.2.2.2.2.1 x.2.2.2.2.2.1 (B4u _ _ x hx)

theorem fnExactFetchAll_holds : Rows.FnExactFetchAllSaid :=
  OpenClaim.holds_of_wide 4 Tryz.f4 rfl rfl rfl rfl rfl rfl rfl ⟨rfl, rfl, rfl, rfl, rfl⟩ rfl rfl rfl rfl rfl (by kernel_rfl) Tryz.func4 (by kernel_rfl)
    (of_decide_eq_true (by kernel_rfl)) (by unfold Func.isWrapper; first | (rw [if_pos (by decide +kernel)]; kernel_rfl) | (rw [if_neg (by decide +kernel)]; exact ⟨rfl, rfl⟩))
    (fun os started H enc _ => a7d os started H enc)
end Go.Proofs.YtkpacjofafjonabGreat
