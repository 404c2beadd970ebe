/- An abstract machine over plain values for the model, and that it is sound. No conditions. -/
import Derived.Test.YtafhfllnkijfhaaDoorEg
import Derived.Shelf.Strconv.Itoa4
import Derived.Lib.ItoaLen
/- strconv.FormatInt at base 10, by the shelf. -/
namespace Go.Ai
open Go.RowKit Go.Proofs Go.Shelf Go.Sort
set_option linter.unusedVariables false
set_option linter.unusedSimpArgs false

variable {P : Program}

noncomputable def itoaR (n b : Int) : Option (List Int) := cond (decide (b = 10) && (decide (-9223372036854775808 ≤ n) && decide (n ≤ 9223372036854775807))) (some ((Lib.itoa n).map fun d => (d.toNat : Int))) none
noncomputable def itoaC : Con where
  ps := .pair (.int .i64) (.pair (.int .i64) .unit)
  sh := [.pl .str]
  raw := fun x => itoaR x.1 x.2.1

theorem itoa_con {ρ : Ren} (L : LaysM.n173 P ρ) {f : FuncId} (hf : ρ.f 173 = f) {i : Inl} (hi : InlOk P f i) : ConOk P f itoaC := by
  subst hf
  intro w X args xs y hX hargs hraw hG
  obtain ⟨n, b, u⟩ := xs
  obtain ⟨v1, r1, c1, e1, b1, p1, v2, r2, c2, e2, b2, p2, e3⟩ := hargs
  obtain ⟨hc, hy⟩ := cond_some hraw
  simp only [Bool.and_eq_true, decide_eq_true_eq] at hc
  obtain ⟨h10, h0, h1⟩ := hc
  have hy : ((Lib.itoa n).map fun d => (d.toNat : Int)) = y := Option.some.inj hy
  subst hy
  have ev : ∀ {v : Value} {m : Int} {cs : List Value}, boxed (Ty.int .i64).isAgg v cs → Rep w X (.int .i64) cs m → v = .int .i64 m := by
    intro v m cs q1 ⟨q2, _⟩
    subst q2
    simpa [boxed, Ty.isAgg, eq_comm] using q1
  have hv1 := ev b1 p1
  have hv2 := ev b2 p2
  change b = 10 at h10
  change v2 = .int .i64 b at hv2
  change v1 = .int .i64 n at hv1
  change -9223372036854775808 ≤ n at h0
  change n ≤ 9223372036854775807 at h1
  have ha : args = #[.int .i64 n, .int .i64 10] := by
    apply Array.toList_inj.1
    rw [e1, e2, e3, hv1, hv2, h10]
  rw [ha]
  refine .inl ⟨hi.enter _ w, ?_⟩
  refine (Any.strconv_FormatInt_10 L n h0 h1 w (hG ("internal/strconv.uint64pow10", .u64, Lib.pow10Tab) (by simp [libTabs]) _ L.m17)).mono ?_
  rintro e w' ⟨rfl, k, os, rfl⟩
  refine ⟨_, rfl, ⟨rfl, rfl, rfl, ?_, fun k hk _ => ?_⟩, fun _ => none, ⟨fun i b hb => by simp [itoaC, mkH, mkHs, mkOne, hget] at hb, fun i j _ hi => by simp [itoaC, mkH, mkHs, mkOne, hget] at hi⟩, ?_⟩
  · simp [grow, World.drewN]
  · simp [grow, World.drewN, Array.getElem?_append_left hk]
  · refine ⟨[.string ⟨(Lib.itoa n).toArray⟩], rfl, ⟨(Lib.itoa n).toArray⟩, rfl, ?_, ?_⟩
    · simp [bytesI]
    · have := Lib.itoa_length_le n h0 h1
      simp only [ByteArray.size, List.size_toArray]
      unfold maxLen
      omega
end Go.Ai

