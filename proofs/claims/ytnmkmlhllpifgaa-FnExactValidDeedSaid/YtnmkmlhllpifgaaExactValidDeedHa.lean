import Derived.Test.YtnmkmlhllpifgaaEd
import Derived.Test.YtnmkmlhllpifgaaExactValidDeedFn0
/- Deeds: ValidDeed. -/
namespace Go.Ai.H
open Go.Ai.G
set_option linter.unusedSimpArgs false
set_option linter.unusedVariables false

/-- Is a number from low to high? -/
def inR (low a high : Int) : Bool := decide (low ≤ a) && decide (a ≤ high)
theorem inR_iff {b a c : Int} : inR b a c = true ↔ b ≤ a ∧ a ≤ c := by simp [inR]
theorem within_eq (a b c : Int) : impl_within_r a b c = some (inR b a c) := by
  unfold impl_within_r inR
  by_cases h : b ≤ a <;> simp [h]
theorem l00In_eq (a b c : Int) : spec_l00In_r a b c = some (inR b a c) := by
  unfold spec_l00In_r inR
  by_cases h : b ≤ a <;> simp [h]

def numbersOf (k : Int) : Int := if k = 2 then 3 else if k = 6 then 2 else if 1 ≤ k ∧ k ≤ 8 then 1 else 0
/-- A deed that is valid. -/
def goodDeed (d : Int × Int × Int × Int × Unit) : Bool :=
  inR 1 d.1 8 && inR 0 d.2.1 999 && inR 0 d.2.2.1 999 && inR 0 d.2.2.2.1 999 && (decide (1 < numbersOf d.1) || decide (d.2.2.1 = 0)) && (decide (2 < numbersOf d.1) || decide (d.2.2.2.1 = 0))

theorem impl_ValidDeed_eq (d : Int × Int × Int × Int × Unit) : impl_ValidDeed_r d = some (goodDeed d) := by
  obtain ⟨k, a, b, c, u⟩ := d
  unfold impl_ValidDeed_r
  simp only [within_eq, bindO_mk, goodDeed]
  generalize inR 0 a 999 = p; generalize inR 0 b 999 = q; generalize inR 0 c 999 = r
  cases hk : inR 1 k 8 with
  | true =>
    rw [inR_iff] at hk
    have : k = 1 ∨ k = 2 ∨ k = 3 ∨ k = 4 ∨ k = 5 ∨ k = 6 ∨ k = 7 ∨ k = 8 := by omega
    rcases this with rfl | rfl | rfl | rfl | rfl | rfl | rfl | rfl <;> simp [impl_deedWord_r, bindO_mk, numbersOf] <;>
      cases p <;> cases q <;> cases r <;> by_cases h4 : b = 0 <;> by_cases h5 : c = 0 <;> simp [h4, h5]
  | false =>
    have hk' : ¬ (1 ≤ k ∧ k ≤ 8) := by rw [← inR_iff, hk]; simp
    have h1 : k ≠ 1 := by omega
    have h2 : k ≠ 2 := by omega
    have h3 : k ≠ 3 := by omega
    have h4 : k ≠ 4 := by omega
    have h5 : k ≠ 5 := by omega
    have h6 : k ≠ 6 := by omega
    have h7 : k ≠ 7 := by omega
    have h8 : k ≠ 8 := by omega
    simp [impl_deedWord_r, bindO_mk, h1, h2, h3, h4, h5, h6, h7, h8]

theorem spec_l09Deed_eq (d : Int × Int × Int × Int × Unit) : spec_l09Deed_r d = some (goodDeed d) := by
  obtain ⟨k, a, b, c, u⟩ := d
  unfold spec_l09Deed_r
  simp only [l00In_eq, bindO_mk, goodDeed]
  generalize inR 0 a 999 = p; generalize inR 0 b 999 = q; generalize inR 0 c 999 = r
  cases hk : inR 1 k 8 with
  | true =>
    rw [inR_iff] at hk
    have : k = 1 ∨ k = 2 ∨ k = 3 ∨ k = 4 ∨ k = 5 ∨ k = 6 ∨ k = 7 ∨ k = 8 := by omega
    rcases this with rfl | rfl | rfl | rfl | rfl | rfl | rfl | rfl <;> simp [spec_l09Words_r, bindO_mk, numbersOf] <;>
      cases p <;> cases q <;> cases r <;> by_cases h4 : b = 0 <;> by_cases h5 : c = 0 <;> simp [h4, h5]
  | false => simp

theorem FnExactValidDeed_true (d : Int × Int × Int × Int × Unit) (h : Ty.ok (.pair (.pair (.int .i64) (.pair (.int .i64) (.pair (.int .i64) (.pair (.int .i64) .unit)))) .unit) (d, ())) : laws_FnExactValidDeed_r d = some true := by
  unfold laws_FnExactValidDeed_r laws_toDeed_r spec_ValidDeed_r
  simp [bindO_mk, spec_l09Deed_eq, impl_ValidDeed_eq]

end Go.Ai.H
