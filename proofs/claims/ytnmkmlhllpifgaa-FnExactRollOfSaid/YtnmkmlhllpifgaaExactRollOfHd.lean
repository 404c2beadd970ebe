import Derived.Test.YtnmkmlhllpifgaaEd
import Derived.Test.YtnmkmlhllpifgaaExactRollOfFn0
import Derived.Test.YtnmkmlhllpifgaaExactRollOfHc
/- Copies and comparisons of the laws, and rolling values: RollOf. -/
namespace Go.Ai.H
open Go.Ai.G Go.IntWalk
set_option linter.unusedSimpArgs false
set_option linter.unusedVariables false

/-! ### A list laid out element by element -/
theorem upto_copy {α : Type} (xs : List α) (d : α) : ∀ m x (z : List α), x + m = xs.length → z.length = xs.length → (∀ j, j < x → z[j]? = xs[j]?) → upto (fun i z => z.set i (xs.getD i d)) m x z = xs
  | 0, x, z, hx, hl, hz => by
    have : x = xs.length := by omega
    subst this
    apply List.ext_getElem?
    intro j
    by_cases hj : j < xs.length
    · exact hz j hj
    · simp only [upto]
      rw [List.getElem?_eq_none (by omega), List.getElem?_eq_none (by omega)]
  | m + 1, x, z, hx, hl, hz => by
    refine upto_copy xs d m (x + 1) _ (by omega) (by simpa using hl) fun j hj => ?_
    rw [List.getElem?_set]
    split
    · rename_i e; subst e
      rw [if_pos (by omega)]
      simp [List.getD, List.getElem?_eq_getElem (show x < xs.length by omega)]
    · exact hz j (by omega)

theorem toByteS_eq (xs : List Int) (h : xs.length ≤ 140737488355328) : laws_toByteS_r xs = some xs := by
  unfold laws_toByteS_r
  rw [dec_t (p := (0 : Int) ≤ (xs.length : Int)) (by omega), dec_t (p := (xs.length : Int) * 1 ≤ 140737488355328) (by omega), dec_t (p := (xs.length : Int) ≤ 9223372036854775807) (by omega)]
  have := loop_up (fun n x s => laws_toByteS_l0_L (fun z70 => some z70) xs n (x : Int) s) xs.length (fun i z => z.set i (xs.getD i 0)) (fun z => some z) (fun _ z => z.length = xs.length) ?_ (fun x s _ h => by simpa using h) ?_ xs.length FUEL 0 (List.replicate xs.length 0) (by omega) (fuel_le (by omega)) (by simp)
  · rw [upto_copy xs 0 _ 0 _ (by omega) (by simp) (fun j hj => by omega)] at this
    exact this
  · intro n x s hx hs
    show laws_toByteS_l0_b (laws_toByteS_l0_L (fun z70 => some z70) xs n) (fun z70 => some z70) xs (x : Int) s = _
    unfold laws_toByteS_l0_b
    rw [dec_t (p := (x : Int) < (xs.length : Int)) (by omega), dec_t (p := (0 : Int) ≤ (x : Int)) (by omega), dec_t (p := (x : Int) < (s.length : Int)) (by omega), w64 (n := (x : Int) + 1) (by omega) (by omega)]
    rfl
  · intro n s hs
    show laws_toByteS_l0_b (laws_toByteS_l0_L (fun z70 => some z70) xs n) (fun z70 => some z70) xs (xs.length : Int) s = _
    unfold laws_toByteS_l0_b
    rw [dec_f (p := (xs.length : Int) < (xs.length : Int)) (by omega)]
    rfl

theorem eqByteS_same (xs : List Int) (h : xs.length ≤ 140737488355328) : laws_eqByteS_r xs xs = some true := by
  unfold laws_eqByteS_r
  simp only [decide_true, Bool.not_true, cond]
  refine loop_up (fun n x (_ : Unit) => laws_eqByteS_l0_L (some false) (some true) xs xs n (x : Int)) xs.length (fun _ s => s) (fun _ => some true) (fun _ _ => True) ?_ (fun _ _ _ _ => trivial) ?_ xs.length FUEL 0 () (by omega) (fuel_le (by omega)) trivial
  · intro n x s hx hs
    show laws_eqByteS_l0_b (laws_eqByteS_l0_L (some false) (some true) xs xs n) (some false) (some true) xs xs (x : Int) = _
    unfold laws_eqByteS_l0_b
    rw [dec_t (p := (x : Int) < (xs.length : Int)) (by omega), dec_t (p := (0 : Int) ≤ (x : Int)) (by omega), w64 (n := (x : Int) + 1) (by omega) (by omega)]
    simp
  · intro n s hs
    show laws_eqByteS_l0_b (laws_eqByteS_l0_L (some false) (some true) xs xs n) (some false) (some true) xs xs (xs.length : Int) = _
    unfold laws_eqByteS_l0_b
    rw [dec_f (p := (xs.length : Int) < (xs.length : Int)) (by omega)]
    rfl

/-! ### Rolling values -/
/-- The number of a byte. -/
noncomputable def rollT (c : Int) : Int := (mixF (startF 7) ((List.replicate 32 0).set 0 c)).getD 0 0
theorem bytesOk_one {c : Int} (h : 0 ≤ c ∧ c < 256) : bytesOk ((List.replicate 32 0).set 0 c) := by
  refine set_ok (fun x hx => ?_) h
  have := List.eq_of_mem_replicate hx
  subst this; omega
theorem l02Word_eq {c : Int} (h : 0 ≤ c ∧ c < 256) : spec_l02Word_r c = some (rollT c) := by
  unfold spec_l02Word_r
  rw [spec_Start_eq, bindO_mk, spec_Mix_eq _ _ (bytesOk_one h)]
  rfl
theorem rollT_lo (c : Int) : 0 ≤ rollT c ∧ rollT c < 4294967296 := getD_bound (mixF_ok _ (startF_ok 7)).2 0

/-- The rolling value behind a further byte. -/
noncomputable def rollF (r c : Int) : Int := IntKind.wrap .u32 (IntKind.wrap .u32 (2 * r) + rollT c)
theorem l02Roll_eq (r : Int) {c : Int} (h : 0 ≤ c ∧ c < 256) : spec_l02Roll_r r c = some (rollF r c) := by
  unfold spec_l02Roll_r
  rw [l02Word_eq h]; rfl

noncomputable def tableF : List Int := (List.range 256).map fun (b : Nat) => rollT (b : Int)
theorem table_get {c : Int} (h : 0 ≤ c ∧ c < 256) : tableF.getD c.toNat 0 = rollT c := by
  obtain ⟨n, rfl⟩ := Int.eq_ofNat_of_zero_le h.1
  have hn : n < 256 := by omega
  simp only [Int.toNat_natCast]
  unfold tableF
  simp [List.getD, hn]

theorem RollTable_eq : impl_RollTable_r = some tableF := by
  unfold impl_RollTable_r
  rw [impl_Start_eq, bindO_mk]
  have := loop_up (fun n x s => impl_RollTable_l0_L (fun y10 => some y10) n (startF 7) (x : Int) s) 256 (fun i z => z.set i (tableF.getD i 0)) (fun z => some z) (fun _ z => z.length = 256) ?_ (fun x s _ h => by simpa using h) ?_ 256 FUEL 0 (List.replicate 256 0) (by omega) (fuel_le (by omega)) List.length_replicate
  · have hl : tableF.length = 256 := by simp [tableF]
    have hc := upto_copy tableF 0 256 0 (List.replicate 256 0) (by omega) (by rw [hl]; exact List.length_replicate) (fun j hj => by omega)
    rw [hc] at this
    exact this
  · intro n x s hx hs
    show impl_RollTable_l0_b (impl_RollTable_l0_L (fun y10 => some y10) n) (fun y10 => some y10) (startF 7) (x : Int) s = _
    unfold impl_RollTable_l0_b
    rw [wu8 (n := (x : Int)) (by omega) (by omega), impl_Mix_eq _ _ (bytesOk_one (by omega)) (by simp), bindO_mk, dec_t (p := (x : Int) < 256) (by omega), dec_t (p := (0 : Int) ≤ (x : Int)) (by omega), w64 (n := (x : Int) + 1) (by omega) (by omega)]
    have ht := table_get (c := (x : Int)) (by omega)
    simp only [Int.toNat_natCast] at ht ⊢
    rw [ht]
    rfl
  · intro n s _; rfl

/-- The rolling value of bytes behind a value. -/
noncomputable def rolls (r : Int) (xs : List Int) : Int := xs.foldl rollF r

theorem rolls_mod : ∀ (xs : List Int) (r : Int), ∃ q : Int, ∀ r' : Int, rolls r' xs % 4294967296 = (2 ^ xs.length * r' + q) % 4294967296 := by
  intro xs
  induction xs with
  | nil => intro r; exact ⟨0, fun r' => by simp [rolls]⟩
  | cons c xs ih =>
    intro r
    obtain ⟨q, hq⟩ := ih r
    refine ⟨2 ^ xs.length * rollT c + q, fun r' => ?_⟩
    have h1 : rolls r' (c :: xs) = rolls (rollF r' c) xs := rfl
    rw [h1, hq (rollF r' c)]
    unfold rollF
    rw [IntKind.wrap_u32, IntKind.wrap_u32]
    have h2 : (2 * r' % 4294967296 + rollT c) % 4294967296 = (2 * r' + rollT c) % 4294967296 := by omega
    rw [h2]
    rw [List.length_cons]
    have h3 : (2 : Int) ^ (xs.length + 1) * r' + (2 ^ xs.length * rollT c + q) = 2 ^ xs.length * (2 * r' + rollT c) + q := by rw [Int.pow_succ, Int.mul_add]; rw [Int.mul_assoc]; omega
    rw [h3, Int.add_emod, Int.mul_emod, Int.emod_emod_of_dvd _ (Int.dvd_refl _), ← Int.mul_emod, ← Int.add_emod]

theorem rolls_lo (r : Int) (xs : List Int) (h : xs ≠ [] ∨ 0 ≤ r ∧ r < 4294967296) : 0 ≤ rolls r xs ∧ rolls r xs < 4294967296 := by
  rcases List.eq_nil_or_concat xs with rfl | ⟨ys, y, rfl⟩
  · rcases h with h | h
    · exact absurd rfl h
    · exact h
  · unfold rolls
    rw [List.concat_eq_append, List.foldl_append]
    exact wu32_lo _

/-- Behind 32 bytes or more the value of the beginning is gone. -/
theorem rolls_any (r r' : Int) (xs : List Int) (h : 32 ≤ xs.length) : rolls r xs = rolls r' xs := by
  obtain ⟨q, hq⟩ := rolls_mod xs 0
  have hne : xs ≠ [] := by intro h0; rw [h0] at h; simp at h
  have a := rolls_lo r xs (.inl hne)
  have b := rolls_lo r' xs (.inl hne)
  have h1 := hq r
  have h2 := hq r'
  have hp : ∃ k : Int, (2 : Int) ^ xs.length = 4294967296 * k := ⟨2 ^ (xs.length - 32), by rw [show (4294967296 : Int) = 2 ^ 32 from rfl, ← Int.pow_add]; congr 1; omega⟩
  obtain ⟨k, hk⟩ := hp
  rw [hk, Int.mul_assoc, Int.mul_add_emod_self_left] at h1 h2
  omega

/-- The same, of the last 32 bytes. -/
theorem rolls_last (xs : List Int) : rolls 0 (xs.drop (xs.length - 32)) = rolls 0 xs := by
  by_cases h : xs.length ≤ 32
  · rw [show xs.length - 32 = 0 by omega, List.drop_zero]
  · conv => rhs; rw [← List.take_append_drop (xs.length - 32) xs]
    unfold rolls
    rw [List.foldl_append]
    exact rolls_any 0 _ (xs.drop (xs.length - 32)) (by simp; omega)


/-- A walk along a list from a place on. -/
theorem upto_fold {σ α : Type} (g : σ → α → σ) (xs : List α) (d : α) : ∀ m x s, x + m = xs.length → upto (fun i s => g s (xs.getD i d)) m x s = (xs.drop x).foldl g s
  | 0, x, s, h => by rw [List.drop_of_length_le (by omega)]; rfl
  | m + 1, x, s, h => by
    rw [upto, upto_fold g xs d m (x + 1) _ (by omega), List.drop_eq_getElem_cons (show x < xs.length by omega), List.foldl_cons]
    simp [List.getD, List.getElem?_eq_getElem (show x < xs.length by omega)]

theorem spec_RollOf_eq (xs : List Int) (hb : bytesOk xs) (hl : xs.length ≤ 140737488355328) : spec_RollOf_r xs = some (rolls 0 xs) := by
  unfold spec_RollOf_r
  rw [w64 (n := (xs.length : Int) - 32) (by omega) (by omega)]
  have hm : spec_l00Max_r ((xs.length : Int) - 32) 0 = some (((xs.length - 32 : Nat)) : Int) := by
    unfold spec_l00Max_r
    by_cases h : 32 < xs.length
    · rw [dec_t (p := (0 : Int) < (xs.length : Int) - 32) (by omega)]; exact congrArg some (show (xs.length : Int) - 32 = ((xs.length - 32 : Nat) : Int) by omega)
    · rw [dec_f (p := (0 : Int) < (xs.length : Int) - 32) (by omega)]; exact congrArg some (show (0 : Int) = ((xs.length - 32 : Nat) : Int) by omega)
  rw [hm, bindO_mk]
  have := loop_up (fun n x s => spec_RollOf_l0_L (fun x3 => some x3) xs n (x : Int) s) xs.length (fun i s => rollF s (xs.getD i 0)) (fun z => some z) (fun _ z => True) ?_ (fun x s _ h => trivial) ?_ (xs.length - (xs.length - 32)) FUEL (xs.length - 32) 0 (by omega) (fuel_le (by omega)) trivial
  · rw [upto_fold rollF xs 0 _ _ _ (by omega)] at this
    rw [← rolls_last]
    exact this
  · intro n x s hx hs
    show spec_RollOf_l0_b (spec_RollOf_l0_L (fun x3 => some x3) xs n) (fun x3 => some x3) xs (x : Int) s = _
    unfold spec_RollOf_l0_b
    simp only [Int.toNat_natCast]
    rw [l02Roll_eq s (bytes_getD hb x), bindO_mk, dec_t (p := (x : Int) < (xs.length : Int)) (by omega), dec_t (p := (0 : Int) ≤ (x : Int)) (by omega), w64 (n := (x : Int) + 1) (by omega) (by omega)]
    rfl
  · intro n s hs
    show spec_RollOf_l0_b (spec_RollOf_l0_L (fun x3 => some x3) xs n) (fun x3 => some x3) xs (xs.length : Int) s = _
    unfold spec_RollOf_l0_b
    rw [dec_f (p := (xs.length : Int) < (xs.length : Int)) (by omega)]
    rfl

theorem impl_RollOf_eq (xs : List Int) (hb : bytesOk xs) (hl : xs.length ≤ 140737488355328) : impl_RollOf_r xs = some (rolls 0 xs) := by
  unfold impl_RollOf_r
  rw [RollTable_eq, bindO_mk]
  have := loop_up (fun n x (s : Int) => impl_RollOf_l0_L (fun y60 => some y60.2.1) xs n (tableF, (s, ())) (x : Int)) xs.length (fun i s => rollF s (xs.getD i 0)) (fun z => some z) (fun _ z => True) ?_ (fun x s _ h => trivial) ?_ xs.length FUEL 0 0 (by omega) (fuel_le (by omega)) trivial
  · rw [upto_fold rollF xs 0 _ _ _ (by omega)] at this
    exact this
  · intro n x s hx hs
    show impl_RollOf_l0_b (impl_RollOf_l0_L (fun y60 => some y60.2.1) xs n) (fun y60 => some y60.2.1) xs (tableF, (s, ())) (x : Int) = _
    unfold impl_RollOf_l0_b
    have hc := bytes_getD hb x
    simp only [Int.toNat_natCast]
    rw [table_get hc, dec_t (p := (x : Int) < (xs.length : Int)) (by omega), dec_t (p := (0 : Int) ≤ (x : Int)) (by omega), dec_t hc.1, dec_t hc.2, w64 (n := (x : Int) + 1) (by omega) (by omega)]
    rfl
  · intro n s hs
    show impl_RollOf_l0_b (impl_RollOf_l0_L (fun y60 => some y60.2.1) xs n) (fun y60 => some y60.2.1) xs (tableF, (s, ())) (xs.length : Int) = _
    unfold impl_RollOf_l0_b
    rw [dec_f (p := (xs.length : Int) < (xs.length : Int)) (by omega)]
    rfl

theorem has_u8 {x : Int} (h : IntKind.has .u8 x) : 0 ≤ x ∧ x < 256 := by
  obtain ⟨h1, h2⟩ := h
  simp [IntKind.min, IntKind.max, IntKind.signed, IntKind.bits] at h1 h2
  omega

theorem FnExactRollOf_true (xs : List Int) (h : Ty.ok (.pair (.slice (.int .u8)) .unit) (xs, ())) : laws_FnExactRollOf_r xs = some true := by
  obtain ⟨⟨h1, h2⟩, _⟩ := h
  have hb : bytesOk xs := fun x hx => has_u8 (h2 x hx)
  unfold laws_FnExactRollOf_r
  by_cases hbig : (1048576 : Int) < (xs.length : Int)
  · rw [dec_t hbig]; rfl
  · rw [dec_f hbig, toByteS_eq xs (by omega)]
    simp only [cond, bindO_mk, spec_RollOf_eq xs hb (by omega), impl_RollOf_eq xs hb (by omega), eqByteS_same xs (by omega), decide_true, Bool.not_true]
end Go.Ai.H
