import Derived.Test.YtnmkmlhllpifgaaEd
import Derived.Test.YtnmkmlhllpifgaaExactRollOfFn0
import Derived.Test.YtnmkmlhllpifgaaExactRollOfHb
/- The mixing of a block: the program's and the reference's are one function. -/
namespace Go.Ai.H
open Go.Ai.G Go.IntWalk
set_option linter.unusedSimpArgs false
set_option linter.unusedVariables false

/-- Rotation, as both texts reckon it. -/
noncomputable def rotI (x n : Int) : Int := bitI .or .u32 (shlI .u32 x n) (shrI .u32 x (IntKind.wrap .u64 (32 - n)))
theorem turn7 (x : Int) : spec_l01Turn_r x 7 = some (rotI x 7) := rfl
theorem turn13 (x : Int) : spec_l01Turn_r x 13 = some (rotI x 13) := rfl
theorem rot7 (x : Int) : math_bits_RotateLeft32_r x 7 = some (rotI x 7) := rfl
theorem rot13 (x : Int) : math_bits_RotateLeft32_r x 13 = some (rotI x 13) := rfl

/-- One step of a round. -/
noncomputable def mixStep (m : List Int) (r : Nat) (i : Nat) (s : List Int) : List Int :=
  s.set i (IntKind.wrap .u32 ((bitI .xor .u32 (rotI (IntKind.wrap .u32 ((IntKind.wrap .u32 ((s.getD i 0) + (m.getD ((i + 3 * r) % 8) 0))) + (IntKind.wrap .u32 (2654435769 * (IntKind.wrap .u32 (8 * r + i + 1 : Int)))))) 7) (s.getD ((i + 1) % 8) 0)) + rotI (s.getD ((i + 5) % 8) 0) 13))
noncomputable def mixRounds (m s : List Int) : List Int := upto (fun r s => upto (mixStep m r) 8 0 s) 12 0 s
noncomputable def mixEnd (a s : List Int) : List Int := upto (fun i s => s.set i (bitI .xor .u32 (s.getD i 0) (a.getD i 0))) 8 0 s

theorem tmod_nat (a b : Nat) : Int.tmod (a : Int) (b : Int) = ((a % b : Nat) : Int) := rfl

theorem impl_l2 (ke : List Int → Option (shDen impl_MixBlock_sh)) (a0 m : List Int) (r : Nat) (hr : r < 12) (n : Nat) (s : List Int) (hn : 8 < n) : impl_MixBlock_l2_L ke a0 m (r : Int) n 0 s = ke (upto (mixStep m r) 8 0 s) := by
  refine loop_up (fun n x s => impl_MixBlock_l2_L ke a0 m (r : Int) n (x : Int) s) 8 (mixStep m r) ke (fun _ _ => True) ?_ (fun _ _ _ _ => trivial) ?_ 8 n 0 s rfl hn trivial
  · intro n x s hx _
    show impl_MixBlock_l2_b (impl_MixBlock_l2_L ke a0 m (r : Int) n) ke a0 m (r : Int) (x : Int) s = _
    unfold impl_MixBlock_l2_b
    have e1 : (3 : Int) * r = ((3 * r : Nat) : Int) := by omega
    have e2 : ((x : Int) + ((3 * r : Nat) : Int)) = ((x + 3 * r : Nat) : Int) := by omega
    have e3 : (x : Int) + 1 = ((x + 1 : Nat) : Int) := by omega
    have e5 : (x : Int) + 5 = ((x + 5 : Nat) : Int) := by omega
    have e8 : (8 : Int) = ((8 : Nat) : Int) := rfl
    have b1 : (x + 3 * r) % 8 < 8 := Nat.mod_lt _ (by omega)
    have b2 : (x + 1) % 8 < 8 := Nat.mod_lt _ (by omega)
    have b3 : (x + 5) % 8 < 8 := Nat.mod_lt _ (by omega)
    rw [w64 (n := (3 : Int) * r) (by omega) (by omega), e1, e2, w64 (n := ((x + 3 * r : Nat) : Int)) (by omega) (by omega), e3, e5, w64 (n := ((x + 1 : Nat) : Int)) (by omega) (by omega), w64 (n := ((x + 5 : Nat) : Int)) (by omega) (by omega),
      w64 (n := (8 : Int) * r) (by omega) (by omega), w64 (n := (8 : Int) * r + x) (by omega) (by omega), w64 (n := (8 : Int) * r + x + 1) (by omega) (by omega)]
    rw [show Int.tmod ((x + 3 * r : Nat) : Int) 8 = (((x + 3 * r) % 8 : Nat) : Int) from rfl, show Int.tmod ((x + 1 : Nat) : Int) 8 = (((x + 1) % 8 : Nat) : Int) from rfl, show Int.tmod ((x + 5 : Nat) : Int) 8 = (((x + 5) % 8 : Nat) : Int) from rfl]
    simp only [rot7, rot13, bindO_mk, Int.toNat_natCast]
    rw [dec_t (p := (x : Int) < 8) (by omega), dec_t (p := (0 : Int) ≤ x) (by omega), dec_t (p := (0 : Int) ≤ (((x + 3 * r) % 8 : Nat) : Int)) (by omega), dec_t (p := (((x + 3 * r) % 8 : Nat) : Int) < 8) (by omega),
      dec_t (p := (0 : Int) ≤ (((x + 1) % 8 : Nat) : Int)) (by omega), dec_t (p := (((x + 1) % 8 : Nat) : Int) < 8) (by omega), dec_t (p := (0 : Int) ≤ (((x + 5) % 8 : Nat) : Int)) (by omega), dec_t (p := (((x + 5) % 8 : Nat) : Int) < 8) (by omega)]
    rfl
  · intro n s _; rfl

theorem impl_l1 (ke : List Int → Option (shDen impl_MixBlock_sh)) (a0 m s : List Int) : impl_MixBlock_l1_L ke a0 FUEL m 0 s = ke (mixRounds m s) := by
  refine loop_up (fun n x s => impl_MixBlock_l1_L ke a0 n m (x : Int) s) 12 (fun r s => upto (mixStep m r) 8 0 s) ke (fun _ _ => True) ?_ (fun _ _ _ _ => trivial) ?_ 12 FUEL 0 s rfl (fuel_le (by omega)) trivial
  · intro n x s hx _
    show impl_MixBlock_l1_b (impl_MixBlock_l1_L ke a0 n) ke a0 m (x : Int) s = _
    unfold impl_MixBlock_l1_b
    rw [impl_l2 _ a0 m x hx FUEL s (fuel_le (by omega)), dec_t (p := (x : Int) < 12) (by omega), w64 (n := (x : Int) + 1) (by omega) (by omega)]
    rfl
  · intro n s _; rfl

theorem impl_l3 (ke : List Int → Option (shDen impl_MixBlock_sh)) (a0 s : List Int) : impl_MixBlock_l3_L ke a0 FUEL s 0 = ke (mixEnd a0 s) := by
  refine loop_up (fun n x s => impl_MixBlock_l3_L ke a0 n s (x : Int)) 8 (fun i s => s.set i (bitI .xor .u32 (s.getD i 0) (a0.getD i 0))) ke (fun _ _ => True) ?_ (fun _ _ _ _ => trivial) ?_ 8 FUEL 0 s rfl (fuel_le (by omega)) trivial
  · intro n x s hx _
    show impl_MixBlock_l3_b (impl_MixBlock_l3_L ke a0 n) ke a0 s (x : Int) = _
    unfold impl_MixBlock_l3_b
    rw [dec_t (p := (x : Int) < 8) (by omega), dec_t (p := (0 : Int) ≤ x) (by omega), w64 (n := (x : Int) + 1) (by omega) (by omega)]
    rfl
  · intro n s _; rfl

theorem spec_l3 (ke : List Int → Option (shDen spec_l01Mix_sh)) (a0 m : List Int) (r : Nat) (hr : r < 12) (n : Nat) (s : List Int) (hn : 8 < n) : spec_l01Mix_l3_L ke a0 m (r : Int) n 0 s = ke (upto (mixStep m r) 8 0 s) := by
  refine loop_up (fun n x s => spec_l01Mix_l3_L ke a0 m (r : Int) n (x : Int) s) 8 (mixStep m r) ke (fun _ _ => True) ?_ (fun _ _ _ _ => trivial) ?_ 8 n 0 s rfl hn trivial
  · intro n x s hx _
    show spec_l01Mix_l3_b (spec_l01Mix_l3_L ke a0 m (r : Int) n) ke a0 m (r : Int) (x : Int) s = _
    unfold spec_l01Mix_l3_b
    have e1 : (3 : Int) * r = ((3 * r : Nat) : Int) := by omega
    have e2 : ((x : Int) + ((3 * r : Nat) : Int)) = ((x + 3 * r : Nat) : Int) := by omega
    have e3 : (x : Int) + 1 = ((x + 1 : Nat) : Int) := by omega
    have e5 : (x : Int) + 5 = ((x + 5 : Nat) : Int) := by omega
    have b1 : (x + 3 * r) % 8 < 8 := Nat.mod_lt _ (by omega)
    have b2 : (x + 1) % 8 < 8 := Nat.mod_lt _ (by omega)
    have b3 : (x + 5) % 8 < 8 := Nat.mod_lt _ (by omega)
    rw [w64 (n := (3 : Int) * r) (by omega) (by omega), e1, e2, w64 (n := ((x + 3 * r : Nat) : Int)) (by omega) (by omega), e3, e5, w64 (n := ((x + 1 : Nat) : Int)) (by omega) (by omega), w64 (n := ((x + 5 : Nat) : Int)) (by omega) (by omega),
      w64 (n := (8 : Int) * r) (by omega) (by omega), w64 (n := (8 : Int) * r + x) (by omega) (by omega), w64 (n := (8 : Int) * r + x + 1) (by omega) (by omega)]
    rw [show Int.tmod ((x + 3 * r : Nat) : Int) 8 = (((x + 3 * r) % 8 : Nat) : Int) from rfl, show Int.tmod ((x + 1 : Nat) : Int) 8 = (((x + 1) % 8 : Nat) : Int) from rfl, show Int.tmod ((x + 5 : Nat) : Int) 8 = (((x + 5) % 8 : Nat) : Int) from rfl]
    simp only [turn7, turn13, bindO_mk, Int.toNat_natCast]
    rw [dec_t (p := (x : Int) < 8) (by omega), dec_t (p := (0 : Int) ≤ x) (by omega), dec_t (p := (0 : Int) ≤ (((x + 3 * r) % 8 : Nat) : Int)) (by omega), dec_t (p := (((x + 3 * r) % 8 : Nat) : Int) < 8) (by omega),
      dec_t (p := (0 : Int) ≤ (((x + 1) % 8 : Nat) : Int)) (by omega), dec_t (p := (((x + 1) % 8 : Nat) : Int) < 8) (by omega), dec_t (p := (0 : Int) ≤ (((x + 5) % 8 : Nat) : Int)) (by omega), dec_t (p := (((x + 5) % 8 : Nat) : Int) < 8) (by omega)]
    rfl
  · intro n s _; rfl

theorem spec_l2 (ke : List Int → Option (shDen spec_l01Mix_sh)) (a0 m s : List Int) : spec_l01Mix_l2_L ke a0 FUEL m 0 s = ke (mixRounds m s) := by
  refine loop_up (fun n x s => spec_l01Mix_l2_L ke a0 n m (x : Int) s) 12 (fun r s => upto (mixStep m r) 8 0 s) ke (fun _ _ => True) ?_ (fun _ _ _ _ => trivial) ?_ 12 FUEL 0 s rfl (fuel_le (by omega)) trivial
  · intro n x s hx _
    show spec_l01Mix_l2_b (spec_l01Mix_l2_L ke a0 n) ke a0 m (x : Int) s = _
    unfold spec_l01Mix_l2_b
    rw [spec_l3 _ a0 m x hx FUEL s (fuel_le (by omega)), dec_t (p := (x : Int) < 12) (by omega), w64 (n := (x : Int) + 1) (by omega) (by omega)]
    rfl
  · intro n s _; rfl

theorem spec_l4 (ke : List Int → Option (shDen spec_l01Mix_sh)) (a0 s : List Int) : spec_l01Mix_l4_L ke a0 FUEL s 0 = ke (mixEnd a0 s) := by
  refine loop_up (fun n x s => spec_l01Mix_l4_L ke a0 n s (x : Int)) 8 (fun i s => s.set i (bitI .xor .u32 (s.getD i 0) (a0.getD i 0))) ke (fun _ _ => True) ?_ (fun _ _ _ _ => trivial) ?_ 8 FUEL 0 s rfl (fuel_le (by omega)) trivial
  · intro n x s hx _
    show spec_l01Mix_l4_b (spec_l01Mix_l4_L ke a0 n) ke a0 s (x : Int) = _
    unfold spec_l01Mix_l4_b
    rw [dec_t (p := (x : Int) < 8) (by omega), dec_t (p := (0 : Int) ≤ x) (by omega), w64 (n := (x : Int) + 1) (by omega) (by omega)]
    rfl
  · intro n s _; rfl

/-! ### The words of a block -/
def bytesOk (b : List Int) : Prop := ∀ x ∈ b, 0 ≤ x ∧ x < 256
theorem bytes_getD {b : List Int} (h : bytesOk b) (i : Nat) : 0 ≤ b.getD i 0 ∧ b.getD i 0 < 256 := by
  by_cases hi : i < b.length
  · have : b.getD i 0 = b[i] := by simp [List.getD, hi]
    rw [this]; exact h _ (List.getElem_mem hi)
  · simp [List.getD, List.getElem?_eq_none (Nat.not_lt.1 hi)]

/-- The number of four bytes, the lowest one first. -/
def word4 (b : List Int) (i : Nat) : Int := b.getD (4 * i) 0 + 256 * b.getD (4 * i + 1) 0 + 65536 * b.getD (4 * i + 2) 0 + 16777216 * b.getD (4 * i + 3) 0
def wordsF (b : List Int) : List Int := upto (fun i y => y.set i (word4 b i)) 8 0 (List.replicate 8 0)

/-- Four bytes laid beside each other. -/
theorem or4 {p q r s : Nat} (hp : p < 256) (hq : q < 256) (hr : r < 256) (hs : s < 256) : p ||| q * 256 ||| r * 65536 ||| s * 16777216 = p + 256 * q + 65536 * r + 16777216 * s := by
  have h1 := or_add (i := 8) q (b := p) (by omega)
  have h2 := or_add (i := 16) r (b := p + q * 256) (by omega)
  have h3 := or_add (i := 24) s (b := p + q * 256 + r * 65536) (by omega)
  rw [show q * 256 = q * 2 ^ 8 from rfl, h1, show r * 65536 = r * 2 ^ 16 from rfl, show p + q * 2 ^ 8 = p + q * 256 from rfl, h2, show s * 16777216 = s * 2 ^ 24 from rfl, show p + q * 256 + r * 2 ^ 16 = p + q * 256 + r * 65536 from rfl, h3]
  omega

theorem shl_nat {k : IntKind} {x n : Nat} (hn : n ≤ k.bits) : shlI k x n = k.wrap ((x * 2 ^ n : Nat) : Int) := by
  unfold shlI
  rw [Int.toNat_natCast, Nat.min_eq_left hn]
  congr 1

theorem little4 {b : List Int} (hb : bytesOk b) (hl : b.length = 4) : impl_littleNumber_r b = some (b.getD 0 0 + 256 * b.getD 1 0 + 65536 * b.getD 2 0 + 16777216 * b.getD 3 0) := by
  match b, hl with
  | [p, q, r, s], _ =>
    have hp := hb p (by simp)
    have hq := hb q (by simp)
    have hr := hb r (by simp)
    have hs := hb s (by simp)
    obtain ⟨p, rfl⟩ := Int.eq_ofNat_of_zero_le hp.1
    obtain ⟨q, rfl⟩ := Int.eq_ofNat_of_zero_le hq.1
    obtain ⟨r, rfl⟩ := Int.eq_ofNat_of_zero_le hr.1
    obtain ⟨s, rfl⟩ := Int.eq_ofNat_of_zero_le hs.1
    obtain ⟨n, hn⟩ : ∃ n, FUEL = n + 5 := ⟨FUEL - 5, by rw [fuel_eq]⟩
    unfold impl_littleNumber_r
    rw [hn]
    simp only [impl_littleNumber_l0_L, impl_littleNumber_l0_b]
    have w : ∀ m : Nat, m < 256 → IntKind.wrap .u64 (m : Int) = m := fun m hm => wu64 (by omega) (by omega)
    have i1 : IntKind.wrap .i64 (8 * 0) = 0 := rfl
    have i2 : IntKind.wrap .i64 (0 + 1) = 1 := rfl
    have i3 : IntKind.wrap .i64 (8 * 1) = 8 := rfl
    have i4 : IntKind.wrap .i64 (1 + 1) = 2 := rfl
    have i5 : IntKind.wrap .i64 (8 * 2) = 16 := rfl
    have i6 : IntKind.wrap .i64 (2 + 1) = 3 := rfl
    have i7 : IntKind.wrap .i64 (8 * 3) = 24 := rfl
    have i8 : IntKind.wrap .i64 (3 + 1) = 4 := rfl
    simp only [i1, i2, i3, i4, i5, i6, i7, i8, List.length_cons, List.length_nil]
    have s0 : shlI .u64 (p : Int) 0 = p := by
      have := shl_nat (k := .u64) (x := p) (n := 0) (by simp [IntKind.bits]); simp at this; rw [this]; exact w p (by omega)
    have s1 : shlI .u64 (q : Int) 8 = ((q * 256 : Nat) : Int) := by
      have := shl_nat (k := .u64) (x := q) (n := 8) (by simp [IntKind.bits]); rw [show ((8 : Nat) : Int) = 8 from rfl] at this; rw [this]; exact wu64 (by omega) (by omega)
    have s2 : shlI .u64 (r : Int) 16 = ((r * 65536 : Nat) : Int) := by
      have := shl_nat (k := .u64) (x := r) (n := 16) (by simp [IntKind.bits]); rw [show ((16 : Nat) : Int) = 16 from rfl] at this; rw [this]; exact wu64 (by omega) (by omega)
    have s3 : shlI .u64 (s : Int) 24 = ((s * 16777216 : Nat) : Int) := by
      have := shl_nat (k := .u64) (x := s) (n := 24) (by simp [IntKind.bits]); rw [show ((24 : Nat) : Int) = 24 from rfl] at this; rw [this]; exact wu64 (by omega) (by omega)
    simp only [show Int.toNat 0 = 0 from rfl, show Int.toNat 1 = 1 from rfl, show Int.toNat 2 = 2 from rfl, show Int.toNat 3 = 3 from rfl, List.getD_cons_zero, List.getD_cons_succ, w p (by omega), w q (by omega), w r (by omega), w s (by omega), s0, s1, s2, s3]
    have o := fun x y hx hy => (bitI_u (k := .u64) (.inr (.inr rfl)) (x := x) (y := y) hx hy).1
    have hb64 : (2 : Nat) ^ IntKind.u64.bits = 18446744073709551616 := rfl
    rw [show (0 : Int) = ((0 : Nat) : Int) from rfl, o 0 p (by omega) (by omega), Nat.zero_or]
    have l1 : p ||| q * 256 < 2 ^ 64 := Nat.or_lt_two_pow (by omega) (by omega)
    rw [o p (q * 256) (by omega) (by omega)]
    have l2 : p ||| q * 256 ||| r * 65536 < 2 ^ 64 := Nat.or_lt_two_pow l1 (by omega)
    rw [o _ (r * 65536) (by rw [hb64]; omega) (by omega), o _ (s * 16777216) (by rw [hb64]; omega) (by omega), or4 (by omega) (by omega) (by omega) (by omega)]
    simp

theorem word4_lt {b : List Int} (hb : bytesOk b) (i : Nat) : 0 ≤ word4 b i ∧ word4 b i < 4294967296 := by
  have h0 := bytes_getD hb (4 * i)
  have h1 := bytes_getD hb (4 * i + 1)
  have h2 := bytes_getD hb (4 * i + 2)
  have h3 := bytes_getD hb (4 * i + 3)
  unfold word4; omega

theorem getD_cutL {b : List Int} {l h j : Nat} (hj : j < h - l) (hh : h ≤ b.length) : (cutL b l h).getD j 0 = b.getD (l + j) 0 := by
  unfold cutL
  simp only [List.getD, List.getElem?_take, List.getElem?_drop]
  rw [if_pos (by omega)]

theorem bytesOk_cutL {b : List Int} (hb : bytesOk b) (l h : Nat) : bytesOk (cutL b l h) := fun x hx => hb x (List.mem_of_mem_drop (List.mem_of_mem_take hx))
theorem cutL_length {α : Type} (b : List α) {l h : Nat} (hh : h ≤ b.length) : (cutL b l h).length = h - l := by
  unfold cutL; simp; omega

theorem impl_l0 (ke : List Int → Option (shDen impl_MixBlock_sh)) (a0 b : List Int) (hb : bytesOk b) (hl : b.length = 32) : impl_MixBlock_l0_L ke a0 b FUEL 0 (List.replicate 8 0) = ke (wordsF b) := by
  refine loop_up (fun n x s => impl_MixBlock_l0_L ke a0 b n (x : Int) s) 8 (fun i y => y.set i (word4 b i)) ke (fun _ _ => True) ?_ (fun _ _ _ _ => trivial) ?_ 8 FUEL 0 _ rfl (fuel_le (by omega)) trivial
  · intro n x s hx _
    show impl_MixBlock_l0_b (impl_MixBlock_l0_L ke a0 b n) ke a0 b (x : Int) s = _
    unfold impl_MixBlock_l0_b
    have e4 : (4 : Int) * x = ((4 * x : Nat) : Int) := by omega
    have e5 : ((4 * x : Nat) : Int) + 4 = ((4 * x + 4 : Nat) : Int) := by omega
    rw [w64 (n := (4 : Int) * x) (by omega) (by omega), e4, e5, w64 (n := ((4 * x + 4 : Nat) : Int)) (by omega) (by omega), w64 (n := (x : Int) + 1) (by omega) (by omega)]
    simp only [Int.toNat_natCast]
    rw [little4 (bytesOk_cutL hb _ _) (by rw [cutL_length _ (by omega)]; omega), getD_cutL (by omega) (by omega), getD_cutL (by omega) (by omega), getD_cutL (by omega) (by omega), getD_cutL (by omega) (by omega)]
    have hw := word4_lt hb x
    unfold word4 at hw
    simp only [bindO_mk, Nat.add_zero]
    rw [wu32 hw.1 hw.2, dec_t (p := (x : Int) < 8) (by omega), dec_t (p := (0 : Int) ≤ x) (by omega), dec_t (p := (0 : Int) ≤ ((4 * x + 4 : Nat) : Int)) (by omega), dec_t (p := ((4 * x + 4 : Nat) : Int) ≤ 32) (by omega), dec_t (p := (0 : Int) ≤ ((4 * x : Nat) : Int)) (by omega), dec_t (p := ((4 * x : Nat) : Int) ≤ ((4 * x + 4 : Nat) : Int)) (by omega)]
    rfl
  · intro n s _; rfl

theorem getD_set {α : Type} (s : List α) (i : Nat) (v d : α) (h : i < s.length) : (s.set i v).getD i d = v := by simp [List.getD, h]

theorem shlor {y c : Nat} (hy : y < 16777216) (hc : c < 256) : bitI .or .u32 (shlI .u32 (y : Int) 8) (IntKind.wrap .u32 (c : Int)) = ((y * 256 + c : Nat) : Int) := by
  have s1 : shlI .u32 (y : Int) 8 = ((y * 256 : Nat) : Int) := by
    have := shl_nat (k := .u32) (x := y) (n := 8) (by simp [IntKind.bits]); rw [show ((8 : Nat) : Int) = 8 from rfl] at this; rw [this]; exact wu32 (by omega) (by omega)
  have hb32 : (2 : Nat) ^ IntKind.u32.bits = 4294967296 := rfl
  rw [s1, wu32 (by omega) (by omega), (bitI_u (k := .u32) (.inr (.inl rfl)) (by omega) (by omega)).1, Nat.or_comm]
  have := or_add (i := 8) y hc
  rw [show y * 256 = y * 2 ^ 8 from rfl, this]
  congr 1; omega

theorem spec_l1 (ke : List Int → Option (shDen spec_l01Mix_sh)) (a0 b : List Int) (hb : bytesOk b) (x : Nat) (hx : x < 8) (y : List Int) (hy : y.length = 8) (h0 : y.getD x 0 = 0) : spec_l01Mix_l1_L ke a0 b x FUEL 3 y = ke (y.set x (word4 b x)) := by
  obtain ⟨n, hn⟩ : ∃ n, FUEL = n + 5 := ⟨FUEL - 5, by rw [fuel_eq]⟩
  rw [hn]
  simp only [spec_l01Mix_l1_L, spec_l01Mix_l1_b]
  have e4 : (4 : Int) * x = ((4 * x : Nat) : Int) := by omega
  have i3 : IntKind.wrap .i64 ((3 : Int) - 1) = 2 := rfl
  have i2 : IntKind.wrap .i64 ((2 : Int) - 1) = 1 := rfl
  have i1 : IntKind.wrap .i64 ((1 : Int) - 1) = 0 := rfl
  have i0 : IntKind.wrap .i64 ((0 : Int) - 1) = -1 := rfl
  simp only [i3, i2, i1, i0]
  rw [w64 (n := (4 : Int) * x) (by omega) (by omega), e4, show ((4 * x : Nat) : Int) + 3 = ((4 * x + 3 : Nat) : Int) from by omega, show ((4 * x : Nat) : Int) + 2 = ((4 * x + 2 : Nat) : Int) from by omega, show ((4 * x : Nat) : Int) + 1 = ((4 * x + 1 : Nat) : Int) from by omega, show ((4 * x : Nat) : Int) + 0 = ((4 * x : Nat) : Int) from by omega]
  rw [w64 (n := ((4 * x + 3 : Nat) : Int)) (by omega) (by omega), w64 (n := ((4 * x + 2 : Nat) : Int)) (by omega) (by omega), w64 (n := ((4 * x + 1 : Nat) : Int)) (by omega) (by omega), w64 (n := ((4 * x : Nat) : Int)) (by omega) (by omega)]
  simp only [Int.toNat_natCast]
  have g0 := bytes_getD hb (4 * x)
  have g1 := bytes_getD hb (4 * x + 1)
  have g2 := bytes_getD hb (4 * x + 2)
  have g3 := bytes_getD hb (4 * x + 3)
  unfold word4
  generalize b.getD (4 * x) 0 = p at *
  generalize b.getD (4 * x + 1) 0 = q at *
  generalize b.getD (4 * x + 2) 0 = r at *
  generalize b.getD (4 * x + 3) 0 = s at *
  obtain ⟨p, rfl⟩ := Int.eq_ofNat_of_zero_le g0.1
  obtain ⟨q, rfl⟩ := Int.eq_ofNat_of_zero_le g1.1
  obtain ⟨r, rfl⟩ := Int.eq_ofNat_of_zero_le g2.1
  obtain ⟨s, rfl⟩ := Int.eq_ofNat_of_zero_le g3.1
  have k0 : bitI .or .u32 (shlI .u32 0 8) (IntKind.wrap .u32 (s : Int)) = ((s : Nat) : Int) := by
    have := shlor (y := 0) (c := s) (by omega) (by omega); simpa using this
  have k1 := shlor (y := s) (c := r) (by omega) (by omega)
  have k2 := shlor (y := s * 256 + r) (c := q) (by omega) (by omega)
  have k3 := shlor (y := (s * 256 + r) * 256 + q) (c := p) (by omega) (by omega)
  simp only [h0, k0, k1, k2, k3, getD_set _ _ _ _ (show x < y.length by omega), List.set_set]
  rw [dec_t (p := (x : Int) < 8) (by omega), dec_t (p := (0 : Int) ≤ x) (by omega), dec_t (p := ((4 * x + 3 : Nat) : Int) < 32) (by omega), dec_t (p := ((4 * x + 2 : Nat) : Int) < 32) (by omega), dec_t (p := ((4 * x + 1 : Nat) : Int) < 32) (by omega), dec_t (p := ((4 * x : Nat) : Int) < 32) (by omega),
    dec_t (p := (0 : Int) ≤ ((4 * x + 3 : Nat) : Int)) (by omega), dec_t (p := (0 : Int) ≤ ((4 * x + 2 : Nat) : Int)) (by omega), dec_t (p := (0 : Int) ≤ ((4 * x + 1 : Nat) : Int)) (by omega), dec_t (p := (0 : Int) ≤ ((4 * x : Nat) : Int)) (by omega)]
  simp
  congr 2
  omega

theorem getD_zeros (n j : Nat) : (List.replicate n (0 : Int)).getD j 0 = 0 := by
  simp only [List.getD, List.getElem?_replicate]
  split <;> rfl
theorem getD_set_ne {α : Type} (s : List α) {i j : Nat} (v d : α) (h : i ≠ j) : (s.set i v).getD j d = s.getD j d := by simp [List.getD, h]

theorem spec_l0 (ke : List Int → Option (shDen spec_l01Mix_sh)) (a0 b : List Int) (hb : bytesOk b) : spec_l01Mix_l0_L ke a0 b FUEL 0 (List.replicate 8 0) = ke (wordsF b) := by
  refine loop_up (fun n x s => spec_l01Mix_l0_L ke a0 b n (x : Int) s) 8 (fun i y => y.set i (word4 b i)) ke (fun x y => y.length = 8 ∧ ∀ j, x ≤ j → y.getD j 0 = 0) ?_ ?_ ?_ 8 FUEL 0 _ rfl (fuel_le (by omega)) ⟨by simp, fun j _ => ?_⟩
  · intro n x s hx ⟨h1, h2⟩
    show spec_l01Mix_l0_b (spec_l01Mix_l0_L ke a0 b n) ke a0 b (x : Int) s = _
    unfold spec_l01Mix_l0_b
    rw [spec_l1 _ a0 b hb x hx s h1 (h2 x (Nat.le_refl _)), dec_t (p := (x : Int) < 8) (by omega), w64 (n := (x : Int) + 1) (by omega) (by omega)]
    rfl
  · intro x s hx ⟨h1, h2⟩
    exact ⟨by simp [h1], fun j hj => by rw [getD_set_ne _ _ _ (by omega)]; exact h2 j (by omega)⟩
  · intro n s _; rfl
  · exact getD_zeros 8 j

/-- A block mixed into a state. -/
noncomputable def mixF (a b : List Int) : List Int := mixEnd a (mixRounds (wordsF b) a)

theorem impl_Mix_eq (a b : List Int) (hb : bytesOk b) (hl : b.length = 32) : impl_MixBlock_r a b = some (mixF a b) := by
  unfold impl_MixBlock_r
  rw [impl_l0 _ a b hb hl, impl_l1, impl_l3]; rfl
theorem spec_Mix_eq (a b : List Int) (hb : bytesOk b) : spec_l01Mix_r a b = some (mixF a b) := by
  unfold spec_l01Mix_r
  rw [spec_l0 _ a b hb, spec_l2, spec_l4]; rfl

/-- The words of a state. -/
def stateOk (s : List Int) : Prop := s.length = 8 ∧ ∀ x ∈ s, 0 ≤ x ∧ x < 4294967296

theorem upto_length {α : Type} {f : Nat → List α → List α} (h : ∀ i s, (f i s).length = s.length) : ∀ m x s, (upto f m x s).length = s.length
  | 0, _, _ => rfl
  | m + 1, x, s => by rw [upto, upto_length h m, h]

theorem mixF_length (a b : List Int) : (mixF a b).length = a.length := by
  unfold mixF mixEnd mixRounds
  rw [upto_length (fun i s => by simp), upto_length (fun r s => upto_length (fun i s => by simp [mixStep]) _ _ _)]

theorem wrapU32_bitI (op : BinOp) (x y : Int) : 0 ≤ bitI op .u32 x y ∧ bitI op .u32 x y < 4294967296 := by
  unfold bitI
  cases op <;> first | exact wu32_lo _ | (simp)

theorem getD_bound {s : List Int} (hs : ∀ x ∈ s, 0 ≤ x ∧ x < 4294967296) (i : Nat) : 0 ≤ s.getD i 0 ∧ s.getD i 0 < 4294967296 := by
  by_cases hi : i < s.length
  · have : s.getD i 0 = s[i] := by simp [List.getD, hi]
    rw [this]; exact hs _ (List.getElem_mem hi)
  · simp [List.getD, List.getElem?_eq_none (Nat.not_lt.1 hi)]

theorem set_ok {s : List Int} {P : Int → Prop} (hs : ∀ x ∈ s, P x) {i : Nat} {v : Int} (hv : P v) : ∀ x ∈ s.set i v, P x := by
  intro x hx
  rcases List.mem_or_eq_of_mem_set hx with h | h
  · exact hs x h
  · rw [h]; exact hv

theorem upto_all {σ : Type} {f : Nat → σ → σ} {P : σ → Prop} (h : ∀ i s, P s → P (f i s)) : ∀ m x s, P s → P (upto f m x s)
  | 0, _, _, hs => hs
  | m + 1, x, s, hs => upto_all h m (x + 1) _ (h x s hs)

theorem mixF_ok {a : List Int} (b : List Int) (ha : stateOk a) : stateOk (mixF a b) := by
  refine ⟨by rw [mixF_length]; exact ha.1, ?_⟩
  unfold mixF mixEnd mixRounds
  refine upto_all (P := fun s : List Int => ∀ x ∈ s, 0 ≤ x ∧ x < 4294967296) (fun i s hs => set_ok hs (wrapU32_bitI _ _ _)) _ _ _ ?_
  refine upto_all (P := fun s : List Int => ∀ x ∈ s, 0 ≤ x ∧ x < 4294967296) (fun r s hs => ?_) _ _ _ ha.2
  exact upto_all (P := fun s : List Int => ∀ x ∈ s, 0 ≤ x ∧ x < 4294967296) (fun i s hs => set_ok hs (wu32_lo _)) _ _ _ hs

/-! ### The state of the beginning -/
def startF (tag : Int) : List Int := upto (fun i s => s.set i (IntKind.wrap .u32 ((IntKind.wrap .u32 (16777619 * (IntKind.wrap .u32 (i + 1 : Int)))) + (IntKind.wrap .u32 tag)))) 8 0 (List.replicate 8 0)

theorem impl_Start_eq (t : Int) : impl_StartState_r t = some (startF t) := by
  unfold impl_StartState_r
  refine loop_up (fun n x s => impl_StartState_l0_L (fun y30 => some y30) t n (x : Int) s) 8 _ _ (fun _ _ => True) ?_ (fun _ _ _ _ => trivial) ?_ 8 FUEL 0 _ rfl (fuel_le (by omega)) trivial
  · intro n x s hx _
    show impl_StartState_l0_b (impl_StartState_l0_L (fun y30 => some y30) t n) (fun y30 => some y30) t (x : Int) s = _
    unfold impl_StartState_l0_b
    rw [dec_t (p := (x : Int) < 8) (by omega), dec_t (p := (0 : Int) ≤ x) (by omega), w64 (n := (x : Int) + 1) (by omega) (by omega)]
    rfl
  · intro n s _; rfl
theorem spec_Start_eq (t : Int) : spec_l01Start_r t = some (startF t) := by
  unfold spec_l01Start_r
  refine loop_up (fun n x s => spec_l01Start_l0_L (fun y30 => some y30) t n (x : Int) s) 8 _ _ (fun _ _ => True) ?_ (fun _ _ _ _ => trivial) ?_ 8 FUEL 0 _ rfl (fuel_le (by omega)) trivial
  · intro n x s hx _
    show spec_l01Start_l0_b (spec_l01Start_l0_L (fun y30 => some y30) t n) (fun y30 => some y30) t (x : Int) s = _
    unfold spec_l01Start_l0_b
    rw [dec_t (p := (x : Int) < 8) (by omega), dec_t (p := (0 : Int) ≤ x) (by omega), w64 (n := (x : Int) + 1) (by omega) (by omega)]
    rfl
  · intro n s _; rfl
theorem startF_ok (t : Int) : stateOk (startF t) := by
  refine ⟨by unfold startF; rw [upto_length (fun i s => by simp)]; simp, ?_⟩
  unfold startF
  refine upto_all (P := fun s : List Int => ∀ x ∈ s, 0 ≤ x ∧ x < 4294967296) (fun i s hs => set_ok hs (wu32_lo _)) _ _ _ ?_
  intro x hx
  have := List.eq_of_mem_replicate hx
  subst this; omega
end Go.Ai.H
