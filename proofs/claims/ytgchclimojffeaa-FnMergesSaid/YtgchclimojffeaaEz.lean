/- An abstract machine over plain values for the model, and that it is sound. No conditions. -/
import Derived.Test.YtgchclimojffeaaEg
import Derived.Shelf.Sort.Plain
import Derived.Shelf.Slices.In.SortNone
import Derived.Sort.OwnSorted
/- slices.Sort of strings, by the shelf. -/
namespace Go.Ai
open Go.RowKit Go.Proofs Go.Shelf Go.Sort
set_option linter.unusedVariables false
set_option linter.unusedSimpArgs false

variable {P : Program} {w : World} {X : Nat → Prop}

def textB (l : List Int) : List UInt8 := l.map fun n => UInt8.ofNat n.toNat
def bytesB (l : List UInt8) : List Int := l.map fun b => (b.toNat : Int)
theorem textB_bytesB (l : List UInt8) : textB (bytesB l) = l := by
  simp [textB, bytesB, Function.comp_def]
noncomputable def sortT (xs : List (List Int)) : List (List Int) := ((xs.map textB).mergeSort fun x y => decide (x ≤ y)).map bytesB
theorem sortT_length (xs : List (List Int)) : (sortT xs).length = xs.length := by simp [sortT]

noncomputable def sortC (E : TypeId) : ConI where
  k := .arr E .str
  ps := .unit
  sh := []
  raw := fun xs _ => cond (Nat.blt xs.length 4611686018427387904) (some (sortT xs, ())) none

/-- Texts as the shelf has them. -/
theorem texts_of : ∀ (xs : List (List Int)) (ds : List Value), chunks (Rep w X .str) ds xs → ∃ ss : List (List UInt8), ds = ss.map encStr ∧ xs = ss.map bytesB ∧ ∀ s ∈ ss, s.length ≤ maxLen
  | [], ds, h => ⟨[], h, rfl, by simp⟩
  | x :: xs, ds, ⟨c1, c2, h0, ⟨s, h1, h2, h3⟩, hr⟩ => by
    obtain ⟨ss, e1, e2, e3⟩ := texts_of xs c2 hr
    refine ⟨s.data.toList :: ss, ?_, ?_, ?_⟩
    · rw [h0, h1, e1]; rfl
    · rw [h2, e2]; rfl
    · intro t ht
      rcases List.mem_cons.1 ht with ht | ht
      · subst ht; simpa using h3
      · exact e3 t ht
theorem texts_to : ∀ (ss : List (List UInt8)), (∀ s ∈ ss, s.length ≤ maxLen) → chunks (Rep w X .str) (ss.map encStr) (ss.map bytesB)
  | [], _ => rfl
  | s :: ss, h => ⟨[encStr s], ss.map encStr, rfl, ⟨⟨s.toArray⟩, rfl, rfl, by have := h s (by simp); simpa [ByteArray.size] using this⟩, texts_to ss fun t ht => h t (by simp [ht])⟩

theorem sort_inp {ρ : Ren} (L : Lays.n190 P ρ) {E : TypeId} {f : FuncId} (hf : ρ.f 190 = f) {i : Inl} (hi : InlOk P f i) : InpOk P f (sortC E) := by
  subst hf
  intro w X θ1 v (xs : List (List Int)) rest ps z hX hX1 hblk hv hargs hraw
  have hrest : rest = [] := hargs
  subst hrest
  obtain ⟨hc, hz⟩ := cond_some hraw
  have hz : (sortT xs, ()) = z := Option.some.inj hz
  subst hz
  have hlen : xs.length < 4611686018427387904 := Nat.le_of_ble_eq_true hc
  obtain ⟨v0, ds, k1, k2, k3⟩ := hblk
  obtain ⟨cs, b1, v1, b2, b3, b4⟩ := hv
  rw [k1] at b2; injection b2 with b2; injection b2 with b2; subst b2
  subst b3
  have hev : v = v0 := by
    have b1' : [v0] = [v] := b1
    injection b1' with b1'
    exact b1'.symm
  subst hev
  obtain ⟨ss, e1, e2, e3⟩ := texts_of xs ds k3
  have hsort : sortT xs = (ss.mergeSort fun x y => decide (x ≤ y)).map bytesB := by
    unfold sortT
    rw [e2, List.map_map]
    have : (textB ∘ bytesB) = id := by funext l; exact textB_bytesB l
    rw [this, List.map_id]
  have hpl : ∀ s ∈ (ss.mergeSort fun x y => decide (x ≤ y)), s.length ≤ maxLen := fun s hs => e3 s ((List.mergeSort_perm _ _).mem_iff.1 hs)
  have hxl : xs.length = ss.length := by rw [e2]; simp
  have res : ∀ (w' : World) (θ : Nat → Option Own), HRel w' (owned X θ (mkH (sortC E).sh ())) θ (fun _ b => w.heap.size ≤ b) (mkH (sortC E).sh ()) ∧ RVal w' (owned X θ (mkH (sortC E).sh ())) θ (mkTV (sortC E).sh ()) (.tuple #[]) := fun w' θ =>
    ⟨⟨fun i b hb => by simp [sortC, mkH, mkHs, hget] at hb, fun i j _ hi => by simp [sortC, mkH, mkHs, hget] at hi⟩, [], rfl, rfl⟩
  refine .inl ⟨hi.enter _ w, ?_⟩
  have none : xs.length = 0 → ∀ p cap, v = .slice p 0 cap → Calls P (ρ.f 190) #[v] w fun e w' => ∃ u, e = .returned u ∧ Keeps (fun b => hasAt θ1 0 b) w w' ∧ ∃ θ, HRel w' (owned X θ (mkH (sortC E).sh ())) θ (fun _ b => w.heap.size ≤ b) (mkH (sortC E).sh ()) ∧ RVal w' (owned X θ (mkH (sortC E).sh ())) θ (mkTV (sortC E).sh ()) u ∧
      BlkRel w' (owned X θ (mkH (sortC E).sh ())) θ1 (fun _ _ => True) 0 (.arr E .str (sortT xs)) := by
    intro h0 p cap hvp
    have hx : xs = [] := List.eq_nil_of_length_eq_zero h0
    have hs0 : sortT xs = xs := by rw [hx]; simp [sortT]
    have hvp' := hvp
    subst hvp
    refine (Any.slices_Sort_string_none L p cap w).mono ?_
    rintro e w' ⟨rfl, rfl⟩
    obtain ⟨r1, r2⟩ := res w' (fun _ => .none)
    refine ⟨_, rfl, Keeps.refl _ _, fun _ => .none, r1, r2, _, ds, k1, ?_, ?_⟩
    · rw [hs0]; exact k2
    · rw [hs0]; exact chunks_mono (fun c x hx => rep_none .str rfl c x hx) k3
  rcases k2.2 with ⟨hv0, hn⟩ | ⟨g, cap, cur, hv0, _, hg, hnc, hcm, hcs, htake⟩
  · exact none hn _ _ (by rw [hv0])
  · by_cases h0 : xs.length = 0
    · exact none h0 _ _ (by rw [hv0, h0])
    · have hE : hasAt θ1 0 g := by simp [hasAt, k1, Own.has, hv0, Value.ownBlock]
      have hcs1 : cur.size = cap * 1 := hcs
      have ht : cur.toList.take ss.length = ss.map encStr := by
        rw [← e1, ← htake, hxl]; simp [Ty.size]
      have hglt : g < w.heap.size := (Array.getElem?_eq_some_iff.1 hg).1
      have hv' : v = .slice (some ⟨g, 0, .none⟩) ss.length cap := by rw [hv0, hxl]
      rw [hv']
      refine (Any.slices_Sort_string L g 0 cap ss w (holds_of_block hg ht) hglt (by omega)).mono ?_
      rintro e w' ⟨rfl, n, os, rfl⟩
      obtain ⟨r1, r2⟩ := res (grow (putRow encStr (Sort.ahead w n) g 0 (ss.mergeSort fun x y => decide (x ≤ y)).toArray) os) (fun _ => .none)
      have hgr := grownBy_sorted (w := w) (g := g) (n := n) (os := os) (ss.mergeSort fun x y => decide (x ≤ y)).toArray
      have hl : (ss.mergeSort fun x y => decide (x ≤ y)).length = ss.length := by simp
      have hrow := ownsRow_sorted (n := n) (os := os) (base := 0) hl (Nat.zero_le _) hg (by omega) hcm hcs1
      refine ⟨_, rfl, ⟨hgr.os, hgr.tape, hgr.output, hgr.size, fun k hk hnk => hgr.block k hk (fun e => hnk (by injection e with e; subst e; exact hE))⟩, fun _ => .none, r1, r2, v, (ss.mergeSort fun x y => decide (x ≤ y)).map encStr, k1, ?_, ?_⟩
      · rw [hv', sortT_length, hxl]
        exact ownsR_of (b := 0) hrow (fun _ _ => trivial)
      · rw [hsort]; exact texts_to _ hpl
end Go.Ai

