/- An abstract machine over plain values for the model, and that it is sound. No conditions. -/
import Derived.Test.YtafhfllnkijfhaaEf
import Derived.ProofKit
import Derived.OpenShut
/- A statement's arguments as plain values. -/
namespace Go.Ai
open Go.RowKit
variable {H : Type} {enc : TypeId × Value → H} {P : Program} {w : World} {X : Nat → Prop} {base : Nat} {spare : Nat → Bool} {held : Bool}
def Ty.data : Ty → Bool
 | .slice e => e.data
 | .arr _ e => e.data
 | .pair a b => a.data && b.data
 | .ref _ => false
 | .opt _ => false
 | .fnc _ => false
 | _ => true
theorem cellsOf_of {T : TypeId} {n : Nat} (h : P.hasSize T n) : P.cellsOf T = n := by
 unfold Program.hasSize at h
 simp [Program.cellsOf, h]
theorem cells_get {a : Addr} {n : Nat} {cs : List Value} (h : w.cells? base a n = some cs) : cs.length = n ∧ ∀ i, i < n → w.cell? (a.add i) = cs[i]? := by
 unfold World.cells? at h
 split at h
 ·refine ⟨by simpa using mapM_some_length h, fun i hi => ?_⟩
  exact mapM_some_get h i i (by simp [hi])
 ·cases h
theorem addr_add_add (a : Addr) (n m : Nat) : (a.add n).add m = a.add (n + m) := by
 unfold Addr.add
 by_cases hn : n = 0 <;> by_cases hm : m = 0 <;> simp [hn, hm, Nat.add_assoc]
theorem gather {e : Ty} {size : Nat} {a : Addr} {R : List Value → e.den → Prop} (hl : ∀ c x, R c x → c.length = size) :
  ∀ n, (∀ i, i < n → ∃ cs x, w.cells? base (a.add (i * size)) size = some cs ∧ R cs x) →
   ∃ (ds : List Value) (xs : List e.den), xs.length = n ∧ ds.length = n * size ∧ chunks R ds xs ∧ ∀ j, j < ds.length → w.cell? (a.add j) = ds[j]?
 | 0, _ => ⟨[], [], rfl, by simp, rfl, fun j hj => by simp at hj⟩
 | n + 1, h => by
  obtain ⟨ds, xs, h1, h2, h3, h4⟩ := gather hl n (fun i hi => h i (by omega))
  obtain ⟨cs, x, k1, k2⟩ := h n (by omega)
  obtain ⟨m1, m2⟩ := cells_get k1
  refine ⟨ds ++ cs, xs ++ [x], by simp [h1], by simp [h2, m1, Nat.add_mul], chunks_append h3 ⟨cs, [], by simp, k2, rfl⟩, fun j hj => ?_⟩
  rw [List.getElem?_append]
  split
  ·rename_i hlt; exact h4 j hlt
  ·rename_i hge
   have hj2 : j - ds.length < size := by simp at hj; omega
   rw [← m2 (j - ds.length) hj2]
   have hge2 : n * size ≤ j := by rw [h2] at hge; omega
   have e1 : n * size + (j - n * size) = j := by omega
   congr 1
   rw [h2, addr_add_add, e1]
theorem trod_rep : (t : Ty) → t.data = true → (∀ T fuel cs y, (TyIs P t).1 T → DataW.trod enc P w base spare held fuel T cs = some y → ∃ x, Rep w (fun _ => False) t cs x) ∧
  (∀ off fs fuel (cs : List Value), (TyIs P t).2 off fs → (∀ f ∈ fs, ∃ y, DataW.trod enc P w base spare held fuel f.type ((cs.drop f.offset).take (P.cellsOf f.type)) = some y) → ∃ x, Rep w (fun _ => False) t ((cs.drop off).take t.size) x) := by
 intro t
 induction t with
 | int k =>
  refine fun _ => ⟨fun T fuel cs y h hy => ?_, fun off fs fuel cs h => h.elim⟩
  obtain ⟨n, rfl, _, h3⟩ := DataW.trod_int h.1 hy
  exact ⟨n, rfl, by simpa [Lit.wf, IntKind.has] using h3⟩
 | bool =>
  refine fun _ => ⟨fun T fuel cs y h hy => ?_, fun off fs fuel cs h => h.elim⟩
  obtain ⟨b, rfl, _⟩ := DataW.trod_bool h.1 hy
  exact ⟨b, rfl⟩
 | str =>
  refine fun _ => ⟨fun T fuel cs y h hy => ?_, fun off fs fuel cs h => h.elim⟩
  obtain ⟨s, rfl, _, h3⟩ := DataW.trod_string h.1 hy
  exact ⟨bytesI s, s, rfl, rfl, h3⟩
 | slice e ih =>
  refine fun hd => ⟨fun T fuel cs y h hy => ?_, fun off fs fuel cs h => h.elim⟩
  obtain ⟨⟨E, h1, h2⟩, _⟩ := h
  have hs := cellsOf_of (TyIs.size e E h2)
  rcases DataW.trod_slice h1 hy with ⟨rfl, _⟩ | ⟨a, len, cap, elems, rest, n, _, rfl, _, hb, hlc, hcm, hel, hel2, _, _⟩
  ·exact ⟨[], none, 0, 0, [], rfl, rfl, Nat.le_refl _, Nat.zero_le _, rfl, .inl rfl⟩
  ·rw [hs] at hel2
   obtain ⟨ds, xs, g1, g2, g3, g4⟩ := gather (w := w) (base := base) (a := a) (size := e.size) (R := Rep w (fun _ => False) e) (fun c x hx => Rep.length e c x hx) len (fun i hi => by
    have := hel2 i hi
    have hlt : i < elems.length := by omega
    rw [List.getElem?_eq_getElem hlt] at this
    obtain ⟨cs, k1, k2⟩ := Option.bind_eq_some_iff.1 this
    obtain ⟨x, hx⟩ := (ih hd).1 E n cs _ h2 k2
    exact ⟨cs, x, k1, hx⟩)
   refine ⟨xs, some a, len, cap, ds, rfl, g1.symm, hlc, hcm, g3, ?_⟩
   by_cases hne : ds = []
   ·exact .inl hne
   ·have hpos : 0 < ds.length := List.length_pos_iff.2 hne
    have h0 := g4 0 hpos
    rw [List.getElem?_eq_getElem hpos] at h0
    have hspot : a.spot = none := by
     cases hsp : a.spot with
     | none => rfl
     | some s => simp [Addr.add, World.cell?, hsp] at h0; split at h0 <;> simp_all
    obtain ⟨b, o, s⟩ := a
    simp only at hspot
    subst hspot
    refine .inr ⟨b, o, rfl, fun j u hu => ?_, fun h => h⟩
    have hj : j < ds.length := by
     rcases Nat.lt_or_ge j ds.length with h | h
     ·exact h
     ·rw [List.getElem?_eq_none h] at hu; cases hu
    have := g4 j hj
    rw [hu, Addr.add_lit] at this
    exact this
 | arr n e ih =>
  refine fun hd => ⟨fun T fuel cs y h hy => ?_, fun off fs fuel cs h => h.elim⟩
  obtain ⟨⟨E, h1, h2⟩, h3⟩ := h
  have hs := cellsOf_of (TyIs.size e E h2)
  have hT := cellsOf_of h3
  obtain ⟨xs, m, _, _, hl, hxl, hx⟩ := DataW.trod_array h1 hy
  rw [hs] at hx
  rw [hT] at hl
  have key : ∀ k, k ≤ n → ∃ zs : List e.den, zs.length = k ∧ chunks (Rep w (fun _ => False) e) (cs.take (k * e.size)) zs := by
   intro k
   induction k with
   | zero => intro _; exact ⟨[], rfl, by simp [chunks]⟩
   | succ k ihk =>
    intro hk
    obtain ⟨zs, z1, z2⟩ := ihk (by omega)
    have hg := hx k (by omega)
    have hlt : k < xs.length := by omega
    rw [List.getElem?_eq_getElem hlt] at hg
    obtain ⟨x, hx⟩ := (ih hd).1 E m _ _ h2 hg
    refine ⟨zs ++ [x], by simp [z1], ?_⟩
    have e1 : cs.take ((k + 1) * e.size) = cs.take (k * e.size) ++ ((cs.drop (k * e.size)).take e.size) := by
     rw [Nat.add_mul, Nat.one_mul, List.take_add]
    rw [e1]
    exact chunks_append z2 ⟨_, [], by simp, hx, rfl⟩
  obtain ⟨zs, z1, z2⟩ := key n (Nat.le_refl _)
  refine ⟨zs, z1, ?_⟩
  rwa [List.take_of_length_le (by omega)] at z2
 | unit =>
  refine fun _ => ⟨fun T fuel cs y h hy => ?_, fun off fs fuel cs h _ => ⟨(), by simp [Ty.size, Rep]⟩⟩
  obtain ⟨⟨fs, h1, _⟩, h2, _⟩ := h
  obtain ⟨xs, n, _, _, hl, _⟩ := DataW.trod_struct h1 hy
  rw [cellsOf_of h2] at hl
  exact ⟨(), List.eq_nil_of_length_eq_zero hl⟩
 | pair a b iha ihb =>
  intro hd
  simp only [Ty.data, Bool.and_eq_true] at hd
  have main : ∀ off fs fuel (cs : List Value), (TyIs P (.pair a b)).2 off fs → (∀ f ∈ fs, ∃ y, DataW.trod enc P w base spare held fuel f.type ((cs.drop f.offset).take (P.cellsOf f.type)) = some y) → ∃ x, Rep w (fun _ => False) (.pair a b) ((cs.drop off).take (Ty.pair a b).size) x := by
   intro off fs fuel cs ⟨f, r, he, ho, hn, h1, h2⟩ hall
   subst he
   obtain ⟨y, hy⟩ := hall f (by simp)
   obtain ⟨xa, ha⟩ := (iha hd.1).1 f.type fuel _ y h1 hy
   obtain ⟨xb, hb⟩ := (ihb hd.2).2 (off + a.size) r fuel cs h2 (fun g hg => hall g (by simp [hg]))
   rw [cellsOf_of (TyIs.size a _ h1), ho] at ha
   refine ⟨(xa, xb), _, _, ?_, ha, hb⟩
   simp only [Ty.size]
   rw [List.take_add, List.drop_drop]
  refine ⟨fun T fuel cs y h hy => ?_, main⟩
  obtain ⟨⟨fs, h1, f, r, hf, ho, hn, k1, k2⟩, h2, _⟩ := h
  obtain ⟨xs, n, _, _, hl, hxl, hx⟩ := DataW.trod_struct h1 hy
  obtain ⟨x, hxr⟩ := main 0 fs.toList n cs ⟨f, r, hf, ho, hn, k1, by simpa using k2⟩ (fun g hg => by
   obtain ⟨i, hi⟩ := List.getElem?_of_mem hg
   have hi' : fs[i]? = some g := by simpa using hi
   have hlt : i < xs.length := by
    rw [hxl]
    exact (Array.getElem?_eq_some_iff.1 hi').1
   rw [hx i g hi', List.getElem?_eq_getElem hlt]
   exact ⟨_, rfl⟩)
  rw [cellsOf_of h2] at hl
  refine ⟨x, ?_⟩
  rw [List.drop_zero, List.take_of_length_le (by simp [Ty.size]; omega)] at hxr
  exact hxr
 | ref e ih => intro hd; simp [Ty.data] at hd
 | opt e ih => intro hd; simp [Ty.data] at hd
 | fnc e => intro hd; simp [Ty.data] at hd
theorem val_rep {r : Reach} {b0 : Nat} {t : Ty} {T : TypeId} {v : Value} {d : DataW H} {p : List MemPlace} (ht : (TyIs P t).1 T) (hd : t.data = true) (hok : Value.okWide P w r b0 T v) (h : DataW.Trod enc P w base spare held T v d p) :
  ∃ cs x, boxed t.isAgg v cs ∧ Rep w (fun _ => False) t cs x := by
 obtain ⟨fuel, hf⟩ := h
 obtain ⟨x, hx⟩ := (trod_rep t hd).1 T fuel _ _ ht hf
 have one : t.isAgg = false → (∀ c, v ≠ .agg c) → boxed t.isAgg v v.cells.toList := by
  intro ha hn
  have : v.cells = #[v] := by cases v <;> first | rfl | exact absurd rfl (hn _)
  rw [ha, this]
  rfl
 refine ⟨v.cells.toList, x, ?_, hx⟩
 unfold Value.okWide at hok
 cases t with
 | arr n e =>
  obtain ⟨⟨E, h1, _⟩, _⟩ := ht
  rw [h1] at hok
  obtain ⟨cs, rfl, _⟩ := hok
  simp [boxed, Ty.isAgg, Value.cells]
 | unit =>
  obtain ⟨⟨fs, h1, _⟩, _⟩ := ht
  rw [h1] at hok
  obtain ⟨cs, rfl, _⟩ := hok
  simp [boxed, Ty.isAgg, Value.cells]
 | pair a b =>
  obtain ⟨⟨fs, h1, _⟩, _⟩ := ht
  rw [h1] at hok
  obtain ⟨cs, rfl, _⟩ := hok
  simp [boxed, Ty.isAgg, Value.cells]
 | int k => exact one rfl fun c hc => by subst hc; rw [ht.1] at hok; simp [Cell.okWide, Cell.ok, ht.1] at hok
 | bool => exact one rfl fun c hc => by subst hc; rw [ht.1] at hok; simp [Cell.okWide, Cell.ok, ht.1] at hok
 | str => exact one rfl fun c hc => by subst hc; rw [ht.1] at hok; simp [Cell.okWide, Cell.ok, ht.1] at hok
 | slice e =>
  obtain ⟨⟨E, h1, _⟩, _⟩ := ht
  exact one rfl fun c hc => by subst hc; rw [h1] at hok; simp [Cell.okWide, Cell.ok, h1] at hok
 | ref e => simp [Ty.data] at hd
 | opt e => simp [Ty.data] at hd
 | fnc e => simp [Ty.data] at hd
def PsIs (P : Program) : Ty → List TypeId → Prop
 | .unit, ts => ts = []
 | .pair a b, ts => ∃ T r, ts = T :: r ∧ (TyIs P a).1 T ∧ a.data = true ∧ PsIs P b r
 | _, _ => False
theorem args_rep {r : Reach} {b0 : Nat} : ∀ (t : Ty) (ts : List TypeId) (vs : List Value) (ds : List (DataW H)) (p : List MemPlace), PsIs P t ts → (∀ (j : Nat) T v, ts[j]? = some T → vs[j]? = some v → Value.okWide P w r b0 T v) →
  DataW.TrodAll enc P w base spare held ts vs ds p → ∃ xs, ArgsRep w (fun _ => False) t vs xs
 | .unit, ts, vs, ds, p, hp, _, h => by
  have : ts = [] := hp
  subst this
  obtain ⟨rfl, _⟩ := ChangeShapes.trodAll_nil h
  exact ⟨(), rfl⟩
 | .pair a b, ts, vs, ds, p, ⟨T, rr, ht, h1, h2, h3⟩, hok, h => by
  subst ht
  cases vs with
  | nil => cases ds <;> exact h.elim
  | cons v vs =>
   cases ds with
   | nil => exact h.elim
   | cons d ds =>
    obtain ⟨p1, q1, k1, k2, _⟩ := h
    obtain ⟨cs, x, g1, g2⟩ := val_rep h1 h2 (hok 0 T v rfl rfl) k1
    obtain ⟨xs, hxs⟩ := args_rep b rr vs ds q1 h3 (fun j U u hj hu => hok (j + 1) U u hj hu) k2
    exact ⟨(x, xs), v, vs, cs, rfl, g1, g2, hxs⟩
 | .int _, _, _, _, _, hp, _, _ | .bool, _, _, _, _, hp, _, _ | .str, _, _, _, _, hp, _, _ | .slice _, _, _, _, _, hp, _, _ | .arr _ _, _, _, _, _, hp, _, _ | .ref _, _, _, _, _, hp, _, _ | .opt _, _, _, _, _, hp, _, _ | .fnc _, _, _, _, _, hp, _, _ => by simp [PsIs] at hp
theorem trodAll_length : ∀ {ts : List TypeId} {vs : List Value} {ds : List (DataW H)} {p : List MemPlace}, DataW.TrodAll enc P w base spare held ts vs ds p → ds.length = ts.length
 | [], [], [], _, _ => rfl
 | t :: ts, v :: vs, d :: ds, _, ⟨_, _, _, h, _⟩ => by simp [trodAll_length h]
 | [], _ :: _, _, _, h => h.elim
 | [], [], _ :: _, _, h => h.elim
 | _ :: _, [], _, _, h => h.elim
 | _ :: _, _ :: _, [], _, h => h.elim
theorem trodAll_below {W W' : World} (hl : laidOutB P = true) (hb : Below W.heap.size W W') : ∀ {ts : List TypeId} {vs : List Value} {ds : List (DataW H)} {p : List MemPlace}, (ts.all fun t => P.readableRec t && decide (t < P.types.size)) = true →
  (∀ x ∈ p, x.block < W.heap.size) → DataW.TrodAll enc P W 0 (fun _ => true) true ts vs ds p → DataW.TrodAll enc P W' 0 (fun b => decide (b < W.heap.size)) true ts vs ds p
 | [], [], [], _, _, _, h => h
 | t :: ts, v :: vs, d :: ds, p, hr, hlt, ⟨p1, q1, h1, h2, h3⟩ => by
  simp only [List.all_cons, Bool.and_eq_true, decide_eq_true_eq] at hr
  subst h3
  exact ⟨p1, q1, Below.trod hl hr.1.1 hr.1.2 h1 hb (fun x hx => hlt x (List.mem_append_left _ hx)), trodAll_below hl hb hr.2 (fun x hx => hlt x (List.mem_append_right _ hx)) h2, rfl⟩
 | [], _ :: _, _, _, _, _, h => h.elim
 | [], [], _ :: _, _, _, _, h => h.elim
 | _ :: _, [], _, _, _, _, h => h.elim
 | _ :: _, _ :: _, [], _, _, _, h => h.elim
theorem law_contract {f : FuncId} {fn : Func} {i : Inl} {ps : Ty} {raw : ps.den → Option Bool} {s : ChangeSpec} {B : TypeId} (hcon : ConOk P f { ps := ps, sh := [.pl .bool], raw := raw }) (hi : InlOk P f i) (hps : PsIs P ps fn.params.toList) (hres : fn.resultTypes = #[B]) (hB : P.underlying B = some .bool)
  (hl : laidOutB P = true) (hr : (fn.params.toList.all fun t => P.readableRec t && decide (t < P.types.size)) = true) (hvars : s.vars = [])
  (hfn : ∀ (ds : List (DataW H)), ds.length = fn.params.toList.length → s.fn H ds = { results := [.lit (.bool true)], args := ds })
  {W : World} {b0 : Nat} {r : Reach} {args : Array Value} {ds gs : List (DataW H)} {before : List MemPlace} {apart : Bool}
  (hval : ∀ (j : Nat) t v, fn.params[j]? = some t → args[j]? = some v → Value.okWide P W r b0 t v)
  (hW : DataW.Whole enc P fn.params.toList s.vars apart W args.toList ds gs before)
  (hpre : ∀ xs, ArgsRep W (fun _ => False) ps args.toList xs → raw xs = some true) (hG : GOk P W) :
  Calls P f args W fun e W' => ∃ v, e = .returned v ∧ s.post enc P fn apart true false false W args v W' := by
 have hW' := hW
 obtain ⟨p, q, hA, hV, hpq, hfz, hnd⟩ := hW
 have hlt := hW'.lt
 rw [hvars] at hV
 obtain ⟨hgs, hq⟩ := ChangeShapes.trodVars_none hV
 obtain ⟨xs, hxs⟩ := args_rep ps fn.params.toList args.toList ds p hps (fun j T v hj hv => hval j T v (by simpa using hj) (by simpa using hv)) hA
 have hd := hcon W (fun _ => False) args xs true (fun b hb => hb.elim) hxs (hpre xs hxs) hG
 rcases hd with ⟨_, hd⟩ | ⟨v, w', hd, _⟩
 ·refine hd.mono fun e W' ⟨v, he, hk, θ, hH, hv⟩ => ⟨v, he, ?_⟩
  have hvb := rval_bool hv
  subst hvb
  have hb : Below W.heap.size W W' := hk.below
  have hs : s.fn H (ds ++ gs) = { results := [.lit (.bool true)], args := ds } := by rw [hgs, List.append_nil]; exact hfn ds (trodAll_length hA)
  refine ⟨ds, gs, before, [], p, [], hW', ?_, ?_, ?_, hb.frame _, fun h => by cases h⟩
  ·rw [hs, hres]
   exact ChangeShapes.trodAll_mk1 ⟨1, by simp [DataW.trod, Value.cells, hB]⟩
  ·rw [hs]
   exact trodAll_below hl hb hr (fun x hx => hlt x (by rw [hpq]; exact List.mem_append_left _ hx)) hA
  ·rw [hs, hvars]; rfl
 ·rw [hi.enter args W] at hd; cases hd
end Go.Ai
/- What is known of a statement's plain arguments: each number fits its kind, each list is no longer than memory bears. -/
namespace Go.Ai
open Go.RowKit
def Ty.ok : (t : Ty) → t.den → Prop
 | .int k, x => k.has x
 | .bool, _ => True
 | .str, xs => xs.length ≤ maxLen ∧ ∀ x ∈ xs, 0 ≤ x ∧ x < 256
 | .slice e, xs => xs.length ≤ maxLen ∧ ∀ x ∈ xs, e.ok x
 | .arr n e, xs => xs.length = n ∧ ∀ x ∈ xs, e.ok x
 | .unit, _ => True
 | .pair a b, x => a.ok x.1 ∧ b.ok x.2
 | .ref e, x => e.ok x
 | .fnc _, _ => True
 | .opt _, none => True
 | .opt e, some x => e.ok x
theorem chunks_mem {α : Type} {R : List Value → α → Prop} {Q : α → Prop} (h : ∀ c x, R c x → Q x) : ∀ {xs : List α} {cs}, chunks R cs xs → ∀ x ∈ xs, Q x
 | [], _, _, x, hx => by simp at hx
 | y :: ys, cs, ⟨c1, c2, _, h1, h2⟩, x, hx => by
  rcases List.mem_cons.1 hx with hx | hx
  ·subst hx; exact h _ _ h1
  ·exact chunks_mem h h2 x hx
theorem Rep.ok {w : World} {X : Nat → Prop} : (t : Ty) → (cs : List Value) → (x : t.den) → Rep w X t cs x → t.ok x
 | .int k, _, x, h => h.2
 | .bool, _, _, _ => trivial
 | .str, _, x, ⟨s, _, h, hl⟩ => by
  subst h
  refine ⟨by rw [bytesI_length]; exact hl, fun y hy => ?_⟩
  unfold bytesI at hy
  obtain ⟨b, _, rfl⟩ := List.mem_map.1 hy
  have := b.toNat_lt
  omega
 | .slice e, _, xs, ⟨a, len, cap, ds, _, h2, h3, h4, h5, _⟩ => ⟨by omega, chunks_mem (fun c x hx => Rep.ok e c x hx) h5⟩
 | .arr n e, _, xs, ⟨h1, h2⟩ => ⟨h1, chunks_mem (fun c x hx => Rep.ok e c x hx) h2⟩
 | .unit, _, _, _ => trivial
 | .pair a b, _, x, ⟨c1, c2, _, h1, h2⟩ => ⟨Rep.ok a c1 _ h1, Rep.ok b c2 _ h2⟩
 | .ref e, _, x, ⟨b, o, ds, _, h, _⟩ => Rep.ok e ds x h
 | .fnc _, _, _, _ => trivial
 | .opt _, _, none, _ => trivial
 | .opt e, _, some x, ⟨b, o, ds, _, h, _⟩ => Rep.ok e ds x h
theorem args_ok {w : World} {X : Nat → Prop} : (t : Ty) → (vs : List Value) → (x : t.den) → ArgsRep w X t vs x → t.ok x
 | .unit, _, _, _ => trivial
 | .pair a b, _, x, ⟨v, r, cs, _, _, h1, h2⟩ => ⟨Rep.ok a cs _ h1, args_ok b r _ h2⟩
 | .int _, _, _, h | .bool, _, _, h | .str, _, _, h | .slice _, _, _, h | .arr _ _, _, _, h | .ref _, _, _, h | .opt _, _, _, h | .fnc _, _, _, h => h.elim
def psB (cx : Cx) : Ty → List TypeId → Bool
 | .unit, [] => true
 | .pair a b, T :: r => decide (cx.ty T = some a) && a.data && psB cx b r
 | _, _ => false
theorem psIs_of {P : Program} {cx : Cx} (hC : CxOk P cx) : (t : Ty) → (ts : List TypeId) → psB cx t ts = true → PsIs P t ts
 | .unit, [], _ => rfl
 | .pair a b, T :: r, h => by
  simp only [psB, Bool.and_eq_true, decide_eq_true_eq] at h
  exact ⟨T, r, rfl, hC.ty T a h.1.1, h.1.2, psIs_of hC b r h.2⟩
 | .unit, _ :: _, h => by simp [psB] at h
 | .pair _ _, [], h => by simp [psB] at h
 | .int _, ts, h => by cases ts <;> simp [psB] at h
 | .bool, ts, h => by cases ts <;> simp [psB] at h
 | .str, ts, h => by cases ts <;> simp [psB] at h
 | .slice _, ts, h => by cases ts <;> simp [psB] at h
 | .arr _ _, ts, h => by cases ts <;> simp [psB] at h
 | .ref _, ts, h => by cases ts <;> simp [psB] at h
 | .opt _, ts, h => by cases ts <;> simp [psB] at h
theorem bindO_mk {α β : Type} (a : α) (f : α → Option β) : bindO (some a) f = f a := rfl
theorem bindO_no {α β : Type} (f : α → Option β) : bindO none f = none := rfl
theorem cond_mk {α : Type} (p : Bool) (a b : α) : cond p (some a) (some b) = some (cond p a b) := by cases p <;> rfl
end Go.Ai

