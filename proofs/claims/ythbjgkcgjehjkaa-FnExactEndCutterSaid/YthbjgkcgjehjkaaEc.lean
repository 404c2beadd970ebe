/- An abstract machine over plain values for the model, and that it is sound. No conditions. -/
import Derived.Test.YthbjgkcgjehjkaaEb
import Derived.Maps.AppendAt
import Derived.Lib.LazyBuf
import Derived.Tactics
import Derived.StillTail
/- copy. -/
namespace Go.Ai
open Go.RowKit
set_option linter.unusedVariables false
set_option linter.unusedSimpArgs false

variable {P : Program} {cx : Cx} {w0 : World} {Xo : Nat → Prop} {σ : St} {θ : Nat → Option Own} {as : List (Array Value)} {a : Act} {w : World} {R : Type} {r : R} {K : TV → St → Option R}

theorem chunks_take {α : Type} {R : List Value → α → Prop} {n : Nat} (hl : ∀ c x, R c x → c.length = n) {xs : List α} {cs : List Value} {k : Nat} (hc : chunks R cs xs) (hk : k ≤ xs.length) : chunks R (cs.take (k * n)) (xs.take k) := by
  have := chunks_cut hl 0 k hc (Nat.zero_le _) hk
  simpa [cutL] using this
theorem chunks_drop {α : Type} {R : List Value → α → Prop} {n : Nat} (hl : ∀ c x, R c x → c.length = n) {xs : List α} {cs : List Value} {k : Nat} (hc : chunks R cs xs) (hk : k ≤ xs.length) : chunks R (cs.drop (k * n)) (xs.drop k) := by
  have h := chunks_cut hl k xs.length hc hk (Nat.le_refl _)
  have hlen := chunks_length hl hc
  rw [List.take_of_length_le (by rw [List.length_drop, hlen, Nat.sub_mul]; exact Nat.le_refl _)] at h
  have : cutL xs k xs.length = xs.drop k := by unfold cutL; rw [List.take_of_length_le (by simp)]
  rwa [this] at h
theorem chunks_app {α : Type} {R : List Value → α → Prop} : ∀ {xs ys : List α} {cs ds : List Value}, chunks R cs xs → chunks R ds ys → chunks R (cs ++ ds) (xs ++ ys)
  | [], _, _, _, hx, hy => by
    have : _ = [] := hx
    subst this; simpa using hy
  | x :: xs, _, _, _, ⟨c1, c2, h0, h1, h2⟩, hy => ⟨c1, c2 ++ _, by rw [h0, List.append_assoc], h1, chunks_app h2 hy⟩
theorem chunks_spl {α : Type} {R : List Value → α → Prop} {n : Nat} (hl : ∀ c x, R c x → c.length = n) {xs zs : List α} {cs zc : List Value} {lo : Nat} (hc : chunks R cs xs) (hz : chunks R zc zs) (hk : lo + zs.length ≤ xs.length) :
    chunks R (cs.take (lo * n) ++ (zc ++ cs.drop (lo * n + zc.length))) (splL xs lo zs) := by
  have hzl := chunks_length hl hz
  refine chunks_app (chunks_take hl hc (by omega)) (chunks_app hz ?_)
  have := chunks_drop hl hc hk
  rwa [Nat.add_mul, ← hzl] at this
theorem splL_length {α : Type} (xs ys : List α) (lo : Nat) (h : lo + ys.length ≤ xs.length) : (splL xs lo ys).length = xs.length := by simp [splL]; omega
theorem splL_nil {α : Type} (xs : List α) (lo : Nat) : splL xs lo [] = xs := by simp [splL]

theorem run_copy_none {dT sT ty E : TypeId} (hu : P.underlying dT = some (.slice E)) {e : Ty} (hE : (TyIs P e).1 E) {ad ad2 : Option Addr} {dLen dCap sLen cap : Nat} (h0 : min sLen dLen = 0) :
    (Builtin.copy_ #[dT, sT] ty #[.slice ad dLen dCap, .slice ad2 sLen cap]).run P w = .ok (goInt 0) w := by
  have hsz := TyIs.size e E hE
  unfold Program.hasSize at hsz
  cases hq : P.info? E with
  | none => simp [hq] at hsz
  | some i =>
    have h0' : Nat.min sLen dLen = 0 := h0
    cases ad2 <;> cases ad <;> simp [Builtin.copy_, run_underlying hu, Builtin.lenOf, Builtin.firstCells, sizeOf, typeInfo, hq, storeCells, h0', loadCells, loadCellsFrom]

theorem run_copy_list {dT sT ty E : TypeId} (hu : P.underlying dT = some (.slice E)) {e : Ty} (hE : (TyIs P e).1 E) {b o dLen dCap sLen cap : Nat} {ad : Option Addr} {cs : List Value} (hn : cs.length = min sLen dLen * e.size)
    (hsrc : cs = [] ∨ ∃ b2 o2, ad = some ⟨b2, o2, none⟩ ∧ w.rangeAt b2 o2 cs) (ht : w.there b o cs.length) (h1 : ∀ u ∈ cs, u.oneCell' = true) :
    (Builtin.copy_ #[dT, sT] ty #[.slice (some ⟨b, o, none⟩) dLen dCap, .slice ad sLen cap]).run P w = .ok (goInt ((min sLen dLen : Nat) : Int)) (w.setCells b o cs) := by
  have hsz := TyIs.size e E hE
  unfold Program.hasSize at hsz
  cases hq : P.info? E with
  | none => simp [hq] at hsz
  | some i =>
    have hi : i.size = e.size := by simpa [hq] using hsz
    have hn' : Nat.min sLen dLen * e.size = cs.length := hn.symm
    have hst := run_storeCells_cells (P := P) b o cs 0 w (fun j hj => by simpa using (ht j hj).1) (fun j hj => by simpa using (ht j hj).2) h1
    simp only [Nat.add_zero] at hst
    have hld : (Builtin.firstCells e.size (Nat.min sLen dLen) (.slice ad sLen cap)).run P w = .ok cs.toArray w := by
      cases ad with
      | some q =>
        refine run_firstCells_some (P := P) (w := w) _ _ q sLen cap cs hn'.symm ?_
        rcases hsrc with h | ⟨b2, o2, h, hr⟩
        · subst h; intro j v hj; simp at hj
        · injection h with h; subst h; intro j v hj; rw [Addr.add_lit]; exact hr j v hj
      | none =>
        rcases hsrc with h | ⟨b2, o2, h, hr⟩
        · subst h; simp [Builtin.firstCells]
        · cases h
    simp [Builtin.copy_, run_underlying hu, Builtin.lenOf, sizeOf, typeInfo, hq, hi, hld, hst]

theorem hset_same : ∀ (H : Heap) (i : Nat) (blk : Blk), hget H i = some blk → hset H i blk = H
  | [], _, _, h => by simp [hget] at h
  | (k, b) :: r, i, blk, h => by
    simp only [hget] at h
    simp only [hset]
    by_cases e : k = i
    · simp only [beq_iff.2 e, cond, Option.some.injEq] at h ⊢; rw [h]
    · simp only [beq_false e, cond] at h ⊢; rw [hset_same r i blk h]

/-- What copy does to a view. -/
theorem copy_go (hC : CxOk P cx) (h : Rel w0 Xo σ θ as a w) {T sT : TypeId} {e : Ty} (hT : cx.ty T = some (.slice e)) {i : Nat} {rt : Ty} {p : List Sel} {lo hi : Nat} {v : Value} {o : Own} (ho : θ i = some o) (hv : o.vw rt p e lo hi v)
    {ys : List e.den} {ad : Option Addr} {len cap : Nat} {ds : List Value} (hlen : len = ys.length) (hm : len ≤ maxLen) (hch : chunks (Rep w (owned Xo θ σ.heap) e) ds ys) (hds : ds = [] ∨ ∃ b o, ad = some ⟨b, o, none⟩ ∧ w.rangeAt b o ds) {H' : Heap} (hp : copyH σ.heap i rt p e lo hi ys = some H') :
    ∃ w', Rel w0 Xo { σ with heap := H' } θ as a w' ∧ ∀ ty, (Builtin.copy_ #[T, sT] ty #[v, .slice ad len cap]).run P w = .ok (.int .i64 ((ys.take (hi - lo)).length : Nat)) w' := by
  obtain ⟨⟨E2, hu, hE⟩, _⟩ := hC.ty T _ hT
  obtain ⟨hle, adv, capv, rfl, hc1, hc2, hmm⟩ := hv
  let k := min ys.length (hi - lo)
  have hzs : ys.take (hi - lo) = ys.take k := by
    apply List.ext_getElem?; intro j
    simp only [List.getElem?_take, k]
    split <;> split <;> first | rfl | omega | (rw [List.getElem?_eq_none (by omega)])
  have hzch := chunks_take (fun c x hx => Rep.length e c x hx) (k := k) hch (by omega)
  have hzl := chunks_length (fun c x hx => Rep.length e c x hx) hzch
  have hzlen : (ys.take (hi - lo)).length = k := by rw [hzs]; simp; omega
  rw [← hzs] at hzch hzl
  have hone := chunks_all (fun c x hx => Rep.one e c x hx) hzch
  have hsrc : ds.take (k * e.size) = [] ∨ ∃ b o, ad = some ⟨b, o, none⟩ ∧ w.rangeAt b o (ds.take (k * e.size)) := by
    rcases hds with hds | ⟨b, q, h1, h2⟩
    · exact .inl (by rw [hds]; simp)
    · exact .inr ⟨b, q, h1, by simpa using rangeAt_cut h2 0 (k * e.size)⟩
  have hres : ∀ m : Nat, goInt (m : Int) = .int .i64 m := fun m => rfl
  unfold copyH at hp
  split at hp
  · rename_i t c hg
    obtain ⟨ht, hp2⟩ := cond_some hp
    clear hp
    have ht : t = rt := by simpa using ht
    subst ht
    split at hp2
    · rename_i n ee xs hu2
      split at hp2
      · rename_i q; subst q
        split at hp2
        · rename_i c' hc'
          injection hp2 with hp2; subst hp2
          obtain ⟨b, C, E, e1, e2, e3, e4, e5⟩ := h.heap.blk i _ hg
          rw [e1] at ho; injection ho with ho; subst ho
          obtain ⟨off, n', hrat, hn, had⟩ := hmm
          have hat := at_of_rat e5 hu2 hrat
          obtain ⟨k1, c1, cc, c2, k2, k3, k4, k5⟩ := tv_get c t p C.toList off _ _ hat e5 hu2 e4
          have hnn : n = n' := by simp [TV.fits] at k1; exact k1
          subst hnn
          obtain ⟨hl, hcc⟩ := k5
          have hfit : lo + (ys.take (hi - lo)).length ≤ xs.length := by rw [hzlen]; omega
          have hnew := chunks_spl (fun c x hx => Rep.length ee c x hx) (lo := lo) hcc hzch hfit
          have hccl := chunks_length (fun c x hx => Rep.length ee c x hx) hcc
          have hcl := RV.length c t C.toList e5 e4
          have hin : lo * ee.size + (ds.take (k * ee.size)).length ≤ cc.length := by
            rw [hzl, hccl, ← Nat.add_mul]; exact Nat.mul_le_mul_right _ hfit
          have hsp := splL_length xs (ys.take (hi - lo)) lo hfit
          obtain ⟨g1, g2⟩ := tv_set c t p C.toList off (.arr n ee) (.pv (.arr n ee) (splL xs lo (ys.take (hi - lo)))) c' _ hat e5 hc' e4 (pv_fits _ _) (⟨by rw [hsp]; exact hl, hnew⟩ : RV w (owned Xo θ σ.heap) θ false (.pv (.arr n ee) (splL xs lo (ys.take (hi - lo)))) _) c1 cc c2 k2 k3 k4
          have hbase : baseAt θ i = some b := by simp [baseAt, e1, Own.base]
          have hCl : C.toList.length = off + cc.length + c2.length := by rw [k2]; simp; omega
          obtain ⟨C', m1, m2⟩ := heap_setCells b E (ds.take (k * ee.size)) (off + lo * ee.size) w C e3 (by simp at hCl ⊢; simp at hin; omega)
          have hcells : C'.toList = c1 ++ ((cc.take (lo * ee.size) ++ ((ds.take (k * ee.size)) ++ cc.drop (lo * ee.size + (ds.take (k * ee.size)).length))) ++ c2) := by
            rw [m2, k2]
            have e6 : off + lo * ee.size = (c1 ++ cc.take (lo * ee.size)).length := by simp [k3]; simp at hin; omega
            have e7 : c1 ++ (cc ++ c2) = (c1 ++ cc.take (lo * ee.size)) ++ (((cc.drop (lo * ee.size)).take (ds.take (k * ee.size)).length) ++ (cc.drop (lo * ee.size + (ds.take (k * ee.size)).length) ++ c2)) := by
              conv => lhs; rw [← List.take_append_drop (lo * ee.size) cc]
              rw [← List.drop_drop]
              simp only [List.append_assoc]
              congr 2
              rw [← List.append_assoc (List.take _ _) (List.drop _ _), List.take_append_drop]
            rw [e7, e6, take_mid (by simp; simp at hin; omega)]
            simp
          have hthere : w.there b (off + lo * ee.size) (ds.take (k * ee.size)).length := by
            intro j hj
            refine ⟨?_, ?_⟩
            · have : (C[off + lo * ee.size + j]?).isSome = true := by simp at hCl ⊢; omega
              simpa [World.cell?, e3] using this
            · simp [World.frozen?, e3]
          have hstep := rewrite_step h hg hbase (blk' := .var t c') (off + lo * ee.size) (ds.take (k * ee.size))
          have hrel := h.rewrite hg hbase (off + lo * ee.size) (ds.take (k * ee.size)) (blk' := .var t c') ⟨b, C', E, e1, e2, m1, by rw [hcells]; exact RV.step hstep false c' _ (fun _ _ => rfl) g2, g1⟩
          rcases had with had | had
          · have hk0 : k = 0 := by omega
            have hnil : ds.take (k * ee.size) = [] := by rw [hk0]; simp
            rw [hnil] at hrel
            refine ⟨w, hrel, fun ty => ?_⟩
            rw [hzlen, hk0]
            exact run_copy_none hu hE (by omega)
          · subst had
            refine ⟨_, hrel, fun ty => ?_⟩
            rw [hzlen, ← hres]
            have := run_copy_list (w := w) (sT := sT) (ty := ty) (dCap := capv) (cap := cap) (sLen := len) (dLen := hi - lo) hu hE (cs := ds.take (k * ee.size)) (by rw [hzl, hzlen, hlen]) hsrc hthere hone
            rw [hlen] at this ⊢
            exact this
        · cases hp2
      · cases hp2
    · cases hp2
  · rename_i E ee xs hg
    split at hp
    · rename_i q; subst q
      split at hp
      · obtain ⟨ht, hp2⟩ := cond_some hp
        injection hp2 with hp2; subst hp2
        obtain ⟨vv, dx, g1, g2, g3⟩ := h.heap.blk i _ hg
        rw [g1] at ho; injection ho with ho; subst ho
        obtain ⟨_, _, ad0, len0, cap0, hu0, hlen0, had⟩ := hmm
        subst hu0
        have hlxs : len0 = xs.length := by
          rcases g2.2 with ⟨k1, k2⟩ | ⟨g, cap1, cur, k1, _⟩
          · injection k1 with _ k1 _; omega
          · injection k1 with _ k1 _
        subst hlxs
        have hfit : lo + (ys.take (hi - lo)).length ≤ xs.length := by rw [hzlen]; omega
        rcases had with had | ⟨g, had, had2⟩
        · have hk0 : k = 0 := by omega
          have hz0 : ys.take (hi - lo) = [] := List.eq_nil_of_length_eq_zero (by rw [hzlen, hk0])
          refine ⟨w, ?_, fun ty => ?_⟩
          · rw [hz0, splL_nil, hset_same _ _ _ hg]; exact h
          · rw [hzlen, hk0]
            exact run_copy_none hu hE (by omega)
        · subst had; subst had2
          have hnew := chunks_spl (fun c x hx => Rep.length ee c x hx) (lo := lo) g3 hzch hfit
          have hdl := chunks_length (fun c x hx => Rep.length ee c x hx) g3
          have hin : lo * ee.size + (ds.take (k * ee.size)).length ≤ dx.length := by
            rw [hzl, hdl, ← Nat.add_mul]; exact Nat.mul_le_mul_right _ hfit
          obtain ⟨own', hthere⟩ := ownsRow_set g2 (g := g) rfl (o := lo * ee.size) (vs := ds.take (k * ee.size)) hin
          have hbase : baseAt θ i = some g := by simp [baseAt, g1, Own.base, Value.ownBlock]
          have hstep := rewrite_step h hg hbase (blk' := .arr E ee (splL xs lo (ys.take (hi - lo)))) (lo * ee.size) (ds.take (k * ee.size))
          have hrel := h.rewrite hg hbase (lo * ee.size) (ds.take (k * ee.size)) (blk' := .arr E ee (splL xs lo (ys.take (hi - lo)))) ⟨_, _, g1, by rw [splL_length _ _ _ hfit]; exact own', chunks_mono (fun c x hx => hstep.rep ee c x hx) hnew⟩
          refine ⟨_, hrel, fun ty => ?_⟩
          rw [hzlen, ← hres]
          have := run_copy_list (w := w) (sT := sT) (ty := ty) (dCap := capv) (cap := cap) (sLen := len) (dLen := hi - lo) hu hE (cs := ds.take (k * ee.size)) (by rw [hzl, hzlen, hlen]) hsrc hthere hone
          rw [hlen] at this ⊢
          exact this
      · cases hp
    · cases hp
  · cases hp

theorem eff_copy (hC : CxOk P cx) (h : Rel w0 Xo σ θ as a w) {lev : Nat} {draw : Bool} {d : Option Tmp} {args : Array Operand} {ts : Array TypeId}
    (hp : effK cx lev draw σ d (.call { callee := .builtin .copy, args := args, argTypes := ts }) K = some r) :
    ∃ tv σ', K tv σ' = some r ∧ StepOk P w0 Xo as a w (.call { callee := .builtin .copy, args := args, argTypes := ts }) tv σ' := by
  simp only [effK] at hp
  split at hp
  · rename_i x y t u hargs hts
    have ha : args = #[x, y] := by apply Array.ext'; simpa using hargs
    have htt : ts = #[t, u] := by apply Array.ext'; simpa using hts
    subst ha; subst htt
    split at hp
    · rename_i e hT
      obtain ⟨h1, h2⟩ := cond_some hp
      have hx := h.eval x
      have hy := h.eval y
      split at h2
      · rename_i ys hcy
        obtain ⟨ad, m, cap, dy, y1, y2, y3, y4, y5, y6⟩ := contents_sound h.heap hcy hy
        have fin : ∀ {n : Nat} {w' : World} {H : Heap}, n ≤ maxLen → K (.pv (.int .i64) (n : Int)) { σ with heap := H } = some r → Rel w0 Xo { σ with heap := H } θ as a w' → (∀ ty, (Builtin.copy_ #[t, u] ty #[a.eval x, a.eval y]).run P w = .ok (.int .i64 (n : Int)) w') →
            ∃ tv σ', K tv σ' = some r ∧ StepOk P w0 Xo as a w (.call { callee := .builtin .copy, args := #[x, y], argTypes := #[t, u] }) tv σ' := by
          intro n w' H hn hk hr hrun
          refine ⟨_, _, hk, θ, _, w', hr, mk_int ?_, .inl fun o ho => ?_⟩
          · unfold maxLen at hn
            simp [IntKind.has, IntKind.min, IntKind.max, IntKind.signed, IntKind.bits]
            omega
          · have := hrun o.type
            simp [execOp, ho, resolve, invoke, builtin, this, Result.andThen]
        split at h2
        · rename_i i rt p s lo hi hex
          obtain ⟨h3, h4⟩ := cond_some h2
          have hse : s = e := by simpa using h3
          subst hse
          rw [hex] at hx
          obtain ⟨o, q1, q2⟩ := rval_vw hx
          split at h4
          · rename_i H' hH
            obtain ⟨w', r1, r2⟩ := copy_go (sT := u) (cap := cap) hC h hT q1 q2 y2 y4 y5 y6 hH
            exact fin (by simp; omega) h4 r1 (fun ty => by rw [y1]; exact r2 ty)
          · cases h4
        · rename_i i s hex
          split at h2
          · rename_i E ee xs hg
            obtain ⟨h3, h4⟩ := cond_some h2
            have hse : s = e := by simpa using h3
            subst hse
            rw [hex] at hx
            obtain ⟨cs, k1, vv, k2, k3, k4⟩ := hx
            subst k3
            have hev : a.eval x = vv := by simpa [boxed, TV.isAgg, eq_comm] using k1
            obtain ⟨v', ds, g1, g2, g3⟩ := h.heap.blk i _ hg
            rw [g1] at k2; injection k2 with k2; injection k2 with k2; subst k2
            have hvw : (Own.arr v').vw (.slice s) [] s 0 xs.length v' := by
              rcases g2.2 with ⟨k1, k2⟩ | ⟨g, cap1, cur, k1, _, _, k4, k5, _⟩
              · subst k1; exact ⟨Nat.zero_le _, none, 0, by rw [k2], by omega, Nat.zero_le _, rfl, rfl, none, 0, 0, rfl, by omega, .inl k2⟩
              · subst k1; exact ⟨Nat.zero_le _, _, _, rfl, by omega, k5, rfl, rfl, _, _, _, rfl, Nat.le_refl _, .inr ⟨g, rfl, by simp⟩⟩
            split at h4
            · rename_i H' hH
              obtain ⟨w', r1, r2⟩ := copy_go (sT := u) (cap := cap) hC h hT g1 hvw y2 y4 y5 y6 hH
              exact fin (by simp; omega) h4 r1 (fun ty => by rw [y1, hev]; exact r2 ty)
            · cases h4
          · cases h2
        · cases h2
      · cases h2
    · cases hp
  · cases hp

end Go.Ai

/- Slices that grow: append. -/
namespace Go.Ai
open Go.RowKit
set_option linter.unusedVariables false
set_option linter.unusedSimpArgs false

variable {P : Program} {cx : Cx} {w0 : World} {Xo : Nat → Prop} {σ : St} {θ : Nat → Option Own} {as : List (Array Value)} {a : Act} {w : World} {R : Type} {r : R} {K : TV → St → Option R} {X : Nat → Prop} {h : Heap}

theorem append_go (hC : CxOk P cx) (hZ : ZeroOk P cx) (hE : ElemOk P cx) {T ty : TypeId} {e : Ty} (hT : cx.ty T = some (.slice e)) (q1 : cx.ty (cx.elem T) = some e) (q2 : cx.zok (cx.elem T) = true) (q3 : 1 ≤ e.size)
    {base : Nat} (hbase : base ≤ w.heap.size) {v : Value} {n : Nat} {dx : List Value} (hown : w.ownsRow base (cx.elem T) e.size v n dx)
    {ad : Option Addr} {m cap : Nat} {dy : List Value} (hl : dy.length = m * e.size) (h1 : ∀ u ∈ dy, u.oneCell' = true) (hy : dy = [] ∨ ∃ b o, ad = some ⟨b, o, none⟩ ∧ w.rangeAt b o dy)
    (h63 : n + m ≤ maxLen) (hby : (n + m) * cx.bytes (cx.elem T) ≤ 140737488355328) :
    ∃ v' w', (Builtin.append_ #[T, T] ty #[v, .slice ad m cap]).run P w = .ok v' w' ∧ w'.ownsRow base (cx.elem T) e.size v' (n + m) (dx ++ dy) ∧ w.grownBy w' v.ownBlock ∧ (v'.ownBlock = v.ownBlock ∨ v'.ownBlock = some w.heap.size) := by
  have hu := hE.elem T e hT
  have hty := hC.ty _ _ q1
  obtain ⟨inf, z, z1, z2, z3, z4⟩ := hZ.zero _ _ q1 q2
  have hsz := TyIs.size e _ hty
  unfold Program.hasSize at hsz
  have hs : inf.size = e.size := by simpa [z1] using hsz
  have hzs : z.cells.size = e.size := by
    have := Rep.length e e.zcells e.zero (rep_zero (w := w) (X := fun _ => False) e (TyIs.noRef e _ hty))
    rw [← z3] at this; simpa using this
  have hbytes : inf.bytes = cx.bytes (cx.elem T) := (hE.bytes _ _ _ q1 z1).resolve_right (by simp [q2])
  cases ad with
  | some a =>
    have hc : ∀ j u, dy[j]? = some u → w.cell? (a.add j) = some u := by
      intro j u hj
      rcases hy with hy | ⟨b, o, hb, hr⟩
      · subst hy; simp at hj
      · injection hb with hb; subst hb
        rw [Addr.add_lit]; exact hr j u hj
    obtain ⟨v', w', r1, r2, r3, _, r4⟩ := run_append_own_at (P := P) w base T ty (cx.elem T) inf z e.size (cx.bytes (cx.elem T)) hu z1 z2 hs hbytes hzs q3 v n dx hown a m cap dy hl hc h1 h63 hby hbase
    exact ⟨v', w', r1, r2, r3, r4⟩
  | none =>
    rcases hy with hy | ⟨b, o, hb, hr⟩
    · subst hy
      have hm : m = 0 := by
        simp only [List.length_nil] at hl
        rcases Nat.eq_zero_or_pos m with h0 | h0
        · exact h0
        · have := Nat.mul_pos h0 q3; omega
      subst hm
      refine ⟨v, w, ?_, by simpa using hown, ⟨rfl, rfl, rfl, Nat.le_refl _, fun _ _ _ => rfl⟩, .inl rfl⟩
      rcases hown.2 with ⟨rfl, rfl⟩ | ⟨g, c, cur, rfl, _, _, hnc, _⟩
      · simp [Builtin.append_, run_underlying hu, sizeOf, typeInfo, z1, Builtin.lenOf, Builtin.firstCells]
      · simp [Builtin.append_, run_underlying hu, sizeOf, typeInfo, z1, Builtin.lenOf, Builtin.firstCells, hnc, storeCells]
    · cases hb

theorem chunks_append {α : Type} {R : List Value → α → Prop} : ∀ {xs ys : List α} {cs ds : List Value}, chunks R cs xs → chunks R ds ys → chunks R (cs ++ ds) (xs ++ ys)
  | [], _, _, _, hx, hy => by
    have : _ = [] := hx
    subst this; simpa using hy
  | x :: xs, _, _, _, ⟨c1, c2, h0, h1, h2⟩, hy => ⟨c1, c2 ++ _, by rw [h0, List.append_assoc], h1, chunks_append h2 hy⟩

theorem append_rel (h : Rel w0 Xo σ θ as a w) (id : Nat) {E : TypeId} {e : Ty} {xs ys : List e.den} {v v' : Value} {dx dy : List Value} {w' : World}
    (hv : v.ownBlock = none ∨ ∃ q, θ id = some (.arr v) ∧ hget σ.heap id = some q) (hx : chunks (Rep w (owned Xo θ σ.heap) e) dx xs) (hy : chunks (Rep w (owned Xo θ σ.heap) e) dy ys)
    (hown : w'.ownsRow w0.heap.size E e.size v' (xs.length + ys.length) (dx ++ dy)) (hg : w.grownBy w' v.ownBlock) (hb : v'.ownBlock = v.ownBlock ∨ v'.ownBlock = some w.heap.size) :
    Rel w0 Xo (σ.add id (.arr E e (xs ++ ys))) (setAt θ id (.arr v')) as a w' ∧ RVal w' (owned Xo (setAt θ id (.arr v')) (σ.add id (.arr E e (xs ++ ys))).heap) (setAt θ id (.arr v')) (.sl id e) v' := by
  have hone : v'.oneCell' = true := by
    rcases hown.2 with ⟨rfl, _⟩ | ⟨g, c, cur, rfl, _⟩ <;> rfl
  have hk : Keeps (fun b => some b = v.ownBlock) w w' := ⟨hg.os, hg.tape, hg.output, hg.size, fun k hk hn => hg.block k hk hn⟩
  have hrow : ∀ b, v.ownBlock = some b → ∃ q, θ id = some (.arr v) ∧ hget σ.heap id = some q := by
    intro b hb2
    rcases hv with hv | hv
    · rw [hv] at hb2; cases hb2
    · exact hv
  have hlt : ∀ b, v.ownBlock = some b → w0.heap.size ≤ b ∧ owned Xo θ σ.heap b := by
    intro b hb2
    obtain ⟨q, k1, k2⟩ := hrow b hb2
    have hbase : baseAt θ id = some b := by simp [baseAt, k1, Own.base, hb2]
    exact ⟨((h.heap.blk id q k2).lt b hbase).1, .inr ⟨id, by simp [k2], hbase⟩⟩
  have hX : ∀ b, b < w.heap.size → owned Xo (setAt θ id (.arr v')) (σ.add id (.arr E e (xs ++ ys))).heap b → owned Xo θ σ.heap b := by
    intro b hlt2 hx
    rcases hx with hx | ⟨j, h1, h2⟩
    · exact .inl hx
    · rw [hget_add] at h1
      by_cases e1 : j = id
      · subst e1
        simp only [baseAt, setAt_same, Option.bind_some, Own.base] at h2
        rcases hb with hb | hb
        · exact (hlt b (by rw [← hb]; exact h2)).2
        · rw [hb] at h2; injection h2 with h2; omega
      · simp only [e1, if_false] at h1
        obtain ⟨_, h3⟩ := (isSome_kill σ.heap id j).1 h1
        exact .inr ⟨j, h3, by simpa [baseAt, setAt_other _ _ _ j e1] using h2⟩
  have hst : Step (owned Xo θ σ.heap) (owned Xo (setAt θ id (.arr v')) (σ.add id (.arr E e (xs ++ ys))).heap) w w' := ⟨⟨fun b => some b = v.ownBlock, hk, fun b _ hz => (hlt b hz.symm).2⟩, hX⟩
  have hrel := h.add id (.arr E e (xs ++ ys)) (.arr v') (w' := w') v.ownBlock hk (fun b hb2 => ⟨(hlt b hb2).1, .inl ?_⟩) (fun b hb2 => ?_) ?_
  · exact ⟨hrel, _, rfl, _, setAt_same _ _ _, rfl, hone⟩
  · obtain ⟨q, k1, k2⟩ := hrow b hb2
    refine ⟨id, by simp [k2], by simp [baseAt, k1, Own.base, hb2], ?_⟩
    cases hs : (hget (σ.kill id).heap id).isSome with
    | false => rfl
    | true => exact absurd rfl ((isSome_kill σ.heap id id).1 hs).1
  · simp only [Own.base] at hb2
    rcases hb with hb | hb
    · rw [hb] at hb2; exact ⟨(hlt b hb2).1, .inr hb2⟩
    · rw [hb] at hb2; injection hb2 with hb2; subst hb2; exact ⟨h.keeps.size, .inl (Nat.le_refl _)⟩
  · refine ⟨v', dx ++ dy, setAt_same _ _ _, by rw [List.length_append]; exact hown, ?_⟩
    have mono : ∀ {zs : List e.den} {ds}, chunks (Rep w (owned Xo θ σ.heap) e) ds zs → chunks (Rep w' (owned Xo (setAt θ id (.arr v')) (σ.add id (.arr E e (xs ++ ys))).heap) e) ds zs := fun hc => chunks_mono (fun c x hx => hst.rep e c x hx) hc
    exact chunks_append (mono hx) (mono hy)

theorem eff_append (hC : CxOk P cx) (hZ : ZeroOk P cx) (hE : ElemOk P cx) (h : Rel w0 Xo σ θ as a w) {lev : Nat} {draw : Bool} {d : Option Tmp} {args : Array Operand} {ts : Array TypeId}
    (hp : effK cx lev draw σ d (.call { callee := .builtin .append, args := args, argTypes := ts }) K = some r) :
    ∃ tv σ', K tv σ' = some r ∧ StepOk P w0 Xo as a w (.call { callee := .builtin .append, args := args, argTypes := ts }) tv σ' := by
  simp only [effK] at hp
  split at hp
  · rename_i x y t u hargs hts
    have ha : args = #[x, y] := by apply Array.ext'; simpa using hargs
    have htt : ts = #[t, u] := by apply Array.ext'; simpa using hts
    subst ha; subst htt
    split at hp
    · rename_i e hT
      obtain ⟨h1, h2⟩ := cond_some hp
      simp only [Bool.and_eq_true, decide_eq_true_eq] at h1
      obtain ⟨⟨⟨hut, q1⟩, q2⟩, q3⟩ := h1
      subst hut
      have q3 := Nat.le_of_ble_eq_true q3
      have hx := h.eval x
      have hy := h.eval y
      have one : ∀ {ds : List Value} {zs : List e.den}, chunks (Rep w (owned Xo θ σ.heap) e) ds zs → ∀ u ∈ ds, u.oneCell' = true := fun hc => chunks_all (fun c x hx => Rep.one e c x hx) hc
      have len : ∀ {ds : List Value} {zs : List e.den}, chunks (Rep w (owned Xo θ σ.heap) e) ds zs → ds.length = zs.length * e.size := fun hc => chunks_length (fun c x hx => Rep.length e c x hx) hc
      have run : ∀ {ad : Option Addr} {m cap : Nat} {v v' : Value} {w' : World}, a.eval x = v → a.eval y = .slice ad m cap → (∀ ty, (Builtin.append_ #[t, t] ty #[v, .slice ad m cap]).run P w = .ok v' w') →
          ∀ o : Oper, o.op = .call { callee := .builtin .append, args := #[x, y], argTypes := #[t, t] } → (execOp a.eval o).run P w = .ok (.value v') w' := by
        intro ad m cap v v' w' e1 e2 hr o ho
        simp [execOp, ho, resolve, invoke, builtin, e1, e2, hr, Result.andThen]
      split at h2
      · rename_i i e0 xs ys hex hcx hcy
        split at h2
        · rename_i E e1 xs1 hg
          obtain ⟨hE1, h3⟩ := cond_some h2
          simp only [decide_eq_true_eq] at hE1
          subst hE1
          obtain ⟨h4, h5⟩ := cond_some h3
          simp only [Bool.and_eq_true, decide_eq_true_eq] at h4
          obtain ⟨h41, h42⟩ := h4
          simp only [hex, contents, hg] at hcx
          split at hcx
          · rename_i q; subst q
            split at hcx
            · rename_i q; subst q
              injection hcx with hcx; subst hcx
              obtain ⟨ad, m, cap, dy, y1, y2, y3, y4, y5, y6⟩ := contents_sound h.heap hcy hy
              obtain ⟨v, dx, g1, g2, g3⟩ := h.heap.blk i _ hg
              rw [hex] at hx
              obtain ⟨cs, k1, v2, k2, k3, k4⟩ := hx
              rw [g1] at k2; injection k2 with k2; injection k2 with k2; subst k2
              subst k3
              have hev : a.eval x = v := by simpa [boxed, TV.isAgg, eq_comm] using k1
              obtain ⟨v', w', r1, r2, r3, r4⟩ := append_go (ty := 0) hC hZ hE hT q1 q2 q3 h.keeps.size g2 (ad := ad) (m := m) (cap := cap) (by rw [len y5, y2]) (one y5) y6 (by have h42' : xs1.length + ys.length ≤ 9223372036854775807 := h42; unfold maxLen; omega) (by rw [y2]; exact h41)
              subst y2
              obtain ⟨z1, z2⟩ := append_rel h i (.inr ⟨_, g1, hg⟩) g3 y5 r2 r3 r4
              exact ⟨_, _, h5, _, _, _, z1, z2, .inl (run hev y1 (fun ty => r1))⟩
            · cases hcx
          · cases hcx
        · cases h2
      · rename_i _ ys hex hcy
        obtain ⟨h4, h5⟩ := cond_some h2
        simp only [Bool.and_eq_true, decide_eq_true_eq] at h4
        obtain ⟨ad, m, cap, dy, y1, y2, y3, y4, y5, y6⟩ := contents_sound h.heap hcy hy
        rw [hex] at hx
        obtain ⟨cs, k1, k2⟩ := hx
        have k2' : cs = _ := k2
        subst k2'
        have hev : a.eval x = .slice none 0 0 := by simpa [boxed, TV.isAgg, eq_comm] using k1
        obtain ⟨v', w', r1, r2, r3, r4⟩ := append_go (ty := 0) hC hZ hE hT q1 q2 q3 h.keeps.size (World.ownsRow_nil w w0.heap.size (cx.elem t) e.size) (ad := ad) (m := m) (cap := cap) (by rw [len y5, y2]) (one y5) y6 (by unfold maxLen; omega) (by rw [y2]; simpa using h4.1)
        subst y2
        have hnil : chunks (Rep w (owned Xo θ σ.heap) e) [] [] := rfl
        obtain ⟨z1, z2⟩ := append_rel h (newId lev d) (xs := []) (.inl rfl) hnil y5 (by simpa using r2) r3 r4
        exact ⟨_, _, h5, _, _, _, z1, z2, .inl (run hev y1 (fun ty => r1))⟩
      · cases h2
    · cases hp
  · cases hp

theorem isNilS_eval {y : Operand} (h : isNilS y = true) (a : Act) : a.eval y = .slice none 0 0 := by
  unfold isNilS at h
  split at h
  · rename_i n c
    simp only [Bool.and_eq_true] at h
    have h1 := Nat.eq_of_beq_eq_true h.1
    have h2 := Nat.eq_of_beq_eq_true h.2
    subst h1; subst h2; rfl
  · cases h

theorem eff_nil (hC : CxOk P cx) (h : Rel w0 Xo σ θ as a w) {lev : Nat} {draw : Bool} {d : Option Tmp} {op : BinOp} {T U : TypeId} {x y : Operand} (hp : effK cx lev draw σ d (.binOp op T x y U) K = some r) :
    ∃ tv σ', K tv σ' = some r ∧ StepOk P w0 Xo as a w (.binOp op T x y U) tv σ' := by
  simp only [effK] at hp
  split at hp
  · rename_i e hT
    obtain ⟨h1, h2⟩ := cond_some hp
    simp only [Bool.and_eq_true] at h1
    obtain ⟨⟨q1, q2⟩, q3⟩ := h1
    have q1 := Nat.le_of_ble_eq_true q1
    have hy := isNilS_eval q3 a
    have hx := h.eval x
    obtain ⟨⟨E, hu, hE⟩, _⟩ := hC.ty T _ hT
    have run : ∀ {ad : Option Addr} {l c : Nat}, a.eval x = .slice ad l c → ∀ o : Oper, o.op = .binOp op T x y U → (execOp a.eval o).run P w = .ok (.value (.bool (cond (isEql op) ad.isNone (!ad.isNone)))) w := by
      intro ad l c hv o ho
      cases op with
      | eql =>
        have := Go.run_eql_slice_nil (P := P) w T E ad l c hu
        simp [execOp, ho, hv, hy, eqGuard, this, isEql]
      | neq =>
        have := Go.run_neq_slice_nil (P := P) w T E ad l c hu
        simp [execOp, ho, hv, hy, eqGuard, this, isEql]
      | _ => simp [isEqO] at q2
    split at h2
    · rename_i hex
      rw [hex] at hx
      obtain ⟨cs, g1, g2⟩ := hx
      have g2' : cs = _ := g2
      subst g2'
      have hv : a.eval x = .slice none 0 0 := by simpa [boxed, TV.isAgg, eq_comm] using g1
      refine ⟨_, _, h2, θ, _, w, h, mk_bool, .inl fun o ho => ?_⟩
      rw [run hv o ho]
      cases op <;> simp [isEqO] at q2 <;> rfl
    · split at h2
      · rename_i xs hcx
        obtain ⟨ad, len, cap, ds, y1, y2, y3, y4, y5, y6⟩ := contents_sound h.heap hcx hx
        have fin : ∀ b, ad.isNone = b → K (.pv .bool (cond (isEql op) b (!b))) σ = some r → ∃ tv σ', K tv σ' = some r ∧ StepOk P w0 Xo as a w (.binOp op T x y U) tv σ' := by
          intro b hb hk
          subst hb
          exact ⟨_, _, hk, θ, _, w, h, mk_bool, .inl (run y1)⟩
        unfold nilQ at h2
        cases hemp : xs.isEmpty with
        | true =>
          rw [hemp] at h2
          obtain ⟨k1, k2⟩ := bothO_some h2
          cases hn : ad.isNone with
          | true => exact fin true hn k1
          | false => exact fin false hn k2
        | false =>
          rw [hemp] at h2
          have hl := chunks_length (fun c x hx => Rep.length e c x hx) y5
          have hpos : 0 < xs.length := by cases xs with | nil => simp at hemp | cons _ _ => simp
          have hne : ds ≠ [] := by
            intro hd; rw [hd] at hl
            have := Nat.mul_pos hpos q1
            simp only [List.length_nil] at hl; omega
          rcases y6 with y6 | ⟨b, o, y6, _⟩
          · exact absurd y6 hne
          · exact fin false (by rw [y6]; rfl) h2
      · cases h2
  · cases hp

theorem eff_sound (hC : CxOk P cx) (hZ : ZeroOk P cx) (hE : ElemOk P cx) (h : Rel w0 Xo σ θ as a w) {lev : Nat} {draw : Bool} {d : Option Tmp} (op : Op)
    (hp : effK cx lev draw σ d op K = some r) : ∃ tv σ', K tv σ' = some r ∧ StepOk P w0 Xo as a w op tv σ' := by
  cases op with
  | alloc t => exact eff_alloc hC hZ h hp
  | box t x => exact eff_box hC h hp
  | store t x y => exact eff_store hC h hp
  | buildSlice t n parts => exact eff_buildSlice hC hZ hE h hp
  | makeSlice t l c => exact eff_makeSlice hC hZ hE h hp
  | binOp op t x y u => exact eff_nil hC h hp
  | call c =>
    obtain ⟨callee, args, argTypes⟩ := c
    cases callee with
    | builtin b => cases b with
      | append => exact eff_append hC hZ hE h hp
      | copy => exact eff_copy hC h hp
      | _ => simp [effK] at hp
    | _ => simp [effK] at hp
  | _ => simp [effK] at hp

end Go.Ai

/- One operation, and one behind its guard. -/
namespace Go.Ai
open Go.RowKit
set_option linter.unusedVariables false
set_option linter.unusedSimpArgs false

variable {P : Program} {cx : Cx} {w0 : World} {Xo : Nat → Prop} {σ : St} {θ : Nat → Option Own} {as : List (Array Value)} {a : Act} {w : World} {R : Type} {r : R} {X : Nat → Prop}

/-- A call of f comes back with a value, and R holds. -/
def Does (P : Program) (f : FuncId) (args : Array Value) (w : World) (Q : Value → World → Prop) : Prop :=
  ((callFunc f args).run P w = .ok (.enter f args) w ∧ Calls P f args w fun e w' => ∃ v, e = .returned v ∧ Q v w') ∨ ∃ v w', (callFunc f args).run P w = .ok (.value v) w' ∧ Q v w'

theorem Does.mono {f : FuncId} {args : Array Value} {Q Q' : Value → World → Prop} (h : Does P f args w Q) (hq : ∀ v w', Q v w' → Q' v w') : Does P f args w Q' := by
  rcases h with ⟨h1, h2⟩ | ⟨v, w', h1, h2⟩
  · exact .inl ⟨h1, h2.mono fun e w' ⟨v, he, hv⟩ => ⟨v, he, hq v w' hv⟩⟩
  · exact .inr ⟨v, w', h1, hq v w' h2⟩

def CallOk (P : Program) (w0 : World) (Xo : Nat → Prop) (call : CallK R) : Prop :=
  ∀ lev fn draw f args d σ K r θ as a w vs, call lev fn draw f args d σ K = some r → Rel w0 Xo σ θ as a w → EnvRel w (owned Xo θ σ.heap) θ args vs →
    Does P f vs w fun v w' => ∃ tv σ' θ', K tv σ' = some r ∧ Rel w0 Xo σ' θ' as a w' ∧ RVal w' (owned Xo θ' σ'.heap) θ' tv v

structure TabOk (P : Program) (cx : Cx) : Prop where
  c : CxOk P cx
  z : ZeroOk P cx
  e : ElemOk P cx

theorem chain_list {X : Nat → Prop} : ∀ (c : TV) (vs : List Value), RV w X θ true c vs → c.list.length = vs.length ∧ ∀ (i : Nat) tv, c.list[i]? = some tv → ∃ v, vs[i]? = some v ∧ RVal w X θ tv v
  | .pr t b, vs, h => by
    have hh : ∃ v r, vs = v :: r ∧ RVal w X θ t v ∧ RV w X θ true b r := by
      cases t with
      | tup c => simp only [RV] at h; obtain ⟨v, r, h0, ⟨cs, h1, h2⟩, h3⟩ := h; exact h2.elim
      | dead => simp only [RV] at h; obtain ⟨v, r, h0, h1, h3⟩ := h; exact ⟨v, r, h0, trivial, h3⟩
      | und => simp only [RV] at h; obtain ⟨v, r, h0, h1, h3⟩ := h; exact ⟨v, r, h0, h1, h3⟩
      | _ => simp only [RV] at h; obtain ⟨v, r, h0, ⟨cs, h1, h2⟩, h3⟩ := h; exact ⟨v, r, h0, ⟨cs, h1, h2⟩, h3⟩
    obtain ⟨v, r, h0, h1, h2⟩ := hh
    obtain ⟨k1, k2⟩ := chain_list b r h2
    subst h0
    refine ⟨by simp [TV.list, k1], fun i tv hi => ?_⟩
    cases i with
    | zero => simp only [TV.list, List.getElem?_cons_zero, Option.some.injEq] at hi; subst hi; exact ⟨v, rfl, h1⟩
    | succ i => simp only [TV.list, List.getElem?_cons_succ] at hi ⊢; exact k2 i tv hi
  | .pv .unit _, vs, h => by have : vs = [] := h; subst this; simp [TV.list]
  | .pv (.int _) _, _, h | .pv .bool _, _, h | .pv .str _, _, h | .pv (.slice _) _, _, h | .pv (.arr _ _) _, _, h | .pv (.pair _ _) _, _, h | .pv (.ref _) _, _, h | .pv (.opt _) _, _, h => by simp [RV] at h
  | .ptr .., _, h | .sl .., _, h | .vw .., _, h | .clp .., _, h | .nilsl, _, h | .fn .., _, h | .tup _, _, h | .bad, _, h | .und, _, h | .dead, _, h => by simp [RV] at h

theorem op_sound (hT : TabOk P cx) {call : CallK R} (hcall : CallOk P w0 Xo call) {lev : Nat} {fn : FuncId} {draw : Bool} {o : Oper} {K : TV → St → Option R} (h : Rel w0 Xo σ θ as a w)
    (hp : opK cx call lev fn draw σ o K = some r) {K' : Act → World → Prop} {Q : Exit → Act → World → Prop}
    (hK : ∀ tv σ' θ' v w', K tv σ' = some r → Rel w0 Xo σ' θ' as a w' → RVal w' (owned Xo θ' σ'.heap) θ' tv v → K' (a.put o.dst v) w') : o.wp P a w K' Q := by
  unfold opK at hp
  split at hp
  · rename_i f args argTypes hop
    split at hp
    · rename_i g caps hf
      have hv := h.eval f
      rw [hf] at hv
      obtain ⟨cs, h1, vs, h2, h3⟩ := hv
      subst h2
      have hev : a.eval f = .func (.func g) #[] vs.toArray := by simpa [boxed, TV.isAgg, eq_comm] using h1
      obtain ⟨c1, c2⟩ := chain_list caps vs h3
      have hargs : EnvRel w (owned Xo θ σ.heap) θ (args.toList.map σ.eval ++ caps.list) (args.map a.eval ++ vs.toArray) := by
        refine ⟨by simp [c1], fun t tv ht => ?_⟩
        rw [List.getElem?_append] at ht
        split at ht
        · rename_i hlt
          simp only [List.length_map, Array.length_toList] at hlt
          simp only [List.getElem?_map, Array.getElem?_toList, Array.getElem?_eq_getElem hlt, Option.map_some, Option.some.injEq] at ht
          refine ⟨a.eval args[t], ?_, ht ▸ h.eval _⟩
          rw [Array.getElem?_append_left (by simpa using hlt)]
          simp [hlt]
        · rename_i hlt
          simp only [List.length_map, Array.length_toList, Nat.not_lt] at hlt
          obtain ⟨v, k1, k2⟩ := c2 _ tv ht
          refine ⟨v, ?_, k2⟩
          rw [Array.getElem?_append_right (by simpa using hlt)]
          simpa using k1
      have hd := hcall lev fn draw g _ o.dst σ K r θ as a w _ hp h hargs
      have hrun : (execOp a.eval o).run P w = (callFunc g (args.map a.eval ++ vs.toArray)).run P w := by
        simp [execOp, hop, resolve, hev, Deferred.ofValue, invoke]
      unfold Oper.wp
      rw [hrun]
      rcases hd with ⟨d1, d2⟩ | ⟨v, w', d1, tv, σ', θ', d2, d3, d4⟩
      · rw [d1, Oper.upon_enter]
        refine d2.mono fun e w' he => ?_
        obtain ⟨v, rfl, tv, σ', θ', k1, k2, k3⟩ := he
        exact hK tv σ' θ' v w' k1 k2 k3
      · rw [d1, Oper.upon_value]
        exact hK tv σ' θ' v w' d2 d3 d4
    · cases hp
  · rename_i op hno
    cases hi : isPure o.op with
    | true =>
      rw [hi] at hp
      simp only [cond] at hp
      obtain ⟨tv, k1, v, k2, k3⟩ := pure_sound hT.c hT.z h.heap (fun x => h.eval x) o.op hi hp
      unfold Oper.wp
      rw [k2 o rfl, Oper.upon_value]
      exact hK tv σ θ v w k1 h k3
    | false =>
      rw [hi] at hp
      simp only [cond] at hp
      obtain ⟨tv, σ', k1, θ', v, w', k2, k3, k4⟩ := eff_sound hT.c hT.z hT.e h o.op hp
      unfold Oper.wp
      rcases k4 with k4 | ⟨k4, k5⟩
      · rw [k4 o rfl, Oper.upon_value]
        exact hK tv σ' θ' v w' k1 k2 k3
      · rw [k5 o rfl, Oper.upon_skip]
        subst k4
        exact hK tv σ' θ' _ w' k1 k2 k3

/-- The answer that was taken, laid in its slot: nothing turns. -/
theorem St.put_same {σ : St} {t : Nat} {tv : TV} (h : σ.env.getD t .dead = tv) (hd : tv ≠ .dead) : σ.put (some t) tv = σ := by
  have ht : t < σ.env.length := by
    rcases Nat.lt_or_ge t σ.env.length with h' | h'
    · exact h'
    · simp [List.getD, List.getElem?_eq_none h'] at h; exact absurd h.symm hd
  have : σ.env.set t tv = σ.env := by
    apply List.ext_getElem?
    intro i
    rw [List.getElem?_set]
    by_cases e : t = i
    · subst e
      simp only [if_true, ht]
      simp only [List.getD, List.getElem?_eq_getElem ht, Option.getD_some] at h
      simp [ht, h]
    · simp [e]
  simp [St.put, this]

/-- What the model's guard tells. -/
theorem yielded_eq {ops : Array Oper} {j t : Nat} (hd : ((ops.toList)[j]?).bind (·.dst) = some t) (tmps : Array Value) : yielded ops tmps j = match tmps[t]? with
    | some (.bool b) => some b
    | _ => none := by
  unfold yielded
  rw [Array.getElem?_toList] at hd
  rw [hd]
  rfl

theorem env_get {t : Nat} {tv : TV} (h : EnvRel w X θ σ.env a.tmps) (ht : σ.env.getD t .dead = tv) (hd : tv ≠ .dead) : ∃ v, a.tmps[t]? = some v ∧ RVal w X θ tv v := by
  have hlt : t < σ.env.length := by
    rcases Nat.lt_or_ge t σ.env.length with h' | h'
    · exact h'
    · simp [List.getD, List.getElem?_eq_none h'] at ht; exact absurd ht.symm hd
  have : σ.env[t]? = some tv := by simp only [List.getD, List.getElem?_eq_getElem hlt, Option.getD_some] at ht; simp [hlt, ht]
  exact h.2 t tv this

/-- One operation behind its guard: either it is wanted, or it is passed over. -/
theorem opG_sound (hT : TabOk P cx) {call : CallK R} (hcall : CallOk P w0 Xo call) {lev : Nat} {fn : FuncId} {draw : Bool} {ops : Array Oper} {o : Oper} {K : St → Option R} (h : Rel w0 Xo σ θ as a w)
    (hp : opG cx call lev fn draw ops.toList σ o K = some r) {K' : Act → World → Prop} {Q : Exit → Act → World → Prop}
    (hK : ∀ σ' θ' a' w', K σ' = some r → Rel w0 Xo σ' θ' as a' w' → K' a' w') : if Region.wanted o (yielded ops a.tmps) then o.wp P a w K' Q else K' (a.put o.dst undef) w := by
  unfold opG at hp
  split at hp
  · rename_i hg
    simp only [Region.wanted, hg, if_true]
    exact op_sound hT hcall h hp fun tv σ' θ' v w' k1 k2 k3 => hK _ θ' _ w' k1 (k2.put o.dst k3)
  · rename_i j want hg
    split at hp
    · rename_i t hd
      have hy := yielded_eq hd a.tmps
      simp only [Region.wanted, hg]
      split at hp
      · rename_i b hb
        obtain ⟨v, hv1, hv2⟩ := env_get h.env hb (by simp)
        have := rval_bool hv2
        subst this
        rw [hv1] at hy
        simp only at hy
        rw [hy]
        have skip : ∀ {σ1 : St}, σ1 = σ → K (σ1.put o.dst .und) = some r → K' (a.put o.dst undef) w := fun e hk => by
          subst e
          exact hK _ θ _ w hk (h.put o.dst (tv := .und) (v := undef) rfl)
        have go : ∀ {σ1 : St}, σ1 = σ → opK cx call lev fn draw σ1 o (fun v τ => K (τ.put o.dst v)) = some r → o.wp P a w K' Q := fun e hk => by
          subst e
          exact op_sound hT hcall h hk fun tv σ' θ' v w' k1 k2 k3 => hK _ θ' _ w' k1 (k2.put o.dst k3)
        have e : σ.put (some t) (.pv .bool b) = σ := St.put_same hb (by simp)
        cases b <;> cases want <;> simp only [cond] at hp <;> simp <;> first | exact go e hp | exact skip e hp
      · rename_i hb
        obtain ⟨v, hv1, hv2⟩ := env_get h.env hb (by simp)
        have hv : v = undef := hv2
        subst hv
        rw [hv1] at hy
        have hy' : yielded ops a.tmps j = none := hy
        rw [hy']
        simp
        exact hK _ θ _ w hp (h.put o.dst (tv := .und) (v := undef) rfl)
      · cases hp
    · cases hp

/-- Operations in the order of the text. -/
theorem opsK_sound (hT : TabOk P cx) {call : CallK R} (hcall : CallOk P w0 Xo call) {lev : Nat} {fn : FuncId} {draw : Bool} {ops : Array Oper} {K : St → Option R} {Q : Exit → Act → World → Prop}
    (hK : ∀ σ' θ' a' w', K σ' = some r → Rel w0 Xo σ' θ' as a' w' → Q .normal a' w') : ∀ (l : List Oper) (σ : St) (θ : Nat → Option Own) (a : Act) (w : World), Rel w0 Xo σ θ as a w → opsK cx call lev fn draw ops.toList l σ K = some r → wpList P ops Q l a w
  | [], σ, θ, a, w, h, hp => wpList_nil (hK σ θ a w hp h)
  | o :: l, σ, θ, a, w, h, hp => wpList_step fun K' hK' => by
    have := opG_sound hT hcall h hp (Q := Q) (K' := K') fun σ' θ' a' w' k1 k2 => hK' _ _ (opsK_sound hT hcall hK l σ' θ' a' w' k2 k1)
    split
    · rename_i hw; simp only [hw, if_true] at this; exact this
    · rename_i hw; simp only [hw] at this; exact this

end Go.Ai

/- What is kept at the head of a loop, and at an exit. -/
namespace Go.Ai
open Go.RowKit
set_option linter.unusedVariables false
set_option linter.unusedSimpArgs false

variable {P : Program} {cx : Cx} {w0 : World} {Xo : Nat → Prop} {σ : St} {θ : Nat → Option Own} {as : List (Array Value)} {a : Act} {w : World} {X : Nat → Prop}

theorem keepEnv_get (keep : List Nat) : ∀ (env : List TV) (n t : Nat) (tv : TV), (keepEnv keep n env)[t]? = some tv → tv = .dead ∨ env[t]? = some tv
  | [], n, t, tv, h => by simp [keepEnv] at h
  | v :: env, n, t, tv, h => by
    cases t with
    | zero =>
      simp only [keepEnv, List.getElem?_cons_zero, Option.some.injEq] at h
      cases hk : keep.any (Nat.beq n) with
      | true => rw [hk] at h; exact .inr (by simpa using h)
      | false => rw [hk] at h; exact .inl (by simpa using h.symm)
    | succ t =>
      simp only [keepEnv, List.getElem?_cons_succ] at h ⊢
      exact keepEnv_get keep env (n + 1) t tv h

theorem keepEnv_length (keep : List Nat) : ∀ (env : List TV) (n : Nat), (keepEnv keep n env).length = env.length
  | [], _ => rfl
  | v :: env, n => by simp [keepEnv, keepEnv_length keep env (n + 1)]

theorem EnvRel.keep {env : List TV} {tmps : Array Value} (h : EnvRel w X θ env tmps) (keep : List Nat) : EnvRel w X θ (keepEnv keep 0 env) tmps := by
  refine ⟨by rw [keepEnv_length]; exact h.1, fun t tv ht => ?_⟩
  rcases keepEnv_get keep env 0 t tv ht with hd | hd
  · subst hd
    have hlt : t < env.length := by
      rcases Nat.lt_or_ge t (keepEnv keep 0 env).length with h' | h'
      · rwa [keepEnv_length] at h'
      · simp [List.getElem?_eq_none h'] at ht
    obtain ⟨v, hv, _⟩ := h.2 t env[t] (by simp [hlt])
    exact ⟨v, hv, trivial⟩
  · exact h.2 t tv hd

theorem StkRel.keep : ∀ {ks : List (List Nat)} {es : List (List TV)} {ts : List (Array Value)}, StkRel w X θ es ts → StkRel w X θ (keepStk ks es) ts
  | [], _, _, h => by simpa [keepStk] using h
  | _ :: _, [], [], h => trivial
  | k :: ks, e :: es, t :: ts, h => ⟨h.1.keep k, StkRel.keep h.2⟩
  | _ :: _, [], _ :: _, h => h.elim
  | _ :: _, _ :: _, [], h => h.elim

theorem Rel.keepEnv (h : Rel w0 Xo σ θ as a w) (k : List Nat) : Rel w0 Xo { σ with env := Ai.keepEnv k 0 σ.env } θ as a w := ⟨h.keeps, h.xo, h.heap, h.env.keep k, h.stk, h.defers⟩
theorem Rel.keepStk (h : Rel w0 Xo σ θ as a w) (k : List (List Nat)) : Rel w0 Xo { σ with stk := Ai.keepStk k σ.stk } θ as a w := ⟨h.keeps, h.xo, h.heap, h.env, h.stk.keep, h.defers⟩

theorem Rel.killL : ∀ (l : List Nat) (σ : St), Rel w0 Xo σ θ as a w → Rel w0 Xo (σ.killL l) θ as a w
  | [], _, h => h
  | i :: l, σ, h => Rel.killL l (σ.kill i) (h.kill i fun _ _ => rfl)

/-- A block gets another number. -/
theorem Rel.move (h : Rel w0 Xo σ θ as a w) {i j : Nat} (hij : j ≠ i) {E : TypeId} {e : Ty} {xs : List e.den} (hg : hget σ.heap j = some (.arr E e xs)) :
    ∃ v, θ j = some (.arr v) ∧ v.oneCell' = true ∧ Rel w0 Xo (((σ.kill i).kill j).add i (.arr E e xs)) (setAt θ i (.arr v)) as a w := by
  obtain ⟨v, ds, g1, g2, g3⟩ := h.heap.blk j _ hg
  have hone : v.oneCell' = true := by rcases g2.2 with ⟨rfl, _⟩ | ⟨g, c, cur, rfl, _⟩ <;> rfl
  refine ⟨v, g1, hone, ?_⟩
  have hget' : ∀ k, hget (((σ.kill i).kill j).add i (.arr E e xs)).heap k = if k = i then some (.arr E e xs) else if k = j then none else ((((hget σ.heap k).map (Blk.kill i)).map (Blk.kill j)).map (Blk.kill i)) := by
    intro k
    rw [hget_add]
    by_cases e1 : k = i
    · simp [e1]
    · simp only [e1, if_false, St.kill, hget_map, hget_del]
      by_cases e2 : k = j
      · simp [e2]
      · simp [e2]
  have hX : ∀ b, owned Xo (setAt θ i (.arr v)) (((σ.kill i).kill j).add i (.arr E e xs)).heap b → owned Xo θ σ.heap b := by
    intro b hb
    rcases hb with hb | ⟨k, h1, h2⟩
    · exact .inl hb
    · rw [hget'] at h1
      by_cases e1 : k = i
      · subst e1
        simp only [baseAt, setAt_same, Option.bind_some, Own.base] at h2
        exact .inr ⟨j, by simp [hg], by simp [baseAt, g1, Own.base, h2]⟩
      · by_cases e2 : k = j
        · simp [e1, e2] at h1
          rw [e2] at e1; exact absurd h1 (by simp [e1])
        · simp only [e1, e2, if_false, Option.isSome_map] at h1
          exact .inr ⟨k, h1, by simpa [baseAt, setAt_other _ _ _ k e1] using h2⟩
  have hst : Step (owned Xo θ σ.heap) (owned Xo (setAt θ i (.arr v)) (((σ.kill i).kill j).add i (.arr E e xs)).heap) w w := ⟨⟨fun _ => False, Keeps.refl _ w, fun _ _ h => h.elim⟩, fun b _ hb => hX b hb⟩
  have hθ : ∀ k, k ≠ i → setAt θ i (.arr v) k = θ k := fun k hk => setAt_other θ i _ k hk
  have hone' : ∀ tv u, RVal w (owned Xo θ σ.heap) θ tv u → RVal w (owned Xo (setAt θ i (.arr v)) (((σ.kill i).kill j).add i (.arr E e xs)).heap) (setAt θ i (.arr v)) (((tv.kill i).kill j).kill i) u := by
    intro tv u hu
    have k1 := RVal.kill (i := i) (θ' := θ) (fun _ _ => rfl) tv u hu
    have k2 := RVal.kill (i := j) (θ' := θ) (fun _ _ => rfl) _ u k1
    have k3 := RVal.kill (i := i) (θ' := setAt θ i (.arr v)) hθ _ u k2
    exact RVal.step hst _ u (fun _ _ => rfl) k3
  have hc : ∀ c cs, RV w (owned Xo θ σ.heap) θ false c cs → RV w (owned Xo (setAt θ i (.arr v)) (((σ.kill i).kill j).add i (.arr E e xs)).heap) (setAt θ i (.arr v)) false (((c.kill i).kill j).kill i) cs := by
    intro c cs hu
    have k1 := RV.kill (i := i) (θ' := θ) (fun _ _ => rfl) false c cs hu
    have k2 := RV.kill (i := j) (θ' := θ) (fun _ _ => rfl) false _ cs k1
    have k3 := RV.kill (i := i) (θ' := setAt θ i (.arr v)) hθ false _ cs k2
    exact RV.step hst false _ cs (fun _ _ => rfl) k3
  refine h.next (fun tv => ((tv.kill i).kill j).kill i) h.keeps hone' (by simp [St.add, St.kill, Function.comp_def]) (by simp [St.add, St.kill, Function.comp_def]) ⟨fun k b hb => ?_, fun k l hkl hk hl b => ?_⟩
  · rw [hget'] at hb
    by_cases e1 : k = i
    · simp only [e1, if_true, Option.some.injEq] at hb
      subst hb; subst e1
      exact ⟨v, ds, setAt_same _ _ _, g2, chunks_mono (fun c x hx => hst.rep e c x hx) g3⟩
    · by_cases e2 : k = j
      · subst e2; simp [e1] at hb
      · simp only [e1, e2, if_false] at hb
        cases hb0 : hget σ.heap k with
        | none => simp [hb0] at hb
        | some b0 =>
          simp only [hb0, Option.map_some, Option.some.injEq] at hb
          subst hb
          have := (h.heap.blk k b0 hb0).go (w' := w) hst (hθ k e1) (fun _ _ => rfl) (fun tv => ((tv.kill i).kill j).kill i) hc (fun c t ht => TV.fits_kill _ _ _ (TV.fits_kill _ _ _ (TV.fits_kill _ _ _ ht)))
          cases b0 <;> exact this
  · have some' : ∀ k, (hget (((σ.kill i).kill j).add i (.arr E e xs)).heap k).isSome = true → k = i ∨ (k ≠ i ∧ k ≠ j ∧ (hget σ.heap k).isSome = true) := by
      intro k hk
      rw [hget'] at hk
      by_cases e1 : k = i
      · exact .inl e1
      · by_cases e2 : k = j
        · subst e2; simp [e1] at hk
        · simp only [e1, e2, if_false, Option.isSome_map] at hk
          exact .inr ⟨e1, e2, hk⟩
    have base' : ∀ k, k ≠ i → baseAt (setAt θ i (.arr v)) k = baseAt θ k := fun k hk => by simp [baseAt, hθ k hk]
    have basei : baseAt (setAt θ i (.arr v)) i = baseAt θ j := by simp [baseAt, setAt_same, g1]
    rcases some' k hk with e1 | ⟨e1, e2, e3⟩ <;> rcases some' l hl with f1 | ⟨f1, f2, f3⟩
    · exact absurd (e1.trans f1.symm) hkl
    · subst e1; rw [basei, base' l f1]; exact h.heap.inj j l (Ne.symm f2) (by simp [hg]) f3 b
    · subst f1; rw [basei, base' k e1]; exact h.heap.inj k j e2 e3 (by simp [hg]) b
    · rw [base' k e1, base' l f1]; exact h.heap.inj k l hkl e3 f3 b

theorem getD_dead {env : List TV} {t : Nat} {tv : TV} (h : env.getD t .dead = tv) (hd : tv ≠ .dead) : env[t]? = some tv := by
  have hlt : t < env.length := by
    rcases Nat.lt_or_ge t env.length with h' | h'
    · exact h'
    · simp [List.getD, List.getElem?_eq_none h'] at h; exact absurd h.symm hd
  simp only [List.getD, List.getElem?_eq_getElem hlt, Option.getD_some] at h; simp [hlt, h]

/-- A slot's value, laid there anew under another name. -/
theorem Rel.name (h : Rel w0 Xo σ θ as a w) {t : Nat} {v : Value} (ht : a.tmps[t]? = some v) {tv : TV} (hv : RVal w (owned Xo θ σ.heap) θ tv v) : Rel w0 Xo (σ.put (some t) tv) θ as a w := by
  have := h.put (some t) hv
  have e : a.put (some t) v = a := by
    simp only [Act.put]
    congr 1
    apply Array.ext_getElem?
    intro i
    rw [Array.getElem?_setIfInBounds]
    by_cases e : t = i
    · subst e
      have hlt : t < a.tmps.size := by
        rcases Nat.lt_or_ge t a.tmps.size with h' | h'
        · exact h'
        · simp [Array.getElem?_eq_none h'] at ht
      simp [hlt] at ht ⊢
      exact ht.symm
    · simp [e]
  rwa [e] at this

theorem Rel.ownNil (h : Rel w0 Xo σ θ as a w) {E : TypeId} {e : Ty} {t i : Nat} {τ : St} (hp : σ.ownNil E e t i = some τ) : ∃ θ', Rel w0 Xo τ θ' as a w := by
  unfold St.ownNil at hp
  split at hp
  · rename_i ht
    injection hp with hp; subst hp
    obtain ⟨v, hv1, hv2⟩ := h.env.2 t _ (getD_dead ht (by simp))
    obtain ⟨cs, k1, k2⟩ := hv2
    have k2' : cs = _ := k2
    subst k2'
    have hev : v = .slice none 0 0 := by simpa [boxed, TV.isAgg, eq_comm] using k1
    subst hev
    have hrel := h.add i (.arr E e []) (.arr (.slice none 0 0)) (w' := w) none (Keeps.refl _ w) (fun b hb => by cases hb) (fun b hb => by simp [Own.base, Value.ownBlock] at hb)
      ⟨_, [], setAt_same _ _ _, World.ownsRow_nil _ _ _ _, rfl⟩
    exact ⟨_, hrel.name hv1 ⟨_, rfl, _, setAt_same _ _ _, rfl, rfl⟩⟩
  · rename_i j s ht
    cases hb : Nat.beq j i with
    | true => rw [hb] at hp; injection hp with hp; subst hp; exact ⟨θ, h⟩
    | false =>
      rw [hb] at hp
      simp only [cond] at hp
      have hji : j ≠ i := fun e => by rw [e, Nat.beq_refl] at hb; cases hb
      split at hp
      · rename_i E' e' xs hg
        split at hp
        · rename_i q; subst q
          injection hp with hp; subst hp
          obtain ⟨v, g1, g2, g3⟩ := h.move hji hg
          obtain ⟨u, hv1, hv2⟩ := h.env.2 t _ (getD_dead ht (by simp))
          obtain ⟨cs, k1, v2, k2, k3, k4⟩ := hv2
          subst k3
          have hev : u = v2 := by simpa [boxed, TV.isAgg, eq_comm] using k1
          subst hev
          rw [g1] at k2; injection k2 with k2; injection k2 with k2; subst k2
          exact ⟨_, g3.name hv1 ⟨_, rfl, _, setAt_same _ _ _, rfl, g2⟩⟩
        · cases hp
      · cases hp
  · cases hp

theorem Rel.ownAll : ∀ (l : List (Nat × Nat × TypeId)) (σ : St) (θ : Nat → Option Own) (τ : St), Rel w0 Xo σ θ as a w → σ.ownAll cx l = some τ → ∃ θ', Rel w0 Xo τ θ' as a w
  | [], σ, θ, τ, h, hp => by simp only [St.ownAll, Option.some.injEq] at hp; subst hp; exact ⟨θ, h⟩
  | (t, i, T) :: r, σ, θ, τ, h, hp => by
    simp only [St.ownAll] at hp
    split at hp
    · split at hp
      · rename_i τ1 h1
        obtain ⟨θ1, k1⟩ := h.ownNil h1
        exact Rel.ownAll r τ1 θ1 τ k1 hp
      · cases hp
    · cases hp

theorem Rel.cut (h : Rel w0 Xo σ θ as a w) {lev : Nat} {c : Cut} {τ : St} (hp : σ.cut cx lev c = some τ) : ∃ θ', Rel w0 Xo τ θ' as a w := by
  unfold St.cut at hp
  simp only at hp
  split at hp
  · rename_i σ2 h2
    injection hp with hp; subst hp
    obtain ⟨θ', k⟩ := Rel.ownAll _ _ _ _ ((h.keepEnv c.keep).keepStk c.stk) h2
    exact ⟨θ', k.killL _ _⟩
  · cases hp

end Go.Ai

/- Statements. -/
namespace Go.Ai
open Go.RowKit
set_option linter.unusedVariables false
set_option linter.unusedSimpArgs false

variable {P : Program} {cx : Cx} {w0 : World} {Xo : Nat → Prop} {σ : St} {θ : Nat → Option Own} {as : List (Array Value)} {a : Act} {w : World} {X : Nat → Prop} {R : Type} {r : R}

def conv : Ex → Exit
  | .normal => .normal
  | .exit id => .exit id
  | .ret => .ret

/-- Where a statement comes out, the abstract machine goes on to its answer. -/
def Post (w0 : World) (Xo : Nat → Prop) (as : List (Array Value)) (r : R) (K : Ex → St → Option R) : Exit → Act → World → Prop :=
  fun e a w => ∃ x σ θ, e = conv x ∧ Rel w0 Xo σ θ as a w ∧ K x σ = some r

theorem outK_sound (h : Rel w0 Xo σ θ as a w) {lev : Nat} {c : Cut} {K : Ex → St → Option R} {e : Ex} (hp : outK lev c K e σ = some r) : ∃ σ', Rel w0 Xo σ' θ as a w ∧ K e σ' = some r := by
  unfold outK at hp
  split at hp
  · exact ⟨σ, h, hp⟩
  · split at hp
    · exact ⟨_, (h.keepEnv _).killL _ _, hp⟩
    · exact ⟨σ, h, hp⟩
  · split at hp
    · exact ⟨_, (h.keepEnv _).killL _ _, hp⟩
    · exact ⟨σ, h, hp⟩

theorem lit_same {σ : St} {c : Operand} {b : Bool} (h : σ.eval c = .pv .bool b) : σ.lit c b = σ := by
  cases c with
  | tmp t => exact St.put_same h (by simp)
  | _ => rfl

theorem least {p : Nat → Prop} (h : ∃ n, p n) : ∃ n, p n ∧ ∀ m, p m → n ≤ m := by
  obtain ⟨n, hn⟩ := h
  induction n using Nat.strongRecOn with
  | _ n ih =>
    by_cases hl : ∃ m, m < n ∧ p m
    · obtain ⟨m, h1, h2⟩ := hl
      exact ih m h1 h2
    · exact ⟨n, hn, fun m hm => by
        rcases Nat.lt_or_ge m n with h | h
        · exact absurd ⟨m, h, hm⟩ hl
        · exact h⟩

open Classical in
theorem loop_sound {lev : Nat} {c : Cut} {body : Code} {ex : St → (Ex → St → Option R) → Option R} {K : Ex → St → Option R}
    (hbody : ∀ (σ : St) (θ : Nat → Option Own) (a : Act) (w : World) (K : Ex → St → Option R), ex σ K = some r → Rel w0 Xo σ θ as a w → body.wp P (Post w0 Xo as r K) a w)
    {n : Nat} (hp : loopK cx lev ex c K n σ = some r) (h : Rel w0 Xo σ θ as a w) : (Code.loop body).wp P (Post w0 Xo as r K) a w := by
  let J : Nat → Act → World → Prop := fun n a w => ∃ σ θ, Rel w0 Xo σ θ as a w ∧ loopK cx lev ex c K n σ = some r
  let I : Act → World → Prop := fun a w => ∃ n, J n a w
  let μ : Act → World → Nat := fun a w => if hI : I a w then Classical.choose (least hI) else 0
  refine wp_loop I μ ⟨n, σ, θ, h, hp⟩ fun a1 w1 hI => ?_
  have hμ : μ a1 w1 = Classical.choose (least hI) := by simp [μ, hI]
  have hspec : J (Classical.choose (least hI)) a1 w1 := (Classical.choose_spec (least hI)).1
  obtain ⟨σ1, θ1, h1, hp1⟩ := hspec
  cases hn : Classical.choose (least hI) with
  | zero => rw [hn] at hp1; simp [loopK] at hp1
  | succ m =>
    rw [hn] at hp1
    simp only [loopK] at hp1
    refine wp_mono (hbody σ1 θ1 a1 w1 _ hp1 h1) fun e a2 w2 ⟨x, σ2, θ2, hx, h2, hp2⟩ => ?_
    subst hx
    cases x with
    | normal =>
      simp only [iterK] at hp2
      split at hp2
      · rename_i υ hu
        obtain ⟨θ3, h3⟩ := h2.cut hu
        have hI2 : I a2 w2 := ⟨m, υ, θ3, h3, hp2⟩
        refine ⟨hI2, ?_⟩
        have : μ a2 w2 = Classical.choose (least hI2) := by simp [μ, hI2]
        rw [this, hμ, hn]
        exact Nat.lt_succ_of_le ((Classical.choose_spec (least hI2)).2 m ⟨υ, θ3, h3, hp2⟩)
      · cases hp2
    | exit j =>
      simp only [iterK] at hp2
      obtain ⟨σ3, h3, hp3⟩ := outK_sound h2 hp2
      exact ⟨.exit j, σ3, θ2, rfl, h3, hp3⟩
    | ret =>
      simp only [iterK] at hp2
      obtain ⟨σ3, h3, hp3⟩ := outK_sound h2 hp2
      exact ⟨.ret, σ3, θ2, rfl, h3, hp3⟩

theorem blk_sound {id : Nat} {K : Ex → St → Option R} {c : Code} (h : c.wp P (Post w0 Xo as r (blkK id K)) a w) : (Code.block id c).wp P (Post w0 Xo as r K) a w := by
  refine wp_block (wp_mono h fun e a' w' ⟨x, σ, θ, hx, h1, hp⟩ => ?_)
  subst hx
  cases x with
  | normal => exact ⟨.normal, σ, θ, rfl, h1, hp⟩
  | ret => exact ⟨.ret, σ, θ, rfl, h1, hp⟩
  | exit j =>
    simp only [blkK] at hp
    simp only [conv, Exit.inBlock]
    by_cases hj : j = id
    · simp only [hj, Nat.beq_refl, cond] at hp
      simp only [hj, if_true]
      exact ⟨.normal, σ, θ, rfl, h1, hp⟩
    · simp only [beq_false hj, cond] at hp
      simp only [hj, if_false]
      exact ⟨.exit j, σ, θ, rfl, h1, hp⟩

/-- What a region that draws its order does is asked of another text. -/
def DrawOk (P : Program) (w0 : World) (Xo : Nat → Prop) (cx : Cx) (call : CallK R) (r : R) : Prop :=
  ∀ (as : List (Array Value)) lev fn id (ops : Array Oper) σ θ a w (K : Ex → St → Option R), drawB ops.toList = true → (opsK cx call lev fn true ops.toList (ops.toList.take (drawN ops.toList)) σ fun τ => opsK cx call lev fn false ops.toList (ops.toList.drop (drawN ops.toList)) τ (K .normal)) = some r → Rel w0 Xo σ θ as a w → (Code.region id ops true).wp P (Post w0 Xo as r K) a w

theorem exec_sound (hT : TabOk P cx) {call : CallK R} (hcall : CallOk P w0 Xo call) (hdraw : DrawOk P w0 Xo cx call r) {lev : Nat} {fn : FuncId} : (c : Code) → (σ : St) → (θ : Nat → Option Own) → (a : Act) → (w : World) → (K : Ex → St → Option R) →
    execK cx call lev fn c σ K = some r → Rel w0 Xo σ θ as a w → c.wp P (Post w0 Xo as r K) a w
  | .skip, σ, θ, a, w, K, hp, h => wp_skip ⟨.normal, σ, θ, rfl, h, hp⟩
  | .region id ops draw, σ, θ, a, w, K, hp, h => by
    simp only [execK] at hp
    cases draw with
    | false => exact wp_region_list (opsK_sound hT hcall (K := K .normal) (fun σ' θ' a' w' k1 k2 => ⟨.normal, σ', θ', rfl, k2, k1⟩) ops.toList σ θ a w h hp)
    | true =>
      simp only [cond] at hp
      obtain ⟨hd, hp⟩ := cond_some hp
      exact hdraw as lev fn id ops σ θ a w K hd hp h
  | .seq x y, σ, θ, a, w, K, hp, h => by
    simp only [execK] at hp
    refine wp_seq (wp_mono (exec_sound hT hcall hdraw x σ θ a w _ hp h) fun e a' w' ⟨x, σ', θ', hx, h1, hp1⟩ => ?_)
    subst hx
    cases x with
    | normal => exact exec_sound hT hcall hdraw y σ' θ' a' w' K hp1 h1
    | exit j => exact ⟨.exit j, σ', θ', rfl, h1, hp1⟩
    | ret => exact ⟨.ret, σ', θ', rfl, h1, hp1⟩
  | .cond c x y, σ, θ, a, w, K, hp, h => by
    simp only [execK] at hp
    split at hp
    · rename_i t hc
      have hv := h.eval c
      rw [hc] at hv
      have hev := rval_bool hv
      refine wp_cond hev ?_
      cases t with
      | true => rw [lit_same hc] at hp; exact exec_sound hT hcall hdraw x σ θ a w K hp h
      | false => rw [lit_same hc] at hp; exact exec_sound hT hcall hdraw y σ θ a w K hp h
    · cases hp
  | .block id c, σ, θ, a, w, K, hp, h => by
    cases c with
    | loop body =>
      simp only [execK] at hp
      split at hp
      · rename_i ct hct
        split at hp
        · rename_i τ hτ
          obtain ⟨θ', h'⟩ := h.cut hτ
          exact blk_sound (loop_sound (fun σ θ a w K hk hr => exec_sound (fn := fn) (lev := lev) hT hcall hdraw body σ θ a w K hk hr) hp h')
        · cases hp
      · cases hp
    | skip => rw [execK] at hp; exact blk_sound (exec_sound (fn := fn) (lev := lev) hT hcall hdraw .skip σ θ a w _ hp h); intro b hb; cases hb
    | region i o d => rw [execK] at hp; exact blk_sound (exec_sound (fn := fn) (lev := lev) hT hcall hdraw (.region i o d) σ θ a w _ hp h); intro b hb; cases hb
    | seq x y => rw [execK] at hp; exact blk_sound (exec_sound (fn := fn) (lev := lev) hT hcall hdraw (.seq x y) σ θ a w _ hp h); intro b hb; cases hb
    | cond x y z => rw [execK] at hp; exact blk_sound (exec_sound (fn := fn) (lev := lev) hT hcall hdraw (.cond x y z) σ θ a w _ hp h); intro b hb; cases hb
    | block x y => rw [execK] at hp; exact blk_sound (exec_sound (fn := fn) (lev := lev) hT hcall hdraw (.block x y) σ θ a w _ hp h); intro b hb; cases hb
    | exit i => rw [execK] at hp; exact blk_sound (exec_sound (fn := fn) (lev := lev) hT hcall hdraw (.exit i) σ θ a w _ hp h); intro b hb; cases hb
    | ret => rw [execK] at hp; exact blk_sound (exec_sound (fn := fn) (lev := lev) hT hcall hdraw .ret σ θ a w _ hp h); intro b hb; cases hb
    | rangeFunc f p q s => simp [execK] at hp
    | scope s => simp [execK] at hp
    | label l => simp [execK] at hp
    | goto l => simp [execK] at hp
    | refuse y => simp [execK] at hp
  | .exit id, σ, θ, a, w, K, hp, h => wp_exit ⟨.exit id, σ, θ, rfl, h, by simpa only [execK] using hp⟩
  | .ret, σ, θ, a, w, K, hp, h => wp_ret ⟨.ret, σ, θ, rfl, h, by simpa only [execK] using hp⟩
  | .loop _, _, _, _, _, _, hp, _ => by simp [execK] at hp
  | .rangeFunc .., _, _, _, _, _, hp, _ => by simp [execK] at hp
  | .scope _, _, _, _, _, _, hp, _ => by simp [execK] at hp
  | .label _, _, _, _, _, _, hp, _ => by simp [execK] at hp
  | .goto _, _, _, _, _, _, hp, _ => by simp [execK] at hp
  | .refuse _, _, _, _, _, _, hp, _ => by simp [execK] at hp

end Go.Ai

/- What a function hands back. -/
namespace Go.Ai
open Go.RowKit
set_option linter.unusedVariables false
set_option linter.unusedSimpArgs false

variable {P : Program} {cx : Cx} {w0 : World} {Xo : Nat → Prop} {σ : St} {θ : Nat → Option Own} {as : List (Array Value)} {a : Act} {w : World} {X : Nat → Prop} {R : Type} {r : R}

def rvRun (tmps : Array Value) : ResultVar → Sem Value
  | .tmp t => pure (tmps.getD t undef)
  | .cell a t => do loadVar t (← asAddr (tmps.getD a undef))

theorem results_eq (fn : Func) (tmps : Array Value) : results fn tmps = (do let vs ← fn.results.mapM (rvRun tmps); pure (if h : vs.size = 1 then vs[0] else .tuple vs)) := rfl

/-- Results and their values, one by one. -/
def ResRel (P : Program) (w : World) (X : Nat → Prop) (θ : Nat → Option Own) (tmps : Array Value) : List ResultVar → List TV → List Value → Prop
  | [], [], [] => True
  | q :: qs, t :: ts, v :: vs => (rvRun tmps q).run P w = .ok v w ∧ RVal w X θ t v ∧ ResRel P w X θ tmps qs ts vs
  | _, _, _ => False

theorem loadVar_of_loadAt {T : TypeId} {v y : Value} (h : (Instr.loadAt T v).run P w = .ok y w) : (do loadVar T (← asAddr v)).run P w = .ok y w := by
  cases v with
  | pointer o =>
    cases o with
    | some ad => simpa [Instr.loadAt, Instr.sureAddr, asAddr] using h
    | none => simp [Instr.loadAt, Instr.sureAddr] at h
  | _ => simp [Instr.loadAt, Instr.sureAddr] at h

theorem resAll_sound (hC : CxOk P cx) (h : Rel w0 Xo σ θ as a w) : ∀ (qs : List ResultVar) (ts : List TV), resAll cx σ qs = some ts → ∃ vs, ResRel P w (owned Xo θ σ.heap) θ a.tmps qs ts vs
  | [], ts, hp => by simp only [resAll, Option.some.injEq] at hp; subst hp; exact ⟨[], trivial⟩
  | q :: qs, ts, hp => by
    simp only [resAll] at hp
    split at hp
    · rename_i v vs h1 h2
      injection hp with hp; subst hp
      obtain ⟨ws, k⟩ := resAll_sound hC h qs vs h2
      cases q with
      | tmp t =>
        simp only [resOf, Option.some.injEq] at h1
        subst h1
        exact ⟨_ :: ws, rfl, h.eval (.tmp t), k⟩
      | cell c T =>
        simp only [resOf] at h1
        split at h1
        · rename_i s hs
          obtain ⟨u, y, g1, g2, g3⟩ := loadK_sound hC h.heap hs (h.eval (.tmp c)) h1
          injection g1 with g1; subst g1
          exact ⟨y :: ws, loadVar_of_loadAt g2, g3, k⟩
        · cases h1
    · cases hp

theorem chain_rel {tmps : Array Value} : ∀ {qs : List ResultVar} {ts : List TV} {vs : List Value}, ResRel P w X θ tmps qs ts vs → ts.any TV.isTup = false → RV w X θ true (chain ts) vs
  | [], [], [], _, _ => rfl
  | q :: qs, t :: ts, v :: vs, ⟨_, h2, h3⟩, hn => by
    simp only [List.any_cons, Bool.or_eq_false_iff] at hn
    exact rv_chain_cons h2 (fun c e => by subst e; simp [TV.isTup] at hn) (chain_rel h3 hn.2)
  | [], _ :: _, _, h, _ => h.elim
  | [], [], _ :: _, h, _ => h.elim
  | _ :: _, [], _, h, _ => h.elim
  | _ :: _, _ :: _, [], h, _ => h.elim

theorem res_sound (hC : CxOk P cx) (h : Rel w0 Xo σ θ as a w) {fn : Func} {qs : List ResultVar} (hq : fn.results.toList = qs) (hlen : qs.length ≤ 5) {v : TV} (hp : resTV cx σ qs = some v) :
    ∃ val, (results fn a.tmps).run P w = .ok val w ∧ RVal w (owned Xo θ σ.heap) θ v val := by
  have hqa : fn.results = qs.toArray := by apply Array.ext'; simpa using hq
  unfold resTV at hp
  split at hp
  · rename_i u hu
    injection hp with hp; subst hp
    obtain ⟨vs, k⟩ := resAll_sound hC h qs _ hu
    rcases qs with _ | ⟨q, qs⟩ <;> rcases vs with _ | ⟨y, vs⟩ <;> try exact k.elim
    rcases qs with _ | ⟨q1, qs⟩ <;> rcases vs with _ | ⟨y1, vs⟩ <;> try exact k.2.2.elim
    exact ⟨y, by rw [results_eq]; simp [hqa, k.1], k.2.1⟩
  · rename_i ts hne hu
    have hq2 : (ts.any TV.isTup) = false ∧ v = .tup (chain ts) := by
      cases hany : ts.any TV.isTup with
      | true => rw [hany] at hp; cases hp
      | false => rw [hany] at hp; injection hp with hp; exact ⟨rfl, hp.symm⟩
    obtain ⟨vs, k⟩ := resAll_sound hC h qs _ hu
    obtain ⟨hany, rfl⟩ := hq2
    refine ⟨.tuple vs.toArray, ?_, vs, rfl, chain_rel k hany⟩
    rw [results_eq]
    rcases qs with _ | ⟨q0, qs⟩ <;> rcases ts with _ | ⟨t0, ts⟩ <;> rcases vs with _ | ⟨y0, vs⟩ <;> try exact k.elim
    · simp [hqa]
    rcases qs with _ | ⟨q1, qs⟩ <;> rcases ts with _ | ⟨t1, ts⟩ <;> rcases vs with _ | ⟨y1, vs⟩ <;> try exact k.2.2.elim
    · exact absurd rfl (hne t0)
    rcases qs with _ | ⟨q2, qs⟩ <;> rcases ts with _ | ⟨t2, ts⟩ <;> rcases vs with _ | ⟨y2, vs⟩ <;> try exact k.2.2.2.2.elim
    · simp [hqa, k.1, k.2.2.1]
    rcases qs with _ | ⟨q3, qs⟩ <;> rcases ts with _ | ⟨t3, ts⟩ <;> rcases vs with _ | ⟨y3, vs⟩ <;> try exact k.2.2.2.2.2.2.elim
    · simp [hqa, k.1, k.2.2.1, k.2.2.2.2.1]
    rcases qs with _ | ⟨q4, qs⟩ <;> rcases ts with _ | ⟨t4, ts⟩ <;> rcases vs with _ | ⟨y4, vs⟩ <;> try exact k.2.2.2.2.2.2.2.2.elim
    · simp [hqa, k.1, k.2.2.1, k.2.2.2.2.1, k.2.2.2.2.2.2.1]
    rcases qs with _ | ⟨q5, qs⟩ <;> rcases ts with _ | ⟨t5, ts⟩ <;> rcases vs with _ | ⟨y5, vs⟩ <;> try exact k.2.2.2.2.2.2.2.2.2.2.elim
    · simp [hqa, k.1, k.2.2.1, k.2.2.2.2.1, k.2.2.2.2.2.2.1, k.2.2.2.2.2.2.2.2.1]
    simp at hlen
  · cases hp

end Go.Ai

/- What a call hands back, in its caller's state. -/
namespace Go.Ai
open Go.RowKit
set_option linter.unusedVariables false
set_option linter.unusedSimpArgs false

variable {P : Program} {cx : Cx} {w0 : World} {Xo : Nat → Prop} {σ : St} {θ : Nat → Option Own} {as : List (Array Value)} {a : Act} {w : World} {X : Nat → Prop} {R : Type} {r : R}

/-- A value without addresses: it holds whatever is to be avoided. -/
theorem rep_noref {w' : World} {X' : Nat → Prop} : (t : Ty) → t.hasRef = false → (cs : List Value) → (x : t.den) → Rep w X t cs x → Rep w' X' t cs x
  | .int _, _, _, _, h => h
  | .bool, _, _, _, h => h
  | .str, _, _, _, h => h
  | .slice _, hn, _, _, _ => by simp [Ty.hasRef] at hn
  | .arr n e, hn, cs, xs, ⟨h1, h2⟩ => ⟨h1, chunks_mono (fun c x hx => rep_noref e (by simpa [Ty.hasRef] using hn) c x hx) h2⟩
  | .unit, _, _, _, h => h
  | .pair a b, hn, cs, x, ⟨c1, c2, h0, h1, h2⟩ => by
    simp only [Ty.hasRef, Bool.or_eq_false_iff] at hn
    exact ⟨c1, c2, h0, rep_noref a hn.1 c1 x.1 h1, rep_noref b hn.2 c2 x.2 h2⟩
  | .ref _, hn, _, _, _ => by simp [Ty.hasRef] at hn
  | .opt _, hn, _, _, _ => by simp [Ty.hasRef] at hn

theorem rv_noalias {X' : Nat → Prop} : (m : Bool) → (tv : TV) → (cs : List Value) → tv.alias = false → RV w X θ m tv cs → RV w X' θ m tv cs
  | false, .pv t x, cs, hn, h => rep_noref t hn cs x h
  | false, .pr a b, cs, hn, ⟨c1, c2, h0, h1, h2⟩ => by
    simp only [TV.alias, Bool.or_eq_false_iff] at hn
    exact ⟨c1, c2, h0, rv_noalias false a c1 hn.1 h1, rv_noalias false b c2 hn.2 h2⟩
  | false, .ptr .., _, _, h => h
  | false, .sl .., _, _, h => h
  | false, .vw .., _, _, h => h
  | false, .clp .., _, hn, _ => by simp [TV.alias] at hn
  | false, .nilsl, _, _, h => h
  | false, .fn f c, cs, hn, ⟨vs, h1, h2⟩ => ⟨vs, h1, rv_noalias true c vs hn h2⟩
  | false, .bad, _, _, h => h
  | false, .tup _, _, _, h => by simp [RV] at h
  | false, .und, _, _, h => by simp [RV] at h
  | false, .dead, _, _, h => by simp [RV] at h
  | true, .pr a b, vs, hn, h => by
    simp only [TV.alias, Bool.or_eq_false_iff] at hn
    have go : ∀ cs, RV w X θ false a cs → RV w X' θ false a cs := fun cs => rv_noalias false a cs hn.1
    have gb : ∀ r, RV w X θ true b r → RV w X' θ true b r := fun r => rv_noalias true b r hn.2
    cases a <;> simp only [RV] at h ⊢ <;> obtain ⟨v, r, h0, h1, h2⟩ := h <;> first
      | exact ⟨v, r, h0, trivial, gb r h2⟩
      | exact ⟨v, r, h0, h1, gb r h2⟩
      | (obtain ⟨cs, k1, k2⟩ := h1; exact ⟨v, r, h0, ⟨cs, k1, go cs k2⟩, gb r h2⟩)
  | true, .pv .unit _, _, _, h => h
  | true, .pv (.int _) _, _, _, h | true, .pv .bool _, _, _, h | true, .pv .str _, _, _, h | true, .pv (.slice _) _, _, _, h | true, .pv (.arr _ _) _, _, _, h | true, .pv (.pair _ _) _, _, _, h | true, .pv (.ref _) _, _, _, h | true, .pv (.opt _) _, _, _, h => by simp [RV] at h
  | true, .ptr .., _, _, h | true, .sl .., _, _, h | true, .vw .., _, _, h | true, .clp .., _, _, h | true, .nilsl, _, _, h | true, .fn .., _, _, h | true, .tup _, _, _, h | true, .bad, _, _, h | true, .und, _, _, h | true, .dead, _, _, h => by simp [RV] at h

theorem rval_noalias {X' : Nat → Prop} {tv : TV} {v : Value} (hn : tv.alias = false) (h : RVal w X θ tv v) : RVal w X' θ tv v := by
  cases tv with
  | dead => trivial
  | und => exact h
  | tup c => obtain ⟨vs, k1, k2⟩ := h; exact ⟨vs, k1, rv_noalias true c vs hn k2⟩
  | _ => obtain ⟨cs, k1, k2⟩ := h; exact ⟨cs, k1, rv_noalias false _ cs hn k2⟩

theorem blk_noalias {X' : Nat → Prop} {base i : Nat} {b : Blk} (hn : b.alias = false) (h : BlkRel w X θ base i b) : BlkRel w X' θ base i b := by
  cases b with
  | var t c => obtain ⟨b, C, E, h1, h2, h3, h4, h5⟩ := h; exact ⟨b, C, E, h1, h2, h3, rv_noalias false c _ hn h4, h5⟩
  | arr E e xs => obtain ⟨v, ds, h1, h2, h3⟩ := h; exact ⟨v, ds, h1, h2, chunks_mono (fun c x hx => rep_noref e hn c x hx) h3⟩

/-! ### Blocks that go, many at once -/
theorem killL_env : ∀ (l : List Nat) (σ : St), (σ.killL l).env = σ.env.map (killAll l)
  | [], σ => by simp [St.killL, killAll]
  | i :: l, σ => by rw [St.killL, killL_env l]; simp [St.kill, killAll, Function.comp_def]
theorem killL_stk : ∀ (l : List Nat) (σ : St), (σ.killL l).stk = σ.stk.map (·.map (killAll l))
  | [], σ => by simp [St.killL, killAll]
  | i :: l, σ => by rw [St.killL, killL_stk l]; simp [St.kill, killAll, Function.comp_def]
theorem killL_get : ∀ (l : List Nat) (σ : St) (k : Nat), hget (σ.killL l).heap k = if k ∈ l then none else (hget σ.heap k).map (Blk.mapc (killAll l))
  | [], σ, k => by
    have e : Blk.mapc (killAll []) = id := by funext b; cases b <;> rfl
    simp [St.killL, e]
  | i :: l, σ, k => by
    rw [St.killL, killL_get l]
    by_cases h1 : k ∈ l
    · simp [h1]
    · by_cases h2 : k = i
      · subst h2; simp [St.kill, hget_map, hget_del]
      · simp only [h1, if_false, List.mem_cons, h2, or_self, St.kill, hget_map, hget_del, Option.map_map]
        congr 1
        funext b
        cases b <;> rfl

theorem killAll_rval : ∀ (l : List Nat) {θ θ' : Nat → Option Own} (tv : TV) (v : Value), (∀ j, j ∉ l → θ' j = θ j) → RVal w X θ tv v → RVal w X θ' (killAll l tv) v
  | [], θ, θ', tv, v, h, hr => RVal.step (Step.same X w) tv v (fun i _ => h i (by simp)) hr
  | i :: l, θ, θ', tv, v, h, hr => by
    have h1 : RVal w X (fun j => if j = i then θ' i else θ j) (tv.kill i) v := RVal.kill (i := i) (fun j hj => by simp [hj]) tv v hr
    refine killAll_rval l _ v (fun j hj => ?_) h1
    by_cases e : j = i
    · simp [e]
    · simp only [e, if_false]; exact h j (by simp [e, hj])
theorem killAll_rv : ∀ (l : List Nat) {θ θ' : Nat → Option Own} (m : Bool) (tv : TV) (cs : List Value), (∀ j, j ∉ l → θ' j = θ j) → RV w X θ m tv cs → RV w X θ' m (killAll l tv) cs
  | [], θ, θ', m, tv, v, h, hr => RV.step (Step.same X w) m tv v (fun i _ => h i (by simp)) hr
  | i :: l, θ, θ', m, tv, v, h, hr => by
    have h1 : RV w X (fun j => if j = i then θ' i else θ j) m (tv.kill i) v := RV.kill (i := i) (fun j hj => by simp [hj]) m tv v hr
    refine killAll_rv l m _ v (fun j hj => ?_) h1
    by_cases e : j = i
    · simp [e]
    · simp only [e, if_false]; exact h j (by simp [e, hj])
theorem killAll_fits : ∀ (l : List Nat) (tv : TV) (t : Ty), tv.fits t = true → (killAll l tv).fits t = true
  | [], _, _, h => h
  | i :: l, tv, t, h => killAll_fits l (tv.kill i) t (TV.fits_kill i tv t h)

/-! ### New numbers -/
theorem isAgg_ren (d : Nat) (tv : TV) : (tv.ren d).isAgg = tv.isAgg := by cases tv <;> rfl

theorem RV.ren {θ' : Nat → Option Own} {d : Nat} : (m : Bool) → (tv : TV) → (cs : List Value) → (∀ i, i ∈ tv.ids → θ' (d + i) = θ i) → RV w X θ m tv cs → RV w X θ' m (tv.ren d) cs
  | false, .pv _ _, _, _, h => h
  | false, .pr a b, cs, hi, ⟨c1, c2, h0, h1, h2⟩ =>
    ⟨c1, c2, h0, RV.ren false a c1 (fun i q => hi i (by simp [TV.ids, q])) h1, RV.ren false b c2 (fun i q => hi i (by simp [TV.ids, q])) h2⟩
  | false, .ptr i t p, cs, hi, ⟨o, b, off, s, h1, h2⟩ => ⟨o, b, off, s, (hi i (by simp [TV.ids])).trans h1, h2⟩
  | false, .sl i e, cs, hi, ⟨v, h1, h2⟩ => ⟨v, (hi i (by simp [TV.ids])).trans h1, h2⟩
  | false, .vw i t p e lo hi, cs, hi', hr => by obtain ⟨o, v, h1, h2⟩ := hr; exact ⟨o, v, (hi' i (by simp [TV.ids])).trans h1, h2⟩
  | false, .clp _ _, _, _, h => h
  | false, .nilsl, _, _, h => h
  | false, .fn f c, cs, hi, ⟨vs, h1, h2⟩ => ⟨vs, h1, RV.ren true c vs (fun i q => hi i (by simp [TV.ids, q])) h2⟩
  | false, .bad, _, _, h => h
  | false, .tup _, _, _, h => by simp [RV] at h
  | false, .und, _, _, h => by simp [RV] at h
  | false, .dead, _, _, h => by simp [RV] at h
  | true, .pr a b, vs, hi, h => by
    have go : ∀ cs, RV w X θ false a cs → RV w X θ' false (a.ren d) cs := fun cs => RV.ren false a cs (fun i q => hi i (by simp [TV.ids, q]))
    have gb : ∀ r, RV w X θ true b r → RV w X θ' true (b.ren d) r := fun r => RV.ren true b r (fun i q => hi i (by simp [TV.ids, q]))
    have ga := isAgg_ren d a
    cases a <;> simp only [RV, TV.ren] at h ⊢ <;> obtain ⟨v, r, h0, h1, h2⟩ := h <;> first
      | exact ⟨v, r, h0, trivial, gb r h2⟩
      | exact ⟨v, r, h0, h1, gb r h2⟩
      | (obtain ⟨cs, k1, k2⟩ := h1; exact ⟨v, r, h0, ⟨cs, k1, go cs k2⟩, gb r h2⟩)
  | true, .pv .unit _, _, _, h => h
  | true, .pv (.int _) _, _, _, h | true, .pv .bool _, _, _, h | true, .pv .str _, _, _, h | true, .pv (.slice _) _, _, _, h | true, .pv (.arr _ _) _, _, _, h | true, .pv (.pair _ _) _, _, _, h | true, .pv (.ref _) _, _, _, h | true, .pv (.opt _) _, _, _, h => by simp [RV] at h
  | true, .ptr .., _, _, h | true, .sl .., _, _, h | true, .vw .., _, _, h | true, .clp .., _, _, h | true, .nilsl, _, _, h | true, .fn .., _, _, h | true, .tup _, _, _, h | true, .bad, _, _, h | true, .und, _, _, h | true, .dead, _, _, h => by simp [RV] at h

theorem RVal.ren {θ' : Nat → Option Own} {d : Nat} (tv : TV) (v : Value) (hi : ∀ i, i ∈ tv.ids → θ' (d + i) = θ i) (h : RVal w X θ tv v) : RVal w X θ' (tv.ren d) v := by
  have ga := isAgg_ren d tv
  cases tv with
  | dead => trivial
  | und => exact h
  | tup c => obtain ⟨vs, k1, k2⟩ := h; exact ⟨vs, k1, RV.ren true c vs hi k2⟩
  | pr a b => obtain ⟨cs, k1, k2⟩ := h; exact ⟨cs, k1, RV.ren false (.pr a b) cs hi k2⟩
  | _ => obtain ⟨cs, k1, k2⟩ := h; exact ⟨cs, k1, RV.ren false _ cs hi k2⟩

theorem fits_ren (d : Nat) : (tv : TV) → (t : Ty) → (tv.ren d).fits t = tv.fits t
  | .pv _ _, _ => rfl
  | .pr a b, .pair s t => by simp [TV.ren, TV.fits, fits_ren d a s, fits_ren d b t]
  | .pr _ _, .int _ | .pr _ _, .bool | .pr _ _, .str | .pr _ _, .slice _ | .pr _ _, .arr _ _ | .pr _ _, .unit | .pr _ _, .ref _ | .pr _ _, .opt _ => rfl
  | .ptr .., t => by cases t <;> rfl
  | .sl .., t => by cases t <;> rfl
  | .vw .., t => by cases t <;> rfl
  | .clp .., _ => rfl
  | .nilsl, _ => rfl
  | .fn .., t => by cases t <;> rfl
  | .tup _, t => by cases t <;> rfl
  | .bad, _ => rfl
  | .und, _ => rfl
  | .dead, _ => rfl

theorem apH_get : ∀ (g h : Heap) (k : Nat), hget (apH g h) k = (hget g k).or (hget h k)
  | [], h, k => by simp [apH, hget]
  | (i, b) :: g, h, k => by simp only [apH, hget]; cases Nat.beq i k <;> simp [apH_get g h k]

theorem renH_get (d : Nat) : ∀ (H : Heap) (k : Nat), hget (renH d H) (d + k) = (hget H k).map (Blk.ren d)
  | [], k => rfl
  | (i, b) :: H, k => by
    simp only [renH, hget]
    by_cases e : i = k
    · simp [beq_iff.2 e, e]
    · have : d + i ≠ d + k := by omega
      simp [beq_false e, beq_false this, renH_get d H k]
theorem renH_none (d : Nat) : ∀ (H : Heap) (k : Nat), k < d → hget (renH d H) k = none
  | [], k, _ => rfl
  | (i, b) :: H, k, h => by
    have : d + i ≠ k := by omega
    simp [renH, hget, beq_false this, renH_none d H k h]

theorem keysOf_mem : ∀ (H : Heap) (k : Nat), (hget H k).isSome = true → k ∈ keysOf H
  | [], k, h => by simp [hget] at h
  | (i, b) :: H, k, h => by
    simp only [hget] at h
    by_cases e : i = k
    · simp [keysOf, e]
    · simp only [beq_false e, cond] at h
      simp [keysOf, keysOf_mem H k h]

theorem contIds_mem : ∀ (H : Heap) (k : Nat) (b : Blk) (i : Nat), hget H k = some b → i ∈ b.ids → i ∈ contIds H
  | [], k, b, i, h, _ => by simp [hget] at h
  | (j, c) :: H, k, b, i, h, hi => by
    simp only [hget] at h
    by_cases e : j = k
    · simp only [beq_iff.2 e, cond, Option.some.injEq] at h; subst h; simp [contIds, hi]
    · simp only [beq_false e, cond] at h; simp [contIds, contIds_mem H k b i h hi]

theorem mem_newIds {H : Heap} {t : TV} {i : Nat} (h : (hget H i).isSome = true ∨ i ∈ t.ids ∨ i ∈ contIds H) : i ∈ newIds H t := by
  unfold newIds
  by_cases hk : i ∈ keysOf H
  · exact List.mem_append_left _ hk
  · refine List.mem_append_right _ (List.mem_filter.2 ⟨?_, ?_⟩)
    · rcases h with h | h | h
      · exact absurd (keysOf_mem H i h) hk
      · exact List.mem_append_left _ h
      · exact List.mem_append_right _ h
    · simp only [Bool.not_eq_true', List.any_eq_false]
      intro x hx
      intro he
      exact hk ((beq_iff.1 he) ▸ hx)

/-- The blocks of what a call hands back join the caller's. -/
theorem addAll_rel (h : Rel w0 Xo σ θ as a w) {d : Nat} {X' : Nat → Prop} (hX : ∀ b, owned Xo θ σ.heap b → X' b) {w' : World} (hk : Keeps (fun _ => False) w w') {θH : Nat → Option Own} {H : Heap} {t : TV} {v : Value}
    (hH : HRel w' (owned X' θH H) θH w.heap.size H) (hr : RVal w' (owned X' θH H) θH t v) :
    ∃ θ', Rel w0 Xo (σ.addAll d H t) θ' as a w' ∧ RVal w' (owned Xo θ' (σ.addAll d H t).heap) θ' (t.ren d) v := by
  let L := (newIds H t).map (d + ·)
  let θ' : Nat → Option Own := fun k => if k ∈ L then θH (k - d) else θ k
  have hL : ∀ k, k ∉ L → θ' k = θ k := fun k hk => by simp [θ', hk]
  have hN : ∀ i, i ∈ newIds H t → θ' (d + i) = θH i := fun i hi => by
    have : d + i ∈ L := List.mem_map.2 ⟨i, hi, rfl⟩
    simp [θ', this]
  have hget' : ∀ k, hget (σ.addAll d H t).heap k = (if d ≤ k then (hget H (k - d)).map (Blk.ren d) else none).or (if k ∈ L then none else (hget σ.heap k).map (Blk.mapc (killAll L))) := by
    intro k
    simp only [St.addAll, apH_get]
    rw [killL_get]
    congr 1
    by_cases hd : d ≤ k
    · obtain ⟨i, rfl⟩ := Nat.exists_eq_add_of_le hd
      simp only [hd, if_true, renH_get, Nat.add_sub_cancel_left]
    · simp only [hd, if_false]
      exact renH_none d H k (by omega)
  -- what a number stands for
  have cases' : ∀ k b, hget (σ.addAll d H t).heap k = some b → (∃ i b0, k = d + i ∧ hget H i = some b0 ∧ b = b0.ren d ∧ θ' k = θH i) ∨ (∃ b0, hget σ.heap k = some b0 ∧ b = b0.mapc (killAll L) ∧ θ' k = θ k ∧ k ∉ L) := by
    intro k b hb
    rw [hget'] at hb
    by_cases hd : d ≤ k
    · obtain ⟨i, rfl⟩ := Nat.exists_eq_add_of_le hd
      simp only [hd, if_true, Nat.add_sub_cancel_left] at hb
      cases hi : hget H i with
      | some b0 =>
        simp only [hi, Option.map_some, Option.some_or, Option.some.injEq] at hb
        exact .inl ⟨i, b0, rfl, hi, hb.symm, hN i (mem_newIds (.inl (by simp [hi])))⟩
      | none =>
        simp only [hi, Option.map_none, Option.none_or] at hb
        by_cases hl : d + i ∈ L
        · simp [hl] at hb
        · simp only [hl, if_false] at hb
          cases h0 : hget σ.heap (d + i) with
          | none => simp [h0] at hb
          | some b0 =>
            simp only [h0, Option.map_some, Option.some.injEq] at hb
            exact .inr ⟨b0, rfl, hb.symm, hL _ hl, hl⟩
    · simp only [hd, if_false, Option.none_or] at hb
      by_cases hl : k ∈ L
      · simp [hl] at hb
      · simp only [hl, if_false] at hb
        cases h0 : hget σ.heap k with
        | none => simp [h0] at hb
        | some b0 =>
          simp only [h0, Option.map_some, Option.some.injEq] at hb
          exact .inr ⟨b0, rfl, hb.symm, hL _ hl, hl⟩
  have hown : ∀ b, owned Xo θ' (σ.addAll d H t).heap b → owned X' θH H b := by
    intro b hb
    rcases hb with hb | ⟨k, h1, h2⟩
    · exact .inl (hX b (.inl hb))
    · obtain ⟨bk, hbk⟩ := Option.isSome_iff_exists.1 h1
      rcases cases' k bk hbk with ⟨i, b0, rfl, e1, _, e3⟩ | ⟨b0, e1, _, e3, _⟩
      · exact .inr ⟨i, by simp [e1], by simpa [baseAt, e3] using h2⟩
      · exact .inl (hX b (.inr ⟨k, by simp [e1], by simpa [baseAt, e3] using h2⟩))
  have hown2 : ∀ b, b < w.heap.size → owned Xo θ' (σ.addAll d H t).heap b → owned Xo θ σ.heap b := by
    intro b hlt hb
    rcases hb with hb | ⟨k, h1, h2⟩
    · exact .inl hb
    · obtain ⟨bk, hbk⟩ := Option.isSome_iff_exists.1 h1
      rcases cases' k bk hbk with ⟨i, b0, rfl, e1, _, e3⟩ | ⟨b0, e1, _, e3, _⟩
      · have := ((hH.blk i b0 e1).lt b (by simpa [baseAt, e3] using h2)).1
        omega
      · exact .inr ⟨k, by simp [e1], by simpa [baseAt, e3] using h2⟩
  have st1 : Step (owned Xo θ σ.heap) (owned Xo θ' (σ.addAll d H t).heap) w w' := ⟨⟨fun _ => False, hk, fun _ _ h => h.elim⟩, hown2⟩
  have st2 : Step (owned X' θH H) (owned Xo θ' (σ.addAll d H t).heap) w' w' := ⟨⟨fun _ => False, Keeps.refl _ w', fun _ _ h => h.elim⟩, fun b _ hb => hown b hb⟩
  refine ⟨θ', h.next (killAll L) (h.keeps.trans hk) (fun tv u hu => RVal.step st1 _ u (fun _ _ => rfl) (killAll_rval L tv u hL hu)) (by simp [St.addAll, killL_env, L]) (by simp [St.addAll, killL_stk, L]) ⟨fun k b hb => ?_, fun k l hkl hk1 hl1 b => ?_⟩, ?_⟩
  · rcases cases' k b hb with ⟨i, b0, rfl, e1, e2, e3⟩ | ⟨b0, e1, e2, e3, _⟩
    · subst e2
      have hb0 := hH.blk i b0 e1
      cases b0 with
      | var s c =>
        obtain ⟨g, C, E, k1, k2, k3, k4, k5⟩ := hb0
        refine ⟨g, C, E, e3.trans k1, Nat.le_trans h.keeps.size k2, k3, ?_, by rw [fits_ren]; exact k5⟩
        exact RV.step st2 false _ _ (fun _ _ => rfl) (RV.ren false c _ (fun j hj => hN j (mem_newIds (.inr (.inr (contIds_mem H i _ j e1 hj))))) k4)
      | arr E e xs =>
        obtain ⟨u, ds, k1, k2, k3⟩ := hb0
        refine ⟨u, ds, e3.trans k1, ⟨k2.1, ?_⟩, chunks_mono (fun c x hx => st2.rep e c x hx) k3⟩
        rcases k2.2 with k | ⟨g, cap, cur, m1, m2, m3⟩
        · exact .inl k
        · exact .inr ⟨g, cap, cur, m1, Nat.le_trans h.keeps.size m2, m3⟩
    · subst e2
      exact (h.heap.blk k b0 e1).go st1 e3 (fun g hg => hk.block g ((h.heap.blk k b0 e1).lt g hg).2 (fun h => h)) (killAll L) (fun c cs hc => RV.step st1 false _ cs (fun _ _ => rfl) (killAll_rv L false c cs hL hc)) (fun c t ht => killAll_fits L c t ht)
  · obtain ⟨bk, hbk⟩ := Option.isSome_iff_exists.1 hk1
    obtain ⟨bl, hbl⟩ := Option.isSome_iff_exists.1 hl1
    rcases cases' k bk hbk with ⟨i, b0, rfl, e1, _, e3⟩ | ⟨b0, e1, _, e3, _⟩ <;> rcases cases' l bl hbl with ⟨j, c0, rfl, f1, _, f3⟩ | ⟨c0, f1, _, f3, _⟩
    · have hij : i ≠ j := fun e => hkl (by rw [e])
      simpa [baseAt, e3, f3] using hH.inj i j hij (by simp [e1]) (by simp [f1]) b
    · intro g1 g2
      have k1 := ((hH.blk i b0 e1).lt b (by simpa [baseAt, e3] using g1)).1
      have k2 := ((h.heap.blk l c0 f1).lt b (by simpa [baseAt, f3] using g2)).2
      omega
    · intro g1 g2
      have k1 := ((hH.blk j c0 f1).lt b (by simpa [baseAt, f3] using g2)).1
      have k2 := ((h.heap.blk k b0 e1).lt b (by simpa [baseAt, e3] using g1)).2
      omega
    · simpa [baseAt, e3, f3] using h.heap.inj k l hkl (by simp [e1]) (by simp [f1]) b
  · exact RVal.step st2 _ v (fun _ _ => rfl) (RVal.ren t v (fun i hi => hN i (mem_newIds (.inr (.inl hi)))) hr)

end Go.Ai

/- A call of a function that has a contract. -/
namespace Go.Ai
open Go.RowKit
set_option linter.unusedVariables false
set_option linter.unusedSimpArgs false

variable {P : Program} {cx : Cx} {w0 : World} {Xo : Nat → Prop} {σ : St} {θ : Nat → Option Own} {as : List (Array Value)} {a : Act} {w : World} {X X' : Nat → Prop} {R : Type} {r : R} {h : Heap} {base : Nat}

/-- Arguments, one behind the other. -/
def ArgsRep (w : World) (X : Nat → Prop) : (t : Ty) → List Value → t.den → Prop
  | .unit, vs, _ => vs = []
  | .pair a b, vs, x => ∃ v r cs, vs = v :: r ∧ boxed a.isAgg v cs ∧ Rep w X a cs x.1 ∧ ArgsRep w X b r x.2
  | _, _, _ => False

/-- What a contract says. -/
def ConOk (P : Program) (f : FuncId) (c : Con) : Prop :=
  ∀ (w : World) (X : Nat → Prop) (args : Array Value) (xs : c.ps.den) (y : shDen c.sh), (∀ b, X b → b < w.heap.size) → ArgsRep w X c.ps args.toList xs → c.raw xs = some y →
    Does P f args w fun v w' => Keeps (fun _ => False) w w' ∧ ∃ θ, HRel w' (owned X θ (mkH c.sh y)) θ w.heap.size (mkH c.sh y) ∧ RVal w' (owned X θ (mkH c.sh y)) θ (mkTV c.sh y) v

theorem bindO_some {α β : Type} {x : Option α} {f : α → Option β} {b : β} (h : bindO x f = some b) : ∃ a, x = some a ∧ f a = some b := by
  cases x with
  | none => cases h
  | some a => exact ⟨a, rfl, h⟩

/-- A plain value out of any: the blocks that it names are lent. -/
theorem toPv_sound (hh : HRel w X θ base h) (hX : ∀ b, X' b → X b) : (tv : TV) → (t : Ty) → (x : t.den) → (cs : List Value) → toPv h tv t = some x → (∀ i ∈ tv.ids, ∀ b, baseAt θ i = some b → ¬ X' b) → RV w X θ false tv cs → Rep w X' t cs x
  | .pv s y, t, x, cs, hp, _, hr => by
    simp only [toPv] at hp
    split at hp
    · rename_i e; subst e; injection hp with hp; subst hp; exact Rep.avoid (fun b _ hb => hX b hb) s cs y hr
    · cases hp
  | .pr a b, .pair ta tb, x, cs, hp, hi, ⟨c1, c2, h0, h1, h2⟩ => by
    simp only [toPv] at hp
    split at hp
    · rename_i y z hy hz
      injection hp with hp; subst hp
      exact ⟨c1, c2, h0, toPv_sound hh hX a ta y c1 hy (fun i q => hi i (by simp [TV.ids, q])) h1, toPv_sound hh hX b tb z c2 hz (fun i q => hi i (by simp [TV.ids, q])) h2⟩
    · cases hp
  | .nilsl, .slice e, x, cs, hp, _, hr => by
    simp only [toPv, Option.some.injEq] at hp
    subst hp
    exact ⟨none, 0, 0, [], hr, rfl, Nat.le_refl _, Nat.zero_le _, rfl, .inl rfl⟩
  | .clp s ys, .slice e, x, cs, hp, _, ⟨ad, len, ds, h1, h2, h3, h4, h5⟩ => by
    simp only [toPv] at hp
    split at hp
    · rename_i q; subst q; injection hp with hp; subst hp
      refine ⟨ad, len, len, ds, h1, h2, Nat.le_refl _, h3, chunks_mono (fun c x hx => Rep.avoid (fun b _ hb => hX b hb) s c x hx) h4, ?_⟩
      rcases h5 with h5 | ⟨b, o, q1, q2, q3⟩
      · exact .inl h5
      · exact .inr ⟨b, o, q1, q2, fun hb => q3 (hX b hb)⟩
    · cases hp
  | .sl i e, .slice e', x, cs, hp, hi, ⟨v, h1, h2, h3⟩ => by
    simp only [toPv] at hp
    split at hp
    · rename_i E e2 xs hg
      split at hp
      · rename_i q; subst q
        split at hp
        · rename_i q; subst q
          injection hp with hp; subst hp
          obtain ⟨v', ds, g1, g2, g3⟩ := hh.blk i _ hg
          rw [g1] at h1; injection h1 with h1; injection h1 with h1; subst h1
          subst h2
          have g3' := chunks_mono (fun c x hx => Rep.avoid (Y := X') (fun b _ hb => hX b hb) e c x hx) g3
          rcases g2.2 with ⟨k1, k2⟩ | ⟨g, cap, cur, k1, k2, k3, k4, k5, k6, k7⟩
          · subst k1
            have hn : xs = [] := List.eq_nil_of_length_eq_zero k2
            subst hn
            exact ⟨none, 0, 0, [], rfl, rfl, Nat.le_refl _, Nat.zero_le _, rfl, .inl rfl⟩
          · subst k1
            refine ⟨_, _, cap, ds, rfl, rfl, k4, k5, g3', .inr ⟨g, 0, rfl, ?_, hi i (by simp [TV.ids]) g (by simp [baseAt, g1, Own.base, Value.ownBlock])⟩⟩
            intro j u hu
            have := World.ownsRow.cells g2 (g := g) rfl j u hu
            simpa [Addr.add_mid] using this
        · cases hp
      · cases hp
    · cases hp
  | .ptr i rt p, .ref e, x, cs, hp, hi, ⟨o, b, off, s, h1, h2, h3, h4, h5⟩ => by
    simp only [toPv] at hp
    split at hp
    · rename_i tt c hg
      split at hp
      · rename_i q; subst q
        split at hp
        · rename_i u hy
          obtain ⟨b', C, E, e1, e2, e3, e4, e5⟩ := hh.blk i _ hg
          rw [e1] at h1; injection h1 with h1; subst h1
          simp only [Own.base, Option.some.injEq] at h2; subst h2
          have hat := at_of_rat e5 hy h3
          obtain ⟨k1, c1, cc, c2, k2, k3, k4, k5⟩ := tv_get c tt p C.toList off s _ hat e5 hy e4
          have hra : w.rangeAt b' off cc := by
            have := rangeAt_block e3 (c1 := c1) (c := cc) (c2 := c2) k2
            rwa [k3] at this
          exact ⟨b', off, cc, h5, Rep.avoid (fun b _ hb => hX b hb) e cc x (plain_sound u e x cc hp k5), hra, fun _ => hi i (by simp [TV.ids]) b' (by simp [baseAt, e1, Own.base])⟩
        · cases hp
      · cases hp
    · cases hp
  | .vw i rt p e lo up, .slice e', x, cs, hp, hi, hr => by
    simp only [toPv] at hp
    split at hp
    · rename_i q; subst q
      obtain ⟨o, v, h1, h2, h3⟩ := hr
      subst h3
      obtain ⟨ad, len, cap, ds, k1, k2, k3, k4, k5, k6, _⟩ := view_sound hh h1 h2 hp
      subst k1
      refine ⟨ad, len, cap, ds, rfl, k2, k3, k4, chunks_mono (fun c x hx => Rep.avoid (Y := X') (fun b _ hb => hX b hb) e c x hx) k5, ?_⟩
      rcases k6 with k6 | ⟨b, q, m1, m2, m3⟩
      · exact .inl k6
      · exact .inr ⟨b, q, m1, m2, hi i (by simp [TV.ids]) b m3⟩
    · cases hp
  | .vw .., .int _, _, _, hp, _, _ | .vw .., .bool, _, _, hp, _, _ | .vw .., .str, _, _, hp, _, _ | .vw .., .ref _, _, _, hp, _, _ | .vw .., .arr _ _, _, _, hp, _, _ | .vw .., .unit, _, _, hp, _, _ | .vw .., .pair _ _, _, _, hp, _, _ | .vw .., .opt _, _, _, hp, _, _ => by simp [toPv] at hp
  | .ptr .., .int _, _, _, hp, _, _ | .ptr .., .bool, _, _, hp, _, _ | .ptr .., .str, _, _, hp, _, _ | .ptr .., .slice _, _, _, hp, _, _ | .ptr .., .arr _ _, _, _, hp, _, _ | .ptr .., .unit, _, _, hp, _, _ | .ptr .., .pair _ _, _, _, hp, _, _ | .ptr .., .opt _, _, _, hp, _, _ => by simp [toPv] at hp
  | .sl .., .int _, _, _, hp, _, _ | .sl .., .bool, _, _, hp, _, _ | .sl .., .str, _, _, hp, _, _ | .sl .., .ref _, _, _, hp, _, _ | .sl .., .arr _ _, _, _, hp, _, _ | .sl .., .unit, _, _, hp, _, _ | .sl .., .pair _ _, _, _, hp, _, _ | .sl .., .opt _, _, _, hp, _, _ => by simp [toPv] at hp
  | .fn .., t, x, cs, hp, _, _ => by cases t <;> simp [toPv] at hp
  | .tup _, _, _, _, _, _, hr => by simp [RV] at hr
  | .und, _, _, _, _, _, hr => by simp [RV] at hr
  | .dead, _, _, _, _, _, hr => by simp [RV] at hr
  | .bad, t, x, cs, hp, _, _ => by cases t <;> simp [toPv] at hp
  | .pr _ _, .int _, x, _, hp, _, _ | .pr _ _, .bool, x, _, hp, _, _ | .pr _ _, .str, x, _, hp, _, _ | .pr _ _, .slice _, x, _, hp, _, _ | .pr _ _, .arr _ _, x, _, hp, _, _ | .pr _ _, .unit, x, _, hp, _, _ | .pr _ _, .ref _, x, _, hp, _, _ | .pr _ _, .opt _, x, _, hp, _, _ => by simp [toPv] at hp
  | .nilsl, .int _, x, _, hp, _, _ | .nilsl, .bool, x, _, hp, _, _ | .nilsl, .str, x, _, hp, _, _ | .nilsl, .pair _ _, x, _, hp, _, _ | .nilsl, .arr _ _, x, _, hp, _, _ | .nilsl, .unit, x, _, hp, _, _ | .nilsl, .ref _, x, _, hp, _, _ | .nilsl, .opt _, x, _, hp, _, _ => by simp [toPv] at hp
  | .clp .., .int _, x, _, hp, _, _ | .clp .., .bool, x, _, hp, _, _ | .clp .., .str, x, _, hp, _, _ | .clp .., .pair _ _, x, _, hp, _, _ | .clp .., .arr _ _, x, _, hp, _, _ | .clp .., .unit, x, _, hp, _, _ | .clp .., .ref _, x, _, hp, _, _ | .clp .., .opt _, x, _, hp, _, _ => by simp [toPv] at hp

theorem toPv_val' (hh : HRel w X θ base h) (hX : ∀ b, X' b → X b) {tv : TV} {t : Ty} {x : t.den} {v : Value} (hp : toPv h tv t = some x) (hi : ∀ i ∈ tv.ids, ∀ b, baseAt θ i = some b → ¬ X' b) (hv : RVal w X θ tv v) : ∃ cs, boxed t.isAgg v cs ∧ Rep w X' t cs x := by
  have hagg : tv.isAgg = t.isAgg ∧ (∀ c, tv ≠ .tup c) ∧ tv ≠ .dead ∧ tv ≠ .und := by
    cases tv with
    | pv s y =>
      simp only [toPv] at hp
      split at hp
      · rename_i e; subst e; exact ⟨rfl, by simp, by simp, by simp⟩
      · cases hp
    | _ => cases t <;> simp_all [toPv, TV.isAgg, Ty.isAgg]
  obtain ⟨h1, h2, h3, h4⟩ := hagg
  obtain ⟨cs, g1, g2⟩ := rval_one h2 h3 h4 hv
  exact ⟨cs, by rw [← h1]; exact g1, toPv_sound hh hX tv t x cs hp hi g2⟩

theorem argsPv_sound (hh : HRel w X θ base h) (hX : ∀ b, X' b → X b) : ∀ (l : List TV) (vs : List Value) (t : Ty) (x : t.den), argsPv h l t = some x → (∀ i ∈ idsOf l, ∀ b, baseAt θ i = some b → ¬ X' b) → vs.length = l.length → (∀ (i : Nat) tv, l[i]? = some tv → ∃ v, vs[i]? = some v ∧ RVal w X θ tv v) → ArgsRep w X' t vs x
  | [], vs, t, x, hp, _, hl, _ => by
    cases t <;> simp only [argsPv] at hp <;> first | (cases hp; done) | skip
    exact List.eq_nil_of_length_eq_zero hl
  | tv :: l, vs, t, x, hp, hi, hl, hr => by
    cases t <;> simp only [argsPv] at hp <;> first | (cases hp; done) | skip
    rename_i ta tb
    split at hp
    · rename_i y z hy hz
      injection hp with hp; subst hp
      cases vs with
      | nil => simp at hl
      | cons v vs =>
        obtain ⟨v', e1, e2⟩ := hr 0 tv rfl
        simp only [List.getElem?_cons_zero, Option.some.injEq] at e1; subst e1
        obtain ⟨cs, g1, g2⟩ := toPv_val' hh hX hy (fun i q => hi i (by simp [idsOf, q])) e2
        exact ⟨v, vs, cs, rfl, g1, g2, argsPv_sound hh hX l vs tb z hz (fun i q => hi i (by simp [idsOf, q])) (by simpa using hl) (fun i u hu => hr (i + 1) u hu)⟩
    · cases hp

end Go.Ai

/- Calls: by a contract, or in place. -/
namespace Go.Ai
open Go.RowKit
set_option linter.unusedVariables false
set_option linter.unusedSimpArgs false

variable {P : Program} {cx : Cx} {w0 : World} {Xo : Nat → Prop} {σ : St} {θ : Nat → Option Own} {as : List (Array Value)} {a : Act} {w : World} {X X' : Nat → Prop} {R : Type} {r : R} {base : Nat}

/-- A result that is plain: its slices' blocks are nobody's. -/
theorem rv_resPv {H : Heap} {Y : Nat → Prop} (hH : HRel w X θ base H) (hY : ∀ b, Y b → X b) (hb : ∀ b, Y b → b < base) {θ' : Nat → Option Own} : (tv : TV) → (cs : List Value) → RV w X θ false tv cs → resPv H tv ≠ .dead → RV w Y θ' false (resPv H tv) cs ∧ (resPv H tv).isAgg = tv.isAgg ∧ (∀ c, resPv H tv ≠ .tup c) ∧ resPv H tv ≠ .und
  | .pv t x, cs, hr, _ => ⟨Rep.avoid (fun b _ h => hY b h) t cs x hr, rfl, by simp [resPv], by simp [resPv]⟩
  | .pr a b, cs, ⟨c1, c2, h0, h1, h2⟩, hd => by
    have ha : resPv H a ≠ .dead := fun e => hd (by simp [resPv, e])
    have hb' : resPv H b ≠ .dead := fun e => hd (by simp only [resPv, e]; try (split <;> rfl))
    have e : resPv H (.pr a b) = .pr (resPv H a) (resPv H b) := by
      simp only [resPv]
      try (split <;> first | exact absurd (by assumption) ha | exact absurd (by assumption) hb' | rfl)
    rw [e]
    exact ⟨⟨c1, c2, h0, (rv_resPv hH hY hb a c1 h1 ha).1, (rv_resPv hH hY hb b c2 h2 hb').1⟩, rfl, by simp, by simp⟩
  | .sl i e, cs, ⟨v, h1, h2, h3⟩, hd => by
    simp only [resPv] at hd ⊢
    split at hd
    · rename_i E s xs hg
      split at hd
      · rename_i q; subst q
        obtain ⟨v', ds, g1, g2, g3⟩ := hH.blk i _ hg
        rw [g1] at h1; injection h1 with h1; injection h1 with h1; subst h1
        subst h2
        simp only [hg, if_true]
        refine ⟨?_, rfl, by simp, by simp⟩
        have g3' := chunks_mono (fun c x hx => Rep.avoid (Y := Y) (fun b _ hb => hY b hb) s c x hx) g3
        rcases g2.2 with ⟨k1, k2⟩ | ⟨g, cap, cur, k1, k2, k3, k4, k5, k6, k7⟩
        · subst k1
          have hn : xs = [] := List.eq_nil_of_length_eq_zero k2
          subst hn
          exact ⟨none, 0, 0, [], rfl, rfl, Nat.le_refl _, Nat.zero_le _, rfl, .inl rfl⟩
        · subst k1
          refine ⟨_, _, cap, ds, rfl, rfl, k4, k5, g3', .inr ⟨g, 0, rfl, ?_, fun hy => absurd (hb g hy) (by omega)⟩⟩
          intro j u hu
          have := World.ownsRow.cells g2 (g := g) rfl j u hu
          simpa [Addr.add_mid] using this
      · exact absurd rfl hd
    · exact absurd rfl hd
  | .nilsl, cs, hr, _ => ⟨hr, rfl, by simp [resPv], by simp [resPv]⟩
  | .ptr .., _, _, hd => absurd rfl hd
  | .clp .., _, _, hd => absurd rfl hd
  | .vw .., _, _, hd => absurd rfl hd
  | .fn .., _, _, hd => absurd rfl hd
  | .tup _, _, _, hd => absurd rfl hd
  | .bad, _, _, hd => absurd rfl hd
  | .und, _, _, hd => absurd rfl hd
  | .dead, _, _, hd => absurd rfl hd

theorem rv_resCh {H : Heap} {Y : Nat → Prop} (hH : HRel w X θ base H) (hY : ∀ b, Y b → X b) (hb : ∀ b, Y b → b < base) {θ' : Nat → Option Own} : (tv : TV) → (vs : List Value) → RV w X θ true tv vs → RV w Y θ' true (resCh H tv) vs
  | .pr a b, vs, hr => by
    have hh : ∃ v r, vs = v :: r ∧ RVal w X θ a v ∧ RV w X θ true b r ∧ ∀ c, a ≠ .tup c := by
      cases a with
      | tup c => simp only [RV] at hr; obtain ⟨v, r, h0, ⟨cs, h1, h2⟩, h3⟩ := hr; exact h2.elim
      | dead => simp only [RV] at hr; obtain ⟨v, r, h0, h1, h3⟩ := hr; exact ⟨v, r, h0, trivial, h3, by simp⟩
      | und => simp only [RV] at hr; obtain ⟨v, r, h0, h1, h3⟩ := hr; exact ⟨v, r, h0, h1, h3, by simp⟩
      | _ => simp only [RV] at hr; obtain ⟨v, r, h0, ⟨cs, h1, h2⟩, h3⟩ := hr; exact ⟨v, r, h0, ⟨cs, h1, h2⟩, h3, by simp⟩
    obtain ⟨v, r, h0, h1, h2, h3⟩ := hh
    have k := rv_resCh hH hY hb (θ' := θ') b r h2
    simp only [resCh]
    subst h0
    by_cases hd : resPv H a = .dead
    · rw [hd]; exact ⟨v, r, rfl, trivial, k⟩
    · have hda : a ≠ .dead := fun e => hd (by rw [e]; rfl)
      have hua : a ≠ .und := fun e => hd (by rw [e]; rfl)
      obtain ⟨cs, g1, g2⟩ := rval_one h3 hda hua h1
      obtain ⟨m1, m2, m3, m4⟩ := rv_resPv hH hY hb (θ' := θ') a cs g2 hd
      exact rv_chain_cons (mk_rval (by rw [m2]; exact g1) m1) m3 k
  | .pv .unit x, _, h => h
  | .pv (.int _) _, _, h | .pv .bool _, _, h | .pv .str _, _, h | .pv (.slice _) _, _, h | .pv (.arr _ _) _, _, h | .pv (.pair _ _) _, _, h | .pv (.ref _) _, _, h | .pv (.opt _) _, _, h => by simp [RV] at h
  | .ptr .., _, h | .sl .., _, h | .vw .., _, h | .clp .., _, h | .nilsl, _, h | .fn .., _, h | .tup _, _, h | .bad, _, h | .und, _, h | .dead, _, h => by simp [RV] at h

theorem rval_resTop {H : Heap} {Y : Nat → Prop} (hH : HRel w X θ base H) (hY : ∀ b, Y b → X b) (hb : ∀ b, Y b → b < base) {θ' : Nat → Option Own} (tv : TV) (v : Value) (hr : RVal w X θ tv v) : RVal w Y θ' (resTop H tv) v := by
  by_cases ht : ∃ c, tv = .tup c
  · obtain ⟨c, rfl⟩ := ht
    obtain ⟨vs, k1, k2⟩ := hr
    exact ⟨vs, k1, rv_resCh hH hY hb c vs k2⟩
  · have e : resTop H tv = resPv H tv := by cases tv <;> first | rfl | exact absurd ⟨_, rfl⟩ ht
    rw [e]
    by_cases hd : resPv H tv = .dead
    · rw [hd]; trivial
    · have hda : tv ≠ .dead := fun e => hd (by rw [e]; rfl)
      have hua : tv ≠ .und := fun e => hd (by rw [e]; rfl)
      obtain ⟨cs, g1, g2⟩ := rval_one (fun c e => ht ⟨c, e⟩) hda hua hr
      obtain ⟨m1, m2, m3, m4⟩ := rv_resPv hH hY hb (θ' := θ') tv cs g2 hd
      exact mk_rval (by rw [m2]; exact g1) m1

theorem hrel_noalias {H : Heap} (hn : (H.any fun q => q.2.alias) = false) (h : HRel w X θ base H) : HRel w X' θ base H := by
  refine ⟨fun i b hb => ?_, h.inj⟩
  have : b.alias = false := by
    have hm : ∀ (H : Heap) (i : Nat) (b : Blk), hget H i = some b → (H.any fun q => q.2.alias) = false → b.alias = false := by
      intro H
      induction H with
      | nil => intro i b h; simp [hget] at h
      | cons q H ih =>
        obtain ⟨j, c⟩ := q
        intro i b hb hn
        simp only [List.any_cons, Bool.or_eq_false_iff] at hn
        simp only [hget] at hb
        by_cases e : j = i
        · simp only [beq_iff.2 e, cond, Option.some.injEq] at hb; subst hb; exact hn.1
        · simp only [beq_false e, cond] at hb; exact ih i b hb hn.2
    exact hm H i b hb hn
  exact blk_noalias this (h.blk i b hb)

theorem con_sound {f : FuncId} {c : Con} (hc : ConOk P f c) {draw : Bool} {id : Nat} {args : List TV} {vs : Array Value} {K : TV → St → Option R} (h : Rel w0 Xo σ θ as a w) (hv : EnvRel w (owned Xo θ σ.heap) θ args vs)
    (hp : conK c draw σ id args K = some r) : Does P f vs w fun v w' => ∃ tv σ' θ', K tv σ' = some r ∧ Rel w0 Xo σ' θ' as a w' ∧ RVal w' (owned Xo θ' σ'.heap) θ' tv v := by
  unfold conK at hp
  split at hp
  · cases hp
  · rename_i xs hxs
    obtain ⟨y, hpre, hp⟩ := bindO_some hp
    let Y : Nat → Prop := fun b => owned Xo θ σ.heap b ∧ ¬ ∃ i ∈ idsOf args, baseAt θ i = some b
    have hYX : ∀ b, Y b → owned Xo θ σ.heap b := fun b h => h.1
    have hYlt : ∀ b, Y b → b < w.heap.size := fun b hb => owned_lt h hb.1
    have hargs : ArgsRep w Y c.ps vs.toList xs := argsPv_sound h.heap hYX args vs.toList c.ps xs hxs (fun i hi b hb hy => hy.2 ⟨i, hi, hb⟩) (by simpa using hv.1) (fun i tv hi => by
      obtain ⟨v, k1, k2⟩ := hv.2 i tv hi
      exact ⟨v, by simpa using k1, k2⟩)
    refine (hc w Y vs xs y hYlt hargs hpre).mono fun v w' ⟨hk, θH, hH, hr⟩ => ?_
    -- where nothing is lent, or nothing aliases, what is to be avoided is all that is owned
    have all : ∀ H t, (((idsOf args).isEmpty || !(TV.alias t || H.any fun q => q.2.alias)) = true) → HRel w' (owned Y θH H) θH w.heap.size H → RVal w' (owned Y θH H) θH t v → HRel w' (owned (owned Xo θ σ.heap) θH H) θH w.heap.size H ∧ RVal w' (owned (owned Xo θ σ.heap) θH H) θH t v := by
      intro H t hcond h1 h2
      simp only [Bool.or_eq_true, List.isEmpty_iff, Bool.not_eq_true', Bool.or_eq_false_iff] at hcond
      rcases hcond with hcond | ⟨n1, n2⟩
      · have hst : Step (owned Y θH H) (owned (owned Xo θ σ.heap) θH H) w' w' := ⟨⟨fun _ => False, Keeps.refl _ w', fun _ _ h => h.elim⟩, fun b _ hb => by
          rcases hb with hb | hb
          · exact .inl ⟨hb, by rw [hcond]; simp⟩
          · exact .inr hb⟩
        refine ⟨⟨fun i b hb => ?_, h1.inj⟩, RVal.step hst t v (fun _ _ => rfl) h2⟩
        have := (h1.blk i b hb).go hst (θ' := θH) rfl (fun _ _ => rfl) (fun c => c) (fun c cs hc => RV.step hst false c cs (fun _ _ => rfl) hc) (fun c t h => h)
        cases b <;> exact this
      · exact ⟨hrel_noalias n2 h1, rval_noalias n1 h2⟩
    generalize mkTV c.sh y = t at hp hH hr
    generalize mkH c.sh y = H at hp hH hr
    cases draw with
    | true =>
      simp only at hp
      obtain ⟨hcond, hp⟩ := cond_some hp
      have hcond' : ((idsOf args).isEmpty || !(TV.alias t || H.any fun q => q.2.alias)) = true := by
        simp only [Bool.or_eq_true, Bool.not_eq_true', Bool.or_eq_false_iff] at hcond ⊢
        rcases hcond with hcond | ⟨n1, n2⟩
        · exact .inl hcond
        · refine .inr ⟨n1, ?_⟩
          rw [List.any_eq_false] at n2 ⊢
          intro q hq hal
          exact n2 q hq (by simp [hal])
      obtain ⟨k1, k2⟩ := all H t hcond' hH hr
      have h' := h.below hk
      exact ⟨_, _, θ, hp, h', rval_resTop k1 (fun b hb => .inl hb) (fun b hb => owned_lt h hb) t v k2⟩
    | false =>
      simp only at hp
      cases hcond : ((idsOf args).isEmpty || !(TV.alias t || H.any fun q => q.2.alias)) with
      | true =>
        rw [hcond] at hp
        obtain ⟨k1, k2⟩ := all H t hcond hH hr
        obtain ⟨θ', m1, m2⟩ := addAll_rel h (d := id) (fun b hb => hb) hk k1 k2
        exact ⟨_, _, θ', hp, m1, m2⟩
      | false =>
        rw [hcond] at hp
        simp only [cond] at hp
        split at hp
        · rename_i τ hτ
          obtain ⟨f1, f2, f3⟩ := Rel.fixAll _ _ _ h hτ
          have hX : ∀ b, owned Xo θ τ.heap b → Y b := by
            intro b hb
            have hb' : owned Xo θ σ.heap b := by
              rcases hb with hb | ⟨k, k1, k2⟩
              · exact .inl hb
              · exact .inr ⟨k, (f2 k k1).2, k2⟩
            refine ⟨hb', fun ⟨i, hi, hbi⟩ => ?_⟩
            have hsi := f3 i hi
            obtain ⟨bi, hgi⟩ := Option.isSome_iff_exists.1 hsi
            rcases hb with hb | ⟨k, k1, k2⟩
            · have q1 := h.xo b hb
              have q2 := ((h.heap.blk i bi hgi).lt b hbi).1
              omega
            · have hki : k ≠ i := fun e => (f2 k k1).1 (e ▸ hi)
              exact h.heap.inj k i hki (f2 k k1).2 hsi b k2 hbi
          obtain ⟨θ', m1, m2⟩ := addAll_rel f1 (d := id) hX hk hH hr
          exact ⟨_, _, θ', hp, m1, m2⟩
        · cases hp

end Go.Ai

/- In a region that draws its order, an operation looks at its operands and at the memory alone. -/
namespace Go.Ai
open Go.RowKit
set_option linter.unusedVariables false
set_option linter.unusedSimpArgs false

variable {cx : Cx} {R : Type} {h : Heap} {ρ ρ' : Operand → TV}

theorem bind_cond {α β : Type} (c : Bool) (a b : Option α) (K : α → Option β) : (cond c a b).bind K = cond c (a.bind K) (b.bind K) := by cases c <;> rfl

theorem loadK_bind (t : Ty) (a : TV) (K : TV → Option R) : loadK h t a K = (loadK h t a some).bind K := by
  unfold loadK
  repeat' split
  all_goals first | rfl | (simp only [bind_cond, Option.bind_some, Option.bind_none]; done) | (simp only [bind_cond, Option.bind_none]; congr 1; repeat' split; all_goals first | rfl | simp)

theorem binK_bind (xt : Option Ty) (op : BinOp) (a b : TV) (K : TV → Option R) : binK xt op a b K = (binK xt op a b some).bind K := by
  unfold binK
  repeat' split
  all_goals first | rfl | (simp only [bind_cond, Option.bind_some, Option.bind_none]; done) | (simp only [bind_cond, Option.bind_none]; congr 1; repeat' split; all_goals first | rfl | (simp only [bind_cond, Option.bind_some, Option.bind_none]; done))

theorem unK_bind (op : UnOp) (a : TV) (K : TV → Option R) : unK op a K = (unK op a some).bind K := by
  unfold unK
  repeat' split
  all_goals rfl

theorem numK_bind {α β : Type} (v : TV) (F : Int → Option α) (K : α → Option β) : numK v (fun n => (F n).bind K) = (numK v F).bind K := by
  unfold numK
  repeat' split
  all_goals rfl

theorem idxK_bind {α β : Type} (i : Int) (n : Nat) (F : Nat → Option α) (K : α → Option β) : idxK i n (fun n => (F n).bind K) = (idxK i n F).bind K := by
  unfold idxK
  simp only [bind_cond, Option.bind_none]

theorem boundsK_bind {α β : Type} (n : Nat) (lo hi : Option TV) (F : Nat → Nat → Option α) (K : α → Option β) : sliceBoundsK n lo hi (fun l h => (F l h).bind K) = (sliceBoundsK n lo hi F).bind K := by
  unfold sliceBoundsK
  cases hi <;> cases lo <;> simp only [← numK_bind, bind_cond, Option.bind_none]

theorem lenK_bind (s : Ty) (v : TV) (K : Int → Option R) : lenK h s v K = (lenK h s v some).bind K := by
  unfold lenK
  repeat' split
  all_goals first | rfl | (simp only [bind_cond, Option.bind_some, Option.bind_none]; done)

theorem pureK_bind (op : Op) (hi : isPure op = true) (K : TV → Option R) : pureK cx h ρ op K = (pureK cx h ρ op some).bind K := by
  cases op with
  | move x => rfl
  | assign x => rfl
  | pick c a b => simp only [pureK]; split <;> simp only [bind_cond, Option.bind_some, Option.bind_none]
  | load t a => simp only [pureK]; split <;> first | exact loadK_bind _ _ _ | rfl
  | nilCheck x => simp only [pureK]; split <;> rfl
  | binOp op t x y u => exact binK_bind _ _ _ _ _
  | unOp op t x => exact unK_bind _ _ _
  | convert s d x =>
    simp only [pureK]
    split
    · rfl
    · rfl
    · split <;> rfl
    · rfl
  | slice T x lo hi mx =>
    simp only [pureK]
    split
    · rfl
    · split
      · split
        · simp only [bind_cond, ← boundsK_bind, Option.bind_some, Option.bind_none]
        · rfl
      · split
        · simp only [bind_cond, ← boundsK_bind, Option.bind_some, Option.bind_none]
        · rfl
      · simp only [bind_cond, ← boundsK_bind, Option.bind_some, Option.bind_none]
      · simp only [bind_cond, ← boundsK_bind, Option.bind_some, Option.bind_none]
      · simp only [bind_cond, ← boundsK_bind, Option.bind_some, Option.bind_none]
      · rfl
  | sliceToArrayPointer T x =>
    simp only [pureK]
    split
    · split
      · simp only [bind_cond, Option.bind_some, Option.bind_none]
      · rfl
    · rfl
  | fieldAddr T x f =>
    simp only [pureK]
    split
    · split
      · simp only [bind_cond, Option.bind_none]; congr 1; split <;> simp only [bind_cond, Option.bind_some, Option.bind_none]
      · rfl
    · simp only [bind_cond, Option.bind_none]; congr 1; split <;> simp only [bind_cond, Option.bind_some, Option.bind_none]
    · rfl
  | field T x f =>
    simp only [pureK]
    split
    · simp only [bind_cond, Option.bind_none]; congr 1; split <;> rfl
    · rfl
  | indexAddr T x ix =>
    simp only [pureK]
    rw [← numK_bind]
    congr 1
    funext i
    split
    · simp only [bind_cond, ← idxK_bind, Option.bind_some, Option.bind_none]
    · simp only [bind_cond, ← idxK_bind, Option.bind_some, Option.bind_none]
    · split
      · simp only [bind_cond, ← idxK_bind, Option.bind_some, Option.bind_none]
      · rfl
    · simp only [bind_cond, ← idxK_bind, Option.bind_some, Option.bind_none]
    · split
      · simp only [bind_cond, ← idxK_bind, Option.bind_some, Option.bind_none]
      · rfl
    · simp only [bind_cond, ← idxK_bind, Option.bind_some, Option.bind_none]
    · rfl
  | index T x ix =>
    simp only [pureK]
    rw [← numK_bind]
    congr 1
    funext i
    split
    · simp only [bind_cond, ← idxK_bind, Option.bind_some, Option.bind_none]
    · simp only [bind_cond, ← idxK_bind, Option.bind_some, Option.bind_none]
    · rfl
  | extract t ix => simp only [pureK]; split <;> first | rfl | simp only [bind_cond, Option.bind_some, Option.bind_none]
  | makeFunc f first cap =>
    cases f <;> simp only [pureK] <;> first | rfl | simp only [bind_cond, Option.bind_some, Option.bind_none]
  | build t parts =>
    simp only [pureK]
    split
    · simp only [bind_cond, Option.bind_none]; congr 1; split <;> rfl
    · rfl
  | call c =>
    obtain ⟨callee, args, argTypes⟩ := c
    cases callee with
    | builtin b => cases b with
      | len =>
        simp only [pureK]
        split
        · split
          · rw [lenK_bind]
            conv => rhs; rw [lenK_bind]
            rw [Option.bind_assoc]
            rfl
          · rfl
        · rfl
      | min =>
        simp only [pureK]
        split
        · split
          · simp only [bind_cond, Option.bind_some, Option.bind_none]
          · rfl
        · rfl
      | max =>
        simp only [pureK]
        split
        · split
          · simp only [bind_cond, Option.bind_some, Option.bind_none]
          · rfl
        · rfl
      | _ => simp [isPure] at hi
    | _ => simp [isPure] at hi
  | _ => simp [isPure] at hi

theorem mapArr_congr {α β : Type} {f g : α → β} {l : List α} (h : ∀ x ∈ l, f x = g x) : l.map f = l.map g := List.map_congr_left h

theorem pureK_congr (op : Op) (hi : isPure op = true) (K : TV → Option R) (hρ : ∀ x ∈ op.operands.toList, ρ x = ρ' x) : pureK cx h ρ op K = pureK cx h ρ' op K := by
  cases op with
  | build t parts =>
    have : parts.toList.map (fun q => (q.1, ρ q.2)) = parts.toList.map (fun q => (q.1, ρ' q.2)) := List.map_congr_left fun q hq => by rw [hρ q.2 (by simp only [Op.operands]; exact List.mem_map.2 ⟨q, hq, rfl⟩)]
    simp only [pureK, this]
  | makeFunc f first cap =>
    cases f with
    | func f =>
      have h1 : cap.toList.map ρ = cap.toList.map ρ' := List.map_congr_left fun q hq => hρ q (by simp only [Op.operands]; simp [Array.mem_toList_iff.1 hq])
      have h2 : (cap.toList.all fun x => !(ρ x).isTup) = cap.toList.all fun x => !(ρ' x).isTup := by
        rw [Bool.eq_iff_iff]
        simp only [List.all_eq_true]
        constructor
        · intro h x hx; rw [← hρ x (by simp only [Op.operands]; simp [Array.mem_toList_iff.1 hx])]; exact h x hx
        · intro h x hx; rw [hρ x (by simp only [Op.operands]; simp [Array.mem_toList_iff.1 hx])]; exact h x hx
      simp only [pureK, h1, h2]
    | _ => rfl
  | slice T x lo up mx =>
    have h1 : ρ x = ρ' x := hρ x (by simp [Op.operands])
    have h2 : opts ρ lo = opts ρ' lo := by cases lo with
      | none => rfl
      | some y => simp only [opts]; rw [hρ y (by simp [Op.operands])]
    have h3 : opts ρ up = opts ρ' up := by cases up with
      | none => rfl
      | some y => simp only [opts]; rw [hρ y (by simp [Op.operands])]
    cases mx <;> simp only [pureK, h1, h2, h3]
  | call c =>
    obtain ⟨callee, args, argTypes⟩ := c
    cases callee with
    | builtin b => cases b with
      | len =>
        simp only [pureK]
        split
        · rename_i x T ha ht
          rw [hρ x (by
            simp only [Op.operands, Call.operands]
            simp [ha])]
        · rfl
      | min =>
        simp only [pureK]
        split
        · rename_i x y ha
          rw [hρ x (by simp only [Op.operands, Call.operands]; simp [ha]), hρ y (by simp only [Op.operands, Call.operands]; simp [ha])]
        · rfl
      | max =>
        simp only [pureK]
        split
        · rename_i x y ha
          rw [hρ x (by simp only [Op.operands, Call.operands]; simp [ha]), hρ y (by simp only [Op.operands, Call.operands]; simp [ha])]
        · rfl
      | _ => simp [isPure] at hi
    | _ => simp [isPure] at hi
  | move x => simp only [pureK, hρ x (by simp [Op.operands])]
  | assign x => simp only [pureK, hρ x (by simp [Op.operands])]
  | pick c a b => simp only [pureK, hρ c (by simp [Op.operands]), hρ a (by simp [Op.operands]), hρ b (by simp [Op.operands])]
  | load t a => simp only [pureK, hρ a (by simp [Op.operands])]
  | sliceToArrayPointer t a => simp only [pureK, hρ a (by simp [Op.operands])]
  | nilCheck x => simp only [pureK, hρ x (by simp [Op.operands])]
  | binOp op t x y u => simp only [pureK, hρ x (by simp [Op.operands]), hρ y (by simp [Op.operands])]
  | unOp op t x => simp only [pureK, hρ x (by simp [Op.operands])]
  | convert s d x => simp only [pureK, hρ x (by simp [Op.operands])]
  | fieldAddr T x f => simp only [pureK, hρ x (by simp [Op.operands])]
  | field T x f => simp only [pureK, hρ x (by simp [Op.operands])]
  | indexAddr T x ix => simp only [pureK, hρ x (by simp [Op.operands]), hρ ix (by simp [Op.operands])]
  | index T x ix => simp only [pureK, hρ x (by simp [Op.operands]), hρ ix (by simp [Op.operands])]
  | extract t ix => simp only [pureK, hρ t (by simp [Op.operands])]
  | _ => simp [isPure] at hi

end Go.Ai

/- Regions that draw their order: whatever order is drawn does what the order of the text does. -/
namespace Go.Ai
open Go.RowKit
set_option linter.unusedVariables false
set_option linter.unusedSimpArgs false

variable {P : Program} {cx : Cx} {w0 : World} {Xo : Nat → Prop} {σ : St} {θ : Nat → Option Own} {as : List (Array Value)} {a : Act} {w : World} {X X' : Nat → Prop} {R : Type} {r : R} {base : Nat}

/-- What an operation does, as far as its operands and memory tell. -/
def LocO (cx : Cx) (R : Type) (n lev : Nat) (fn : FuncId) (σ : St) (o : Oper) (tv : TV) (h' : Heap) : Prop :=
  ∀ (τ : St) (K' : TV → St → Option R), τ.heap = σ.heap → (∀ x ∈ o.op.operands.toList, τ.eval x = σ.eval x) → opK cx (callK cx n) lev fn true τ o K' = K' tv { τ with heap := h' }

theorem opK_loc {n lev : Nat} {fn : FuncId} {o : Oper} {K : TV → St → Option R} (hp : opK cx (callK cx n) lev fn true σ o K = some r) :
    ∃ tv h', K tv { σ with heap := h' } = some r ∧ (isStore o.op = false → h' = σ.heap) ∧ LocO cx R n lev fn σ o tv h' := by
  unfold opK at hp
  split at hp
  · rename_i f args argTypes hop
    split at hp
    · rename_i g caps hf
      cases n with
      | zero => simp [callK] at hp
      | succ n =>
        simp only [callK] at hp
        split at hp
        · rename_i c hc
          unfold conK at hp
          split at hp
          · cases hp
          · rename_i xs hxs
            obtain ⟨y, hpre, hp⟩ := bindO_some hp
            simp only at hp
            obtain ⟨hcond, hp⟩ := cond_some hp
            refine ⟨resTop (mkH c.sh y) (mkTV c.sh y), σ.heap, hp, fun _ => rfl, fun τ K' hh hev => ?_⟩
            have hf' : τ.eval f = .fn g caps := by rw [hev f (by simp [hop, Op.operands, Call.operands]), hf]
            have ha' : args.toList.map τ.eval = args.toList.map σ.eval := List.map_congr_left fun x hx => hev x (by simp only [hop, Op.operands, Call.operands]; simp [Array.mem_toList_iff.1 hx])
            have hτ : ({ τ with heap := σ.heap } : St) = τ := by rw [← hh]
            unfold opK
            simp only [hop, hf', ha', callK, hc]
            unfold conK
            simp only [hh, hxs, hpre, bindO, cond, hcond, hτ]
        · simp at hp
    · cases hp
  · rename_i hno
    cases hi : isPure o.op with
    | true =>
      rw [hi] at hp
      simp only [cond] at hp
      rw [pureK_bind _ hi] at hp
      obtain ⟨tv, k1, k2⟩ := Option.bind_eq_some_iff.1 hp
      refine ⟨tv, σ.heap, k2, fun _ => rfl, fun τ K' hh hev => ?_⟩
      have hτ : ({ τ with heap := σ.heap } : St) = τ := by rw [← hh]
      unfold opK
      split
      · rename_i f args argTypes hop; exact absurd hop (hno f args argTypes)
      · simp only [hi, cond]
        rw [pureK_bind _ hi, hh, pureK_congr o.op hi some hev, k1, hτ]
        rfl
    | false =>
      rw [hi] at hp
      simp only [cond] at hp
      -- the operations that make or write
      have key : ∃ tv h', K tv { σ with heap := h' } = some r ∧ (isStore o.op = false → h' = σ.heap) ∧ ∀ (τ : St) (K' : TV → St → Option R), τ.heap = σ.heap → (∀ x ∈ o.op.operands.toList, τ.eval x = σ.eval x) → effK cx lev true τ o.dst o.op K' = K' tv { τ with heap := h' } := by
        generalize o.op = op at hp
        cases op with
        | store t x y =>
          simp only [effK] at hp
          split at hp
          · rename_i s hs
            split at hp
            · rename_i h1 hst
              refine ⟨.dead, h1, hp, fun hn => by simp [isStore] at hn, fun τ K' hh hev => ?_⟩
              simp only [effK, hs, hh, hev x (by simp [Op.operands]), hev y (by simp [Op.operands]), hst]
            · cases hp
          · cases hp
        | buildSlice t m parts =>
          simp only [effK] at hp
          split at hp
          · rename_i hemp
            simp only [buildS] at hp
            split at hp
            · rename_i e hT
              obtain ⟨h1, h2⟩ := cond_some hp
              split at h2
              · rename_i xs hx
                refine ⟨_, σ.heap, h2, fun _ => rfl, fun τ K' hh hev => ?_⟩
                have hτ : ({ τ with heap := σ.heap } : St) = τ := by rw [← hh]
                have hev' : ∀ q ∈ parts.toList, τ.eval q.2 = σ.eval q.2 := fun q hq => hev q.2 (by simp only [Op.operands]; exact List.mem_map.2 ⟨q, hq, rfl⟩)
                have e1 : parts.toList.map (fun q => τ.eval q.2) = parts.toList.map (fun q => σ.eval q.2) := List.map_congr_left hev'
                have e2 : parts.toList.map (fun q => (q.1, τ.eval q.2)) = parts.toList.map (fun q => (q.1, σ.eval q.2)) := List.map_congr_left fun q hq => by rw [hev' q hq]
                rw [hemp] at h1
                simp only [effK, buildS, hT, e1, hemp, e2, h1, cond, hh, hx, hτ]
              · cases h2
            · cases hp
          · simp at hp
        | call c =>
          obtain ⟨callee, args, argTypes⟩ := c
          cases callee with
          | builtin b => cases b <;> simp [effK] at hp
          | _ => simp [effK] at hp
        | _ => simp [effK] at hp
      obtain ⟨tv, h', k1, k2, k3⟩ := key
      refine ⟨tv, h', k1, k2, fun τ K' hh hev => ?_⟩
      unfold opK
      split
      · rename_i f args argTypes hop; exact absurd hop (hno f args argTypes)
      · simp only [hi, cond]
        exact k3 τ K' hh hev

/-- The same, behind a guard. -/
def LocG (cx : Cx) (R : Type) (n lev : Nat) (fn : FuncId) (ops : List Oper) (σ : St) (o : Oper) (tv : TV) (h' : Heap) : Prop :=
  ∀ (τ : St) (K' : St → Option R), τ.heap = σ.heap → (∀ t ∈ looks ops o, τ.env.getD t .dead = σ.env.getD t .dead) → opG cx (callK cx n) lev fn true ops τ o K' = K' (({ τ with heap := h' } : St).put o.dst tv)

theorem tmpsOf_mem : ∀ (l : List Operand) (t : Nat), .tmp t ∈ l → t ∈ tmpsOf l
  | [], t, h => by simp at h
  | x :: l, t, h => by
    rcases List.mem_cons.1 h with h | h
    · subst h; simp [tmpsOf]
    · have := tmpsOf_mem l t h
      cases x <;> simp [tmpsOf, this]

theorem eval_of_tmps {ops : List Oper} {o : Oper} {τ : St} (h : ∀ t ∈ looks ops o, τ.env.getD t .dead = σ.env.getD t .dead) : ∀ x ∈ o.op.operands.toList, τ.eval x = σ.eval x := by
  intro x hx
  cases x with
  | tmp t => exact h t (List.mem_append_left _ (tmpsOf_mem _ t hx))
  | _ => rfl

theorem opG_loc {n lev : Nat} {fn : FuncId} {ops : List Oper} {o : Oper} {K : St → Option R} (hp : opG cx (callK cx n) lev fn true ops σ o K = some r) :
    ∃ tv h', K (({ σ with heap := h' } : St).put o.dst tv) = some r ∧ (isStore o.op = false → h' = σ.heap) ∧ LocG cx R n lev fn ops σ o tv h' := by
  unfold opG at hp
  split at hp
  · rename_i hg
    obtain ⟨tv, h', k1, k2, k3⟩ := opK_loc hp
    refine ⟨tv, h', k1, k2, fun τ K' hh hev => ?_⟩
    unfold opG
    simp only [hg]
    exact k3 τ _ hh (eval_of_tmps hev)
  · rename_i j want hg
    split at hp
    · rename_i t hd
      have hmem : t ∈ looks ops o := by
        unfold looks
        refine List.mem_append_right _ ?_
        rw [hg]
        simp only [hd]
        simp
      have skip : ∀ {τ : St} (K' : St → Option R), τ.heap = σ.heap → K' (τ.put o.dst .und) = K' (({ τ with heap := σ.heap } : St).put o.dst .und) := fun {τ} K' hh => by rw [← hh]
      split at hp
      · rename_i b hb
        have e : σ.put (some t) (.pv .bool b) = σ := St.put_same hb (by simp)
        have run : b = want → opK cx (callK cx n) lev fn true σ o (fun v τ => K (τ.put o.dst v)) = some r → ∃ tv h', K (({ σ with heap := h' } : St).put o.dst tv) = some r ∧ (isStore o.op = false → h' = σ.heap) ∧ LocG cx R n lev fn ops σ o tv h' := by
          intro hbw hrun
          obtain ⟨tv, h', k1, k2, k3⟩ := opK_loc hrun
          refine ⟨tv, h', k1, k2, fun τ K' hh hev => ?_⟩
          have hb' : τ.env.getD t .dead = .pv .bool b := by rw [hev t hmem]; exact hb
          have e' : τ.put (some t) (.pv .bool b) = τ := St.put_same hb' (by simp)
          unfold opG
          simp only [hg, hd, hb']
          subst hbw
          cases b <;> simp only [cond] <;> rw [e'] <;> exact k3 τ _ hh (eval_of_tmps hev)
        have pass : b ≠ want → K (σ.put o.dst .und) = some r → ∃ tv h', K (({ σ with heap := h' } : St).put o.dst tv) = some r ∧ (isStore o.op = false → h' = σ.heap) ∧ LocG cx R n lev fn ops σ o tv h' := by
          intro hbw hk
          refine ⟨.und, σ.heap, hk, fun _ => rfl, fun τ K' hh hev => ?_⟩
          have hb' : τ.env.getD t .dead = .pv .bool b := by rw [hev t hmem]; exact hb
          have e' : τ.put (some t) (.pv .bool b) = τ := St.put_same hb' (by simp)
          unfold opG
          simp only [hg, hd, hb']
          rw [← skip K' hh]
          cases b <;> cases want <;> first | exact absurd rfl hbw | (simp only [cond]; rw [e'])
        cases b <;> cases want <;> simp only [cond] at hp <;> rw [e] at hp <;> first
          | exact run rfl hp
          | exact pass (by simp) hp
      · rename_i hb
        refine ⟨.und, σ.heap, hp, fun _ => rfl, fun τ K' hh hev => ?_⟩
        have hb' : τ.env.getD t .dead = .und := by rw [hev t hmem]; exact hb
        unfold opG
        simp only [hg, hd, hb']
        exact skip K' hh
      · cases hp
    · cases hp

end Go.Ai

/- Whatever order a region draws. -/
namespace Go.Ai
open Go.RowKit
set_option linter.unusedVariables false
set_option linter.unusedSimpArgs false

variable {P : Program} {cx : Cx} {w0 : World} {Xo : Nat → Prop} {σ : St} {θ : Nat → Option Own} {as : List (Array Value)} {a : Act} {w : World} {X X' : Nat → Prop} {R : Type} {r : R} {base : Nat}
variable {ops : Array Oper} {n lev : Nat} {fn : FuncId}

/-- Operation i comes up. -/
def absOp (cx : Cx) (R : Type) (n lev : Nat) (fn : FuncId) (ops : Array Oper) (i : Nat) (K : St → Prop) (σ : St) : Prop :=
  ∃ o tv h', ops[i]? = some o ∧ (isStore o.op = false → h' = σ.heap) ∧ LocG cx R n lev fn ops.toList σ o tv h' ∧ K (({ σ with heap := h' } : St).put o.dst tv)

/-- All of the head have come up. -/
def headDone (m : Nat) (listed : Array Bool) : Prop := ∀ j, j < m → listed.getD j true = true

def absAny (cx : Cx) (R : Type) (n lev : Nat) (fn : FuncId) (ops : Array Oper) (m : Nat) (Q : St → Prop) : Nat → Array Bool → St → Prop
  | 0, listed, σ => headDone m listed ∧ Q σ
  | f + 1, listed, σ => (headDone m listed → Q σ) ∧ (¬ headDone m listed → ∀ i ∈ Region.ready .any ops listed, absOp cx R n lev fn ops i (absAny cx R n lev fn ops m Q f (listed.setIfInBounds i true)) σ)

theorem offB_spec {d : Option Tmp} {l : List Nat} (h : offB d l = true) : ∀ t, d = some t → t ∉ l := by
  intro t ht hm
  subst ht
  simp only [offB, Bool.not_eq_true', List.any_eq_false] at h
  exact h t hm (Nat.beq_refl t)

theorem apartB_spec {l : List Oper} {x y : Oper} (h : apartB l x y = true) : (∀ t, x.dst = some t → t ∉ looks l y) ∧ (∀ t, y.dst = some t → t ∉ looks l x) ∧ (∀ s t, x.dst = some s → y.dst = some t → s ≠ t) := by
  simp only [apartB, Bool.and_eq_true] at h
  obtain ⟨⟨h1, h2⟩, h3⟩ := h
  refine ⟨offB_spec h1, offB_spec h2, fun s t hs ht e => ?_⟩
  rw [hs, ht] at h3
  simp only [Bool.not_eq_true'] at h3
  subst e
  rw [Nat.beq_refl] at h3
  cases h3

theorem put_getD {σ : St} {d : Option Tmp} {tv : TV} {t : Nat} (h : ∀ s, d = some s → s ≠ t) : (σ.put d tv).env.getD t .dead = σ.env.getD t .dead := by
  cases d with
  | none => rfl
  | some s => simp [St.put, List.getElem?_set_ne (h s rfl)]
theorem put_heap (σ : St) (d : Option Tmp) (tv : TV) : (σ.put d tv).heap = σ.heap := by cases d <;> rfl
theorem put_comm (σ : St) {d e : Option Tmp} (tv tw : TV) (h : ∀ s t, d = some s → e = some t → s ≠ t) : (σ.put d tv).put e tw = (σ.put e tw).put d tv := by
  cases d with
  | none => rfl
  | some s => cases e with
    | none => rfl
    | some t => simp only [St.put]; congr 1; rw [List.set_comm]; exact h s t rfl rfl

theorem LocG.move {o : Oper} {tv : TV} {h' : Heap} {σ' : St} (h : LocG cx R n lev fn ops.toList σ o tv h') (hh : σ'.heap = σ.heap) (he : ∀ t ∈ looks ops.toList o, σ'.env.getD t .dead = σ.env.getD t .dead) : LocG cx R n lev fn ops.toList σ' o tv h' :=
  fun τ K' k1 k2 => h τ K' (k1.trans hh) (fun t ht => (k2 t ht).trans (he t ht))

/-- An operation of the head that may come up now may be taken first. -/
theorem abs_first {m : Nat} {i : Nat} {oi : Oper} {tv : TV} {Q : St → Prop} (hi : ops[i]? = some oi) (him : i < m)
    (hhead : ∀ j oj, ops[j]? = some oj → j < m → isStore oj.op = false)
    (hwait : m < ops.size → Region.sinkB .any ops m = true ∧ Region.chainB .any ops m = true) (hm : m ≤ ops.size) :
    ∀ (f : Nat) (listed : Array Bool) (σ : St), HeadInv .any ops m listed →
      (∀ j oj, ops[j]? = some oj → j ≠ i → listed.getD j true = false → (∀ e ∈ oj.after, Region.binds .any e = true → e.on ≠ i) → apartB ops.toList oi oj = true) →
      i ∈ Region.ready .any ops listed → LocG cx R n lev fn ops.toList σ oi tv σ.heap →
      absAny cx R n lev fn ops m Q f (listed.setIfInBounds i true) (σ.put oi.dst tv) → absAny cx R n lev fn ops m Q (f + 1) listed σ := by
  have mine : ∀ {σ : St} {K : St → Prop}, LocG cx R n lev fn ops.toList σ oi tv σ.heap → K (σ.put oi.dst tv) → absOp cx R n lev fn ops i K σ := fun {σ K} hl hk => ⟨oi, tv, σ.heap, hi, fun _ => rfl, hl, hk⟩
  intro f
  induction f with
  | zero =>
    intro listed σ inv hfree hr hl H
    have hun := (mem_ready.1 hr).1
    refine ⟨fun h => (by rw [h i him] at hun; cases hun), fun _ j hj => ?_⟩
    by_cases hji : j = i
    · subst hji; exact mine hl H
    · exfalso
      have hjun := (mem_ready.1 hj).1
      have hjm : j < m := by
        rcases Nat.lt_or_ge j m with h | h
        · exact h
        · obtain ⟨_, oj, hoj, _⟩ := mem_ready.1 hj
          have hjs : j < ops.size := (Array.getElem?_eq_some_iff.1 hoj).1
          have hms : m < ops.size := by omega
          exact absurd hj (tail_waits (hwait hms).1 (hwait hms).2 hms inv _ i rfl him hun j h)
      have h1 := H.1 j hjm
      rw [getD_set_ne true (Ne.symm hji)] at h1
      rw [h1] at hjun; cases hjun
  | succ f ih =>
    intro listed σ inv hfree hr hl H
    have hun := (mem_ready.1 hr).1
    refine ⟨fun h => (by rw [h i him] at hun; cases hun), fun _ j hj => ?_⟩
    by_cases hji : j = i
    · subst hji; exact mine hl H
    · have hjm : j < m := by
        rcases Nat.lt_or_ge j m with h | h
        · exact h
        · obtain ⟨_, oj, hoj, _⟩ := mem_ready.1 hj
          have hjs : j < ops.size := (Array.getElem?_eq_some_iff.1 hoj).1
          have hms : m < ops.size := by omega
          exact absurd hj (tail_waits (hwait hms).1 (hwait hms).2 hms inv _ i rfl him hun j h)
      have hnd : ¬ headDone m (listed.setIfInBounds i true) := fun h => by
        have h1 := h j hjm
        rw [getD_set_ne true (Ne.symm hji)] at h1
        have hjun := (mem_ready.1 hj).1
        rw [h1] at hjun; cases hjun
      obtain ⟨oj, tw, h', k1, k2, k3, k4⟩ := H.2 hnd j (ready_mono hj hji)
      obtain ⟨hjun, oj', hoj, hall⟩ := mem_ready.1 hj
      have : oj' = oj := Option.some.inj (hoj.symm.trans k1)
      subst this
      have hns := hhead j oj' k1 hjm
      have hh' : h' = σ.heap := (k2 hns).trans (put_heap _ _ _)
      subst hh'
      have hnot : ∀ e ∈ oj'.after, Region.binds .any e = true → e.on ≠ i := fun e he hb heq => by
        have h1 := hall e he hb
        rw [heq, getD_both hun] at h1
        cases h1
      obtain ⟨ap1, ap2, ap3⟩ := apartB_spec (hfree j oj' hoj hji hjun hnot)
      have hfree' : ∀ k ok, ops[k]? = some ok → k ≠ i → (listed.setIfInBounds j true).getD k true = false →
          (∀ e ∈ ok.after, Region.binds .any e = true → e.on ≠ i) → apartB ops.toList oi ok = true := fun k ok hk hki hunk hno => by
        refine hfree k ok hk hki ?_ hno
        by_cases hjk : j = k
        · subst hjk; exact hjun
        · rw [getD_set_ne true hjk] at hunk; exact hunk
      have heap1 : ({ σ.put oi.dst tv with heap := σ.heap } : St) = σ.put oi.dst tv := by cases oi.dst <;> rfl
      rw [heap1] at k4
      refine ⟨oj', tw, σ.heap, k1, fun _ => rfl, k3.move (put_heap _ _ _).symm (fun t ht => (put_getD fun s hs e => ap1 s hs (e ▸ ht)).symm), ?_⟩
      refine ih (listed.setIfInBounds j true) (σ.put oj'.dst tw) (inv.set hj hjm) hfree' (ready_mono hr (Ne.symm hji)) ?_ ?_
      · rw [put_heap]
        exact hl.move (put_heap _ _ _) (fun t ht => put_getD fun s hs e => ap2 s hs (e ▸ ht))
      · rw [Array.setIfInBounds_comm _ _ hji, put_comm σ tw tv (fun s t hs ht e => ap3 t s ht hs e.symm)]
        exact k4

/-- The first k have come up. -/
structure Upto (ops : Array Oper) (listed : Array Bool) (k : Nat) : Prop where
  size : listed.size = ops.size
  is : ∀ j, j < k → j < ops.size → listed.getD j false = true
  isnt : ∀ j, k ≤ j → j < ops.size → listed.getD j true = false

theorem Upto.set {listed : Array Bool} {k : Nat} (h : Upto ops listed k) (hk : k < ops.size) : Upto ops (listed.setIfInBounds k true) (k + 1) := by
  refine ⟨by simp [h.size], fun j hj hs => ?_, fun j hj hs => by rw [getD_set_ne true (by omega)]; exact h.isnt j (by omega) hs⟩
  by_cases e : k = j
  · subst e; simp [h.size, hk]
  · exact getD_set_true (h.is j (by omega) hs)

theorem edges_spec {o : Oper} {k : Nat} (h : (o.after.toList.all fun e => !Region.binds .any e || Nat.blt e.on k) = true) : ∀ e ∈ o.after, Region.binds .any e = true → e.on < k := by
  intro e he hb
  have := List.all_eq_true.1 h e (Array.mem_toList_iff.2 he)
  simpa [hb, Nat.blt_eq] using this

theorem waitsB_spec {o : Oper} {i : Nat} (h : waitsB o i = true) : ∃ e ∈ o.after, Region.binds .any e = true ∧ e.on = i := by
  unfold waitsB at h
  obtain ⟨e, he, hb⟩ := List.any_eq_true.1 h
  simp only [Bool.and_eq_true] at hb
  exact ⟨e, Array.mem_toList_iff.1 he, hb.1, beq_iff.1 hb.2⟩

theorem waitsFor_of {j i : Nat} {o : Oper} (ho : ops[j]? = some o) (h : waitsB o i = true) : Region.waitsFor .any ops j i = true := by
  obtain ⟨e, he, hb, hon⟩ := waitsB_spec h
  unfold Region.waitsFor
  simp only [ho]
  exact Array.any_eq_true'.2 ⟨e, he, by simp [hb, hon]⟩

theorem Upto.ready {listed : Array Bool} {k : Nat} {o : Oper} (h : Upto ops listed k) (ho : ops[k]? = some o) (he : ∀ e ∈ o.after, Region.binds .any e = true → e.on < k) : k ∈ Region.ready .any ops listed := by
  have hk : k < ops.size := (Array.getElem?_eq_some_iff.1 ho).1
  exact mem_ready.2 ⟨h.isnt k (Nat.le_refl _) hk, o, ho, fun e hm hb => h.is e.on (he e hm hb) (by have := he e hm hb; omega)⟩

/-- The tail comes in the order of the text. -/
theorem wpAny_tail (hT : TabOk P cx) {call : CallK R} (hcall : CallOk P w0 Xo call) {Q' : Exit → Act → World → Prop} {K : St → Option R} (hQ : ∀ σ θ a w, K σ = some r → Rel w0 Xo σ θ as a w → Q' .normal a w) :
    ∀ (l : List Oper) (k g : Nat) (listed : Array Bool) (σ : St) (θ : Nat → Option Own) (a : Act) (w : World), (∀ j, l[j]? = ops[k + j]?) → l.length ≤ g → Upto ops listed k →
    (∀ (j : Nat) oj, l[j]? = some oj → (∀ e ∈ oj.after, Region.binds .any e = true → e.on < k + j) ∧ (0 < j → waitsB oj (k + j - 1) = true)) →
    opsK cx call lev fn false ops.toList l σ K = some r → Rel w0 Xo σ θ as a w → wpAny P .any ops Q' g listed a w
  | [], k, g, listed, σ, θ, a, w, hl, _, hu, _, hp, hr => by
    have hnil : Region.ready .any ops listed = [] := by
      cases hr : Region.ready .any ops listed with
      | nil => rfl
      | cons j js =>
        have hj : j ∈ Region.ready .any ops listed := by rw [hr]; simp
        obtain ⟨hjun, oj, hoj, _⟩ := mem_ready.1 hj
        have hjs : j < ops.size := (Array.getElem?_eq_some_iff.1 hoj).1
        have hks : ops.size ≤ k := by
          have := hl 0
          simp only [List.getElem?_nil, Nat.add_zero] at this
          exact Array.getElem?_eq_none_iff.1 this.symm
        have := hu.is j (by omega) hjs
        simp [hu.size, hjs] at this hjun
        rw [this] at hjun; cases hjun
    have hq := hQ σ θ a w hp hr
    cases g with
    | zero => exact ⟨hnil, hq⟩
    | succ g => exact ⟨fun _ => hq, fun i hi => by rw [hnil] at hi; cases hi⟩
  | o :: l, k, 0, listed, σ, θ, a, w, hl, hg, hu, hw, hp, hr => by simp at hg
  | o :: l, k, g + 1, listed, σ, θ, a, w, hl, hg, hu, hw, hp, hr => by
    have h0 : ops[k]? = some o := by simpa using (hl 0).symm
    have hk : k < ops.size := (Array.getElem?_eq_some_iff.1 h0).1
    have hready := hu.ready h0 (hw 0 o rfl).1
    refine ⟨fun h => (by rw [h] at hready; cases hready), fun i hi => ?_⟩
    have hik : i = k := by
      obtain ⟨hiun, oi, hoi, hall⟩ := mem_ready.1 hi
      have his : i < ops.size := (Array.getElem?_eq_some_iff.1 hoi).1
      rcases Nat.lt_trichotomy i k with h | h | h
      · have := hu.is i h his
        simp [hu.size, his] at this hiun
        rw [this] at hiun; cases hiun
      · exact h
      · have hli : (o :: l)[i - k]? = some oi := by rw [hl (i - k), show k + (i - k) = i by omega]; exact hoi
        have hwi := (hw (i - k) oi hli).2 (by omega)
        obtain ⟨e, he, hb, hon⟩ := waitsB_spec hwi
        have h1 := hall e he hb
        have h2 := hu.isnt e.on (by omega) (by omega)
        rw [getD_both h2] at h1
        cases h1
    subst hik
    simp only [opsK] at hp
    have := opG_sound hT hcall hr hp (Q := Q') (K' := wpAny P .any ops Q' g (listed.setIfInBounds i true)) fun σ' θ' a' w' k1 k2 =>
      wpAny_tail hT hcall hQ l (i + 1) g _ σ' θ' a' w' (fun j => by have := hl (j + 1); simpa [Nat.add_assoc, Nat.add_comm 1 j] using this) (by simpa using hg) (hu.set hk)
        (fun j oj hj => by
          have := hw (j + 1) oj (by simpa using hj)
          refine ⟨fun e he hb => by have := this.1 e he hb; omega, fun hj0 => ?_⟩
          have h2 := this.2 (by omega)
          rw [show i + 1 + j - 1 = i + (j + 1) - 1 by omega]; exact h2) k1 k2
    unfold wpOp
    simp only [h0]
    split
    · rename_i hw; simp only [hw, if_true] at this; exact .inl this
    · rename_i hw; simp only [hw] at this; exact this

/-- Nothing but the head has come up, all of it. -/
theorem upto_of_done {m : Nat} {listed : Array Bool} (hm : m ≤ ops.size) (inv : HeadInv .any ops m listed) (h : headDone m listed) : Upto ops listed m :=
  ⟨inv.size, fun j hj hs => by
    have h1 := h j hj
    have : j < listed.size := by rw [inv.size]; exact hs
    simpa [this] using h1, fun j hj hs => inv.tail j hj hs⟩

open Classical in
theorem wpAny_of_abs (hT : TabOk P cx) (hcall : CallOk P w0 Xo (callK (R := R) cx n)) {Q : St → Prop} {Q' : Exit → Act → World → Prop} {m : Nat} (hm : m ≤ ops.size) (hedge : ∀ j oj, ops[j]? = some oj → ∀ e ∈ oj.after, Region.binds .any e = true → e.on < j)
    (hwait : m < ops.size → Region.sinkB .any ops m = true ∧ Region.chainB .any ops m = true) (T : Nat)
    (hQ : ∀ g listed σ θ a w, T ≤ g → Upto ops listed m → Q σ → Rel w0 Xo σ θ as a w → wpAny P .any ops Q' g listed a w) (r : R) :
    ∀ (f g : Nat) (listed : Array Bool) (σ : St) (θ : Nat → Option Own) (a : Act) (w : World), f + T ≤ g → HeadInv .any ops m listed → absAny cx R n lev fn ops m Q f listed σ → Rel w0 Xo σ θ as a w → wpAny P .any ops Q' g listed a w
  | 0, g, listed, σ, θ, a, w, hg, inv, h, hr => hQ g listed σ θ a w (by omega) (upto_of_done hm inv h.1) h.2 hr
  | f + 1, 0, listed, σ, θ, a, w, hg, inv, h, hr => by omega
  | f + 1, g + 1, listed, σ, θ, a, w, hg, inv, h, hr => by
    by_cases hd : headDone m listed
    · exact hQ (g + 1) listed σ θ a w (by omega) (upto_of_done hm inv hd) (h.1 hd) hr
    · -- the least that hasn't come up may come up now
      have hex : ∃ j, j < m ∧ listed.getD j true = false := by
        unfold headDone at hd
        simp only [Classical.not_forall] at hd
        obtain ⟨j, hj, hn⟩ := hd
        exact ⟨j, hj, by simpa using hn⟩
      obtain ⟨u, hu, hum, hlist⟩ : ∃ u, u < m ∧ listed.getD u true = false ∧ ∀ j, j < u → listed.getD j true = true := by
        obtain ⟨u, ⟨h1, h2⟩, h3⟩ := least hex
        refine ⟨u, h1, h2, fun j hj => ?_⟩
        cases hh : listed.getD j true with
        | true => rfl
        | false => have := h3 j ⟨by omega, hh⟩; omega
      have hus : u < ops.size := by omega
      have hou : ops[u]? = some ops[u] := by simp [hus]
      have hready : u ∈ Region.ready .any ops listed := mem_ready.2 ⟨hum, _, hou, fun e he hb => by
        have := hedge u _ hou e he hb
        have h1 := hlist e.on this
        have : e.on < listed.size := by rw [inv.size]; omega
        simpa [this] using h1⟩
      refine ⟨fun h0 => (by rw [h0] at hready; cases hready), fun i hi => ?_⟩
      have him : i < m := by
        rcases Nat.lt_or_ge i m with h | h
        · exact h
        · obtain ⟨_, oi, hoi, _⟩ := mem_ready.1 hi
          have his : i < ops.size := (Array.getElem?_eq_some_iff.1 hoi).1
          have hms : m < ops.size := by omega
          exact absurd hi (tail_waits (hwait hms).1 (hwait hms).2 hms inv _ u rfl hu hum i h)
      obtain ⟨o, tv, h', h1, h2, h3, h4⟩ := h.2 hd i hi
      have hp := h3 σ (fun τ => if τ = (({ σ with heap := h' } : St).put o.dst tv) then some r else none) rfl (fun _ _ => rfl)
      simp only [if_true] at hp
      have := opG_sound hT hcall hr hp (Q := Q') (K' := wpAny P .any ops Q' g (listed.setIfInBounds i true)) fun σ' θ' a' w' k1 k2 => by
        split at k1
        · rename_i e
          subst e
          exact wpAny_of_abs hT hcall hm hedge hwait T hQ r f g _ _ θ' a' w' (by omega) (inv.set hi him) h4 k2
        · cases k1
      unfold wpOp
      simp only [h1]
      split
      · rename_i hw; simp only [hw, if_true] at this; exact .inl this
      · rename_i hw; simp only [hw] at this; exact this

end Go.Ai

namespace Go.Ai
open Go.RowKit
set_option linter.unusedVariables false
set_option linter.unusedSimpArgs false
variable {P : Program} {cx : Cx} {w0 : World} {Xo : Nat → Prop} {σ : St} {θ : Nat → Option Own} {as : List (Array Value)} {a : Act} {w : World} {R : Type} {r : R}
variable {ops : Array Oper} {n lev : Nat} {fn : FuncId}

theorem headB_spec {L : List Oper} : ∀ (m k : Nat) (l : List Oper), headB L m k l = true → ∀ (j : Nat) oj, l[j]? = some oj → j < m →
    isStore oj.op = false ∧ (∀ e ∈ oj.after, Region.binds .any e = true → e.on < k + j) ∧ ∀ (i : Nat) oi, l[i]? = some oi → j < i → waitsB oi (k + j) = true ∨ apartB L oj oi = true
  | 0, k, l, _, j, oj, _, hj => by omega
  | m + 1, k, [], _, j, oj, hl, _ => by simp at hl
  | m + 1, k, o :: l, h, j, oj, hl, hj => by
    simp only [headB, Bool.and_eq_true] at h
    obtain ⟨⟨⟨h0, h1⟩, h2⟩, h3⟩ := h
    cases j with
    | zero =>
      simp only [List.getElem?_cons_zero, Option.some.injEq] at hl
      subst hl
      refine ⟨by simpa using h0, edges_spec h1, fun i oi hi hlt => ?_⟩
      cases i with
      | zero => omega
      | succ i =>
        simp only [List.getElem?_cons_succ] at hi
        have := List.all_eq_true.1 h2 oi (List.mem_of_getElem? hi)
        simpa using this
    | succ j =>
      simp only [List.getElem?_cons_succ] at hl
      obtain ⟨g0, g1, g2⟩ := headB_spec m (k + 1) l h3 j oj hl (by omega)
      refine ⟨g0, fun e he hb => by have := g1 e he hb; omega, fun i oi hi hlt => ?_⟩
      cases i with
      | zero => omega
      | succ i =>
        simp only [List.getElem?_cons_succ] at hi
        have := g2 i oi hi (by omega)
        rwa [show k + 1 + j = k + (j + 1) by omega] at this

theorem sinkB_spec : ∀ (m k : Nat) (l : List Oper), sinkB k l m = true → m < l.length → ∀ j, j < m → ∃ i oi, l[i]? = some oi ∧ j < i ∧ i ≤ m ∧ waitsB oi (k + j) = true
  | 0, k, l, _, _, j, hj => by omega
  | m + 1, k, [], _, hm, _, _ => by simp at hm
  | m + 1, k, o :: l, h, hm, j, hj => by
    simp only [sinkB, Bool.and_eq_true] at h
    obtain ⟨h1, h2⟩ := h
    cases j with
    | zero =>
      obtain ⟨oi, hmem, hw⟩ := List.any_eq_true.1 h1
      obtain ⟨i, hi⟩ := List.getElem?_of_mem hmem
      rw [List.getElem?_take] at hi
      split at hi
      · exact ⟨i + 1, oi, by simpa using hi, by omega, by omega, hw⟩
      · cases hi
    | succ j =>
      obtain ⟨i, oi, g1, g2, g3, g4⟩ := sinkB_spec m (k + 1) l h2 (by simpa using hm) j (by omega)
      exact ⟨i + 1, oi, by simpa using g1, by omega, by omega, by rwa [show k + 1 + j = k + (j + 1) by omega] at g4⟩

theorem tailB_spec : ∀ (k : Nat) (l : List Oper), tailB k l = true → ∀ (j : Nat) oj, l[j]? = some oj → (∀ e ∈ oj.after, Region.binds .any e = true → e.on < k + j) ∧ waitsB oj (k + j - 1) = true
  | k, [], _, j, oj, h => by simp at h
  | k, o :: l, h, j, oj, hj => by
    simp only [tailB, Bool.and_eq_true] at h
    obtain ⟨⟨h1, h2⟩, h3⟩ := h
    cases j with
    | zero =>
      simp only [List.getElem?_cons_zero, Option.some.injEq] at hj
      subst hj
      exact ⟨edges_spec h1, h2⟩
    | succ j =>
      simp only [List.getElem?_cons_succ] at hj
      obtain ⟨g1, g2⟩ := tailB_spec (k + 1) l h3 j oj hj
      exact ⟨fun e he hb => by have := g1 e he hb; omega, by rwa [show k + 1 + j - 1 = k + (j + 1) - 1 by omega] at g2⟩

/-- What the test tells. -/
structure DrawSpec (ops : Array Oper) (m : Nat) : Prop where
  le : m ≤ ops.size
  store : ∀ j oj, ops[j]? = some oj → j < m → isStore oj.op = false
  edges : ∀ j oj, ops[j]? = some oj → ∀ e ∈ oj.after, Region.binds .any e = true → e.on < j
  apart : ∀ j oj i oi, ops[j]? = some oj → j < m → ops[i]? = some oi → j < i → waitsB oi j = true ∨ apartB ops.toList oj oi = true
  tail : ∀ j oj, ops[j]? = some oj → m < j → waitsB oj (j - 1) = true
  sink : m < ops.size → Region.sinkB .any ops m = true ∧ Region.chainB .any ops m = true

theorem drawB_spec (h : drawB ops.toList = true) : DrawSpec ops (drawN ops.toList) := by
  simp only [drawB, splitB, Bool.and_eq_true] at h
  obtain ⟨⟨h2, h1⟩, hn⟩ := h
  have hle : drawN ops.toList ≤ ops.size := by simpa using Nat.le_of_ble_eq_true hn
  have hd := headB_spec (L := ops.toList) (drawN ops.toList) 0 ops.toList h1
  have tl : ∀ j oj, ops[j]? = some oj → drawN ops.toList ≤ j → (∀ e ∈ oj.after, Region.binds .any e = true → e.on < j) ∧ (drawN ops.toList < j → waitsB oj (j - 1) = true) ∧ sinkB 0 ops.toList (drawN ops.toList) = true := by
    intro j oj hj hmj
    have hjl : ops.toList[j]? = some oj := by simpa using hj
    split at h2
    · rename_i hnil
      have : (ops.toList.drop (drawN ops.toList))[j - drawN ops.toList]? = some oj := by rw [List.getElem?_drop, show drawN ops.toList + (j - drawN ops.toList) = j by omega]; exact hjl
      rw [hnil] at this; simp at this
    · rename_i o l hcons
      simp only [Bool.and_eq_true] at h2
      obtain ⟨⟨g1, g3⟩, g2⟩ := h2
      have hget : (o :: l)[j - drawN ops.toList]? = some oj := by
        rw [← hcons, List.getElem?_drop, show drawN ops.toList + (j - drawN ops.toList) = j by omega]; exact hjl
      by_cases e : j = drawN ops.toList
      · rw [e, Nat.sub_self] at hget
        simp only [List.getElem?_cons_zero, Option.some.injEq] at hget
        subst hget
        refine ⟨by rw [e]; exact edges_spec g1, fun h => by omega, g2⟩
      · obtain ⟨d, hd⟩ : ∃ d, j - drawN ops.toList = d + 1 := ⟨j - drawN ops.toList - 1, by omega⟩
        rw [hd] at hget
        simp only [List.getElem?_cons_succ] at hget
        obtain ⟨k1, k2⟩ := tailB_spec _ l g3 d oj hget
        have hj' : drawN ops.toList + 1 + d = j := by omega
        rw [hj'] at k1 k2
        exact ⟨k1, fun _ => k2, g2⟩
  refine ⟨hle, fun j oj hj hjm => (hd j oj (by simpa using hj) hjm).1, fun j oj hj e he hb => ?_, fun j oj i oi hj hjm hi hji => ?_, fun j oj hj hmj => (tl j oj hj (by omega)).2.1 hmj, fun hm => ?_⟩
  · by_cases hjm : j < drawN ops.toList
    · have := (hd j oj (by simpa using hj) hjm).2.1 e he hb; omega
    · exact (tl j oj hj (by omega)).1 e he hb
  · have := (hd j oj (by simpa using hj) hjm).2.2 i oi (by simpa using hi) hji
    rwa [Nat.zero_add] at this
  · have hm2 : ops[drawN ops.toList]? = some ops[drawN ops.toList] := by simp [hm]
    have hs := (tl _ _ hm2 (Nat.le_refl _)).2.2
    constructor
    · unfold Region.sinkB
      rw [List.all_eq_true]
      intro i hi
      have hi := List.mem_range.1 hi
      obtain ⟨j, oj, g1, g2, g3, g4⟩ := sinkB_spec _ 0 ops.toList hs (by simpa using hm) i hi
      rw [List.any_eq_true]
      refine ⟨j, List.mem_range.2 (by omega), ?_⟩
      rw [Nat.zero_add] at g4
      simp [g2, waitsFor_of (by simpa using g1) g4]
    · unfold Region.chainB
      rw [List.all_eq_true]
      intro t ht
      have ht := List.mem_range.1 ht
      by_cases h : t ≤ drawN ops.toList
      · simp [h]
      · have ho : ops[t]? = some ops[t] := by simp [ht]
        simp [waitsFor_of ho ((tl t _ ho (by omega)).2.1 (by omega))]

theorem abs_lex {m : Nat} (S : DrawSpec ops m) {K : St → Option R} : ∀ (l : List Oper) (k : Nat) (listed : Array Bool) (σ : St), (∀ j, j < l.length → l[j]? = ops[k + j]?) → k + l.length = m → Upto ops listed k →
    opsK cx (callK cx n) lev fn true ops.toList l σ K = some r → absAny cx R n lev fn ops m (fun σ => K σ = some r) l.length listed σ := by
  intro l
  induction l with
  | nil =>
    intro k listed σ hl hk hu hp
    have hk : k = m := by simpa using hk
    subst hk
    refine ⟨fun j hj => ?_, hp⟩
    have h1 := hu.is j hj (by have := S.le; omega)
    have : j < listed.size := by rw [hu.size]; have := S.le; omega
    simpa [this] using h1
  | cons o l ih =>
    intro k listed σ hl hk hu hp
    simp only [List.length_cons] at hk hl
    have h0 : ops[k]? = some o := by have := hl 0 (by omega); simpa using this.symm
    have hks : k < ops.size := (Array.getElem?_eq_some_iff.1 h0).1
    have hkm : k < m := by omega
    simp only [opsK] at hp
    obtain ⟨tv, h', k1, k2, k3⟩ := opG_loc hp
    have hh := k2 (S.store k o h0 hkm)
    subst hh
    have hst : ({ σ with heap := σ.heap } : St) = σ := rfl
    rw [hst] at k1
    have inv : HeadInv .any ops m listed := by
      refine ⟨hu.size, fun j oj hj hl e he hb => ?_, fun t ht hts => hu.isnt t (by omega) hts⟩
      have hjs : j < ops.size := (Array.getElem?_eq_some_iff.1 hj).1
      have hjk : j < k := by
        rcases Nat.lt_or_ge j k with h | h
        · exact h
        · have := hu.isnt j h hjs
          rw [getD_both this] at hl; cases hl
      have := S.edges j oj hj e he hb
      exact hu.is e.on (by omega) (by omega)
    refine abs_first h0 hkm S.store S.sink S.le l.length listed σ inv (fun j oj hj hjk hun hno => ?_) (hu.ready h0 (S.edges k o h0)) k3
      (ih (k + 1) _ _ (fun j hj => by have := hl (j + 1) (by omega); simpa [Nat.add_assoc, Nat.add_comm 1 j] using this) (by omega) (hu.set hks) k1)
    have hjs : j < ops.size := (Array.getElem?_eq_some_iff.1 hj).1
    have hkj : k < j := by
      rcases Nat.lt_trichotomy j k with h | h | h
      · have := hu.is j h hjs
        simp [hu.size, hjs] at this hun
        rw [this] at hun; cases hun
      · exact absurd h hjk
      · exact h
    rcases S.apart k o j oj h0 hkm hj hkj with h | h
    · obtain ⟨e, he, hb, hon⟩ := waitsB_spec h
      exact absurd hon (hno e he hb)
    · exact h

theorem draw_sound (hT : TabOk P cx) (hm : P.follows .mixedOrders = true) {n : Nat} (hcall : CallOk P w0 Xo (callK (R := R) cx n)) (r : R) : DrawOk P w0 Xo cx (callK (R := R) cx n) r := by
  intro as lev fn id ops σ θ a w K hd hp h
  refine wp_region_any hm ?_
  have S := drawB_spec hd
  have hu : Upto ops (Array.replicate ops.size false) 0 := ⟨by simp, fun j hj => by omega, fun j _ hj => by simp [hj]⟩
  have hlen : (ops.toList.take (drawN ops.toList)).length = drawN ops.toList := by have := S.le; simp; omega
  have inv : HeadInv .any ops (drawN ops.toList) (Array.replicate ops.size false) := ⟨by simp, fun j oj hj hl => (by rw [getD_replicate_false] at hl; cases hl), fun t _ hts => by simp [hts]⟩
  have habs := abs_lex S (cx := cx) (n := n) (lev := lev) (fn := fn) (K := fun τ => opsK cx (callK cx n) lev fn false ops.toList (ops.toList.drop (drawN ops.toList)) τ (K .normal)) (r := r) (ops.toList.take (drawN ops.toList)) 0 _ σ
    (fun j hj => by rw [List.getElem?_take_of_lt (by omega)]; simp) (by omega) hu hp
  refine wpAny_of_abs hT hcall S.le S.edges S.sink (ops.size - drawN ops.toList) (fun g listed σ θ a w hg hu hk hr => ?_) r _ _ _ σ θ a _ (by have := S.le; omega) inv habs (h.below (Keeps.drew _ w (w.drawn + 1)))
  refine wpAny_tail hT hcall (K := K .normal) (r := r) (fun σ θ a w hk hr => ⟨.normal, σ, θ, rfl, hr, hk⟩) (ops.toList.drop (drawN ops.toList)) (drawN ops.toList) g listed σ θ a w (fun j => by simp) (by simp; omega) hu (fun j oj hj => ?_) hk hr
  have hj' : ops[drawN ops.toList + j]? = some oj := by simpa using hj
  exact ⟨S.edges _ oj hj', fun hj0 => S.tail _ oj hj' (by omega)⟩

end Go.Ai

