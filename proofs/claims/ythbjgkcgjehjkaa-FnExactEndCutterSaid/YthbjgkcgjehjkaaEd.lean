/- An abstract machine over plain values for the model, and that it is sound. No conditions. -/
import Derived.Test.YthbjgkcgjehjkaaEc
import Derived.ProofKit
import Derived.OpenShut
/- Calls in place; functions. -/
namespace Go.Ai
open Go.RowKit
set_option linter.unusedVariables false
set_option linter.unusedSimpArgs false

variable {P : Program} {cx : Cx} {w0 : World} {Xo : Nat → Prop} {σ : St} {θ : Nat → Option Own} {as : List (Array Value)} {a : Act} {w : World} {X X' : Nat → Prop} {R : Type} {r : R} {base : Nat}

theorem isAgg_mv (i j : Nat) (tv : TV) : (tv.mv i j).isAgg = tv.isAgg := by cases tv <;> rfl

theorem RV.mv {i j : Nat} (hij : θ j = θ i) : (m : Bool) → (tv : TV) → (cs : List Value) → RV w X θ m tv cs → RV w X θ m (tv.mv i j) cs
  | false, .pv _ _, _, h => h
  | false, .pr a b, cs, ⟨c1, c2, h0, h1, h2⟩ => ⟨c1, c2, h0, RV.mv hij false a c1 h1, RV.mv hij false b c2 h2⟩
  | false, .ptr k t p, cs, ⟨o, b, off, s, h1, h2⟩ => by
    refine ⟨o, b, off, s, ?_, h2⟩
    by_cases e : k = i
    · subst e; simp only [Nat.beq_refl, cond]; exact hij.trans h1
    · simp only [beq_false e, cond]; exact h1
  | false, .sl k e, cs, ⟨v, h1, h2⟩ => by
    refine ⟨v, ?_, h2⟩
    by_cases e : k = i
    · subst e; simp only [Nat.beq_refl, cond]; exact hij.trans h1
    · simp only [beq_false e, cond]; exact h1
  | false, .vw k t p e lo hi, cs, hr => by
    obtain ⟨o, v, h1, h2⟩ := hr
    refine ⟨o, v, ?_, h2⟩
    by_cases e : k = i
    · subst e; simp only [Nat.beq_refl, cond]; exact hij.trans h1
    · simp only [beq_false e, cond]; exact h1
  | false, .clp _ _, _, h => h
  | false, .nilsl, _, h => h
  | false, .fn f c, cs, ⟨vs, h1, h2⟩ => ⟨vs, h1, RV.mv hij true c vs h2⟩
  | false, .bad, _, h => h
  | false, .tup _, _, h => by simp [RV] at h
  | false, .und, _, h => by simp [RV] at h
  | false, .dead, _, h => by simp [RV] at h
  | true, .pr a b, vs, h => by
    have go : ∀ cs, RV w X θ false a cs → RV w X θ false (a.mv i j) cs := fun cs => RV.mv hij false a cs
    have gb : ∀ r, RV w X θ true b r → RV w X θ true (b.mv i j) r := fun r => RV.mv hij true b r
    have ga := isAgg_mv i j a
    cases a <;> simp only [RV, TV.mv] at h ⊢ <;> obtain ⟨v, r, h0, h1, h2⟩ := h <;> first
      | exact ⟨v, r, h0, trivial, gb r h2⟩
      | exact ⟨v, r, h0, h1, gb r h2⟩
      | (obtain ⟨cs, k1, k2⟩ := h1; exact ⟨v, r, h0, ⟨cs, k1, go cs k2⟩, gb r h2⟩)
  | true, .pv .unit _, _, h => h
  | true, .pv (.int _) _, _, h | true, .pv .bool _, _, h | true, .pv .str _, _, h | true, .pv (.slice _) _, _, h | true, .pv (.arr _ _) _, _, h | true, .pv (.pair _ _) _, _, h | true, .pv (.ref _) _, _, h | true, .pv (.opt _) _, _, h => by simp [RV] at h
  | true, .ptr .., _, h | true, .sl .., _, h | true, .vw .., _, h | true, .clp .., _, h | true, .nilsl, _, h | true, .fn .., _, h | true, .tup _, _, h | true, .bad, _, h | true, .und, _, h | true, .dead, _, h => by simp [RV] at h

theorem RVal.mv {i j : Nat} (hij : θ j = θ i) (tv : TV) (v : Value) (h : RVal w X θ tv v) : RVal w X θ (tv.mv i j) v := by
  cases tv with
  | dead => trivial
  | und => exact h
  | tup c => obtain ⟨vs, k1, k2⟩ := h; exact ⟨vs, k1, RV.mv hij true c vs k2⟩
  | pr a b => obtain ⟨cs, k1, k2⟩ := h; exact ⟨cs, k1, RV.mv hij false (.pr a b) cs k2⟩
  | ptr k t p => obtain ⟨cs, k1, k2⟩ := h; exact ⟨cs, k1, RV.mv hij false (.ptr k t p) cs k2⟩
  | sl k e => obtain ⟨cs, k1, k2⟩ := h; exact ⟨cs, k1, RV.mv hij false (.sl k e) cs k2⟩
  | vw k t p e lo hi => obtain ⟨cs, k1, k2⟩ := h; exact ⟨cs, k1, RV.mv hij false (.vw k t p e lo hi) cs k2⟩
  | fn f c => obtain ⟨cs, k1, k2⟩ := h; exact ⟨cs, k1, RV.mv hij false (.fn f c) cs k2⟩
  | _ => obtain ⟨cs, k1, k2⟩ := h; exact ⟨cs, k1, k2⟩

theorem fits_mv (i j : Nat) : (tv : TV) → (t : Ty) → (tv.mv i j).fits t = tv.fits t
  | .pv _ _, _ => rfl
  | .pr a b, .pair s t => by simp [TV.mv, TV.fits, fits_mv i j a s, fits_mv i j b t]
  | .pr _ _, .int _ | .pr _ _, .bool | .pr _ _, .str | .pr _ _, .slice _ | .pr _ _, .arr _ _ | .pr _ _, .unit | .pr _ _, .ref _ | .pr _ _, .opt _ => rfl
  | .ptr .., t => by cases t <;> rfl
  | .sl .., t => by cases t <;> rfl
  | .vw .., t => by cases t <;> rfl
  | .clp .., _ => rfl
  | .nilsl, _ => rfl
  | .fn .., t => by cases t <;> rfl
  | .tup _, t => by cases t <;> rfl
  | .bad, _ => rfl
  | .und, _ => rfl
  | .dead, _ => rfl

theorem mvH_get {i j : Nat} (hij : i ≠ j) : ∀ (h : Heap) (k : Nat), hget h j = none → hget (mvH i j h) k = if k = j then (hget h i).map (Blk.mv i j) else if k = i then none else (hget h k).map (Blk.mv i j)
  | [], k, _ => by simp [mvH, hget]
  | (l, b) :: h, k, hn => by
    simp only [hget] at hn
    have hlj : l ≠ j := fun e => by rw [e, Nat.beq_refl] at hn; cases hn
    simp only [beq_false hlj, cond] at hn
    have ih := mvH_get hij h k hn
    simp only [mvH, hget]
    by_cases e : l = i
    · subst e
      simp only [Nat.beq_refl, cond]
      by_cases e2 : k = j
      · subst e2; simp
      · simp only [beq_false (Ne.symm e2), cond, ih, e2, if_false]
        by_cases e3 : k = l
        · simp [e3]
        · simp [e3, beq_false (Ne.symm e3)]
    · simp only [beq_false e, cond]
      by_cases e2 : l = k
      · subst e2; simp [hlj, e]
      · simp only [beq_false e2, cond, ih]

/-- A block gets another number; the slots keep the old one. -/
theorem Rel.mv1 (h : Rel w0 Xo σ θ as a w) {i j : Nat} (hij : i ≠ j) {tv : TV} {v : Value} (hv : RVal w (owned Xo θ σ.heap) θ tv v) :
    ∃ θ', Rel w0 Xo { σ.kill j with heap := mvH i j (σ.kill j).heap } θ' as a w ∧ RVal w (owned Xo θ' (mvH i j (σ.kill j).heap)) θ' ((tv.kill j).mv i j) v := by
  let θ' : Nat → Option Own := fun k => if k = j then θ i else θ k
  have hθ : ∀ k, k ≠ j → θ' k = θ k := fun k hk => by simp [θ', hk]
  have hij' : θ' j = θ' i := by simp [θ', hij]
  have hnone : hget (σ.kill j).heap j = none := by simp [St.kill, hget_map, hget_del]
  have hget' : ∀ k, hget (mvH i j (σ.kill j).heap) k = if k = j then ((hget σ.heap i).map (Blk.kill j)).map (Blk.mv i j) else if k = i then none else ((hget σ.heap k).map (Blk.kill j)).map (Blk.mv i j) := by
    intro k
    rw [mvH_get hij _ _ hnone]
    have : ∀ l, l ≠ j → hget (σ.kill j).heap l = (hget σ.heap l).map (Blk.kill j) := fun l hl => by simp [St.kill, hget_map, hget_del, hl]
    by_cases e : k = j
    · simp only [e, if_true]; rw [this i hij]
    · simp only [e, if_false]; by_cases e2 : k = i
      · simp [e2]
      · simp only [e2, if_false]; rw [this k e]
  -- where a block comes from
  have src : ∀ k b, hget (mvH i j (σ.kill j).heap) k = some b → ∃ l b0, hget σ.heap l = some b0 ∧ b = (b0.kill j).mv i j ∧ θ' k = θ l ∧ (k = j ∧ l = i ∨ k = l ∧ k ≠ j ∧ k ≠ i) := by
    intro k b hb
    rw [hget'] at hb
    by_cases e : k = j
    · simp only [e, if_true] at hb
      cases h0 : hget σ.heap i with
      | none => simp [h0] at hb
      | some b0 =>
        simp only [h0, Option.map_some, Option.some.injEq] at hb
        exact ⟨i, b0, h0, hb.symm, by simp [θ', e], .inl ⟨e, rfl⟩⟩
    · by_cases e2 : k = i
      · simp [e2, hij] at hb
      · simp only [e, e2, if_false] at hb
        cases h0 : hget σ.heap k with
        | none => simp [h0] at hb
        | some b0 =>
          simp only [h0, Option.map_some, Option.some.injEq] at hb
          exact ⟨k, b0, h0, hb.symm, hθ k e, .inr ⟨rfl, e, e2⟩⟩
  have hown : ∀ b, owned Xo θ' (mvH i j (σ.kill j).heap) b → owned Xo θ σ.heap b := by
    intro b hb
    rcases hb with hb | ⟨k, h1, h2⟩
    · exact .inl hb
    · obtain ⟨bk, hbk⟩ := Option.isSome_iff_exists.1 h1
      obtain ⟨l, b0, e1, _, e3, _⟩ := src k bk hbk
      exact .inr ⟨l, by simp [e1], by simpa [baseAt, e3] using h2⟩
  have hst : Step (owned Xo θ σ.heap) (owned Xo θ' (mvH i j (σ.kill j).heap)) w w := ⟨⟨fun _ => False, Keeps.refl _ w, fun _ _ h => h.elim⟩, fun b _ hb => hown b hb⟩
  refine ⟨θ', h.next (TV.kill j) h.keeps (fun tv u hu => RVal.step hst _ u (fun _ _ => rfl) (RVal.kill hθ tv u hu)) rfl rfl ⟨fun k b hb => ?_, fun k l hkl hk hl b => ?_⟩, ?_⟩
  · obtain ⟨l, b0, e1, e2, e3, _⟩ := src k b hb
    subst e2
    have hb0 := h.heap.blk l b0 e1
    cases b0 with
    | var t c =>
      obtain ⟨g, C, E, k1, k2, k3, k4, k5⟩ := hb0
      exact ⟨g, C, E, e3.trans k1, k2, k3, RV.step hst false _ _ (fun _ _ => rfl) (RV.mv hij' false _ _ (RV.kill hθ false c _ k4)), by rw [fits_mv]; exact TV.fits_kill j c t k5⟩
    | arr E e xs =>
      obtain ⟨u, ds, k1, k2, k3⟩ := hb0
      exact ⟨u, ds, e3.trans k1, k2, chunks_mono (fun c x hx => hst.rep e c x hx) k3⟩
  · obtain ⟨bk, hbk⟩ := Option.isSome_iff_exists.1 hk
    obtain ⟨bl, hbl⟩ := Option.isSome_iff_exists.1 hl
    obtain ⟨k', b0, e1, _, e3, e4⟩ := src k bk hbk
    obtain ⟨l', c0, f1, _, f3, f4⟩ := src l bl hbl
    have hne : k' ≠ l' := by
      rcases e4 with ⟨q1, q2⟩ | ⟨q1, q2, q3⟩ <;> rcases f4 with ⟨p1, p2⟩ | ⟨p1, p2, p3⟩
      · exact absurd (q1.trans p1.symm) hkl
      · intro e; exact p3 (by rw [p1, ← e, q2])
      · intro e; exact q3 (by rw [q1, e, p2])
      · intro e; exact hkl (by rw [q1, p1, e])
    simpa [baseAt, e3, f3] using h.heap.inj k' l' hne (by simp [e1]) (by simp [f1]) b
  · exact RVal.mv hij' _ v (RVal.step hst _ v (fun _ _ => rfl) (RVal.kill hθ tv v hv))

theorem mvAll_sound : ∀ (l : List Nat) (j : Nat) (tv : TV) (v : Value) (σ : St) (θ : Nat → Option Own) (K : TV → St → Option R), mvAll l j tv σ K = some r → Rel w0 Xo σ θ as a w → RVal w (owned Xo θ σ.heap) θ tv v →
    ∃ tv' σ' θ', K tv' σ' = some r ∧ Rel w0 Xo σ' θ' as a w ∧ RVal w (owned Xo θ' σ'.heap) θ' tv' v
  | [], j, tv, v, σ, θ, K, hp, h, hv => ⟨tv, σ, θ, hp, h, hv⟩
  | i :: l, j, tv, v, σ, θ, K, hp, h, hv => by
    simp only [mvAll] at hp
    by_cases e : i = j
    · simp only [beq_iff.2 e, cond] at hp
      exact mvAll_sound l (j + 1) tv v σ θ K hp h hv
    · simp only [beq_false e, cond] at hp
      obtain ⟨θ', h1, h2⟩ := h.mv1 e hv
      exact mvAll_sound l (j + 1) _ v _ θ' K hp h1 h2

/-- A function whose text is carried out in place. -/
structure InlOk (P : Program) (f : FuncId) (i : Inl) : Prop where
  fn : ∃ fn, P.funcs[f]? = some fn ∧ fn.body = some i.code ∧ fn.ntmps = i.ntmps ∧ fn.results.toList = i.results ∧ (fn.name == "runtime.NumGoroutine") = false
  few : i.results.length ≤ 5

theorem InlOk.enter {f : FuncId} {i : Inl} (h : InlOk P f i) (args : Array Value) (w : World) : (callFunc f args).run P w = .ok (.enter f args) w := by
  obtain ⟨⟨fn, h1, h2, _, _, h5⟩, _⟩ := h
  have h5' : (fn.name == "runtime.NumGoroutine") = false := h5
  simp only [beq_eq_false_iff_ne, ne_eq] at h5'
  simp [callFunc, h1, h2, h5']

theorem env_start {args : List TV} {vs : Array Value} (hv : EnvRel w X θ args vs) (n : Nat) : EnvRel w X θ (args ++ List.replicate (n - args.length) .dead) (vs ++ Array.replicate (n - vs.size) undef) := by
  refine ⟨by simp [hv.1], fun t tv ht => ?_⟩
  rw [List.getElem?_append] at ht
  by_cases hlt : t < args.length
  · simp only [hlt, if_true] at ht
    obtain ⟨v, k1, k2⟩ := hv.2 t tv ht
    exact ⟨v, by rw [Array.getElem?_append_left (by rw [hv.1]; exact hlt)]; exact k1, k2⟩
  · simp only [hlt, if_false] at ht
    have hlt2 : t - args.length < n - args.length := by
      rcases Nat.lt_or_ge (t - args.length) (n - args.length) with h | h
      · exact h
      · rw [List.getElem?_eq_none (by simpa using h)] at ht; cases ht
    have : tv = .dead := by simpa [hlt2, eq_comm] using ht
    subst this
    refine ⟨undef, ?_, trivial⟩
    rw [Array.getElem?_append_right (by rw [hv.1]; omega), hv.1]
    simp [hlt2]

theorem pop_sound (hC : CxOk P cx) {i : Inl} {fn : Func} (hf : fn.results.toList = i.results) (hfew : i.results.length ≤ 5) {ac : Act} (h : Rel w0 Xo σ θ (a.tmps :: as) ac w) (hd : a.defers = []) {d : Option Tmp} {lev : Nat} {K : TV → St → Option R}
    (hp : popK cx i d lev σ K = some r) : ∃ v, (results fn ac.tmps).run P w = .ok v w ∧ ∃ tv σ' θ', K tv σ' = some r ∧ Rel w0 Xo σ' θ' as a w ∧ RVal w (owned Xo θ' σ'.heap) θ' tv v := by
  unfold popK at hp
  split at hp
  · cases hp
  · rename_i tv htv
    obtain ⟨v, k1, k2⟩ := res_sound hC h hf hfew htv
    split at hp
    · cases hp
    · rename_i env stk hstk
      refine ⟨v, k1, ?_⟩
      have hs := h.stk
      rw [hstk] at hs
      have h1 : Rel w0 Xo { σ with env := env, stk := stk } θ as a w := ⟨h.keeps, h.xo, h.heap, hs.1, hs.2, hd⟩
      have h2 := Rel.killL (gone (lev + 1) (keptIds (lev + 1) (keptIds (lev + 1) tv.ids ++ (keptIds (lev + 1) tv.ids).flatMap (blkIds σ.heap))) σ.heap) _ h1
      refine mvAll_sound _ _ tv v _ θ K hp h2 ?_
      have hst : Step (owned Xo θ σ.heap) (owned Xo θ (({ σ with env := env, stk := stk } : St).killL (gone (lev + 1) (keptIds (lev + 1) (keptIds (lev + 1) tv.ids ++ (keptIds (lev + 1) tv.ids).flatMap (blkIds σ.heap))) σ.heap)).heap) w w := by
        refine ⟨⟨fun _ => False, Keeps.refl _ w, fun _ _ h => h.elim⟩, fun b _ hb => ?_⟩
        rcases hb with hb | ⟨k, g1, g2⟩
        · exact .inl hb
        · rw [killL_get] at g1
          split at g1
          · cases g1
          · simp only [Option.isSome_map] at g1
            exact .inr ⟨k, g1, g2⟩
      exact RVal.step hst tv v (fun _ _ => rfl) k2

structure TabsOk (P : Program) (cx : Cx) : Prop where
  tab : TabOk P cx
  con : ∀ f c, cx.con f = some c → ConOk P f c
  inl : ∀ f i, cx.inl f = some i → InlOk P f i
  mixed : P.follows .mixedOrders = true

theorem callK_sound (hT : TabsOk P cx) : ∀ n, CallOk P w0 Xo (callK (R := R) cx n)
  | 0, lev, fn, draw, f, args, d, σ, K, r, θ, as, a, w, vs, hp, _, _ => by simp [callK] at hp
  | n + 1, lev, fn, draw, f, args, d, σ, K, r, θ, as, a, w, vs, hp, h, hv => by
    have ih := callK_sound hT n
    simp only [callK] at hp
    split at hp
    · rename_i c hc
      exact con_sound (hT.con f c hc) h hv hp
    · split at hp
      · rename_i i hi
        have hio := hT.inl f i hi
        refine .inl ⟨hio.enter vs w, ?_⟩
        obtain ⟨⟨fd, f1, f2, f3, f4, _⟩, hfew⟩ := hio
        refine calls_of_wp f1 f2 ?_
        have hrel : Rel w0 Xo { env := args ++ List.replicate (i.ntmps - args.length) .dead, stk := σ.env :: σ.stk, heap := σ.heap } θ (a.tmps :: as) { tmps := vs ++ Array.replicate (fd.ntmps - vs.size) undef, defers := [] } w :=
          ⟨h.keeps, h.xo, h.heap, by rw [f3]; exact env_start hv i.ntmps, ⟨h.env, h.stk⟩, rfl⟩
        refine wp_mono (exec_sound hT.tab ih (draw_sound hT.tab hT.mixed ih r) i.code _ θ _ w _ hp hrel) fun e ac w' ⟨x, σ', θ', hx, h', hp'⟩ => ?_
        subst hx
        cases x with
        | exit j => simp [retK] at hp'
        | normal =>
          simp only [retK] at hp'
          obtain ⟨v, k1, k2⟩ := pop_sound hT.tab.c f4 hfew h' h.defers hp'
          exact ⟨h'.defers, v, k1, v, rfl, k2⟩
        | ret =>
          simp only [retK] at hp'
          obtain ⟨v, k1, k2⟩ := pop_sound hT.tab.c f4 hfew h' h.defers hp'
          exact ⟨h'.defers, v, k1, v, rfl, k2⟩
      · cases hp

/-- The arguments of a function, as plain values. -/
def argsTV : (t : Ty) → t.den → List TV
  | .pair a b, x => .pv a x.1 :: argsTV b x.2
  | _, _ => []

theorem argsTV_rel {θ : Nat → Option Own} : ∀ (t : Ty) (vs : List Value) (x : t.den), ArgsRep w X t vs x → vs.length = (argsTV t x).length ∧ ∀ (i : Nat) tv, (argsTV t x)[i]? = some tv → ∃ v, vs[i]? = some v ∧ RVal w X θ tv v
  | .unit, vs, x, h => by have : vs = [] := h; subst this; simp [argsTV]
  | .pair a b, vs, x, ⟨v, r, cs, h0, h1, h2, h3⟩ => by
    obtain ⟨k1, k2⟩ := argsTV_rel (θ := θ) b r x.2 h3
    subst h0
    refine ⟨by simp [argsTV, k1], fun i tv hi => ?_⟩
    cases i with
    | zero => simp only [argsTV, List.getElem?_cons_zero, Option.some.injEq] at hi; subst hi; exact ⟨v, rfl, cs, h1, h2⟩
    | succ i => simp only [argsTV, List.getElem?_cons_succ] at hi ⊢; exact k2 i tv hi
  | .int _, _, _, h | .bool, _, _, h | .str, _, _, h | .slice _, _, _, h | .arr _ _, _, _, h | .ref _, _, _, h | .opt _, _, _, h => by simp [ArgsRep] at h

end Go.Ai

/- A function's results, and its contract out of its text. -/
namespace Go.Ai
open Go.RowKit
set_option linter.unusedVariables false
set_option linter.unusedSimpArgs false

variable {P : Program} {cx : Cx} {θ : Nat → Option Own} {w : World} {X Y : Nat → Prop} {base : Nat} {H : Heap} {o : Option Own}

theorem toPv_ids : (tv : TV) → (t : Ty) → (x : t.den) → toPv H tv t = some x → ∀ i ∈ tv.ids, (hget H i).isSome = true
  | .pr a b, .pair ta tb, x, h, i, hi => by
    simp only [toPv] at h
    split at h
    · rename_i y z hy hz
      simp only [TV.ids, List.mem_append] at hi
      rcases hi with hi | hi
      · exact toPv_ids a ta y hy i hi
      · exact toPv_ids b tb z hz i hi
    · cases h
  | .sl j e, .slice e', x, h, i, hi => by
    simp only [toPv] at h
    split at h
    · rename_i E e2 xs hg
      have : i = j := by simpa [TV.ids] using hi
      subst this; simp [hg]
    · cases h
  | .vw j rt p e lo up, .slice e', x, h, i, hi => by
    simp only [toPv] at h
    split at h
    · rename_i q; subst q
      have : i = j := by simpa [TV.ids] using hi
      subst this
      simp only [viewL] at h
      split at h
      · rename_i hg; simp [hg]
      · rename_i hg; simp [hg]
      · cases h
    · cases h
  | .ptr j rt p, .ref e, x, h, i, hi => by
    simp only [toPv] at h
    split at h
    · rename_i t c hg
      have : i = j := by simpa [TV.ids] using hi
      subst this; simp [hg]
    · cases h
  | .pv _ _, _, _, _, i, hi => by simp [TV.ids] at hi
  | .clp _ _, _, _, _, i, hi => by simp [TV.ids] at hi
  | .nilsl, _, _, _, i, hi => by simp [TV.ids] at hi
  | .bad, _, _, _, i, hi => by simp [TV.ids] at hi
  | .und, _, _, _, i, hi => by simp [TV.ids] at hi
  | .dead, _, _, _, i, hi => by simp [TV.ids] at hi
  | .fn .., t, _, h, _, _ => by cases t <;> simp [toPv] at h
  | .tup _, t, _, h, _, _ => by cases t <;> simp [toPv] at h
  | .pr _ _, .int _, _, h, _, _ | .pr _ _, .bool, _, h, _, _ | .pr _ _, .str, _, h, _, _ | .pr _ _, .slice _, _, h, _, _ | .pr _ _, .arr _ _, _, h, _, _ | .pr _ _, .unit, _, h, _, _ | .pr _ _, .ref _, _, h, _, _ | .pr _ _, .opt _, _, h, _, _ => by simp [toPv] at h
  | .vw .., .int _, _, h, _, _ | .vw .., .bool, _, h, _, _ | .vw .., .str, _, h, _, _ | .vw .., .ref _, _, h, _, _ | .vw .., .arr _ _, _, h, _, _ | .vw .., .unit, _, h, _, _ | .vw .., .pair _ _, _, h, _, _ | .vw .., .opt _, _, h, _, _ => by simp [toPv] at h
  | .sl .., .int _, _, h, _, _ | .sl .., .bool, _, h, _, _ | .sl .., .str, _, h, _, _ | .sl .., .ref _, _, h, _, _ | .sl .., .arr _ _, _, h, _, _ | .sl .., .unit, _, h, _, _ | .sl .., .pair _ _, _, h, _, _ | .sl .., .opt _, _, h, _, _ => by simp [toPv] at h
  | .ptr .., .int _, _, h, _, _ | .ptr .., .bool, _, h, _, _ | .ptr .., .str, _, h, _, _ | .ptr .., .slice _, _, h, _, _ | .ptr .., .arr _ _, _, h, _, _ | .ptr .., .unit, _, h, _, _ | .ptr .., .pair _ _, _, h, _, _ | .ptr .., .opt _, _, h, _, _ => by simp [toPv] at h

theorem chain_parts {a b : TV} {vs : List Value} (h : RV w X θ true (.pr a b) vs) : ∃ v r, vs = v :: r ∧ RVal w X θ a v ∧ RV w X θ true b r := by
  cases a with
  | tup c => simp only [RV] at h; obtain ⟨v, r, h0, ⟨cs, h1, h2⟩, h3⟩ := h; exact h2.elim
  | dead => simp only [RV] at h; obtain ⟨v, r, h0, h1, h3⟩ := h; exact ⟨v, r, h0, trivial, h3⟩
  | und => simp only [RV] at h; obtain ⟨v, r, h0, h1, h3⟩ := h; exact ⟨v, r, h0, h1, h3⟩
  | _ => simp only [RV] at h; obtain ⟨v, r, h0, ⟨cs, h1, h2⟩, h3⟩ := h; exact ⟨v, r, h0, ⟨cs, h1, h2⟩, h3⟩

/-- The caller's table of blocks: what slot k has. -/
def takes (θ : Nat → Option Own) (sl : List (Option Nat)) (k : Nat) : Option Own :=
  match sl[k]? with
  | some (some i) => θ i
  | some none => some (.arr (.slice none 0 0))
  | none => none

theorem takes_base {sl : List (Option Nat)} {k b : Nat} (h : baseAt (takes θ sl) k = some b) : ∃ i, sl[k]? = some (some i) ∧ baseAt θ i = some b := by
  unfold baseAt takes at h
  split at h
  · rename_i i hi; exact ⟨i, hi, h⟩
  · simp [Own.base, Value.ownBlock] at h
  · cases h

theorem isNo_iff {i : Nat} {o : Option Nat} : isNo i o = true ↔ o = some i := by
  cases o with
  | none => simp [isNo]
  | some j => simp only [isNo]; rw [beq_iff]; constructor
              · intro h; rw [h]
              · intro h; injection h with h; exact h.symm

theorem distinct_spec : ∀ {sl : List (Option Nat)}, distinctB sl = true → ∀ (k l i : Nat), sl[k]? = some (some i) → sl[l]? = some (some i) → k = l
  | [], _, k, l, i, h, _ => by simp at h
  | none :: r, hd, k, l, i, hk, hl => by
    cases k with
    | zero => simp at hk
    | succ k => cases l with
      | zero => simp at hl
      | succ l =>
        simp only [List.getElem?_cons_succ] at hk hl
        rw [distinct_spec (by simpa [distinctB] using hd) k l i hk hl]
  | some j :: r, hd, k, l, i, hk, hl => by
    simp only [distinctB, Bool.and_eq_true, Bool.not_eq_true', List.any_eq_false] at hd
    obtain ⟨h1, h2⟩ := hd
    have no : ∀ m, r[m]? = some (some j) → False := fun m hm => h1 _ (List.mem_of_getElem? hm) (isNo_iff.2 rfl)
    cases k with
    | zero =>
      simp only [List.getElem?_cons_zero, Option.some.injEq] at hk
      subst hk
      cases l with
      | zero => rfl
      | succ l => exact (no l (by simpa using hl)).elim
    | succ k => cases l with
      | zero =>
        simp only [List.getElem?_cons_zero, Option.some.injEq] at hl
        subst hl
        exact (no k (by simpa using hk)).elim
      | succ l =>
        simp only [List.getElem?_cons_succ] at hk hl
        rw [distinct_spec h2 k l i hk hl]

theorem slots_length : ∀ (s : Sh) (tv : TV), (s.slots tv).length = s.cnt
  | .pl _, tv => by cases tv <;> rfl
  | .own _ _, tv => by cases tv <;> rfl
  | .pr a b, tv => by
    cases tv with
    | pr x y => simp only [Sh.slots, List.length_append, Sh.cnt, slots_length a x, slots_length b y]
    | _ => simp [Sh.slots, Sh.cnt]

theorem mkSh_agg (n : Nat) : ∀ (s : Sh) (y : s.den) (tv : TV) (H : Heap), readSh H tv s = some y → (∀ t, s = .pl t → tv.isAgg = t.isAgg) → (mkSh n s y).isAgg = tv.isAgg
  | .pl t, y, tv, H, h, ha => (ha t rfl).symm
  | .own E e, y, tv, H, h, _ => by cases tv <;> simp_all [readSh, mkSh, TV.isAgg]
  | .pr a b, y, tv, H, h, _ => by cases tv <;> simp_all [readSh, mkSh, TV.isAgg]

theorem mkSh_notup (n : Nat) : ∀ (s : Sh) (y : s.den) (c : TV), mkSh n s y ≠ .tup c
  | .pl _, _, _, h => by cases h
  | .own _ _, _, _, h => by cases h
  | .pr _ _, _, _, h => by cases h

theorem mkOne_lt : ∀ (s : Sh) (n k : Nat) (y : s.den) (b : Blk), hget (mkOne n s y) k = some b → n ≤ k ∧ k < n + s.cnt
  | .pl _, n, k, y, b, h => by simp [mkOne, hget] at h
  | .own E e, n, k, y, b, h => by
    simp only [mkOne, hget] at h
    by_cases hk : n = k
    · subst hk; simp [Sh.cnt]
    · simp [beq_false hk] at h
  | .pr s t, n, k, y, b, h => by
    simp only [mkOne, apH_get] at h
    simp only [Sh.cnt]
    cases hh : hget (mkOne n s y.1) k with
    | some b1 => have := mkOne_lt s n k y.1 b1 hh; omega
    | none => rw [hh] at h; simp only [Option.none_or] at h; have := mkOne_lt t (n + s.cnt) k y.2 b h; omega

/-- One result's part. -/
theorem readSh_rv {θ2 : Nat → Option Own} (hH : HRel w X θ base H) (hY : ∀ b, Y b → X b) : ∀ (s : Sh) (n : Nat) (tv : TV) (cs : List Value) (y : s.den), readSh H tv s = some y → RV w X θ false tv cs →
    (∀ j, j < s.cnt → θ2 (n + j) = takes θ (s.slots tv) j) → (∀ i ∈ s.lent tv, ∀ b, baseAt θ i = some b → ¬ Y b) →
    RV w Y θ2 false (mkSh n s y) cs ∧ (∀ i, some i ∈ s.slots tv → (hget H i).isSome = true) ∧ (∀ i ∈ s.lent tv, (hget H i).isSome = true) ∧ ∀ k b, hget (mkOne n s y) k = some b → BlkRel w Y θ2 base k b
  | .pl t, n, tv, cs, y, hr, hv, hθ, hl => by
    have hr' : toPv H tv t = some y := by cases tv <;> exact hr
    have e : Sh.lent (.pl t) tv = tv.ids := by cases tv <;> rfl
    rw [e] at hl ⊢
    have e2 : Sh.slots (.pl t) tv = [] := by cases tv <;> rfl
    refine ⟨toPv_sound hH hY tv t y cs hr' hl hv, fun i hi => (by rw [e2] at hi; simp at hi), fun i hi => toPv_ids tv t y hr' i hi, fun k b hb => by simp [mkOne, hget] at hb⟩
  | .own E e, n, tv, cs, y, hr, hv, hθ, hl => by
    have blk : ∀ {u : Value} {ds : List Value}, θ2 n = some (.arr u) → w.ownsRow base E e.size u (List.length y) ds → chunks (Rep w X e) ds y → ∀ k b, hget (mkOne n (.own E e) y) k = some b → BlkRel w Y θ2 base k b := by
      intro u ds k1 k2 k3 k b hb
      simp only [mkOne, hget] at hb
      by_cases hk : n = k
      · subst hk
        simp only [Nat.beq_refl, cond, Option.some.injEq] at hb
        subst hb
        exact ⟨u, ds, k1, k2, chunks_mono (fun c x hx => Rep.avoid (fun b _ hb => hY b hb) e c x hx) k3⟩
      · simp [beq_false hk] at hb
    have h0 := hθ 0 (by simp [Sh.cnt])
    rw [Nat.add_zero] at h0
    cases tv with
    | nilsl =>
      simp only [readSh, Option.some.injEq] at hr
      subst hr
      have hθ' : θ2 n = some (.arr (.slice none 0 0)) := h0
      have hv' : cs = _ := hv
      subst hv'
      exact ⟨⟨_, hθ', rfl, rfl⟩, fun i hi => by simp [Sh.slots] at hi, fun i hi => by simp [Sh.lent] at hi, blk hθ' (World.ownsRow_nil w base E e.size) rfl⟩
    | sl i e' =>
      simp only [readSh] at hr
      split at hr
      · rename_i E' e2 xs hg
        split at hr
        · rename_i q; subst q
          split at hr
          · rename_i q
            obtain ⟨q1, q2⟩ := q
            subst q1; subst q2
            injection hr with hr; subst hr
            have hθ' : θ2 n = θ i := h0
            obtain ⟨u, ds, g1, g2, g3⟩ := hH.blk i _ hg
            obtain ⟨u2, k2, k3, k4⟩ := hv
            subst k3
            rw [g1] at k2; injection k2 with k2; injection k2 with k2; subst k2
            refine ⟨⟨_, hθ'.trans g1, rfl, k4⟩, fun j hj => ?_, fun i hi => (by simp [Sh.lent] at hi), blk (hθ'.trans g1) g2 g3⟩
            have hji : j = i := by simpa [Sh.slots] using hj
            rw [hji, hg]
            rfl
          · cases hr
        · cases hr
      · cases hr
    | _ => simp [readSh] at hr
  | .pr s t, n, tv, cs, y, hr, hv, hθ, hl => by
    cases tv with
    | pr u v =>
      simp only [readSh] at hr
      split at hr
      · rename_i y1 y2 hr1 hr2
        injection hr with hr; subst hr
        obtain ⟨c1, c2, h0, g1, g2⟩ := hv
        simp only [Sh.slots, Sh.lent, Sh.cnt] at hθ hl ⊢
        have l1 := slots_length s u
        have l2 := slots_length t v
        obtain ⟨a1, a2, a3, a4⟩ := readSh_rv (θ2 := θ2) hH hY s n u c1 y1 hr1 g1 (fun j hj => by
          rw [hθ j (by omega)]
          unfold takes
          rw [List.getElem?_append_left (by omega)]) (fun i hi => hl i (List.mem_append_left _ hi))
        obtain ⟨b1, b2, b3, b4⟩ := readSh_rv (θ2 := θ2) hH hY t (n + s.cnt) v c2 y2 hr2 g2 (fun j hj => by
          rw [Nat.add_assoc, hθ (s.cnt + j) (by omega)]
          unfold takes
          rw [List.getElem?_append_right (by omega), l1, Nat.add_sub_cancel_left]) (fun i hi => hl i (List.mem_append_right _ hi))
        refine ⟨⟨c1, c2, h0, a1, b1⟩, fun i hi => ?_, fun i hi => ?_, fun k b hb => ?_⟩
        · rcases List.mem_append.1 hi with hi | hi
          · exact a2 i hi
          · exact b2 i hi
        · rcases List.mem_append.1 hi with hi | hi
          · exact a3 i hi
          · exact b3 i hi
        · simp only [mkOne, apH_get] at hb
          cases hh : hget (mkOne n s y1) k with
          | some b1 => rw [hh] at hb; simp only [Option.some_or, Option.some.injEq] at hb; subst hb; exact a4 k _ hh
          | none => rw [hh] at hb; simp only [Option.none_or] at hb; exact b4 k b hb
      · cases hr
    | _ => simp [readSh] at hr

/-- One result. -/
theorem readSh_sound {θ2 : Nat → Option Own} (hH : HRel w X θ base H) (hY : ∀ b, Y b → X b) {s : Sh} {n : Nat} {tv : TV} {v : Value} {y : s.den} (hr : readSh H tv s = some y) (hv : RVal w X θ tv v)
    (hθ : ∀ j, j < s.cnt → θ2 (n + j) = takes θ (s.slots tv) j) (hl : ∀ i ∈ s.lent tv, ∀ b, baseAt θ i = some b → ¬ Y b) :
    RVal w Y θ2 (mkSh n s y) v ∧ (∀ i, some i ∈ s.slots tv → (hget H i).isSome = true) ∧ (∀ i ∈ s.lent tv, (hget H i).isSome = true) ∧ ∀ k b, hget (mkOne n s y) k = some b → BlkRel w Y θ2 base k b := by
  cases s with
  | pl t =>
    have hr' : toPv H tv t = some y := by cases tv <;> exact hr
    have e : Sh.lent (.pl t) tv = tv.ids := by cases tv <;> rfl
    rw [e] at hl ⊢
    have e2 : Sh.slots (.pl t) tv = [] := by cases tv <;> rfl
    obtain ⟨cs, g1, g2⟩ := toPv_val' hH hY hr' hl hv
    exact ⟨⟨cs, g1, g2⟩, fun i hi => (by rw [e2] at hi; simp at hi), fun i hi => toPv_ids tv t y hr' i hi, fun k b hb => by simp [mkOne, hget] at hb⟩
  | own E e =>
    have hne : (∀ c, tv ≠ .tup c) ∧ tv ≠ .dead ∧ tv ≠ .und ∧ tv.isAgg = false := by cases tv <;> simp_all [readSh, TV.isAgg]
    obtain ⟨n1, n2, n3, n4⟩ := hne
    obtain ⟨cs, g1, g2⟩ := rval_one n1 n2 n3 hv
    obtain ⟨k1, k2, k3, k4⟩ := readSh_rv (θ2 := θ2) hH hY (.own E e) n tv cs y hr g2 hθ hl
    exact ⟨⟨cs, by rw [n4] at g1; exact g1, k1⟩, k2, k3, k4⟩
  | pr s t =>
    have hne : (∀ c, tv ≠ .tup c) ∧ tv ≠ .dead ∧ tv ≠ .und ∧ tv.isAgg = true := by cases tv <;> simp_all [readSh, TV.isAgg]
    obtain ⟨n1, n2, n3, n4⟩ := hne
    obtain ⟨cs, g1, g2⟩ := rval_one n1 n2 n3 hv
    obtain ⟨k1, k2, k3, k4⟩ := readSh_rv (θ2 := θ2) hH hY (.pr s t) n tv cs y hr g2 hθ hl
    exact ⟨⟨cs, by rw [n4] at g1; exact g1, k1⟩, k2, k3, k4⟩

def cntL : List Sh → Nat
  | [] => 0
  | s :: l => s.cnt + cntL l

theorem readCh_sound {θ2 : Nat → Option Own} (hH : HRel w X θ base H) (hY : ∀ b, Y b → X b) : ∀ (l : List Sh) (n : Nat) (c : TV) (vs : List Value) (y : shDen l), readCh H c l = some y → RV w X θ true c vs →
    (∀ j, j < cntL l → θ2 (n + j) = takes θ (slotsL l c.list) j) → (∀ i ∈ lentL l c.list, ∀ b, baseAt θ i = some b → ¬ Y b) →
    RV w Y θ2 true (mkCh n l y) vs ∧ (∀ i, some i ∈ slotsL l c.list → (hget H i).isSome = true) ∧ (∀ i ∈ lentL l c.list, (hget H i).isSome = true) ∧ (slotsL l c.list).length = cntL l ∧ ∀ k b, hget (mkHs n l y) k = some b → BlkRel w Y θ2 base k b
  | [], n, c, vs, y, hr, hv, _, _ => by
    have hc : ∃ x, c = .pv .unit x := by
      cases c with
      | pv t x => cases t <;> simp [readCh] at hr <;> exact ⟨x, rfl⟩
      | _ => simp [readCh] at hr
    obtain ⟨x, rfl⟩ := hc
    exact ⟨hv, fun i hi => by simp [slotsL] at hi, fun i hi => by simp [lentL] at hi, rfl, fun k b hb => by simp [mkHs, hget] at hb⟩
  | [s], n, c, vs, y, hr, hv, hθ, hl => by
    have hc : ∃ a x, c = .pr a (.pv .unit x) ∧ readSh H a s = some y := by
      cases c with
      | pr a b => cases b with
        | pv t x => cases t <;> simp only [readCh] at hr <;> first | exact ⟨a, x, rfl, hr⟩ | cases hr
        | _ => simp [readCh] at hr
      | pv t x => cases t <;> simp [readCh] at hr
      | _ => simp [readCh] at hr
    obtain ⟨a, x, rfl, hr⟩ := hc
    obtain ⟨v, r, h0, g1, g2⟩ := chain_parts hv
    have e1 : slotsL [s] (TV.list (.pr a (.pv .unit x))) = s.slots a := by simp [TV.list, slotsL]
    have e2 : lentL [s] (TV.list (.pr a (.pv .unit x))) = s.lent a := by simp [TV.list, lentL]
    rw [e1] at hθ ⊢
    rw [e2] at hl ⊢
    obtain ⟨m1, m2, m3, m4⟩ := readSh_sound (θ2 := θ2) (n := n) hH hY hr g1 (fun j hj => hθ j (by simpa [cntL] using hj)) hl
    subst h0
    exact ⟨rv_chain_cons m1 (mkSh_notup n s y) g2, m2, m3, by simp [cntL, slots_length], m4⟩
  | s :: t :: l, n, c, vs, y, hr, hv, hθ, hl => by
    have hc : ∃ a b y1 y2, c = .pr a b ∧ readSh H a s = some y1 ∧ readCh H b (t :: l) = some y2 ∧ y = (y1, y2) := by
      cases c with
      | pr a b =>
        simp only [readCh] at hr
        split at hr
        · rename_i x z hx hz
          exact ⟨a, b, x, z, rfl, hx, hz, by simpa using hr.symm⟩
        · cases hr
      | pv t x => cases t <;> simp [readCh] at hr
      | _ => simp [readCh] at hr
    obtain ⟨a, b, y1, y2, rfl, hr1, hr2, rfl⟩ := hc
    obtain ⟨v, r, h0, g1, g2⟩ := chain_parts hv
    have e1 : slotsL (s :: t :: l) (TV.list (.pr a b)) = s.slots a ++ slotsL (t :: l) b.list := rfl
    have e2 : lentL (s :: t :: l) (TV.list (.pr a b)) = s.lent a ++ lentL (t :: l) b.list := rfl
    have e3 : cntL (s :: t :: l) = s.cnt + cntL (t :: l) := rfl
    rw [e1] at hθ ⊢
    rw [e2] at hl ⊢
    rw [e3] at hθ ⊢
    have l1 := slots_length s a
    obtain ⟨m1, m2, m3, m4⟩ := readSh_sound (θ2 := θ2) (n := n) hH hY hr1 g1 (fun j hj => by
      rw [hθ j (by omega)]
      unfold takes
      rw [List.getElem?_append_left (by omega)]) (fun i hi => hl i (List.mem_append_left _ hi))
    obtain ⟨n1, n2, n3, n4, n5⟩ := readCh_sound (θ2 := θ2) hH hY (t :: l) (n + s.cnt) b r y2 hr2 g2 (fun j hj => by
      rw [Nat.add_assoc, hθ (s.cnt + j) (by omega)]
      unfold takes
      rw [List.getElem?_append_right (by omega), l1, Nat.add_sub_cancel_left]) (fun i hi => hl i (List.mem_append_right _ hi))
    subst h0
    refine ⟨rv_chain_cons m1 (mkSh_notup n s y1) n1, fun i hi => ?_, fun i hi => ?_, by rw [List.length_append, l1, n4], fun k bl hb => ?_⟩
    · rcases List.mem_append.1 hi with hi | hi
      · exact m2 i hi
      · exact n2 i hi
    · rcases List.mem_append.1 hi with hi | hi
      · exact m3 i hi
      · exact n3 i hi
    · simp only [mkHs, apH_get] at hb
      cases hh : hget (mkOne n s y1) k with
      | some b1 => rw [hh] at hb; simp only [Option.some_or, Option.some.injEq] at hb; subst hb; exact m4 k _ hh
      | none => rw [hh] at hb; simp only [Option.none_or] at hb; exact n5 k bl hb

/-- Results: what the caller takes is its own, what is lent is plain. -/
theorem readRes_sound (hH : HRel w (owned X θ H) θ base H) (hX : ∀ b, X b → b < base) {l : List Sh} {tv : TV} {v : Value} {y : shDen l} (hr : readRes H tv l = some y) (hv : RVal w (owned X θ H) θ tv v) :
    ∃ θ2, HRel w (owned X θ2 (mkH l y)) θ2 base (mkH l y) ∧ RVal w (owned X θ2 (mkH l y)) θ2 (mkTV l y) v := by
  -- a result or several
  have main : ∀ (sl : List (Option Nat)) (le : List Nat) (hok : idsOk sl le = true)
      (read : ∀ (Y : Nat → Prop), (∀ b, Y b → owned X θ H b) → (∀ i ∈ le, ∀ b, baseAt θ i = some b → ¬ Y b) →
        RVal w Y (takes θ sl) (mkTV l y) v ∧ (∀ i, some i ∈ sl → (hget H i).isSome = true) ∧ (∀ i ∈ le, (hget H i).isSome = true) ∧ ∀ k b, hget (mkH l y) k = some b → BlkRel w Y (takes θ sl) base k b),
      ∃ θ2, HRel w (owned X θ2 (mkH l y)) θ2 base (mkH l y) ∧ RVal w (owned X θ2 (mkH l y)) θ2 (mkTV l y) v := by
    intro sl le hok read
    simp only [idsOk, Bool.and_eq_true, List.all_eq_true] at hok
    obtain ⟨hone, hdis⟩ := hok
    obtain ⟨_, i1, i2, _⟩ := read (fun _ => False) (fun b h => h.elim) (fun i hi b hb h => h)
    let θ2 := takes θ sl
    let Y : Nat → Prop := fun b => X b ∨ ∃ k, baseAt θ2 k = some b
    have hY : ∀ b, Y b → owned X θ H b := fun b hb => by
      rcases hb with hb | ⟨k, hb⟩
      · exact .inl hb
      · obtain ⟨i, hi, hbi⟩ := takes_base hb
        exact .inr ⟨i, i1 i (List.mem_of_getElem? hi), hbi⟩
    have hl : ∀ i ∈ le, ∀ b, baseAt θ i = some b → ¬ Y b := by
      intro i hi b hb hy
      obtain ⟨bi, hbi⟩ := Option.isSome_iff_exists.1 (i2 i hi)
      rcases hy with hy | ⟨k, hy⟩
      · have := ((hH.blk i bi hbi).lt b hb).1
        have := hX b hy
        omega
      · obtain ⟨j, hj, hbj⟩ := takes_base hy
        have hij : j ≠ i := fun e => by
          have h1 := hdis i hi
          simp only [Bool.not_eq_true', List.any_eq_false] at h1
          exact h1 _ (List.mem_of_getElem? hj) (isNo_iff.2 (by rw [e]))
        exact hH.inj j i hij (i1 j (List.mem_of_getElem? hj)) (i2 i hi) b hbj hb
    obtain ⟨k1, _, _, k2⟩ := read Y hY hl
    have hsub : ∀ b, owned X θ2 (mkH l y) b → Y b := by
      intro b hb
      rcases hb with hb | ⟨k, _, h2⟩
      · exact .inl hb
      · exact .inr ⟨k, h2⟩
    have hst : Step Y (owned X θ2 (mkH l y)) w w := ⟨⟨fun _ => False, Keeps.refl _ w, fun _ _ h => h.elim⟩, fun b _ hb => hsub b hb⟩
    refine ⟨θ2, ⟨fun k b hb => ?_, fun i j hij h1 h2 b hbi hbj => ?_⟩, RVal.step hst _ v (fun _ _ => rfl) k1⟩
    · have hbl := k2 k b hb
      have := hbl.go hst (θ' := θ2) rfl (fun _ _ => rfl) (fun c => c) (fun c cs hc => RV.step hst false c cs (fun _ _ => rfl) hc) (fun c t h => h)
      cases b <;> exact this
    · obtain ⟨i', e1, f1⟩ := takes_base hbi
      obtain ⟨j', e2, f2⟩ := takes_base hbj
      have hne : i' ≠ j' := fun e => hij (distinct_spec hone i j i' e1 (by rw [e]; exact e2))
      exact hH.inj i' j' hne (i1 i' (List.mem_of_getElem? e1)) (i1 j' (List.mem_of_getElem? e2)) b f1 f2
  match l, y, hr, main with
  | [s], y, hr, main =>
    simp only [readRes] at hr
    obtain ⟨h1, hr⟩ := cond_some hr
    exact main (s.slots tv) (s.lent tv) h1 fun Y hY hl => readSh_sound (n := 0) hH hY hr hv (fun j _ => by rw [Nat.zero_add]) hl
  | [], y, hr, main =>
    have hc : ∃ c, tv = .tup c ∧ readCh H c [] = some y := by
      cases tv <;> simp only [readRes] at hr <;> first | exact ⟨_, rfl, hr⟩ | cases hr
    obtain ⟨c, rfl, hr⟩ := hc
    obtain ⟨vs, k1, k2⟩ := hv
    refine main [] [] rfl fun Y hY hl => ?_
    obtain ⟨m1, m2, m3, _, m4⟩ := readCh_sound (θ2 := takes θ []) hH hY [] 0 c vs y hr k2 (fun j hj => by simp [cntL] at hj) (fun i hi => by simp [lentL] at hi)
    exact ⟨⟨vs, k1, m1⟩, fun i hi => by simp at hi, fun i hi => by simp at hi, m4⟩
  | s :: t :: l, y, hr, main =>
    have hc : ∃ c, tv = .tup c ∧ idsOk (slotsL (s :: t :: l) c.list) (lentL (s :: t :: l) c.list) = true ∧ readCh H c (s :: t :: l) = some y := by
      cases tv with
      | tup c =>
        simp only [readRes] at hr
        obtain ⟨h1, h2⟩ := cond_some hr
        exact ⟨c, rfl, h1, h2⟩
      | _ => simp [readRes] at hr
    obtain ⟨c, rfl, hok, hr⟩ := hc
    obtain ⟨vs, k1, k2⟩ := hv
    refine main _ _ hok fun Y hY hl => ?_
    obtain ⟨m1, m2, m3, _, m4⟩ := readCh_sound hH hY (s :: t :: l) 0 c vs y hr k2 (fun j _ => by rw [Nat.zero_add]) hl
    exact ⟨⟨vs, k1, m1⟩, m2, m3, m4⟩

/-- A function's contract, out of its text. -/
theorem con_of_fn (hT : TabsOk P cx) {depth : Nat} {f : FuncId} {i : Inl} {c : Con} (hi : InlOk P f i) (hrun : ∀ xs y, c.raw xs = some y → fnK cx depth f i c.sh (argsTV c.ps xs) = some y) : ConOk P f c := by
  intro w X args xs y hX hargs hraw
  have hp := hrun xs y hraw
  refine .inl ⟨hi.enter args w, ?_⟩
  obtain ⟨⟨fd, f1, f2, f3, f4, _⟩, hfew⟩ := hi
  refine calls_of_wp f1 f2 ?_
  let θ0 : Nat → Option Own := fun _ => none
  obtain ⟨k1, k2⟩ := argsTV_rel (w := w) (X := owned X θ0 []) (θ := θ0) c.ps args.toList xs (by
    have : owned X θ0 [] = X := by funext b; simp [owned, hget]
    rw [this]; exact hargs)
  have hv : EnvRel w (owned X θ0 []) θ0 (argsTV c.ps xs) args := ⟨by simpa using k1, fun t tv ht => by
    obtain ⟨v, g1, g2⟩ := k2 t tv ht
    exact ⟨v, by simpa using g1, g2⟩⟩
  have hrel : Rel w X { env := argsTV c.ps xs ++ List.replicate (i.ntmps - (argsTV c.ps xs).length) .dead, stk := [], heap := [] } θ0 [] { tmps := args ++ Array.replicate (fd.ntmps - args.size) undef, defers := [] } w :=
    ⟨Keeps.refl _ w, hX, ⟨fun j b hb => by simp [hget] at hb, fun j k _ hj => by simp [hget] at hj⟩, by rw [f3]; exact env_start hv i.ntmps, trivial, rfl⟩
  have ih := callK_sound hT depth (w0 := w) (Xo := X) (R := shDen c.sh)
  refine wp_mono (exec_sound hT.tab ih (draw_sound hT.tab hT.mixed ih y) i.code _ θ0 _ w _ hp hrel) fun e ac w' ⟨x, σ', θ', hx, h', hp'⟩ => ?_
  subst hx
  have fin : finK cx i c.sh .ret σ' = some y → ac.defers = [] ∧ ∃ v, (results fd ac.tmps).run P w' = .ok v w' ∧ ∃ u, Ending.returned v = .returned u ∧ Keeps (fun _ => False) w w' ∧ ∃ θ, HRel w' (owned X θ (mkH c.sh y)) θ w.heap.size (mkH c.sh y) ∧ RVal w' (owned X θ (mkH c.sh y)) θ (mkTV c.sh y) u := by
    intro hfin
    simp only [finK] at hfin
    split at hfin
    · rename_i tv htv
      obtain ⟨v, g1, g2⟩ := res_sound hT.tab.c h' f4 hfew htv
      exact ⟨h'.defers, v, g1, v, rfl, h'.keeps, readRes_sound h'.heap hX hfin g2⟩
    · cases hfin
  cases x with
  | exit j => simp [finK] at hp'
  | normal => exact fin hp'
  | ret => exact fin hp'

end Go.Ai

/- The tables, checked against the program. -/
namespace Go.Ai
open Go.RowKit
set_option linter.unusedVariables false
set_option linter.unusedSimpArgs false

def hasSizeB (P : Program) (T : TypeId) (n : Nat) : Bool := match P.info? T with
  | some i => Nat.beq i.size n
  | none => false

theorem hasSizeB_spec {P : Program} {T : TypeId} {n : Nat} (h : hasSizeB P T n = true) : P.hasSize T n := by
  unfold hasSizeB at h
  unfold Program.hasSize
  split at h
  · rename_i i hi; rw [hi]; simp [beq_iff.1 h]
  · cases h

/-- Is a type of the program of a kind? -/
def tyB (P : Program) : Ty → (TypeId → Bool) × (Nat → List Field → Bool)
  | .int k => (fun T => (match P.underlying T with | some (.int j) => decide (j = k) | _ => false) && hasSizeB P T 1, fun _ _ => false)
  | .bool => (fun T => (match P.underlying T with | some .bool => true | _ => false) && hasSizeB P T 1, fun _ _ => false)
  | .str => (fun T => (match P.underlying T with | some .string => true | _ => false) && hasSizeB P T 1, fun _ _ => false)
  | .slice e => (fun T => (match P.underlying T with | some (.slice E) => (tyB P e).1 E | _ => false) && hasSizeB P T 1, fun _ _ => false)
  | .arr n e => (fun T => (match P.underlying T with | some (.array m E) => Nat.beq m n && (tyB P e).1 E | _ => false) && hasSizeB P T (n * e.size), fun _ _ => false)
  | .unit => (fun T => (match P.underlying T with | some (.struct fs) => fs.toList.isEmpty | _ => false) && hasSizeB P T 0 && !P.stoodInHeld T, fun _ fs => fs.isEmpty)
  | .pair a b => (fun T => (match P.underlying T with
      | some (.struct fs) => match fs.toList with
        | f :: r => Nat.beq f.offset 0 && !decide (f.name = "_") && (tyB P a).1 f.type && (tyB P b).2 a.size r
        | [] => false
      | _ => false) && hasSizeB P T (a.size + b.size) && !P.stoodInHeld T,
      fun off fs => match fs with
        | f :: r => Nat.beq f.offset off && !decide (f.name = "_") && (tyB P a).1 f.type && (tyB P b).2 (off + a.size) r
        | [] => false)
  | .ref _ => (fun _ => false, fun _ _ => false)
  | .opt _ => (fun T => (match P.underlying T with | some (.pointer _) => true | some (.func ..) => true | _ => false) && hasSizeB P T 1, fun _ _ => false)

theorem tyB_spec {P : Program} : (t : Ty) → (∀ T, (tyB P t).1 T = true → (TyIs P t).1 T) ∧ (∀ off fs, (tyB P t).2 off fs = true → (TyIs P t).2 off fs) := by
  intro t
  induction t with
  | int k =>
    refine ⟨fun T h => ?_, fun off fs h => by cases h⟩
    simp only [tyB, Bool.and_eq_true] at h
    obtain ⟨h1, h2⟩ := h
    split at h1
    · rename_i j hj; simp only [decide_eq_true_eq] at h1; subst h1; exact ⟨hj, hasSizeB_spec h2⟩
    · cases h1
  | bool =>
    refine ⟨fun T h => ?_, fun off fs h => by cases h⟩
    simp only [tyB, Bool.and_eq_true] at h
    obtain ⟨h1, h2⟩ := h
    split at h1
    · rename_i hj; exact ⟨hj, hasSizeB_spec h2⟩
    · cases h1
  | str =>
    refine ⟨fun T h => ?_, fun off fs h => by cases h⟩
    simp only [tyB, Bool.and_eq_true] at h
    obtain ⟨h1, h2⟩ := h
    split at h1
    · rename_i hj; exact ⟨hj, hasSizeB_spec h2⟩
    · cases h1
  | slice e ih =>
    refine ⟨fun T h => ?_, fun off fs h => by cases h⟩
    simp only [tyB, Bool.and_eq_true] at h
    obtain ⟨h1, h2⟩ := h
    split at h1
    · rename_i E hj; exact ⟨⟨E, hj, ih.1 E h1⟩, hasSizeB_spec h2⟩
    · cases h1
  | arr n e ih =>
    refine ⟨fun T h => ?_, fun off fs h => by cases h⟩
    simp only [tyB, Bool.and_eq_true] at h
    obtain ⟨h1, h2⟩ := h
    split at h1
    · rename_i m E hj
      simp only [Bool.and_eq_true] at h1
      obtain ⟨h3, h4⟩ := h1
      have := beq_iff.1 h3
      subst this
      exact ⟨⟨E, hj, ih.1 E h4⟩, hasSizeB_spec h2⟩
    · cases h1
  | unit =>
    refine ⟨fun T h => ?_, fun off fs h => ?_⟩
    · simp only [tyB, Bool.and_eq_true] at h
      obtain ⟨⟨h1, h2⟩, h3⟩ := h
      split at h1
      · rename_i fs hj; exact ⟨⟨fs, hj, by simpa using h1⟩, hasSizeB_spec h2, by simpa using h3⟩
      · cases h1
    · show fs = []
      simpa [tyB] using h
  | pair a b iha ihb =>
    refine ⟨fun T h => ?_, fun off fs h => ?_⟩
    · simp only [tyB, Bool.and_eq_true] at h
      obtain ⟨⟨h1, h2⟩, h3⟩ := h
      split at h1
      · rename_i fs hj
        split at h1
        · rename_i f r hf
          simp only [Bool.and_eq_true] at h1
          obtain ⟨⟨⟨k1, k2⟩, k3⟩, k4⟩ := h1
          exact ⟨⟨fs, hj, f, r, hf, beq_iff.1 k1, by simpa using k2, iha.1 _ k3, ihb.2 _ _ k4⟩, hasSizeB_spec h2, by simpa using h3⟩
        · cases h1
      · cases h1
    · simp only [tyB] at h
      split at h
      · rename_i f r
        simp only [Bool.and_eq_true] at h
        obtain ⟨⟨⟨k1, k2⟩, k3⟩, k4⟩ := h
        exact ⟨f, r, rfl, beq_iff.1 k1, by simpa using k2, iha.1 _ k3, ihb.2 _ _ k4⟩
      · cases h
  | ref e ih => exact ⟨fun T h => (by cases h), fun off fs h => (by cases h)⟩
  | opt e =>
    refine ⟨fun T h => ?_, fun off fs h => by cases h⟩
    simp only [tyB, Bool.and_eq_true] at h
    obtain ⟨h1, h2⟩ := h
    split at h1
    · rename_i E hj; exact ⟨.inl ⟨E, hj⟩, hasSizeB_spec h2⟩
    · rename_i x y z hj; exact ⟨.inr ⟨x, y, z, hj⟩, hasSizeB_spec h2⟩
    · cases h1

def valB : Value → Value → Bool
  | .int j m, .int k n => decide (j = k) && decide (m = n)
  | .bool a, .bool b => a == b
  | .string s, .string t => Nat.beq s.size 0 && Nat.beq t.size 0
  | .slice none a b, .slice none c d => Nat.beq a c && Nat.beq b d
  | .pointer none, .pointer none => true
  | _, _ => false

theorem valB_spec {v u : Value} (h : valB v u = true) : v = u := by
  unfold valB at h
  split at h
  · simp only [Bool.and_eq_true, decide_eq_true_eq] at h; rw [h.1, h.2]
  · simp only [beq_iff_eq] at h; rw [h]
  · rename_i s t
    simp only [Bool.and_eq_true] at h
    have h1 := beq_iff.1 h.1
    have h2 := beq_iff.1 h.2
    have e : ∀ s : ByteArray, s.size = 0 → s = ⟨#[]⟩ := fun s hs => by
      cases s with
      | mk d => congr 1; exact Array.eq_empty_of_size_eq_zero hs
    rw [e s h1, e t h2]
  · simp only [Bool.and_eq_true] at h; rw [beq_iff.1 h.1, beq_iff.1 h.2]
  · rfl
  · cases h

def valsB : List Value → List Value → Bool
  | [], [] => true
  | a :: x, b :: y => valB a b && valsB x y
  | _, _ => false
theorem valsB_spec : ∀ {x y : List Value}, valsB x y = true → x = y
  | [], [], _ => rfl
  | a :: x, b :: y, h => by
    simp only [valsB, Bool.and_eq_true] at h
    rw [valB_spec h.1, valsB_spec h.2]
  | [], _ :: _, h => by cases h
  | _ :: _, [], h => by cases h

/-- One row of the tables. -/
def rowB (P : Program) (cx : Cx) (T : Nat) (s : Ty) : Bool :=
  (tyB P s).1 T && Nat.blt s.height 10000 && (s.hasRef || !P.eqGuardType P.depth T) &&
  (!cx.zok T || match P.info? T with
    | some i => (match i.zero with | some z => valsB z.cells.toList s.zcells | none => false) && Nat.beq i.bytes (cx.bytes T)
    | none => false) &&
  (match s with
    | .slice _ => (match P.underlying T with | some (.slice E) => Nat.beq E (cx.elem T) | _ => false)
    | _ => true)

theorem run_zeroValue {P : Program} {T : TypeId} {i : TypeInfo} {z : Value} (h : P.info? T = some i) (hz : i.zero = some z) (w : World) : (zeroValue T).run P w = .ok z w := by
  simp [zeroValue, typeInfo, h, hz]

theorem tab_of_rows {P : Program} {cx : Cx} (h : ∀ T s, cx.ty T = some s → rowB P cx T s = true) : TabOk P cx := by
  have key : ∀ T s, cx.ty T = some s → ((tyB P s).1 T = true ∧ Nat.blt s.height 10000 = true ∧ (s.hasRef || !P.eqGuardType P.depth T) = true ∧ (!cx.zok T || match P.info? T with
    | some i => (match i.zero with | some z => valsB z.cells.toList s.zcells | none => false) && Nat.beq i.bytes (cx.bytes T)
    | none => false) = true ∧ (match s with
    | .slice _ => (match P.underlying T with | some (.slice E) => Nat.beq E (cx.elem T) | _ => false)
    | _ => true) = true) := fun T s hs => by
      have := h T s hs
      unfold rowB at this
      simp only [Bool.and_eq_true] at this
      obtain ⟨⟨⟨⟨k1, k2⟩, k3⟩, k4⟩, k5⟩ := this
      exact ⟨k1, k2, k3, k4, k5⟩
  refine ⟨⟨fun T s hs => (tyB_spec s).1 T (key T s hs).1, fun T s hs hn => ?_, fun T s hs => by have := (key T s hs).2.1; simpa [Nat.blt_eq] using this⟩, ⟨fun T s hs hz => ?_⟩, ⟨fun T e hs => ?_, fun T s i hs hi => ?_⟩⟩
  · have := (key T s hs).2.2.1
    rw [hn] at this
    simpa using this
  · have := (key T s hs).2.2.2.1
    rw [hz] at this
    simp only [Bool.not_true, Bool.false_or] at this
    split at this
    · rename_i i hi
      simp only [Bool.and_eq_true] at this
      obtain ⟨h1, h2⟩ := this
      split at h1
      · rename_i z hzz
        exact ⟨i, z, hi, hzz, valsB_spec h1, run_zeroValue hi hzz⟩
      · cases h1
    · cases this
  · have := (key T _ hs).2.2.2.2
    simp only at this
    split at this
    · rename_i E hE; rw [hE, beq_iff.1 this]
    · cases this
  · cases hz : cx.zok T with
    | false => exact .inr rfl
    | true =>
      have := (key T s hs).2.2.2.1
      rw [hz, hi] at this
      simp only [Bool.not_true, Bool.false_or, Bool.and_eq_true] at this
      exact .inl (beq_iff.1 this.2)

/-- Rows by number. -/
def rowsB (P : Program) (cx : Cx) : Nat → List (Option Ty) → Bool
  | _, [] => true
  | T, none :: r => rowsB P cx (T + 1) r
  | T, some s :: r => rowB P cx T s && rowsB P cx (T + 1) r

theorem rowsB_spec {P : Program} {cx : Cx} : ∀ (l : List (Option Ty)) (T0 : Nat), rowsB P cx T0 l = true → ∀ (T : Nat) (s : Ty), l.getD T none = some s → rowB P cx (T0 + T) s = true
  | [], T0, _, T, s, h => by simp at h
  | q :: l, T0, hb, T, s, h => by
    cases T with
    | zero =>
      have : q = some s := by simpa using h
      subst this
      simp only [rowsB, Bool.and_eq_true] at hb
      exact hb.1
    | succ T =>
      have hb' : rowsB P cx (T0 + 1) l = true := by
        cases q with
        | none => exact hb
        | some s0 => simp only [rowsB, Bool.and_eq_true] at hb; exact hb.2
      have := rowsB_spec l (T0 + 1) hb' T s (by simpa using h)
      rwa [show T0 + 1 + T = T0 + (T + 1) by omega] at this

/-- The tables' machine: contracts and cuts beside. -/
def mkCx (tys : List (Option Ty)) (bytes elem nozero : List Nat) (inl : FuncId → Option Inl) (con : FuncId → Option Con) (cut : FuncId → Nat → Option Cut) (fuel : Nat) : Cx :=
  { ty := fun n => tys.getD n none, bytes := fun n => bytes.getD n 0, elem := fun n => elem.getD n 0, zok := fun n => !(nozero.any (Nat.beq n)), con, inl, cut, fuel }

theorem tab_mk {P : Program} {tys : List (Option Ty)} {bytes elem nozero : List Nat} (h : rowsB P (mkCx tys bytes elem nozero (fun _ => none) (fun _ => none) (fun _ _ => none) 0) 0 tys = true) (inl : FuncId → Option Inl) (con : FuncId → Option Con) (cut : FuncId → Nat → Option Cut) (fuel : Nat) :
    TabOk P (mkCx tys bytes elem nozero inl con cut fuel) := by
  have := tab_of_rows (P := P) (cx := mkCx tys bytes elem nozero (fun _ => none) (fun _ => none) (fun _ _ => none) 0) fun T s hs => by
    have := rowsB_spec tys 0 h T s hs
    rwa [Nat.zero_add] at this
  obtain ⟨⟨a1, a2, a3⟩, ⟨b1⟩, ⟨c1, c2⟩⟩ := this
  exact ⟨⟨a1, a2, a3⟩, ⟨b1⟩, ⟨c1, c2⟩⟩

theorem look_spec {α : Type} {Q : Nat → α → Prop} : ∀ (l : List (Nat × α)), (∀ q ∈ l, Q q.1 q.2) → ∀ n a, look l n = some a → Q n a
  | [], _, n, a, h => by cases h
  | (j, b) :: r, hq, n, a, h => by
    simp only [look] at h
    by_cases e : j = n
    · simp only [beq_iff.2 e, cond, Option.some.injEq] at h
      subst h; subst e
      exact hq (j, b) (by simp)
    · simp only [beq_false e, cond] at h
      exact look_spec r (fun q hm => hq q (by simp [hm])) n a h

/-- A function of the program, for 'InlOk'. -/
theorem inlOk_of {P : Program} {f : FuncId} {fn : Func} {c : Code} (hf : P.funcs[f]? = some fn) (hb : fn.body = some c) (hn : (fn.name == "runtime.NumGoroutine") = false) (hr : Nat.ble fn.results.toList.length 5 = true) :
    InlOk P f { code := c, ntmps := fn.ntmps, results := fn.results.toList } :=
  ⟨⟨fn, hf, hb, rfl, rfl, hn⟩, Nat.le_of_ble_eq_true hr⟩

/-- Something of every row. -/
def AllQ {α : Type} (Q : Nat → α → Prop) : List (Nat × α) → Prop
  | [] => True
  | q :: r => Q q.1 q.2 ∧ AllQ Q r

theorem look_all {α : Type} {Q : Nat → α → Prop} : ∀ (l : List (Nat × α)), AllQ Q l → ∀ n a, look l n = some a → Q n a
  | [], _, n, a, h => by cases h
  | (j, b) :: r, hq, n, a, h => by
    simp only [look] at h
    by_cases e : j = n
    · simp only [beq_iff.2 e, cond, Option.some.injEq] at h
      subst h; subst e
      exact hq.1
    · simp only [beq_false e, cond] at h
      exact look_all r hq.2 n a h

end Go.Ai

/- What printed texts use. -/
namespace Go.Ai
theorem condC {α : Type} {c : Bool} {a a' b b' : α} (h : a = a') (k : b = b') : cond c a b = cond c a' b' := by rw [h, k]
theorem bindC {α β : Type} {x : Option α} {f g : α → Option β} (h : ∀ a, f a = g a) : bindO x f = bindO x g := by
  have : f = g := funext h
  rw [this]
theorem bothC {α : Type} {a a' b b' : Option α} (h : a = a') (k : b = b') : bothO a b = bothO a' b' := by rw [h, k]
namespace G
theorem fuel_ex : ∃ n : Nat, n = 18446744073709551616 := ⟨_, rfl⟩
/-- How many rounds a loop is followed for: a number that nothing reckons out. -/
noncomputable def FUEL : Nat := Classical.choose fuel_ex
theorem fuel_eq : FUEL = 18446744073709551616 := Classical.choose_spec fuel_ex
end G
end Go.Ai

/- A statement's arguments as plain values. -/
namespace Go.Ai
open Go.RowKit
set_option linter.unusedVariables false
set_option linter.unusedSimpArgs false

variable {H : Type} {enc : TypeId × Value → H} {P : Program} {w : World} {X : Nat → Prop} {base : Nat} {spare : Nat → Bool} {held : Bool}

/-- Kinds of plain data. -/
def Ty.data : Ty → Bool
  | .slice e => e.data
  | .arr _ e => e.data
  | .pair a b => a.data && b.data
  | .ref _ => false
  | .opt _ => false
  | _ => true

theorem cellsOf_of {T : TypeId} {n : Nat} (h : P.hasSize T n) : P.cellsOf T = n := by
  unfold Program.hasSize at h
  simp [Program.cellsOf, h]

theorem cells_get {a : Addr} {n : Nat} {cs : List Value} (h : w.cells? base a n = some cs) : cs.length = n ∧ ∀ i, i < n → w.cell? (a.add i) = cs[i]? := by
  unfold World.cells? at h
  split at h
  · refine ⟨by simpa using mapM_some_length h, fun i hi => ?_⟩
    exact mapM_some_get h i i (by simp [hi])
  · cases h

theorem addr_add_add (a : Addr) (n m : Nat) : (a.add n).add m = a.add (n + m) := by
  unfold Addr.add
  by_cases hn : n = 0 <;> by_cases hm : m = 0 <;> simp [hn, hm, Nat.add_assoc]

/-- Elements, one behind the other. -/
theorem gather {e : Ty} {size : Nat} {a : Addr} {R : List Value → e.den → Prop} (hl : ∀ c x, R c x → c.length = size) :
    ∀ n, (∀ i, i < n → ∃ cs x, w.cells? base (a.add (i * size)) size = some cs ∧ R cs x) →
      ∃ (ds : List Value) (xs : List e.den), xs.length = n ∧ ds.length = n * size ∧ chunks R ds xs ∧ ∀ j, j < ds.length → w.cell? (a.add j) = ds[j]?
  | 0, _ => ⟨[], [], rfl, by simp, rfl, fun j hj => by simp at hj⟩
  | n + 1, h => by
    obtain ⟨ds, xs, h1, h2, h3, h4⟩ := gather hl n (fun i hi => h i (by omega))
    obtain ⟨cs, x, k1, k2⟩ := h n (by omega)
    obtain ⟨m1, m2⟩ := cells_get k1
    refine ⟨ds ++ cs, xs ++ [x], by simp [h1], by simp [h2, m1, Nat.add_mul], chunks_append h3 ⟨cs, [], by simp, k2, rfl⟩, fun j hj => ?_⟩
    rw [List.getElem?_append]
    split
    · rename_i hlt; exact h4 j hlt
    · rename_i hge
      have hj2 : j - ds.length < size := by simp at hj; omega
      rw [← m2 (j - ds.length) hj2]
      have hge2 : n * size ≤ j := by rw [h2] at hge; omega
      have e1 : n * size + (j - n * size) = j := by omega
      congr 1
      rw [h2, addr_add_add, e1]

theorem trod_rep : (t : Ty) → t.data = true → (∀ T fuel cs y, (TyIs P t).1 T → DataW.trod enc P w base spare held fuel T cs = some y → ∃ x, Rep w (fun _ => False) t cs x) ∧
    (∀ off fs fuel (cs : List Value), (TyIs P t).2 off fs → (∀ f ∈ fs, ∃ y, DataW.trod enc P w base spare held fuel f.type ((cs.drop f.offset).take (P.cellsOf f.type)) = some y) → ∃ x, Rep w (fun _ => False) t ((cs.drop off).take t.size) x) := by
  intro t
  induction t with
  | int k =>
    refine fun _ => ⟨fun T fuel cs y h hy => ?_, fun off fs fuel cs h => h.elim⟩
    obtain ⟨n, rfl, _, h3⟩ := DataW.trod_int h.1 hy
    exact ⟨n, rfl, by simpa [Lit.wf, IntKind.has] using h3⟩
  | bool =>
    refine fun _ => ⟨fun T fuel cs y h hy => ?_, fun off fs fuel cs h => h.elim⟩
    obtain ⟨b, rfl, _⟩ := DataW.trod_bool h.1 hy
    exact ⟨b, rfl⟩
  | str =>
    refine fun _ => ⟨fun T fuel cs y h hy => ?_, fun off fs fuel cs h => h.elim⟩
    obtain ⟨s, rfl, _, h3⟩ := DataW.trod_string h.1 hy
    exact ⟨bytesI s, s, rfl, rfl, h3⟩
  | slice e ih =>
    refine fun hd => ⟨fun T fuel cs y h hy => ?_, fun off fs fuel cs h => h.elim⟩
    obtain ⟨⟨E, h1, h2⟩, _⟩ := h
    have hs := cellsOf_of (TyIs.size e E h2)
    rcases DataW.trod_slice h1 hy with ⟨rfl, _⟩ | ⟨a, len, cap, elems, rest, n, _, rfl, _, hb, hlc, hcm, hel, hel2, _, _⟩
    · exact ⟨[], none, 0, 0, [], rfl, rfl, Nat.le_refl _, Nat.zero_le _, rfl, .inl rfl⟩
    · rw [hs] at hel2
      obtain ⟨ds, xs, g1, g2, g3, g4⟩ := gather (w := w) (base := base) (a := a) (size := e.size) (R := Rep w (fun _ => False) e) (fun c x hx => Rep.length e c x hx) len (fun i hi => by
        have := hel2 i hi
        have hlt : i < elems.length := by omega
        rw [List.getElem?_eq_getElem hlt] at this
        obtain ⟨cs, k1, k2⟩ := Option.bind_eq_some_iff.1 this
        obtain ⟨x, hx⟩ := (ih hd).1 E n cs _ h2 k2
        exact ⟨cs, x, k1, hx⟩)
      refine ⟨xs, some a, len, cap, ds, rfl, g1.symm, hlc, hcm, g3, ?_⟩
      by_cases hne : ds = []
      · exact .inl hne
      · have hpos : 0 < ds.length := List.length_pos_iff.2 hne
        have h0 := g4 0 hpos
        rw [List.getElem?_eq_getElem hpos] at h0
        have hspot : a.spot = none := by
          cases hsp : a.spot with
          | none => rfl
          | some s => simp [Addr.add, World.cell?, hsp] at h0; split at h0 <;> simp_all
        obtain ⟨b, o, s⟩ := a
        simp only at hspot
        subst hspot
        refine .inr ⟨b, o, rfl, fun j u hu => ?_, fun h => h⟩
        have hj : j < ds.length := by
          rcases Nat.lt_or_ge j ds.length with h | h
          · exact h
          · rw [List.getElem?_eq_none h] at hu; cases hu
        have := g4 j hj
        rw [hu, Addr.add_lit] at this
        exact this
  | arr n e ih =>
    refine fun hd => ⟨fun T fuel cs y h hy => ?_, fun off fs fuel cs h => h.elim⟩
    obtain ⟨⟨E, h1, h2⟩, h3⟩ := h
    have hs := cellsOf_of (TyIs.size e E h2)
    have hT := cellsOf_of h3
    obtain ⟨xs, m, _, _, hl, hxl, hx⟩ := DataW.trod_array h1 hy
    rw [hs] at hx
    rw [hT] at hl
    have key : ∀ k, k ≤ n → ∃ zs : List e.den, zs.length = k ∧ chunks (Rep w (fun _ => False) e) (cs.take (k * e.size)) zs := by
      intro k
      induction k with
      | zero => intro _; exact ⟨[], rfl, by simp [chunks]⟩
      | succ k ihk =>
        intro hk
        obtain ⟨zs, z1, z2⟩ := ihk (by omega)
        have hg := hx k (by omega)
        have hlt : k < xs.length := by omega
        rw [List.getElem?_eq_getElem hlt] at hg
        obtain ⟨x, hx⟩ := (ih hd).1 E m _ _ h2 hg
        refine ⟨zs ++ [x], by simp [z1], ?_⟩
        have e1 : cs.take ((k + 1) * e.size) = cs.take (k * e.size) ++ ((cs.drop (k * e.size)).take e.size) := by
          rw [Nat.add_mul, Nat.one_mul, List.take_add]
        rw [e1]
        exact chunks_append z2 ⟨_, [], by simp, hx, rfl⟩
    obtain ⟨zs, z1, z2⟩ := key n (Nat.le_refl _)
    refine ⟨zs, z1, ?_⟩
    rwa [List.take_of_length_le (by omega)] at z2
  | unit =>
    refine fun _ => ⟨fun T fuel cs y h hy => ?_, fun off fs fuel cs h _ => ⟨(), by simp [Ty.size, Rep]⟩⟩
    obtain ⟨⟨fs, h1, _⟩, h2, _⟩ := h
    obtain ⟨xs, n, _, _, hl, _⟩ := DataW.trod_struct h1 hy
    rw [cellsOf_of h2] at hl
    exact ⟨(), List.eq_nil_of_length_eq_zero hl⟩
  | pair a b iha ihb =>
    intro hd
    simp only [Ty.data, Bool.and_eq_true] at hd
    have main : ∀ off fs fuel (cs : List Value), (TyIs P (.pair a b)).2 off fs → (∀ f ∈ fs, ∃ y, DataW.trod enc P w base spare held fuel f.type ((cs.drop f.offset).take (P.cellsOf f.type)) = some y) → ∃ x, Rep w (fun _ => False) (.pair a b) ((cs.drop off).take (Ty.pair a b).size) x := by
      intro off fs fuel cs ⟨f, r, he, ho, hn, h1, h2⟩ hall
      subst he
      obtain ⟨y, hy⟩ := hall f (by simp)
      obtain ⟨xa, ha⟩ := (iha hd.1).1 f.type fuel _ y h1 hy
      obtain ⟨xb, hb⟩ := (ihb hd.2).2 (off + a.size) r fuel cs h2 (fun g hg => hall g (by simp [hg]))
      rw [cellsOf_of (TyIs.size a _ h1), ho] at ha
      refine ⟨(xa, xb), _, _, ?_, ha, hb⟩
      simp only [Ty.size]
      rw [List.take_add, List.drop_drop]
    refine ⟨fun T fuel cs y h hy => ?_, main⟩
    obtain ⟨⟨fs, h1, f, r, hf, ho, hn, k1, k2⟩, h2, _⟩ := h
    obtain ⟨xs, n, _, _, hl, hxl, hx⟩ := DataW.trod_struct h1 hy
    obtain ⟨x, hxr⟩ := main 0 fs.toList n cs ⟨f, r, hf, ho, hn, k1, by simpa using k2⟩ (fun g hg => by
      obtain ⟨i, hi⟩ := List.getElem?_of_mem hg
      have hi' : fs[i]? = some g := by simpa using hi
      have hlt : i < xs.length := by
        rw [hxl]
        exact (Array.getElem?_eq_some_iff.1 hi').1
      rw [hx i g hi', List.getElem?_eq_getElem hlt]
      exact ⟨_, rfl⟩)
    rw [cellsOf_of h2] at hl
    refine ⟨x, ?_⟩
    rw [List.drop_zero, List.take_of_length_le (by simp [Ty.size]; omega)] at hxr
    exact hxr
  | ref e ih => intro hd; simp [Ty.data] at hd
  | opt e ih => intro hd; simp [Ty.data] at hd

theorem val_rep {r : Reach} {b0 : Nat} {t : Ty} {T : TypeId} {v : Value} {d : DataW H} {p : List MemPlace} (ht : (TyIs P t).1 T) (hd : t.data = true) (hok : Value.okWide P w r b0 T v) (h : DataW.Trod enc P w base spare held T v d p) :
    ∃ cs x, boxed t.isAgg v cs ∧ Rep w (fun _ => False) t cs x := by
  obtain ⟨fuel, hf⟩ := h
  obtain ⟨x, hx⟩ := (trod_rep t hd).1 T fuel _ _ ht hf
  have one : t.isAgg = false → (∀ c, v ≠ .agg c) → boxed t.isAgg v v.cells.toList := by
    intro ha hn
    have : v.cells = #[v] := by cases v <;> first | rfl | exact absurd rfl (hn _)
    rw [ha, this]
    rfl
  refine ⟨v.cells.toList, x, ?_, hx⟩
  unfold Value.okWide at hok
  cases t with
  | arr n e =>
    obtain ⟨⟨E, h1, _⟩, _⟩ := ht
    rw [h1] at hok
    obtain ⟨cs, rfl, _⟩ := hok
    simp [boxed, Ty.isAgg, Value.cells]
  | unit =>
    obtain ⟨⟨fs, h1, _⟩, _⟩ := ht
    rw [h1] at hok
    obtain ⟨cs, rfl, _⟩ := hok
    simp [boxed, Ty.isAgg, Value.cells]
  | pair a b =>
    obtain ⟨⟨fs, h1, _⟩, _⟩ := ht
    rw [h1] at hok
    obtain ⟨cs, rfl, _⟩ := hok
    simp [boxed, Ty.isAgg, Value.cells]
  | int k => exact one rfl fun c hc => by subst hc; rw [ht.1] at hok; simp [Cell.okWide, Cell.ok, ht.1] at hok
  | bool => exact one rfl fun c hc => by subst hc; rw [ht.1] at hok; simp [Cell.okWide, Cell.ok, ht.1] at hok
  | str => exact one rfl fun c hc => by subst hc; rw [ht.1] at hok; simp [Cell.okWide, Cell.ok, ht.1] at hok
  | slice e =>
    obtain ⟨⟨E, h1, _⟩, _⟩ := ht
    exact one rfl fun c hc => by subst hc; rw [h1] at hok; simp [Cell.okWide, Cell.ok, h1] at hok
  | ref e => simp [Ty.data] at hd
  | opt e => simp [Ty.data] at hd

/-- A statement's parameters, as a kind. -/
def PsIs (P : Program) : Ty → List TypeId → Prop
  | .unit, ts => ts = []
  | .pair a b, ts => ∃ T r, ts = T :: r ∧ (TyIs P a).1 T ∧ a.data = true ∧ PsIs P b r
  | _, _ => False

theorem args_rep {r : Reach} {b0 : Nat} : ∀ (t : Ty) (ts : List TypeId) (vs : List Value) (ds : List (DataW H)) (p : List MemPlace), PsIs P t ts → (∀ (j : Nat) T v, ts[j]? = some T → vs[j]? = some v → Value.okWide P w r b0 T v) →
    DataW.TrodAll enc P w base spare held ts vs ds p → ∃ xs, ArgsRep w (fun _ => False) t vs xs
  | .unit, ts, vs, ds, p, hp, _, h => by
    have : ts = [] := hp
    subst this
    obtain ⟨rfl, _⟩ := ChangeShapes.trodAll_nil h
    exact ⟨(), rfl⟩
  | .pair a b, ts, vs, ds, p, ⟨T, rr, ht, h1, h2, h3⟩, hok, h => by
    subst ht
    cases vs with
    | nil => cases ds <;> exact h.elim
    | cons v vs =>
      cases ds with
      | nil => exact h.elim
      | cons d ds =>
        obtain ⟨p1, q1, k1, k2, _⟩ := h
        obtain ⟨cs, x, g1, g2⟩ := val_rep h1 h2 (hok 0 T v rfl rfl) k1
        obtain ⟨xs, hxs⟩ := args_rep b rr vs ds q1 h3 (fun j U u hj hu => hok (j + 1) U u hj hu) k2
        exact ⟨(x, xs), v, vs, cs, rfl, g1, g2, hxs⟩
  | .int _, _, _, _, _, hp, _, _ | .bool, _, _, _, _, hp, _, _ | .str, _, _, _, _, hp, _, _ | .slice _, _, _, _, _, hp, _, _ | .arr _ _, _, _, _, _, hp, _, _ | .ref _, _, _, _, _, hp, _, _ | .opt _, _, _, _, _, hp, _, _ => by simp [PsIs] at hp

theorem trodAll_length : ∀ {ts : List TypeId} {vs : List Value} {ds : List (DataW H)} {p : List MemPlace}, DataW.TrodAll enc P w base spare held ts vs ds p → ds.length = ts.length
  | [], [], [], _, _ => rfl
  | t :: ts, v :: vs, d :: ds, _, ⟨_, _, _, h, _⟩ => by simp [trodAll_length h]
  | [], _ :: _, _, _, h => h.elim
  | [], [], _ :: _, _, h => h.elim
  | _ :: _, [], _, _, h => h.elim
  | _ :: _, _ :: _, [], _, h => h.elim

/-- Memory that was there reads as it did. -/
theorem trodAll_below {W W' : World} (hl : laidOutB P = true) (hb : Below W.heap.size W W') : ∀ {ts : List TypeId} {vs : List Value} {ds : List (DataW H)} {p : List MemPlace}, (ts.all fun t => P.readableRec t && decide (t < P.types.size)) = true →
    (∀ x ∈ p, x.block < W.heap.size) → DataW.TrodAll enc P W 0 (fun _ => true) true ts vs ds p → DataW.TrodAll enc P W' 0 (fun b => decide (b < W.heap.size)) true ts vs ds p
  | [], [], [], _, _, _, h => h
  | t :: ts, v :: vs, d :: ds, p, hr, hlt, ⟨p1, q1, h1, h2, h3⟩ => by
    simp only [List.all_cons, Bool.and_eq_true, decide_eq_true_eq] at hr
    subst h3
    exact ⟨p1, q1, Below.trod hl hr.1.1 hr.1.2 h1 hb (fun x hx => hlt x (List.mem_append_left _ hx)), trodAll_below hl hb hr.2 (fun x hx => hlt x (List.mem_append_right _ hx)) h2, rfl⟩
  | [], _ :: _, _, _, _, _, h => h.elim
  | [], [], _ :: _, _, _, _, h => h.elim
  | _ :: _, [], _, _, _, _, h => h.elim
  | _ :: _, _ :: _, [], _, _, _, h => h.elim

/-- The statement's words, out of a contract: it comes back with 'true'. -/
theorem law_contract {f : FuncId} {fn : Func} {i : Inl} {ps : Ty} {raw : ps.den → Option Bool} {s : ChangeSpec} {B : TypeId} (hcon : ConOk P f { ps := ps, sh := [.pl .bool], raw := raw }) (hi : InlOk P f i) (hps : PsIs P ps fn.params.toList) (hres : fn.resultTypes = #[B]) (hB : P.underlying B = some .bool)
    (hl : laidOutB P = true) (hr : (fn.params.toList.all fun t => P.readableRec t && decide (t < P.types.size)) = true) (hvars : s.vars = [])
    (hfn : ∀ (ds : List (DataW H)), ds.length = fn.params.toList.length → s.fn H ds = { results := [.lit (.bool true)], args := ds })
    {W : World} {b0 : Nat} {r : Reach} {args : Array Value} {ds gs : List (DataW H)} {before : List MemPlace} {apart : Bool}
    (hval : ∀ (j : Nat) t v, fn.params[j]? = some t → args[j]? = some v → Value.okWide P W r b0 t v)
    (hW : DataW.Whole enc P fn.params.toList s.vars apart W args.toList ds gs before)
    (hpre : ∀ xs, ArgsRep W (fun _ => False) ps args.toList xs → raw xs = some true) :
    Calls P f args W fun e W' => ∃ v, e = .returned v ∧ s.post enc P fn apart true false false W args v W' := by
  have hW' := hW
  obtain ⟨p, q, hA, hV, hpq, hfz, hnd⟩ := hW
  have hlt := hW'.lt
  rw [hvars] at hV
  obtain ⟨hgs, hq⟩ := ChangeShapes.trodVars_none hV
  obtain ⟨xs, hxs⟩ := args_rep ps fn.params.toList args.toList ds p hps (fun j T v hj hv => hval j T v (by simpa using hj) (by simpa using hv)) hA
  have hd := hcon W (fun _ => False) args xs true (fun b hb => hb.elim) hxs (hpre xs hxs)
  rcases hd with ⟨_, hd⟩ | ⟨v, w', hd, _⟩
  · refine hd.mono fun e W' ⟨v, he, hk, θ, hH, hv⟩ => ⟨v, he, ?_⟩
    have hvb := rval_bool hv
    subst hvb
    have hb : Below W.heap.size W W' := hk.below
    have hs : s.fn H (ds ++ gs) = { results := [.lit (.bool true)], args := ds } := by rw [hgs, List.append_nil]; exact hfn ds (trodAll_length hA)
    refine ⟨ds, gs, before, [], p, [], hW', ?_, ?_, ?_, hb.frame _, fun h => by cases h⟩
    · rw [hs, hres]
      exact ChangeShapes.trodAll_mk1 ⟨1, by simp [DataW.trod, Value.cells, hB]⟩
    · rw [hs]
      exact trodAll_below hl hb hr (fun x hx => hlt x (by rw [hpq]; exact List.mem_append_left _ hx)) hA
    · rw [hs, hvars]; rfl
  · rw [hi.enter args W] at hd; cases hd

end Go.Ai

/- What is known of a statement's plain arguments: each number fits its kind, each list is no longer than memory bears. -/
namespace Go.Ai
open Go.RowKit
set_option linter.unusedVariables false
set_option linter.unusedSimpArgs false

def Ty.ok : (t : Ty) → t.den → Prop
  | .int k, x => k.has x
  | .bool, _ => True
  | .str, xs => xs.length ≤ maxLen ∧ ∀ x ∈ xs, 0 ≤ x ∧ x < 256
  | .slice e, xs => xs.length ≤ maxLen ∧ ∀ x ∈ xs, e.ok x
  | .arr n e, xs => xs.length = n ∧ ∀ x ∈ xs, e.ok x
  | .unit, _ => True
  | .pair a b, x => a.ok x.1 ∧ b.ok x.2
  | .ref e, x => e.ok x
  | .opt _, none => True
  | .opt e, some x => e.ok x

theorem chunks_mem {α : Type} {R : List Value → α → Prop} {Q : α → Prop} (h : ∀ c x, R c x → Q x) : ∀ {xs : List α} {cs}, chunks R cs xs → ∀ x ∈ xs, Q x
  | [], _, _, x, hx => by simp at hx
  | y :: ys, cs, ⟨c1, c2, _, h1, h2⟩, x, hx => by
    rcases List.mem_cons.1 hx with hx | hx
    · subst hx; exact h _ _ h1
    · exact chunks_mem h h2 x hx

theorem Rep.ok {w : World} {X : Nat → Prop} : (t : Ty) → (cs : List Value) → (x : t.den) → Rep w X t cs x → t.ok x
  | .int k, _, x, h => h.2
  | .bool, _, _, _ => trivial
  | .str, _, x, ⟨s, _, h, hl⟩ => by
    subst h
    refine ⟨by rw [bytesI_length]; exact hl, fun y hy => ?_⟩
    unfold bytesI at hy
    obtain ⟨b, _, rfl⟩ := List.mem_map.1 hy
    have := b.toNat_lt
    omega
  | .slice e, _, xs, ⟨a, len, cap, ds, _, h2, h3, h4, h5, _⟩ => ⟨by omega, chunks_mem (fun c x hx => Rep.ok e c x hx) h5⟩
  | .arr n e, _, xs, ⟨h1, h2⟩ => ⟨h1, chunks_mem (fun c x hx => Rep.ok e c x hx) h2⟩
  | .unit, _, _, _ => trivial
  | .pair a b, _, x, ⟨c1, c2, _, h1, h2⟩ => ⟨Rep.ok a c1 _ h1, Rep.ok b c2 _ h2⟩
  | .ref e, _, x, ⟨b, o, ds, _, h, _⟩ => Rep.ok e ds x h
  | .opt _, _, none, _ => trivial
  | .opt e, _, some x, ⟨b, o, ds, _, h, _⟩ => Rep.ok e ds x h

theorem args_ok {w : World} {X : Nat → Prop} : (t : Ty) → (vs : List Value) → (x : t.den) → ArgsRep w X t vs x → t.ok x
  | .unit, _, _, _ => trivial
  | .pair a b, _, x, ⟨v, r, cs, _, _, h1, h2⟩ => ⟨Rep.ok a cs _ h1, args_ok b r _ h2⟩
  | .int _, _, _, h | .bool, _, _, h | .str, _, _, h | .slice _, _, _, h | .arr _ _, _, _, h | .ref _, _, _, h | .opt _, _, _, h => h.elim

def psB (cx : Cx) : Ty → List TypeId → Bool
  | .unit, [] => true
  | .pair a b, T :: r => decide (cx.ty T = some a) && a.data && psB cx b r
  | _, _ => false
theorem psIs_of {P : Program} {cx : Cx} (hC : CxOk P cx) : (t : Ty) → (ts : List TypeId) → psB cx t ts = true → PsIs P t ts
  | .unit, [], _ => rfl
  | .pair a b, T :: r, h => by
    simp only [psB, Bool.and_eq_true, decide_eq_true_eq] at h
    exact ⟨T, r, rfl, hC.ty T a h.1.1, h.1.2, psIs_of hC b r h.2⟩
  | .unit, _ :: _, h => by simp [psB] at h
  | .pair _ _, [], h => by simp [psB] at h
  | .int _, ts, h => by cases ts <;> simp [psB] at h
  | .bool, ts, h => by cases ts <;> simp [psB] at h
  | .str, ts, h => by cases ts <;> simp [psB] at h
  | .slice _, ts, h => by cases ts <;> simp [psB] at h
  | .arr _ _, ts, h => by cases ts <;> simp [psB] at h
  | .ref _, ts, h => by cases ts <;> simp [psB] at h
  | .opt _, ts, h => by cases ts <;> simp [psB] at h

theorem bindO_mk {α β : Type} (a : α) (f : α → Option β) : bindO (some a) f = f a := rfl
theorem bindO_no {α β : Type} (f : α → Option β) : bindO none f = none := rfl
theorem cond_mk {α : Type} (p : Bool) (a b : α) : cond p (some a) (some b) = some (cond p a b) := by cases p <;> rfl
end Go.Ai

