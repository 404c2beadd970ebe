/- An abstract machine over plain values for the model, and that it is sound. No conditions. -/
import Derived.Test.YthbjgkcgjehjkaaEa
import Derived.Laws.BytesString
import Derived.Great.BuildSlice
import Derived.Laws.CopyRow
/- Operations that hand back a value and leave memory as it was: arithmetic, tests. -/
namespace Go.Ai
open Go.RowKit
set_option linter.unusedVariables false
set_option linter.unusedSimpArgs false

variable {P : Program} {cx : Cx} {w : World} {X : Nat → Prop} {θ : Nat → Option Own} {h : Heap} {base : Nat} {ρ : Operand → TV} {a : Act} {R : Type} {r : R} {K : TV → Option R}

/-- The operation, once both sides are known. -/
def BinOk (P : Program) (w : World) (X : Nat → Prop) (θ : Nat → Option Own) (op : BinOp) (T : TypeId) (u v : Value) (tv : TV) : Prop :=
  ∃ y, (∀ x z : Operand, (eqGuard op T x z u v).run P w = .ok () w) ∧ (binOp op T u v).run P w = .ok y w ∧ RVal w X θ tv y

theorem has_bounds {k : IntKind} {x : Int} (h : k.has x) : (k.signed = false → 0 ≤ x) := by
  intro hs; have := h.1; simpa [IntKind.min, hs] using this

theorem has_shr {k : IntKind} {x : Int} (h : k.has x) (n : Nat) : k.has (x.fdiv (2 ^ n)) := by
  have hp : (0 : Int) < 2 ^ n := Int.pow_pos (by decide)
  rw [Int.fdiv_eq_ediv_of_nonneg _ (Int.le_of_lt hp)]
  have key : ∀ lo hi : Int, lo ≤ 0 → 0 ≤ hi → lo ≤ x → x ≤ hi → lo ≤ x / 2 ^ n ∧ x / 2 ^ n ≤ hi := by
    intro lo hi h1 h2 h3 h4
    generalize (2 : Int) ^ n = q at hp
    constructor
    · rw [Int.le_ediv_iff_mul_le hp]
      have : lo * q ≤ lo * 1 := Int.mul_le_mul_of_nonpos_left h1 (by omega)
      omega
    · by_cases hx : 0 ≤ x
      · have : x / q ≤ x := Int.ediv_le_self _ hx
        omega
      · have : x / q < 0 := Int.ediv_neg_of_neg_of_pos (by omega) hp
        omega
  unfold IntKind.has at *
  refine key _ _ ?_ ?_ h.1 h.2
  · cases k <;> simp [IntKind.min, IntKind.signed, IntKind.bits]
  · cases k <;> simp [IntKind.max, IntKind.signed, IntKind.bits]

theorem has_tmod {k : IntKind} {x y : Int} (h : k.has x) : k.has (x.tmod y) := by
  have key : ∀ lo hi : Int, lo ≤ 0 → 0 ≤ hi → lo ≤ x → x ≤ hi → lo ≤ x.tmod y ∧ x.tmod y ≤ hi := by
    intro lo hi h1 h2 h3 h4
    have hn : (x.tmod y).natAbs ≤ x.natAbs := by rw [Int.natAbs_tmod]; exact Nat.mod_le _ _
    by_cases hx : 0 ≤ x
    · have g1 : 0 ≤ x.tmod y := Int.tmod_nonneg _ hx
      omega
    · have hx' : 0 ≤ -x := by omega
      have e : x.tmod y = -((-x).tmod y) := by rw [Int.neg_tmod]; omega
      have g1 : 0 ≤ (-x).tmod y := Int.tmod_nonneg _ hx'
      omega
  unfold IntKind.has at *
  refine key _ _ ?_ ?_ h.1 h.2
  · cases k <;> simp [IntKind.min, IntKind.signed, IntKind.bits]
  · cases k <;> simp [IntKind.max, IntKind.signed, IntKind.bits]

theorem bin_int {op : BinOp} {T : TypeId} {xt : Option Ty} {k k' : IntKind} {x y : Int} (hx : k.has x) (hy : k'.has y) (hp : binK xt op (.pv (.int k) x) (.pv (.int k') y) K = some r) :
    ∃ tv, K tv = some r ∧ BinOk P w X θ op T (.int k x) (.int k' y) tv := by
  have hg : ∀ o : BinOp, ∀ c d : Operand, (eqGuard o T c d (.int k x) (.int k' y)).run P w = .ok () w := by intro o c d; cases o <;> simp [eqGuard]
  unfold binK at hp
  cases op
  case shl =>
    obtain ⟨h1, h2⟩ := cond_none hp
    have h1' : ¬ y < 0 := by simpa using h1
    exact ⟨_, h2, _, hg _, by simp [binOp, Op.shift, h1', shlI], mk_int (has_wrap _ _)⟩
  case shr =>
    obtain ⟨h1, h2⟩ := cond_none hp
    have h1' : ¬ y < 0 := by simpa using h1
    exact ⟨_, h2, _, hg _, by simp [binOp, Op.shift, h1', shrI], mk_int (has_shr hx _)⟩
  all_goals
    obtain ⟨h1, h2⟩ := cond_some hp
    have hk : k = k' := by simpa using h1
    subst hk
  case add => exact ⟨_, h2, _, hg _, by simp [binOp, Op.intArith], mk_int (has_wrap _ _)⟩
  case sub => exact ⟨_, h2, _, hg _, by simp [binOp, Op.intArith], mk_int (has_wrap _ _)⟩
  case mul => exact ⟨_, h2, _, hg _, by simp [binOp, Op.intArith], mk_int (has_wrap _ _)⟩
  case quo =>
    obtain ⟨h3, h4⟩ := cond_none h2
    have h3' : ¬ y = 0 := by simpa using h3
    exact ⟨_, h4, _, hg _, by simp [binOp, Op.intDiv, h3'], mk_int (has_wrap _ _)⟩
  case rem =>
    obtain ⟨h3, h4⟩ := cond_none h2
    have h3' : ¬ y = 0 := by simpa using h3
    exact ⟨_, h4, _, hg _, by simp [binOp, Op.intDiv, h3'], mk_int (has_tmod hx)⟩
  case and => exact ⟨_, h2, _, hg _, by simp [binOp, Op.intBits, bitI], mk_int (by simp only [bitI]; exact has_wrap _ _)⟩
  case or => exact ⟨_, h2, _, hg _, by simp [binOp, Op.intBits, bitI], mk_int (by simp only [bitI]; exact has_wrap _ _)⟩
  case xor => exact ⟨_, h2, _, hg _, by simp [binOp, Op.intBits, bitI], mk_int (by simp only [bitI]; exact has_wrap _ _)⟩
  case andNot => exact ⟨_, h2, _, hg _, by simp [binOp, Op.intBits, bitI], mk_int (by simp only [bitI]; exact has_wrap _ _)⟩
  case eql => exact ⟨_, h2, _, hg _, by simp [binOp, Op.intCmp]; rw [Bool.eq_iff_iff]; simp, mk_bool⟩
  case neq => exact ⟨_, h2, _, hg _, by simp [binOp, Op.intCmp]; rw [Bool.eq_iff_iff]; simp, mk_bool⟩
  case lss => exact ⟨_, h2, _, hg _, by simp [binOp, Op.intCmp], mk_bool⟩
  case leq => exact ⟨_, h2, _, hg _, by simp [binOp, Op.intCmp], mk_bool⟩
  case gtr => exact ⟨_, h2, _, hg _, by simp [binOp, Op.intCmp], mk_bool⟩
  case geq => exact ⟨_, h2, _, hg _, by simp [binOp, Op.intCmp], mk_bool⟩

theorem ltI_eq : ∀ (s t : List UInt8), Op.bytesLess s t = ltI (s.map fun b => (b.toNat : Int)) (t.map fun b => (b.toNat : Int))
  | s, [] => by cases s <;> rfl
  | [], _ :: _ => rfl
  | a :: s, b :: t => by
    simp only [Op.bytesLess, List.map_cons, ltI, ltI_eq s t]
    congr 1
    · rw [Bool.eq_iff_iff]; simp [UInt8.lt_iff_toNat_lt]
    · congr 1
      rw [Bool.eq_iff_iff]
      simp only [beq_iff_eq, decide_eq_true_eq]
      exact ⟨fun h => by rw [h], fun h => UInt8.toNat_inj.1 (by omega)⟩

theorem str_eq {s t : ByteArray} : (s.toList == t.toList) = decide (bytesI s = bytesI t) := by
  rw [ByteArray.toList_eq, ByteArray.toList_eq, Bool.eq_iff_iff]
  simp only [beq_iff_eq, decide_eq_true_eq]
  exact ⟨fun h => by unfold bytesI; rw [h], fun h => by rw [toList_inj_bytes h]⟩

theorem bytesI_append (s t : ByteArray) : bytesI (s ++ t) = bytesI s ++ bytesI t := by
  unfold bytesI
  rw [← List.map_append]
  congr 1

theorem bytesI_length (s : ByteArray) : (bytesI s).length = s.size := by simp [bytesI]

theorem bin_str {op : BinOp} {T : TypeId} {xt : Option Ty} {s t : ByteArray} (hs : s.size ≤ maxLen) (ht : t.size ≤ maxLen) (hp : binK xt op (.pv .str (bytesI s)) (.pv .str (bytesI t)) K = some r) :
    ∃ tv, K tv = some r ∧ BinOk P w X θ op T (.string s) (.string t) tv := by
  have hg : ∀ o : BinOp, ∀ c d : Operand, (eqGuard o T c d (.string s) (.string t)).run P w = .ok () w := by intro o c d; cases o <;> simp [eqGuard]
  have hlt : Op.bytesLess s.toList t.toList = ltI (bytesI s) (bytesI t) := by rw [ByteArray.toList_eq, ByteArray.toList_eq]; exact ltI_eq _ _
  unfold binK at hp
  cases op
  case add =>
    obtain ⟨h1, h2⟩ := cond_some hp
    simp only [decide_eq_true_eq, bytesI_length] at h1
    have hn : ¬ (((s.size + t.size : Nat) : Int) > IntKind.i64.max) := by simp [IntKind.max, IntKind.signed, IntKind.bits]; omega
    refine ⟨_, h2, .string (s ++ t), hg _, ?_, [.string (s ++ t)], rfl, s ++ t, rfl, (bytesI_append s t).symm, ?_⟩
    · simp only [binOp, Op.stringOp, if_neg hn]; rfl
    · unfold maxLen; simp only [ByteArray.size_append]; omega
  case eql => exact ⟨_, hp, _, hg _, by simp only [binOp, Op.stringOp, str_eq]; rfl, mk_bool⟩
  case neq => exact ⟨_, hp, _, hg _, by simp only [binOp, Op.stringOp, str_eq]; rfl, mk_bool⟩
  case lss => exact ⟨_, hp, _, hg _, by simp only [binOp, Op.stringOp, hlt]; rfl, mk_bool⟩
  case leq => exact ⟨_, hp, _, hg _, by simp only [binOp, Op.stringOp, hlt, str_eq]; rfl, mk_bool⟩
  case gtr => exact ⟨_, hp, _, hg _, by simp only [binOp, Op.stringOp, hlt, str_eq]; rfl, mk_bool⟩
  case geq => exact ⟨_, hp, _, hg _, by simp only [binOp, Op.stringOp, hlt]; rfl, mk_bool⟩
  all_goals simp at hp

theorem bin_other (hC : CxOk P cx) {op : BinOp} {T : TypeId} {s : Ty} {x y : s.den} {u v : Value} (hu : RVal w X θ (.pv s x) u) (hv : RVal w X θ (.pv s y) v) (hs : s.hasRef = false) (hT : cx.ty T = some s)
    (hni : ∀ k, s ≠ .int k) (hns : s ≠ .str) (ho : op = .eql ∨ op = .neq) :
    BinOk P w X θ op T u v (.pv .bool (if op = .eql then eqd s x y else !eqd s x y)) := by
  obtain ⟨cs, h1, h2⟩ := hu
  obtain ⟨ds, h3, h4⟩ := hv
  have he := run_equalIn_kind P w X Op.maxDepth s (by have := hC.high T s hT; simpa [Op.maxDepth] using this) hs T (hC.ty T s hT) x y cs ds u v h2 h4 h1 h3
  have hgt := hC.eqg T s hT hs
  have key : (∀ c d : Operand, ∀ o, (eqGuard o T c d u v).run P w = .ok () w) ∧ (binOp .eql T u v).run P w = .ok (.bool (eqd s x y)) w ∧ (binOp .neq T u v).run P w = .ok (.bool (!eqd s x y)) w := by
    cases s with
    | int k => exact absurd rfl (hni k)
    | str => exact absurd rfl hns
    | slice e => simp [Ty.hasRef] at hs
    | ref e => simp [Ty.hasRef] at hs
    | opt e => simp [Ty.hasRef] at hs
    | bool =>
      have hu' := rval_bool (w := w) (X := X) (θ := θ) ⟨cs, h1, h2⟩
      have hv' := rval_bool (w := w) (X := X) (θ := θ) ⟨ds, h3, h4⟩
      subst hu'; subst hv'
      refine ⟨fun c d o => by cases o <;> simp [eqGuard], ?_, ?_⟩ <;> simp [binOp, Op.equal, he]
    | arr n e =>
      have hu' : u = .agg cs.toArray := by simpa [boxed, TV.isAgg, Ty.isAgg] using h1
      have hv' : v = .agg ds.toArray := by simpa [boxed, TV.isAgg, Ty.isAgg] using h3
      subst hu'; subst hv'
      refine ⟨fun c d o => run_eqGuard_agg w o T c d _ _ hgt, ?_, ?_⟩ <;> simp [binOp, Op.equal, he]
    | unit =>
      have hu' : u = .agg cs.toArray := by simpa [boxed, TV.isAgg, Ty.isAgg] using h1
      have hv' : v = .agg ds.toArray := by simpa [boxed, TV.isAgg, Ty.isAgg] using h3
      subst hu'; subst hv'
      refine ⟨fun c d o => run_eqGuard_agg w o T c d _ _ hgt, ?_, ?_⟩ <;> simp [binOp, Op.equal, he]
    | pair a b =>
      have hu' : u = .agg cs.toArray := by simpa [boxed, TV.isAgg, Ty.isAgg] using h1
      have hv' : v = .agg ds.toArray := by simpa [boxed, TV.isAgg, Ty.isAgg] using h3
      subst hu'; subst hv'
      refine ⟨fun c d o => run_eqGuard_agg w o T c d _ _ hgt, ?_, ?_⟩ <;> simp [binOp, Op.equal, he]
  rcases ho with rfl | rfl
  · exact ⟨_, fun c d => key.1 c d _, key.2.1, by simp; exact mk_bool⟩
  · exact ⟨_, fun c d => key.1 c d _, key.2.2, by simp; exact mk_bool⟩

theorem binK_other {xt : Option Ty} {op : BinOp} {s t : Ty} {m : s.den} {n : t.den} (h1 : ∀ k k', ¬ (s = .int k ∧ t = .int k')) (h2 : ¬ (s = .str ∧ t = .str)) :
    binK xt op (.pv s m) (.pv t n) K = if h : t = s then cond (s.hasRef || !decide (xt = some s)) none (match op with
      | .eql => K (.pv .bool (eqd s m (h ▸ n)))
      | .neq => K (.pv .bool (!eqd s m (h ▸ n)))
      | _ => none) else none := by
  cases s <;> cases t <;> first
    | rfl
    | exact absurd ⟨rfl, rfl⟩ (h1 _ _)
    | exact absurd ⟨rfl, rfl⟩ h2

theorem pure_binOp (hC : CxOk P cx) (hρ : ∀ x, RVal w X θ (ρ x) (a.eval x)) {op : BinOp} {T U : TypeId} {x y : Operand} (hp : pureK cx h ρ (.binOp op T x y U) K = some r) : ∃ tv, K tv = some r ∧ PureOk P w X θ a (.binOp op T x y U) tv := by
  have key : ∃ tv, K tv = some r ∧ BinOk P w X θ op T (a.eval x) (a.eval y) tv := by
    have hp' : binK (cx.ty T) op (ρ x) (ρ y) K = some r := hp
    have hx := hρ x
    have hy := hρ y
    generalize ρ x = u at *
    generalize ρ y = v at *
    generalize a.eval x = uv at *
    generalize a.eval y = vv at *
    cases u with
    | pv s m =>
      cases v with
      | pv t n =>
        by_cases h1 : ∃ k k', s = .int k ∧ t = .int k'
        · obtain ⟨k, k', rfl, rfl⟩ := h1
          obtain ⟨rfl, g1⟩ := rval_int hx
          obtain ⟨rfl, g2⟩ := rval_int hy
          exact bin_int g1 g2 hp'
        · by_cases h2 : s = .str ∧ t = .str
          · obtain ⟨rfl, rfl⟩ := h2
            obtain ⟨s1, rfl, rfl, g1⟩ := rval_str hx
            obtain ⟨s2, rfl, rfl, g2⟩ := rval_str hy
            exact bin_str g1 g2 hp'
          · have h3 : ∃ (e : t = s), cond (s.hasRef || !decide (cx.ty T = some s)) none (match op with
                | .eql => K (.pv .bool (eqd s m (e ▸ n)))
                | .neq => K (.pv .bool (!eqd s m (e ▸ n)))
                | _ => none) = some r := by
              rw [binK_other (fun k k' h => h1 ⟨k, k', h⟩) h2] at hp'
              split at hp'
              · rename_i e; exact ⟨e, hp'⟩
              · cases hp'
            obtain ⟨e, h4⟩ := h3
            subst e
            obtain ⟨h5, h6⟩ := cond_none h4
            simp only [Bool.or_eq_false_iff, Bool.not_eq_false', decide_eq_true_eq] at h5
            have hni : ∀ k, t ≠ .int k := fun k hk => h1 ⟨k, k, hk, hk⟩
            have hns : t ≠ .str := fun hk => h2 ⟨hk, hk⟩
            cases op <;> simp only [reduceCtorEq] at h6 <;> try (cases h6; done)
            · have := bin_other hC hx hy h5.1 h5.2 hni hns (op := .eql) (.inl rfl); exact ⟨_, h6, by simpa using this⟩
            · have := bin_other hC hx hy h5.1 h5.2 hni hns (op := .neq) (.inr rfl); exact ⟨_, h6, by simpa using this⟩
      | _ => simp [binK] at hp'
    | _ => simp [binK] at hp'
  obtain ⟨tv, h1, y', h2, h3, h4⟩ := key
  exact ⟨tv, h1, y', fun o ho => by simp [execOp, ho, h2, h3], h4⟩

end Go.Ai

/- Operations that hand back a value and leave memory as it was: places, parts, lengths. -/
namespace Go.Ai
open Go.RowKit
set_option linter.unusedVariables false
set_option linter.unusedSimpArgs false

variable {P : Program} {cx : Cx} {w : World} {X : Nat → Prop} {θ : Nat → Option Own} {h : Heap} {base : Nat} {ρ : Operand → TV} {a : Act} {R : Type} {r : R} {K : TV → Option R}

theorem pure_unOp (hρ : ∀ x, RVal w X θ (ρ x) (a.eval x)) {op : UnOp} {T : TypeId} {x : Operand} (hp : pureK cx h ρ (.unOp op T x) K = some r) : ∃ tv, K tv = some r ∧ PureOk P w X θ a (.unOp op T x) tv := by
  have hp' : unK op (ρ x) K = some r := hp
  have hx := hρ x
  unfold unK at hp'
  split at hp'
  · rename_i b he
    rw [he] at hx
    have hv := rval_bool hx
    exact ⟨_, hp', .bool (!b), fun o ho => by simp [execOp, ho, hv, Op.unary], mk_bool⟩
  · rename_i k n he
    rw [he] at hx
    obtain ⟨hv, _⟩ := rval_int hx
    exact ⟨_, hp', .int k (k.wrap (0 - n)), fun o ho => by simp [execOp, ho, hv, Op.unary, Op.intArith], mk_int (has_wrap _ _)⟩
  · rename_i k n he
    rw [he] at hx
    obtain ⟨hv, _⟩ := rval_int hx
    refine ⟨_, hp', .int k (bitI .xor k (if k.signed then -1 else k.max) n), fun o ho => ?_, mk_int (by simp only [bitI]; exact has_wrap _ _)⟩
    simp only [execOp, ho, hv, Op.unary, Op.intBits, bitI]
    rfl
  · cases hp'

theorem chunks_cut {α : Type} {R : List Value → α → Prop} {n : Nat} (hl : ∀ c x, R c x → c.length = n) : ∀ {xs : List α} {cs} (l k : Nat), chunks R cs xs → l ≤ k → k ≤ xs.length → chunks R ((cs.drop (l * n)).take ((k - l) * n)) (cutL xs l k)
  | xs, cs, 0, 0, hc, _, _ => by simp [cutL, chunks]
  | [], cs, l, k, hc, h1, h2 => by
    have : cs = [] := hc
    have hk : k = 0 := by simpa using h2
    subst hk; subst this
    simp [cutL, chunks]
  | x :: xs, cs, 0, k + 1, ⟨c1, c2, he, hr, hc⟩, _, h2 => by
    have ih := chunks_cut hl (xs := xs) 0 k hc (Nat.zero_le _) (by simpa using h2)
    have h1 := hl c1 x hr
    refine ⟨c1, c2.take (k * n), ?_, hr, by simpa [cutL] using ih⟩
    subst he
    simp only [Nat.zero_mul, List.drop_zero, Nat.sub_zero, Nat.add_mul, Nat.one_mul]
    rw [List.take_append, List.take_of_length_le (by omega)]
    congr 2
    omega
  | x :: xs, cs, l + 1, k, ⟨c1, c2, he, hr, hc⟩, h1, h2 => by
    have ih := chunks_cut hl (xs := xs) l (k - 1) hc (by omega) (by simp at h2; omega)
    have h3 := hl c1 x hr
    have e1 : k - (l + 1) = k - 1 - l := by omega
    subst he
    rw [e1, show (l + 1) * n = c1.length + l * n by rw [h3, Nat.add_mul]; omega, List.drop_append]
    simp only [Nat.le_add_right, List.drop_of_length_le, List.nil_append, Nat.add_sub_cancel_left]
    rw [show cutL (x :: xs) (l + 1) k = cutL xs l (k - 1) by simp [cutL, e1]]
    exact ih

theorem rangeAt_cut {b o : Nat} {ds : List Value} (h : w.rangeAt b o ds) (i m : Nat) : w.rangeAt b (o + i) ((ds.drop i).take m) := by
  intro j v hv
  rw [List.getElem?_take] at hv
  split at hv
  · rw [List.getElem?_drop] at hv
    have := h (i + j) v hv
    rwa [show o + i + j = o + (i + j) by omega]
  · cases hv

theorem rval_vw {i : Nat} {rt : Ty} {p : List Sel} {e : Ty} {lo hi : Nat} {v : Value} (h : RVal w X θ (.vw i rt p e lo hi) v) : ∃ o, θ i = some o ∧ o.vw rt p e lo hi v := by
  obtain ⟨cs, h1, o, v', h2, h3, h4⟩ := h
  subst h4
  have : v = v' := by simpa [boxed, TV.isAgg, eq_comm] using h1
  subst this
  exact ⟨o, h2, h3⟩

/-- What a view holds. -/
theorem view_sound (hh : HRel w X θ base h) {i : Nat} {rt : Ty} {p : List Sel} {e : Ty} {lo hi : Nat} {v : Value} {xs : List e.den} {o : Own} (ho : θ i = some o) (hv : o.vw rt p e lo hi v) (hx : viewL h i rt p e lo hi = some xs) :
    ∃ ad len cap ds, v = .slice ad len cap ∧ len = xs.length ∧ len ≤ cap ∧ cap ≤ maxLen ∧ chunks (Rep w X e) ds xs ∧ (ds = [] ∨ ∃ b q, ad = some ⟨b, q, none⟩ ∧ w.rangeAt b q ds ∧ baseAt θ i = some b) ∧ hi - lo = xs.length := by
  obtain ⟨hle, ad, cap, rfl, hc1, hc2, hm⟩ := hv
  unfold viewL at hx
  split at hx
  · rename_i t c hg
    obtain ⟨ht, hx2⟩ := cond_some hx
    clear hx
    have ht : t = rt := by simpa using ht
    subst ht
    split at hx2
    · rename_i n ee ys hu
      split at hx2
      · rename_i q; subst q
        injection hx2 with hx2; subst hx2
        obtain ⟨b, C, E, e1, e2, e3, e4, e5⟩ := hh.blk i _ hg
        rw [e1] at ho; injection ho with ho; subst ho
        obtain ⟨off, n', hat, hn, had⟩ := hm
        obtain ⟨k1, c1, cc, c2, k2, k3, k4, k5⟩ := tv_get c t p C.toList off _ _ (at_of_rat e5 hu hat) e5 hu e4
        have hnn : n = n' := by simp [TV.fits] at k1; exact k1
        subst hnn
        obtain ⟨hl, hch⟩ := k5
        have hcc := chunks_cut (fun c x hx => Rep.length _ c x hx) lo hi hch hle (by omega)
        refine ⟨ad, _, cap, _, rfl, ?_, hc1, hc2, hcc, ?_, ?_⟩
        · simp [cutL, List.length_take, List.length_drop]; omega
        · by_cases hnil : (cc.drop (lo * Ty.size ee)).take ((hi - lo) * Ty.size ee) = []
          · exact .inl hnil
          · rcases had with had | had
            · exact absurd (by rw [had]; simp) hnil
            · refine .inr ⟨b, _, had, ?_, by simp [baseAt, e1, Own.base]⟩
              have := rangeAt_block e3 (c1 := c1) (c := cc) (c2 := c2) k2
              rw [k3] at this
              exact rangeAt_cut this _ _
        · simp [cutL, List.length_take, List.length_drop]; omega
      · cases hx2
    · cases hx2
  · rename_i E ee ys hg
    split at hx
    · obtain ⟨ht, hx2⟩ := cond_some hx
      clear hx
      split at hx2
      · rename_i q; subst q
        injection hx2 with hx2; subst hx2
        obtain ⟨vv, ds, g1, g2, g3⟩ := hh.blk i _ hg
        rw [g1] at ho; injection ho with ho; subst ho
        obtain ⟨_, _, ad0, len, cap0, hu, hlen, had⟩ := hm
        subst hu
        have hlys : len = ys.length := by
          rcases g2.2 with ⟨k1, k2⟩ | ⟨g, cap1, cur, k1, _⟩
          · injection k1 with _ k1 _; omega
          · injection k1 with _ k1 _
        subst hlys
        have hcc := chunks_cut (fun c x hx => Rep.length _ c x hx) lo hi g3 hle hlen
        refine ⟨ad, _, cap, _, rfl, ?_, hc1, hc2, hcc, ?_, ?_⟩
        · simp [cutL, List.length_take, List.length_drop]; omega
        · by_cases hnil : (ds.drop (lo * Ty.size ee)).take ((hi - lo) * Ty.size ee) = []
          · exact .inl hnil
          · rcases had with had | ⟨g, q1, q2⟩
            · exact absurd (by rw [had]; simp) hnil
            · subst q1
              refine .inr ⟨g, _, q2, ?_, by simp [baseAt, g1, Own.base, Value.ownBlock]⟩
              have hra : w.rangeAt g 0 ds := by
                intro j u hj
                have := World.ownsRow.cells g2 (g := g) rfl j u hj
                simpa [Addr.add_mid] using this
              simpa using rangeAt_cut hra (lo * Ty.size ee) ((hi - lo) * Ty.size ee)
        · simp [cutL, List.length_take, List.length_drop]; omega
      · cases hx2
    · cases hx
  · cases hx

theorem contents_sound (hh : HRel w X θ base h) {e : Ty} {tv : TV} {v : Value} {xs : List e.den} (hc : contents h e tv = some xs) (hv : RVal w X θ tv v) :
    ∃ ad len cap ds, v = .slice ad len cap ∧ len = xs.length ∧ len ≤ cap ∧ len ≤ maxLen ∧ chunks (Rep w X e) ds xs ∧ (ds = [] ∨ ∃ b o, ad = some ⟨b, o, none⟩ ∧ w.rangeAt b o ds) := by
  unfold contents at hc
  split at hc
  · rename_i s ys
    split at hc
    · rename_i q; subst q
      injection hc with hc; subst hc
      obtain ⟨cs, h1, ad, len, cap, ds, h2, h3, h4, h5, h6, h7⟩ := hv
      subst h2
      refine ⟨ad, len, cap, ds, by simpa [boxed, TV.isAgg, Ty.isAgg, eq_comm] using h1, h3, h4, by omega, h6, ?_⟩
      rcases h7 with h7 | ⟨b, o, g1, g2, _⟩
      · exact .inl h7
      · exact .inr ⟨b, o, g1, g2⟩
    · cases hc
  · rename_i i s
    split at hc
    · rename_i E e2 ys hg
      split at hc
      · rename_i q; subst q
        split at hc
        · injection hc with hc; subst hc
          obtain ⟨cs, h1, vv, h2, h3, h4⟩ := hv
          subst h3
          have hvv : v = vv := by simpa [boxed, TV.isAgg, eq_comm] using h1
          subst hvv
          obtain ⟨v', ds, g1, g2, g3⟩ := hh.blk i _ hg
          rw [g1] at h2; injection h2 with h2; injection h2 with h2; subst h2
          rcases g2.2 with ⟨k1, k2⟩ | ⟨g, cap, cur, k1, k2, k3, k4, k5, k6, k7⟩
          · subst k1
            have hn : ys = [] := List.eq_nil_of_length_eq_zero k2
            subst hn
            have hds : ds = [] := g3
            exact ⟨none, 0, 0, [], rfl, rfl, Nat.le_refl _, Nat.zero_le _, rfl, .inl rfl⟩
          · subst k1
            refine ⟨_, _, cap, ds, rfl, rfl, k4, by omega, g3, .inr ⟨g, 0, rfl, ?_⟩⟩
            intro j u hu
            have := World.ownsRow.cells g2 (g := g) rfl j u hu
            simpa [Addr.add_mid] using this
        · cases hc
      · cases hc
    · cases hc
  · rename_i s ys
    split at hc
    · rename_i q; subst q
      injection hc with hc; subst hc
      obtain ⟨cs, h1, ad, len, ds, h2, h3, h4, h5, h6⟩ := hv
      subst h2
      refine ⟨ad, len, len, ds, by simpa [boxed, TV.isAgg, eq_comm] using h1, h3, Nat.le_refl _, h4, h5, ?_⟩
      rcases h6 with h6 | ⟨b, o, g1, g2, _⟩
      · exact .inl h6
      · exact .inr ⟨b, o, g1, g2⟩
    · cases hc
  · rename_i i rt p s lo hi
    split at hc
    · rename_i q; subst q
      obtain ⟨o, h1, h2⟩ := rval_vw hv
      obtain ⟨ad, len, cap, ds, k1, k2, k3, k4, k5, k6, _⟩ := view_sound hh h1 h2 hc
      refine ⟨ad, len, cap, ds, k1, k2, k3, by omega, k5, ?_⟩
      rcases k6 with k6 | ⟨b, q, k6, k7, _⟩
      · exact .inl k6
      · exact .inr ⟨b, q, k6, k7⟩
    · cases hc
  · injection hc with hc; subst hc
    obtain ⟨cs, h1, h2⟩ := hv
    have h2' : cs = _ := h2
    subst h2'
    exact ⟨none, 0, 0, [], by simpa [boxed, TV.isAgg, eq_comm] using h1, rfl, Nat.le_refl _, Nat.zero_le _, rfl, .inl rfl⟩
  · cases hc

theorem bytesI_push (s : ByteArray) (b : UInt8) : bytesI (s.push b) = bytesI s ++ [(b.toNat : Int)] := by
  unfold bytesI
  simp [ByteArray.push]
theorem bytesI_fold : ∀ (ns : List Int) (s : ByteArray), (∀ x ∈ ns, 0 ≤ x ∧ x < 256) → bytesI (ns.foldl (fun r n => r.push (UInt8.ofNat n.toNat)) s) = bytesI s ++ ns
  | [], s, _ => by simp
  | n :: ns, s, h => by
    rw [List.foldl_cons, bytesI_fold ns _ (fun x hx => h x (List.mem_cons_of_mem _ hx)), bytesI_push]
    have hn := h n (by simp)
    have : ((UInt8.ofNat n.toNat).toNat : Int) = n := by
      simp only [UInt8.toNat_ofNat']
      omega
    rw [this]
    simp
theorem chunks_u8 {w : World} {X : Nat → Prop} : ∀ {xs : List Int} {ds : List Value}, chunks (Rep w X (.int .u8)) ds xs → ds = xs.map (Value.int .u8) ∧ ∀ x ∈ xs, 0 ≤ x ∧ x < 256
  | [], ds, h => by have : ds = [] := h; subst this; simp
  | x :: xs, ds, ⟨c1, c2, h0, h1, h2⟩ => by
    obtain ⟨k1, k2⟩ := chunks_u8 h2
    obtain ⟨g1, g2⟩ := h1
    subst g1; subst h0; subst k1
    refine ⟨rfl, fun y hy => ?_⟩
    rcases List.mem_cons.1 hy with hy | hy
    · subst hy
      simp [IntKind.has, IntKind.min, IntKind.max, IntKind.signed, IntKind.bits] at g2
      omega
    · exact k2 y hy

theorem pure_convert (hC : CxOk P cx) (hh : HRel w X θ base h) (hρ : ∀ x, RVal w X θ (ρ x) (a.eval x)) {S D : TypeId} {x : Operand} (hp : pureK cx h ρ (.convert S D x) K = some r) : ∃ tv, K tv = some r ∧ PureOk P w X θ a (.convert S D x) tv := by
  simp only [pureK] at hp
  have hx := hρ x
  split at hp
  · rename_i k0 k k1 n hS hD he
    rw [he] at hx
    obtain ⟨hv, _⟩ := rval_int hx
    have h1 := (hC.ty S _ hS).1
    have h2 := (hC.ty D _ hD).1
    exact ⟨_, hp, .int k (k.wrap n), fun o ho => by simp [execOp, ho, hv, convert, run_underlying h1, run_underlying h2, Conv.intToInt], mk_int (has_wrap _ _)⟩
  · rename_i n hS hD he
    rw [he] at hx
    obtain ⟨s, hv, hn, hl⟩ := rval_str hx
    have h1 := (hC.ty S _ hS).1
    have h2 := (hC.ty D _ hD).1
    exact ⟨_, hp, .string s, fun o ho => by simp [execOp, ho, hv, convert, run_underlying h1, run_underlying h2], [.string s], rfl, s, rfl, hn, hl⟩
  · rename_i hS hD
    split at hp
    · rename_i xs hc
      obtain ⟨ad, len, cap, ds, hv, g1, g2, g3, g4, g5⟩ := contents_sound hh hc hx
      obtain ⟨k1, k2⟩ := chunks_u8 g4
      have h1 := (hC.ty S _ hS).1
      have h2 := (hC.ty D _ hD).1
      obtain ⟨e, e1, e2⟩ := h1
      have e2' := e2.1
      have hlen : (xs : List Int).length ≤ maxLen := by omega
      have hsz : ∀ s : ByteArray, bytesI s = xs → s.size ≤ maxLen := fun s hs => by
        have : (bytesI s).length = s.size := by unfold bytesI; rw [List.length_map]; rfl
        rw [← this, hs]; exact hlen
      have hb := bytesI_fold xs ByteArray.empty k2
      have hb' : bytesI (xs.foldl (fun r n => r.push (UInt8.ofNat n.toNat)) ByteArray.empty) = xs := by rw [hb]; rfl
      refine ⟨_, hp, .string (xs.foldl (fun r n => r.push (UInt8.ofNat n.toNat)) ByteArray.empty), fun o ho => ?_, [.string _], rfl, _, rfl, hb'.symm, hsz _ hb'⟩
      have hrun : (Conv.bytesToString (.slice ad len cap)).run P w = .ok (.string (xs.foldl (fun r n => r.push (UInt8.ofNat n.toNat)) ByteArray.empty)) w := by
        cases ad with
        | none =>
          have hxs : xs = [] := by
            rcases g5 with g5 | ⟨b, o, q, _⟩
            · rw [k1] at g5; simpa using g5
            · cases q
          subst hxs
          rfl
        | some A =>
          refine run_bytesToString w A len cap xs ?_
          rw [g1, ← k1]
          have hl : (xs : List Int).length = ds.length := by rw [k1]; simp
          rw [hl]
          refine run_loadCells_list w A ds fun j v hjv => ?_
          rcases g5 with g5 | ⟨b, o, q, hra⟩
          · subst g5; simp at hjv
          · injection q with q; subst q
            have := hra j v hjv
            simpa [Addr.add_mid] using this
      have hcv : (convert S D (a.eval x)).run P w = .ok (.string (xs.foldl (fun r n => r.push (UInt8.ofNat n.toNat)) ByteArray.empty)) w := by
        rw [hv]
        exact (run_convert_bytes_string w S D e ad len cap e1 e2' h2).trans hrun
      simp [execOp, ho, hcv]
    · cases hp
  · cases hp

theorem run_bound {k : IntKind} {m : Int} {y : Nat} (h : 0 ≤ m ∧ m ≤ (y : Int)) (code : BoundsCode) : (Instr.sliceBound (.int k m) y code).run P w = .ok m.toNat w := by
  simp [Instr.sliceBound, asIntOf, h]

theorem bytesI_extract (s : ByteArray) (l k : Nat) : bytesI (s.extract l k) = cutL (bytesI s) l k := by
  unfold bytesI cutL
  rw [← List.map_drop, ← List.map_take]
  congr 1
  simp [ByteArray.data_extract, List.extract]

theorem bounds_sound {n : Nat} {lo hi : Option TV} {lv hv : Option Value} {K : Nat → Nat → Option R} (hlo : match lo, lv with | some t, some v => RVal w X θ t v | none, none => True | _, _ => False) (hhi : match hi, hv with | some t, some v => RVal w X θ t v | none, none => True | _, _ => False)
    (hp : sliceBoundsK n lo hi K = some r) : ∃ l k, K l k = some r ∧ l ≤ k ∧ k ≤ n ∧ ∀ (isS : Bool) (cap : Nat), n ≤ cap → (isS = false → cap = n) → (Instr.sliceBounds isS n cap lv hv none).run P w = .ok (l, k, cap) w := by
  unfold sliceBoundsK at hp
  have num : ∀ {t : TV} {v : Value} {K' : Int → Option R}, RVal w X θ t v → numK t K' = some r → ∃ k m, v = .int k m ∧ K' m = some r := by
    intro t v K' ht hk
    unfold numK at hk
    split at hk
    · obtain ⟨h1, _⟩ := rval_int ht; exact ⟨_, _, h1, hk⟩
    · cases hk
  cases hi with
  | some t =>
    cases hv with
    | none => exact hhi.elim
    | some v =>
      obtain ⟨k, m, rfl, h1⟩ := num hhi hp
      obtain ⟨h2, h3⟩ := cond_some h1
      simp only [Bool.and_eq_true, decide_eq_true_eq] at h2
      cases lo with
      | some u =>
        cases lv with
        | none => exact hlo.elim
        | some lv =>
          obtain ⟨k2, m2, rfl, h4⟩ := num hlo h3
          obtain ⟨h5, h6⟩ := cond_some h4
          simp only [Bool.and_eq_true, decide_eq_true_eq] at h5
          refine ⟨_, _, h6, by omega, by omega, fun isS cap hc hcs => ?_⟩
          have e1 : 0 ≤ m ∧ m ≤ (cap : Int) := by omega
          have e2 : 0 ≤ m2 ∧ m2 ≤ (m.toNat : Int) := by omega
          simp [Instr.sliceBounds, run_bound e1, run_bound e2]
      | none =>
        cases lv with
        | some _ => exact hlo.elim
        | none =>
          refine ⟨_, _, h3, by omega, by omega, fun isS cap hc hcs => ?_⟩
          have e1 : 0 ≤ m ∧ m ≤ (cap : Int) := by omega
          simp [Instr.sliceBounds, run_bound e1]
  | none =>
    cases hv with
    | some _ => exact hhi.elim
    | none =>
      cases lo with
      | some u =>
        cases lv with
        | none => exact hlo.elim
        | some lv =>
          obtain ⟨k2, m2, rfl, h4⟩ := num hlo hp
          obtain ⟨h5, h6⟩ := cond_some h4
          simp only [Bool.and_eq_true, decide_eq_true_eq] at h5
          refine ⟨_, _, h6, by omega, Nat.le_refl _, fun isS cap hc hcs => ?_⟩
          have e2 : 0 ≤ m2 ∧ m2 ≤ (n : Int) := by omega
          simp [Instr.sliceBounds, run_bound e2]
      | none =>
        cases lv with
        | some _ => exact hlo.elim
        | none => exact ⟨_, _, hp, by omega, Nat.le_refl _, fun isS cap hc hcs => by simp [Instr.sliceBounds]⟩

theorem pure_slice (hC : CxOk P cx) (hh : HRel w X θ base h) (hρ : ∀ x, RVal w X θ (ρ x) (a.eval x)) {T : TypeId} {x : Operand} {lo hi mx : Option Operand} (hp : pureK cx h ρ (.slice T x lo hi mx) K = some r) : ∃ tv, K tv = some r ∧ PureOk P w X θ a (.slice T x lo hi mx) tv := by
  cases mx with
  | some m => simp [pureK] at hp
  | none =>
    simp only [pureK] at hp
    have hx := hρ x
    have opt : ∀ q : Option Operand, match opts ρ q, q.map a.eval with | some t, some v => RVal w X θ t v | none, none => True | _, _ => False := by intro q; cases q with | none => trivial | some q => exact hρ q
    split at hp
    · rename_i i rt p he
      rw [he] at hx
      obtain ⟨o, b, off, s0, q1, q2, q3, q4, hv⟩ := rval_ptr hx
      split at hp
      · rename_i t0 c0 n e hg hsub
        obtain ⟨hT, hb⟩ := cond_some hp
        simp only [Bool.and_eq_true, decide_eq_true_eq] at hT
        obtain ⟨hT, hn⟩ := hT
        have hn := Nat.le_of_ble_eq_true hn
        obtain ⟨b', C, E, e1, e2, e3, e4, e5⟩ := hh.blk i _ hg
        rw [e1] at q1; injection q1 with q1; subst q1
        simp only [Own.base, Option.some.injEq] at q2; subst q2
        have hs0 : s0 = .arr n e := by rw [rsub_of_rat q3] at hsub; injection hsub
        subst hs0
        obtain ⟨l, k, h1, h2, h3, h4⟩ := bounds_sound (P := P) (opt lo) (opt hi) hb
        obtain ⟨⟨E2, hu, hE⟩, _⟩ := hC.ty T _ hT
        have hsz := TyIs.size e E2 hE
        unfold Program.hasSize at hsz
        cases hq : P.info? E2 with
        | none => simp [hq] at hsz
        | some inf =>
          have hi' : inf.size = e.size := by simpa [hq] using hsz
          have hb4 := h4 false n (Nat.le_refl _) (fun _ => rfl)
          refine ⟨_, h1, .slice (some (if n = l then (⟨b', off, none⟩ : Addr) else (⟨b', off, none⟩ : Addr).add (l * e.size))) (k - l) (n - l), fun o ho => ?_, [_], rfl, _, _, e1, ⟨h2, _, _, rfl, by omega, by unfold maxLen; omega, off, n, q3, h3, ?_⟩, rfl⟩
          · simp [execOp, ho, hv, Instr.sliceAt, run_underlying hu, Instr.sureAddr, hb4, sizeOf, typeInfo, hq, hi']
          · by_cases hnl : n = l
            · exact .inl (by omega)
            · rw [if_neg hnl]; exact .inr (by rw [Addr.add_mid])
      · cases hp
    · rename_i i e he
      rw [he] at hx
      split at hp
      · rename_i E0 s xs hg
        obtain ⟨hT, hb⟩ := cond_some hp
        simp only [Bool.and_eq_true, decide_eq_true_eq] at hT
        obtain ⟨rfl, hT⟩ := hT
        obtain ⟨cs, g1, vv, g2, g3, g4⟩ := hx
        subst g3
        have hv : a.eval x = vv := by simpa [boxed, TV.isAgg, eq_comm] using g1
        obtain ⟨v', ds, k1, k2, k3⟩ := hh.blk i _ hg
        rw [k1] at g2; injection g2 with g2; injection g2 with g2; subst g2
        obtain ⟨l, k, h1, h2, h3, h4⟩ := bounds_sound (P := P) (opt lo) (opt hi) hb
        obtain ⟨⟨E2, hu, hE⟩, _⟩ := hC.ty T _ hT
        have hsz := TyIs.size s E2 hE
        unfold Program.hasSize at hsz
        cases hq : P.info? E2 with
        | none => simp [hq] at hsz
        | some inf =>
          have hi' : inf.size = s.size := by simpa [hq] using hsz
          rcases k2.2 with ⟨m1, m2⟩ | ⟨g, cap, cur, m1, m2, m3, m4, m5, _⟩
          · subst m1
            rw [m2] at h3
            have hb4 := h4 true 0 (by omega) (by simp)
            rw [m2] at hb4
            refine ⟨_, h1, .slice none (k - l) (0 - l), fun o ho => ?_, [_], rfl, _, _, k1, ⟨h2, _, _, rfl, by omega, by omega, rfl, rfl, none, 0, 0, rfl, h3, .inl (by omega)⟩, rfl⟩
            simp [execOp, ho, hv, Instr.sliceAt, Instr.slice, run_underlying hu, hb4, sizeOf, typeInfo, hq, hi']
          · subst m1
            have hb4 := h4 true cap m4 (by simp)
            refine ⟨_, h1, .slice (if cap = l then some ⟨g, 0, none⟩ else (some (⟨g, 0, none⟩ : Addr)).map (·.add (l * s.size))) (k - l) (cap - l), fun o ho => ?_, [_], rfl, _, _, k1, ⟨h2, _, _, rfl, by omega, by omega, rfl, rfl, some ⟨g, 0, none⟩, xs.length, cap, rfl, h3, ?_⟩, rfl⟩
            · simp [execOp, ho, hv, Instr.sliceAt, Instr.slice, run_underlying hu, hb4, sizeOf, typeInfo, hq, hi']
            · by_cases hnl : cap = l
              · exact .inl (by omega)
              · rw [if_neg hnl]; exact .inr ⟨g, rfl, by simp [Addr.add_mid]⟩
      · cases hp
    · rename_i i rt p e lo0 hi0 he
      rw [he] at hx
      obtain ⟨hT, hb⟩ := cond_some hp
      have hT : cx.ty T = some (.slice e) := by simpa using hT
      obtain ⟨o, q1, q2, ad, cap, hv, q3, q4, q5⟩ := rval_vw hx
      obtain ⟨l, k, h1, h2, h3, h4⟩ := bounds_sound (P := P) (opt lo) (opt hi) hb
      obtain ⟨⟨E2, hu, hE⟩, _⟩ := hC.ty T _ hT
      have hsz := TyIs.size e E2 hE
      unfold Program.hasSize at hsz
      cases hq : P.info? E2 with
      | none => simp [hq] at hsz
      | some inf =>
        have hi' : inf.size = e.size := by simpa [hq] using hsz
        have hb4 := h4 true cap q3 (by simp)
        have hlen : lo0 + k - (lo0 + l) = k - l := by omega
        refine ⟨_, h1, .slice (if cap = l then ad else ad.map (·.add (l * e.size))) (k - l) (cap - l), fun o ho => ?_, [_], rfl, o, _, q1, ⟨by omega, _, _, by rw [hlen], by omega, by omega, ?_⟩, rfl⟩
        · simp [execOp, ho, hv, Instr.sliceAt, Instr.slice, run_underlying hu, hb4, sizeOf, typeInfo, hq, hi']
        · have hadd : ∀ (g o : Nat), (⟨g, o + lo0 * e.size, none⟩ : Addr).add (l * e.size) = ⟨g, o + (lo0 + l) * e.size, none⟩ := by intro g o; rw [Addr.add_mid, Nat.add_mul]; congr 1; omega
          cases o with
          | var b =>
            obtain ⟨off, n, m1, m2, m3⟩ := q5
            refine ⟨off, n, m1, by omega, ?_⟩
            by_cases hkl : k = l
            · exact .inl (by omega)
            · have hne : cap ≠ l := by omega
              rw [if_neg hne]
              rcases m3 with m3 | m3
              · exact .inl (by omega)
              · exact .inr (by rw [m3]; simp [hadd])
          | arr u =>
            obtain ⟨m1, m2, ad0, len, cap0, m3, m4, m5⟩ := q5
            refine ⟨m1, m2, ad0, len, cap0, m3, by omega, ?_⟩
            by_cases hkl : k = l
            · exact .inl (by omega)
            · have hne : cap ≠ l := by omega
              rw [if_neg hne]
              rcases m5 with m5 | ⟨g, m5, m6⟩
              · exact .inl (by omega)
              · refine .inr ⟨g, m5, ?_⟩
                have := hadd g 0
                simp only [Nat.zero_add] at this
                rw [m6]; simp [this]
    · rename_i xs he
      rw [he] at hx
      obtain ⟨hT, hb⟩ := cond_some hp
      have hT' : cx.ty T = some .str := by simpa using hT
      obtain ⟨s, hv, hn, hl⟩ := rval_str hx
      subst hn
      rw [bytesI_length] at hb
      obtain ⟨l, k, h1, h2, h3, h4⟩ := bounds_sound (P := P) (opt lo) (opt hi) hb
      have hu := (hC.ty T _ hT').1
      refine ⟨_, h1, .string (s.extract l k), fun o ho => ?_, [.string (s.extract l k)], rfl, s.extract l k, rfl, ?_, ?_⟩
      · have := h4 false s.size (Nat.le_refl _) (fun _ => rfl)
        simp [execOp, ho, hv, Instr.sliceAt, Instr.slice, run_underlying hu, this]
      · exact (bytesI_extract s l k).symm
      · have : (s.extract l k).size ≤ s.size := by simp [ByteArray.size_extract]; omega
        omega
    · rename_i e xs he
      rw [he] at hx
      obtain ⟨hT, hb⟩ := cond_some hp
      have hT' : cx.ty T = some (.slice e) := by simpa using hT
      obtain ⟨cs, g1, ad, len, cap, ds, g2, g3, g4, g5, g6, g7⟩ := hx
      subst g2
      have hv : a.eval x = .slice ad len cap := by simpa [boxed, TV.isAgg, Ty.isAgg, eq_comm] using g1
      obtain ⟨l, k, h1, h2, h3, h4⟩ := bounds_sound (P := P) (opt lo) (opt hi) hb
      obtain ⟨⟨E, hu, hE⟩, _⟩ := hC.ty T _ hT'
      have hsz := TyIs.size e E hE
      unfold Program.hasSize at hsz
      cases hq : P.info? E with
      | none => simp [hq] at hsz
      | some i =>
        have hi : i.size = e.size := by simpa [hq] using hsz
        have hb4 := h4 true cap (by omega) (by simp)
        rw [← g3] at hb4
        refine ⟨_, h1, .slice (if cap = l then ad else ad.map (·.add (l * e.size))) (k - l) (cap - l), fun o ho => ?_, ?_⟩
        · simp [execOp, ho, hv, Instr.sliceAt, Instr.slice, run_underlying hu, hb4, sizeOf, typeInfo, hq, hi]
        · have hcc := chunks_cut (fun c x hx => Rep.length e c x hx) l k g6 h2 h3
          refine ⟨_, rfl, _, _, _, (ds.drop (l * e.size)).take ((k - l) * e.size), rfl, ?_, by omega, by omega, hcc, ?_⟩
          · simp [cutL, List.length_take, List.length_drop]; omega
          · by_cases hnil : (ds.drop (l * e.size)).take ((k - l) * e.size) = []
            · exact .inl hnil
            · rcases g7 with g7 | ⟨b, o, q1, q2, q3⟩
              · exact .inl (by rw [g7]; simp)
              · refine .inr ⟨b, o + l * e.size, ?_, rangeAt_cut q2 _ _, q3⟩
                have hne : cap ≠ l := by
                  intro hc
                  apply hnil
                  have : k - l = 0 := by omega
                  rw [this]; simp
                rw [if_neg hne, q1]
                simp [Addr.add_mid]
    · cases hp

end Go.Ai

/- Operations that hand back a value and leave memory as it was: addresses of parts, tuples, functions. -/
namespace Go.Ai
open Go.RowKit
set_option linter.unusedVariables false
set_option linter.unusedSimpArgs false

variable {P : Program} {cx : Cx} {w : World} {X : Nat → Prop} {θ : Nat → Option Own} {h : Heap} {base : Nat} {ρ : Operand → TV} {a : Act} {R : Type} {r : R} {K : TV → Option R}

/-- The field of a struct's type that a place names. -/
theorem fields_at : (t : Ty) → (off : Nat) → (fs : List Field) → (f : Nat) → (o2 : Nat) → (q : Ty) → (TyIs P t).2 off fs → t.at [.fld f] = some (o2, q) →
    ∃ fd, fs[f]? = some fd ∧ fd.offset = off + o2 ∧ (TyIs P q).1 fd.type := by
  intro t
  induction t with
  | pair a b iha ihb =>
    intro off fs f o2 q hf ha
    obtain ⟨fd, r, rfl, ho, hn, h1, h2⟩ := hf
    cases f with
    | zero =>
      simp only [Ty.at, Ty.at_nil, Option.some.injEq, Prod.mk.injEq] at ha
      obtain ⟨rfl, rfl⟩ := ha
      exact ⟨fd, rfl, by simpa using ho, h1⟩
    | succ f =>
      simp only [Ty.at] at ha
      cases hq : b.at [.fld f] with
      | none => simp [hq] at ha
      | some z =>
        obtain ⟨o3, q3⟩ := z
        simp only [hq, Option.map_some, Option.some.injEq, Prod.mk.injEq] at ha
        obtain ⟨rfl, rfl⟩ := ha
        obtain ⟨g, g1, g2, g3⟩ := ihb (off + a.size) r f o3 q3 h2 hq
        exact ⟨g, by simpa using g1, by omega, g3⟩
  | _ => intro off fs f o2 q hf ha; simp [Ty.at] at ha

theorem struct_field {s : Ty} {T : TypeId} (hT : (TyIs P s).1 T) {f o2 : Nat} {q : Ty} (ha : s.at [.fld f] = some (o2, q)) :
    ∃ fs : Array Field, P.underlying T = some (.struct fs) ∧ ∃ fd, fs[f]? = some fd ∧ fd.offset = o2 ∧ (TyIs P q).1 fd.type := by
  cases s with
  | pair a b =>
    obtain ⟨⟨fs, h1, fd, r, h2, ho, hn, h3, h4⟩, _⟩ := hT
    have h5 : (TyIs P (.pair a b)).2 0 fs.toList := ⟨fd, r, h2, ho, hn, h3, by simpa using h4⟩
    obtain ⟨g, g1, g2, g3⟩ := fields_at _ 0 fs.toList f o2 q h5 ha
    exact ⟨fs, h1, g, by rw [← Array.getElem?_toList]; exact g1, by omega, g3⟩
  | _ => simp [Ty.at] at ha

theorem at_append : (t : Ty) → (p q : List Sel) → (o1 o2 : Nat) → (s u : Ty) → t.at p = some (o1, s) → s.at q = some (o2, u) → t.at (p ++ q) = some (o1 + o2, u) := by
  intro t
  induction t with
  | pair a b iha ihb =>
    intro p q o1 o2 s u h1 h2
    cases p with
    | nil => rw [Ty.at_nil] at h1; simp only [Option.some.injEq, Prod.mk.injEq] at h1; obtain ⟨rfl, rfl⟩ := h1; simpa using h2
    | cons x p =>
      cases x with
      | idx k => simp [Ty.at] at h1
      | fld n =>
        cases n with
        | zero => simp only [Ty.at, List.cons_append] at h1 ⊢; exact iha p q o1 o2 s u h1 h2
        | succ n =>
          simp only [Ty.at, List.cons_append] at h1 ⊢
          cases hq : b.at (.fld n :: p) with
          | none => simp [hq] at h1
          | some z =>
            obtain ⟨o3, s3⟩ := z
            simp only [hq, Option.map_some, Option.some.injEq, Prod.mk.injEq] at h1
            obtain ⟨rfl, rfl⟩ := h1
            have := ihb (.fld n :: p) q o3 o2 s3 u hq h2
            rw [List.cons_append] at this
            rw [this]; simp; omega
  | arr n e ih =>
    intro p q o1 o2 s u h1 h2
    cases p with
    | nil => rw [Ty.at_nil] at h1; simp only [Option.some.injEq, Prod.mk.injEq] at h1; obtain ⟨rfl, rfl⟩ := h1; simpa using h2
    | cons x p =>
      cases x with
      | fld n => simp [Ty.at] at h1
      | idx k =>
        simp only [Ty.at, List.cons_append] at h1 ⊢
        split at h1
        · rename_i hk
          rw [if_pos hk]
          cases hq : e.at p with
          | none => simp [hq] at h1
          | some z =>
            obtain ⟨o3, s3⟩ := z
            simp only [hq, Option.map_some, Option.some.injEq, Prod.mk.injEq] at h1
            obtain ⟨rfl, rfl⟩ := h1
            rw [ih p q o3 o2 s3 u hq h2]; simp; omega
        · cases h1
  | _ =>
    intro p q o1 o2 s u h1 h2
    cases p with
    | nil => rw [Ty.at_nil] at h1; simp only [Option.some.injEq, Prod.mk.injEq] at h1; obtain ⟨rfl, rfl⟩ := h1; simpa using h2
    | cons x p => simp [Ty.at] at h1

theorem rat_append {t : Ty} {p q : List Sel} {o1 o2 : Nat} {s u : Ty} (hq : q ≠ []) (h1 : t.rat p = some (o1, s)) (h2 : s.at q = some (o2, u)) : t.rat (p ++ q) = some (o1 + o2, u) := by
  cases t with
  | slice e =>
    cases p with
    | nil =>
      have h1' : (Ty.slice e).at [] = some (o1, s) := h1
      rw [Ty.at_nil] at h1'
      simp only [Option.some.injEq, Prod.mk.injEq] at h1'
      obtain ⟨_, rfl⟩ := h1'
      cases q with
      | nil => exact absurd rfl hq
      | cons x q => simp [Ty.at] at h2
    | cons x p =>
      cases x with
      | fld n => simp [Ty.rat, Ty.at] at h1
      | idx k =>
        simp only [Ty.rat, List.cons_append] at h1 ⊢
        cases hz : e.at p with
        | none => simp [hz] at h1
        | some z =>
          obtain ⟨o3, s3⟩ := z
          simp only [hz, Option.map_some, Option.some.injEq, Prod.mk.injEq] at h1
          obtain ⟨rfl, rfl⟩ := h1
          rw [at_append e p q o3 o2 s3 u hz h2]; simp; omega
  | _ => exact at_append _ p q o1 o2 s u h1 h2

theorem okp_append {o : Own} {p : List Sel} (q : List Sel) (h : o.okp p) : o.okp (p ++ q) := by
  cases o with
  | var b => trivial
  | arr v =>
    cases v with
    | slice b n c => cases p with
      | nil => simp [Own.okp] at h
      | cons x p => cases x <;> simp [Own.okp] at h ⊢; exact h
    | _ => simp [Own.okp] at h

theorem getP_fld : (s : Ty) → (y : s.den) → (f : Nat) → (q : (u : Ty) × u.den) → Ai.getP s y [.fld f] = some q → ∃ o2, s.at [.fld f] = some (o2, q.1) := by
  intro s
  induction s with
  | pair a b iha ihb =>
    intro y f q h
    cases f with
    | zero =>
      have : Ai.getP a y.1 [] = some q := h
      have h2 : Ai.getP a y.1 [] = some ⟨a, y.1⟩ := by cases a <;> rfl
      rw [h2] at this; injection this with this; subst this
      exact ⟨0, by simp [Ty.at, Ty.at_nil]⟩
    | succ f =>
      have : Ai.getP b y.2 [.fld f] = some q := h
      obtain ⟨o2, ho⟩ := ihb y.2 f q this
      exact ⟨a.size + o2, by simp [Ty.at, ho]⟩
  | _ => intro y f q h; simp [Ai.getP] at h

theorem run_fieldAt {T : TypeId} {fs : Array Field} {fd : Field} {f b o : Nat} {q : Ty} (hu : P.underlying T = some (.struct fs)) (hf : fs[f]? = some fd) (hq : (TyIs P q).1 fd.type) (hs : q.size ≠ 0) :
    (Instr.fieldAt T (.pointer (some ⟨b, o, none⟩)) f).run P w = .ok (.pointer (some ⟨b, o + fd.offset, none⟩)) w := by
  have hsz := TyIs.size q _ hq
  unfold Program.hasSize at hsz
  cases hi : P.info? fd.type with
  | none => simp [hi] at hsz
  | some i =>
    have : i.size = q.size := by simpa [hi] using hsz
    simp [Instr.fieldAt, run_underlying hu, hf, Instr.sureAddr, fieldPlace, sizeOf, typeInfo, hi, this, hs, Addr.add_mid]

theorem pure_fieldAddr (hC : CxOk P cx) (hρ : ∀ x, RVal w X θ (ρ x) (a.eval x)) {T : TypeId} {x : Operand} {f : Nat} (hp : pureK cx h ρ (.fieldAddr T x f) K = some r) : ∃ tv, K tv = some r ∧ PureOk P w X θ a (.fieldAddr T x f) tv := by
  simp only [pureK] at hp
  have hx := hρ x
  split at hp
  · rename_i i t p he
    rw [he] at hx
    obtain ⟨o, b, off, s0, q1, q2, q3, q4, hv⟩ := rval_ptr hx
    split at hp
    · rename_i s hT
      obtain ⟨h1, h2⟩ := cond_some hp
      have h1' : t.rsub p = some s := by simpa using h1
      have hs0 : s0 = s := by rw [rsub_of_rat q3] at h1'; injection h1'
      subst hs0
      split at h2
      · rename_i q hq
        obtain ⟨h3, h4⟩ := cond_some h2
        have hne : q.2.size ≠ 0 := by have := Nat.le_of_ble_eq_true h3; omega
        obtain ⟨o2, qt⟩ := q
        obtain ⟨fs, u1, fd, u2, u3, u4⟩ := struct_field (hC.ty T _ hT) hq
        refine ⟨_, h4, .pointer (some ⟨b, off + o2, none⟩), fun op ho => ?_, ?_⟩
        · have := run_fieldAt (w := w) (b := b) (o := off) u1 u2 u4 hne
          rw [u3] at this
          simp [execOp, ho, hv, this]
        · exact ⟨_, rfl, o, b, off + o2, qt, q1, q2, rat_append (by simp) q3 hq, okp_append _ q4, rfl⟩
      · cases h2
    · cases hp
  · rename_i s y he
    rw [he] at hx
    obtain ⟨b, o, ds, hv, hr, hra, hX⟩ := rval_ref hx
    obtain ⟨h1, h2⟩ := cond_some hp
    have hT : cx.ty T = some s := by simpa using h1
    split at h2
    · rename_i q hq
      obtain ⟨h3, h4⟩ := cond_some h2
      have hne : q.1.size ≠ 0 := by have := Nat.le_of_ble_eq_true h3; omega
      obtain ⟨o2, ha⟩ := getP_fld s y f q hq
      obtain ⟨y', g1, c1, c, c2, g2, g3, g4, _⟩ := getP_rep s y [.fld f] ds o2 q.1 ha hr
      rw [hq] at g1
      have hy : q = ⟨q.1, y'⟩ := by injection g1
      obtain ⟨fs, u1, fd, u2, u3, u4⟩ := struct_field (hC.ty T _ hT) ha
      refine ⟨_, h4, .pointer (some ⟨b, o + o2, none⟩), fun op ho => ?_, ?_⟩
      · have := run_fieldAt (w := w) (b := b) (o := o) u1 u2 u4 hne
        rw [u3] at this
        simp [execOp, ho, hv, this]
      · rw [hy]
        have hl := Rep.length q.1 c y' g4
        refine mk_ref (ds := c) g4 ?_ (fun _ => hX ?_)
        · intro j v hj
          have hlt := (List.getElem?_eq_some_iff.1 hj).1
          have := hra (o2 + j) v (by rw [g2, List.getElem?_append_right (by omega), List.getElem?_append_left (by omega)]; rw [show o2 + j - c1.length = j by omega]; exact hj)
          rwa [show o + o2 + j = o + (o2 + j) by omega]
        · intro hd
          rw [hd] at g2
          have := congrArg List.length g2
          simp at this
          omega
    · cases h2
  · cases hp

theorem idx_sound {i : Int} {n : Nat} {K : Nat → Option R} (hp : idxK i n K = some r) : (0 ≤ i ∧ i < (n : Int)) ∧ K i.toNat = some r := by
  obtain ⟨h1, h2⟩ := cond_some hp
  simp only [Bool.and_eq_true, decide_eq_true_eq] at h1
  exact ⟨h1, h2⟩

theorem num_sound {t : TV} {v : Value} {K : Int → Option R} (ht : RVal w X θ t v) (hp : numK t K = some r) : ∃ k m, v = .int k m ∧ K m = some r := by
  unfold numK at hp
  split at hp
  · obtain ⟨h1, _⟩ := rval_int ht; exact ⟨_, _, h1, hp⟩
  · cases hp

theorem elem_ref {e : Ty} {xs : List e.den} {ds : List Value} {b o : Nat} (hc : chunks (Rep w X e) ds xs) (hr : w.rangeAt b o ds) {k : Nat} (hk : k < xs.length) (hX : ds ≠ [] → ¬ X b) (he : e.size ≠ 0) :
    RVal w X θ (.pv (.ref e) (xs.getD k e.zero)) (.pointer (some ⟨b, o + k * e.size, none⟩)) := by
  obtain ⟨c1, c, c2, h1, h2, h3, _⟩ := chunks_get (fun c x hx => Rep.length e c x hx) e.zero k hc hk
  have hl := Rep.length e c _ h3
  refine mk_ref h3 ?_ (fun _ => hX ?_)
  · intro j v hj
    have hlt := (List.getElem?_eq_some_iff.1 hj).1
    have := hr (k * e.size + j) v (by rw [h1, List.getElem?_append_right (by omega), List.getElem?_append_left (by omega)]; rw [show k * e.size + j - c1.length = j by omega]; exact hj)
    rwa [show o + k * e.size + j = o + (k * e.size + j) by omega]
  · intro hd
    have := congrArg List.length h1
    rw [hd] at this
    simp at this
    omega

theorem run_indexAt_sl {T E : TypeId} {e : Ty} {b o len cap : Nat} {kk : IntKind} {i : Int} (hu : P.underlying T = some (.slice E)) (hE : (TyIs P e).1 E) (hi : 0 ≤ i ∧ i < (len : Int)) :
    (Instr.indexAt T (.slice (some ⟨b, o, none⟩) len cap) (.int kk i)).run P w = .ok (.pointer (some ⟨b, o + i.toNat * e.size, none⟩)) w := by
  have hsz := TyIs.size e E hE
  unfold Program.hasSize at hsz
  cases hq : P.info? E with
  | none => simp [hq] at hsz
  | some inf =>
    have : inf.size = e.size := by simpa [hq] using hsz
    simp [Instr.indexAt, run_underlying hu, asIntOf, hi, sizeOf, typeInfo, hq, this, Addr.add_mid]

theorem run_indexAt_ar {T E : TypeId} {e : Ty} {b o n : Nat} {kk : IntKind} {i : Int} (hu : P.underlying T = some (.array n E)) (hE : (TyIs P e).1 E) (hi : 0 ≤ i ∧ i < (n : Int)) :
    (Instr.indexAt T (.pointer (some ⟨b, o, none⟩)) (.int kk i)).run P w = .ok (.pointer (some ⟨b, o + i.toNat * e.size, none⟩)) w := by
  have hsz := TyIs.size e E hE
  unfold Program.hasSize at hsz
  cases hq : P.info? E with
  | none => simp [hq] at hsz
  | some inf =>
    have : inf.size = e.size := by simpa [hq] using hsz
    simp [Instr.indexAt, run_underlying hu, asIntOf, hi, sizeOf, typeInfo, hq, this, Addr.add_mid, Instr.sureAddr]

theorem pure_indexAddr (hC : CxOk P cx) (hh : HRel w X θ base h) (hρ : ∀ x, RVal w X θ (ρ x) (a.eval x)) {T : TypeId} {x ix : Operand} (hp : pureK cx h ρ (.indexAddr T x ix) K = some r) : ∃ tv, K tv = some r ∧ PureOk P w X θ a (.indexAddr T x ix) tv := by
  simp only [pureK] at hp
  have hx := hρ x
  obtain ⟨kk, i, hiv, hp⟩ := num_sound (hρ ix) hp
  split at hp
  · rename_i e xs he
    rw [he] at hx
    obtain ⟨h1, h2⟩ := cond_some hp
    simp only [Bool.and_eq_true, decide_eq_true_eq] at h1
    have hne : e.size ≠ 0 := by have := Nat.le_of_ble_eq_true h1.2; omega
    obtain ⟨h3, h4⟩ := idx_sound h2
    obtain ⟨⟨E, hu, hE⟩, _⟩ := hC.ty T _ h1.1
    obtain ⟨cs, g1, ad, len, cap, ds, g2, g3, g4, g5, g6, g7⟩ := hx
    subst g2
    have hv : a.eval x = .slice ad len cap := by simpa [boxed, TV.isAgg, Ty.isAgg, eq_comm] using g1
    have hk : i.toNat < xs.length := by omega
    rcases g7 with g7 | ⟨b, o, q1, q2, q3⟩
    · subst g7
      have := chunks_length (fun c x hx => Rep.length e c x hx) g6
      have : xs.length * e.size = 0 := by simpa using this.symm
      rcases Nat.mul_eq_zero.1 this with h | h
      · omega
      · exact absurd h hne
    · subst q1
      refine ⟨_, h4, _, fun op ho => ?_, elem_ref g6 q2 hk (fun _ => q3) hne⟩
      have := run_indexAt_sl (w := w) (b := b) (o := o) (len := len) (cap := cap) (kk := kk) hu hE (i := i) (by omega)
      simp [execOp, ho, hv, hiv, this]
  · rename_i e xs he
    rw [he] at hx
    obtain ⟨h1, h2⟩ := cond_some hp
    simp only [Bool.and_eq_true, decide_eq_true_eq] at h1
    have hne : e.size ≠ 0 := by have := Nat.le_of_ble_eq_true h1.2; omega
    obtain ⟨h3, h4⟩ := idx_sound h2
    obtain ⟨⟨E, hu, hE⟩, _⟩ := hC.ty T _ h1.1
    obtain ⟨cs, g1, ad, len, ds, g2, g3, g5, g6, g7⟩ := hx
    subst g2
    have hv : a.eval x = .slice ad len len := by simpa [boxed, TV.isAgg, eq_comm] using g1
    have hk : i.toNat < xs.length := by omega
    rcases g7 with g7 | ⟨b, o, q1, q2, q3⟩
    · subst g7
      have := chunks_length (fun c x hx => Rep.length e c x hx) g6
      have : xs.length * e.size = 0 := by simpa using this.symm
      rcases Nat.mul_eq_zero.1 this with h | h
      · omega
      · exact absurd h hne
    · subst q1
      refine ⟨_, h4, _, fun op ho => ?_, elem_ref g6 q2 hk (fun _ => q3) hne⟩
      have := run_indexAt_sl (w := w) (b := b) (o := o) (len := len) (cap := len) (kk := kk) hu hE (i := i) (by omega)
      simp [execOp, ho, hv, hiv, this]
  · rename_i j e he
    rw [he] at hx
    split at hp
    · rename_i E0 s xs hg
      obtain ⟨h1, h2⟩ := cond_some hp
      simp only [Bool.and_eq_true, decide_eq_true_eq] at h1
      obtain ⟨⟨rfl, h1a⟩, h1b⟩ := h1
      have hne : s.size ≠ 0 := by have := Nat.le_of_ble_eq_true h1b; omega
      obtain ⟨h3, h4⟩ := idx_sound h2
      obtain ⟨⟨E, hu, hE⟩, _⟩ := hC.ty T _ h1a
      obtain ⟨cs, g1, vv, g2, g3, g4⟩ := hx
      subst g3
      have hv : a.eval x = vv := by simpa [boxed, TV.isAgg, eq_comm] using g1
      obtain ⟨v', ds, k1, k2, k3⟩ := hh.blk j _ hg
      rw [k1] at g2; injection g2 with g2; injection g2 with g2; subst g2
      have hk : i.toNat < xs.length := by omega
      rcases k2.2 with ⟨z1, z2⟩ | ⟨g, cap, cur, z1, z2, z3, z4, z5, z6, z7⟩
      · omega
      · subst z1
        refine ⟨_, h4, .pointer (some ⟨g, 0 + i.toNat * s.size, none⟩), fun op ho => ?_, ?_⟩
        · have := run_indexAt_sl (w := w) (b := g) (o := 0) (len := xs.length) (cap := cap) (kk := kk) hu hE (i := i) h3
          simp only [execOp, ho, hv, hiv, this, Sem.run_bind, Result.andThen_ok, Sem.run_pure]
        · exact ⟨_, rfl, _, g, 0 + i.toNat * s.size, s, k1, rfl, by simp [Ty.rat, Ty.at_nil], hk, rfl⟩
    · cases hp
  · rename_i j rt p e lo hi he
    rw [he] at hx
    obtain ⟨h1, h2⟩ := cond_some hp
    simp only [Bool.and_eq_true, decide_eq_true_eq] at h1
    have hne : e.size ≠ 0 := by have := Nat.le_of_ble_eq_true h1.2; omega
    obtain ⟨h3, h4⟩ := idx_sound h2
    obtain ⟨⟨E, hu, hE⟩, _⟩ := hC.ty T _ h1.1
    obtain ⟨o, q1, q2, ad, cap, hv, q3, q4, q5⟩ := rval_vw hx
    have hlo : hi ≠ lo := by omega
    cases o with
    | var b =>
      obtain ⟨off, n, m1, m2, m3⟩ := q5
      rcases m3 with m3 | m3
      · exact absurd m3 hlo
      · subst m3
        refine ⟨_, h4, .pointer (some ⟨b, off + lo * e.size + i.toNat * e.size, none⟩), fun op ho => ?_, ?_⟩
        · have := run_indexAt_sl (w := w) (b := b) (o := off + lo * e.size) (len := hi - lo) (cap := cap) (kk := kk) hu hE (i := i) h3
          simp [execOp, ho, hv, hiv, this]
        · have hk : lo + i.toNat < n := by omega
          have hadd : off + lo * e.size + i.toNat * e.size = off + (lo + i.toNat) * e.size := by rw [Nat.add_mul]; omega
          rw [hadd]
          exact ⟨_, rfl, .var b, b, off + (lo + i.toNat) * e.size, e, q1, rfl, rat_append (by simp) m1 (by simp [Ty.at, Ty.at_nil, hk]), okp_append _ trivial, rfl⟩
    | arr u =>
      obtain ⟨m1, m2, ad0, len, cap0, m3, m4, m5⟩ := q5
      rcases m5 with m5 | ⟨g, m5, m6⟩
      · exact absurd m5 hlo
      · subst m1; subst m2; subst m3; subst m5; subst m6
        refine ⟨_, h4, .pointer (some ⟨g, lo * e.size + i.toNat * e.size, none⟩), fun op ho => ?_, ?_⟩
        · have := run_indexAt_sl (w := w) (b := g) (o := lo * e.size) (len := hi - lo) (cap := cap) (kk := kk) hu hE (i := i) h3
          simp [execOp, ho, hv, hiv, this]
        · have hk : lo + i.toNat < len := by omega
          have hadd : lo * e.size + i.toNat * e.size = (lo + i.toNat) * e.size := by rw [Nat.add_mul]
          rw [hadd]
          exact ⟨_, rfl, _, g, (lo + i.toNat) * e.size, e, q1, rfl, by simp [Ty.rat, Ty.at_nil], hk, rfl⟩
  · rename_i j t p he
    rw [he] at hx
    obtain ⟨o, b, off, s0, q1, q2, q3, q4, hv⟩ := rval_ptr hx
    split at hp
    · rename_i n e hs
      obtain ⟨h1, h2⟩ := cond_some hp
      have hT : cx.ty T = some (.arr n e) := by simpa using h1
      obtain ⟨h3, h4⟩ := idx_sound h2
      have hs0 : s0 = .arr n e := by rw [rsub_of_rat q3] at hs; injection hs
      subst hs0
      obtain ⟨⟨E, hu, hE⟩, _⟩ := hC.ty T _ hT
      refine ⟨_, h4, .pointer (some ⟨b, off + i.toNat * e.size, none⟩), fun op ho => ?_, ?_⟩
      · have := run_indexAt_ar (w := w) (b := b) (o := off) (kk := kk) hu hE (i := i) h3
        simp [execOp, ho, hv, hiv, this]
      · have hk : i.toNat < n := by omega
        exact ⟨_, rfl, o, b, off + i.toNat * e.size, e, q1, q2, rat_append (by simp) q3 (by simp [Ty.at, Ty.at_nil, hk]), okp_append _ q4, rfl⟩
    · cases hp
  · rename_i n e xs he
    rw [he] at hx
    obtain ⟨h1, h2⟩ := cond_some hp
    have hT : cx.ty T = some (.arr n e) := by simpa using h1
    obtain ⟨h3, h4⟩ := idx_sound h2
    obtain ⟨b, o, ds, hv, ⟨hl, hc⟩, hra, hX⟩ := rval_ref hx
    obtain ⟨⟨E, hu, hE⟩, _⟩ := hC.ty T _ hT
    have hk : i.toNat < xs.length := by rw [hl]; omega
    have key : RVal w X θ (.pv (.ref e) (xs.getD i.toNat e.zero)) (.pointer (some ⟨b, o + i.toNat * e.size, none⟩)) := by
      obtain ⟨c1, c, c2, h1, h2, h3, _⟩ := chunks_get (fun c x hx => Rep.length e c x hx) e.zero i.toNat hc hk
      have hl := Rep.length e c _ h3
      refine mk_ref h3 ?_ (fun hcn => hX ?_)
      · intro j v hj
        have hlt := (List.getElem?_eq_some_iff.1 hj).1
        have := hra (i.toNat * e.size + j) v (by rw [h1, List.getElem?_append_right (by omega), List.getElem?_append_left (by omega)]; rw [show i.toNat * e.size + j - c1.length = j by omega]; exact hj)
        rwa [show o + i.toNat * e.size + j = o + (i.toNat * e.size + j) by omega]
      · intro hd
        have := congrArg List.length h1
        rw [hd] at this
        have : c.length = 0 := by simp only [List.length_nil, List.length_append] at this; omega
        exact hcn (List.eq_nil_of_length_eq_zero this)
    refine ⟨_, h4, _, fun op ho => ?_, key⟩
    have := run_indexAt_ar (w := w) (b := b) (o := o) (kk := kk) hu hE (i := i) h3
    simp [execOp, ho, hv, hiv, this]
  · cases hp

end Go.Ai

/- Literals of structs and arrays. -/
namespace Go.Ai
open Go.RowKit
set_option linter.unusedVariables false
set_option linter.unusedSimpArgs false

variable {P : Program} {cx : Cx} {w : World} {X : Nat → Prop} {θ : Nat → Option Own} {h : Heap} {base : Nat} {ρ : Operand → TV} {a : Act} {R : Type} {r : R} {K : TV → Option R}

def Ty.zcells : Ty → List Value
  | .int k => [.int k 0]
  | .bool => [.bool false]
  | .str => [.string ⟨#[]⟩]
  | .slice _ => [.slice none 0 0]
  | .arr n e => (List.replicate n e.zcells).flatten
  | .unit => []
  | .pair a b => a.zcells ++ b.zcells
  | .ref _ => [.pointer none]
  | .opt _ => [.pointer none]

def Ty.noRef : Ty → Bool
  | .ref _ => false
  | .arr _ e => e.noRef
  | .pair a b => a.noRef && b.noRef
  | _ => true

theorem TyIs.noRef2 : (t : Ty) → (∀ T, (TyIs P t).1 T → t.noRef = true) ∧ (∀ off fs, (TyIs P t).2 off fs → t.noRef = true) := by
  intro t
  induction t with
  | ref e ih => exact ⟨fun T h => h.elim, fun off fs h => h.elim⟩
  | arr n e ih => exact ⟨fun T ⟨⟨E, _, h⟩, _⟩ => ih.1 E h, fun off fs h => h.elim⟩
  | pair a b iha ihb =>
    refine ⟨fun T ⟨⟨fs, _, f, r, _, _, _, h1, h2⟩, _⟩ => ?_, fun off fs ⟨f, r, _, _, _, h1, h2⟩ => ?_⟩ <;> simp [Ty.noRef, iha.1 _ h1, ihb.2 _ _ h2]
  | _ => exact ⟨fun _ _ => rfl, fun _ _ _ => rfl⟩
theorem TyIs.noRef (t : Ty) (T : TypeId) (h : (TyIs P t).1 T) : t.noRef = true := (TyIs.noRef2 t).1 T h

theorem rep_zero : (t : Ty) → t.noRef = true → Rep w X t t.zcells t.zero
  | .int k, _ => ⟨rfl, by show IntKind.has k 0; cases k <;> simp [IntKind.has, IntKind.min, IntKind.max, IntKind.signed, IntKind.bits]⟩
  | .bool, _ => rfl
  | .str, _ => ⟨⟨#[]⟩, rfl, rfl, Nat.zero_le _⟩
  | .slice e, _ => ⟨none, 0, 0, [], rfl, rfl, Nat.le_refl _, Nat.zero_le _, rfl, .inl rfl⟩
  | .arr n e, h => by
    refine ⟨by simp [Ty.zero], ?_⟩
    have := rep_zero e (by simpa [Ty.noRef] using h)
    simp only [Ty.zcells, Ty.zero]
    induction n with
    | zero => simp [chunks]
    | succ n ih => rw [List.replicate_succ, List.replicate_succ, List.flatten_cons]; exact ⟨_, _, rfl, this, ih h⟩
  | .unit, _ => rfl
  | .pair a b, h => by
    simp only [Ty.noRef, Bool.and_eq_true] at h
    exact ⟨_, _, rfl, rep_zero a h.1, rep_zero b h.2⟩
  | .ref _, h => by simp [Ty.noRef] at h
  | .opt _, _ => rfl

theorem zero_rv : (t : Ty) → t.noRef = true → RV w X θ false (zeroTV t) t.zcells ∧ (zeroTV t).fits t = true
  | .pair a b, h => by
    have h' := h
    simp only [Ty.noRef, Bool.and_eq_true] at h'
    obtain ⟨a1, a2⟩ := zero_rv a h'.1
    obtain ⟨b1, b2⟩ := zero_rv b h'.2
    simp only [zeroTV]
    split
    · rename_i ta x tb y ea eb
      rw [ea] at a1 a2
      rw [eb] at b1 b2
      have e1 : ta = a := by simpa [TV.fits] using a2
      have e2 : tb = b := by simpa [TV.fits] using b2
      subst e1; subst e2
      exact ⟨⟨_, _, rfl, a1, b1⟩, pv_fits _ _⟩
    · exact ⟨⟨_, _, rfl, a1, b1⟩, by simp [TV.fits, a2, b2]⟩
  | .slice e, _ => ⟨rfl, rfl⟩
  | .int k, h => ⟨rep_zero _ h, pv_fits _ _⟩
  | .bool, h => ⟨rep_zero .bool h, pv_fits _ _⟩
  | .str, h => ⟨rep_zero .str h, pv_fits _ _⟩
  | .arr n e, h => ⟨rep_zero (.arr n e) h, pv_fits _ _⟩
  | .unit, h => ⟨rep_zero .unit h, pv_fits _ _⟩
  | .ref e, h => by simp [Ty.noRef] at h
  | .opt e, h => ⟨rep_zero (.opt e) h, pv_fits _ _⟩

structure ZeroOk (P : Program) (cx : Cx) : Prop where
  zero : ∀ T s, cx.ty T = some s → cx.zok T = true → ∃ i z, P.info? T = some i ∧ i.zero = some z ∧ z.cells.toList = s.zcells ∧ (∀ w : World, (zeroValue T).run P w = .ok z w)

theorem fold_set (off : Nat) : ∀ (vs : List Value) (k : Nat) (cs : Array Value), off + k + vs.length ≤ cs.size →
    ((vs.zipIdx k).foldl (fun cs (x : Value × Nat) => cs.setIfInBounds (off + x.2) x.1) cs).toList = cs.toList.take (off + k) ++ (vs ++ cs.toList.drop (off + k + vs.length))
  | [], k, cs, h => by simp
  | v :: vs, k, cs, h => by
    simp only [List.length_cons] at h
    rw [List.zipIdx_cons, List.foldl_cons, fold_set off vs (k + 1) _ (by simp; omega)]
    simp only [Array.toList_setIfInBounds]
    have hlt : off + k < cs.toList.length := by simp; omega
    apply List.ext_getElem?
    intro i
    simp only [List.getElem?_append, List.getElem?_take, List.getElem?_drop, List.length_take, List.length_set, List.length_cons, List.getElem?_cons, List.getElem?_set]
    have e1 : min (off + (k + 1)) cs.toList.length = off + k + 1 := by omega
    have e2 : min (off + k) cs.toList.length = off + k := by omega
    rw [e1, e2]
    by_cases h1 : i < off + k
    · have h2 : i < off + k + 1 := by omega
      have h3 : off + k ≠ i := by omega
      have h4 : i < off + (k + 1) := by omega
      simp [h1, h2, h3, h4]
    · by_cases h2 : i = off + k
      · subst h2
        simp [hlt]; omega
      · have h3 : ¬ i < off + k + 1 := by omega
        simp only [h1, h3, if_false]
        have h4 : i - (off + k) = (i - (off + k + 1)) + 1 := by omega
        rw [h4]
        by_cases h5 : i - (off + k + 1) < vs.length
        · have h6 : (i - (off + k + 1)) + 1 < vs.length + 1 := by omega
          simp [h5]
        · have h6 : ¬ (i - (off + k + 1)) + 1 < vs.length + 1 := by omega
          have h7 : off + k ≠ off + (k + 1) + vs.length + (i - (off + k + 1) - vs.length) := by omega
          simp only [h5, h6, h7, if_false]
          simp
          congr 1
          omega

end Go.Ai

namespace Go.Ai
open Go.RowKit
variable {P : Program} {cx : Cx} {w : World} {X : Nat → Prop} {θ : Nat → Option Own} {h : Heap} {base : Nat} {ρ : Operand → TV} {a : Act} {R : Type} {r : R} {K : TV → Option R}

/-- Values and what stands for them, by number. -/
def PartsRel (w : World) (X : Nat → Prop) (θ : Nat → Option Own) : List (Nat × TV) → List (Nat × Value) → Prop
  | [], [] => True
  | (i, t) :: r, (j, v) :: q => i = j ∧ RVal w X θ t v ∧ PartsRel w X θ r q
  | _, _ => False

theorem fits_val {tv : TV} {t : Ty} {v : Value} (hf : tv.fits t = true) (h : RVal w X θ tv v) : ∃ cs, boxed t.isAgg v cs ∧ RV w X θ false tv cs ∧ cs.length = t.size := by
  have h1 : ∀ c, tv ≠ .tup c := by rintro c rfl; simp [TV.fits] at hf
  have h2 : tv ≠ .dead := by rintro rfl; simp [TV.fits] at hf
  have h3 : tv ≠ .und := by rintro rfl; simp [TV.fits] at hf
  obtain ⟨cs, g1, g2⟩ := rval_one h1 h2 h3 h
  exact ⟨cs, by rw [← fits_isAgg hf]; exact g1, g2, RV.length tv t cs hf g2⟩

theorem fill_sound {s : Ty} {isArr : Bool} {place : Nat → Option (Nat × Nat)} (hpl : ∀ i o2 q, s.at [if isArr then .idx i else .fld i] = some (o2, q) → place i = some (o2, q.size)) :
    ∀ (ps : List (Nat × TV)) (vs : List (Nat × Value)) (c u : TV) (cs : List Value), PartsRel w X θ ps vs → buildTV s c isArr ps = some u → c.fits s = true → RV w X θ false c cs →
      ∃ ds, Instr.fill place cs.toArray vs = some ds ∧ RV w X θ false u ds.toList ∧ u.fits s = true
  | [], [], c, u, cs, _, hb, hf, hc => by
    simp only [buildTV, Option.some.injEq] at hb
    subst hb
    exact ⟨cs.toArray, rfl, by simpa using hc, hf⟩
  | (i, t) :: ps, (j, v) :: vs, c, u, cs, ⟨hij, htv, hr⟩, hb, hf, hc => by
    subst hij
    simp only [buildTV] at hb
    split at hb
    · rename_i q hq
      obtain ⟨h1, h2⟩ := cond_some hb
      split at h2
      · rename_i c' hs
        obtain ⟨o2, qt⟩ := q
        obtain ⟨vc, g1, g2, g3⟩ := fits_val h1 htv
        have hvc := boxed_cells g1 (RV.one t vc g2)
        have hle := tv_set.at_le s _ o2 qt hq
        have hl := RV.length c s cs hf hc
        have hsplit : cs = cs.take o2 ++ ((cs.drop o2).take qt.size ++ cs.drop (o2 + qt.size)) := by
          rw [← List.drop_drop, List.take_append_drop, List.take_append_drop]
        obtain ⟨k1, k2⟩ := tv_set c s _ cs o2 qt t c' vc hq hf hs hc h1 g2 _ _ _ hsplit (by simp; omega) (by simp; omega)
        have hfold := fold_set o2 v.cells.toList 0 cs.toArray (by rw [hvc, g3]; simp; omega)
        obtain ⟨ds, m1, m2, m3⟩ := fill_sound hpl ps vs c' u _ hr h2 k1 k2
        refine ⟨ds, ?_, m2, m3⟩
        have hsz : v.cells.size = qt.size := by rw [← g3, ← hvc]; simp
        have hnot : ¬ (v.cells.size ≠ qt.size ∨ o2 + v.cells.size > cs.toArray.size) := by simp [hsz]; omega
        rw [Instr.fill, hpl i o2 qt hq]
        simp only [Bool.or_eq_true, decide_eq_true_eq, hnot, if_false]
        rw [← m1]
        congr 1
        apply Array.ext'
        rw [← Array.foldl_toList, Array.toList_zipIdx]
        rw [show (cs.take o2 ++ (vc ++ cs.drop (o2 + qt.size))).toArray.toList = cs.take o2 ++ (vc ++ cs.drop (o2 + qt.size)) from rfl]
        rw [hfold, hvc, g3]
        simp
      · cases h2
    · cases hb
  | [], _ :: _, _, _, _, h, _, _, _ => h.elim
  | _ :: _, [], _, _, _, h, _, _, _ => h.elim

theorem parts_rel (hρ : ∀ x, RVal w X θ (ρ x) (a.eval x)) : ∀ ps : List (Nat × Operand), PartsRel w X θ (ps.map fun q => (q.1, ρ q.2)) (ps.map fun q => (q.1, a.eval q.2))
  | [] => trivial
  | (i, x) :: r => ⟨rfl, hρ x, parts_rel hρ r⟩

theorem places_of {t : Ty} : ∀ (off : Nat) (fs : List Field), (TyIs P t).2 off fs → ∃ pl, fs.mapM (fun f => (P.info? f.type).map fun i => (f.offset, i.size)) = some pl ∧ ∀ i o2 q, t.at [.fld i] = some (o2, q) → pl[i]? = some (off + o2, q.size) := by
  induction t with
  | unit => intro off fs h; have h' : fs = [] := h; subst h'; exact ⟨[], rfl, fun i o2 q h => by simp [Ty.at] at h⟩
  | pair a b iha ihb =>
    intro off fs ⟨f, r, he, ho, _, h1, h2⟩
    subst he
    obtain ⟨pl, g1, g2⟩ := ihb (off + a.size) r h2
    have hsz := TyIs.size a _ h1
    unfold Program.hasSize at hsz
    cases hq : P.info? f.type with
    | none => simp [hq] at hsz
    | some inf =>
      have hs : inf.size = a.size := by simpa [hq] using hsz
      refine ⟨(f.offset, inf.size) :: pl, by simp [List.mapM_cons, hq, g1], fun i o2 q hi => ?_⟩
      cases i with
      | zero =>
        simp only [Ty.at, Ty.at_nil, Option.some.injEq, Prod.mk.injEq] at hi
        obtain ⟨rfl, rfl⟩ := hi
        simp [ho, hs]
      | succ i =>
        simp only [Ty.at] at hi
        cases hz : b.at [.fld i] with
        | none => simp [hz] at hi
        | some z =>
          obtain ⟨o3, q3⟩ := z
          simp only [hz, Option.map_some, Option.some.injEq, Prod.mk.injEq] at hi
          obtain ⟨rfl, rfl⟩ := hi
          have := g2 i o3 q3 hz
          simp [this]; omega
  | _ => intro off fs h; exact h.elim

theorem pure_build (hC : CxOk P cx) (hZ : ZeroOk P cx) (hρ : ∀ x, RVal w X θ (ρ x) (a.eval x)) {T : TypeId} {parts : Array (Nat × Operand)} (hp : pureK cx h ρ (.build T parts) K = some r) : ∃ tv, K tv = some r ∧ PureOk P w X θ a (.build T parts) tv := by
  simp only [pureK] at hp
  split at hp
  · rename_i s hT
    obtain ⟨h1, h2⟩ := cond_some hp
    simp only [Bool.and_eq_true] at h1
    split at h2
    · rename_i u hb
      have hty := hC.ty T s hT
      obtain ⟨inf, z, z1, z2, z3, _⟩ := hZ.zero T s hT h1.1
      obtain ⟨r1, r2⟩ := zero_rv (w := w) (X := X) (θ := θ) s (TyIs.noRef s T hty)
      have hrel := parts_rel hρ parts.toList
      have hzc : s.zcells.toArray = z.cells := by rw [← z3]
      have fin : ∀ ds : Array Value, P.built T (parts.toList.map fun q => (q.1, a.eval q.2)) = some ds → RV w X θ false u ds.toList → u.fits s = true → PureOk P w X θ a (.build T parts) u := by
        intro ds hd hrv hfit
        refine ⟨.agg ds, fun o ho => ?_, mk_rval (by rw [fits_isAgg hfit, h1.2]; simp [boxed]) hrv⟩
        have := run_build (P := P) w T (parts.map fun q => (q.1, a.eval q.2)) ds (by simpa using hd)
        simp [execOp, ho, this]
      cases s with
      | arr n e =>
        obtain ⟨⟨E, hu, hE⟩, _⟩ := hty
        have hsz := TyIs.size e E hE
        unfold Program.hasSize at hsz
        cases hq : P.info? E with
        | none => simp [hq] at hsz
        | some ie =>
          have hs : ie.size = e.size := by simpa [hq] using hsz
          obtain ⟨ds, d1, d2, d3⟩ := fill_sound (isArr := true) (place := fun i => some (i * ie.size, ie.size)) (fun i o2 q hi => by
            simp only [if_true, Ty.at] at hi
            split at hi
            · simp only [Ty.at_nil, Option.map_some, Option.some.injEq, Prod.mk.injEq] at hi
              obtain ⟨rfl, rfl⟩ := hi
              simp [hs]
            · cases hi) _ _ _ u _ hrel hb r2 r1
          exact ⟨u, h2, fin ds (by simp only [Program.built, z1, hu, z2, hq]; rw [← hzc]; exact d1) d2 d3⟩
      | unit =>
        obtain ⟨⟨fs, hu, hfs⟩, _⟩ := hty
        obtain ⟨ds, d1, d2, d3⟩ := fill_sound (isArr := false) (place := fun i => ([] : List (Nat × Nat)).toArray[i]?) (fun i o2 q hi => by simp [Ty.at] at hi) _ _ _ u _ hrel hb r2 r1
        exact ⟨u, h2, fin ds (by simp only [Program.built, z1, hu, z2, hfs]; simp only [List.mapM_nil, Option.pure_def]; rw [← hzc]; exact d1) d2 d3⟩
      | pair p q =>
        obtain ⟨⟨fs, hu, f, rr, hfs, ho, hn, k1, k2⟩, _⟩ := hty
        have hall : (TyIs P (.pair p q)).2 0 fs.toList := ⟨f, rr, hfs, ho, hn, k1, by simpa using k2⟩
        obtain ⟨pl, p1, p2⟩ := places_of 0 fs.toList hall
        obtain ⟨ds, d1, d2, d3⟩ := fill_sound (isArr := false) (place := fun i => pl.toArray[i]?) (fun i o2 q hi => by
          have := p2 i o2 q (by simpa using hi)
          simpa using this) _ _ _ u _ hrel hb r2 r1
        exact ⟨u, h2, fin ds (by simp only [Program.built, z1, hu, z2, p1]; rw [← hzc]; exact d1) d2 d3⟩
      | _ => simp [Ty.isAgg] at h1
    · cases h2
  · cases hp

end Go.Ai

/- The remaining operations that hand back a value and leave memory as it was; all of them together. -/
namespace Go.Ai
open Go.RowKit
set_option linter.unusedVariables false
set_option linter.unusedSimpArgs false

variable {P : Program} {cx : Cx} {w : World} {X : Nat → Prop} {θ : Nat → Option Own} {h : Heap} {base : Nat} {ρ : Operand → TV} {a : Act} {R : Type} {r : R} {K : TV → Option R}

theorem pure_field (hC : CxOk P cx) (hρ : ∀ x, RVal w X θ (ρ x) (a.eval x)) {T : TypeId} {x : Operand} {f : Nat} (hp : pureK cx h ρ (.field T x f) K = some r) : ∃ tv, K tv = some r ∧ PureOk P w X θ a (.field T x f) tv := by
  simp only [pureK] at hp
  split at hp
  · rename_i s hT
    obtain ⟨h1, h2⟩ := cond_some hp
    split at h2
    · rename_i u hu
      obtain ⟨cs, g1, g2, g3⟩ := fits_val h1 (hρ x)
      have hat : ∃ o2 q, s.at [.fld f] = some (o2, q) := by
        generalize ρ x = tv at *
        clear hp g1 g2 g3 hT h2
        induction tv generalizing s f with
        | pv s2 y =>
          have : s2 = s := by simpa [TV.fits] using h1
          subst this
          simp only [TV.getP] at hu
          cases hz : Ai.getP s2 y [.fld f] with
          | none => simp [hz] at hu
          | some q => obtain ⟨o2, ho⟩ := getP_fld s2 y f q hz; exact ⟨o2, _, ho⟩
        | pr p q ihp ihq =>
          cases s with
          | pair tp tq =>
            simp only [TV.fits, Bool.and_eq_true] at h1
            cases f with
            | zero => exact ⟨0, tp, by simp [Ty.at, Ty.at_nil]⟩
            | succ f =>
              simp only [TV.getP] at hu
              obtain ⟨o2, q2, ho⟩ := ihq (f := f) (s := tq) h1.2 hu
              exact ⟨tp.size + o2, q2, by simp [Ty.at, ho]⟩
          | _ => simp [TV.fits] at h1
        | _ => simp [TV.getP] at hu
      obtain ⟨o2, q, ha⟩ := hat
      obtain ⟨k1, c1, c, c2, k2, k3, k4, k5⟩ := tv_get _ s [.fld f] cs o2 q u ha h1 hu g2
      obtain ⟨fs, u1, fd, u2, u3, u4⟩ := struct_field (hC.ty T s hT) ha
      have hagg : s.isAgg = true := by
        cases s with
        | pair a b => rfl
        | _ => simp [Ty.at] at ha
      rw [hagg] at g1
      have hv : a.eval x = .agg cs.toArray := by simpa [boxed] using g1
      obtain ⟨v, m1, m2⟩ := run_part_kind (w := w) u4 k2 k4
      rw [k3, ← u3] at m1
      exact ⟨u, h2, v, fun o ho => by simp [execOp, ho, hv, Instr.field, run_underlying u1, u2, asAgg, m1], mk_rval (by rw [fits_isAgg k1]; exact m2) k5⟩
    · cases h2
  · cases hp

theorem pure_index (hC : CxOk P cx) (hρ : ∀ x, RVal w X θ (ρ x) (a.eval x)) {T : TypeId} {x ix : Operand} (hp : pureK cx h ρ (.index T x ix) K = some r) : ∃ tv, K tv = some r ∧ PureOk P w X θ a (.index T x ix) tv := by
  simp only [pureK] at hp
  have hx := hρ x
  obtain ⟨kk, i, hiv, hp⟩ := num_sound (hρ ix) hp
  split at hp
  · rename_i n e xs he
    rw [he] at hx
    obtain ⟨h1, h2⟩ := cond_some hp
    have hT : cx.ty T = some (.arr n e) := by simpa using h1
    obtain ⟨h3, h4⟩ := idx_sound h2
    obtain ⟨cs, g1, hl, hc⟩ := hx
    have hv : a.eval x = .agg cs.toArray := by simpa [boxed, TV.isAgg, Ty.isAgg] using g1
    obtain ⟨⟨E, hu, hE⟩, _⟩ := hC.ty T _ hT
    obtain ⟨c1, c, c2, k1, k2, k3, _⟩ := chunks_get (fun c x hx => Rep.length e c x hx) e.zero i.toNat hc (by rw [hl]; omega)
    have hsz := TyIs.size e E hE
    unfold Program.hasSize at hsz
    cases hq : P.info? E with
    | none => simp [hq] at hsz
    | some inf =>
      have hs : inf.size = e.size := by simpa [hq] using hsz
      obtain ⟨v, m1, m2⟩ := run_part_kind (w := w) hE k1 (Rep.length e c _ k3)
      rw [k2] at m1
      exact ⟨_, h4, v, fun o ho => by simp [execOp, ho, hv, hiv, Instr.index, asIntOf, run_underlying hu, h3, sizeOf, typeInfo, hq, hs, m1], c, m2, k3⟩
  · rename_i xs he
    rw [he] at hx
    obtain ⟨h1, h2⟩ := cond_some hp
    have hT : cx.ty T = some .str := by simpa using h1
    obtain ⟨h3, h4⟩ := idx_sound h2
    obtain ⟨s, hv, rfl, hl⟩ := rval_str hx
    rw [bytesI_length] at h3
    have hu := (hC.ty T _ hT).1
    have hlt : i.toNat < s.size := by omega
    have hb : s[i.toNat]? = some s[i.toNat] := by simp [hlt]
    have hg : (bytesI s).getD i.toNat 0 = (s[i.toNat].toNat : Int) := by
      unfold bytesI
      simp only [List.getD, List.getElem?_map]
      have : s.data.toList[i.toNat]? = some s[i.toNat] := by
        rw [Array.getElem?_toList]; exact Array.getElem?_eq_getElem (by exact hlt)
      rw [this]; rfl
    refine ⟨_, h4, .int .u8 s[i.toNat].toNat, fun o ho => ?_, ?_⟩
    · simp [execOp, ho, hv, hiv, Instr.index, asIntOf, run_underlying hu, h3.1, hb]
    · rw [hg]
      refine mk_int ?_
      have := s[i.toNat].toNat_lt
      simp [IntKind.has, IntKind.min, IntKind.max, IntKind.signed, IntKind.bits]
      omega
  · cases hp

theorem chain_nth : ∀ (c : TV) (vs : List Value) (i : Nat), RV w X θ true c vs → i < clen c → ∃ v, vs[i]? = some v ∧ RVal w X θ (nth c i) v
  | .pr p q, vs, 0, h, _ => by
    have h' : ∃ v rr, vs = v :: rr ∧ RVal w X θ p v ∧ RV w X θ true q rr := by
      cases p <;> simp only [RV] at h <;> obtain ⟨v, rr, h0, h1, h2⟩ := h
      all_goals first
        | exact ⟨v, rr, h0, trivial, h2⟩
        | exact ⟨v, rr, h0, h1, h2⟩
        | (obtain ⟨cs, k1, k2⟩ := h1; exact ⟨v, rr, h0, mk_rval k1 k2, h2⟩)
    obtain ⟨v, rr, h0, h1, _⟩ := h'
    exact ⟨v, by simp [h0], h1⟩
  | .pr p q, vs, i + 1, h, hl => by
    have h' : ∃ v rr, vs = v :: rr ∧ RV w X θ true q rr := by
      cases p <;> simp only [RV] at h <;> obtain ⟨v, rr, h0, h1, h2⟩ := h <;> exact ⟨v, rr, h0, h2⟩
    obtain ⟨v, rr, h0, h2⟩ := h'
    obtain ⟨u, k1, k2⟩ := chain_nth q rr i h2 (by simpa [clen] using hl)
    exact ⟨u, by simp [h0, k1], k2⟩
  | .pv _ _, _, i, _, hl => by simp [clen] at hl
  | .ptr .., _, i, _, hl => by simp [clen] at hl
  | .sl .., _, i, _, hl => by simp [clen] at hl
  | .vw .., _, i, _, hl => by simp [clen] at hl
  | .clp .., _, i, _, hl => by simp [clen] at hl
  | .nilsl, _, i, _, hl => by simp [clen] at hl
  | .fn .., _, i, _, hl => by simp [clen] at hl
  | .tup _, _, i, _, hl => by simp [clen] at hl
  | .bad, _, i, _, hl => by simp [clen] at hl
  | .und, _, i, _, hl => by simp [clen] at hl
  | .dead, _, i, _, hl => by simp [clen] at hl

theorem pure_extract (hρ : ∀ x, RVal w X θ (ρ x) (a.eval x)) {x : Operand} {i : Nat} (hp : pureK cx h ρ (.extract x i) K = some r) : ∃ tv, K tv = some r ∧ PureOk P w X θ a (.extract x i) tv := by
  simp only [pureK] at hp
  have hx := hρ x
  split at hp
  · rename_i c he
    rw [he] at hx
    obtain ⟨h1, h2⟩ := cond_some hp
    obtain ⟨vs, hv, hc⟩ := hx
    obtain ⟨v, k1, k2⟩ := chain_nth c vs i hc (by have := Nat.le_of_ble_eq_true h1; omega)
    exact ⟨_, h2, v, fun o ho => by simp [execOp, ho, hv, Instr.extract, k1], k2⟩
  · cases hp

theorem rv_chain_cons {t c : TV} {v : Value} {vs : List Value} (ht : RVal w X θ t v) (htup : ∀ c, t ≠ .tup c) (hc : RV w X θ true c vs) : RV w X θ true (.pr t c) (v :: vs) := by
  cases t with
  | tup q => exact absurd rfl (htup q)
  | dead => simp only [RV]; exact ⟨v, vs, rfl, trivial, hc⟩
  | und => simp only [RV]; exact ⟨v, vs, rfl, ht, hc⟩
  | _ => simp only [RV]; exact ⟨v, vs, rfl, ht, hc⟩

theorem rv_chain (hρ : ∀ x, RVal w X θ (ρ x) (a.eval x)) : ∀ ps : List Operand, (∀ x ∈ ps, ∀ c, ρ x ≠ .tup c) → RV w X θ true (chain (ps.map ρ)) (ps.map a.eval)
  | [], _ => rfl
  | x :: r, h => rv_chain_cons (hρ x) (h x (by simp)) (rv_chain hρ r fun y hy => h y (by simp [hy]))

theorem pure_makeFunc (hρ : ∀ x, RVal w X θ (ρ x) (a.eval x)) {fn : Fn} {first cap : Array Operand} (hp : pureK cx h ρ (.makeFunc fn first cap) K = some r) : ∃ tv, K tv = some r ∧ PureOk P w X θ a (.makeFunc fn first cap) tv := by
  cases fn with
  | func f =>
    simp only [pureK] at hp
    obtain ⟨h1, h2⟩ := cond_some hp
    simp only [Bool.and_eq_true, List.all_eq_true] at h1
    have hf : first = #[] := by simpa using h1.1
    refine ⟨_, h2, .func (.func f) #[] (cap.map a.eval), fun o ho => by simp [execOp, ho, Instr.makeFunc, hf], _, rfl, _, ?_, rv_chain hρ cap.toList fun x hx c hc => ?_⟩
    · exact congrArg (fun l => [Value.func (.func f) #[] l]) (Array.ext' (by simp))
    · have := h1.2 x hx
      rw [hc] at this
      simp [TV.isTup] at this
  | _ => simp [pureK] at hp

theorem pure_len (hC : CxOk P cx) (hh : HRel w X θ base h) (hρ : ∀ x, RVal w X θ (ρ x) (a.eval x)) {args : Array Operand} {ts : Array TypeId} (hp : pureK cx h ρ (.call { callee := .builtin .len, args, argTypes := ts }) K = some r) :
    ∃ tv, K tv = some r ∧ PureOk P w X θ a (.call { callee := .builtin .len, args, argTypes := ts }) tv := by
  simp only [pureK] at hp
  split at hp
  · rename_i x T ha ht
    have ha' : args = #[x] := Array.ext' ha
    have ht' : ts = #[T] := Array.ext' ht
    subst ha'; subst ht'
    split at hp
    · rename_i s hT
      have hx := hρ x
      have hty := hC.ty T s hT
      have key : ∀ (n : Nat), n ≤ maxLen → (∀ w : World, (Builtin.len_ #[T] 0 #[a.eval x]).run P w = .ok (goInt n) w ∧ ∀ U, (Builtin.len_ #[T] U #[a.eval x]).run P w = .ok (goInt n) w) → PureOk P w X θ a (.call { callee := .builtin .len, args := #[x], argTypes := #[T] }) (.pv (.int .i64) (n : Int)) := by
        intro n hn hrun
        refine ⟨.int .i64 n, fun o ho => ?_, mk_int ?_⟩
        · simp only [execOp, ho, resolve, Sem.run_bind, Sem.run_pure, Result.andThen_ok, invoke, builtin]
          have := (hrun w).2 o.type
          simp only [List.map_toArray, List.map_cons, List.map_nil, this, Result.andThen_ok]
          rfl
        · unfold maxLen at hn
          simp [IntKind.has, IntKind.min, IntKind.max, IntKind.signed, IntKind.bits]
          omega
      unfold lenK at hp
      split at hp
      · rename_i e xs e2 he
        rw [he] at hx
        obtain ⟨⟨E, hu, hE⟩, _⟩ := hty
        obtain ⟨cs, g1, ad, len, cap, ds, g2, g3, g4, g5, g6, g7⟩ := hx
        subst g2
        have hv : a.eval x = .slice ad len cap := by simpa [boxed, TV.isAgg, Ty.isAgg, eq_comm] using g1
        exact ⟨_, hp, key xs.length (by omega) fun w => by subst g3; constructor <;> (try intro U) <;> simp [Builtin.len_, run_underlying hu, hv]⟩
      · rename_i xs he
        rw [he] at hx
        obtain ⟨s, hv, rfl, hl⟩ := rval_str hx
        have hu := hty.1
        rw [bytesI_length] at hp
        exact ⟨_, hp, key s.size hl fun w => by constructor <;> (try intro U) <;> simp [Builtin.len_, run_underlying hu, hv]⟩
      · rename_i n e xs m e2 he
        obtain ⟨h1, h2⟩ := cond_some hp
        simp only [Bool.and_eq_true, decide_eq_true_eq] at h1
        obtain ⟨rfl, h1b⟩ := h1
        obtain ⟨⟨E, hu, hE⟩, _⟩ := hty
        exact ⟨_, h2, key n (by have := Nat.le_of_ble_eq_true h1b; unfold maxLen; omega) fun w => by constructor <;> (try intro U) <;> simp [Builtin.len_, run_underlying hu]⟩
      · rename_i e xs e2 he
        rw [he] at hx
        obtain ⟨⟨E, hu, hE⟩, _⟩ := hty
        obtain ⟨cs, g1, ad, len, ds, g2, g3, g5, g6, g7⟩ := hx
        subst g2
        have hv : a.eval x = .slice ad len len := by simpa [boxed, TV.isAgg, eq_comm] using g1
        exact ⟨_, hp, key xs.length (by omega) fun w => by subst g3; constructor <;> (try intro U) <;> simp [Builtin.len_, run_underlying hu, hv]⟩
      · rename_i e2 he
        rw [he] at hx
        obtain ⟨⟨E, hu, hE⟩, _⟩ := hty
        obtain ⟨cs, g1, g2⟩ := hx
        have g2' : cs = _ := g2
        subst g2'
        have hv : a.eval x = .slice none 0 0 := by simpa [boxed, TV.isAgg, eq_comm] using g1
        exact ⟨_, hp, key 0 (Nat.zero_le _) fun w => by constructor <;> (try intro U) <;> simp [Builtin.len_, run_underlying hu, hv]⟩
      · rename_i i rt p e lo hi e2 he
        rw [he] at hx
        obtain ⟨⟨E, hu, hE⟩, _⟩ := hty
        obtain ⟨o, q1, q2, ad, cap, hv, q3, q4, q5⟩ := rval_vw hx
        exact ⟨_, hp, key (hi - lo) (by omega) fun w => by constructor <;> (try intro U) <;> simp [Builtin.len_, run_underlying hu, hv]⟩
      · rename_i i e e2 he
        split at hp
        · rename_i E0 e3 xs hg
          obtain ⟨ad, len, cap, ds, hv, g3, g4, g5, _⟩ := contents_sound (e := e3) (xs := xs) hh (tv := .sl i e3) (by simp [contents, hg]) (v := a.eval x) (by
            rw [he] at hx
            obtain ⟨cs, g1, vv, g2, g3⟩ := hx
            exact ⟨cs, g1, vv, g2, g3⟩)
          obtain ⟨⟨E, hu, hE⟩, _⟩ := hty
          exact ⟨_, hp, key xs.length (by omega) fun w => by subst g3; constructor <;> (try intro U) <;> simp [Builtin.len_, run_underlying hu, hv]⟩
        · cases hp
      · cases hp
    · cases hp
  · cases hp

theorem pure_s2a (hC : CxOk P cx) (hρ : ∀ x, RVal w X θ (ρ x) (a.eval x)) {T : TypeId} {x : Operand} (hp : pureK cx h ρ (.sliceToArrayPointer T x) K = some r) : ∃ tv, K tv = some r ∧ PureOk P w X θ a (.sliceToArrayPointer T x) tv := by
  simp only [pureK] at hp
  have hx := hρ x
  split at hp
  · rename_i n e s xs hT he
    rw [he] at hx
    split at hp
    · rename_i q; subst q
      obtain ⟨h1, h2⟩ := cond_some hp
      simp only [Bool.and_eq_true, decide_eq_true_eq] at h1
      have hn1 := Nat.le_of_ble_eq_true h1.1
      have hn2 : n ≤ xs.length := h1.2
      obtain ⟨cs, g1, ad, len, cap, ds, g2, g3, g4, g5, g6, g7⟩ := hx
      subst g2
      have hv : a.eval x = .slice ad len cap := by simpa [boxed, TV.isAgg, Ty.isAgg, eq_comm] using g1
      obtain ⟨⟨E, hu, hE⟩, _⟩ := hC.ty T _ hT
      have hdl := chunks_length (fun c x hx => Rep.length s c x hx) g6
      have hmul : n * s.size ≤ xs.length * s.size := Nat.mul_le_mul_right _ hn2
      have htk : chunks (Rep w X s) (ds.take (n * s.size)) (xs.take n) := by
        have := chunks_cut (fun c x hx => Rep.length s c x hx) 0 n g6 (Nat.zero_le _) hn2
        simpa [cutL] using this
      rcases g7 with g7 | ⟨b, o, q1, q2, q3⟩
      · rw [g7] at hdl; simp only [List.length_nil] at hdl; omega
      · subst q1
        refine ⟨_, h2, .pointer (some ⟨b, o, none⟩), fun op ho => ?_, mk_ref (ds := ds.take (n * s.size)) ⟨by simp; omega, htk⟩ (by simpa using rangeAt_cut q2 0 (n * s.size)) (fun _ => q3)⟩
        have hlt : ¬ len < n := by omega
        simp [execOp, ho, hv, Instr.arrayAt, run_underlying hu, hlt]
    · cases hp
  · cases hp

theorem has_mm {k : IntKind} {m n : Int} : (k.has m → k.has n → k.has (min m n)) ∧ (k.has m → k.has n → k.has (max m n)) := by
  unfold IntKind.has
  constructor <;> intro h1 h2 <;> omega

theorem pure_min (hρ : ∀ x, RVal w X θ (ρ x) (a.eval x)) {args : Array Operand} {ts : Array TypeId} (hp : pureK cx h ρ (.call { callee := .builtin .min, args, argTypes := ts }) K = some r) :
    ∃ tv, K tv = some r ∧ PureOk P w X θ a (.call { callee := .builtin .min, args, argTypes := ts }) tv := by
  simp only [pureK] at hp
  split at hp
  · rename_i x y ha
    have ha' : args = #[x, y] := Array.ext' ha
    subst ha'
    have hx := hρ x
    have hy := hρ y
    split at hp
    · rename_i k m k' n h1 h2
      rw [h1] at hx; rw [h2] at hy
      obtain ⟨h3, h4⟩ := cond_some hp
      have hk : k = k' := by simpa using h3
      subst hk
      obtain ⟨hv, hm⟩ := rval_int hx
      obtain ⟨hu, hn⟩ := rval_int hy
      have he : (if n < m then n else m) = min m n := (show ∀ a b : Int, (if b < a then b else a) = min a b by intro a b; omega) m n
      refine ⟨_, h4, .int k (min m n), fun o ho => ?_, mk_int ?_⟩
      · simp only [execOp, ho, resolve, Sem.run_bind, Sem.run_pure, Result.andThen_ok, invoke, builtin]
        simp only [List.map_toArray, List.map_cons, List.map_nil, hv, hu, run_min_int2, Result.andThen_ok, he]
      · exact has_mm.1 hm hn
    · cases hp
  · cases hp

theorem pure_max (hρ : ∀ x, RVal w X θ (ρ x) (a.eval x)) {args : Array Operand} {ts : Array TypeId} (hp : pureK cx h ρ (.call { callee := .builtin .max, args, argTypes := ts }) K = some r) :
    ∃ tv, K tv = some r ∧ PureOk P w X θ a (.call { callee := .builtin .max, args, argTypes := ts }) tv := by
  simp only [pureK] at hp
  split at hp
  · rename_i x y ha
    have ha' : args = #[x, y] := Array.ext' ha
    subst ha'
    have hx := hρ x
    have hy := hρ y
    split at hp
    · rename_i k m k' n h1 h2
      rw [h1] at hx; rw [h2] at hy
      obtain ⟨h3, h4⟩ := cond_some hp
      have hk : k = k' := by simpa using h3
      subst hk
      obtain ⟨hv, hm⟩ := rval_int hx
      obtain ⟨hu, hn⟩ := rval_int hy
      have he : (if n > m then n else m) = max m n := (show ∀ a b : Int, (if b > a then b else a) = max a b by intro a b; omega) m n
      refine ⟨_, h4, .int k (max m n), fun o ho => ?_, mk_int ?_⟩
      · simp only [execOp, ho, resolve, Sem.run_bind, Sem.run_pure, Result.andThen_ok, invoke, builtin]
        simp only [List.map_toArray, List.map_cons, List.map_nil, hv, hu, run_max_int2, Result.andThen_ok, he]
      · exact has_mm.2 hm hn
    · cases hp
  · cases hp

end Go.Ai

namespace Go.Ai
open Go.RowKit
variable {P : Program} {cx : Cx} {w : World} {X : Nat → Prop} {θ : Nat → Option Own} {h : Heap} {base : Nat} {ρ : Operand → TV} {a : Act} {R : Type} {r : R} {K : TV → Option R}

theorem pure_sound (hC : CxOk P cx) (hZ : ZeroOk P cx) (hh : HRel w X θ base h) (hρ : ∀ x, RVal w X θ (ρ x) (a.eval x)) (op : Op) (hi : isPure op = true) (hp : pureK cx h ρ op K = some r) : ∃ tv, K tv = some r ∧ PureOk P w X θ a op tv := by
  cases op with
  | move x => exact pure_move hρ hp
  | assign x => exact pure_assign hρ hp
  | pick c x y => exact pure_pick hρ hp
  | load T x => exact pure_load hC hh hρ hp
  | nilCheck x => exact pure_nilCheck hρ hp
  | binOp op T x y U => exact pure_binOp hC hρ hp
  | unOp op T x => exact pure_unOp hρ hp
  | convert S D x => exact pure_convert hC hh hρ hp
  | slice T x lo hi mx => exact pure_slice hC hh hρ hp
  | sliceToArrayPointer T x => exact pure_s2a hC hρ hp
  | fieldAddr T x f => exact pure_fieldAddr hC hρ hp
  | field T x f => exact pure_field hC hρ hp
  | indexAddr T x ix => exact pure_indexAddr hC hh hρ hp
  | index T x ix => exact pure_index hC hρ hp
  | extract x i => exact pure_extract hρ hp
  | makeFunc fn first cap => exact pure_makeFunc hρ hp
  | build T parts => exact pure_build hC hZ hρ hp
  | call c =>
    obtain ⟨cal, args, ts⟩ := c
    cases cal with
    | builtin b => cases b <;> first | exact pure_len hC hh hρ hp | exact pure_min hρ hp | exact pure_max hρ hp | simp [isPure] at hi
    | _ => simp [isPure] at hi
  | _ => simp [isPure] at hi

end Go.Ai

/- Operations that make or write memory. -/
namespace Go.Ai
open Go.RowKit
set_option linter.unusedVariables false
set_option linter.unusedSimpArgs false

variable {P : Program} {cx : Cx} {w0 : World} {Xo : Nat → Prop} {σ : St} {θ : Nat → Option Own} {as : List (Array Value)} {a : Act} {w : World} {R : Type} {r : R} {K : TV → St → Option R}

/-- What an operation's run must yield: a value and a world in which the new state stands. -/
def StepOk (P : Program) (w0 : World) (Xo : Nat → Prop) (as : List (Array Value)) (a : Act) (w : World) (op : Op) (tv : TV) (σ' : St) : Prop :=
  ∃ θ' v w', Rel w0 Xo σ' θ' as a w' ∧ RVal w' (owned Xo θ' σ'.heap) θ' tv v ∧
    ((∀ o : Oper, o.op = op → (execOp a.eval o).run P w = .ok (.value v) w') ∨ (v = undef ∧ ∀ o : Oper, o.op = op → (execOp a.eval o).run P w = .ok .skip w'))

/-- A new variable. -/
theorem add_var (h : Rel w0 Xo σ θ as a w) (id : Nat) (s : Ty) (c : TV) {θk : Nat → Option Own} (hθ : ∀ j, j ≠ id → θk j = θ j) (hids : ∀ i, i ∈ c.ids → i ≠ id) {C : Array Value} {E : TypeId} (hf : c.fits s = true)
    (hc : RV w (owned Xo θ σ.heap) θk false c C.toList) :
    Rel w0 Xo (σ.add id (.var s c)) (setAt θ id (.var w.heap.size)) as a (w.alloc (.cells C E)) ∧
      RVal (w.alloc (.cells C E)) (owned Xo (setAt θ id (.var w.heap.size)) (σ.add id (.var s c)).heap) (setAt θ id (.var w.heap.size)) (.ptr id s []) (.pointer (some ⟨w.heap.size, 0, none⟩)) := by
  have hrel := h.add id (.var s c) (.var w.heap.size) (w' := w.alloc (.cells C E)) none ((Keeps.alloc _ w _)) (fun b hb => by cases hb)
    (fun b hb => by simp only [Own.base, Option.some.injEq] at hb; subst hb; exact ⟨h.keeps.size, .inl (Nat.le_refl _)⟩) ?_
  · refine ⟨hrel, _, rfl, .var w.heap.size, w.heap.size, 0, s, setAt_same _ _ _, rfl, ?_, trivial, rfl⟩
    cases s <;> simp [Ty.rat, Ty.at_nil]
  · refine ⟨w.heap.size, C, E, setAt_same _ _ _, h.keeps.size, heap_alloc_new w _, ?_, hf⟩
    have hst : Step (owned Xo θ σ.heap) (owned Xo (setAt θ id (.var w.heap.size)) (σ.add id (.var s c)).heap) w (w.alloc (.cells C E)) := by
      refine ⟨⟨fun _ => False, Keeps.alloc _ w _, fun _ _ h => h.elim⟩, fun b hb hx => ?_⟩
      rcases hx with hx | ⟨j, h1, h2⟩
      · exact .inl hx
      · rw [hget_add] at h1
        by_cases e : j = id
        · subst e
          simp only [baseAt, setAt_same, Option.bind_some, Own.base, Option.some.injEq] at h2
          omega
        · simp only [e, if_false] at h1
          obtain ⟨_, h3⟩ := (isSome_kill σ.heap id j).1 h1
          exact .inr ⟨j, h3, by simpa [baseAt, setAt_other _ _ _ j e] using h2⟩
    exact RV.step hst false c _ (fun i hi => by rw [setAt_other _ _ _ i (hids i hi)]; exact (hθ i (hids i hi)).symm) hc

theorem ids_zero : (s : Ty) → (zeroTV s).ids = []
  | .pair a b => by
    simp only [zeroTV]
    split
    · rfl
    · simp [TV.ids, ids_zero a, ids_zero b]
  | .slice _ => rfl
  | .int _ => rfl
  | .bool => rfl
  | .str => rfl
  | .arr _ _ => rfl
  | .unit => rfl
  | .ref _ => rfl
  | .opt _ => rfl

theorem eff_alloc (hC : CxOk P cx) (hZ : ZeroOk P cx) (h : Rel w0 Xo σ θ as a w) {lev : Nat} {draw : Bool} {d : Option Tmp} {T : TypeId} (hp : effK cx lev draw σ d (.alloc T) K = some r) :
    ∃ tv σ', K tv σ' = some r ∧ StepOk P w0 Xo as a w (.alloc T) tv σ' := by
  simp only [effK] at hp
  split at hp
  · rename_i s hT
    obtain ⟨h1, h2⟩ := cond_some hp
    obtain ⟨inf, z, z1, z2, z3, z4⟩ := hZ.zero T s hT h1
    obtain ⟨r1, r2⟩ := zero_rv (w := w) (X := owned Xo θ σ.heap) (θ := θ) s (TyIs.noRef s T (hC.ty T s hT))
    obtain ⟨k1, k2⟩ := add_var h (newId lev d) s (zeroTV s) (θk := θ) (fun _ _ => rfl) (by rw [ids_zero]; simp) (C := z.cells) (E := T) r2 (by rw [z3]; exact r1)
    refine ⟨_, _, h2, _, _, _, k1, k2, .inl fun o ho => ?_⟩
    simp [execOp, ho, Instr.alloc, z4, newVar, newRow]
  · cases hp

theorem ids_kill (i : Nat) : (tv : TV) → ∀ j ∈ (tv.kill i).ids, j ≠ i
  | .pr a b, j, hj => by
    simp only [TV.kill, TV.ids, List.mem_append] at hj
    rcases hj with hj | hj
    · exact ids_kill i a j hj
    · exact ids_kill i b j hj
  | .ptr k t p, j, hj => by
    simp only [TV.kill] at hj
    by_cases e : k = i
    · simp [beq_iff.2 e, TV.ids] at hj
    · simp [beq_false e, TV.ids] at hj; omega
  | .sl k t, j, hj => by
    simp only [TV.kill] at hj
    by_cases e : k = i
    · simp [beq_iff.2 e, TV.ids] at hj
    · simp [beq_false e, TV.ids] at hj; omega
  | .vw k t p e lo hi, j, hj => by
    simp only [TV.kill] at hj
    by_cases e : k = i
    · simp [beq_iff.2 e, TV.ids] at hj
    · simp [beq_false e, TV.ids] at hj; omega
  | .fn f c, j, hj => ids_kill i c j hj
  | .tup c, j, hj => ids_kill i c j hj
  | .pv _ _, j, hj => by simp [TV.kill, TV.ids] at hj
  | .clp _ _, j, hj => by simp [TV.kill, TV.ids] at hj
  | .nilsl, j, hj => by simp [TV.kill, TV.ids] at hj
  | .bad, j, hj => by simp [TV.kill, TV.ids] at hj
  | .und, j, hj => by simp [TV.kill, TV.ids] at hj
  | .dead, j, hj => by simp [TV.kill, TV.ids] at hj

theorem litTV_kill (v : Value) (i : Nat) : (litTV v).kill i = litTV v := by
  cases v with
  | int k n => simp only [litTV]; cases decide (k.min ≤ n) && decide (n ≤ k.max) <;> rfl
  | string s => simp only [litTV]; cases Nat.ble s.size 1000000 <;> rfl
  | slice o l c => cases o <;> cases l <;> cases c <;> rfl
  | _ => rfl

theorem eval_kill (σ : St) (i : Nat) (x : Operand) : (σ.kill i).eval x = (σ.eval x).kill i := by
  cases x with
  | tmp t => simp only [St.eval, St.kill, List.getD, List.getElem?_map]; cases σ.env[t]? <;> rfl
  | const v => exact (litTV_kill v i).symm
  | global g => rfl
  | func f => rfl

theorem eff_box (hC : CxOk P cx) (h : Rel w0 Xo σ θ as a w) {lev : Nat} {draw : Bool} {d : Option Tmp} {T : TypeId} {x : Operand} (hp : effK cx lev draw σ d (.box T x) K = some r) :
    ∃ tv σ', K tv σ' = some r ∧ StepOk P w0 Xo as a w (.box T x) tv σ' := by
  simp only [effK] at hp
  split at hp
  · rename_i s hT
    obtain ⟨h1, h2⟩ := cond_some hp
    have hx := h.eval x
    have hk := RVal.kill (i := newId lev d) (θ' := θ) (fun _ _ => rfl) _ _ hx
    rw [← eval_kill] at hk
    obtain ⟨cs, g1, g2, g3⟩ := fits_val h1 hk
    have hcs := boxed_cells g1 (RV.one _ cs g2)
    obtain ⟨k1, k2⟩ := add_var h (newId lev d) s ((σ.kill (newId lev d)).eval x) (θk := θ) (fun _ _ => rfl) (by rw [eval_kill]; exact ids_kill _ _) (C := (a.eval x).cells) (E := T) h1 (by rw [hcs]; exact g2)
    refine ⟨_, _, h2, _, _, _, k1, k2, .inl fun o ho => ?_⟩
    simp [execOp, ho, Instr.box, newVar, newRow]
  · cases hp

end Go.Ai

namespace Go.Ai
open Go.RowKit
variable {P : Program} {cx : Cx} {w0 : World} {Xo : Nat → Prop} {σ : St} {θ : Nat → Option Own} {as : List (Array Value)} {a : Act} {w : World} {R : Type} {r : R} {K : TV → St → Option R}

theorem heap_setCells (b : Nat) (E : TypeId) : ∀ (vs : List Value) (o : Nat) (w : World) (C : Array Value), w.heap[b]? = some (.cells C E (0, 0)) → o + vs.length ≤ C.size →
    ∃ C', (w.setCells b o vs).heap[b]? = some (.cells C' E (0, 0)) ∧ C'.toList = C.toList.take o ++ (vs ++ C.toList.drop (o + vs.length))
  | [], o, w, C, h, _ => ⟨C, h, by simp⟩
  | v :: vs, o, w, C, h, hl => by
    simp only [List.length_cons] at hl
    have h1 := heap_setCell_same w b o C E v h
    obtain ⟨C', g1, g2⟩ := heap_setCells b E vs (o + 1) (w.setCell ⟨b, o, none⟩ v) _ h1 (by simp; omega)
    refine ⟨C', g1, ?_⟩
    rw [g2, Array.toList_setIfInBounds]
    have hlt : o < C.toList.length := by simp; omega
    rw [List.drop_set_of_lt (by omega)]
    rw [show List.take (o + 1) (C.toList.set o v) = C.toList.take o ++ [v] by
      rw [List.take_set, List.take_succ_eq_append_getElem hlt, List.set_append_right _ _ (by simp; omega)]
      have : o - min o C.size = 0 := by simp at hlt; omega
      simp [this]]
    simp [Nat.add_assoc, Nat.add_comm 1]

theorem heap_setCells_other (b : Nat) {g : Nat} (h : g ≠ b) (vs : List Value) (o : Nat) (w : World) : (w.setCells b o vs).heap[g]? = w.heap[g]? := by
  have hk := Keeps.setCells (X := fun x => x = b) b rfl vs o w
  rcases Nat.lt_or_ge g w.heap.size with hg | hg
  · exact hk.block g hg h
  · have hs : (w.setCells b o vs).heap.size = w.heap.size := by
      clear hk
      induction vs generalizing o w with
      | nil => rfl
      | cons v vs ih => rw [World.setCells, ih (o + 1) _ (by simpa [World.setCell] using hg)]; simp [World.setCell]
    rw [Array.getElem?_eq_none (by omega), Array.getElem?_eq_none (by omega)]

end Go.Ai

/- A slice of the call's own becomes plain. -/
namespace Go.Ai
open Go.RowKit
set_option linter.unusedVariables false
set_option linter.unusedSimpArgs false

variable {P : Program} {cx : Cx} {w0 : World} {Xo : Nat → Prop} {σ : St} {θ : Nat → Option Own} {as : List (Array Value)} {a : Act} {w : World} {X X' : Nat → Prop} {R : Type} {r : R} {h : Heap} {base : Nat}

/-! ### A slice of the call's own becomes plain -/
theorem RV.fix {e : Ty} {xs : List e.den} {i : Nat} {v : Value} (hθi : θ i = some (.arr v)) (hrep : Rep w X' (.slice e) [v] xs) (hX : ∀ b, X' b → X b) : (m : Bool) → (tv : TV) → (cs : List Value) → RV w X θ m tv cs → RV w X' θ m (tv.fix i e xs) cs
  | false, .pv t x, cs, hr => Rep.avoid (fun b _ hb => hX b hb) t cs x hr
  | false, .pr a b, cs, ⟨c1, c2, h0, h1, h2⟩ => ⟨c1, c2, h0, RV.fix hθi hrep hX false a c1 h1, RV.fix hθi hrep hX false b c2 h2⟩
  | false, .ptr j t p, cs, hr => by
    by_cases q : j = i
    · obtain ⟨o, b, off, s, h1, h2, h3, h4, h5⟩ := hr
      simp only [TV.fix, beq_iff.2 q, cond]
      exact ⟨_, h5, rfl⟩
    · simp only [TV.fix, beq_false q, cond]; exact hr
  | false, .sl j s, cs, hr => by
    obtain ⟨u, h1, h2, h3⟩ := hr
    by_cases q : j = i
    · subst q
      rw [hθi] at h1; injection h1 with h1; injection h1 with h1; subst h1
      subst h2
      simp only [TV.fix, Nat.beq_refl, cond]
      by_cases q2 : s = e
      · subst q2; simp only [decide_true]; exact hrep
      · simp only [q2, decide_false]; exact ⟨_, rfl, h3⟩
    · simp only [TV.fix, beq_false q, cond]; exact ⟨u, h1, h2, h3⟩
  | false, .vw j rt p s lo hi, cs, hr => by
    by_cases q : j = i
    · obtain ⟨o, v, h1, h2, h3⟩ := hr
      simp only [TV.fix, beq_iff.2 q, cond]
      exact ⟨v, h3, Own.vw_one h2⟩
    · simp only [TV.fix, beq_false q, cond]; exact hr
  | false, .clp s ys, cs, ⟨ad, len, ds, h1, h2, h3, h4, h5⟩ => by
    refine ⟨ad, len, ds, h1, h2, h3, chunks_mono (fun c x hx => Rep.avoid (fun b _ hb => hX b hb) s c x hx) h4, ?_⟩
    rcases h5 with h5 | ⟨b, o, q1, q2, q3⟩
    · exact .inl h5
    · exact .inr ⟨b, o, q1, q2, fun hb => q3 (hX b hb)⟩
  | false, .nilsl, _, hr => hr
  | false, .fn f c, cs, ⟨vs, h1, h2⟩ => ⟨vs, h1, RV.fix hθi hrep hX true c vs h2⟩
  | false, .bad, _, hr => hr
  | false, .tup _, _, hr => by simp [RV] at hr
  | false, .und, _, hr => by simp [RV] at hr
  | false, .dead, _, hr => by simp [RV] at hr
  | true, .pr a b, vs, hr => by
    have go : ∀ cs, RV w X θ false a cs → RV w X' θ false (a.fix i e xs) cs := fun cs => RV.fix hθi hrep hX false a cs
    have gb : ∀ r, RV w X θ true b r → RV w X' θ true (b.fix i e xs) r := fun r => RV.fix hθi hrep hX true b r
    have ga := TV.isAgg_fix i e xs a
    cases a with
    | dead => simp only [RV, TV.fix] at hr ⊢; obtain ⟨v, r, h0, h1, h2⟩ := hr; exact ⟨v, r, h0, trivial, gb r h2⟩
    | und => simp only [RV, TV.fix] at hr ⊢; obtain ⟨v, r, h0, h1, h2⟩ := hr; exact ⟨v, r, h0, h1, gb r h2⟩
    | ptr j t p =>
      have hr' : ∃ v r, vs = v :: r ∧ (∃ cs, boxed false v cs ∧ RV w X θ false (.ptr j t p) cs) ∧ RV w X θ true b r := hr
      obtain ⟨v, r, h0, ⟨cs, k1, k2⟩, h2⟩ := hr'
      have k3 := go cs k2
      by_cases e : j = i
      · simp only [TV.fix, beq_iff.2 e, cond] at k3 ⊢; simp only [RV]; exact ⟨v, r, h0, ⟨cs, k1, k3⟩, gb r h2⟩
      · simp only [TV.fix, beq_false e, cond] at k3 ⊢; simp only [RV]; exact ⟨v, r, h0, ⟨cs, k1, k3⟩, gb r h2⟩
    | vw j rt p s lo hi =>
      have hr' : ∃ v r, vs = v :: r ∧ (∃ cs, boxed false v cs ∧ RV w X θ false (.vw j rt p s lo hi) cs) ∧ RV w X θ true b r := hr
      obtain ⟨v, r, h0, ⟨cs, k1, k2⟩, h2⟩ := hr'
      have k3 := go cs k2
      by_cases e : j = i
      · simp only [TV.fix, beq_iff.2 e, cond] at k3 ⊢; simp only [RV]; exact ⟨v, r, h0, ⟨cs, k1, k3⟩, gb r h2⟩
      · simp only [TV.fix, beq_false e, cond] at k3 ⊢; simp only [RV]; exact ⟨v, r, h0, ⟨cs, k1, k3⟩, gb r h2⟩
    | sl j s =>
      have hr' : ∃ v r, vs = v :: r ∧ (∃ cs, boxed false v cs ∧ RV w X θ false (.sl j s) cs) ∧ RV w X θ true b r := hr
      obtain ⟨v, r, h0, ⟨cs, k1, k2⟩, h2⟩ := hr'
      have k3 := go cs k2
      by_cases q : j = i
      · simp only [TV.fix, beq_iff.2 q, cond] at k3 ⊢
        by_cases q2 : s = e
        · subst q2; simp only [decide_true] at k3 ⊢; simp only [RV]; exact ⟨v, r, h0, ⟨cs, k1, k3⟩, gb r h2⟩
        · simp only [q2, decide_false] at k3 ⊢; simp only [RV]; exact ⟨v, r, h0, ⟨cs, k1, k3⟩, gb r h2⟩
      · simp only [TV.fix, beq_false q, cond] at k3 ⊢; simp only [RV]; exact ⟨v, r, h0, ⟨cs, k1, k3⟩, gb r h2⟩
    | _ => simp only [RV, TV.fix] at hr ⊢; obtain ⟨v, r, h0, ⟨cs, k1, k2⟩, h2⟩ := hr; exact ⟨v, r, h0, ⟨cs, k1, go cs k2⟩, gb r h2⟩
  | true, .pv .unit _, vs, hr => hr
  | true, .pv (.int _) _, _, h | true, .pv .bool _, _, h | true, .pv .str _, _, h | true, .pv (.slice _) _, _, h | true, .pv (.arr _ _) _, _, h | true, .pv (.pair _ _) _, _, h | true, .pv (.ref _) _, _, h | true, .pv (.opt _) _, _, h => by simp [RV] at h
  | true, .ptr .., _, h | true, .sl .., _, h | true, .vw .., _, h | true, .clp .., _, h | true, .nilsl, _, h | true, .fn .., _, h | true, .tup _, _, h | true, .bad, _, h | true, .und, _, h | true, .dead, _, h => by simp [RV] at h

theorem RVal.fix {e : Ty} {xs : List e.den} {i : Nat} {v : Value} (hθi : θ i = some (.arr v)) (hrep : Rep w X' (.slice e) [v] xs) (hX : ∀ b, X' b → X b) (tv : TV) (u : Value) (hr : RVal w X θ tv u) : RVal w X' θ (tv.fix i e xs) u := by
  have go : ∀ cs, RV w X θ false tv cs → RV w X' θ false (tv.fix i e xs) cs := fun cs => RV.fix hθi hrep hX false tv cs
  cases tv with
  | dead => trivial
  | und => exact hr
  | tup c => obtain ⟨vs, k1, k2⟩ := hr; exact ⟨vs, k1, RV.fix hθi hrep hX true c vs k2⟩
  | ptr j t p =>
    obtain ⟨cs, k1, k2⟩ := hr
    have k3 := go cs k2
    by_cases q : j = i
    · simp only [TV.fix, beq_iff.2 q, cond] at k3 ⊢; exact ⟨cs, k1, k3⟩
    · simp only [TV.fix, beq_false q, cond] at k3 ⊢; exact ⟨cs, k1, k3⟩
  | sl j s =>
    obtain ⟨cs, k1, k2⟩ := hr
    have k3 := go cs k2
    by_cases q : j = i
    · simp only [TV.fix, beq_iff.2 q, cond] at k3 ⊢
      by_cases q2 : s = e
      · subst q2; simp only [decide_true] at k3 ⊢; exact ⟨cs, k1, k3⟩
      · simp only [q2, decide_false] at k3 ⊢; exact ⟨cs, k1, k3⟩
    · simp only [TV.fix, beq_false q, cond] at k3 ⊢; exact ⟨cs, k1, k3⟩
  | vw j rt p s lo hi =>
    obtain ⟨cs, k1, k2⟩ := hr
    have k3 := go cs k2
    by_cases q : j = i
    · simp only [TV.fix, beq_iff.2 q, cond] at k3 ⊢; exact ⟨cs, k1, k3⟩
    · simp only [TV.fix, beq_false q, cond] at k3 ⊢; exact ⟨cs, k1, k3⟩
  | pr x y => obtain ⟨cs, k1, k2⟩ := hr; exact ⟨cs, k1, go cs k2⟩
  | _ => obtain ⟨cs, k1, k2⟩ := hr; exact ⟨cs, k1, go cs k2⟩

theorem fits_fix (i : Nat) (e : Ty) (xs : List e.den) : (tv : TV) → (t : Ty) → tv.fits t = true → (tv.fix i e xs).fits t = true
  | .pv _ _, _, h => h
  | .pr a b, .pair s t, h => by
    simp only [TV.fits, Bool.and_eq_true] at h
    simp [TV.fix, TV.fits, fits_fix i e xs a s h.1, fits_fix i e xs b t h.2]
  | .ptr j t p, .opt s, _ => by simp only [TV.fix]; cases Nat.beq j i <;> rfl
  | .sl j s, .slice s', h => by
    simp only [TV.fix]
    cases Nat.beq j i
    · exact h
    · by_cases q : s = e
      · subst q
        have : s = s' := by simpa [TV.fits] using h
        subst this
        simp [cond, TV.fits]
      · simp only [q, decide_false]; rfl
  | .vw j rt p s lo hi, .slice s', h => by simp only [TV.fix]; cases Nat.beq j i; exact h; rfl
  | .fn .., .opt _, _ => rfl
  | .clp .., _, h => h
  | .nilsl, _, h => h
  | .bad, _, h => h
  | .und, _, h => h
  | .dead, _, h => h
  | .tup _, t, h => by cases t <;> simp [TV.fits] at h
  | .pr _ _, .int _, h | .pr _ _, .bool, h | .pr _ _, .str, h | .pr _ _, .slice _, h | .pr _ _, .arr _ _, h | .pr _ _, .unit, h | .pr _ _, .ref _, h | .pr _ _, .opt _, h => by simp [TV.fits] at h
  | .ptr .., .int _, h | .ptr .., .bool, h | .ptr .., .str, h | .ptr .., .slice _, h | .ptr .., .arr _ _, h | .ptr .., .unit, h | .ptr .., .ref _, h | .ptr .., .pair _ _, h => by simp [TV.fits] at h
  | .sl .., .int _, h | .sl .., .bool, h | .sl .., .str, h | .sl .., .opt _, h | .sl .., .arr _ _, h | .sl .., .unit, h | .sl .., .ref _, h | .sl .., .pair _ _, h => by simp [TV.fits] at h
  | .vw .., .int _, h | .vw .., .bool, h | .vw .., .str, h | .vw .., .opt _, h | .vw .., .arr _ _, h | .vw .., .unit, h | .vw .., .ref _, h | .vw .., .pair _ _, h => by simp [TV.fits] at h
  | .fn .., .int _, h | .fn .., .bool, h | .fn .., .str, h | .fn .., .slice _, h | .fn .., .arr _ _, h | .fn .., .unit, h | .fn .., .ref _, h | .fn .., .pair _ _, h => by simp [TV.fits] at h

theorem plain_sound : (tv : TV) → (t : Ty) → (x : t.den) → (cs : List Value) → plain tv t = some x → RV w X θ false tv cs → Rep w X t cs x
  | .pv s y, t, x, cs, hp, hr => by
    simp only [plain] at hp
    split at hp
    · rename_i e; subst e; injection hp with hp; subst hp; exact hr
    · cases hp
  | .pr a b, .pair ta tb, x, cs, hp, ⟨c1, c2, h0, h1, h2⟩ => by
    simp only [plain] at hp
    split at hp
    · rename_i y z hy hz
      injection hp with hp; subst hp
      exact ⟨c1, c2, h0, plain_sound a ta y c1 hy h1, plain_sound b tb z c2 hz h2⟩
    · cases hp
  | .nilsl, .slice e, x, cs, hp, hr => by
    simp only [plain, Option.some.injEq] at hp
    subst hp
    exact ⟨none, 0, 0, [], hr, rfl, Nat.le_refl _, Nat.zero_le _, rfl, .inl rfl⟩
  | .clp s ys, .slice e, x, cs, hp, ⟨ad, len, ds, h1, h2, h3, h4, h5⟩ => by
    simp only [plain] at hp
    split at hp
    · rename_i q; subst q; injection hp with hp; subst hp
      exact ⟨ad, len, len, ds, h1, h2, Nat.le_refl _, h3, h4, h5⟩
    · cases hp
  | .ptr .., t, x, cs, hp, _ => by cases t <;> simp [plain] at hp
  | .sl .., t, x, cs, hp, _ => by cases t <;> simp [plain] at hp
  | .vw .., t, x, cs, hp, _ => by cases t <;> simp [plain] at hp
  | .fn .., t, x, cs, hp, _ => by cases t <;> simp [plain] at hp
  | .tup _, _, _, _, _, hr => by simp [RV] at hr
  | .und, _, _, _, _, hr => by simp [RV] at hr
  | .dead, _, _, _, _, hr => by simp [RV] at hr
  | .bad, t, x, cs, hp, _ => by cases t <;> simp [plain] at hp
  | .pr _ _, .int _, x, _, hp, _ | .pr _ _, .bool, x, _, hp, _ | .pr _ _, .str, x, _, hp, _ | .pr _ _, .slice _, x, _, hp, _ | .pr _ _, .arr _ _, x, _, hp, _ | .pr _ _, .unit, x, _, hp, _ | .pr _ _, .ref _, x, _, hp, _ | .pr _ _, .opt _, x, _, hp, _ => by simp [plain] at hp
  | .nilsl, .int _, x, _, hp, _ | .nilsl, .bool, x, _, hp, _ | .nilsl, .str, x, _, hp, _ | .nilsl, .pair _ _, x, _, hp, _ | .nilsl, .arr _ _, x, _, hp, _ | .nilsl, .unit, x, _, hp, _ | .nilsl, .ref _, x, _, hp, _ | .nilsl, .opt _, x, _, hp, _ => by simp [plain] at hp
  | .clp .., .int _, x, _, hp, _ | .clp .., .bool, x, _, hp, _ | .clp .., .str, x, _, hp, _ | .clp .., .pair _ _, x, _, hp, _ | .clp .., .arr _ _, x, _, hp, _ | .clp .., .unit, x, _, hp, _ | .clp .., .ref _, x, _, hp, _ | .clp .., .opt _, x, _, hp, _ => by simp [plain] at hp

theorem TV.isAgg_fixV (i : Nat) (t : Ty) (x : t.den) (tv : TV) : (tv.fixV i t x).isAgg = tv.isAgg := by
  cases tv with
  | ptr j rt p =>
    simp only [TV.fixV]
    cases Nat.beq j i <;> simp only [cond]
    cases decide (rt = t) <;> simp only [cond]
    · rfl
    · cases Ai.getP t x p <;> rfl
  | sl j s => simp only [TV.fixV]; cases Nat.beq j i <;> rfl
  | vw j rt p s lo hi => simp only [TV.fixV]; cases Nat.beq j i <;> rfl
  | _ => rfl

theorem at_of_getP {t : Ty} {x : t.den} {p : List Sel} {q : (s : Ty) × s.den} {z : Nat × Ty} (hg : Ai.getP t x p = some q) (h : t.rat p = some z) : t.at p = some z := by
  cases t with
  | slice e => cases p with
    | nil => exact h
    | cons s p => simp [Ai.getP] at hg
  | _ => exact h

theorem RV.fixV {t : Ty} {x : t.den} {i b : Nat} {C : List Value} (hθi : θ i = some (.var b)) (hrep : Rep w X' t C x) (hra : w.rangeAt b 0 C) (hnb : C ≠ [] → ¬ X' b) (hX : ∀ b, X' b → X b) : (m : Bool) → (tv : TV) → (cs : List Value) → RV w X θ m tv cs → RV w X' θ m (tv.fixV i t x) cs
  | false, .pv s y, cs, hr => Rep.avoid (fun b _ hb => hX b hb) s cs y hr
  | false, .pr a b, cs, ⟨c1, c2, h0, h1, h2⟩ => ⟨c1, c2, h0, RV.fixV hθi hrep hra hnb hX false a c1 h1, RV.fixV hθi hrep hra hnb hX false b c2 h2⟩
  | false, .ptr j rt p, cs, hr => by
    by_cases q : j = i
    · subst q
      obtain ⟨o, b', off, s, h1, h2, h3, h4, h5⟩ := hr
      rw [hθi] at h1; injection h1 with h1; subst h1
      simp only [Own.base, Option.some.injEq] at h2; subst h2
      simp only [TV.fixV, Nat.beq_refl, cond]
      by_cases q2 : rt = t
      · subst q2
        simp only [decide_true]
        cases hg : Ai.getP rt x p with
        | none => exact ⟨_, h5, rfl⟩
        | some y =>
          obtain ⟨y', g1, c1, c, c2, g2, g3, g4, _⟩ := getP_rep rt x p C off s (at_of_getP hg h3) hrep
          rw [hg] at g1; injection g1 with g1; subst g1
          refine ⟨b, off, c, h5, g4, ?_, fun hc => hnb (by rw [g2]; intro hn; exact hc (List.append_eq_nil_iff.1 (List.append_eq_nil_iff.1 hn).2).1)⟩
          intro k u hu
          have hlt := (List.getElem?_eq_some_iff.1 hu).1
          have := hra (off + k) u (by rw [g2, List.getElem?_append_right (by omega), List.getElem?_append_left (by omega)]; rw [show off + k - c1.length = k by omega]; exact hu)
          simpa using this
      · simp only [q2, decide_false]; exact ⟨_, h5, rfl⟩
    · simp only [TV.fixV, beq_false q, cond]; exact hr
  | false, .sl j s, cs, hr => by
    obtain ⟨u, h1, h2, h3⟩ := hr
    by_cases q : j = i
    · simp only [TV.fixV, beq_iff.2 q, cond]; exact ⟨u, h2, h3⟩
    · simp only [TV.fixV, beq_false q, cond]; exact ⟨u, h1, h2, h3⟩
  | false, .vw j rt p s lo hi, cs, hr => by
    by_cases q : j = i
    · obtain ⟨o, v, h1, h2, h3⟩ := hr
      simp only [TV.fixV, beq_iff.2 q, cond]
      exact ⟨v, h3, Own.vw_one h2⟩
    · simp only [TV.fixV, beq_false q, cond]; exact hr
  | false, .clp s ys, cs, ⟨ad, len, ds, h1, h2, h3, h4, h5⟩ => by
    refine ⟨ad, len, ds, h1, h2, h3, chunks_mono (fun c x hx => Rep.avoid (fun b _ hb => hX b hb) s c x hx) h4, ?_⟩
    rcases h5 with h5 | ⟨b, o, q1, q2, q3⟩
    · exact .inl h5
    · exact .inr ⟨b, o, q1, q2, fun hb => q3 (hX b hb)⟩
  | false, .nilsl, _, hr => hr
  | false, .fn f c, cs, ⟨vs, h1, h2⟩ => ⟨vs, h1, RV.fixV hθi hrep hra hnb hX true c vs h2⟩
  | false, .bad, _, hr => hr
  | false, .tup _, _, hr => by simp [RV] at hr
  | false, .und, _, hr => by simp [RV] at hr
  | false, .dead, _, hr => by simp [RV] at hr
  | true, .pr a b', vs, hr => by
    have go : ∀ cs, RV w X θ false a cs → RV w X' θ false (a.fixV i t x) cs := fun cs => RV.fixV hθi hrep hra hnb hX false a cs
    have gb : ∀ r, RV w X θ true b' r → RV w X' θ true (b'.fixV i t x) r := fun r => RV.fixV hθi hrep hra hnb hX true b' r
    have ga := TV.isAgg_fixV i t x a
    have fin : ∀ v r, vs = v :: r → (∃ cs, boxed a.isAgg v cs ∧ RV w X θ false a cs) → RV w X θ true b' r → RV w X' θ true (.pr (a.fixV i t x) (b'.fixV i t x)) vs := by
      intro v r h0 ⟨cs, k1, k2⟩ h2
      have k3 := go cs k2
      have k4 : boxed (a.fixV i t x).isAgg v cs := by rw [ga]; exact k1
      cases ha : a.fixV i t x with
      | dead => rw [ha] at k3; simp [RV] at k3
      | und => rw [ha] at k3; simp [RV] at k3
      | tup c => rw [ha] at k3; simp [RV] at k3
      | _ => rw [ha] at k3 k4; simp only [RV]; exact ⟨v, r, h0, ⟨cs, k4, k3⟩, gb r h2⟩
    cases a with
    | dead => simp only [RV, TV.fixV] at hr ⊢; obtain ⟨v, r, h0, h1, h2⟩ := hr; exact ⟨v, r, h0, trivial, gb r h2⟩
    | und => simp only [RV, TV.fixV] at hr ⊢; obtain ⟨v, r, h0, h1, h2⟩ := hr; exact ⟨v, r, h0, h1, gb r h2⟩
    | _ => simp only [RV] at hr; obtain ⟨v, r, h0, h1, h2⟩ := hr; exact fin v r h0 h1 h2
  | true, .pv .unit _, vs, hr => hr
  | true, .pv (.int _) _, _, h | true, .pv .bool _, _, h | true, .pv .str _, _, h | true, .pv (.slice _) _, _, h | true, .pv (.arr _ _) _, _, h | true, .pv (.pair _ _) _, _, h | true, .pv (.ref _) _, _, h | true, .pv (.opt _) _, _, h => by simp [RV] at h
  | true, .ptr .., _, h | true, .sl .., _, h | true, .vw .., _, h | true, .clp .., _, h | true, .nilsl, _, h | true, .fn .., _, h | true, .tup _, _, h | true, .bad, _, h | true, .und, _, h | true, .dead, _, h => by simp [RV] at h

theorem RVal.fixV {t : Ty} {x : t.den} {i b : Nat} {C : List Value} (hθi : θ i = some (.var b)) (hrep : Rep w X' t C x) (hra : w.rangeAt b 0 C) (hnb : C ≠ [] → ¬ X' b) (hX : ∀ b, X' b → X b) (tv : TV) (u : Value) (hr : RVal w X θ tv u) : RVal w X' θ (tv.fixV i t x) u := by
  have fin : (∃ cs, boxed tv.isAgg u cs ∧ RV w X θ false tv cs) → RVal w X' θ (tv.fixV i t x) u := by
    intro ⟨cs, k1, k2⟩
    exact mk_rval (by rw [TV.isAgg_fixV]; exact k1) (RV.fixV hθi hrep hra hnb hX false tv cs k2)
  cases tv with
  | dead => trivial
  | und => exact hr
  | tup c => obtain ⟨vs, k1, k2⟩ := hr; exact ⟨vs, k1, RV.fixV hθi hrep hra hnb hX true c vs k2⟩
  | _ => exact fin hr

theorem Rel.fix (h : Rel w0 Xo σ θ as a w) {i : Nat} {τ : St} (hp : σ.fix i = some τ) : Rel w0 Xo τ θ as a w ∧ (∀ k, (hget τ.heap k).isSome = true → k ≠ i ∧ (hget σ.heap k).isSome = true) ∧ (hget σ.heap i).isSome = true := by
  unfold St.fix at hp
  split at hp
  · rename_i E e xs hg
    injection hp with hp; subst hp
    obtain ⟨v, ds, g1, g2, g3⟩ := h.heap.blk i _ hg
    have some' : ∀ k, (hget ((hdel σ.heap i).map fun q => (q.1, q.2.fix i e xs)) k).isSome = true → k ≠ i ∧ (hget σ.heap k).isSome = true := by
      intro k hk
      rw [hget_map, hget_del] at hk
      by_cases q : k = i <;> simp [q] at hk
      exact ⟨q, hk⟩
    have hX : ∀ b, owned Xo θ ((hdel σ.heap i).map fun q => (q.1, q.2.fix i e xs)) b → owned Xo θ σ.heap b := by
      intro b hb
      rcases hb with hb | ⟨k, h1, h2⟩
      · exact .inl hb
      · exact .inr ⟨k, (some' k h1).2, h2⟩
    have hnot : ∀ g, v.ownBlock = some g → ¬ owned Xo θ ((hdel σ.heap i).map fun q => (q.1, q.2.fix i e xs)) g := by
      intro g hgv hb
      have hbi : baseAt θ i = some g := by simp [baseAt, g1, Own.base, hgv]
      rcases hb with hb | ⟨k, h1, h2⟩
      · have k1 := h.xo g hb
        have k2 := ((h.heap.blk i _ hg).lt g hbi).1
        omega
      · exact h.heap.inj k i (some' k h1).1 (some' k h1).2 (by simp [hg]) g h2 hbi
    have hrep : Rep w (owned Xo θ ((hdel σ.heap i).map fun q => (q.1, q.2.fix i e xs))) (.slice e) [v] xs := by
      have g3' := chunks_mono (fun c x hx => Rep.avoid (Y := owned Xo θ ((hdel σ.heap i).map fun q => (q.1, q.2.fix i e xs))) (fun b _ hb => hX b hb) e c x hx) g3
      rcases g2.2 with ⟨k1, k2⟩ | ⟨g, cap, cur, k1, k2, k3, k4, k5, k6, k7⟩
      · subst k1
        have hn : xs = [] := List.eq_nil_of_length_eq_zero k2
        subst hn
        exact ⟨none, 0, 0, [], rfl, rfl, Nat.le_refl _, Nat.zero_le _, rfl, .inl rfl⟩
      · subst k1
        refine ⟨_, _, cap, ds, rfl, rfl, k4, k5, g3', .inr ⟨g, 0, rfl, ?_, hnot g rfl⟩⟩
        intro j u hu
        have := World.ownsRow.cells g2 (g := g) rfl j u hu
        simpa [Addr.add_mid] using this
    have hst : Step (owned Xo θ σ.heap) (owned Xo θ ((hdel σ.heap i).map fun q => (q.1, q.2.fix i e xs))) w w := ⟨⟨fun _ => False, Keeps.refl _ w, fun _ _ h => h.elim⟩, fun b _ hb => hX b hb⟩
    refine ⟨h.next (TV.fix i e xs) h.keeps (fun tv u hu => RVal.fix g1 hrep hX tv u hu) rfl rfl ⟨fun k b hb => ?_, fun k l hkl hk hl b => ?_⟩, some', by simp [hg]⟩
    · dsimp only at hb
      rw [hget_map, hget_del] at hb
      by_cases q : k = i
      · simp [q] at hb
      · simp only [q, if_false] at hb
        cases hb0 : hget σ.heap k with
        | none => simp [hb0] at hb
        | some b0 =>
          simp only [hb0, Option.map_some, Option.some.injEq] at hb
          subst hb
          have := (h.heap.blk k b0 hb0).go (w' := w) hst rfl (fun _ _ => rfl) (TV.fix i e xs) (fun c cs hc => RV.fix g1 hrep hX false c cs hc) (fun c t ht => fits_fix i e xs c t ht)
          cases b0 <;> exact this
    · exact h.heap.inj k l hkl (some' k hk).2 (some' l hl).2 b
  · rename_i t c hg
    split at hp
    · rename_i x hx
      injection hp with hp; subst hp
      obtain ⟨b, C, E, e1, e2, e3, e4, e5⟩ := h.heap.blk i _ hg
      have hbi : baseAt θ i = some b := by simp [baseAt, e1, Own.base]
      have some' : ∀ k, (hget ((hdel σ.heap i).map fun q => (q.1, q.2.kill i)) k).isSome = true → k ≠ i ∧ (hget σ.heap k).isSome = true := fun k hk => (isSome_kill σ.heap i k).1 hk
      have hX : ∀ b, owned Xo θ ((hdel σ.heap i).map fun q => (q.1, q.2.kill i)) b → owned Xo θ σ.heap b := by
        intro b hb
        rcases hb with hb | ⟨k, h1, h2⟩
        · exact .inl hb
        · exact .inr ⟨k, (some' k h1).2, h2⟩
      have hnot : ¬ owned Xo θ ((hdel σ.heap i).map fun q => (q.1, q.2.kill i)) b := by
        intro hb
        rcases hb with hb | ⟨k, h1, h2⟩
        · have k1 := h.xo b hb
          have k2 := ((h.heap.blk i _ hg).lt b hbi).1
          omega
        · exact h.heap.inj k i (some' k h1).1 (some' k h1).2 (by simp [hg]) b h2 hbi
      have hrep : Rep w (owned Xo θ ((hdel σ.heap i).map fun q => (q.1, q.2.kill i))) t C.toList x := Rep.avoid (fun b _ hb => hX b hb) t C.toList x (plain_sound c t x _ hx e4)
      have hra : w.rangeAt b 0 C.toList := by
        have := rangeAt_block e3 (c1 := []) (c := C.toList) (c2 := []) (by simp)
        simpa using this
      have hst : Step (owned Xo θ σ.heap) (owned Xo θ ((hdel σ.heap i).map fun q => (q.1, q.2.kill i))) w w := ⟨⟨fun _ => False, Keeps.refl _ w, fun _ _ h => h.elim⟩, fun b _ hb => hX b hb⟩
      refine ⟨h.next (TV.fixV i t x) h.keeps (fun tv u hu => RVal.fixV e1 hrep hra (fun _ => hnot) hX tv u hu) rfl rfl (h.heap.kill (fun _ _ => rfl) hst (fun _ _ _ _ _ => rfl)), some', by simp [hg]⟩
    · cases hp
  · cases hp

theorem Rel.fixAll : ∀ (l : List Nat) (σ τ : St), Rel w0 Xo σ θ as a w → σ.fixAll l = some τ → Rel w0 Xo τ θ as a w ∧ (∀ k, (hget τ.heap k).isSome = true → k ∉ l ∧ (hget σ.heap k).isSome = true) ∧ ∀ i ∈ l, (hget σ.heap i).isSome = true
  | [], σ, τ, h, hp => by
    simp only [St.fixAll, Option.some.injEq] at hp; subst hp
    exact ⟨h, fun k hk => ⟨by simp, hk⟩, by simp⟩
  | i :: l, σ, τ, h, hp => by
    simp only [St.fixAll] at hp
    split at hp
    · rename_i σ1 h1
      obtain ⟨k1, k2, k3⟩ := h.fix h1
      obtain ⟨m1, m2, m3⟩ := Rel.fixAll l σ1 τ k1 hp
      refine ⟨m1, fun k hk => ?_, fun j hj => ?_⟩
      · obtain ⟨n1, n2⟩ := m2 k hk
        obtain ⟨n3, n4⟩ := k2 k n2
        exact ⟨by simp [n1, n3], n4⟩
      · rcases List.mem_cons.1 hj with hj | hj
        · rw [hj]; exact k3
        · exact (k2 j (m3 j hj)).2
    · cases hp

end Go.Ai

/- Slices that are made and grow. -/
namespace Go.Ai
open Go.RowKit
set_option linter.unusedVariables false
set_option linter.unusedSimpArgs false

variable {P : Program} {cx : Cx} {w0 : World} {Xo : Nat → Prop} {σ : St} {θ : Nat → Option Own} {as : List (Array Value)} {a : Act} {w : World} {R : Type} {r : R} {K : TV → St → Option R} {X : Nat → Prop} {h : Heap}

structure ElemOk (P : Program) (cx : Cx) : Prop where
  elem : ∀ T e, cx.ty T = some (.slice e) → P.underlying T = some (.slice (cx.elem T))
  bytes : ∀ T s i, cx.ty T = some s → P.info? T = some i → i.bytes = cx.bytes T ∨ cx.zok T = false

/-- A plain value out of one that names no block of the call's own. -/
theorem toPv_plain : (tv : TV) → (t : Ty) → (x : t.den) → (cs : List Value) → toPv h tv t = some x → tv.ids = [] → RV w X θ false tv cs → Rep w X t cs x
  | .pv s y, t, x, cs, hp, _, hr => by
    simp only [toPv] at hp
    split at hp
    · rename_i e; subst e; injection hp with hp; subst hp; exact hr
    · cases hp
  | .pr a b, .pair ta tb, x, cs, hp, hi, ⟨c1, c2, h0, h1, h2⟩ => by
    simp only [TV.ids, List.append_eq_nil_iff] at hi
    simp only [toPv] at hp
    split at hp
    · rename_i y z hy hz
      injection hp with hp; subst hp
      exact ⟨c1, c2, h0, toPv_plain a ta y c1 hy hi.1 h1, toPv_plain b tb z c2 hz hi.2 h2⟩
    · cases hp
  | .nilsl, .slice e, x, cs, hp, _, hr => by
    simp only [toPv, Option.some.injEq] at hp
    subst hp
    exact ⟨none, 0, 0, [], hr, rfl, Nat.le_refl _, Nat.zero_le _, rfl, .inl rfl⟩
  | .clp s ys, .slice e, x, cs, hp, _, ⟨ad, len, ds, h1, h2, h3, h4, h5⟩ => by
    simp only [toPv] at hp
    split at hp
    · rename_i q; subst q; injection hp with hp; subst hp
      exact ⟨ad, len, len, ds, h1, h2, Nat.le_refl _, h3, h4, h5⟩
    · cases hp
  | .ptr .., _, _, _, _, hi, _ => by simp [TV.ids] at hi
  | .sl .., _, _, _, _, hi, _ => by simp [TV.ids] at hi
  | .vw .., _, _, _, _, hi, _ => by simp [TV.ids] at hi
  | .fn .., t, x, cs, hp, _, _ => by cases t <;> simp [toPv] at hp
  | .tup _, _, _, _, _, _, hr => by simp [RV] at hr
  | .und, _, _, _, _, _, hr => by simp [RV] at hr
  | .dead, _, _, _, _, _, hr => by simp [RV] at hr
  | .bad, t, x, cs, hp, _, _ => by cases t <;> simp [toPv] at hp
  | .pr _ _, .int _, x, _, hp, _, _ | .pr _ _, .bool, x, _, hp, _, _ | .pr _ _, .str, x, _, hp, _, _ | .pr _ _, .slice _, x, _, hp, _, _ | .pr _ _, .arr _ _, x, _, hp, _, _ | .pr _ _, .unit, x, _, hp, _, _ | .pr _ _, .ref _, x, _, hp, _, _ | .pr _ _, .opt _, x, _, hp, _, _ => by simp [toPv] at hp
  | .nilsl, .int _, x, _, hp, _, _ | .nilsl, .bool, x, _, hp, _, _ | .nilsl, .str, x, _, hp, _, _ | .nilsl, .pair _ _, x, _, hp, _, _ | .nilsl, .arr _ _, x, _, hp, _, _ | .nilsl, .unit, x, _, hp, _, _ | .nilsl, .ref _, x, _, hp, _, _ | .nilsl, .opt _, x, _, hp, _, _ => by simp [toPv] at hp
  | .clp .., .int _, x, _, hp, _, _ | .clp .., .bool, x, _, hp, _, _ | .clp .., .str, x, _, hp, _, _ | .clp .., .pair _ _, x, _, hp, _, _ | .clp .., .arr _ _, x, _, hp, _, _ | .clp .., .unit, x, _, hp, _, _ | .clp .., .ref _, x, _, hp, _, _ | .clp .., .opt _, x, _, hp, _, _ => by simp [toPv] at hp

theorem toPv_agg {tv : TV} {t : Ty} {x : t.den} (hp : toPv h tv t = some x) (hi : tv.ids = []) : tv.isAgg = t.isAgg ∧ (∀ c, tv ≠ .tup c) ∧ tv ≠ .dead ∧ tv ≠ .und := by
  cases tv with
  | pv s y =>
    simp only [toPv] at hp
    split at hp
    · rename_i e; subst e; exact ⟨rfl, by simp, by simp, by simp⟩
    · cases hp
  | ptr => simp [TV.ids] at hi
  | sl => simp [TV.ids] at hi
  | vw => simp [TV.ids] at hi
  | _ => cases t <;> simp_all [toPv, TV.isAgg, Ty.isAgg]

theorem toPv_val {tv : TV} {t : Ty} {x : t.den} {v : Value} (hp : toPv h tv t = some x) (hi : tv.ids = []) (hv : RVal w X θ tv v) : ∃ cs, boxed t.isAgg v cs ∧ Rep w X t cs x := by
  obtain ⟨h1, h2, h3, h4⟩ := toPv_agg hp hi
  obtain ⟨cs, g1, g2⟩ := rval_one h2 h3 h4 hv
  exact ⟨cs, by rw [← h1]; exact g1, toPv_plain tv t x cs hp hi g2⟩

/-- Parts laid into a row of elements. -/
theorem fill_row {e : Ty} {size : Nat} (hs : size = e.size) {n : Nat} : ∀ (ps : List (Nat × TV)) (vs : List (Nat × Value)) (xs ys : List e.den) (cs : List Value), PartsRel w X θ ps vs → (∀ q ∈ ps, q.1 < n ∧ q.2.ids = []) → xs.length = n →
    listSet xs e (fun v => toPv h v e) ps = some ys → chunks (Rep w X e) cs xs → ∃ ds, Instr.fill (fun i => some (i * size, size)) cs.toArray vs = some ds ∧ chunks (Rep w X e) ds.toList ys ∧ ys.length = n
  | [], [], xs, ys, cs, _, _, hl, hp, hc => by
    simp only [listSet, Option.some.injEq] at hp
    subst hp
    exact ⟨cs.toArray, rfl, by simpa using hc, hl⟩
  | (i, t) :: ps, (j, v) :: vs, xs, ys, cs, ⟨hij, htv, hr⟩, hq, hl, hp, hc => by
    subst hij
    simp only [listSet] at hp
    split at hp
    · rename_i y hy
      obtain ⟨hi, hids⟩ := hq (i, t) (by simp)
      obtain ⟨vc, g1, g2⟩ := toPv_val hy hids htv
      have hvl := Rep.length e vc y g2
      have hvc := boxed_cells g1 (Rep.one e vc y g2)
      obtain ⟨c1, c, c2, k1, k2, k3, k4⟩ := chunks_get (fun c x hx => Rep.length e c x hx) e.zero i hc (by omega)
      have hcl := Rep.length e c _ k3
      have hfold := fold_set (i * size) v.cells.toList 0 cs.toArray (by rw [hvc, hvl, k1]; simp [hcl, k2, hs])
      obtain ⟨ds, m1, m2, m3⟩ := fill_row hs (n := n) ps vs (xs.set i y) ys (c1 ++ (vc ++ c2)) hr (fun q hqm => hq q (by simp [hqm])) (by simpa using hl) hp (k4 vc y g2)
      refine ⟨ds, ?_, m2, m3⟩
      have hsz : v.cells.size = size := by rw [hs, ← hvl, ← hvc]; simp
      have hnot : ¬ (v.cells.size ≠ size ∨ i * size + v.cells.size > cs.toArray.size) := by rw [k1]; simp [hsz, hcl, k2, hs]
      rw [Instr.fill]
      simp only [Bool.or_eq_true, decide_eq_true_eq, hnot, if_false]
      rw [← m1]
      congr 1
      apply Array.ext'
      rw [← Array.foldl_toList, Array.toList_zipIdx]
      rw [show (c1 ++ (vc ++ c2)).toArray.toList = c1 ++ (vc ++ c2) from rfl]
      rw [hfold, hvc, hvl]
      have e1 : i * size + 0 = c1.length := by rw [hs]; omega
      rw [e1]
      subst k1
      have e2 : c1.length + e.size = (c1 ++ c).length := by simp [hcl]
      simp only [List.take_left']
      rw [e2, ← List.append_assoc c1 c c2, List.drop_left]
    · cases hp
  | [], _ :: _, _, _, _, h, _, _, _, _ => h.elim
  | _ :: _, [], _, _, _, h, _, _, _, _ => h.elim

theorem chunks_replicate {e : Ty} (hn : e.noRef = true) : ∀ n, chunks (Rep w X e) (List.replicate n e.zcells).flatten (List.replicate n e.zero)
  | 0 => by simp [chunks]
  | n + 1 => by rw [List.replicate_succ, List.replicate_succ, List.flatten_cons]; exact ⟨_, _, rfl, rep_zero e hn, chunks_replicate hn n⟩

theorem zero_row (z : Array Value) (n : Nat) (hz : 0 < z.size) : ((Array.range (n * z.size)).map (z[· % z.size]!)).toList = (List.replicate n z.toList).flatten := by
  rw [Array.toList_map, Array.toList_range]
  induction n with
  | zero => simp
  | succ n ih =>
    rw [Nat.add_mul, Nat.one_mul, List.range_add, List.map_append, ih, List.replicate_succ', List.flatten_append]
    congr 1
    simp only [List.map_map, List.flatten_cons, List.flatten_nil, List.append_nil]
    apply List.ext_getElem?
    intro i
    rw [List.getElem?_map]
    by_cases hi : i < z.size
    · rw [List.getElem?_range hi]
      simp [Nat.mul_add_mod_self_right, Nat.add_mul_mod_self_right, Nat.mod_eq_of_lt hi, hi]
    · rw [List.getElem?_eq_none (by simp; omega), List.getElem?_eq_none (by simp; omega)]; rfl

theorem owned_lt (h : Rel w0 Xo σ θ as a w) {b : Nat} (hb : owned Xo θ σ.heap b) : b < w.heap.size := by
  rcases hb with hb | ⟨i, h1, h2⟩
  · exact Nat.lt_of_lt_of_le (h.xo b hb) h.keeps.size
  · cases hg : hget σ.heap i with
    | none => simp [hg] at h1
    | some blk => exact ((h.heap.blk i blk hg).lt b h2).2

/-- A new slice. -/
theorem add_arr (h : Rel w0 Xo σ θ as a w) (id : Nat) (E : TypeId) (e : Ty) (xs : List e.den) (C : Array Value) (hc : chunks (Rep w (owned Xo θ σ.heap) e) C.toList xs) (hm : xs.length ≤ maxLen) :
    Rel w0 Xo (σ.add id (.arr E e xs)) (setAt θ id (.arr (.slice (some ⟨w.heap.size, 0, none⟩) xs.length xs.length))) as a (w.alloc (.cells C E)) ∧
      RVal (w.alloc (.cells C E)) (owned Xo (setAt θ id (.arr (.slice (some ⟨w.heap.size, 0, none⟩) xs.length xs.length))) (σ.add id (.arr E e xs)).heap) (setAt θ id (.arr (.slice (some ⟨w.heap.size, 0, none⟩) xs.length xs.length))) (.sl id e) (.slice (some ⟨w.heap.size, 0, none⟩) xs.length xs.length) := by
  have hl := chunks_length (fun c x hx => Rep.length e c x hx) hc
  have hrel := h.add id (.arr E e xs) (.arr (.slice (some ⟨w.heap.size, 0, none⟩) xs.length xs.length)) (w' := w.alloc (.cells C E)) none (Keeps.alloc _ w _) (fun b hb => by cases hb)
    (fun b hb => by simp only [Own.base, Value.ownBlock, Option.some.injEq] at hb; subst hb; exact ⟨h.keeps.size, .inl (Nat.le_refl _)⟩) ?_
  · exact ⟨hrel, _, rfl, _, setAt_same _ _ _, rfl, rfl⟩
  · refine ⟨_, C.toList, setAt_same _ _ _, World.ownsRow_lit w C xs.length h.keeps.size hm (by simpa using hl), ?_⟩
    have hst : Step (owned Xo θ σ.heap) (owned Xo (setAt θ id (.arr (.slice (some ⟨w.heap.size, 0, none⟩) xs.length xs.length))) (σ.add id (.arr E e xs)).heap) w (w.alloc (.cells C E)) := by
      refine ⟨⟨fun _ => False, Keeps.alloc _ w _, fun _ _ h => h.elim⟩, fun b hb hx => ?_⟩
      rcases hx with hx | ⟨j, h1, h2⟩
      · exact .inl hx
      · rw [hget_add] at h1
        by_cases e : j = id
        · subst e
          simp only [baseAt, setAt_same, Option.bind_some, Own.base, Value.ownBlock, Option.some.injEq] at h2
          omega
        · simp only [e, if_false] at h1
          obtain ⟨_, h3⟩ := (isSome_kill σ.heap id j).1 h1
          exact .inr ⟨j, h3, by simpa [baseAt, setAt_other _ _ _ j e] using h2⟩
    exact chunks_mono (fun c x hx => hst.rep e c x hx) hc

theorem idsOf_nil : ∀ {l : List TV}, idsOf l = [] → ∀ v ∈ l, v.ids = []
  | [], _, v, hv => by simp at hv
  | x :: l, h, v, hv => by
    simp only [idsOf, List.append_eq_nil_iff] at h
    rcases List.mem_cons.1 hv with hv | hv
    · rw [hv]; exact h.1
    · exact idsOf_nil h.2 v hv

theorem buildS_sound (hC : CxOk P cx) (hZ : ZeroOk P cx) (hE : ElemOk P cx) (h : Rel w0 Xo σ θ as a w) {id : Nat} {draw : Bool} {T : TypeId} {n : Nat} {parts : Array (Nat × Operand)} (hp : buildS cx draw σ id T n parts K = some r) :
    ∃ tv σ', K tv σ' = some r ∧ StepOk P w0 Xo as a w (.buildSlice T n parts) tv σ' := by
  simp only [buildS] at hp
  split at hp
  · rename_i e hT
    obtain ⟨h1, h2⟩ := cond_some hp
    simp only [Bool.and_eq_true, decide_eq_true_eq, List.isEmpty_iff, List.all_eq_true] at h1
    obtain ⟨⟨⟨⟨⟨q1, q2⟩, q3⟩, q6⟩, q4⟩, q5⟩ := h1
    have hu := hE.elem T e hT
    have hty := hC.ty _ _ q1
    obtain ⟨inf, z, z1, z2, z3, z4⟩ := hZ.zero _ _ q1 q2
    have hsz := TyIs.size e _ hty
    unfold Program.hasSize at hsz
    have hs : inf.size = e.size := by simpa [z1] using hsz
    have hzs : z.cells.size = e.size := by
      have := Rep.length e e.zcells e.zero (rep_zero (w := w) (X := fun _ => False) e (TyIs.noRef e _ hty))
      rw [← z3] at this; simpa using this
    have hrel := parts_rel (fun x => h.eval x) parts.toList
    have hsmall := Nat.le_of_ble_eq_true q3
    split at h2
    · rename_i xs hx
      have hparts : ∀ q ∈ parts.toList.map (fun q => (q.1, σ.eval q.2)), q.1 < n ∧ q.2.ids = [] := by
        intro q hq
        obtain ⟨p, hp1, rfl⟩ := List.mem_map.1 hq
        exact ⟨by simpa [Nat.blt_eq] using q5 p hp1, idsOf_nil q4 _ (List.mem_map.2 ⟨p, hp1, rfl⟩)⟩
      have key : ∃ C : Array Value, chunks (Rep w (owned Xo θ σ.heap) e) C.toList xs ∧ xs.length = n ∧ ∀ o : Oper, o.op = .buildSlice T n parts → (execOp a.eval o).run P w = .ok (.value (.slice (some ⟨w.heap.size, 0, none⟩) n n)) (w.alloc (.cells C (cx.elem T))) := by
        by_cases hz0 : n * e.size = 0
        · -- nothing to lay
          obtain ⟨ds, d1, d2, d3⟩ := fill_row (size := inf.size) hs (n := n) _ _ (List.replicate n e.zero) xs (List.replicate n e.zcells).flatten hrel hparts (by simp) hx (chunks_replicate (TyIs.noRef e _ hty) n)
          have hemp : (List.replicate n e.zcells).flatten = [] := by
            have := chunks_length (fun c x hx => Rep.length e c x hx) (chunks_replicate (w := w) (X := owned Xo θ σ.heap) (TyIs.noRef e _ hty) n)
            simp only [List.length_replicate, hz0] at this
            exact List.eq_nil_of_length_eq_zero this
          refine ⟨ds, d2, d3, fun o ho => ?_⟩
          rw [hemp] at d1
          have hn0 : ¬ n * inf.size > 2 ^ 24 := by rw [hs]; omega
          have hz0' : n * inf.size = 0 := by rw [hs]; exact hz0
          have d1' : Instr.fill (fun i => some (i * inf.size, inf.size)) #[] (parts.map fun q => (q.1, a.eval q.2)).toList = some ds := by simpa using d1
          simp [execOp, ho, Instr.buildSlice, run_underlying hu, sizeOf, typeInfo, z1, hz0', newRow]
          have d1'' : Instr.fill (fun i => some (i * inf.size, inf.size)) #[] (List.map (fun q => (q.1, a.eval q.2)) parts.toList) = some ds := by simpa using d1
          rw [show Array.range 0 = #[] from rfl, Array.map_empty, d1'']; rfl
        · obtain ⟨ds, d1, d2, d3⟩ := fill_row (size := inf.size) hs (n := n) _ _ (List.replicate n e.zero) xs (List.replicate n e.zcells).flatten hrel hparts (by simp) hx (chunks_replicate (TyIs.noRef e _ hty) n)
          refine ⟨ds, d2, d3, fun o ho => ?_⟩
          have hrow := zero_row z.cells n (by rw [hzs]; rcases Nat.eq_zero_or_pos e.size with h0 | h0; exact absurd (by rw [h0, Nat.mul_zero]) hz0; exact h0)
          have hrow' : (Array.range (n * inf.size)).map (z.cells[· % z.cells.size]!) = (List.replicate n e.zcells).flatten.toArray := by
            apply Array.ext'
            rw [hs, ← hzs, hrow, z3]
          have hb := run_buildSlice (P := P) w T (cx.elem T) n (parts.map fun q => (q.1, a.eval q.2)) ds inf z hu z1 z2 (by rw [hs]; omega) (by rw [hs]; exact hz0) (by rw [hrow']; simpa using d1)
          simp [execOp, ho, hb]
      obtain ⟨C, k1, k2, k3⟩ := key
      have hm : xs.length ≤ maxLen := by
        rw [k2]
        have := Nat.le_of_ble_eq_true q6
        unfold maxLen; omega
      cases draw with
      | true =>
        have hb := h.below (Keeps.alloc (fun _ => False) w (.cells C (cx.elem T)))
        refine ⟨_, _, h2, θ, _, _, hb, ⟨_, rfl, _, n, n, C.toList, rfl, k2.symm, Nat.le_refl _, by rw [← k2]; exact hm, ?_, ?_⟩, .inl k3⟩
        · have hst : Step (owned Xo θ σ.heap) (owned Xo θ σ.heap) w (w.alloc (.cells C (cx.elem T))) := ⟨⟨fun _ => False, Keeps.alloc _ w _, fun _ _ h => h.elim⟩, fun _ _ h => h⟩
          exact chunks_mono (fun c x hx => hst.rep e c x hx) k1
        · refine .inr ⟨w.heap.size, 0, rfl, ?_, fun hx => absurd (owned_lt h hx) (by omega)⟩
          exact rangeAt_block (heap_alloc_new w _) (c1 := []) (c := C.toList) (c2 := []) (by simp)
      | false =>
        obtain ⟨r1, r2⟩ := add_arr h id (cx.elem T) e xs C k1 hm
        rw [k2] at r1 r2
        exact ⟨_, _, h2, _, _, _, r1, r2, .inl k3⟩
    · cases h2
  · cases hp

theorem eff_buildSlice (hC : CxOk P cx) (hZ : ZeroOk P cx) (hE : ElemOk P cx) (h : Rel w0 Xo σ θ as a w) {lev : Nat} {draw : Bool} {d : Option Tmp} {T : TypeId} {n : Nat} {parts : Array (Nat × Operand)} (hp : effK cx lev draw σ d (.buildSlice T n parts) K = some r) :
    ∃ tv σ', K tv σ' = some r ∧ StepOk P w0 Xo as a w (.buildSlice T n parts) tv σ' := by
  simp only [effK] at hp
  split at hp
  · exact buildS_sound hC hZ hE h hp
  · split at hp
    · rename_i hτ
      exact buildS_sound hC hZ hE (Rel.fixAll _ _ _ h hτ).1 hp
    · cases hp

theorem numK_some {tv : TV} {K : Int → Option R} (h : numK tv K = some r) : ∃ k n, tv = .pv (.int k) n ∧ K n = some r := by
  unfold numK at h
  split at h
  · exact ⟨_, _, rfl, h⟩
  · cases h

theorem eff_makeSlice (hC : CxOk P cx) (hZ : ZeroOk P cx) (hE : ElemOk P cx) (h : Rel w0 Xo σ θ as a w) {lev : Nat} {draw : Bool} {d : Option Tmp} {T : TypeId} {l c : Operand} (hp : effK cx lev draw σ d (.makeSlice T l c) K = some r) :
    ∃ tv σ', K tv σ' = some r ∧ StepOk P w0 Xo as a w (.makeSlice T l c) tv σ' := by
  simp only [effK] at hp
  split at hp
  · rename_i l c e hT
    obtain ⟨h1, h2⟩ := cond_some hp
    simp only [Bool.and_eq_true, decide_eq_true_eq] at h1
    obtain ⟨⟨hlc, q1⟩, q2⟩ := h1
    have hlc := Nat.eq_of_beq_eq_true hlc
    subst hlc
    obtain ⟨k, n, hev, h3⟩ := numK_some h2
    obtain ⟨h4, h5⟩ := cond_some h3
    simp only [Bool.and_eq_true, decide_eq_true_eq] at h4
    obtain ⟨⟨q3, q4⟩, q5⟩ := h4
    have hx := h.eval (.tmp l)
    rw [hev] at hx
    obtain ⟨hv, _⟩ := rval_int hx
    have hu := hE.elem T e hT
    have hty := hC.ty _ _ q1
    obtain ⟨inf, z, z1, z2, z3, z4⟩ := hZ.zero _ _ q1 q2
    have hsz := TyIs.size e _ hty
    unfold Program.hasSize at hsz
    have hs : inf.size = e.size := by simpa [z1] using hsz
    have hbytes : inf.bytes = cx.bytes (cx.elem T) := (hE.bytes _ _ _ q1 z1).resolve_right (by simp [q2])
    obtain ⟨m, rfl⟩ := Int.eq_ofNat_of_zero_le q3
    have hm : m ≤ maxLen := by unfold maxLen; omega
    have hrun := run_make (P := P) w T (cx.elem T) inf z hu z1 z2 k k (m : Int) (m : Int) q3 (Int.le_refl _) (by rw [hbytes, Int.mul_comm]; omega) (by omega)
    simp only [Int.toNat_natCast] at hrun h5
    have hzs : z.cells.size = e.size := by
      have := Rep.length e e.zcells e.zero (rep_zero (w := w) (X := fun _ => False) e (TyIs.noRef e _ hty))
      rw [← z3] at this; simpa using this
    have hch : chunks (Rep w (owned Xo θ σ.heap) e) (madeCells z.cells (m * inf.size)).toList (List.replicate m e.zero) := by
      rcases Nat.eq_zero_or_pos e.size with h0 | h0
      · have hl := chunks_length (fun c x hx => Rep.length e c x hx) (chunks_replicate (w := w) (X := owned Xo θ σ.heap) (TyIs.noRef e _ hty) m)
        have hnil : (List.replicate m e.zcells).flatten = [] := List.eq_nil_of_length_eq_zero (by rw [hl, h0]; simp)
        have hc := chunks_replicate (w := w) (X := owned Xo θ σ.heap) (TyIs.noRef e _ hty) m
        rw [hnil] at hc
        have : (madeCells z.cells (m * inf.size)).toList = [] := by simp [madeCells, hs, h0]
        rw [this]; exact hc
      · have hrow := zero_row z.cells m (by rw [hzs]; exact h0)
        have : (madeCells z.cells (m * inf.size)).toList = (List.replicate m e.zcells).flatten := by
          unfold madeCells
          rw [hs, ← hzs, hrow, z3]
        rw [this]
        exact chunks_replicate (TyIs.noRef e _ hty) m
    obtain ⟨r1, r2⟩ := add_arr h (newId lev d) (cx.elem T) e (List.replicate m e.zero) _ hch (by simpa using hm)
    rw [List.length_replicate] at r1 r2
    refine ⟨_, _, h5, _, _, _, r1, r2, .inl fun o ho => ?_⟩
    simp [execOp, ho, hv, hrun]
  · cases hp

end Go.Ai

/- Writing: into variables, into slices of the call's own, copy. -/
namespace Go.Ai
open Go.RowKit
set_option linter.unusedVariables false
set_option linter.unusedSimpArgs false

variable {P : Program} {cx : Cx} {w0 : World} {Xo : Nat → Prop} {σ : St} {θ : Nat → Option Own} {as : List (Array Value)} {a : Act} {w : World} {R : Type} {r : R} {K : TV → St → Option R}

theorem hset_some {H : Heap} {i : Nat} {blk blk' : Blk} (hg : hget H i = some blk) (j : Nat) : (hget (hset H i blk') j).isSome = (hget H j).isSome := by
  rw [hget_set]; split
  · rename_i e; subst e; simp [hg]
  · rfl

theorem rewrite_step (h : Rel w0 Xo σ θ as a w) {i b : Nat} {blk blk' : Blk} (hg : hget σ.heap i = some blk) (hb : baseAt θ i = some b) (o : Nat) (vs : List Value) :
    Step (owned Xo θ σ.heap) (owned Xo θ (hset σ.heap i blk')) w (w.setCells b o vs) := by
  have hXb : owned Xo θ σ.heap b := .inr ⟨i, by simp [hg], hb⟩
  exact ⟨⟨fun q => q = b, Keeps.setCells (X := fun q => q = b) b rfl vs o w, fun q _ hq => hq ▸ hXb⟩, fun q _ hq => by simpa only [owned, hset_some hg] using hq⟩

/-- A block of the call's own is written. -/
theorem Rel.rewrite (h : Rel w0 Xo σ θ as a w) {i b : Nat} {blk blk' : Blk} (hg : hget σ.heap i = some blk) (hb : baseAt θ i = some b) (o : Nat) (vs : List Value)
    (hn : BlkRel (w.setCells b o vs) (owned Xo θ (hset σ.heap i blk')) θ w0.heap.size i blk') : Rel w0 Xo { σ with heap := hset σ.heap i blk' } θ as a (w.setCells b o vs) := by
  have hstep := rewrite_step h hg hb (blk' := blk') o vs
  have hkeep : Keeps (fun _ => False) w0 (w.setCells b o vs) := by
    have hk := Keeps.setCells (X := fun q => q = b) b rfl vs o w
    refine ⟨hk.os.trans h.keeps.os, hk.tape.trans h.keeps.tape, hk.output.trans h.keeps.output, Nat.le_trans h.keeps.size hk.size, fun q hq _ => ?_⟩
    have := ((h.heap.blk i _ hg).lt b hb).1
    rw [hk.block q (Nat.lt_of_lt_of_le hq h.keeps.size) (by omega)]
    exact h.keeps.block q hq (fun h => h)
  refine h.next id hkeep (fun tv v hv => RVal.step hstep tv v (fun _ _ => rfl) hv) (by simp) (by simp) ⟨fun j bj hj => ?_, fun j k hjk hj hk q => ?_⟩
  · rw [hget_set] at hj
    split at hj
    · rename_i e; subst e
      simp only [hg, Option.map_some, Option.some.injEq] at hj
      subst hj
      exact hn
    · rename_i e
      have hbj := h.heap.blk j bj hj
      have := hbj.go (w' := w.setCells b o vs) hstep rfl (θ' := θ) (fun g hgb => heap_setCells_other b (fun hE => by
        subst hE
        exact h.heap.inj j i e (by simp [hj]) (by simp [hg]) _ hgb hb) vs o w) id (fun c cs hc => RV.step hstep false c cs (fun _ _ => rfl) hc) (fun c t h => h)
      simpa [blk_same] using this
  · rw [hset_some hg] at hj hk
    exact h.heap.inj j k hjk hj hk q

theorem take_splice {α : Type} {L ds vs : List α} {o : Nat} (hd : L.take ds.length = ds) (hl : o + vs.length ≤ ds.length) :
    (L.take o ++ (vs ++ L.drop (o + vs.length))).take ds.length = ds.take o ++ (vs ++ ds.drop (o + vs.length)) := by
  have hL : ∃ M, L = ds ++ M := ⟨L.drop ds.length, by have := List.take_append_drop ds.length L; rw [hd] at this; exact this.symm⟩
  obtain ⟨M, rfl⟩ := hL
  rw [List.take_append_of_le_length (by omega : o ≤ ds.length), List.drop_append_of_le_length (by omega)]
  have : ds.take o ++ (vs ++ (ds.drop (o + vs.length) ++ M)) = (ds.take o ++ (vs ++ ds.drop (o + vs.length))) ++ M := by simp
  rw [this, List.take_left' (by simp; omega)]

/-- Cells written into a row of the call's own. -/
theorem ownsRow_set {base g : Nat} {E : TypeId} {size n : Nat} {v : Value} {ds : List Value} (h : w.ownsRow base E size v n ds) (hv : v.ownBlock = some g) {o : Nat} {vs : List Value} (hl : o + vs.length ≤ ds.length) :
    (w.setCells g o vs).ownsRow base E size v n (ds.take o ++ (vs ++ ds.drop (o + vs.length))) ∧ w.there g o vs.length := by
  obtain ⟨h0, h1⟩ := h
  rcases h1 with ⟨rfl, _⟩ | ⟨g', cap, cur, rfl, h2, h3, h4, h5, h6, h7⟩
  · simp [Value.ownBlock] at hv
  · simp only [Value.ownBlock, Option.some.injEq] at hv
    subst hv
    have hcur : ds.length ≤ cur.size := by rw [← h7]; simp; omega
    obtain ⟨C', m1, m2⟩ := heap_setCells g' E vs o w cur h3 (by omega)
    have hsz : C'.size = cur.size := by
      have := congrArg List.length m2
      simp only [Array.length_toList, List.length_append, List.length_take, List.length_drop] at this
      omega
    refine ⟨⟨?_, .inr ⟨g', cap, C', rfl, h2, m1, h4, h5, by rw [hsz]; exact h6, ?_⟩⟩, fun j hj => ⟨?_, ?_⟩⟩
    · simp only [List.length_append, List.length_take, List.length_drop]; omega
    · have hn : n * size = ds.length := h0.symm
      rw [m2, hn]
      exact take_splice (by rw [← hn]; exact h7) hl
    · have : (cur[o + j]?).isSome = true := by simp; omega
      simpa [World.cell?, h3] using this
    · simp [World.frozen?, h3]

theorem take_mid {α : Type} {a b c d : List α} (hl : b.length = d.length) : (a ++ (b ++ c)).take a.length ++ (d ++ (a ++ (b ++ c)).drop (a.length + d.length)) = a ++ (d ++ c) := by
  rw [List.take_left', ← hl]
  · congr 2
    rw [← List.append_assoc, show a.length + b.length = (a ++ b).length by simp, List.drop_left]
  · rfl

theorem eff_store (hC : CxOk P cx) (h : Rel w0 Xo σ θ as a w) {lev : Nat} {draw : Bool} {d : Option Tmp} {T : TypeId} {x y : Operand} (hp : effK cx lev draw σ d (.store T x y) K = some r) :
    ∃ tv σ', K tv σ' = some r ∧ StepOk P w0 Xo as a w (.store T x y) tv σ' := by
  simp only [effK] at hp
  split at hp
  · rename_i t hT
    split at hp
    · rename_i hp' hs
      have hx := h.eval x
      have hy := h.eval y
      unfold storeH at hs
      split at hs
      · rename_i i rt p he
        rw [he] at hx
        obtain ⟨o, b, off, s, q1, q2, q3, q4, hv⟩ := rval_ptr hx
        split at hs
        · rename_i rr c hg
          have hs' : (decide (rr = rt) && decide (rt.rsub p = some t) && (σ.eval y).fits t) = true ∧ (match c.setP p (σ.eval y) with | some c' => some (hset σ.heap i (.var rr c')) | none => none) = some hp' := by
            cases hcnd : (decide (rr = rt) && decide (rt.rsub p = some t) && (σ.eval y).fits t) with
            | true => rw [hcnd] at hs; exact ⟨rfl, hs⟩
            | false => rw [hcnd] at hs; cases hs
          obtain ⟨h1, h2⟩ := hs'
          simp only [Bool.and_eq_true, decide_eq_true_eq] at h1
          obtain ⟨⟨rfl, hsub⟩, hfit⟩ := h1
          split at h2
          · rename_i c' hc'
            injection h2 with h2
            subst h2
            obtain ⟨b', C, E, e1, e2, e3, e4, e5⟩ := h.heap.blk i _ hg
            rw [e1] at q1; injection q1 with q1; subst q1
            simp only [Own.base, Option.some.injEq] at q2; subst q2
            have hst : s = t := by
              rw [rsub_of_rat q3] at hsub; injection hsub
            subst hst
            have hat : rr.at p = some (off, s) := by
              cases rr with
              | slice e =>
                cases p with
                | nil => exact q3
                | cons q p =>
                  exfalso
                  cases c with
                  | pv s2 z =>
                    have : s2 = .slice e := by simpa [TV.fits] using e5
                    subst this
                    cases hev : σ.eval y <;> rw [hev] at hc' <;> simp [TV.setP, Ai.setP, setV] at hc'
                  | pr a b => simp [TV.fits] at e5
                  | _ => simp [TV.setP] at hc'
              | _ => exact q3
            obtain ⟨vc, g1, g2, g3⟩ := fits_val hfit hy
            have hvc := boxed_cells g1 (RV.one _ vc g2)
            have hle := tv_set.at_le rr p off s hat
            have hl := RV.length c rr C.toList e5 e4
            have hsplit : C.toList = C.toList.take off ++ ((C.toList.drop off).take s.size ++ C.toList.drop (off + s.size)) := by
              rw [← List.drop_drop, List.take_append_drop, List.take_append_drop]
            obtain ⟨k1, k2⟩ := tv_set c rr p C.toList off s _ c' vc hat e5 hc' e4 hfit g2 _ _ _ hsplit (by simp at hl ⊢; omega) (by simp at hl ⊢; omega)
            have hCs : C.size = rr.size := by simpa using hl
            obtain ⟨C', m1, m2⟩ := heap_setCells b' E vc off w C e3 (by omega)
            have hthere : w.there b' off vc.length := by
              intro j hj
              refine ⟨?_, ?_⟩
              · have : (C[off + j]?).isSome = true := by simp; omega
                simpa [World.cell?, e3] using this
              · simp [World.frozen?, e3]
            have hrun := run_storeAt_kind (w := w) (hC.ty T _ hT) hthere g3 hvc (RV.one _ vc g2)
            have hbase : baseAt θ i = some b' := by simp [baseAt, e1, Own.base]
            have hstep := rewrite_step h hg hbase (blk' := .var rr c') off vc
            have hrel := h.rewrite hg hbase off vc (blk' := .var rr c') ⟨b', C', E, e1, e2, m1, by rw [m2, g3]; exact RV.step hstep false c' _ (fun _ _ => rfl) k2, k1⟩
            exact ⟨.dead, _, hp, θ, undef, _, hrel, trivial, .inr ⟨rfl, fun o ho => by simp [execOp, ho, hv, hrun]⟩⟩
          · cases h2
        · rename_i E e xs hg
          have hs' : (decide (Ty.slice e = rt) && decide (rt.rsub p = some t)) = true := by
            cases hcnd : (decide (Ty.slice e = rt) && decide (rt.rsub p = some t)) with
            | true => rfl
            | false => rw [hcnd] at hs; cases hs
          rw [hs'] at hs
          simp only [Bool.and_eq_true, decide_eq_true_eq] at hs'
          obtain ⟨hrt, hsub⟩ := hs'
          subst hrt
          simp only [cond] at hs
          obtain ⟨vv, ds, e1, e2, e3⟩ := h.heap.blk i _ hg
          rw [e1] at q1; injection q1 with q1; subst q1
          split at hs
          · rename_i k q
            split at hs
            · rename_i yv hyv
              cases hids : (σ.eval y).ids.isEmpty with
              | false => rw [hids] at hs; cases hs
              | true =>
              rw [hids] at hs
              simp only [cond] at hs
              have hids' : (σ.eval y).ids = [] := by simpa using hids
              obtain ⟨vc, g1, g2⟩ := toPv_val hyv hids' hy
              have hvc := boxed_cells g1 (Rep.one t vc yv g2)
              have hk : k < xs.length := by
                rcases e2.2 with ⟨hn, hz⟩ | ⟨g, cap, cur, hn, _⟩
                · rw [hn] at q4; simp only [Own.okp] at q4; omega
                · rw [hn] at q4; simpa [Own.okp] using q4
              simp only [Ty.rat] at q3
              cases hq : e.at q with
              | none => simp [hq] at q3
              | some qq =>
                obtain ⟨o2, s2⟩ := qq
                simp only [hq, Option.map_some, Option.some.injEq, Prod.mk.injEq] at q3
                obtain ⟨hoff, hss⟩ := q3
                have hst : s2 = t := by
                  have : e.sub q = some s2 := Ty.sub_of_at e q o2 s2 hq
                  simp only [Ty.rsub] at hsub
                  rw [this] at hsub; injection hsub
                subst hst
                obtain ⟨c1, c, c2, k1, k2, k3, k4⟩ := chunks_get (fun c x hx => Rep.length e c x hx) e.zero k e3 hk
                obtain ⟨y0, z1, d1, d, d2, z2, z3, z4, z5⟩ := getP_rep e _ q c o2 s2 hq k3
                obtain ⟨x', x1, x2⟩ := z5 vc yv g2
                rw [x1] at hs
                simp only [Option.some.injEq] at hs
                subst hs
                have hch := k4 _ _ x2
                have hdl := Rep.length s2 d y0 z4
                have hvl := Rep.length s2 vc yv g2
                have hds : ds = (c1 ++ d1) ++ (d ++ (d2 ++ c2)) := by rw [k1, z2]; simp
                have hofl : off = (c1 ++ d1).length := by simp [k2, z3]; omega
                obtain ⟨own', hthere⟩ := ownsRow_set e2 (g := b) (by simpa [Own.base] using q2) (o := off) (vs := vc) (by rw [hds, hofl]; simp; omega)
                have hnew : ds.take off ++ (vc ++ ds.drop (off + vc.length)) = c1 ++ ((d1 ++ (vc ++ d2)) ++ c2) := by
                  rw [hds, hofl, take_mid (by omega)]; simp
                rw [hnew] at own'
                have hrun := run_storeAt_kind (w := w) (hC.ty T _ hT) hthere hvl hvc (Rep.one _ vc yv g2)
                have hbase : baseAt θ i = some b := by simp [baseAt, e1]; exact q2
                have hstep := rewrite_step h hg hbase (blk' := .arr E e (xs.set k x')) off vc
                have hrel := h.rewrite hg hbase off vc (blk' := .arr E e (xs.set k x')) ⟨vv, _, e1, by rw [List.length_set]; exact own', chunks_mono (fun c x hx => hstep.rep e c x hx) hch⟩
                exact ⟨.dead, _, hp, θ, undef, _, hrel, trivial, .inr ⟨rfl, fun o ho => by simp [execOp, ho, hv, hrun]⟩⟩
            · cases hs
          · cases hs
        · cases hs
      · cases hs
    · cases hp
  · cases hp


end Go.Ai

