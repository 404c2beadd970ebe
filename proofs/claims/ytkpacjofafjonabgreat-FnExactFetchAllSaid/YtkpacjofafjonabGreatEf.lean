/- The machine, and that it is sound. No conditions. -/
import Derived.Test.YtkpacjofafjonabGreatEe
/- Whatever order a region draws. -/
namespace Go.Ai
open Go.RowKit
variable {P:Program} {cx:Cx} {w0:A0F} {Xo:Nat→Prop} {σ:St} {θ:Nat→Option Own} {as:List (Array Value)} {a:Act} {w:World} {X X':Nat→Prop} {R:Type} {r:R} {base:Nat→Nat→Prop}
variable {ops:Array Oper} {n lev:Nat} {fn:FuncId}
def A5X(m:Nat)(listed:Array Bool):Prop:=∀j,j<m→listed.getD j true=true
theorem A9o{d:Option Tmp}{l:List Nat}(h:B3a d l=true):∀t,d=some t→t∉l:=by
 intro t ht hm
 subst ht
 simp only[B3a,Bool.not_eq_true',List.any_eq_false]at h
 exact h t hm (Nat.beq_refl t)
theorem A0W{l:List Oper}{x y:Oper}(h:A4F l x y=true):(∀ t,x.dst=some t→t∉A0D l y)∧(∀ t,y.dst=some t→t∉A0D l x)∧(∀ s t,x.dst=some s→y.dst=some t→s≠t):=by
 simp only[A4F,Bool.and_eq_true]at h
 obtain⟨⟨h1,h2⟩,h3⟩:=h
 refine⟨A9o h1,A9o h2,fun s t hs ht e=> ?_⟩
 rw[hs,ht]at h3
 simp only[Bool.not_eq_true']at h3
 subst e
 rw[Nat.beq_refl]at h3
 cases h3
theorem B4f(σ:St)(d:Option Tmp)(tv:TV):(σ.put d tv).heap=σ.heap:=by cases d<;>rfl
structure B0l (ops:Array Oper) (listed:Array Bool) (k:Nat):Prop where
 size:listed.size=ops.size
 is:∀j,j<k→j<ops.size→listed.getD j false=true
 isnt:∀j,k≤j→j<ops.size→listed.getD j true=false
theorem B0l.set{listed:Array Bool}{k:Nat}(h:B0l ops listed k)(hk:k<ops.size):B0l ops (listed.setIfInBounds k true) (k+1):=by
 refine⟨by simp[h.size],fun j hj hs=> ?_,fun j hj hs=>by rw[getD_set_ne true (by omega)]; exact h.isnt j (by omega) hs⟩
 by_cases e:k=j
 ·subst e; simp[h.size,hk]
 ·exact getD_set_true (h.is j (by omega) hs)
theorem A5B{o:Oper}{k:Nat}(h:(o.after.toList.all fun e=> !Region.binds .any e||Nat.blt e.on k)=true):∀e∈o.after,Region.binds .any e=true→e.on<k:=by
 intro e he hb
 have:=List.all_eq_true.1 h e (Array.mem_toList_iff.2 he)
 simpa[hb,Nat.blt_eq]using this
theorem A1m{o:Oper}{i:Nat}(h:A0K o i=true):∃e∈o.after,Region.binds .any e=true∧e.on=i:=by
 unfold A0K at h
 obtain⟨e,he,hb⟩:=List.any_eq_true.1 h
 simp only[Bool.and_eq_true]at hb
 exact⟨e,Array.mem_toList_iff.1 he,hb.1,A0j.1 hb.2⟩
theorem A7c{j i:Nat}{o:Oper}(ho:ops[j]? =some o)(h:A0K o i=true):Region.waitsFor .any ops j i=true:=by
 obtain⟨e,he,hb,hon⟩:=A1m h
 unfold Region.waitsFor
 simp only[ho]
 exact Array.any_eq_true'.2 ⟨e,he,by simp[hb,hon]⟩
theorem B0l.ready{listed:Array Bool}{k:Nat}{o:Oper}(h:B0l ops listed k)(ho:ops[k]? =some o)(he:∀e∈o.after,Region.binds .any e=true→e.on<k):k∈Region.ready .any ops listed:=by
 have hk:k<ops.size:=(Array.getElem?_eq_some_iff.1 ho).1
 exact mem_ready.2 ⟨h.isnt k (Nat.le_refl _) hk,o,ho,fun e hm hb=>h.is e.on (he e hm hb) (by have:=he e hm hb; omega)⟩
theorem A8n(hT:A3R P cx){call:A1v R}(hcall:A4d P w0 Xo call){Q':Exit→Act→World→Prop}{K:St→Option R}(hQ:∀σ θ a w,K σ=some r→Rel w0 Xo σ θ as a w→Q' .normal a w):
  ∀(l:List Oper) (k g:Nat) (listed:Array Bool) (σ:St) (θ:Nat→Option Own) (a:Act) (w:World),(∀ j,l[j]? =ops[k+j]?)→l.length≤g→B0l ops listed k→
  (∀ (j:Nat) oj,l[j]? =some oj→(∀ e∈oj.after,Region.binds .any e=true→e.on<k+j)∧(0<j→A0K oj (k+j-1)=true))→
  A5k cx call lev fn false ops.toList l σ K=some r→Rel w0 Xo σ θ as a w→wpAny P .any ops Q' g listed a w
 | [],k,g,listed,σ,θ,a,w,hl,_,hu,_,hp,hr=>by
  have hnil:Region.ready .any ops listed=[]:=by
   cases hr:Region.ready .any ops listed with
   |nil=>rfl
   |cons j js=>
    have hj:j∈Region.ready .any ops listed:=by rw[hr]; simp
    obtain⟨hjun,oj,hoj,_⟩:=mem_ready.1 hj
    have hjs:j<ops.size:=(Array.getElem?_eq_some_iff.1 hoj).1
    have hks:ops.size≤k:=by
     have:=hl 0
     simp only[List.getElem?_nil,Nat.add_zero]at this
     exact Array.getElem?_eq_none_iff.1 this.symm
    have:=hu.is j (by omega) hjs
    simp[hu.size,hjs]at this hjun
    rw[this]at hjun; cases hjun
  have hq:=hQ σ θ a w hp hr
  cases g with
  |zero=>exact⟨hnil,hq⟩
  |succ g=>exact⟨fun _=>hq,fun i hi=>by rw[hnil]at hi; cases hi⟩
 |o::l,k,0,listed,σ,θ,a,w,hl,hg,hu,hw,hp,hr=>by simp at hg
 |o::l,k,g+1,listed,σ,θ,a,w,hl,hg,hu,hw,hp,hr=>by
  have h0:ops[k]? =some o:=by simpa using(hl 0).symm
  have hk:k<ops.size:=(Array.getElem?_eq_some_iff.1 h0).1
  have hready:=hu.ready h0 (hw 0 o rfl).1
  refine⟨fun h=>(by rw[h]at hready; cases hready),fun i hi=> ?_⟩
  have hik:i=k:=by
   obtain⟨hiun,oi,hoi,hall⟩:=mem_ready.1 hi
   have his:i<ops.size:=(Array.getElem?_eq_some_iff.1 hoi).1
   rcases Nat.lt_trichotomy i k with h|h|h
   ·have:=hu.is i h his
    simp[hu.size,his]at this hiun
    rw[this]at hiun; cases hiun
   ·exact h
   ·have hli:(o::l)[i-k]? =some oi:=by rw[hl (i-k),show k+(i-k)=i by omega]; exact hoi
    have hwi:=(hw (i-k) oi hli).2 (by omega)
    obtain⟨e,he,hb,hon⟩:=A1m hwi
    have h1:=hall e he hb
    have h2:=hu.isnt e.on (by omega) (by omega)
    rw[getD_both h2]at h1
    cases h1
  subst hik
  simp only[A5k]at hp
  have:=A9q hT hcall hr hp (Q:=Q') (K':=wpAny P .any ops Q' g (listed.setIfInBounds i true)) fun σ' θ' a' w' k1 k2=>
   A8n hT hcall hQ l (i+1) g _ σ' θ' a' w' (fun j=>by have:=hl (j+1); simpa[Nat.add_assoc,Nat.add_comm 1 j]using this) (by simpa using hg) (hu.set hk)
    (fun j oj hj=>by
     have:=hw (j+1) oj (by simpa using hj)
     refine⟨fun e he hb=>by have:=this.1 e he hb; omega,fun hj0=> ?_⟩
     have h2:=this.2 (by omega)
     rw[show i+1+j-1=i+(j+1)-1 by omega]; exact h2) k1 k2
  unfold wpOp
  simp only[h0]
  split
  ·rename_i hw; simp only[hw,if_true]at this; exact .inl this
  ·rename_i hw; simp only[hw]at this; exact this
theorem A6f{m:Nat}{listed:Array Bool}(hm:m≤ops.size)(inv:HeadInv .any ops m listed)(h:A5X m listed):B0l ops listed m:=
 ⟨inv.size,fun j hj hs=>by
  have h1:=h j hj
  have:j<listed.size:=by rw[inv.size]; exact hs
  simpa[this]using h1,fun j hj hs=>inv.tail j hj hs⟩
end Go.Ai
namespace Go.Ai
open Go.RowKit
variable {P:Program} {cx:Cx} {w0:A0F} {Xo:Nat→Prop} {σ:St} {θ:Nat→Option Own} {as:List (Array Value)} {a:Act} {w:World} {R:Type} {r:R}
variable {ops:Array Oper} {n lev:Nat} {fn:FuncId}
theorem A7G{L:List Oper}:∀(m k:Nat) (l:List Oper),B2i cx L m k l=true→∀(j:Nat) oj,l[j]? =some oj→j<m→
  (A1D cx oj.op=true→∀(i:Nat) oi,l[i]? =some oi→j<i→i<m→A1D cx oi.op=true→A0K oi (k+j)=true)∧(∀ e∈oj.after,Region.binds .any e=true→e.on<k+j)∧∀(i:Nat) oi,l[i]? =some oi→j<i→A0K oi (k+j)=true∨A4F L oj oi=true
 |0,k,l,_,j,oj,_,hj=>by omega
 |m+1,k,[],_,j,oj,hl,_=>by simp at hl
 |m+1,k,o::l,h,j,oj,hl,hj=>by
  simp only[B2i,Bool.and_eq_true]at h
  obtain⟨⟨⟨h0,h1⟩,h2⟩,h3⟩:=h
  cases j with
  |zero=>
   simp only[List.getElem?_cons_zero,Option.some.injEq]at hl
   subst hl
   refine⟨fun hs i oi hi hlt him hsi=> ?_,A5B h1,fun i oi hi hlt=> ?_⟩
   ·simp only[hs,Bool.not_true,Bool.false_or]at h0
    cases i with
    |zero=>omega
    |succ i=>
     simp only[List.getElem?_cons_succ]at hi
     have hm:oi∈l.take m:=by
      refine List.mem_of_getElem? (i:=i) ?_
      rw[List.getElem?_take_of_lt (by omega)]; exact hi
     have:=List.all_eq_true.1 h0 oi hm
     simpa[hsi]using this
   cases i with
   |zero=>omega
   |succ i=>
    simp only[List.getElem?_cons_succ]at hi
    have:=List.all_eq_true.1 h2 oi (List.mem_of_getElem? hi)
    simpa using this
  |succ j=>
   simp only[List.getElem?_cons_succ]at hl
   obtain⟨g0,g1,g2⟩:=A7G m (k+1) l h3 j oj hl (by omega)
   refine⟨fun hs i oi hi hlt him hsi=> ?_,fun e he hb=>by have:=g1 e he hb; omega,fun i oi hi hlt=> ?_⟩
   ·cases i with
    |zero=>omega
    |succ i=>
     simp only[List.getElem?_cons_succ]at hi
     have:=g0 hs i oi hi (by omega) (by omega) hsi
     rwa [show k+1+j=k+(j+1) by omega]at this
   cases i with
   |zero=>omega
   |succ i=>
    simp only[List.getElem?_cons_succ]at hi
    have:=g2 i oi hi (by omega)
    rwa [show k+1+j=k+(j+1) by omega]at this
theorem A8d{rel:Bool}:∀(m k:Nat) (l:List Oper),B0Z rel k l m=true→m<l.length→∀j,j<m→(∃ i oi,l[i]? =some oi∧j<i∧i≤m∧A0K oi (k+j)=true)∨(rel=true∧∃oj,l[j]? =some oj∧A7K oj=true)
 |0,k,l,_,_,j,hj=>by omega
 |m+1,k,[],_,hm,_,_=>by simp at hm
 |m+1,k,o::l,h,hm,j,hj=>by
  simp only[B0Z,Bool.and_eq_true,Bool.or_eq_true]at h
  obtain⟨h1,h2⟩:=h
  cases j with
  |zero=>
   rcases h1 with h1|h1
   ·exact .inr ⟨h1.1,o,rfl,h1.2⟩
   obtain⟨oi,hmem,hw⟩:=List.any_eq_true.1 h1
   obtain⟨i,hi⟩:=List.getElem?_of_mem hmem
   rw[List.getElem?_take]at hi
   split at hi
   ·exact .inl ⟨i+1,oi,by simpa using hi,by omega,by omega,hw⟩
   ·cases hi
  |succ j=>
   rcases A8d m (k+1) l h2 (by simpa using hm) j (by omega)with⟨i,oi,g1,g2,g3,g4⟩|⟨g1,oj,g2,g3⟩
   ·exact .inl ⟨i+1,oi,by simpa using g1,by omega,by omega,by rwa [show k+1+j=k+(j+1) by omega]at g4⟩
   ·exact .inr ⟨g1,oj,by simpa using g2,g3⟩
theorem A8g:∀(k:Nat) (l:List Oper),B2y k l=true→∀(j:Nat) oj,l[j]? =some oj→(∀ e∈oj.after,Region.binds .any e=true→e.on<k+j)∧A0K oj (k+j-1)=true
 |k,[],_,j,oj,h=>by simp at h
 |k,o::l,h,j,oj,hj=>by
  simp only[B2y,Bool.and_eq_true]at h
  obtain⟨⟨h1,h2⟩,h3⟩:=h
  cases j with
  |zero=>
   simp only[List.getElem?_cons_zero,Option.some.injEq]at hj
   subst hj
   exact⟨A5B h1,h2⟩
  |succ j=>
   simp only[List.getElem?_cons_succ]at hj
   obtain⟨g1,g2⟩:=A8g (k+1) l h3 j oj hj
   exact⟨fun e he hb=>by have:=g1 e he hb; omega,by rwa [show k+1+j-1=k+(j+1)-1 by omega]at g2⟩
structure A3q (cx:Cx) (ops:Array Oper) (m:Nat):Prop where
 le:m≤ops.size
 store:∀j oj i oi,ops[j]? =some oj→A1D cx oj.op=true→ops[i]? =some oi→j<i→i<m→A1D cx oi.op=true→A0K oi j=true
 edges:∀j oj,ops[j]? =some oj→∀e∈oj.after,Region.binds .any e=true→e.on<j
 apart:∀j oj i oi,ops[j]? =some oj→j<m→ops[i]? =some oi→j<i→A0K oi j=true∨A4F ops.toList oj oi=true
 tail:∀j oj,ops[j]? =some oj→m<j→A0K oj (j-1)=true
 chain:m<ops.size→Region.chainB .any ops m=true
 sink:m<ops.size→∀j,j<m→(∃ i,j<i∧i≤m∧Region.waitsFor .any ops i j=true)∨(B4g cx ops.toList=true∧∃oj,ops[j]? =some oj∧A7K oj=true)
theorem B1w(h:B2e cx ops.toList=true):A3q cx ops (A0H cx ops.toList):=by
 simp only[B2e,B1T,Bool.and_eq_true]at h
 obtain⟨⟨h2,h1⟩,hn⟩:=h
 have hle:A0H cx ops.toList≤ops.size:=by simpa using Nat.le_of_ble_eq_true hn
 have hd:=A7G (L:=ops.toList) (A0H cx ops.toList) 0 ops.toList h1
 have tl:∀j oj,ops[j]? =some oj→A0H cx ops.toList≤j→(∀ e∈oj.after,Region.binds .any e=true→e.on<j)∧(A0H cx ops.toList<j→A0K oj (j-1)=true)∧B0Z (B4g cx ops.toList) 0 ops.toList (A0H cx ops.toList)=true:=by
  intro j oj hj hmj
  have hjl:ops.toList[j]? =some oj:=by simpa using hj
  split at h2
  ·rename_i hnil
   have:(ops.toList.drop (A0H cx ops.toList))[j-A0H cx ops.toList]? =some oj:=by rw[List.getElem?_drop,show A0H cx ops.toList+(j-A0H cx ops.toList)=j by omega]; exact hjl
   rw[hnil]at this; simp at this
  ·rename_i o l hcons
   simp only[Bool.and_eq_true]at h2
   obtain⟨⟨g1,g3⟩,g2⟩:=h2
   have A0b:(o::l)[j-A0H cx ops.toList]? =some oj:=by
    rw[← hcons,List.getElem?_drop,show A0H cx ops.toList+(j-A0H cx ops.toList)=j by omega]; exact hjl
   by_cases e:j=A0H cx ops.toList
   ·rw [e,Nat.sub_self]at A0b
    simp only[List.getElem?_cons_zero,Option.some.injEq]at A0b
    subst A0b
    refine⟨by rw[e]; exact A5B g1,fun h=>by omega,g2⟩
   ·obtain ⟨d,hd⟩:∃d,j-A0H cx ops.toList=d+1:=⟨j-A0H cx ops.toList-1,by omega⟩
    rw[hd]at A0b
    simp only[List.getElem?_cons_succ]at A0b
    obtain⟨k1,k2⟩:=A8g _ l g3 d oj A0b
    have hj':A0H cx ops.toList+1+d=j:=by omega
    rw[hj']at k1 k2
    exact⟨k1,fun _=>k2,g2⟩
 refine⟨hle,fun j oj i oi hj hs hi hji him hsi=>by
  have:=(hd j oj (by simpa using hj) (by omega)).1 hs i oi (by simpa using hi) hji him hsi
  rwa [Nat.zero_add]at this,fun j oj hj e he hb=> ?_,fun j oj i oi hj hjm hi hji=> ?_,fun j oj hj hmj=>(tl j oj hj (by omega)).2.1 hmj,fun hm=> ?_,fun hm i hi=> ?_⟩
 ·by_cases hjm:j<A0H cx ops.toList
  ·have:=(hd j oj (by simpa using hj) hjm).2.1 e he hb; omega
  ·exact (tl j oj hj (by omega)).1 e he hb
 ·have:=(hd j oj (by simpa using hj) hjm).2.2 i oi (by simpa using hi) hji
  rwa [Nat.zero_add]at this
 ·unfold Region.chainB
  rw[List.all_eq_true]
  intro t ht
  have ht:=List.mem_range.1 ht
  by_cases h:t≤A0H cx ops.toList
  ·simp [h]
  ·have ho:ops[t]? =some ops[t]:=by simp[ht]
   simp[A7c ho ((tl t _ ho (by omega)).2.1 (by omega))]
 ·have hm2:ops[A0H cx ops.toList]? =some ops[A0H cx ops.toList]:=by simp[hm]
  have hs:=(tl _ _ hm2 (Nat.le_refl _)).2.2
  rcases A8d _ 0 ops.toList hs (by simpa using hm) i hi with⟨j,oj,g1,g2,g3,g4⟩|⟨g1,oj,g2,g3⟩
  ·rw [Nat.zero_add]at g4
   exact .inl ⟨j,g2,g3,A7c (by simpa using g1) g4⟩
  ·exact .inr ⟨g1,oj,by simpa using g2,g3⟩
theorem B1e{n:Nat}{listed:Array Bool}(hs:∀i,i<n→listed.getD i true=false→∃j,i<j∧j≤n∧Region.waitsFor .any ops j i=true)(hc:Region.chainB .any ops n=true)(hn:n<ops.size)(inv:HeadInv .any ops n listed):
  ∀(d i:Nat),n-i=d→i<n→listed.getD i true=false→∀t,n≤t→t∉Region.ready .any ops listed:=by
 intro d
 induction d using Nat.strongRecOn with
 |_ d ih=>
  intro i hd hi hun t ht hr
  obtain⟨_,ot,hot,hall⟩:=mem_ready.1 hr
  have htlt:t<ops.size:=(Array.getElem?_eq_some_iff.1 hot).1
  by_cases htn:t=n
  ·subst htn
   obtain⟨j,hj1,hj,hj2⟩:=hs i hi hun
   obtain⟨oj,hoj,e,he,hb,hon⟩:=Region.waitsFor_spec hj2
   by_cases hjt:j=t
   ·subst hjt
    have:oj=ot:=Option.some.inj (hoj.symm.trans hot)
    subst this
    have h2:=hall e he hb
    rw[hon,getD_both hun]at h2
    cases h2
   ·cases hl:listed.getD j false with
    |true=>
     have h2:=inv.closed j oj hoj hl e he hb
     rw[hon,getD_both hun]at h2
     cases h2
    |false=>
     have hjs:j<listed.size:=by rw[inv.size]; omega
     exact ih (t-j) (by omega) j rfl (by omega) (getD_in hjs hl) t (Nat.le_refl _) hr
  ·have h1:=List.all_eq_true.1 hc t (List.mem_range.2 htlt)
   simp only[Bool.or_eq_true,decide_eq_true_eq]at h1
   rcases h1 with h1|h1
   ·omega
   ·obtain ⟨o',ho',e,he,hb,hon⟩:=Region.waitsFor_spec h1
    have:o'=ot:=Option.some.inj (ho'.symm.trans hot)
    subst this
    have h2:=hall e he hb
    rw[hon,getD_both (inv.tail (t-1) (by omega) (by omega))]at h2
    cases h2
theorem B2s{d:Option Tmp}{l:List Nat}(h:∀t,d=some t→t∉l):B3a d l=true:=by
 cases d with
 |none=>rfl
 |some t=>
  simp only[B3a,Bool.not_eq_true',List.any_eq_false]
  intro x hx hb
  exact h t rfl ((A0j.1 hb)▸hx)
theorem B0L(y:Oper):y.looksAt ops=A0D ops.toList y:=by
 unfold Oper.looksAt A0D
 congr 1
 ·generalize y.op.operands.toList=l
  induction l with
  |nil=>rfl
  |cons x l ih=>cases x<;>simp[A2L,ih]
 ·cases y.guard with
  |none=>rfl
  |some q=>
   obtain⟨g,b⟩:=q
   simp only[Array.getElem?_toList]
   cases(ops[g]?).bind (·.dst)<;>rfl
theorem B0n{x y:Oper}(h:A4F ops.toList x y=true):x.apart ops y=true:=by
 obtain⟨h1,h2,h3⟩:=A0W h
 unfold Oper.apart
 rw[B0L,B0L]
 cases hx:x.dst with
 |none=>
  cases hy:y.dst with
  |none=>rfl
  |some t=>simpa[hy]using h2 t hy
 |some s=>
  have e1:=h1 s hx
  cases hy:y.dst with
  |none=>simpa[hy]using e1
  |some t=>
   have e2:=h2 t hy
   have e3:=h3 s t hx hy
   simp[hy,e1,e2,Ne.symm e3]
end Go.Ai
/- Whatever order a head comes up in: the state is the one of the text's order,as far as it has come up. -/
namespace Go.Ai
open Go.RowKit
variable {P:Program} {cx:Cx} {w0:A0F} {Xo:Nat→Prop} {σ:St} {θ:Nat→Option Own} {as:List (Array Value)} {a:Act} {w:World} {X X':Nat→Prop} {R:Type} {r:R} {base:Nat→Nat→Prop}
variable {ops:Array Oper} {n lev:Nat} {fn:FuncId}
abbrev A1P:=TV×List Nat×A0m×Option (Nat×Blk)
def A3P(o:Oper)(x:A1P)(σ:St):St:=((σ.eff x.2.1 x.2.2.1).wr x.2.2.2).put o.dst x.1
def A0q(ops:Array Oper)(f:Nat→A1P)(L:Nat→Bool)(σ0:St):Nat→St
 |0=>σ0
 |k+1=>match ops[k]? with
  |some o=>cond (L k) (A3P o (f k) (A0q ops f L σ0 k)) (A0q ops f L σ0 k)
  |none=>A0q ops f L σ0 k
def A2h(ops:Array Oper)(f:Nat→A1P):Nat→List A9D
 |0=>[]
 |k+1=>match ops[k]? with
  |some o=>(o.dst,(f k).1.ids,(f k).2.2.1)::A2h ops f k
  |none=>A2h ops f k
theorem A0X{f f':Nat→A1P}{L L':Nat→Bool}{σ0:St}:∀k,(∀ i,i<k→f i=f' i)→(∀ i,i<k→L i=L' i)→A0q ops f L σ0 k=A0q ops f' L' σ0 k
 |0,_,_=>rfl
 |k+1,h,h'=>by
  simp only[A0q]
  rw[A0X k (fun i hi=>h i (by omega)) (fun i hi=>h' i (by omega)),h k (by omega),h' k (by omega)]
theorem A2v{f f':Nat→A1P}:∀k,(∀ i,i<k→f i=f' i)→A2h ops f k=A2h ops f' k
 |0,_=>rfl
 |k+1,h=>by
  simp only[A2h]
  rw[A2v k (fun i hi=>h i (by omega)),h k (by omega)]
structure A4e (cx:Cx) (R:Type) (lev:Nat) (ops:Array Oper) (m:Nat) (σ0:St) (HD:Hid) (f:Nat→A1P) (k:Nat) (o:Oper):Prop where
 mono:∀(τ:St) (K:St→KD R),B4Y (B4R cx ops.toList HD σ0 (A0q ops f (fun _=>true) σ0 k) (A2h ops f k) k o) τ.heap (cond (A4N o.op&&(f k).1.noBad) (A8x (A0q ops f (fun _=>true) σ0 k) o) [])→(∀ t∈A0D ops.toList o,τ.env.getD t .dead=(A0q ops f (fun _=>true) σ0 k).env.getD t .dead)→
  A5j cx lev (B5E cx ops.toList m o) ops.toList τ o K=K τ (f k).1 (f k).2.1 (f k).2.2.1 (f k).2.2.2
 ok:B1B cx ops.toList m σ0 HD (A0q ops f (fun _=>true) σ0 k).heap (A2h ops f k) k o (f k).1 (f k).2.1 (f k).2.2.1 (f k).2.2.2=true
 hid:B5d ops.toList σ0 (A0q ops f (fun _=>true) σ0 k) HD (A2h ops f k) k o (f k).1 (f k).2.2.2=true
theorem A4e.congr{m:Nat}{σ0:St}{HD:Hid}{f f':Nat→A1P}{k:Nat}{o:Oper}(h:A4e cx R lev ops m σ0 HD f k o)(hf:∀i,i≤k→f i=f' i):A4e cx R lev ops m σ0 HD f' k o:=by
 have e1:=A2v (ops:=ops) k (fun i hi=>hf i (Nat.le_of_lt hi))
 have e2:=A0X (ops:=ops) (L:=fun _=>true) (L':=fun _=>true) (σ0:=σ0) k (fun i hi=>hf i (Nat.le_of_lt hi)) (fun _ _=>rfl)
 have e3:=hf k (Nat.le_refl _)
 obtain⟨h1,h2,h3⟩:=h
 rw[e1,e2,e3]at h1
 rw[e1,e2,e3]at h2
 rw[e1,e2,e3]at h3
 exact⟨h1,h2,h3⟩
theorem A8Y{m:Nat}{σ0:St}{HD:Hid}{K:St→Option R}:∀(l:List Oper) (k:Nat) (f:Nat→A1P),(∀ j,j<l.length→l[j]? =ops[k+j]?)→k+l.length=m→
  B0B cx lev ops.toList m σ0 HD l k (A2h ops f k) (A0q ops f (fun _=>true) σ0 k) K=some r→
  ∃g:Nat→A1P,(∀ i,i<k→g i=f i)∧(∀ j o,k≤j→j<m→ops[j]? =some o→A4e cx R lev ops m σ0 HD g j o)∧K (A0q ops g (fun _=>true) σ0 m)=some r
 | [],k,f,hl,hk,hp=>by
  have hk:k=m:=by simpa using hk
  subst hk
  exact⟨f,fun _ _=>rfl,fun j o h1 h2=>by omega,hp⟩
 |o::l,k,f,hl,hk,hp=>by
  simp only[List.length_cons]at hk hl
  have h0:ops[k]? =some o:=by have:=hl 0 (by omega); simpa using this.symm
  simp only[B0B]at hp
  obtain⟨tv,D,A,W,k1,k2⟩:=B1H hp
  obtain⟨k3,k4⟩:=A0a k1
  rw[Bool.and_eq_true]at k3
  let f1:Nat→A1P:=fun i=>if i=k then(tv,D,A,W)else f i
  have hf1:∀i,i<k→f1 i=f i:=fun i hi=>by simp[f1,show i≠k by omega]
  have hk1:f1 k=(tv,D,A,W):=by simp[f1]
  have em:A2h ops f1 (k+1)=(o.dst,tv.ids,A)::A2h ops f k:=by simp only[A2h,h0,hk1,A2v k hf1]
  have ec:A0q ops f1 (fun _=>true) σ0 (k+1)=(((A0q ops f (fun _=>true) σ0 k).eff D A).wr W).put o.dst tv:=by
   simp only[A0q,h0,hk1,cond_true,A3P]
   rw[A0X (L':=fun _=>true) k hf1 (fun _ _=>rfl)]
  have hrun:A4e cx R lev ops m σ0 HD f1 k o:=by
   refine⟨fun τ K' H hev=> ?_,?_,?_⟩
   ·rw [A2v k hf1,A0X (L':=fun _=>true) k hf1 (fun _ _=>rfl),hk1]at H
    rw[A0X (L':=fun _=>true) k hf1 (fun _ _=>rfl)]at hev
    rw[hk1]
    exact k2 τ K' H hev
   ·rw [A2v k hf1,A0X (L':=fun _=>true) k hf1 (fun _ _=>rfl),hk1]; exact k3.1
   ·rw [A2v k hf1,A0X (L':=fun _=>true) k hf1 (fun _ _=>rfl),hk1]; exact k3.2
  obtain⟨g,g1,g2,g3⟩:=A8Y (m:=m) (σ0:=σ0) (HD:=HD) (K:=K) l (k+1) f1 (fun j (hj:j<l.length)=>by have:=hl (j+1) (by omega); simpa[Nat.add_assoc,Nat.add_comm 1 j]using this) (by omega) (by rw[em,ec]; exact k4)
  refine⟨g,fun i hi=>(g1 i (by omega)).trans (hf1 i hi),fun j oj hj hjm hoj=> ?_,g3⟩
  by_cases e:j=k
  ·subst e
   rw[h0]at hoj; injection hoj with hoj; subst hoj
   exact hrun.congr fun i hi=>(g1 i (by omega)).symm
  ·exact g2 j oj (by omega) hjm hoj
theorem A3U:∀(H:A0m) (x:Nat),x∈A0f H↔(A0b H x).isSome=true
 | [],x=>by simp[A0f,A0b]
 |(i,b)::H,x=>by
  simp only[A0f,List.mem_cons,A0b]
  by_cases e:i=x
  ·subst e; simp
  ·simp only[A0c e,cond,A3U H x]
   simp[Ne.symm e]
theorem A1X{H:A0m}{x:Nat}(h:x∉A0f H):A0b H x=none:=by
 cases hg:A0b H x with
 |none=>rfl
 |some b=>exact absurd ((A3U H x).2 (by simp[hg])) h
theorem A0J{l:List Nat}{x:Nat}:l.any (Nat.beq x)=true↔x∈l:=by
 rw[List.any_eq_true]
 constructor
 ·rintro ⟨y,hy,he⟩; rw[A0j.1 he]; exact hy
 ·intro h; exact⟨x,h,Nat.beq_refl x⟩
theorem A3J:∀(H:A0m) (i:Nat) (b:Blk),A0b H i=some b→∀x∈b.ids,x∈A1f H
 | [],i,b,h,x,_=>by simp[A0b]at h
 |(k,c)::H,i,b,h,x,hx=>by
  simp only[A1f,List.mem_append]
  simp only[A0b]at h
  by_cases e:k=i
  ·simp only[A0j.2 e,cond,Option.some.injEq]at h; subst h; exact .inl hx
  ·simp only[A0c e,cond]at h; exact .inr (A3J H i b h x hx)
theorem A6T:∀(l m:List Nat) (v:TV),A0k m (A0k l v)=A0k (l++m) v
 | [],_,_=>rfl
 |i::l,m,v=>by simp only[List.cons_append,A0k]; exact A6T l m _
theorem A5a{l:List Nat}{b:Blk}(h:∀x∈l,x∉b.ids):Blk.mapc (A0k l) b=b:=by
 cases b with
 |var t c=>simp only[Blk.mapc]; rw[A1y l c h]
 |_=>rfl
theorem A2Q{d:Option Tmp}{l:List Nat}:A3X d l=true↔∃t,d=some t∧t∈l:=by
 cases d with
 |none=>simp[A3X]
 |some t=>simp[A3X,A0J]
theorem A8e{L:List Oper}{m k:Nat}{d:Option Tmp}:∀(i:Nat) (l:List Oper),B1b L m k d i l=true→∀(j:Nat) q,l[j]? =some q→i+j<m→i+j≠k→A3X d (A0D L q)=false
 |i,[],_,j,q,h,_,_=>by simp at h
 |i,p::l,h,j,q,hj,hm,hk=>by
  simp only[B1b,Bool.and_eq_true]at h
  obtain⟨h1,h2⟩:=h
  cases j with
  |zero=>
   simp only[List.getElem?_cons_zero,Option.some.injEq]at hj
   subst hj
   have e1:Nat.beq i k=false:=A0c (by simpa using hk)
   have e2:Nat.ble m i=false:=by
    cases hb:Nat.ble m i with
    |false=>rfl
    |true=>have:=Nat.le_of_ble_eq_true hb; omega
   simpa[e1,e2]using h1
  |succ j=>
   simp only[List.getElem?_cons_succ]at hj
   exact A8e (i+1) l h2 j q hj (by omega) (by omega)
theorem A2w{f:Nat→A1P}:∀k,∀q∈A2h ops f k,∃i o,i<k∧ops[i]? =some o∧q=(o.dst,(f i).1.ids,(f i).2.2.1)
 |0,q,h=>by simp[A2h]at h
 |k+1,q,h=>by
  simp only[A2h]at h
  split at h
  ·rename_i o ho
   rcases List.mem_cons.1 h with h|h
   ·exact ⟨k,o,by omega,ho,h⟩
   ·obtain ⟨i,o',h1,h2,h3⟩:=A2w k q h
    exact⟨i,o',by omega,h2,h3⟩
  ·obtain ⟨i,o',h1,h2,h3⟩:=A2w k q h
   exact⟨i,o',by omega,h2,h3⟩
theorem A7O{f:Nat→A1P}:∀k i o,i<k→ops[i]? =some o→(o.dst,(f i).1.ids,(f i).2.2.1)∈A2h ops f k
 |0,i,o,h,_=>by omega
 |k+1,i,o,h,ho=>by
  simp only[A2h]
  by_cases e:i=k
  ·subst e; simp only[ho]; simp
  ·have:=A7O (f:=f) k i o (by omega) ho
   split
   ·exact List.mem_cons_of_mem _ this
   ·exact this
theorem A3p{l:List Nat}{x:Nat}:∀(made:List A9D),x∈A5t l made→∃q∈made,A3X q.1 l=true∧x∈q.2.1
 | [],h=>by simp[A5t]at h
 |q::made,h=>by
  simp only[A5t]at h
  cases hq:A3X q.1 l with
  |false=>
   rw[hq,cond_false]at h
   obtain⟨p,h1,h2⟩:=A3p made h
   exact⟨p,by simp[h1],h2⟩
  |true=>
   rw[hq,cond_true]at h
   rcases List.mem_append.1 h with h|h
   ·exact ⟨q,by simp,hq,h⟩
   ·obtain ⟨p,h1,h2⟩:=A3p made h
    exact⟨p,by simp[h1],h2⟩
theorem A1Y{c:List Nat}:∀(H:A0m) (x:Nat) (b:Blk),A0b (A2J c H) x=some b→A0b H x=some b∧x∈c
 | [],x,b,h=>by simp[A2J,A0b]at h
 |(i,b')::H,x,b,h=>by
  simp only[A2J]at h
  by_cases e:i=x
  ·subst e
   cases hc:c.any (Nat.beq i)with
   |true=>
    rw[hc,cond_true]at h
    simp only[A0b,Nat.beq_refl,cond]at h⊢
    exact⟨h,A0J.1 hc⟩
   |false=>
    rw[hc,cond_false]at h
    have:=(A1Y H i b h).2
    rw[A0J.2 this]at hc; cases hc
  ·cases hc:c.any (Nat.beq i)with
   |true=>
    rw[hc,cond_true]at h
    simp only[A0b,A0c e,cond]at h⊢
    exact A1Y H x b h
   |false=>
    rw[hc,cond_false]at h
    simp only[A0b,A0c e,cond]
    exact A1Y H x b h
structure B4Z (σ0:St) (HD:Hid):Prop where
 uniq:∀d i j,(d,i)∈HD.T→(d,j)∈HD.T→i=j
 old:∀d i,(d,i)∈HD.T→∃b,A0b σ0.heap d=some b∧b.ids=[]
 offW:∀d i,(d,i)∈HD.T→d∉HD.W
 nW:∀x∈HD.N,x∉HD.W
 nT:∀x∈HD.N,∀i,(x,i)∉HD.T
 nE:HD.T=[]→HD.N=[]
 names:∀d i,(d,i)∈HD.T→∀x b,A0b σ0.heap x=some b→d∈b.ids→x∈HD.N
structure A3Q (cx:Cx) (ops:Array Oper) (m:Nat) (σ0:St) (HD:Hid) (f:Nat→A1P):Prop where
 fresh:∀k o,k<m→ops[k]? =some o→∀x∈A0f (f k).2.2.1,A0b σ0.heap x=none∧x≠PIN∧σ0.names x=false
 apart:∀i k oi ok,i<m→k<m→ops[i]? =some oi→ops[k]? =some ok→∀x,x∈A0f (f i).2.2.1→x∈A0f (f k).2.2.1→i=k
 gone:∀k o,k<m→ops[k]? =some o→∀d∈(f k).2.1,(d,k)∈HD.T∨∃i oi s,i<k∧ops[i]? =some oi∧d∈A0f (f i).2.2.1∧oi.dst=some s∧s∈A0D ops.toList o∧∀q oq,q<m→q≠k→ops[q]? =some oq→s∉A0D ops.toList oq
 ids:∀k o,k<m→ops[k]? =some o→∀x∈(f k).1.ids,x∈A0f (f k).2.2.1∨(A0b σ0.heap x).isSome=true∨(x∉(f k).2.1∧∃i oi s,i<k∧ops[i]? =some oi∧x∈(f i).1.ids∧oi.dst=some s∧s∈A0D ops.toList o)
 conts:∀k o,k<m→ops[k]? =some o→A1f (f k).2.2.1=[]
 goneW:∀k o,k<m→ops[k]? =some o→∀d∈(f k).2.1,d∉HD.W
 wr:∀k o q,k<m→ops[k]? =some o→(f k).2.2.2=some q→A1D cx o.op=true∧(f k).2.1=[]∧A0f (f k).2.2.1=[]∧q.1∈HD.W∧((A0b σ0.heap q.1).isSome=true∨∃p op s,p<k∧ops[p]? =some op∧q.1∈(f p).1.ids∧op.dst=some s∧s∈A0D ops.toList o)∧∀x∈q.2.ids,(A0b σ0.heap x).isSome=true∨(∃ p op s,p<k∧ops[p]? =some op∧x∈(f p).1.ids∧op.dst=some s∧s∈A0D ops.toList o)∨x∈A3f (A0q ops f (fun _=>true) σ0 k).heap q.1
 hid:∀k o,k<m→ops[k]? =some o→B4Z σ0 HD
 idsT:∀k o,k<m→ops[k]? =some o→∀x n,(x,n)∈HD.T→x∈(f k).1.ids→A2l ops.toList n k=true
 looksT:∀k o,k<m→ops[k]? =some o→∀t∈A0D ops.toList o,∀x n,(x,n)∈HD.T→n≠k→(x∈(σ0.env.getD t .dead).ids∨∃p op,p<k∧ops[p]? =some op∧op.dst=some t∧x∈(f p).1.ids)→A2l ops.toList n k=true
 loadT:∀k o,k<m→ops[k]? =some o→A4N o.op=true→HD.T≠ []→(f k).1.noBad=true∨∀i∈A8x (A0q ops f (fun _=>true) σ0 k) o,i∉HD.N
 wrT:∀k o q,k<m→ops[k]? =some o→(f k).2.2.2=some q→∀x n,(x,n)∈HD.T→x∉q.2.ids
theorem A6p:∀(l:List Nat),A7f l=true→∀i j:Nat,i<j→∀x,l[i]? =some x→l[j]? ≠some x
 | [],_,i,j,_,x,h=>by simp at h
 |y::l,h,i,j,hij,x,hi=>by
  simp only[A7f,Bool.and_eq_true,Bool.not_eq_true']at h
  obtain⟨h1,h2⟩:=h
  cases j with
  |zero=>omega
  |succ j=>
   cases i with
   |zero=>
    simp only[List.getElem?_cons_zero,Option.some.injEq]at hi
    subst hi
    simp only[List.getElem?_cons_succ]
    intro hj
    rw[A0J.2 (List.mem_of_getElem? hj)]at h1
    cases h1
   |succ i=>
    simp only[List.getElem?_cons_succ]at hi⊢
    exact A6p l h2 i j (by omega) x hi
theorem A3n{L:List Oper}{n k:Nat}(h:A2l L n k=true):∃o,L[n]? =some o∧A0K o k=true:=by
 unfold A2l at h
 split at h
 ·rename_i o ho; exact⟨o,ho,h⟩
 ·cases h
theorem B2j{T:List (Nat×Nat)}{i:Nat}:inT T i=true↔∃n,(i,n)∈T:=by
 unfold inT
 rw[List.any_eq_true]
 constructor
 ·rintro ⟨q,hq,he⟩; exact⟨q.2,by rw[← A0j.1 he]; exact hq⟩
 ·rintro ⟨n,hn⟩; exact⟨_,hn,Nat.beq_refl _⟩
theorem B0D:∀(H:A0m) (x:Nat) (b:Blk),A0b H x=some b→(x,b)∈H
 | [],x,b,h=>by simp[A0b]at h
 |(i,c)::H,x,b,h=>by
  simp only[A0b]at h
  by_cases e:i=x
  ·subst e; simp only[Nat.beq_refl,cond,Option.some.injEq]at h; subst h; simp
  ·simp only[A0c e,cond]at h; exact List.mem_cons_of_mem _ (B0D H x b h)
theorem B4F{σ0:St}{HD:Hid}(h:B3K σ0 HD=true):B4Z σ0 HD:=by
 unfold B3K at h
 rw[Bool.or_eq_true]at h
 rcases h with h|h
 ·simp only[Bool.and_eq_true,List.isEmpty_iff]at h
  obtain⟨h,hn⟩:=h
  refine⟨fun d i j hd=> ?_,fun d i hd=> ?_,fun d i hd=> ?_,fun x hx=> ?_,fun x hx=> ?_,fun _=>hn,fun d i hd=> ?_⟩<;>first|(rw [h]at hd; simp at hd)|(rw [hn]at hx; simp at hx)
 ·simp only[Bool.and_eq_true]at h
  obtain⟨⟨⟨⟨⟨he,h1⟩,h0⟩,h2⟩,h3⟩,h4⟩:=h
  have each:∀d i,(d,i)∈HD.T→d∉HD.W∧∃b,A0b σ0.heap d=some b∧b.ids=[]:=fun d i hd=>by
   have:=List.all_eq_true.1 h2 _ hd
   simp only[Bool.and_eq_true,Bool.not_eq_true']at this
   obtain⟨⟨_,k2⟩,k3⟩:=this
   refine⟨fun hw=>(by rw[A0J.2 hw]at k2; cases k2),?_⟩
   split at k3
   ·cases k3
   ·rename_i b hnv hb
    refine⟨b,hb,?_⟩
    cases b with
    |var t c=>exact absurd rfl (hnv t c)
    |_=>rfl
   ·cases k3
  refine⟨fun d i j hi hj=> ?_,fun d i hd=>(each d i hd).2,fun d i hd=>(each d i hd).1,fun x hx hw=> ?_,fun x hx i hi=> ?_,fun hT=> ?_,fun d i hd x b hb hdb=> ?_⟩
  ·obtain ⟨a,ha⟩:=List.getElem?_of_mem hi
   obtain⟨b,hb⟩:=List.getElem?_of_mem hj
   have ha':(HD.T.map (·.1))[a]? =some d:=by rw[List.getElem?_map,ha]; rfl
   have hb':(HD.T.map (·.1))[b]? =some d:=by rw[List.getElem?_map,hb]; rfl
   rcases Nat.lt_trichotomy a b with q|q|q
   ·exact absurd hb' (A6p _ h1 a b q d ha')
   ·subst q; rw[ha]at hb; simpa using hb
   ·exact absurd ha' (A6p _ h1 b a q d hb')
  ·have:=List.all_eq_true.1 h3 x hx
   rw[A0J.2 hw]at this; cases this
  ·have:=List.all_eq_true.1 h0 x hx
   rw[B2j.2 ⟨i,hi⟩]at this; cases this
  ·rw [hT]at he; simp at he
  ·have:=List.all_eq_true.1 h4 (x,b) (B0D _ _ _ hb)
   simp only[Bool.or_eq_true,Bool.not_eq_true']at this
   rcases this with q|q
   ·have:A9Z HD.T b.ids=true:=by
     unfold A9Z
     exact List.any_eq_true.2 ⟨d,hdb,List.any_eq_true.2 ⟨_,hd,Nat.beq_refl _⟩⟩
    rw[this]at q; cases q
   ·exact A0J.1 q
theorem B3C{m:Nat}{σ0:St}{HD:Hid}{f:Nat→A1P}(H:∀k o,k<m→ops[k]? =some o→A4e cx R lev ops m σ0 HD f k o):A3Q cx ops m σ0 HD f:=by
 have spec:∀k o,k<m→ops[k]? =some o→(∀ x∈A0f (f k).2.2.1,A0b σ0.heap x=none∧x≠PIN∧σ0.names x=false∧∀i oi,i<k→ops[i]? =some oi→x∉A0f (f i).2.2.1)∧
   (∀ d∈(f k).2.1,(d,k)∈HD.T∨(d∉HD.W∧∃q∈A2h ops f k,d∈A0f q.2.2∧A3X q.1 (A0D ops.toList o)=true∧B1b ops.toList m k q.1 0 ops.toList=true))∧
   (∀ x∈(f k).1.ids,x∈A0f (f k).2.2.1∨(A0b σ0.heap x).isSome=true∨(x∉(f k).2.1∧∃i oi s,i<k∧ops[i]? =some oi∧x∈(f i).1.ids∧oi.dst=some s∧s∈A0D ops.toList o))∧A1f (f k).2.2.1=[]∧(∀ q,(f k).2.2.2=some q→A1D cx o.op=true∧(f k).2.1=[]∧A0f (f k).2.2.1=[]∧q.1∈HD.W∧((A0b σ0.heap q.1).isSome=true∨∃p op s,p<k∧ops[p]? =some op∧q.1∈(f p).1.ids∧op.dst=some s∧s∈A0D ops.toList o)∧∀x∈q.2.ids,(A0b σ0.heap x).isSome=true∨(∃ p op s,p<k∧ops[p]? =some op∧x∈(f p).1.ids∧op.dst=some s∧s∈A0D ops.toList o)∨x∈A3f (A0q ops f (fun _=>true) σ0 k).heap q.1):=by
  intro k o hk ho
  have:=(H k o hk ho).ok
  unfold B1B at this
  simp only[Bool.and_eq_true]at this
  obtain⟨⟨⟨⟨⟨_,h1⟩,h2⟩,h3⟩,h4⟩,h5⟩:=this
  refine⟨fun x hx=> ?_,fun d hd=> ?_,fun x hx=> ?_,List.isEmpty_iff.1 h4,fun q hq=> ?_⟩
  ·have:=List.all_eq_true.1 h1 x hx
   simp only[Bool.and_eq_true,Bool.not_eq_true',Option.isNone_iff_eq_none]at this
   obtain⟨⟨⟨k1,k2⟩,k3⟩,k4⟩:=this
   refine⟨k1,fun e=>(by rw[e,Nat.beq_refl]at k2; cases k2),k3,fun i oi hi hoi hxi=> ?_⟩
   rw[List.any_eq_false]at k4
   exact k4 _ (A7O k i oi hi hoi) (A0J.2 hxi)
  ·have h2d:=List.all_eq_true.1 h2 d hd
   rw[Bool.or_eq_true]at h2d
   rcases h2d with h2d|h2d
   ·obtain ⟨q,hq,hb⟩:=List.any_eq_true.1 h2d
    rw[Bool.and_eq_true]at hb
    refine .inl ?_
    rw[← A0j.1 hb.1,←A0j.1 hb.2]; exact hq
   ·rw [Bool.and_eq_true]at h2d
    obtain⟨q,hq,hb⟩:=List.any_eq_true.1 h2d.2
    simp only[Bool.and_eq_true]at hb
    exact .inr ⟨fun hw=>(by rw[A0J.2 hw]at h2d; simp at h2d),q,hq,A0J.1 hb.1.1,hb.1.2,hb.2⟩
  ·have:=List.all_eq_true.1 h3 x hx
   simp only[Bool.or_eq_true]at this
   rcases this with(q|q)|q
   ·exact .inl (A0J.1 q)
   ·exact .inr (.inl q)
   ·simp only[Bool.and_eq_true,Bool.not_eq_true']at q
    obtain⟨q1,q2⟩:=q
    obtain⟨p,hp,hb1,hb2⟩:=A3p _ (A0J.1 q2)
    obtain⟨i,oi,hi,hoi,rfl⟩:=A2w k p hp
    obtain⟨s,hs,hm⟩:=A2Q.1 hb1
    exact .inr (.inr ⟨fun hd=>(by rw[A0J.2 hd]at q1; cases q1),i,oi,s,hi,hoi,hb2,hs,hm⟩)
  ·rw [hq]at h5
   simp only[Bool.and_eq_true]at h5
   obtain⟨⟨⟨⟨⟨w1,w2⟩,w3⟩,w4⟩,w6⟩,w5⟩:=h5
   refine⟨w1,List.isEmpty_iff.1 w2,List.isEmpty_iff.1 w3,A0J.1 w4,?_,fun x hx=> ?_⟩
   ·simp only[Bool.or_eq_true]at w6
    refine w6.imp id fun u=> ?_
    obtain⟨p,hp,hb1,hb2⟩:=A3p _ (A0J.1 u)
    obtain⟨i,oi,hi,hoi,rfl⟩:=A2w k p hp
    obtain⟨s,hs,hm⟩:=A2Q.1 hb1
    exact⟨i,oi,s,hi,hoi,hb2,hs,hm⟩
   have:=List.all_eq_true.1 w5 x hx
   simp only[Bool.or_eq_true]at this
   rcases this with(u|u)|u
   ·exact .inl u
   ·obtain ⟨p,hp,hb1,hb2⟩:=A3p _ (A0J.1 u)
    obtain⟨i,oi,hi,hoi,rfl⟩:=A2w k p hp
    obtain⟨s,hs,hm⟩:=A2Q.1 hb1
    exact .inr (.inl ⟨i,oi,s,hi,hoi,hb2,hs,hm⟩)
   ·exact .inr (.inr (A0J.1 u))
 have hh:∀k o,k<m→ops[k]? =some o→B4Z σ0 HD∧((∀ x n,(x,n)∈HD.T→x∈(f k).1.ids→A2l ops.toList n k=true)∧(∀ t∈A0D ops.toList o,∀x n,(x,n)∈HD.T→n≠k→(x∈(σ0.env.getD t .dead).ids∨∃p op,p<k∧ops[p]? =some op∧op.dst=some t∧x∈(f p).1.ids)→A2l ops.toList n k=true)∧(A4N o.op=true→HD.T≠ []→(f k).1.noBad=true∨∀i∈A8x (A0q ops f (fun _=>true) σ0 k) o,i∉HD.N)∧∀q,(f k).2.2.2=some q→∀x n,(x,n)∈HD.T→x∉q.2.ids):=by
  intro k o hk ho
  have:=(H k o hk ho).hid
  unfold B5d at this
  rw[Bool.and_eq_true,Bool.or_eq_true]at this
  obtain⟨h1,h2⟩:=this
  refine⟨B4F h1,?_⟩
  rcases h2 with h2|h2
  ·have h2:=List.isEmpty_iff.1 h2
   rw[h2]
   exact⟨fun x n hx=>by simp at hx,fun t _ x n hx=>by simp at hx,fun _ hx=>absurd rfl hx,fun q _ x n hx=>by simp at hx⟩
  ·simp only[Bool.and_eq_true]at h2
   obtain⟨⟨⟨g1,g2⟩,g3⟩,g4⟩:=h2
   refine⟨fun x n hx hm=> ?_,fun t ht x n hx hn hor=> ?_,fun hl _=> ?_,fun q hq x n hx hm=> ?_⟩
   ·have:=List.all_eq_true.1 (List.all_eq_true.1 g1 x hm) _ hx
    simpa[Nat.beq_refl]using this
   ·have:=List.all_eq_true.1 (List.all_eq_true.1 g2 t ht) _ hx
    simp only[Bool.or_eq_true,Bool.not_eq_true',Bool.or_eq_false_iff]at this
    rcases this with(q|q)|q
    ·exact absurd (A0j.1 q) hn
    ·exact q
    ·exfalso
     rcases hor with hor|⟨p,op,hp,hop,hd,hm⟩
     ·rw [A0J.2 hor]at q; cases q.1
     ·have h3:=List.any_eq_false.1 q.2 _ (A7O k p op hp hop)
      apply h3
      rw[Bool.and_eq_true]
      exact⟨A2Q.2 ⟨t,hd,by simp⟩,A0J.2 hm⟩
   ·rw [hl]at g3
    simp only[Bool.not_true,Bool.false_or,Bool.or_eq_true]at g3
    refine g3.imp id fun g i hi hn=> ?_
    have:=List.all_eq_true.1 g i hi
    rw[A0J.2 hn]at this; cases this
   ·rw [hq]at g4
    have:=List.all_eq_true.1 g4 x hm
    rw[B2j.2 ⟨n,hx⟩]at this; cases this
 refine⟨fun k o hk ho x hx=> ?_,fun i k oi ok hi hk hoi hok x hxi hxk=> ?_,fun k o hk ho d hd=> ?_,fun k o hk ho=>(spec k o hk ho).2.2.1,fun k o hk ho=>(spec k o hk ho).2.2.2.1,fun k o hk ho d hd=> ?_,fun k o q hk ho=>(spec k o hk ho).2.2.2.2 q,fun k o hk ho=>(hh k o hk ho).1,fun k o hk ho=>(hh k o hk ho).2.1,fun k o hk ho=>(hh k o hk ho).2.2.1,fun k o hk ho=>(hh k o hk ho).2.2.2.1,fun k o q hk ho=>(hh k o hk ho).2.2.2.2 q⟩
 ·obtain ⟨h1,h2,h3,_⟩:=(spec k o hk ho).1 x hx; exact⟨h1,h2,h3⟩
 ·rcases Nat.lt_trichotomy i k with h|h|h
  ·exact absurd hxi (((spec k ok hk hok).1 x hxk).2.2.2 i oi h hoi)
  ·exact h
  ·exact absurd hxk (((spec i oi hi hoi).1 x hxi).2.2.2 k ok h hok)
 ·rcases (spec k o hk ho).2.1 d hd with h0|⟨_,q,hq,h1,h2,h3⟩
  ·exact .inl h0
  ·obtain ⟨i,oi,hi,hoi,rfl⟩:=A2w k q hq
   obtain⟨s,hs,hm⟩:=A2Q.1 h2
   refine .inr ⟨i,oi,s,hi,hoi,h1,hs,hm,fun q oq hq hqk hoq hsq=> ?_⟩
   have:=A8e 0 ops.toList h3 q oq (by simpa using hoq) (by omega) (by omega)
   rw[A2Q.2 ⟨s,hs,hsq⟩]at this
   cases this
 ·rcases (spec k o hk ho).2.1 d hd with h0|⟨h0,_⟩
  ·exact ((hh k o hk ho).1).offW d k h0
  ·exact h0
theorem A2s{m:Nat}{σ0:St}{HD:Hid}{f:Nat→A1P}(F:A3Q cx ops m σ0 HD f)(S:A3q cx ops m){L:Nat→Bool}(hL:∀p op q,p<m→L p=true→ops[p]? =some op→A0K op q=true→L q=true){i:Nat}{oi:Oper}(hi:i<m)(hoi:ops[i]? =some oi){x:Nat}(hx:x∈A0f (f i).2.2.1):
  ∀p op,p<m→ops[p]? =some op→x∈(f p).1.ids→i≤p∧(L p=true→L i=true):=by
 intro p
 induction p using Nat.strongRecOn with
 |_ p ih=>
  intro op hp hop hxp
  rcases F.ids p op hp hop x hxp with q|q|⟨q,j,oj,s,g1,g2,g3,g4,g5⟩
  ·have:=F.apart i p oi op hi hp hoi hop x hx q
   subst this; exact⟨Nat.le_refl _,id⟩
  ·rw [(F.fresh i oi hi hoi x hx).1]at q; cases q
  ·obtain ⟨h1,h2⟩:=ih j g1 oj (by omega) g2 g3
   refine⟨by omega,fun hLp=>h2 ?_⟩
   refine hL p op j hp hLp hop ?_
   rcases S.apart j oj p op g2 (by omega) hop g1 with u|u
   ·exact u
   ·exact absurd g5 ((A0W u).1 s g4)
theorem A2m{m:Nat}{σ0:St}{HD:Hid}{f:Nat→A1P}(F:A3Q cx ops m σ0 HD f){i n:Nat}{oi on:Oper}(hi:i<m)(hn:n<m)(hoi:ops[i]? =some oi)(hon:ops[n]? =some on){x s:Nat}(hx:x∈A0f (f i).2.2.1)(hd:x∈(f n).2.1)(hs:oi.dst=some s)
  (hsole:∀q oq,q<m→q≠n→ops[q]? =some oq→s∉A0D ops.toList oq):∀p op,p<m→ops[p]? =some op→x∈(f p).1.ids→p=i:=by
 intro p
 induction p using Nat.strongRecOn with
 |_ p ih=>
  intro op hp hop hxp
  rcases F.ids p op hp hop x hxp with q|q|⟨q,j,oj,s',g1,g2,g3,g4,g5⟩
  ·exact (F.apart i p oi op hi hp hoi hop x hx q).symm
  ·rw [(F.fresh i oi hi hoi x hx).1]at q; cases q
  ·have:=ih j g1 oj (by omega) g2 g3
   subst this
   rw[hoi]at g2; injection g2 with g2; subst g2
   rw[hs]at g4; injection g4 with g4; subst g4
   by_cases e:p=n
   ·subst e; exact absurd hd q
   ·exact absurd g5 (hsole p op hp e hop)
theorem B3B(l:List Nat)(σ:St)(t:Nat):(σ.killL l).env.getD t .dead=A0k l (σ.env.getD t .dead):=by
 rw[A2u]
 have hd:A0k l .dead= .dead:=A1y l .dead (by simp[TV.ids])
 simp only[List.getD,List.getElem?_map]
 cases σ.env[t]? with
 |none=>simp[hd]
 |some v=>rfl
theorem B4B(σ:St)(d:Option Tmp)(tv:TV)(t:Nat):(σ.put d tv).env.getD t .dead=if d=some t∧t<σ.env.length then tv else σ.env.getD t .dead:=by
 cases d with
 |none=>simp[St.put]
 |some s=>
  simp only[St.put,List.getD,List.getElem?_set,Option.some.injEq]
  by_cases e:s=t
  ·subst e
   by_cases hl:s<σ.env.length
   ·simp [hl]
   ·simp [hl]
  ·simp [e]
theorem B4N(σ:St)(d:Option Tmp)(tv:TV):(σ.put d tv).env.length=σ.env.length:=by cases d<;>simp[St.put]
theorem B3w(o:Oper)(x:A1P)(σ:St):(A3P o x σ).env.length=σ.env.length:=by
 unfold A3P
 rw[B4N]
 simp[St.wr,St.eff,A2u]
theorem A5b{f:Nat→A1P}{L:Nat→Bool}{σ0:St}:∀k,(A0q ops f L σ0 k).env.length=σ0.env.length
 |0=>rfl
 |k+1=>by
  simp only[A0q]
  split
  ·cases L k
   ·exact A5b k
   ·simp only[cond_true,B3w,A5b k]
  ·exact A5b k
theorem B0o(o:Oper)(x:A1P)(σ:St)(t:Nat):(A3P o x σ).env.getD t .dead=if o.dst=some t∧t<σ.env.length then x.1 else A0k (x.2.1++A0f x.2.2.1) (σ.env.getD t .dead):=by
 unfold A3P
 rw[B4B]
 have e:((σ.eff x.2.1 x.2.2.1).wr x.2.2.2).env=(σ.killL (x.2.1++A0f x.2.2.1)).env:=rfl
 rw[e,B3B]
 simp[A2u]
def wrG(W:Option (Nat×Blk))(y:Nat)(z:Option Blk):Option Blk:=match W with
 |none=>z
 |some q=>if y=q.1 then z.map (fun _=>q.2)else z
theorem A4A{W:Option (Nat×Blk)}{y:Nat}(z:Option Blk)(h:∀q,W=some q→y≠q.1):wrG W y z=z:=by
 cases W with
 |none=>rfl
 |some q=>simp[wrG,h q rfl]
theorem A1H(o:Oper)(x:A1P)(σ:St)(y:Nat):A0b (A3P o x σ).heap y=wrG x.2.2.2 y ((A0b x.2.2.1 y).or (if y∈x.2.1++A0f x.2.2.1 then none else(A0b σ.heap y).map (Blk.mapc (A0k (x.2.1++A0f x.2.2.1))))):=by
 unfold A3P
 rw[B4f]
 have e:(σ.eff x.2.1 x.2.2.1).heap=apH x.2.2.1 (σ.killL (x.2.1++A0f x.2.2.1)).heap:=rfl
 have e2:((σ.eff x.2.1 x.2.2.1).wr x.2.2.2).heap=wrH (σ.eff x.2.1 x.2.2.1).heap x.2.2.2:=rfl
 rw[e2]
 cases x.2.2.2 with
 |none=>simp only[wrH,wrG]; rw[e,A2A,A1L]
 |some q=>
  simp only[wrH,wrG]
  rw[A2Z]
  by_cases hy:y=q.1
  ·rw [if_pos hy,if_pos hy,e,A2A,A1L,hy]
  ·rw [if_neg hy,if_neg hy,e,A2A,A1L]
theorem A7n(o:Oper)(x:A1P)(σ:St):(A3P o x σ).stk=σ.stk.map (·.map (A0k (x.2.1++A0f x.2.2.1))):=by
 unfold A3P
 have e:∀(τ:St) d v,(τ.put d v).stk=τ.stk:=fun τ d v=>by cases d<;>rfl
 rw[e]
 exact A3V _ σ
theorem A9l{σ:St}{x:Nat}(h:σ.names x=false)(t:Nat):x∉(σ.env.getD t .dead).ids:=by
 intro hx
 unfold St.names at h
 simp only[Bool.or_eq_false_iff]at h
 rcases Nat.lt_or_ge t σ.env.length with hl|hl
 ·have:=List.any_eq_false.1 h.1.1 σ.env[t] (List.getElem_mem hl)
  simp only[List.getD,List.getElem?_eq_getElem hl,Option.getD_some]at hx
  exact this (A0J.2 hx)
 ·simp [List.getD,List.getElem?_eq_none hl,TV.ids]at hx
theorem A5E{σ:St}{x:Nat}(h:σ.names x=false):x∉A1f σ.heap:=by
 unfold St.names at h
 simp only[Bool.or_eq_false_iff]at h
 intro hx
 rw[A0J.2 hx]at h
 exact absurd h.2 (by simp)
theorem A6K{m:Nat}(S:A3q cx ops m){σ0:St}{HD:Hid}{f:Nat→A1P}(F:A3Q cx ops m σ0 HD f){k:Nat}{ok:Oper}(hk:k<m)(hok:ops[k]? =some ok){L L':Nat→Bool}(hL:∀p op q,p<m→L p=true→ops[p]? =some op→A0K op q=true→L q=true)
  (hd:∀i oi,i<m→ops[i]? =some oi→L i≠L' i→i≠k∧∀s,oi.dst=some s→s∉A0D ops.toList ok)
  (hw:∀i oi,i<m→ops[i]? =some oi→L i≠L' i→A0K oi k=false)
  (hlt:∀p op t,p<m→L p=true→ops[p]? =some op→op.dst=some t→t∈A0D ops.toList ok→p<k)
  (hq:∀p op t i,p<m→L p=true→ops[p]? =some op→op.dst=some t→t∈A0D ops.toList ok→i≤p→L i=true→L' i=true):∀n,n≤m→∀t∈A0D ops.toList ok,
  (A0q ops f L σ0 n).env.getD t .dead=(A0q ops f L' σ0 n).env.getD t .dead∧∀x∈((A0q ops f L σ0 n).env.getD t .dead).ids,x∈(σ0.env.getD t .dead).ids∨
   ∃p op,p<m∧L p=true∧ops[p]? =some op∧op.dst=some t∧x∈(f p).1.ids
 |0,_,t,ht=>⟨rfl,fun x hx=> .inl hx⟩
 |n+1,hn,t,ht=>by
  obtain⟨h1,h2⟩:=A6K S F hk hok hL hd hw hlt hq n (by omega) t ht
  have made:∀x∈((A0q ops f L σ0 n).env.getD t .dead).ids,∀i oi,i<m→ops[i]? =some oi→x∈A0f (f i).2.2.1→∃p op,p<m∧L p=true∧ops[p]? =some op∧op.dst=some t∧x∈(f p).1.ids:=fun x hx i oi hi hoi hxi=>(h2 x hx).resolve_left fun hx=>A9l (F.fresh i oi hi hoi x hxi).2.2 t hx
  simp only[A0q]
  cases ho:ops[n]? with
  |none=>exact⟨h1,h2⟩
  |some o=>
   simp only
   have same:L n≠L' n→∀Z:Nat→Bool,(A0q ops f Z σ0 n).env.getD t .dead=(A0q ops f L σ0 n).env.getD t .dead→(A3P o (f n) (A0q ops f Z σ0 n)).env.getD t .dead=(A0q ops f L σ0 n).env.getD t .dead:=by
    intro hne Z hZ
    obtain⟨q1,q2⟩:=hd n o (by omega) ho hne
    rw[B0o,if_neg (fun h=>q2 t h.1 ht),hZ]
    refine A1y _ _ fun x hx hxi=> ?_
    rcases List.mem_append.1 hx with hx|hx
    ·rcases F.gone n o (by omega) ho x hx with hT|⟨i,oi,s,g1,g2,g3,g4,g5,g6⟩
     ·have:=F.looksT k ok hk hok t ht x n hT q1 ((h2 x hxi).imp id fun⟨p,op,p1,p2,p3,p4,p5⟩=>⟨p,op,hlt p op t p1 p2 p3 p4 ht,p3,p4,p5⟩)
      obtain⟨o2,w1,w2⟩:=A3n this
      have w1:ops[n]? =some o2:=by simpa using w1
      rw[ho]at w1; injection w1 with w1; subst w1
      rw[hw n o (by omega) ho hne]at w2; cases w2
     ·obtain ⟨p,op,p1,p2,p3,p4,p5⟩:=made x hxi i oi (by omega) g2 g3
      have:=A2m F (by omega) (by omega) g2 ho g3 hx g4 g6 p op p1 p3 p5
      subst this
      rw[g2]at p3; injection p3 with p3; subst p3
      rw[g4]at p4; injection p4 with p4; subst p4
      exact g6 k ok hk (Ne.symm q1) hok ht
    ·obtain ⟨p,op,p1,p2,p3,p4,p5⟩:=made x hxi n o (by omega) ho hx
     obtain⟨c1,c2⟩:=A2s F S hL (by omega) ho hx p op p1 p3 p5
     have e1:=c2 p2
     have e2:=hq p op t n p1 p2 p3 p4 ht c1 e1
     exact hne (e1.trans e2.symm)
   cases hLn:L n with
   |true=>
    cases hL':L' n with
    |true=>
     simp only[cond_true,B0o,A5b,h1]
     refine⟨trivial,fun x hx=> ?_⟩
     split at hx
     ·rename_i hc
      exact .inr ⟨n,o,by omega,hLn,ho,hc.1,hx⟩
     ·rw [← h1]at hx
      exact h2 x (A3K _ _ hx).1
    |false=>
     have e:=same (by rw[hLn,hL']; simp) L rfl
     simp only[cond_true,cond_false,e]
     exact⟨h1,h2⟩
   |false=>
    cases hL':L' n with
    |true=>
     have e:=same (by rw[hLn,hL']; simp) L' h1.symm
     simp only[cond_true,cond_false,e]
     exact⟨trivial,h2⟩
    |false=>exact⟨h1,h2⟩
theorem A8I{m:Nat}{σ0:St}{HD:Hid}{f:Nat→A1P}(F:A3Q cx ops m σ0 HD f){L:Nat→Bool}{x:Nat}{b:Blk}(hxw:x∉HD.W)(hxT:∀n,(x,n)∉HD.T)(hxN:x∉HD.N)(hx:A0b σ0.heap x=some b):∀n,n≤m→A0b (A0q ops f L σ0 n).heap x=some b
 |0,_=>hx
 |n+1,hn=>by
  have ih:=A8I F (L:=L) hxw hxT hxN hx n (by omega)
  simp only[A0q]
  cases ho:ops[n]? with
  |none=>exact ih
  |some o=>
   cases hL:L n with
   |false=>exact ih
   |true=>
    simp only[cond_true,A1H]
    rw[A4A _ (y:=x) (fun q hq e=>hxw (by rw[e]; exact(F.wr n o q (by omega) ho hq).2.2.2.1))]
    have new:∀i oi,i<m→ops[i]? =some oi→x∉A0f (f i).2.2.1:=fun i oi hi hoi hm=>by
     have:=(F.fresh i oi hi hoi x hm).1; rw[hx]at this; cases this
    have hd:x∉(f n).2.1:=fun hm=>by
     rcases F.gone n o (by omega) ho x hm with hT|⟨i,oi,s,g1,g2,g3,_⟩
     ·exact hxT n hT
     ·exact new i oi (by omega) g2 g3
    have hn':=new n o (by omega) ho
    rw[A1X hn',if_neg (by simp[hd,hn']),ih]
    simp only[Option.map_some,Option.none_or,Option.some.injEq]
    refine A5a fun y hy hyb=> ?_
    have hc:=A3J _ _ _ hx y hyb
    have bad:∀i oi,i<m→ops[i]? =some oi→y∈A0f (f i).2.2.1→False:=fun i oi hi hoi hm=>A5E (F.fresh i oi hi hoi y hm).2.2 hc
    rcases List.mem_append.1 hy with hy|hy
    ·rcases F.gone n o (by omega) ho y hy with hT|⟨i,oi,s,g1,g2,g3,_⟩
     ·exact hxN ((F.hid n o (by omega) ho).names y n hT x b hx hyb)
     ·exact bad i oi (by omega) g2 g3
    ·exact bad n o (by omega) ho hy
theorem A6M{m:Nat}{σ0:St}{HD:Hid}{f:Nat→A1P}(F:A3Q cx ops m σ0 HD f){L:Nat→Bool}{x k:Nat}{b:Blk}(hT:(x,k)∈HD.T)(hLk:L k=false)(hx:A0b σ0.heap x=some b):∀n,n≤m→A0b (A0q ops f L σ0 n).heap x=some b
 |0,_=>hx
 |n+1,hn=>by
  have ih:=A6M F (L:=L) hT hLk hx n (by omega)
  simp only[A0q]
  cases ho:ops[n]? with
  |none=>exact ih
  |some o=>
   cases hL:L n with
   |false=>exact ih
   |true=>
    have hh:=F.hid n o (by omega) ho
    simp only[cond_true,A1H]
    rw[A4A _ (y:=x) (fun q hq e=>hh.offW x k hT (by rw[e]; exact(F.wr n o q (by omega) ho hq).2.2.2.1))]
    have new:∀i oi,i<m→ops[i]? =some oi→x∉A0f (f i).2.2.1:=fun i oi hi hoi hm=>by
     have:=(F.fresh i oi hi hoi x hm).1; rw[hx]at this; cases this
    have hd:x∉(f n).2.1:=fun hm=>by
     rcases F.gone n o (by omega) ho x hm with hT'|⟨i,oi,s,g1,g2,g3,_⟩
     ·have:=hh.uniq x n k hT' hT
      subst this
      rw[hLk]at hL; cases hL
     ·exact new i oi (by omega) g2 g3
    have hn':=new n o (by omega) ho
    rw[A1X hn',if_neg (by simp[hd,hn']),ih]
    simp only[Option.map_some,Option.none_or,Option.some.injEq]
    obtain⟨b',e1,e2⟩:=hh.old x k hT
    rw[hx]at e1; injection e1 with e1; subst e1
    exact A5a fun y hy hyb=>by rw[e2]at hyb; simp at hyb
theorem A6L{m:Nat}{σ0:St}{HD:Hid}{f:Nat→A1P}(F:A3Q cx ops m σ0 HD f){L:Nat→Bool}{x:Nat}{b:Blk}(hxw:x∉HD.W)(hxT:∀n,(x,n)∉HD.T)(hx:A0b σ0.heap x=some b):∀n,n≤m→∃l,A0b (A0q ops f L σ0 n).heap x=some (A3w l b)∧∀y∈l,y∈b.ids→∃k,L k=true∧(y,k)∈HD.T
 |0,_=>⟨[],by cases b<;>exact hx,fun y hy=>by simp at hy⟩
 |n+1,hn=>by
  obtain⟨l,ih1,ih2⟩:=A6L F (L:=L) hxw hxT hx n (by omega)
  simp only[A0q]
  cases ho:ops[n]? with
  |none=>exact⟨l,ih1,ih2⟩
  |some o=>
   cases hL:L n with
   |false=>exact⟨l,ih1,ih2⟩
   |true=>
    simp only[cond_true,A1H]
    rw[A4A _ (y:=x) (fun q hq e=>hxw (by rw[e]; exact(F.wr n o q (by omega) ho hq).2.2.2.1))]
    have new:∀i oi,i<m→ops[i]? =some oi→x∉A0f (f i).2.2.1:=fun i oi hi hoi hm=>by
     have:=(F.fresh i oi hi hoi x hm).1; rw[hx]at this; cases this
    have hd:x∉(f n).2.1:=fun hm=>by
     rcases F.gone n o (by omega) ho x hm with hT|⟨i,oi,s,g1,g2,g3,_⟩
     ·exact hxT n hT
     ·exact new i oi (by omega) g2 g3
    have hn':=new n o (by omega) ho
    rw[A1X hn',if_neg (by simp[hd,hn']),ih1]
    refine⟨l++((f n).2.1++A0f (f n).2.2.1),?_,fun y hy hyb=> ?_⟩
    ·simp only[Option.map_some,Option.none_or,Option.some.injEq]
     cases b with
     |var t c=>simp only[A3w,Blk.mapc,Blk.var.injEq,heq_eq_eq,true_and]; rw[A6T]
     |_=>rfl
    ·have hc:=A3J _ _ _ hx y hyb
     have bad:∀i oi,i<m→ops[i]? =some oi→y∈A0f (f i).2.2.1→False:=fun i oi hi hoi hm=>A5E (F.fresh i oi hi hoi y hm).2.2 hc
     rcases List.mem_append.1 hy with hy|hy
     ·exact ih2 y hy hyb
     ·rcases List.mem_append.1 hy with hy|hy
      ·rcases F.gone n o (by omega) ho y hy with hT|⟨i,oi,s,g1,g2,g3,_⟩
       ·exact ⟨n,hL,hT⟩
       ·exact (bad i oi (by omega) g2 g3).elim
      ·exact (bad n o (by omega) ho hy).elim
theorem A8H{m:Nat}{σ0:St}{HD:Hid}{f:Nat→A1P}(F:A3Q cx ops m σ0 HD f){L:Nat→Bool}{i:Nat}{oi:Oper}(him:i<m)(hoi:ops[i]? =some oi)(hLi:L i=true){x:Nat}{b:Blk}(hxw:x∉HD.W)(hx:A0b (f i).2.2.1 x=some b)
  (hg:∀j oj,j<m→ops[j]? =some oj→L j=true→x∉(f j).2.1):∀n,n≤m→i<n→A0b (A0q ops f L σ0 n).heap x=some b
 |0,_,h=>by omega
 |n+1,hn,hin=>by
  have hxi:x∈A0f (f i).2.2.1:=(A3U _ _).2 (by simp[hx])
  simp only[A0q]
  by_cases e:i=n
  ·subst e
   rw[hoi,hLi]
   simp only[cond_true,A1H]
   rw[A4A _ (y:=x) (fun q hq e=>hxw (by rw[e]; exact(F.wr i oi q him hoi hq).2.2.2.1))]
   simp only[hx,Option.some_or]
  ·have ih:=A8H F him hoi hLi hxw hx hg n (by omega) (by omega)
   cases ho:ops[n]? with
   |none=>exact ih
   |some o=>
    cases hL:L n with
    |false=>exact ih
    |true=>
     simp only[cond_true,A1H]
     rw[A4A _ (y:=x) (fun q hq e=>hxw (by rw[e]; exact(F.wr n o q (by omega) ho hq).2.2.2.1))]
     have hn':x∉A0f (f n).2.2.1:=fun hm=>e (F.apart i n oi o him (by omega) hoi ho x hxi hm)
     rw[A1X hn',if_neg (by simp[hg n o (by omega) ho hL,hn']),ih]
     simp only[Option.map_some,Option.none_or,Option.some.injEq]
     refine A5a fun y hy hyb=> ?_
     have:=A3J _ _ _ hx y hyb
     rw[F.conts i oi him hoi]at this
     simp at this
theorem A6r{c:List Nat}:∀(H:A0m) (x:Nat) (b:Blk),A0b (A9a c H) x=some b→A0b H x=some b∧x∉c
 | [],x,b,h=>by simp[A9a,A0b]at h
 |(i,b')::H,x,b,h=>by
  simp only[A9a]at h
  cases hc:c.any (Nat.beq i)with
  |true=>
   rw[hc,cond_true]at h
   obtain⟨h1,h2⟩:=A6r H x b h
   by_cases e:i=x
   ·subst e; exact absurd (A0J.1 hc) h2
   ·simp only[A0b,A0c e,cond]; exact⟨h1,h2⟩
  |false=>
   rw[hc,cond_false]at h
   by_cases e:i=x
   ·subst e
    simp only[A0b,Nat.beq_refl,cond]at h⊢
    exact⟨h,fun hm=>by rw[A0J.2 hm]at hc; cases hc⟩
   ·simp only[A0b,A0c e,cond]at h⊢
    exact A6r H x b h
theorem B2W(v:Value):(A4R v).ids=[]:=by
 unfold A4R
 split<;>(try simp only[Bool.cond_eq_ite])<;>(try split)<;>simp[TV.ids]
theorem B1n{op:Op}{a:Operand}(h:B0m cx op=some a):A1D cx op=true∧a∈op.operands.toList:=by
 refine⟨by unfold A1D; rw[h]; rfl,?_⟩
 unfold B0m at h
 split at h
 ·cases h; simp[Op.operands]
 ·rename_i f args at'
  split at h
  ·rename_i x l hl
   cases hi:B4V cx f with
   |true=>
    rw[hi]at h
    simp only[cond,Option.some.injEq]at h
    subst h
    have:x∈args.toList:=by rw[hl]; simp
    simp only[Op.operands,Call.operands]
    simp[Array.mem_toList_iff.1 this]
   |false=>rw[hi]at h; simp[cond]at h
  ·cases h
 ·cases h
theorem B1X{σ:St}{o:Oper}{L:List Oper}{x:Nat}(h:x∈B2z cx σ o):A1D cx o.op=true∧((∃ t,t∈A0D L o∧x∈(σ.env.getD t .dead).ids)):=by
 unfold B2z at h
 split at h
 ·rename_i a hop
  obtain⟨h1,h2⟩:=B1n hop
  refine⟨h1,?_⟩
  split at h
  ·rename_i i rt p ha
   simp only[List.mem_singleton]at h
   subst h
   cases a with
   |tmp t=>
    refine⟨t,List.mem_append_left _ (A5K _ t h2),?_⟩
    have:σ.env.getD t .dead= .ptr x rt p:=ha
    rw[this]; simp[TV.ids]
   |const v=>
    have hl:(A4R v).ids=[]:=B2W v
    have ha':A4R v= .ptr x rt p:=ha
    rw[ha']at hl; simp[TV.ids]at hl
   |func f=>simp[St.eval]at ha
   |global g=>simp[St.eval]at ha
  ·simp at h
 ·simp at h
theorem B1h{h0:A0m}{l:List Nat}:∀(made:List A9D) (x:Nat) (b:Blk),A0b (B4s h0 l made) x=some b→A0b h0 x=some b∨(x∈l∧∃q∈made,A0b q.2.2 x=some b)
 | [],x,b,h=> .inl h
 |q::made,x,b,h=>by
  simp only[B4s]at h
  rw[A2A]at h
  cases hg:A0b (A2J l q.2.2) x with
  |some c=>
   rw[hg]at h; simp only[Option.some_or,Option.some.injEq]at h; subst h
   obtain⟨k1,k2⟩:=A1Y _ _ _ hg
   exact .inr ⟨k2,q,by simp,k1⟩
  |none=>
   rw[hg]at h
   exact(B1h made x b (by simpa using h)).imp id fun⟨k,p,h1,h2⟩=>⟨k,p,by simp[h1],h2⟩
theorem A5Q{m:Nat}{σ0:St}{HD:Hid}{f:Nat→A1P}(F:A3Q cx ops m σ0 HD f){x y:Nat}{i:Nat}{oi:Oper}(hi:i<m)(hoi:ops[i]? =some oi)(hy:y∈A0f (f i).2.2.1)(L:Nat→Bool):∀t,t≤m→y∈A3f (A0q ops f L σ0 t).heap x→∃j oj q,j<t∧L j=true∧ops[j]? =some oj∧(f j).2.2.2=some q∧y∈q.2.ids
 |0,_,h=>by
  unfold A3f at h
  split at h
  ·rename_i b hb
   exact absurd (A3J _ _ _ hb y h) (A5E (F.fresh i oi hi hoi y hy).2.2)
  ·simp at h
 |t+1,ht,h=>by
  have ih:=A5Q F (x:=x) hi hoi hy L t (by omega)
  simp only[A0q]at h
  cases ho:ops[t]? with
  |none=>rw[ho]at h; obtain⟨j,oj,q,h1,h2⟩:=ih h; exact⟨j,oj,q,by omega,h2⟩
  |some o=>
   rw[ho]at h
   cases hL:L t with
   |false=>rw[hL]at h; obtain⟨j,oj,q,h1,h2⟩:=ih h; exact⟨j,oj,q,by omega,h2⟩
   |true=>
    simp only[hL,cond_true]at h
    unfold A3f at h
    rw[A1H]at h
    have old:y∈A3f (A0q ops f L σ0 t).heap x→∃j oj q,j<t+1∧L j=true∧ops[j]? =some oj∧(f j).2.2.2=some q∧y∈q.2.ids:=fun h=>by
     obtain⟨j,oj,q,h1,h2⟩:=ih h; exact⟨j,oj,q,by omega,h2⟩
    have base:∀b,(A0b (f t).2.2.1 x).or (if x∈(f t).2.1++A0f (f t).2.2.1 then none else(A0b (A0q ops f L σ0 t).heap x).map (Blk.mapc (A0k ((f t).2.1++A0f (f t).2.2.1))))=some b→y∈b.ids→y∈A3f (A0q ops f L σ0 t).heap x:=fun b hb hyb=>by
     cases hg:A0b (f t).2.2.1 x with
     |some b2=>
      rw[hg]at hb
      simp only[Option.some_or,Option.some.injEq]at hb
      subst hb
      have:=A3J _ _ _ hg y hyb
      rw[F.conts t o (by omega) ho]at this; simp at this
     |none=>
      rw[hg]at hb
      simp only[Option.none_or]at hb
      split at hb
      ·cases hb
      ·unfold A3f
       cases hc:A0b (A0q ops f L σ0 t).heap x with
       |none=>rw[hc]at hb; cases hb
       |some b3=>
        rw[hc]at hb
        simp only[Option.map_some,Option.some.injEq]at hb
        subst hb
        cases b3 with
        |var t2 c=>exact(A3K _ _ hyb).1
        |_=>simp[Blk.mapc,Blk.ids]at hyb
    cases hW:(f t).2.2.2 with
    |none=>
     simp only[hW,wrG]at h
     split at h
     ·rename_i b hb; exact old (base b hb h)
     ·simp at h
    |some q=>
     simp only[hW,wrG]at h
     split at h
     ·rename_i b hb
      split at hb
      ·cases hz:(A0b (f t).2.2.1 x).or (if x∈(f t).2.1++A0f (f t).2.2.1 then none else(A0b (A0q ops f L σ0 t).heap x).map (Blk.mapc (A0k ((f t).2.1++A0f (f t).2.2.1))))with
       |none=>rw[hz]at hb; cases hb
       |some b2=>
        rw[hz]at hb
        simp only[Option.map_some,Option.some.injEq]at hb
        subst hb
        exact⟨t,o,q,by omega,hL,ho,hW,h⟩
      ·exact old (base b hb h)
     ·simp at h
theorem B3z{m:Nat}{σ0:St}{HD:Hid}{f:Nat→A1P}(F:A3Q cx ops m σ0 HD f){x y k:Nat}(hx:x∈HD.W)(hy:(y,k)∈HD.T)(L:Nat→Bool):∀t,t≤m→0<m→(∃ o,ops[0]? =some o)→y∉A3f (A0q ops f L σ0 t).heap x
 |0,_,h0,⟨o0,ho0⟩,h=>by
  have hh:=F.hid 0 o0 h0 ho0
  unfold A3f at h
  split at h
  ·rename_i b hb
   exact hh.nW x (hh.names y k hy x b hb h) hx
  ·simp at h
 |t+1,ht,h0,hex,h=>by
  have ih:=B3z F hx hy L t (by omega) h0 hex
  simp only[A0q]at h
  cases ho:ops[t]? with
  |none=>rw[ho]at h; exact ih h
  |some o=>
   rw[ho]at h
   cases hL:L t with
   |false=>rw[hL]at h; exact ih h
   |true=>
    simp only[hL,cond_true]at h
    unfold A3f at h
    rw[A1H]at h
    have base:∀b,(A0b (f t).2.2.1 x).or (if x∈(f t).2.1++A0f (f t).2.2.1 then none else(A0b (A0q ops f L σ0 t).heap x).map (Blk.mapc (A0k ((f t).2.1++A0f (f t).2.2.1))))=some b→y∈b.ids→y∈A3f (A0q ops f L σ0 t).heap x:=fun b hb hyb=>by
     cases hg:A0b (f t).2.2.1 x with
     |some b2=>
      rw[hg]at hb
      simp only[Option.some_or,Option.some.injEq]at hb
      subst hb
      have:=A3J _ _ _ hg y hyb
      rw[F.conts t o (by omega) ho]at this; simp at this
     |none=>
      rw[hg]at hb
      simp only[Option.none_or]at hb
      split at hb
      ·cases hb
      ·unfold A3f
       cases hc:A0b (A0q ops f L σ0 t).heap x with
       |none=>rw[hc]at hb; cases hb
       |some b3=>
        rw[hc]at hb
        simp only[Option.map_some,Option.some.injEq]at hb
        subst hb
        cases b3 with
        |var t2 c=>exact(A3K _ _ hyb).1
        |_=>simp[Blk.mapc,Blk.ids]at hyb
    cases hW:(f t).2.2.2 with
    |none=>
     simp only[hW,wrG]at h
     split at h
     ·rename_i b hb; exact ih (base b hb h)
     ·simp at h
    |some q=>
     simp only[hW,wrG]at h
     split at h
     ·rename_i b hb
      split at hb
      ·cases hz:(A0b (f t).2.2.1 x).or (if x∈(f t).2.1++A0f (f t).2.2.1 then none else(A0b (A0q ops f L σ0 t).heap x).map (Blk.mapc (A0k ((f t).2.1++A0f (f t).2.2.1))))with
       |none=>rw[hz]at hb; cases hb
       |some b2=>
        rw[hz]at hb
        simp only[Option.map_some,Option.some.injEq]at hb
        subst hb
        exact F.wrT t o q (by omega) ho hW y k hy h
      ·exact ih (base b hb h)
     ·simp at h
theorem A9C{m:Nat}{σ0:St}{HD:Hid}{f:Nat→A1P}(F:A3Q cx ops m σ0 HD f)(S:A3q cx ops m){L:Nat→Bool}(hL:∀p op q,p<m→L p=true→ops[p]? =some op→A0K op q=true→L q=true){i:Nat}{oi:Oper}(hi:i<m)(hoi:ops[i]? =some oi){y:Nat}(hy:y∈A0f (f i).2.2.1):
  ∀n o q,n<m→ops[n]? =some o→(f n).2.2.2=some q→y∈q.2.ids→i<n∧(L n=true→L i=true)∧∃j oj p op s,j<m∧ops[j]? =some oj∧(f j).2.1=[]∧p<j∧ops[p]? =some op∧y∈(f p).1.ids∧op.dst=some s∧s∈A0D ops.toList oj:=by
 intro n
 induction n using Nat.strongRecOn with
 |_ n ih=>
  intro o q hn ho hq hyq
  obtain⟨w1,w2,w3,w4,w5,w6⟩:=F.wr n o q hn ho hq
  rcases w6 y hyq with u|⟨p,op,s,p1,p2,p3,p4,p5⟩|u
  ·rw [(F.fresh i oi hi hoi y hy).1]at u; cases u
  ·obtain ⟨c1,c2⟩:=A2s F S hL hi hoi hy p op (by omega) p2 p3
   refine⟨by omega,fun hLn=>c2 (hL n o p hn hLn ho ?_),n,o,p,op,s,hn,ho,w2,p1,p2,p3,p4,p5⟩
   rcases S.apart p op n o p2 (by omega) ho p1 with v|v
   ·exact v
   ·exact absurd p5 ((A0W v).1 s p4)
  ·obtain ⟨j,oj,qj,j1,_,j3,j4,j5⟩:=A5Q F hi hoi hy (fun _=>true) n (by omega) u
   obtain⟨k1,k2,k3⟩:=ih j j1 oj qj (by omega) j3 j4 j5
   have hsj:=(F.wr j oj qj (by omega) j3 j4).1
   exact⟨by omega,fun hLn=>k2 (hL n o j hn hLn ho (S.store j oj n o j3 hsj ho j1 hn w1)),k3⟩
theorem A8K{m:Nat}(S:A3q cx ops m){σ0:St}{HD:Hid}{f:Nat→A1P}(F:A3Q cx ops m σ0 HD f){L L':Nat→Bool}{x:Nat}(hx:x∈HD.W)
  (hd:∀i oi,i<m→ops[i]? =some oi→L i≠L' i→A1D cx oi.op=false∧x∉A0f (f i).2.2.1):∀n,n≤m→A0b (A0q ops f L σ0 n).heap x=A0b (A0q ops f L' σ0 n).heap x
 |0,_=>rfl
 |n+1,hn=>by
  have ih:=A8K S F hx hd n (by omega)
  simp only[A0q]
  cases ho:ops[n]? with
  |none=>exact ih
  |some o=>
   simp only
   have same:L n≠L' n→∀Z:Nat→Bool,A0b (A3P o (f n) (A0q ops f Z σ0 n)).heap x=A0b (A0q ops f Z σ0 n).heap x:=by
    intro hne Z
    obtain⟨d1,d2⟩:=hd n o (by omega) ho hne
    have hWn:(f n).2.2.2=none:=by
     cases hW:(f n).2.2.2 with
     |none=>rfl
     |some q=>rw[(F.wr n o q (by omega) ho hW).1]at d1; cases d1
    have hxd:x∉(f n).2.1:=fun h=>F.goneW n o (by omega) ho x h hx
    rw[A1H,hWn]
    simp only[wrG]
    rw[A1X d2,if_neg (by simp[hxd,d2])]
    cases hc:A0b (A0q ops f Z σ0 n).heap x with
    |none=>rfl
    |some b=>
     simp only[Option.map_some,Option.none_or,Option.some.injEq]
     refine A5a fun y hy hyb=> ?_
     have hya:y∈A3f (A0q ops f Z σ0 n).heap x:=by unfold A3f; rw[hc]; exact hyb
     rcases List.mem_append.1 hy with hy|hy
     ·rcases F.gone n o (by omega) ho y hy with hT|⟨i,oi,s,g1,g2,g3,g4,g5,g6⟩
      ·have h0:∃o,ops[0]? =some o:=by
        have hs:n<ops.size:=(Array.getElem?_eq_some_iff.1 ho).1
        exact⟨ops[0],by simp⟩
       exact B3z F hx hT Z n (by omega) (by omega) h0 hya
      ·obtain ⟨j,oj,q,j1,_,j3,j4,j5⟩:=A5Q F (by omega) g2 g3 Z n (by omega) hya
       obtain⟨_,_,j2,oj2,p,op,s2,e1,e2,e3,e4,e5,e6,e7,e8⟩:=A9C F S (L:=fun _=>true) (fun _ _ _ _ _ _ _=>rfl) (by omega) g2 g3 j oj q (by omega) j3 j4 j5
       have:=A2m F (by omega) (by omega) g2 ho g3 hy g4 g6 p op (by omega) e5 e6
       subst this
       rw[g2]at e5; injection e5 with e5; subst e5
       rw[g4]at e7; injection e7 with e7; subst e7
       by_cases e:j2=n
       ·subst e; rw[e3]at hy; simp at hy
       ·exact g6 j2 oj2 e1 e e2 e8
     ·obtain ⟨j,oj,q,j1,_,j3,j4,j5⟩:=A5Q F (by omega) ho hy Z n (by omega) hya
      have:=(A9C F S (L:=fun _=>true) (fun _ _ _ _ _ _ _=>rfl) (by omega) ho hy j oj q (by omega) j3 j4 j5).1
      omega
   cases hLn:L n with
   |true=>
    cases hL':L' n with
    |true=>simp only[cond_true,A1H,ih]
    |false=>simp only[cond_true,cond_false,same (by rw[hLn,hL']; simp) L]; exact ih
   |false=>
    cases hL':L' n with
    |true=>simp only[cond_true,cond_false,same (by rw[hLn,hL']; simp) L']; exact ih
    |false=>exact ih
theorem A6i(o:Oper)(x:A1P)(σ:St):(A3P o x σ).env=match o.dst with
  |some t=>(σ.env.map (A0k (x.2.1++A0f x.2.2.1))).set t x.1
  |none=>σ.env.map (A0k (x.2.1++A0f x.2.2.1)):=by
 have e:((σ.eff x.2.1 x.2.2.1).wr x.2.2.2).env=σ.env.map (A0k (x.2.1++A0f x.2.2.1)):=A2u _ σ
 unfold A3P
 cases o.dst<;>simp[St.put,e]
theorem B2C{σ τ:St}(h:σ.like τ)(o:Oper)(x:A1P):(A3P o x σ).like (A3P o x τ):=
 ⟨by rw[A6i,A6i,h.env],by rw[A7n,A7n,h.stk],fun y=>by rw[A1H,A1H,h.heap]⟩
theorem B2B{o p:Oper}{x y:A1P}{σ:St}(hdst:∀s t,o.dst=some s→p.dst=some t→s≠t)
  (hx:∀i∈y.2.1++A0f y.2.2.1,i∉x.1.ids) (hy:∀i∈x.2.1++A0f x.2.2.1,i∉y.1.ids)
  (h1:∀i∈x.2.1,i∉A0f y.2.2.1) (h2:∀i∈y.2.1,i∉A0f x.2.2.1) (h3:∀i∈A0f x.2.2.1,i∉A0f y.2.2.1) (hcx:A1f x.2.2.1=[]) (hcy:A1f y.2.2.1=[])
  (hWx:∀q,x.2.2.2=some q→∀i∈y.2.1++A0f y.2.2.1,i∉q.2.ids∧i≠q.1) (hWy:∀q,y.2.2.2=some q→∀i∈x.2.1++A0f x.2.2.1,i∉q.2.ids∧i≠q.1) (hone:x.2.2.2=none∨y.2.2.2=none):
  (A3P p y (A3P o x σ)).like (A3P o x (A3P p y σ)):=by
 refine⟨?_,?_,fun i=> ?_⟩
 ·simp only[A6i]
  have e1:=A1y _ _ hx
  have e2:=A1y _ _ hy
  have em:(σ.env.map (A0k (x.2.1++A0f x.2.2.1))).map (A0k (y.2.1++A0f y.2.2.1))=(σ.env.map (A0k (y.2.1++A0f y.2.2.1))).map (A0k (x.2.1++A0f x.2.2.1)):=by
   simp only[List.map_map]
   congr 1
   funext v
   exact A3i _ _ v
  cases ho:o.dst with
  |none=>cases hp:p.dst with
   |none=>simp only[em]
   |some t=>simp only[em,List.map_set,e2]
  |some s=>cases hp:p.dst with
   |none=>simp only[em,List.map_set,e1]
   |some t=>
    simp only[List.map_set,em,e1,e2]
    rw[List.set_comm]
    exact hdst s t ho hp
 ·simp only[A7n,List.map_map]
  congr 1
  funext l
  simp only[Function.comp,List.map_map]
  congr 1
  funext v
  exact A3i _ _ v
 ·simp only[A1H]
  have off:∀(H:A0m) (l:List Nat) (b:Blk),A1f H=[]→A0b H i=some b→Blk.mapc (A0k l) b=b:=fun H l b hc hg=>A5a fun z hz hzb=>by
   have:=A3J _ _ _ hg z hzb
   rw[hc]at this; simp at this
  have wr:∀(z1 z2:A1P),z2.2.2.2=none→(∀ q,z1.2.2.2=some q→∀i∈z2.2.1++A0f z2.2.2.1,i∉q.2.ids∧i≠q.1)→∀q,z1.2.2.2=some q→i=q.1→
    (A0b z2.2.2.1 i).or (if i∈z2.2.1++A0f z2.2.2.1 then none else(wrG z1.2.2.2 i ((A0b z1.2.2.1 i).or (if i∈z1.2.1++A0f z1.2.2.1 then none else(A0b σ.heap i).map (Blk.mapc (A0k (z1.2.1++A0f z1.2.2.1)))))).map (Blk.mapc (A0k (z2.2.1++A0f z2.2.2.1))))=
    wrG z1.2.2.2 i ((A0b z1.2.2.1 i).or (if i∈z1.2.1++A0f z1.2.2.1 then none else((A0b z2.2.2.1 i).or (if i∈z2.2.1++A0f z2.2.2.1 then none else(A0b σ.heap i).map (Blk.mapc (A0k (z2.2.1++A0f z2.2.2.1))))).map (Blk.mapc (A0k (z1.2.1++A0f z1.2.2.1))))):=by
   intro z1 z2 h2n hW q hq hi
   have hni:i∉z2.2.1++A0f z2.2.2.1:=fun h=>(hW q hq i h).2 hi
   have hnk:i∉A0f z2.2.2.1:=fun h=>hni (List.mem_append_right _ h)
   have hb:Blk.mapc (A0k (z2.2.1++A0f z2.2.2.1)) q.2=q.2:=A5a fun z hz=>(hW q hq z hz).1
   rw[A1X hnk,if_neg hni,if_neg hni,hq]
   simp only[wrG,hi,if_true,Option.none_or,Option.map_map]
   cases A0b z1.2.2.1 q.1 with
   |some b=>simp[hb]
   |none=>
    simp only[Option.none_or]
    split
    ·rfl
    ·cases A0b σ.heap q.1 with
     |none=>rfl
     |some b=>simp[hb]
  by_cases wx:∃q,x.2.2.2=some q∧i=q.1
  ·obtain ⟨q,hq,hi⟩:=wx
   have hyn:y.2.2.2=none:=hone.resolve_left (by rw[hq]; simp)
   have:=wr x y hyn hWx q hq hi
   rw[hyn]; exact this
  by_cases wy:∃q,y.2.2.2=some q∧i=q.1
  ·obtain ⟨q,hq,hi⟩:=wy
   have hxn:x.2.2.2=none:=hone.resolve_right (by rw[hq]; simp)
   have:=wr y x hxn hWy q hq hi
   rw[hxn]; exact this.symm
  have ox:∀z,wrG x.2.2.2 i z=z:=fun z=>A4A z fun q hq e=>wx ⟨q,hq,e⟩
  have oy:∀z,wrG y.2.2.2 i z=z:=fun z=>A4A z fun q hq e=>wy ⟨q,hq,e⟩
  simp only[ox,oy]
  by_cases iy:i∈A0f y.2.2.1
  ·obtain ⟨b,hb⟩:=Option.isSome_iff_exists.1 ((A3U _ _).1 iy)
   have ix:i∉A0f x.2.2.1:=fun h=>h3 i h iy
   have ixd:i∉x.2.1:=fun h=>h1 i h iy
   rw[hb,A1X ix,if_neg (show i∉x.2.1++A0f x.2.2.1 by simp[ixd,ix])]
   simp[off _ _ b hcy hb,ixd,ix]
  ·rw [A1X iy]
   by_cases ix:i∈A0f x.2.2.1
   ·obtain ⟨b,hb⟩:=Option.isSome_iff_exists.1 ((A3U _ _).1 ix)
    have iyd:i∉y.2.1:=fun h=>h2 i h ix
    rw[hb,if_neg (show i∉y.2.1++A0f y.2.2.1 by simp[iyd,iy])]
    simp[off _ _ b hcx hb,iyd,iy]
   ·rw [A1X ix]
    simp only[Option.none_or]
    by_cases ixd:i∈x.2.1<;>by_cases iyd:i∈y.2.1<;>simp only[List.mem_append,ixd,iyd,ix,iy,or_true,or_false,if_true,if_false,Option.map_none]
    cases A0b σ.heap i with
    |none=>rfl
    |some b=>
     simp only[Option.map_some,Option.some.injEq]
     cases b with
     |var t c=>simp only[Blk.mapc,A3i]
     |_=>rfl
theorem A8J{m:Nat}(S:A3q cx ops m){σ0:St}{HD:Hid}{f:Nat→A1P}(F:A3Q cx ops m σ0 HD f){k:Nat}{ok:Oper}(hk:k<m)(hok:ops[k]? =some ok){L L':Nat→Bool}(hL:L k=false)(hL':∀i,L' i=(L i||Nat.beq k i))
  (hcl:∀p op q,p<m→L p=true→ops[p]? =some op→A0K op q=true→L q=true):∀n,k<n→n≤m→(A3P ok (f k) (A0q ops f L σ0 n)).like (A0q ops f L' σ0 n)
 |0,h,_=>by omega
 |n+1,hn,hm=>by
  by_cases e:k=n
  ·subst e
   have h1:A0q ops f L' σ0 k=A0q ops f L σ0 k:=A0X k (fun _ _=>rfl) (fun i hi=>by rw[hL',A0c (by omega),Bool.or_false])
   have h2:L' k=true:=by rw[hL',Nat.beq_refl,Bool.or_true]
   simp only[A0q,hok,hL,h2,cond_false,cond_true,h1]
   exact St.like.refl _
  ·have ih:=A8J S F hk hok hL hL' hcl n (by omega) (by omega)
   have e1:L' n=L n:=by rw[hL',A0c e,Bool.or_false]
   simp only[A0q,e1]
   cases ho:ops[n]? with
   |none=>exact ih
   |some o=>
    cases hLn:L n with
    |false=>exact ih
    |true=>
     simp only[cond_true]
     refine St.like.trans ?_ (B2C ih o (f n))
     have hw:A0K o k=false:=by
      cases hw:A0K o k with
      |false=>rfl
      |true=>
       have:=hcl n o k (by omega) hLn ho hw
       rw[hL]at this; cases this
     have hap:A4F ops.toList ok o=true:=by
      rcases S.apart k ok n o hok hk ho (by omega)with q|q
      ·rw [hw]at q; cases q
      ·exact q
     obtain⟨p1,p2,p3⟩:=A0W hap
     have offk:∀i j,(i,j)∈HD.T→∀q oq,q<m→ops[q]? =some oq→i∉A0f (f q).2.2.1:=fun i j hT q oq hq hoq hm=>by
      obtain⟨b,hb,_⟩:=(F.hid k ok hk hok).old i j hT
      rw[(F.fresh q oq hq hoq i hm).1]at hb; cases hb
     have n1:∀i∈(f n).2.1,i∉A0f (f k).2.2.1:=fun i hi hik=>by
      rcases F.gone n o (by omega) ho i hi with hT|⟨j,oj,s,g1,g2,g3,g4,g5,_⟩
      ·exact offk i n hT k ok hk hok hik
      have:=F.apart j k oj ok (by omega) hk g2 hok i g3 hik
      subst this
      rw[hok]at g2; injection g2 with g2; subst g2
      exact p1 s g4 g5
     have n2:∀i∈(f k).2.1,i∉A0f (f n).2.2.1:=fun i hi hin=>by
      rcases F.gone k ok hk hok i hi with hT|⟨j,oj,s,g1,g2,g3,_⟩
      ·exact offk i k hT n o (by omega) ho hin
      have:=F.apart j n oj o (by omega) (by omega) g2 ho i g3 hin
      omega
     have n3:∀i∈A0f (f k).2.2.1,i∉A0f (f n).2.2.1:=fun i hi hin=>e (F.apart k n ok o hk (by omega) hok ho i hi hin)
     refine B2B (o:=o) (p:=ok) (x:=f n) (y:=f k) (fun s t hs ht=>(p3 t s ht hs).symm) (fun i hi hx=> ?_) (fun i hi hy=> ?_) n1 n2 (fun i h1 h2=>n3 i h2 h1) (F.conts n o (by omega) ho) (F.conts k ok hk hok) (fun q hq z hz=>⟨fun hzq=> ?_,fun hzt=> ?_⟩) (fun q hq z hz=>⟨fun hzq=> ?_,fun hzt=> ?_⟩) ?_
     ·rcases List.mem_append.1 hi with hi|hi
      ·rcases F.gone k ok hk hok i hi with hT|⟨j,oj,s,g1,g2,g3,g4,g5,g6⟩
       ·obtain ⟨o2,w1,w2⟩:=A3n (F.idsT n o (by omega) ho i k hT hx)
        have w1:ops[k]? =some o2:=by simpa using w1
        rw[hok]at w1; injection w1 with w1; subst w1
        obtain⟨e2,he,hb,hon⟩:=A1m w2
        have:=S.edges k ok hok e2 he hb
        omega
       have:=A2m F (by omega) hk g2 hok g3 hi g4 g6 n o (by omega) ho hx
       omega
      ·have:=(A2s F S hcl hk hok hi n o (by omega) ho hx).2 hLn
       rw[hL]at this; cases this
     ·rcases List.mem_append.1 hi with hi|hi
      ·rcases F.gone n o (by omega) ho i hi with hT|⟨j,oj,s,g1,g2,g3,g4,g5,g6⟩
       ·obtain ⟨o2,w1,w2⟩:=A3n (F.idsT k ok hk hok i n hT hy)
        have w1:ops[n]? =some o2:=by simpa using w1
        rw[ho]at w1; injection w1 with w1; subst w1
        rw[hw]at w2; cases w2
       have:=A2m F (by omega) (by omega) g2 ho g3 hi g4 g6 k ok hk hok hy
       subst this
       rw[hok]at g2; injection g2 with g2; subst g2
       exact p1 s g4 g5
      ·have:=(A2s F S hcl (by omega) ho hi k ok hk hok hy).1
       omega
     ·rcases List.mem_append.1 hz with hz|hz
      ·rcases F.gone k ok hk hok z hz with hT|⟨j,oj,s,g1,g2,g3,g4,g5,g6⟩
       ·exact F.wrT n o q (by omega) ho hq z k hT hzq
       obtain⟨_,_,j2,oj2,p,op,s2,d1,d2,d3,d4,d5,d6,d7,d8⟩:=A9C F S hcl (by omega) g2 g3 n o q (by omega) ho hq hzq
       have:=A2m F (by omega) hk g2 hok g3 hz g4 g6 p op (by omega) d5 d6
       subst this
       rw[g2]at d5; injection d5 with d5; subst d5
       rw[g4]at d7; injection d7 with d7; subst d7
       by_cases e2:j2=k
       ·subst e2; rw[d3]at hz; simp at hz
       ·exact g6 j2 oj2 d1 e2 d2 d8
      ·have:=(A9C F S hcl hk hok hz n o q (by omega) ho hq hzq).2.1 hLn
       rw[hL]at this; cases this
     ·rcases List.mem_append.1 hz with hz|hz
      ·exact F.goneW k ok hk hok z hz (by rw[hzt]; exact(F.wr n o q (by omega) ho hq).2.2.2.1)
      ·rcases (F.wr n o q (by omega) ho hq).2.2.2.2.1 with u|⟨p,op,s,p1,p2,p3,p4,p5⟩
       ·rw [← hzt,(F.fresh k ok hk hok z hz).1]at u; cases u
       ·rw [← hzt]at p3
        have hLp:=(A2s F S hcl hk hok hz p op (by omega) p2 p3).2
        have hwp:A0K o p=true:=by
         rcases S.apart p op n o p2 (by omega) ho p1 with v|v
         ·exact v
         ·exact absurd p5 ((A0W v).1 s p4)
        have:=hLp (hcl n o p (by omega) hLn ho hwp)
        rw[hL]at this; cases this
     ·rcases List.mem_append.1 hz with hz|hz
      ·rcases F.gone n o (by omega) ho z hz with hT|⟨j,oj,s,g1,g2,g3,g4,g5,g6⟩
       ·exact F.wrT k ok q hk hok hq z n hT hzq
       obtain⟨_,_,j2,oj2,p,op,s2,d1,d2,d3,d4,d5,d6,d7,d8⟩:=A9C F S hcl (by omega) g2 g3 k ok q hk hok hq hzq
       have:=A2m F (by omega) (by omega) g2 ho g3 hz g4 g6 p op (by omega) d5 d6
       subst this
       rw[g2]at d5; injection d5 with d5; subst d5
       rw[g4]at d7; injection d7 with d7; subst d7
       by_cases e2:j2=n
       ·subst e2; rw[d3]at hz; simp at hz
       ·exact g6 j2 oj2 d1 e2 d2 d8
      ·have:=(A9C F S hcl (by omega) ho hz k ok q hk hok hq hzq).1
       omega
     ·rcases List.mem_append.1 hz with hz|hz
      ·exact F.goneW n o (by omega) ho z hz (by rw[hzt]; exact(F.wr k ok q hk hok hq).2.2.2.1)
      ·rcases (F.wr k ok q hk hok hq).2.2.2.2.1 with u|⟨p,op,s,p1,p2,p3,p4,p5⟩
       ·rw [← hzt,(F.fresh n o (by omega) ho z hz).1]at u; cases u
       ·rw [← hzt]at p3
        have:=(A2s F S hcl (by omega) ho hz p op (by omega) p2 p3).1
        omega
     ·cases hWn:(f n).2.2.2 with
      |none=>exact .inl rfl
      |some q=>
       cases hWk:(f k).2.2.2 with
       |none=>exact .inr rfl
       |some q'=>
        have h1:=(F.wr n o q (by omega) ho hWn).1
        have h2:=(F.wr k ok q' hk hok hWk).1
        rw[S.store k ok n o hok h2 ho (by omega) (by omega) h1]at hw
        cases hw
def unl(m:Nat)(listed:Array Bool):Nat:=((List.range m).filter fun j=> !listed.getD j true).length
theorem A8U{p q:Nat→Bool}:∀(l:List Nat) (k:Nat),k∈l→p k=true→q k=false→(∀ j,q j=true→p j=true)→(l.filter q).length<(l.filter p).length
 | [],k,h,_,_,_=>by simp at h
 |x::l,k,h,hp,hq,hs=>by
  have mono:∀l:List Nat,(l.filter q).length≤(l.filter p).length:=fun l=>by
   induction l with
   |nil=>simp
   |cons y l ih=>
    simp only[List.filter_cons]
    cases hy:q y with
    |true=>rw[hs y hy]; simp; exact ih
    |false=>cases p y<;>simp<;>omega
  rcases List.mem_cons.1 h with h|h
  ·subst h
   simp only[List.filter_cons,hp,hq,if_true]
   have:=mono l
   simp; omega
  ·have:=A8U l k h hp hq hs
   simp only[List.filter_cons]
   cases hy:q x with
   |true=>rw[hs x hy]; simp; exact this
   |false=>cases p x<;>simp<;>omega
theorem A6F{k x:Nat}:∀{T:List (Nat×Nat)},x∈A8i T k→(x,k)∈T
 | [],h=>by simp[A8i]at h
 |q::T,h=>by
  simp only[A8i]at h
  cases hq:Nat.beq q.2 k with
  |true=>
   rw[hq,cond_true]at h
   rcases List.mem_cons.1 h with h|h
   ·subst h; rw[← A0j.1 hq]; simp
   ·exact List.mem_cons_of_mem _ (A6F h)
  |false=>rw[hq,cond_false]at h; exact List.mem_cons_of_mem _ (A6F h)
theorem A8X{L:List Oper}{k y j:Nat}:∀{T:List (Nat×Nat)},(y,j)∈T→j≠k→A2l L j k=false→y∈A7F L k T
 | [],h,_,_=>by simp at h
 |q::T,h,hj,hw=>by
  simp only[A7F]
  rcases List.mem_cons.1 h with h|h
  ·subst h
   simp only[A0c hj,hw,Bool.not_false,Bool.and_self,cond_true]
   simp
  ·have:=A8X h hj hw
   cases(!Nat.beq q.2 k&& !A2l L q.2 k)with
   |true=>rw[cond_true]; exact List.mem_cons_of_mem _ this
   |false=>rw[cond_false]; exact this
theorem A9f(l:List Nat):∀(H:A0m) (x:Nat),A0b (B0J l H) x=(A0b H x).map (A3w l)
 | [],x=>rfl
 |q::H,x=>by
  simp only[B0J,A0b]
  cases Nat.beq q.1 x with
  |true=>rfl
  |false=>exact A9f l H x
open Classical in
theorem B3J(hT:A3R P cx)(hC:A7l P cx w0){m:Nat}(S:A3q cx ops m){σ0:St}{HD:Hid}{f:Nat→A1P}(H:∀k o,k<m→ops[k]? =some o→A4e cx R lev ops m σ0 HD f k o)(r:R){Q':Exit→Act→World→Prop}(hpan:∀c d v a w,Q' (.panic c) (a.put d v) w→Q' (.panic c) a w)(T:Nat)
  (hQ:∀g listed θ a w,T≤g→B0l ops listed m→Rel w0 Xo (A0q ops f (fun _=>true) σ0 m) θ as a w→wpAny P .any ops Q' g listed a w):
  ∀(c g:Nat) (listed:Array Bool) (θ:Nat→Option Own) (a:Act) (w:World),c+T≤g→unl m listed≤c→HeadInv .any ops m listed→Rel w0 Xo (A0q ops f (fun i=>listed.getD i false) σ0 m) θ as a w→wpAny P .any ops Q' g listed a w:=by
 have F:=B3C H
 have hm:=S.le
 intro c
 induction c with
 |zero=>
  intro g listed θ a w hg hc inv h
  have hdone:A5X m listed:=fun j hj=>by
   cases hl:listed.getD j true with
   |true=>rfl
   |false=>
    have:j∈(List.range m).filter fun j=> !listed.getD j true:=List.mem_filter.2 ⟨List.mem_range.2 hj,by simp[hl]⟩
    have h0:((List.range m).filter fun j=> !listed.getD j true).length=0:=by unfold unl at hc; omega
    rw[List.length_eq_zero_iff]at h0
    rw[h0]at this; simp at this
  have hu:=A6f hm inv hdone
  refine hQ g listed θ a w (by omega) hu ?_
  rw[← A0X (f:=f) (L:=fun i=>listed.getD i false) (L':=fun _=>true) m (fun _ _=>rfl) (fun i hi=>hu.is i hi (by omega))]
  exact h
 |succ c ih=>
  intro g listed θ a w hg hc inv h
  obtain⟨g,rfl⟩:∃g',g=g'+1:=⟨g-1,by omega⟩
  by_cases hd:A5X m listed
  ·have hu:=A6f hm inv hd
   refine hQ (g+1) listed θ a w (by omega) hu ?_
   rw[← A0X (f:=f) (L:=fun i=>listed.getD i false) (L':=fun _=>true) m (fun _ _=>rfl) (fun i hi=>hu.is i hi (by omega))]
   exact h
  ·have hex:∃j,j<m∧listed.getD j true=false:=by
    unfold A5X at hd
    simp only[Classical.not_forall]at hd
    obtain⟨j,hj,hn⟩:=hd
    exact⟨j,hj,by simpa using hn⟩
   obtain⟨u,hu,hum,hlist⟩:∃u,u<m∧listed.getD u true=false∧∀j,j<u→listed.getD j true=true:=by
    obtain⟨u,⟨h1,h2⟩,h3⟩:=A6U hex
    refine⟨u,h1,h2,fun j hj=> ?_⟩
    cases hh:listed.getD j true with
    |true=>rfl
    |false=>have:=h3 j ⟨by omega,hh⟩; omega
   have hus:u<ops.size:=by omega
   have hou:ops[u]? =some ops[u]:=by simp[hus]
   have hready:u∈Region.ready .any ops listed:=mem_ready.2 ⟨hum,_,hou,fun e he hb=>by
    have:=S.edges u _ hou e he hb
    have h1:=hlist e.on this
    have:e.on<listed.size:=by rw[inv.size]; omega
    simpa[this]using h1⟩
   suffices step:∀k,k∈Region.ready .any ops listed→k<m→wpOp P ops Q' k (wpAny P .any ops Q' g (listed.setIfInBounds k true)) a w by
    by_cases hst:B4g cx ops.toList=true∧∃u o,u<m∧ops[u]? =some o∧A7K o=true∧listed.getD u true=false
    ·obtain ⟨hrel,u,o,hum,hou,hcp,hun⟩:=hst
     unfold A7K at hcp
     simp only[Bool.and_eq_true]at hcp
     obtain⟨⟨hop,hg0⟩,haf⟩:=hcp
     have hur:u∈Region.ready .any ops listed:=mem_ready.2 ⟨hun,o,hou,fun e he hb=>by
      have:=List.all_eq_true.1 haf e (Array.mem_toList_iff.2 he)
      rw[hb]at this; cases this⟩
     have hg:o.guard=none:=by simpa using hg0
     have hw:Region.wanted o (yielded ops a.tmps)=true:=by simp[Region.wanted,hg]
     split at hop
     ·rename_i x hx
      have hex:∀w,(execOp a.eval o).run P w= .ok (.value (a.eval x)) w:=fun w=>by unfold execOp; rw[hx]; rfl
      have h1:=step u hur hum
      unfold wpOp at h1
      simp only[hou,hw,if_true]at h1
      have hK:wpAny P .any ops Q' g (listed.setIfInBounds u true) (a.put o.dst (a.eval x)) w:=by
       rcases h1 with h1|⟨h1,_⟩
       ·unfold Oper.wp at h1
        rw[hex w]at h1
        exact h1
       ·have e:execOp a.eval o=pure (.value (a.eval x)):=by unfold execOp; rw[hx]
        have:=h1.1
        rw[e]at this
        change noRoomEvent∈(#[]:Array Event)at this
        simp at this
      refine wpAny_first hou (fun j oj cs b hoj=> ?_) (fun c a w=>hpan c _ _ a w) g listed a w (fun j oj hoj hj hjun hno=> ?_) hur (.inl ⟨hw,hex⟩) hK
      ·simp only[B4g,Bool.and_eq_true]at hrel
       have:=List.all_eq_true.1 hrel.2 oj (by simpa using Array.mem_of_getElem? hoj)
       intro e; rw[e]at this; cases this
      ·rcases Nat.lt_trichotomy j u with q|q|q
       ·rcases S.apart j oj u o hoj (by omega) hou q with z|z
        ·obtain ⟨e,he,hb,_⟩:=A1m z
         have:=List.all_eq_true.1 haf e (Array.mem_toList_iff.2 he)
         rw[hb]at this; cases this
        ·obtain ⟨z1,z2,z3⟩:=A0W z
         refine B0n ?_
         unfold A4F
         rw[B2s z2,B2s z1]
         cases hd:o.dst with
         |none=>rfl
         |some s=>cases hd2:oj.dst with
          |none=>rfl
          |some t=>
           have e:=A0c (Ne.symm (z3 t s hd2 hd))
           simp only[e]; rfl
       ·exact absurd q hj
       ·rcases S.apart u o j oj hou hum hoj q with z|z
        ·obtain ⟨e,he,hb,hon⟩:=A1m z
         exact absurd hon (hno e he hb)
        ·exact B0n z
     ·cases hop
    ·refine ⟨fun h0=>(by rw[h0]at hready; cases hready),fun k hkr=>step k hkr ?_⟩
     rcases Nat.lt_or_ge k m with h|h
     ·exact h
     ·obtain ⟨_,oi,hoi,_⟩:=mem_ready.1 hkr
      have his:k<ops.size:=(Array.getElem?_eq_some_iff.1 hoi).1
      have hms:m<ops.size:=by omega
      refine absurd hkr (B1e (fun i hi hun=> ?_) (S.chain hms) hms inv _ u rfl hu hum k h)
      rcases S.sink hms i hi with q|⟨q1,oj,q2,q3⟩
      ·exact q
      ·exact absurd ⟨q1,i,oj,hi,q2,q3,hun⟩ hst
   intro k hkr hkm
   obtain⟨hkun,o,hok,hall⟩:=mem_ready.1 hkr
   have hkf:listed.getD k false=false:=getD_both hkun
   have run:=H k o hkm hok
   have waits:∀i,A0K o i=true→listed.getD i false=true:=fun i hw=>by
    obtain⟨e,he,hb,hon⟩:=A1m hw
    rw[← hon]; exact hall e he hb
   have hdiff:∀i oi,i<m→ops[i]? =some oi→listed.getD i false≠(fun i=>Nat.blt i k) i→i≠k∧∀s,oi.dst=some s→s∉A0D ops.toList o:=by
    intro i oi hi hoi hne
    rcases Nat.lt_trichotomy i k with hlt|heq|hgt
    ·refine ⟨by omega,?_⟩
     have e1:Nat.blt i k=true:=by simpa[Nat.blt_eq]using hlt
     simp only[e1]at hne
     rcases S.apart i oi k o hoi hi hok hlt with q|q
     ·exact absurd (waits i q) hne
     ·exact (A0W q).1
    ·subst heq
     exfalso
     apply hne
     rw[hkf]
     cases hb:Nat.blt i i with
     |false=>simp only[hb]
     |true=>exact absurd hb (by simp[Nat.blt_eq])
    ·refine ⟨by omega,?_⟩
     have e1:Nat.blt i k=false:=by
      cases hb:Nat.blt i k with
      |false=>rfl
      |true=>
       have:i<k:=by simpa[Nat.blt_eq]using hb
       omega
     simp only[e1]at hne
     have hli:listed.getD i false=true:=by simpa using hne
     rcases S.apart k o i oi hok hkm hoi hgt with q|q
     ·obtain ⟨e,he,hb,hon⟩:=A1m q
      have:=inv.closed i oi hoi hli e he hb
      rw[hon,hkf]at this; cases this
     ·exact (A0W q).2.1
   have hcl:∀p op q,p<m→(fun i=>listed.getD i false) p=true→ops[p]? =some op→A0K op q=true→(fun i=>listed.getD i false) q=true:=by
    intro p op q hp hlp hop hw
    obtain⟨e,he,hb,hon⟩:=A1m hw
    have:=inv.closed p op hop hlp e he hb
    rw[hon]at this; exact this
   have hpass:∀p op t i,p<m→(fun i=>listed.getD i false) p=true→ops[p]? =some op→op.dst=some t→t∈A0D ops.toList o→i≤p→(fun i=>listed.getD i false) i=true→(fun i=>Nat.blt i k) i=true:=by
    intro p op t i hpm hlp hop hpt htl hip hli
    have hlp':listed.getD p false=true:=hlp
    have hpk:p<k:=by
     rcases Nat.lt_trichotomy p k with q|q|q
     ·exact q
     ·subst q; rw[hkf]at hlp'; cases hlp'
     ·rcases S.apart k o p op hok hkm hop q with u|u
      ·have:=hcl p op k hpm hlp hop u
       simp only[hkf]at this; cases this
      ·exact absurd htl ((A0W u).2.1 t hpt)
    have:i<k:=by omega
    simpa[Nat.blt_eq]using this
   have hwait:∀i oi,i<m→ops[i]? =some oi→listed.getD i false≠(fun i=>Nat.blt i k) i→A0K oi k=false:=by
    intro i oi hi hoi hne
    cases hw:A0K oi k with
    |false=>rfl
    |true=>
     exfalso
     obtain⟨e,he,hb,hon⟩:=A1m hw
     have hki:=S.edges i oi hoi e he hb
     have e1:Nat.blt i k=false:=by
      cases hb:Nat.blt i k with
      |false=>rfl
      |true=>
       have:i<k:=by simpa[Nat.blt_eq]using hb
       omega
     have hli:listed.getD i false=true:=by simpa[e1]using hne
     have:=hcl i oi k hi hli hoi hw
     simp only[hkf]at this; cases this
   have hlate:∀p op t,p<m→(fun i=>listed.getD i false) p=true→ops[p]? =some op→op.dst=some t→t∈A0D ops.toList o→p<k:=by
    intro p op t hpm hlp hop hpt htl
    have hlp':listed.getD p false=true:=hlp
    rcases Nat.lt_trichotomy p k with q|q|q
    ·exact q
    ·subst q; rw[hkf]at hlp'; cases hlp'
    ·rcases S.apart k o p op hok hkm hop q with u|u
     ·have:=hcl p op k hpm hlp hop u
      simp only[hkf]at this; cases this
     ·exact absurd htl ((A0W u).2.1 t hpt)
   have hpre:A0q ops f (fun i=>Nat.blt i k) σ0 m=A0q ops f (fun _=>true) σ0 k:=by
    have stop:∀n,k≤n→A0q ops f (fun i=>Nat.blt i k) σ0 n=A0q ops f (fun i=>Nat.blt i k) σ0 k:=by
     intro n hn
     induction n with
     |zero=>
      have:k=0:=by omega
      subst this; rfl
     |succ n ihn=>
      by_cases e:k=n+1
      ·rw [e]
      ·have hb:Nat.blt n k=false:=by
        cases hb:Nat.blt n k with
        |false=>rfl
        |true=>
         have:n<k:=by simpa[Nat.blt_eq]using hb
         omega
       rw[← ihn (by omega)]
       simp only[A0q,hb,cond_false]
       split<;>rfl
    rw[stop m (by omega)]
    exact A0X k (fun _ _=>rfl) (fun i hi=>by simpa[Nat.blt_eq]using hi)
   have hvis:∀x b,x∉HD.W→(∀ n,(x,n)∉HD.T)→x∉HD.N→A0b (B4s σ0.heap (A5t (A0D ops.toList o) (A2h ops f k)) (A2h ops f k)) x=some b→A0b (A0q ops f (fun i=>listed.getD i false) σ0 m).heap x=some b:=by
    intro x b hxw hxT hxN hx
    rcases B1h _ x b hx with hx|⟨hsee,q,hq,hx⟩
    ·exact A8I F hxw hxT hxN hx m (Nat.le_refl m)
    ·obtain ⟨i,oi,hi,hoi,rfl⟩:=A2w k q hq
     have hxi:x∈A0f (f i).2.2.1:=(A3U _ _).2 (by rw[show A0b (f i).2.2.1 x=some b from hx]; rfl)
     obtain⟨e,he,hlk,hxe⟩:=A3p _ hsee
     obtain⟨j,oj,hj,hoj,rfl⟩:=A2w k e he
     obtain⟨s,hs,hsl⟩:=A2Q.1 hlk
     have hlj:listed.getD j false=true:=by
      rcases S.apart j oj k o hoj (by omega) hok hj with q|q
      ·exact waits j q
      ·exact absurd hsl ((A0W q).1 s hs)
     have hli:listed.getD i false=true:=(A2s F S hcl (by omega) hoi hxi j oj (by omega) hoj hxe).2 hlj
     refine A8H F (i:=i) (by omega) hoi hli hxw hx (fun j' oj' hj' hoj' hlj' hxj=> ?_) m (Nat.le_refl m) (by omega)
     rcases F.gone j' oj' hj' hoj' x hxj with hT|⟨i2,oi2,s2,g1,g2,g3,g4,g5,g6⟩
     ·exact hxT j' hT
     have:=A2m F (by omega) hj' g2 hoj' g3 hxj g4 g6 j oj (by omega) hoj hxe
     subst this
     rw[hoj]at g2; injection g2 with g2; subst g2
     have g4:some s=some s2:=hs.symm.trans g4
     injection g4 with g4; subst g4
     have hkj:k≠j':=fun e=>by rw[← e,hkf]at hlj'; cases hlj'
     exact g6 k o hkm hkj hok hsl
   have hagree:=A6K S F hkm hok (L:=fun i=>listed.getD i false) (L':=fun i=>Nat.blt i k) hcl hdiff hwait hlate hpass m (Nat.le_refl m)
   have hhid:=F.hid k o hkm hok
   have hext:B4Y (B4R cx ops.toList HD σ0 (A0q ops f (fun _=>true) σ0 k) (A2h ops f k) k o) (A0q ops f (fun i=>listed.getD i false) σ0 m).heap (cond (A4N o.op&&(f k).1.noBad) (A8x (A0q ops f (fun _=>true) σ0 k) o) []):=by
    intro x b hx
    unfold B4R at hx
    rw[A2A]at hx
    cases hg:A0b (A2J HD.W (A2J (B2z cx (A0q ops f (fun _=>true) σ0 k) o) (A0q ops f (fun _=>true) σ0 k).heap)) x with
    |none=>
     rw[hg]at hx
     simp only[Option.none_or]at hx
     rw[A2A]at hx
     cases hg2:A0b (A2J (A8i HD.T k) σ0.heap) x with
     |some c=>
      rw[hg2]at hx
      simp only[Option.some_or,Option.some.injEq]at hx
      subst hx
      obtain⟨h1,hxt⟩:=A1Y _ _ _ hg2
      exact .inl (A6M F (A6F hxt) hkf h1 m (Nat.le_refl m))
     |none=>
      rw[hg2]at hx
      simp only[Option.none_or]at hx
      rw[A2A]at hx
      cases hg3:A0b (B0J (A7F ops.toList k HD.T) (A2J HD.N (A2J (A8x (A0q ops f (fun _=>true) σ0 k) o) σ0.heap))) x with
      |none=>
       rw[hg3]at hx
       obtain⟨h1,h2⟩:=A6r _ _ _ (by simpa using hx)
       simp only[List.mem_append,not_or]at h2
       exact .inl (hvis x b h2.1 (fun n hn=>h2.2.1 (List.mem_map.2 ⟨_,hn,rfl⟩)) h2.2.2 h1)
      |some c=>
       rw[hg3]at hx
       simp only[Option.some_or,Option.some.injEq]at hx
       subst hx
       rw[A9f]at hg3
       cases hg4:A0b (A2J HD.N (A2J (A8x (A0q ops f (fun _=>true) σ0 k) o) σ0.heap)) x with
       |none=>rw[hg4]at hg3; cases hg3
       |some b0=>
        rw[hg4]at hg3
        simp only[Option.map_some,Option.some.injEq]at hg3
        obtain⟨h1,hxN⟩:=A1Y _ _ _ hg4
        obtain⟨h2,hxl⟩:=A1Y _ _ _ h1
        have hld:A4N o.op=true:=by
         unfold A8x at hxl
         split at hxl
         ·rename_i hop; rw[hop]; rfl
         ·simp at hxl
        have hT:HD.T≠ []:=fun e=>by rw[hhid.nE e]at hxN; simp at hxN
        have hnb:(f k).1.noBad=true:=by
         rcases F.loadT k o hkm hok hld hT with q|q
         ·exact q
         ·exact absurd hxN (q x hxl)
        obtain⟨l,c1,c2⟩:=A6L F (L:=fun i=>listed.getD i false) (hhid.nW x hxN) (hhid.nT x hxN) h2 m (Nat.le_refl m)
        rw[hld,hnb]
        refine .inr ⟨hxl,b0,A7F ops.toList k HD.T,l,hg3.symm,c1,fun y hy hyb=> ?_⟩
        obtain⟨j,j1,j2⟩:=c2 y hy hyb
        refine A8X j2 (fun e=> ?_) ?_
        ·subst e; rw[hkf]at j1; cases j1
        ·cases hw:A2l ops.toList j k with
         |false=>rfl
         |true=>
          exfalso
          obtain⟨oj,w1,w2⟩:=A3n hw
          have w1:ops[j]? =some oj:=by simpa using w1
          have hjm:j<m:=by
           rcases Nat.lt_or_ge j m with q|q
           ·exact q
           ·have hjs:j<ops.size:=(Array.getElem?_eq_some_iff.1 w1).1
            have hms:m<ops.size:=by omega
            have hl:listed.getD j true=false:=inv.tail j q hjs
            have:listed.getD j false=true:=j1
            rw[getD_both hl]at this; cases this
          have:=hcl j oj k hjm j1 w1 w2
          simp only[hkf]at this; cases this
    |some c=>
     rw[hg]at hx
     simp only[Option.some_or,Option.some.injEq]at hx
     subst hx
     obtain⟨h1,hxw⟩:=A1Y _ _ _ hg
     obtain⟨h2,hxt⟩:=A1Y _ _ _ h1
     obtain⟨hst,t,htl,hxt'⟩:=B1X (L:=ops.toList) hxt
     rw[← hpre]at h2 hxt'
     obtain⟨ag1,ag2⟩:=hagree t htl
     rw[← ag1]at hxt'
     refine .inl ?_
     rw[A8K S F hxw (L:=fun i=>listed.getD i false) (L':=fun i=>Nat.blt i k) (fun i oi hi hoi hne=> ?_) m (Nat.le_refl m)]
     ·exact h2
     ·constructor
      ·cases hsi:A1D cx oi.op with
       |false=>rfl
       |true=>
        exfalso
        apply hne
        rcases Nat.lt_trichotomy i k with q|q|q
        ·have:=waits i (S.store i oi k o hoi hsi hok q hkm hst)
         show listed.getD i false=Nat.blt i k
         rw[this]; symm; simpa[Nat.blt_eq]using q
        ·subst q
         show listed.getD i false=Nat.blt i i
         rw[hkf]; symm
         cases hb:Nat.blt i i with
         |false=>rfl
         |true=>exact absurd hb (by simp[Nat.blt_eq])
        ·have hw:=S.store k o i oi hok hst hoi q hi hsi
         cases hli:listed.getD i false with
         |true=>
          have:=hcl i oi k hi hli hoi hw
          simp only[hkf]at this; cases this
         |false=>
          show false=Nat.blt i k
          symm
          cases hb:Nat.blt i k with
          |false=>rfl
          |true=>
           have:i<k:=by simpa[Nat.blt_eq]using hb
           omega
      ·intro hxi
       rcases ag2 x hxt' with hn|⟨p,op,p1,p2,p3,p4,p5⟩
       ·exact A9l (F.fresh i oi hi hoi x hxi).2.2 t hn
       obtain⟨c1,c2⟩:=A2s F S hcl hi hoi hxi p op p1 p3 p5
       have e1:=c2 p2
       have e2:=hpass p op t i p1 p2 p3 p4 htl c1 e1
       exact hne (e1.trans e2.symm)
   have hp:=run.mono (A0q ops f (fun i=>listed.getD i false) σ0 m) (fun τ tv D A W=>if tv=(f k).1∧D=(f k).2.1∧A=(f k).2.2.1∧W=(f k).2.2.2 then some r else none) hext (fun t ht=>by
    rw[← hpre]; exact(hagree t ht).1)
   simp only[and_self,if_true]at hp
   have:=B1I hT hC h hp (Q:=Q') (K':=wpAny P .any ops Q' g (listed.setIfInBounds k true)) fun tv D A W θ' a' w' k1 k2=>by
    split at k1
    ·rename_i e
     obtain⟨e1,e2,e3,e4⟩:=e
     subst e1; subst e2; subst e3; subst e4
     refine ih g _ θ' a' w' (by omega) ?_ (inv.set hkr hkm) (Rel.like ?_ k2)
     ·have:unl m (listed.setIfInBounds k true)<unl m listed:=by
       refine A8U _ k (List.mem_range.2 hkm) (by simp[hkun]) ?_ fun j hj=> ?_
       ·have:k<listed.size:=by rw[inv.size]; omega
        simp[this]
       ·by_cases e:k=j
        ·subst e; simp[hkun]
        ·rw [getD_set_ne true e]at hj; exact hj
      omega
     ·refine A8J S F hkm hok (L:=fun i=>listed.getD i false) hkf (fun i=> ?_) hcl m hkm (Nat.le_refl m)
      by_cases e:k=i
      ·subst e
       have:k<listed.size:=by rw[inv.size]; omega
       simp[this]
      ·rw [getD_set_ne false e,A0c e,Bool.or_false]
    ·cases k1
   unfold wpOp
   simp only[hok]
   split
   ·rename_i hw; simp only[hw,if_true]at this; exact .inl this
   ·rename_i hw; simp only[hw]at this; exact this
theorem A4i(hT:A3R P cx)(hC:A7l P cx w0)(hm:P.follows .mixedOrders=true){call:A1v R}(hcall:A4d P w0 Xo call)(r:R):B3t P w0 Xo cx call r:=by
 intro as lev fn id ops σ θ a w K hd hp h
 refine wp_region_any hm ?_
 have S:=B1w hd
 have hlen:(ops.toList.take (A0H cx ops.toList)).length=A0H cx ops.toList:=by have:=S.le; simp; omega
 have inv:HeadInv .any ops (A0H cx ops.toList) (Array.replicate ops.size false):=⟨by simp,fun j oj hj hl=>(by rw[getD_replicate_false]at hl; cases hl),fun t _ hts=>by simp[hts]⟩
 obtain⟨f,_,f2,f3⟩:=A8Y (cx:=cx) (lev:=lev) (ops:=ops) (m:=A0H cx ops.toList) (σ0:=σ) (HD:=B5e cx lev σ (ops.toList.take (A0H cx ops.toList))) (r:=r) (K:=fun τ=>A5k cx call lev fn false ops.toList (ops.toList.drop (A0H cx ops.toList)) τ (K .normal)) (ops.toList.take (A0H cx ops.toList)) 0 (fun _=>(.dead,[],[],none))
  (fun j hj=>by rw[List.getElem?_take_of_lt (by omega)]; simp) (by omega) hp
 refine B3J (w0:=w0) (Xo:=Xo) (as:=as) (σ0:=σ) hT hC S (fun k o hk ho=>f2 k o (by omega) hk ho) r (fun c d v a w=>fun⟨x,_,_,e,_⟩=>by cases x<;>cases e) (ops.size-A0H cx ops.toList) (fun g listed θ a w hg hu hr=> ?_) _ _ _ θ a _ (?_:A0H cx ops.toList+_≤_) ?_ inv ?_
 ·refine A8n hT hcall (K:=K .normal) (r:=r) (fun σ θ a w hk hr=>⟨.normal,σ,θ,rfl,hr,hk⟩) (ops.toList.drop (A0H cx ops.toList)) (A0H cx ops.toList) g listed _ θ a w (fun j=>by simp) (by simp; omega) hu (fun j oj hj=> ?_) f3 hr
  have hj':ops[A0H cx ops.toList+j]? =some oj:=by simpa using hj
  exact⟨S.edges _ oj hj',fun hj0=>S.tail _ oj hj' (by omega)⟩
 ·have:=S.le; omega
 ·unfold unl
  refine Nat.le_trans (List.length_filter_le _ _) ?_
  simp
 ·have e:A0q ops f (fun i=>(Array.replicate ops.size false).getD i false) σ (A0H cx ops.toList)=σ:=by
   have:∀n,A0q ops f (fun i=>(Array.replicate ops.size false).getD i false) σ n=σ:=by
    intro n
    induction n with
    |zero=>rfl
    |succ n ih=>
     simp only[getD_replicate_false]at ih
     simp only[A0q,getD_replicate_false,cond_false]
     split<;>exact ih
   exact this _
  rw[e]
  exact h.below (A0h.drew _ w (w.drawn+1) (Nat.le_succ _))
end Go.Ai
/- Calls in place; functions. -/
namespace Go.Ai
open Go.RowKit
variable {P:Program} {cx:Cx} {w0:A0F} {Xo:Nat→Prop} {σ:St} {θ:Nat→Option Own} {as:List (Array Value)} {a:Act} {w:World} {X X':Nat→Prop} {R:Type} {r:R} {base:Nat→Nat→Prop}
structure A3r (P:Program) (f:FuncId) (i:Inl):Prop where
 fn : ∃ fn, P.funcs[f]? = some fn ∧ fn.body = some i.code ∧ fn.ntmps = i.ntmps ∧ fn.results.toList = i.results ∧ (fn.name == "runtime.NumGoroutine") = false
 few:i.results.length≤5
theorem A3r.enter{f:FuncId}{i:Inl}(h:A3r P f i)(args:Array Value)(w:World):(callFunc f args).run P w= .ok (.enter f args) w:=by
 obtain⟨⟨fn,h1,h2,_,_,h5⟩,_⟩:=h
 have h5' : (fn.name == "runtime.NumGoroutine") = false := h5
 simp only[beq_eq_false_iff_ne,ne_eq]at h5'
 simp[callFunc,h1,h2,h5']
theorem A5c{args:List TV}{vs:Array Value}(hv:A1g w X θ args vs)(n:Nat):A1g w X θ (args++List.replicate (n-args.length) .dead) (vs++Array.replicate (n-vs.size) undef):=by
 refine⟨by simp[hv.1],fun t tv ht=> ?_⟩
 rw[List.getElem?_append]at ht
 by_cases hlt:t<args.length
 ·simp only[hlt,if_true]at ht
  obtain⟨v,k1,k2⟩:=hv.2 t tv ht
  exact⟨v,by rw[Array.getElem?_append_left (by rw[hv.1]; exact hlt)]; exact k1,k2⟩
 ·simp only[hlt,if_false]at ht
  have hlt2:t-args.length<n-args.length:=by
   rcases Nat.lt_or_ge (t-args.length) (n-args.length)with h|h
   ·exact h
   ·rw [List.getElem?_eq_none (by simpa using h)]at ht; cases ht
  have:tv= .dead:=by simpa[hlt2,eq_comm]using ht
  subst this
  refine⟨undef,?_,trivial⟩
  rw[Array.getElem?_append_right (by rw[hv.1]; omega),hv.1]
  simp[hlt2]
theorem A9s(hC:A1F P cx){i:Inl}{fn:Func}(hf:fn.results.toList=i.results)(hfew:i.results.length≤5){ac:Act}(h:Rel w0 Xo σ θ (a.tmps::as) ac w)(hd:a.defers=[]){d:Option Tmp}{lev:Nat}{K:TV→St→Option R}
  (hp:B5i cx i d lev σ K=some r):∃v,(results fn ac.tmps).run P w= .ok v w∧∃tv σ' θ',K tv σ'=some r∧Rel w0 Xo σ' θ' as a w∧A0g w (A0d Xo θ' σ'.heap) θ' tv v:=by
 unfold B5i at hp
 split at hp
 ·cases hp
 ·rename_i tv htv
  obtain⟨v,k1,k2⟩:=A5g hC h hf hfew htv
  clear htv
  obtain⟨tv',σ',θ',hp,h,k2⟩:=A4Y h k2 hp
  revert hp h k2
  generalize tv'=tv,σ'=σ,θ'=θ
  intro hp h k2
  split at hp
  ·cases hp
  ·rename_i env stk hstk
   refine⟨v,k1,?_⟩
   have hs:=h.stk
   rw[hstk]at hs
   have h1:Rel w0 Xo {σ with env:=env,stk:=stk} θ as a w:=⟨h.keeps,h.xo,h.heap,hs.1,hs.2,hd,h.pin⟩
   have h2:=Rel.killL (gone (lev+1) (A3L (lev+1) (A3L (lev+1) tv.ids++(A3L (lev+1) tv.ids).flatMap (B1r σ.heap)++B1J (lev+1) σ.heap)) σ.heap) _ h1
   refine A4S _ _ tv v _ θ K hp h2 ?_
   have hst:A1G (A0d Xo θ σ.heap) (A0d Xo θ (({σ with env:=env,stk:=stk}:St).killL (gone (lev+1) (A3L (lev+1) (A3L (lev+1) tv.ids++(A3L (lev+1) tv.ids).flatMap (B1r σ.heap)++B1J (lev+1) σ.heap)) σ.heap)).heap) w w:=by
    refine⟨⟨fun _=>False,A0h.refl _ w,fun _ _ h=>h.elim⟩,fun b _ hb=> ?_⟩
    rcases hb with hb|⟨k,g1,g2⟩
    ·exact .inl hb
    ·rw [A1L]at g1
     split at g1
     ·cases g1
     ·simp only[Option.isSome_map]at g1
      exact .inr ⟨k,g1,g2⟩
   exact A0g.step hst tv v (fun _ _=>rfl) k2
structure A9E (P:Program) (cx:Cx):Prop where
 tab:A3R P cx
 con:∀f c,cx.con f=some c→A8C P f c
 tak:∀f c,cx.tak f=some c→A6I P f c
 inp:∀f c,cx.inp f=some c→B0k P f c
 inl:∀f i,cx.inl f=some i→A3r P f i
 mixed:P.follows .mixedOrders=true
theorem A3G(hG:A4C P w0)(hT:A9E P cx):∀n,A4d P w0 Xo (A7s (R:=R) cx n)
 |0,lev,fn,draw,f,args,d,σ,K,r,θ,as,a,w,vs,hp,_,_=>by simp[A7s]at hp
 |n+1,lev,fn,draw,f,args,d,σ,K,r,θ,as,a,w,vs,hp,h,hv=>by
  have ih:=A3G hG hT n
  simp only[A7s]at hp
  split at hp
  ·rename_i c hc
   exact A8O hG (hT.con f c hc) h hv hp
  split at hp
  ·rename_i c hc
   exact A9x hG (hT.tak f c hc) (A1c lev d) h hv hp
  split at hp
  ·rename_i c hc
   exact A9c hG (hT.inp f c hc) h hv hp
  ·split at hp
   ·rename_i i hi
    have hio:=hT.inl f i hi
    refine .inl ⟨hio.enter vs w,?_⟩
    obtain⟨⟨fd,f1,f2,f3,f4,_⟩,hfew⟩:=hio
    refine calls_of_wp f1 f2 ?_
    have hrel:Rel w0 Xo {env:=args++List.replicate (i.ntmps-args.length) .dead,stk:=σ.env::σ.stk,heap:=σ.heap} θ (a.tmps::as) {tmps:=vs++Array.replicate (fd.ntmps-vs.size) undef,defers:=[]} w:=
     ⟨h.keeps,h.xo,h.heap,by rw[f3]; exact A5c hv i.ntmps,⟨h.env,h.stk⟩,rfl,h.pin⟩
    refine wp_mono (A0G hT.tab ih (A4i hT.tab ⟨hG,hT.con,hT.tak,hT.inp⟩ hT.mixed ih r) i.code _ θ _ w _ hp hrel) fun e ac w' ⟨x,σ',θ',hx,h',hp'⟩=> ?_
    subst hx
    cases x with
    |exit j=>simp[B4P]at hp'
    |normal=>
     simp only[B4P]at hp'
     obtain⟨v,k1,k2⟩:=A9s hT.tab.c f4 hfew h' h.defers hp'
     exact⟨h'.defers,v,k1,v,rfl,k2⟩
    |ret=>
     simp only[B4P]at hp'
     obtain⟨v,k1,k2⟩:=A9s hT.tab.c f4 hfew h' h.defers hp'
     exact⟨h'.defers,v,k1,v,rfl,k2⟩
   ·cases hp
def B4T:(t:Ty)→t.den→TV
 | .fnc f,_=> .fn f (.pv .unit ())
 |t,x=> .pv t x
def A1A:(t:Ty)→t.den→List TV
 | .pair a b,x=>B4T a x.1::A1A b x.2
 |_,_=>[]
theorem B2F{θ:Nat→Option Own}{v:Value}{cs:List Value}:(t:Ty)→(x:t.den)→A0i t.isAgg v cs→Rep w X t cs x→A0g w X θ (B4T t x) v
 | .fnc f,_,hb,hr=>by
  have hr':cs=[.func (.func f) #[] #[]]:=hr
  subst hr'
  exact⟨_,hb,[],rfl,rfl⟩
 | .int _,x,hb,hr| .bool,x,hb,hr| .str,x,hb,hr| .slice _,x,hb,hr| .arr _ _,x,hb,hr| .unit,x,hb,hr| .pair _ _,x,hb,hr| .ref _,x,hb,hr| .opt _,x,hb,hr=>⟨cs,hb,hr⟩
theorem A4f{θ:Nat→Option Own}:∀(t:Ty) (vs:List Value) (x:t.den),A1T w X t vs x→vs.length=(A1A t x).length∧∀(i:Nat) tv,(A1A t x)[i]? =some tv→∃v,vs[i]? =some v∧A0g w X θ tv v
 | .unit,vs,x,h=>by have:vs=[]:=h; subst this; simp[A1A]
 | .pair a b,vs,x,⟨v,r,cs,h0,h1,h2,h3⟩=>by
  obtain⟨k1,k2⟩:=A4f (θ:=θ) b r x.2 h3
  subst h0
  refine⟨by simp[A1A,k1],fun i tv hi=> ?_⟩
  cases i with
  |zero=>simp only[A1A,List.getElem?_cons_zero,Option.some.injEq]at hi; subst hi; exact⟨v,rfl,B2F a x.1 h1 h2⟩
  |succ i=>simp only[A1A,List.getElem?_cons_succ]at hi ⊢; exact k2 i tv hi
 | .int _,_,_,h| .bool,_,_,h| .str,_,_,h| .slice _,_,_,h| .arr _ _,_,_,h| .ref _,_,_,h| .opt _,_,_,h| .fnc _,_,_,h=>by simp[A1T]at h
end Go.Ai
/- A function's results,and its contract out of its text. -/
namespace Go.Ai
open Go.RowKit
variable {P:Program} {cx:Cx} {θ:Nat→Option Own} {w:World} {X Y:Nat→Prop} {M0:Nat→Prop} {H:A0m} {o:Option Own}
theorem A6d:(tv:TV)→(t:Ty)→(x:t.den)→A0w H tv t=some x→∀i∈tv.ids,(A0b H i).isSome=true
 | .pr a b,.pair ta tb,x,h,i,hi=>by
  simp only[A0w]at h
  split at h
  ·rename_i y z hy hz
   simp only[TV.ids,List.mem_append]at hi
   rcases hi with hi|hi
   ·exact A6d a ta y hy i hi
   ·exact A6d b tb z hz i hi
  ·cases h
 | .sl j e,.slice e',x,h,i,hi=>by
  simp only[A0w]at h
  split at h
  ·rename_i E e2 xs hg
   have:i=j:=by simpa[TV.ids]using hi
   subst this; simp[hg]
  ·cases h
 | .inn j p e,.slice e',x,h,i,hi=>by
  simp only[A0w]at h
  split at h
  ·have:i=j:=by simpa[TV.ids]using hi
   subst this
   unfold A7I at h
   split at h
   ·rename_i hg; simp[hg]
   ·cases h
  ·cases h
 | .vw j rt p e lo up,.slice e',x,h,i,hi=>by
  simp only[A0w]at h
  split at h
  ·rename_i q; subst q
   have:i=j:=by simpa[TV.ids]using hi
   subst this
   simp only[A7b]at h
   split at h
   ·rename_i hg; simp[hg]
   ·rename_i hg; simp[hg]
   ·cases h
  ·cases h
 | .ptr j rt p,.ref e,x,h,i,hi=>by
  simp only[A0w]at h
  split at h
  ·rename_i t c hg
   have:i=j:=by simpa[TV.ids]using hi
   subst this; simp[hg]
  ·cases h
 | .pv _ _,_,_,_,i,hi=>by simp[TV.ids]at hi
 | .clp _ _,_,_,_,i,hi=>by simp[TV.ids]at hi
 | .nilsl,_,_,_,i,hi=>by simp[TV.ids]at hi
 | .bad,_,_,_,i,hi=>by simp[TV.ids]at hi
 | .und,_,_,_,i,hi=>by simp[TV.ids]at hi
 | .dead,_,_,_,i,hi=>by simp[TV.ids]at hi
 | .fn f c,t,_,h,i,hi=>by cases t<;>first|(simp [A0w]at h; done)|(obtain ⟨e,_⟩:=A8W (by simpa only[A0w]using h); subst e; simp[TV.ids]at hi)
 | .tup _,t,_,h,_,_=>by cases t<;>simp[A0w]at h
 | .pr _ _,.int _,_,h,_,_| .pr _ _,.bool,_,h,_,_| .pr _ _,.str,_,h,_,_| .pr _ _,.slice _,_,h,_,_| .pr _ _,.arr _ _,_,h,_,_| .pr _ _,.unit,_,h,_,_| .pr _ _,.ref _,_,h,_,_| .pr _ _,.opt _,_,h,_,_| .pr _ _,.fnc _,_,h,_,_=>by simp[A0w]at h
 | .vw ..,.int _,_,h,_,_| .vw ..,.bool,_,h,_,_| .vw ..,.str,_,h,_,_| .vw ..,.ref _,_,h,_,_| .vw ..,.arr _ _,_,h,_,_| .vw ..,.unit,_,h,_,_| .vw ..,.pair _ _,_,h,_,_| .vw ..,.opt _,_,h,_,_| .vw ..,.fnc _,_,h,_,_=>by simp[A0w]at h
 | .sl ..,.int _,_,h,_,_| .sl ..,.bool,_,h,_,_| .sl ..,.str,_,h,_,_| .sl ..,.ref _,_,h,_,_| .sl ..,.arr _ _,_,h,_,_| .sl ..,.unit,_,h,_,_| .sl ..,.pair _ _,_,h,_,_| .sl ..,.opt _,_,h,_,_| .sl ..,.fnc _,_,h,_,_=>by simp[A0w]at h
 | .inn ..,.int _,_,h,_,_| .inn ..,.bool,_,h,_,_| .inn ..,.str,_,h,_,_| .inn ..,.ref _,_,h,_,_| .inn ..,.arr _ _,_,h,_,_| .inn ..,.unit,_,h,_,_| .inn ..,.pair _ _,_,h,_,_| .inn ..,.opt _,_,h,_,_| .inn ..,.fnc _,_,h,_,_=>by simp[A0w]at h
 | .ptr ..,.int _,_,h,_,_| .ptr ..,.bool,_,h,_,_| .ptr ..,.str,_,h,_,_| .ptr ..,.slice _,_,h,_,_| .ptr ..,.arr _ _,_,h,_,_| .ptr ..,.unit,_,h,_,_| .ptr ..,.pair _ _,_,h,_,_| .ptr ..,.opt _,_,h,_,_| .ptr ..,.fnc _,_,h,_,_=>by simp[A0w]at h
theorem A6N{a b:TV}{vs:List Value}(h:RV w X θ true (.pr a b) vs):∃v r,vs=v::r∧A0g w X θ a v∧RV w X θ true b r:=by
 cases a with
 |tup c=>simp only[RV]at h; obtain⟨v,r,h0,⟨cs,h1,h2⟩,h3⟩:=h; exact h2.elim
 |dead=>simp only[RV]at h; obtain⟨v,r,h0,h1,h3⟩:=h; exact⟨v,r,h0,trivial,h3⟩
 |und=>simp only[RV]at h; obtain⟨v,r,h0,h1,h3⟩:=h; exact⟨v,r,h0,h1,h3⟩
 |_=>simp only[RV]at h; obtain⟨v,r,h0,⟨cs,h1,h2⟩,h3⟩:=h; exact⟨v,r,h0,⟨cs,h1,h2⟩,h3⟩
def A4c(θ:Nat→Option Own)(sl:List Slt)(k:Nat):Option Own:=
 match sl[k]? with
 |some (.id i)=>θ i
 |some .arr=>some (.arr (.slice none 0 0))
 |some .tre=>some (.tre (fun _=>some (.slice none 0 0)) [])
 |none=>none
theorem A4y{sl:List Slt}{k b:Nat}(h:A0e (A4c θ sl) k b):∃i,sl[k]? =some (.id i)∧A0e θ i b:=by
 unfold A0e A4c at h
 split at h
 ·rename_i o ho
  split at ho
  ·rename_i i hi; exact⟨i,hi,by simpa[A0e,ho]using h⟩
  ·injection ho with ho; subst ho; simp[Own.has,Value.ownBlock]at h
  ·injection ho with ho; subst ho; simp[Own.has]at h
  ·cases ho
 ·cases h
theorem B0H{i:Nat}{o:Slt}:B3Q i o=true↔o= .id i:=by
 cases o with
 |id j=>
  simp only[B3Q]
  rw[A0j]
  constructor
  ·intro h; rw[h]
  ·intro h; injection h with h; exact h.symm
 |_=>simp[B3Q]
theorem A2U:∀{sl:List Slt},A2O sl=true→∀(k l i:Nat),sl[k]? =some (.id i)→sl[l]? =some (.id i)→k=l
 | [],_,k,l,i,h,_=>by simp at h
 | .arr::r,hd,k,l,i,hk,hl=>by
  cases k with
  |zero=>simp at hk
  |succ k=>cases l with
   |zero=>simp at hl
   |succ l=>
    simp only[List.getElem?_cons_succ]at hk hl
    rw[A2U (by simpa[A2O]using hd) k l i hk hl]
 | .tre::r,hd,k,l,i,hk,hl=>by
  cases k with
  |zero=>simp at hk
  |succ k=>cases l with
   |zero=>simp at hl
   |succ l=>
    simp only[List.getElem?_cons_succ]at hk hl
    rw[A2U (by simpa[A2O]using hd) k l i hk hl]
 | .id j::r,hd,k,l,i,hk,hl=>by
  simp only[A2O,Bool.and_eq_true,Bool.not_eq_true',List.any_eq_false]at hd
  obtain⟨h1,h2⟩:=hd
  have no:∀m,r[m]? =some (Slt.id j)→False:=fun m hm=>h1 _ (List.mem_of_getElem? hm) (B0H.2 rfl)
  cases k with
  |zero=>
   simp only[List.getElem?_cons_zero,Option.some.injEq,Slt.id.injEq]at hk
   subst hk
   cases l with
   |zero=>rfl
   |succ l=>exact(no l (by simpa using hl)).elim
  |succ k=>cases l with
   |zero=>
    simp only[List.getElem?_cons_zero,Option.some.injEq,Slt.id.injEq]at hl
    subst hl
    exact(no k (by simpa using hk)).elim
   |succ l=>
    simp only[List.getElem?_cons_succ]at hk hl
    rw[A2U h2 k l i hk hl]
theorem A2b:∀(s:Sh) (tv:TV),(s.slots tv).length=s.cnt
 | .pl _,tv=>by cases tv<;>rfl
 | .own _ _,tv=>by cases tv<;>rfl
 | .tre _ _,tv=>by cases tv<;>rfl
 | .pr a b,tv=>by
  cases tv with
  |pr x y=>simp only[Sh.slots,List.length_append,Sh.cnt,A2b a x,A2b b y]
  |_=>simp[Sh.slots,Sh.cnt]
theorem A7Q(n:Nat):∀(s:Sh) (y:s.den) (c:TV),B0N n s y≠ .tup c
 | .pl _,_,_,h=>by cases h
 | .own _ _,_,_,h=>by cases h
 | .tre _ _,_,_,h=>by cases h
 | .pr _ _,_,_,h=>by cases h
theorem A3Y{θ2:Nat→Option Own}(hH:A1e w X θ (fun _=>M0) H)(hY:∀b,Y b→X b):∀(s:Sh) (n:Nat) (tv:TV) (cs:List Value) (y:s.den),A1n H tv s=some y→RV w X θ false tv cs→
  (∀ j,j<s.cnt→θ2 (n+j)=A4c θ (s.slots tv) j)→(∀ i∈s.lent tv,∀b,A0e θ i b→¬Y b)→
  RV w Y θ2 false (B0N n s y) cs∧(∀ i,Slt.id i∈s.slots tv→(A0b H i).isSome=true)∧(∀ i∈s.lent tv,(A0b H i).isSome=true)∧∀k b,A0b (A3x n s y) k=some b→A0A w Y θ2 (fun _=>M0) k b
 | .pl t,n,tv,cs,y,hr,hv,hθ,hl=>by
  have hr':A0w H tv t=some y:=by cases tv<;>exact hr
  have e:Sh.lent (.pl t) tv=tv.ids:=by cases tv<;>rfl
  rw[e]at hl⊢
  have e2:Sh.slots (.pl t) tv=[]:=by cases tv<;>rfl
  refine⟨A3D hH hY tv t y cs hr' hl hv,fun i hi=>(by rw[e2]at hi; simp at hi),fun i hi=>A6d tv t y hr' i hi,fun k b hb=>by simp[A3x,A0b]at hb⟩
 | .own E e,n,tv,cs,y,hr,hv,hθ,hl=>by
  have blk:∀{u:Value} {ds:List Value},θ2 n=some (.arr u)→A0E w M0 E e.size u (List.length y) ds→A0l (Rep w X e) ds y→∀k b,A0b (A3x n (.own E e) y) k=some b→A0A w Y θ2 (fun _=>M0) k b:=by
   intro u ds k1 k2 k3 k b hb
   simp only[A3x,A0b]at hb
   by_cases hk:n=k
   ·subst hk
    simp only[Nat.beq_refl,cond,Option.some.injEq]at hb
    subst hb
    exact⟨u,ds,k1,k2,A0o (fun c x hx=>Rep.avoid (fun b _ hb=>hY b hb) e c x hx) k3⟩
   ·simp [A0c hk]at hb
  have h0:=hθ 0 (by simp[Sh.cnt])
  rw[Nat.add_zero]at h0
  cases tv with
  |nilsl=>
   simp only[A1n,Option.some.injEq]at hr
   subst hr
   have hθ':θ2 n=some (.arr (.slice none 0 0)):=h0
   have hv':cs=_:=hv
   subst hv'
   exact⟨⟨_,hθ',rfl,rfl⟩,fun i hi=>by simp[Sh.slots]at hi,fun i hi=>by simp[Sh.lent]at hi,blk hθ' (A1k w M0 E e.size) rfl⟩
  |sl i e'=>
   simp only[A1n]at hr
   split at hr
   ·rename_i E' e2 xs hg
    split at hr
    ·rename_i q; subst q
     split at hr
     ·rename_i q
      obtain⟨q1,q2⟩:=q
      subst q1; subst q2
      injection hr with hr; subst hr
      have hθ':θ2 n=θ i:=h0
      obtain⟨u,ds,g1,g2,g3⟩:=hH.blk i _ hg
      obtain⟨u2,k2,k3,k4⟩:=hv
      subst k3
      rw[g1]at k2; injection k2 with k2; injection k2 with k2; subst k2
      refine⟨⟨_,hθ'.trans g1,rfl,k4⟩,fun j hj=> ?_,fun i hi=>(by simp[Sh.lent]at hi),blk (hθ'.trans g1) g2 g3⟩
      have hji:j=i:=by simpa[Sh.slots]using hj
      rw[hji,hg]
      rfl
     ·cases hr
    ·cases hr
   ·cases hr
  |_=>simp[A1n]at hr
 | .tre E s,n,tv,cs,y,hr,hv,hθ,hl=>by
  have blk:∀{sk:List Sel→Option Value} {L:List Nat} {u:Value},θ2 n=some (.tre sk L)→L.Nodup→A0t w M0 sk (.sl E s) id L [u] y→∀k b,A0b (A3x n (.tre E s) y) k=some b→A0A w Y θ2 (fun _=>M0) k b:=by
   intro sk L u k1 k2 k3 k b hb
   simp only[A3x,A0b]at hb
   by_cases hk:n=k
   ·subst hk
    simp only[Nat.beq_refl,cond,Option.some.injEq]at hb
    subst hb
    exact⟨sk,L,u,k1,k2,k3⟩
   ·simp [A0c hk]at hb
  have h0:=hθ 0 (by simp[Sh.cnt])
  rw[Nat.add_zero]at h0
  cases tv with
  |nilsl=>
   simp only[A1n,Option.some.injEq]at hr
   subst hr
   have hθ':θ2 n=some (.tre (fun _=>some (.slice none 0 0)) []):=h0
   have hv':cs=_:=hv
   subst hv'
   exact⟨⟨_,_,_,hθ',rfl,rfl,rfl⟩,fun i hi=>by simp[Sh.slots]at hi,fun i hi=>by simp[Sh.lent]at hi,blk (u:= .slice none 0 0) hθ' List.nodup_nil ⟨_,[],[],rfl,rfl,rfl,A1k w M0 E s.ty.size,rfl,rfl⟩⟩
  |inn i p e'=>
   cases p with
   |nil=>
    simp only[A1n]at hr
    split at hr
    ·rename_i E' s2 xs hg
     split at hr
     ·rename_i q; subst q
      split at hr
      ·rename_i q; subst q
       injection hr with hr; subst hr
       have hθ':θ2 n=θ i:=h0
       obtain⟨sk,L,u,g1,g2,g3⟩:=hH.blk i _ hg
       obtain⟨sk2,L2,u2,k2,k2',k3,k4⟩:=hv
       subst k3
       rw[g1]at k2; injection k2 with k2; injection k2 with k2 k2b; subst k2; subst k2b
       refine⟨⟨_,_,_,hθ'.trans g1,k2',rfl,k4⟩,fun j hj=> ?_,fun i hi=>(by simp[Sh.lent]at hi),blk (hθ'.trans g1) g2 g3⟩
       have hji:j=i:=by simpa[Sh.slots]using hj
       rw[hji,hg]
       rfl
      ·cases hr
     ·cases hr
    ·cases hr
   |cons q p=>simp[A1n]at hr
  |_=>simp[A1n]at hr
 | .pr s t,n,tv,cs,y,hr,hv,hθ,hl=>by
  cases tv with
  |pr u v=>
   simp only[A1n]at hr
   split at hr
   ·rename_i y1 y2 hr1 hr2
    injection hr with hr; subst hr
    obtain⟨c1,c2,h0,g1,g2⟩:=hv
    simp only[Sh.slots,Sh.lent,Sh.cnt]at hθ hl⊢
    have l1:=A2b s u
    have l2:=A2b t v
    obtain⟨a1,a2,a3,a4⟩:=A3Y (θ2:=θ2) hH hY s n u c1 y1 hr1 g1 (fun j hj=>by
     rw[hθ j (by omega)]
     unfold A4c
     rw[List.getElem?_append_left (by omega)]) (fun i hi=>hl i (List.mem_append_left _ hi))
    obtain⟨b1,b2,b3,b4⟩:=A3Y (θ2:=θ2) hH hY t (n+s.cnt) v c2 y2 hr2 g2 (fun j hj=>by
     rw[Nat.add_assoc,hθ (s.cnt+j) (by omega)]
     unfold A4c
     rw[List.getElem?_append_right (by omega),l1,Nat.add_sub_cancel_left]) (fun i hi=>hl i (List.mem_append_right _ hi))
    refine⟨⟨c1,c2,h0,a1,b1⟩,fun i hi=> ?_,fun i hi=> ?_,fun k b hb=> ?_⟩
    ·rcases List.mem_append.1 hi with hi|hi
     ·exact a2 i hi
     ·exact b2 i hi
    ·rcases List.mem_append.1 hi with hi|hi
     ·exact a3 i hi
     ·exact b3 i hi
    ·simp only[A3x,A2A]at hb
     cases hh:A0b (A3x n s y1) k with
     |some b1=>rw[hh]at hb; simp only[Option.some_or,Option.some.injEq]at hb; subst hb; exact a4 k _ hh
     |none=>rw[hh]at hb; simp only[Option.none_or]at hb; exact b4 k b hb
   ·cases hr
  |_=>simp[A1n]at hr
theorem A4s{θ2:Nat→Option Own}(hH:A1e w X θ (fun _=>M0) H)(hY:∀b,Y b→X b){s:Sh}{n:Nat}{tv:TV}{v:Value}{y:s.den}(hr:A1n H tv s=some y)(hv:A0g w X θ tv v)
  (hθ:∀j,j<s.cnt→θ2 (n+j)=A4c θ (s.slots tv) j) (hl:∀i∈s.lent tv,∀b,A0e θ i b→¬Y b):
  A0g w Y θ2 (B0N n s y) v∧(∀ i,Slt.id i∈s.slots tv→(A0b H i).isSome=true)∧(∀ i∈s.lent tv,(A0b H i).isSome=true)∧∀k b,A0b (A3x n s y) k=some b→A0A w Y θ2 (fun _=>M0) k b:=by
 cases s with
 |pl t=>
  have hr':A0w H tv t=some y:=by cases tv<;>exact hr
  have e:Sh.lent (.pl t) tv=tv.ids:=by cases tv<;>rfl
  rw[e]at hl⊢
  have e2:Sh.slots (.pl t) tv=[]:=by cases tv<;>rfl
  obtain⟨cs,g1,g2⟩:=A9A hH hY hr' hl hv
  exact⟨⟨cs,g1,g2⟩,fun i hi=>(by rw[e2]at hi; simp at hi),fun i hi=>A6d tv t y hr' i hi,fun k b hb=>by simp[A3x,A0b]at hb⟩
 |own E e=>
  have hne:(∀ c,tv≠ .tup c)∧tv≠ .dead∧tv≠ .und∧tv.isAgg=false:=by cases tv<;>simp_all[A1n,TV.isAgg]
  obtain⟨n1,n2,n3,n4⟩:=hne
  obtain⟨cs,g1,g2⟩:=A2k n1 n2 n3 hv
  obtain⟨k1,k2,k3,k4⟩:=A3Y (θ2:=θ2) hH hY (.own E e) n tv cs y hr g2 hθ hl
  exact⟨⟨cs,by rw[n4]at g1; exact g1,k1⟩,k2,k3,k4⟩
 |tre E s=>
  have hne:(∀ c,tv≠ .tup c)∧tv≠ .dead∧tv≠ .und∧tv.isAgg=false:=by cases tv<;>simp_all[A1n,TV.isAgg]
  obtain⟨n1,n2,n3,n4⟩:=hne
  obtain⟨cs,g1,g2⟩:=A2k n1 n2 n3 hv
  obtain⟨k1,k2,k3,k4⟩:=A3Y (θ2:=θ2) hH hY (.tre E s) n tv cs y hr g2 hθ hl
  exact⟨⟨cs,by rw[n4]at g1; exact g1,k1⟩,k2,k3,k4⟩
 |pr s t=>
  have hne:(∀ c,tv≠ .tup c)∧tv≠ .dead∧tv≠ .und∧tv.isAgg=true:=by cases tv<;>simp_all[A1n,TV.isAgg]
  obtain⟨n1,n2,n3,n4⟩:=hne
  obtain⟨cs,g1,g2⟩:=A2k n1 n2 n3 hv
  obtain⟨k1,k2,k3,k4⟩:=A3Y (θ2:=θ2) hH hY (.pr s t) n tv cs y hr g2 hθ hl
  exact⟨⟨cs,by rw[n4]at g1; exact g1,k1⟩,k2,k3,k4⟩
def B0t:List Sh→Nat
 | []=>0
 |s::l=>s.cnt+B0t l
theorem A4q{θ2:Nat→Option Own}(hH:A1e w X θ (fun _=>M0) H)(hY:∀b,Y b→X b):∀(l:List Sh) (n:Nat) (c:TV) (vs:List Value) (y:A2K l),A2e H c l=some y→RV w X θ true c vs→
  (∀ j,j<B0t l→θ2 (n+j)=A4c θ (A3B l c.list) j)→(∀ i∈A4Q l c.list,∀b,A0e θ i b→¬Y b)→
  RV w Y θ2 true (B4J n l y) vs∧(∀ i,Slt.id i∈A3B l c.list→(A0b H i).isSome=true)∧(∀ i∈A4Q l c.list,(A0b H i).isSome=true)∧(A3B l c.list).length=B0t l∧∀k b,A0b (B1G n l y) k=some b→A0A w Y θ2 (fun _=>M0) k b
 | [],n,c,vs,y,hr,hv,_,_=>by
  have hc:∃x,c= .pv .unit x:=by
   cases c with
   |pv t x=>cases t<;>simp[A2e]at hr<;>exact⟨x,rfl⟩
   |_=>simp[A2e]at hr
  obtain⟨x,rfl⟩:=hc
  exact⟨hv,fun i hi=>by simp[A3B]at hi,fun i hi=>by simp[A4Q]at hi,rfl,fun k b hb=>by simp[B1G,A0b]at hb⟩
 | [s],n,c,vs,y,hr,hv,hθ,hl=>by
  have hc:∃a x,c= .pr a (.pv .unit x)∧A1n H a s=some y:=by
   cases c with
   |pr a b=>cases b with
    |pv t x=>cases t<;>simp only[A2e]at hr<;>first|exact⟨a,x,rfl,hr⟩|cases hr
    |_=>simp[A2e]at hr
   |pv t x=>cases t<;>simp[A2e]at hr
   |_=>simp[A2e]at hr
  obtain⟨a,x,rfl,hr⟩:=hc
  obtain⟨v,r,h0,g1,g2⟩:=A6N hv
  have e1:A3B [s] (TV.list (.pr a (.pv .unit x)))=s.slots a:=by simp[TV.list,A3B]
  have e2:A4Q [s] (TV.list (.pr a (.pv .unit x)))=s.lent a:=by simp[TV.list,A4Q]
  rw[e1]at hθ⊢
  rw[e2]at hl⊢
  obtain⟨m1,m2,m3,m4⟩:=A4s (θ2:=θ2) (n:=n) hH hY hr g1 (fun j hj=>hθ j (by simpa[B0t]using hj)) hl
  subst h0
  exact⟨A2j m1 (A7Q n s y) g2,m2,m3,by simp[B0t,A2b],m4⟩
 |s::t::l,n,c,vs,y,hr,hv,hθ,hl=>by
  have hc:∃a b y1 y2,c= .pr a b∧A1n H a s=some y1∧A2e H b (t::l)=some y2∧y=(y1,y2):=by
   cases c with
   |pr a b=>
    simp only[A2e]at hr
    split at hr
    ·rename_i x z hx hz
     exact⟨a,b,x,z,rfl,hx,hz,by simpa using hr.symm⟩
    ·cases hr
   |pv t x=>cases t<;>simp[A2e]at hr
   |_=>simp[A2e]at hr
  obtain⟨a,b,y1,y2,rfl,hr1,hr2,rfl⟩:=hc
  obtain⟨v,r,h0,g1,g2⟩:=A6N hv
  have e1:A3B (s::t::l) (TV.list (.pr a b))=s.slots a++A3B (t::l) b.list:=rfl
  have e2:A4Q (s::t::l) (TV.list (.pr a b))=s.lent a++A4Q (t::l) b.list:=rfl
  have e3:B0t (s::t::l)=s.cnt+B0t (t::l):=rfl
  rw[e1]at hθ⊢
  rw[e2]at hl⊢
  rw[e3]at hθ⊢
  have l1:=A2b s a
  obtain⟨m1,m2,m3,m4⟩:=A4s (θ2:=θ2) (n:=n) hH hY hr1 g1 (fun j hj=>by
   rw[hθ j (by omega)]
   unfold A4c
   rw[List.getElem?_append_left (by omega)]) (fun i hi=>hl i (List.mem_append_left _ hi))
  obtain⟨n1,n2,n3,n4,n5⟩:=A4q (θ2:=θ2) hH hY (t::l) (n+s.cnt) b r y2 hr2 g2 (fun j hj=>by
   rw[Nat.add_assoc,hθ (s.cnt+j) (by omega)]
   unfold A4c
   rw[List.getElem?_append_right (by omega),l1,Nat.add_sub_cancel_left]) (fun i hi=>hl i (List.mem_append_right _ hi))
  subst h0
  refine⟨A2j m1 (A7Q n s y1) n1,fun i hi=> ?_,fun i hi=> ?_,by rw[List.length_append,l1,n4],fun k bl hb=> ?_⟩
  ·rcases List.mem_append.1 hi with hi|hi
   ·exact m2 i hi
   ·exact n2 i hi
  ·rcases List.mem_append.1 hi with hi|hi
   ·exact m3 i hi
   ·exact n3 i hi
  ·simp only[B1G,A2A]at hb
   cases hh:A0b (A3x n s y1) k with
   |some b1=>rw[hh]at hb; simp only[Option.some_or,Option.some.injEq]at hb; subst hb; exact m4 k _ hh
   |none=>rw[hh]at hb; simp only[Option.none_or]at hb; exact n5 k bl hb
theorem A5q(hH:A1e w (A0d X θ H) θ (fun _=>M0) H)(hX:∀b,X b→¬M0 b){l:List Sh}{tv:TV}{v:Value}{y:A2K l}(hr:A4r H tv l=some y)(hv:A0g w (A0d X θ H) θ tv v):
  ∃θ2,A1e w (A0d X θ2 (mkH l y)) θ2 (fun _=>M0) (mkH l y)∧A0g w (A0d X θ2 (mkH l y)) θ2 (A2o l y) v∧∀b,A0d X θ2 (mkH l y) b→A0d X θ H b:=by
 have main:∀(sl:List Slt) (le:List Nat) (hok:B0E sl le=true)
   (read:∀(Y:Nat→Prop),(∀ b,Y b→A0d X θ H b)→(∀ i∈le,∀b,A0e θ i b→¬Y b)→
    A0g w Y (A4c θ sl) (A2o l y) v∧(∀ i,Slt.id i∈sl→(A0b H i).isSome=true)∧(∀ i∈le,(A0b H i).isSome=true)∧∀k b,A0b (mkH l y) k=some b→A0A w Y (A4c θ sl) (fun _=>M0) k b),
   ∃θ2,A1e w (A0d X θ2 (mkH l y)) θ2 (fun _=>M0) (mkH l y)∧A0g w (A0d X θ2 (mkH l y)) θ2 (A2o l y) v∧∀b,A0d X θ2 (mkH l y) b→A0d X θ H b:=by
  intro sl le hok read
  simp only[B0E,Bool.and_eq_true,List.all_eq_true]at hok
  obtain⟨hone,hdis⟩:=hok
  obtain⟨_,i1,i2,_⟩:=read (fun _=>False) (fun b h=>h.elim) (fun i hi b hb h=>h)
  let θ2:=A4c θ sl
  let Y:Nat→Prop:=fun b=>X b∨∃k,A0e θ2 k b
  have hY:∀b,Y b→A0d X θ H b:=fun b hb=>by
   rcases hb with hb|⟨k,hb⟩
   ·exact .inl hb
   ·obtain ⟨i,hi,hbi⟩:=A4y hb
    exact .inr ⟨i,i1 i (List.mem_of_getElem? hi),hbi⟩
  have hl:∀i∈le,∀b,A0e θ i b→¬Y b:=by
   intro i hi b hb hy
   obtain⟨bi,hbi⟩:=Option.isSome_iff_exists.1 (i2 i hi)
   rcases hy with hy|⟨k,hy⟩
   ·exact hX b hy ((hH.blk i bi hbi).lt b hb).1
   ·obtain ⟨j,hj,hbj⟩:=A4y hy
    have hij:j≠i:=fun e=>by
     have h1:=hdis i hi
     simp only[Bool.not_eq_true',List.any_eq_false]at h1
     exact h1 _ (List.mem_of_getElem? hj) (B0H.2 (by rw[e]))
    exact hH.inj j i hij (i1 j (List.mem_of_getElem? hj)) (i2 i hi) b hbj hb
  obtain⟨k1,_,_,k2⟩:=read Y hY hl
  have hsub:∀b,A0d X θ2 (mkH l y) b→Y b:=by
   intro b hb
   rcases hb with hb|⟨k,_,h2⟩
   ·exact .inl hb
   ·exact .inr ⟨k,h2⟩
  have hst:A1G Y (A0d X θ2 (mkH l y)) w w:=⟨⟨fun _=>False,A0h.refl _ w,fun _ _ h=>h.elim⟩,fun b _ hb=>hsub b hb⟩
  refine⟨θ2,⟨fun k b hb=> ?_,fun i j hij h1 h2 b hbi hbj=> ?_⟩,A0g.step hst _ v (fun _ _=>rfl) k1,fun b hb=>hY b (hsub b hb)⟩
  ·have hbl:=k2 k b hb
   have:=hbl.go hst (θ':=θ2) rfl (fun _ _=>rfl) (fun c=>c) (fun c cs hc=>RV.step hst false c cs (fun _ _=>rfl) hc) (fun c t h=>h)
   cases b<;>exact this
  ·obtain ⟨i',e1,f1⟩:=A4y hbi
   obtain⟨j',e2,f2⟩:=A4y hbj
   have hne:i'≠j':=fun e=>hij (A2U hone i j i' e1 (by rw[e]; exact e2))
   exact hH.inj i' j' hne (i1 i' (List.mem_of_getElem? e1)) (i1 j' (List.mem_of_getElem? e2)) b f1 f2
 match l,y,hr,main with
 | [s],y,hr,main=>
  simp only[A4r]at hr
  obtain⟨h1,hr⟩:=A0a hr
  exact main (s.slots tv) (s.lent tv) h1 fun Y hY hl=>A4s (n:=0) hH hY hr hv (fun j _=>by rw[Nat.zero_add]) hl
 | [],y,hr,main=>
  have hc:∃c,tv= .tup c∧A2e H c []=some y:=by
   cases tv<;>simp only[A4r]at hr<;>first|exact⟨_,rfl,hr⟩|cases hr
  obtain⟨c,rfl,hr⟩:=hc
  obtain⟨vs,k1,k2⟩:=hv
  refine main [] [] rfl fun Y hY hl=> ?_
  obtain⟨m1,m2,m3,_,m4⟩:=A4q (θ2:=A4c θ []) hH hY [] 0 c vs y hr k2 (fun j hj=>by simp[B0t]at hj) (fun i hi=>by simp[A4Q]at hi)
  exact⟨⟨vs,k1,m1⟩,fun i hi=>by simp at hi,fun i hi=>by simp at hi,m4⟩
 |s::t::l,y,hr,main=>
  have hc:∃c,tv= .tup c∧B0E (A3B (s::t::l) c.list) (A4Q (s::t::l) c.list)=true∧A2e H c (s::t::l)=some y:=by
   cases tv with
   |tup c=>
    simp only[A4r]at hr
    obtain⟨h1,h2⟩:=A0a hr
    exact⟨c,rfl,h1,h2⟩
   |_=>simp[A4r]at hr
  obtain⟨c,rfl,hok,hr⟩:=hc
  obtain⟨vs,k1,k2⟩:=hv
  refine main _ _ hok fun Y hY hl=> ?_
  obtain⟨m1,m2,m3,_,m4⟩:=A4q hH hY (s::t::l) 0 c vs y hr k2 (fun j _=>by rw[Nat.zero_add]) hl
  exact⟨⟨vs,k1,m1⟩,m2,m3,m4⟩
theorem A1e.may{M M':Nat→Nat→Prop}(h:A1e w X θ M H)(hM:∀i b,M i b→M' i b):A1e w X θ M' H:=by
 refine⟨fun i b hb=> ?_,h.inj⟩
 have:=h.blk i b hb
 cases b with
 |var t c=>
  obtain⟨g,C,E,h1,h2,h3⟩:=this
  exact⟨g,C,E,h1,hM i g h2,h3⟩
 |arr E e xs=>
  obtain⟨v,ds,h1,h2,h3⟩:=this
  exact⟨v,ds,h1,A2i h2.row (fun g hg=>hM i g (h2.may g hg)),h3⟩
 |tre E s xs=>
  obtain⟨sk,L,v,h1,h2,h3⟩:=this
  exact⟨sk,L,v,h1,h2,h3.go (.sl E s) _ _ _ _ (fun _ _=>rfl) (fun b _ hb=>hM i b hb)⟩
 |map km vm xs=>
  obtain⟨g,es,clock,h1,h2,h3⟩:=this
  exact⟨g,es,clock,h1,hM i g h2,h3⟩
theorem B5n(hT:A9E P cx){depth:Nat}{f:FuncId}{i:Inl}{c:Con}(hi:A3r P f i)(hrun:∀xs y,c.raw xs=some y→fnK cx depth f i c.sh (A1A c.ps xs)=some y):A8C P f c:=by
 intro w X args xs y hX hargs hraw hgok
 have hp:=hrun xs y hraw
 refine .inl ⟨hi.enter args w,?_⟩
 obtain⟨⟨fd,f1,f2,f3,f4,_⟩,hfew⟩:=hi
 refine calls_of_wp f1 f2 ?_
 let θ0:Nat→Option Own:=fun _=>none
 obtain⟨k1,k2⟩:=A4f (w:=w) (X:=A0d X θ0 []) (θ:=θ0) c.ps args.toList xs (by
  have:A0d X θ0 []=X:=by funext b; simp[A0d,A0b]
  rw[this]; exact hargs)
 have hv:A1g w (A0d X θ0 []) θ0 (A1A c.ps xs) args:=⟨by simpa using k1,fun t tv ht=>by
  obtain⟨v,g1,g2⟩:=k2 t tv ht
  exact⟨v,by simpa using g1,g2⟩⟩
 let w0:A0F:=⟨w,fun _=>False,none,false⟩
 have hG:A4C P w0:=⟨hgok,fun b hb=>hb.elim⟩
 have hrel:Rel w0 X {env:=A1A c.ps xs++List.replicate (i.ntmps-(A1A c.ps xs).length) .dead,stk:=[],heap:=[]} θ0 [] {tmps:=args++Array.replicate (fd.ntmps-args.size) undef,defers:=[]} w:=
  ⟨A0h.refl _ w,fun b hb=>⟨hX b hb,fun h=>h⟩,⟨fun j b hb=>by simp[A0b]at hb,fun j k _ hj=>by simp[A0b]at hj⟩,by rw[f3]; exact A5c hv i.ntmps,trivial,rfl,fun hs=>by simp[A0b]at hs⟩
 have ih:=A3G hG hT depth (w0:=w0) (Xo:=X) (R:=A2K c.sh)
 refine wp_mono (A0G hT.tab ih (A4i hT.tab ⟨hG,hT.con,hT.tak,hT.inp⟩ hT.mixed ih y) i.code _ θ0 _ w _ hp hrel) fun e ac w' ⟨x,σ',θ',hx,h',hp'⟩=> ?_
 subst hx
 have fin:B4C cx i c.sh .ret σ'=some y→ac.defers=[]∧∃v,(results fd ac.tmps).run P w'= .ok v w'∧∃u,Ending.returned v= .returned u∧A0h (fun _=>False) w w'∧∃θ,A1e w' (A0d X θ (mkH c.sh y)) θ (fun _ b=>w.heap.size≤b) (mkH c.sh y)∧A0g w' (A0d X θ (mkH c.sh y)) θ (A2o c.sh y) u:=by
  intro hfin
  simp only[B4C]at hfin
  split at hfin
  ·rename_i tv htv
   obtain⟨v,g1,g2⟩:=A5g hT.tab.c h' f4 hfew htv
   obtain⟨tv',σ2,θ3,hfin,h',g2⟩:=A4Y h' g2 hfin
   obtain⟨θ2,r1,r2,_⟩:=A5q (M0:=fun b=>w.heap.size≤b) (h'.heap.may (M':=fun _ b=>w.heap.size≤b) fun i b hb=>by
    unfold A0F.may at hb
    split at hb
    ·exact hb.elim
    ·exact hb.elim id (fun q=>q.2.elim)) (fun b hb (hle:w.heap.size≤b)=>absurd (hX b hb) (by omega)) hfin g2
   exact⟨h'.defers,v,g1,v,rfl,h'.keeps,θ2,r1,r2⟩
  ·cases hfin
 cases x with
 |exit j=>simp[B4C]at hp'
 |normal=>exact fin hp'
 |ret=>exact fin hp'
theorem B1R{h0:A0m}{base:Nat→Nat→Prop}(hh:A1e w X θ base h0){k:BK}{i0 i:Nat}{p:List Sel}{x:k.den}(hp:A1O h0 k (k.tv i0)=some (i,p,x)):i=i0∧A0A w X θ base i0 (k.blk x)∧(A0b h0 i0).isSome=true:=by
 cases k with
 |var t=>
  simp only[BK.tv,A1O]at hp
  split at hp
  ·rename_i t2 c hg
   split at hp
   ·rename_i q
    obtain⟨q1,_⟩:=q
    subst q1
    split at hp
    ·rename_i y hy
     simp only[Option.some.injEq,Prod.mk.injEq]at hp
     obtain⟨e1,_,e2⟩:=hp
     subst e1; subst e2
     obtain⟨b,C,E,h1,h2,h3,h4,h5⟩:=hh.blk i0 _ hg
     exact⟨rfl,⟨b,C,E,h1,h2,h3,A1R c _ _ _ hy h4,by simp[TV.fits]⟩,by simp[hg]⟩
    ·cases hp
   ·cases hp
  ·cases hp
 |arr E e=>
  simp only[BK.tv,A1O]at hp
  split at hp
  ·rename_i E2 e2 xs hg
   split at hp
   ·rename_i q; subst q
    split at hp
    ·rename_i q
     obtain⟨_,q2⟩:=q
     subst q2
     simp only[Option.some.injEq,Prod.mk.injEq]at hp
     obtain⟨e1,_,e2⟩:=hp
     subst e1; subst e2
     exact⟨rfl,hh.blk i0 _ hg,by simp[hg]⟩
    ·cases hp
   ·cases hp
  ·cases hp
 |tre E s=>
  simp only[BK.tv,A1O]at hp
  split at hp
  ·rename_i E2 s2 xs hg
   rw[DS.get_nil]at hp
   simp only at hp
   split at hp
   ·rename_i q; subst q
    split at hp
    ·rename_i q
     obtain⟨_,q2⟩:=q
     subst q2
     simp only[Option.some.injEq,Prod.mk.injEq]at hp
     obtain⟨e1,_,e2⟩:=hp
     subst e1; subst e2
     exact⟨rfl,hh.blk i0 _ hg,by simp[hg]⟩
    ·cases hp
   ·cases hp
  ·cases hp
theorem B2H{M:Nat→Nat→Prop}{θ1:Nat→Option Own}{i:Nat}{k:BK}{x:k.den}(h:A0A w X θ1 M i (k.blk x))(hY:∀b,Y b→X b):A0A w Y θ1 M i (k.blk x):=by
 cases k with
 |var t=>
  obtain⟨b,C,E,h1,h2,h3,h4,h5⟩:=h
  exact⟨b,C,E,h1,h2,h3,Rep.avoid (fun b _ hb=>hY b hb) t _ x h4,h5⟩
 |arr E s=>
  obtain⟨v,ds,h1,h2,h3⟩:=h
  exact⟨v,ds,h1,h2,A0o (fun c x hx=>Rep.avoid (fun b _ hb=>hY b hb) s c x hx) h3⟩
 |tre E s=>exact h
theorem B5p(hT:A9E P cx){depth:Nat}{f:FuncId}{i:Inl}{c:A8p}(hi:A3r P f i)(hrun:∀x ps z,c.raw x ps=some z→B5L cx depth f i c.k c.sh x (A1A c.ps ps)=some z):B0k P f c:=by
 intro w X θ1 v x rest ps z hX hX1 hblk hv hargs hraw hgok hgb
 have hp:=hrun x ps z hraw
 refine .inl ⟨hi.enter _ w,?_⟩
 obtain⟨⟨fd,f1,f2,f3,f4,_⟩,hfew⟩:=hi
 refine calls_of_wp f1 f2 ?_
 let θ0:Nat→Option Own:=fun k=>if k=PIN then θ1 0 else none
 let w0:A0F:=⟨w,fun b=>A0e θ1 0 b,θ1 0,false⟩
 have hG:A4C P w0:=⟨hgok,hgb⟩
 let Xo:Nat→Prop:=fun b=>X b∧¬A0e θ1 0 b
 have hθ:θ0 PIN=θ1 0:=by simp[θ0]
 have A0I:A0d Xo θ0 [(PIN,c.k.blk x)]=X:=by
  funext b
  apply propext
  constructor
  ·rintro (⟨hb,_⟩|⟨k,h1,h2⟩)
   ·exact hb
   ·have hk:k=PIN:=by
     by_cases e:PIN=k
     ·exact e.symm
     ·simp [A0b,A0c e]at h1
    subst hk
    exact hX1 b (by simpa[A0e,hθ]using h2)
  ·intro hb
   by_cases e:A0e θ1 0 b
   ·exact .inr ⟨PIN,by simp[A0b],by simpa[A0e,hθ]using e⟩
   ·exact .inl ⟨hb,e⟩
 obtain⟨k1,k2⟩:=A4f (w:=w) (X:=A0d Xo θ0 [(PIN,c.k.blk x)]) (θ:=θ0) c.ps rest ps (by rw[A0I]; exact hargs)
 have hv0:A0g w (A0d Xo θ0 [(PIN,c.k.blk x)]) θ0 (c.k.tv PIN) v:=by
  rw[A0I]
  have e:(c.k.tv 0).ren PIN=c.k.tv PIN:=by cases c.k<;>rfl
  rw[← e]
  refine A0g.ren _ v (fun j hj=> ?_) hv
  have hj0:j=0:=by
   revert hj
   cases c.k<;>simp[BK.tv,TV.ids]
  subst hj0
  exact hθ
 have hvE:A1g w (A0d Xo θ0 [(PIN,c.k.blk x)]) θ0 (c.k.tv PIN::A1A c.ps ps) (v::rest).toArray:=⟨by simpa using k1,fun t tv ht=>by
  cases t with
  |zero=>
   simp only[List.getElem?_cons_zero,Option.some.injEq]at ht
   subst ht
   exact⟨v,by simp,hv0⟩
  |succ t=>
   simp only[List.getElem?_cons_succ]at ht
   obtain⟨u,g1,g2⟩:=k2 t tv ht
   exact⟨u,by simpa using g1,g2⟩⟩
 have hrel:Rel w0 Xo {env:=(c.k.tv PIN::A1A c.ps ps)++List.replicate (i.ntmps-(c.k.tv PIN::A1A c.ps ps).length) .dead,stk:=[],heap:=[(PIN,c.k.blk x)]} θ0 [] {tmps:=(v::rest).toArray++Array.replicate (fd.ntmps-(v::rest).toArray.size) undef,defers:=[]} w:=by
  refine⟨A0h.refl _ w,fun b hb=>⟨hX b hb.1,hb.2⟩,⟨fun j b hb=> ?_,fun j k hjk hj hk=> ?_⟩,by rw[f3]; exact A5c hvE i.ntmps,trivial,rfl,fun _=>hθ⟩
  ·by_cases e:PIN=j
   ·subst e
    simp only[A0b,Nat.beq_refl,cond,Option.some.injEq]at hb
    subst hb
    rw[A0I]
    exact A9I hblk hθ.symm (fun b hb _=>by unfold A0F.may; rw[if_pos rfl]; exact hb)
   ·simp [A0b,A0c e]at hb
  ·have e1:PIN=j:=by
    by_cases e:PIN=j
    ·exact e
    ·simp [A0b,A0c e]at hj
   have e2:PIN=k:=by
    by_cases e:PIN=k
    ·exact e
    ·simp [A0b,A0c e]at hk
   exact absurd (e1.symm.trans e2) hjk
 have ih:=A3G hG hT depth (w0:=w0) (Xo:=Xo) (R:=c.k.den×A2K c.sh)
 refine wp_mono (A0G hT.tab ih (A4i hT.tab ⟨hG,hT.con,hT.tak,hT.inp⟩ hT.mixed ih z) i.code _ θ0 _ w _ hp hrel) fun e ac w' ⟨xe,σ',θ',hx,h',hp'⟩=> ?_
 subst hx
 have fin:B2f cx i c.k c.sh .ret σ'=some z→ac.defers=[]∧∃v,(results fd ac.tmps).run P w'= .ok v w'∧∃u,Ending.returned v= .returned u∧A0h (fun b=>A0e θ1 0 b) w w'∧
   ∃θ,A1e w' (A0d X θ (mkH c.sh z.2)) θ (fun _ b=>w.heap.size≤b) (mkH c.sh z.2)∧A0g w' (A0d X θ (mkH c.sh z.2)) θ (A2o c.sh z.2) u∧A0A w' (A0d X θ (mkH c.sh z.2)) θ1 (fun _ _=>True) 0 (c.k.blk z.1):=by
  intro hfin
  simp only[B2f]at hfin
  split at hfin
  ·rename_i tv htv
   split at hfin
   ·rename_i j p' x' y hb hy
    simp only[Option.some.injEq]at hfin
    subst hfin
    obtain⟨val,g1,g2⟩:=A5g hT.tab.c h' f4 hfew htv
    obtain⟨_,b1,b2⟩:=B1R h'.heap hb
    have hpin:θ' PIN=θ1 0:=h'.pin b2
    have hdelg:∀k,A0b (A2d σ'.heap PIN) k=if k=PIN then none else A0b σ'.heap k:=fun k=>A1a _ _ _
    have hset':A0d Xo θ' σ'.heap=A0d X θ' (A2d σ'.heap PIN):=by
     funext b
     apply propext
     constructor
     ·rintro (⟨hb,_⟩|⟨k,h1,h2⟩)
      ·exact .inl hb
      ·by_cases e:k=PIN
       ·subst e; exact .inl (hX1 b (by simpa[A0e,hpin]using h2))
       ·exact .inr ⟨k,by rw[hdelg,if_neg e]; exact h1,h2⟩
     ·rintro (hb|⟨k,h1,h2⟩)
      ·by_cases e:A0e θ1 0 b
       ·exact .inr ⟨PIN,b2,by simpa[A0e,hpin]using e⟩
       ·exact .inl ⟨hb,e⟩
      ·rw [hdelg]at h1
       split at h1
       ·cases h1
       ·exact .inr ⟨k,h1,h2⟩
    have hH:A1e w' (A0d X θ' (A2d σ'.heap PIN)) θ' (fun _ b=>w.heap.size≤b) (A2d σ'.heap PIN):=by
     refine⟨fun k b hb=> ?_,fun k l hkl hk hl b=> ?_⟩
     ·rw [hdelg]at hb
      split at hb
      ·cases hb
      ·rename_i e
       have:=h'.heap.blk k b hb
       rw[hset']at this
       have hm:∀g,w0.may k g→w.heap.size≤g:=fun g hg=>by unfold A0F.may at hg; rw[if_neg e]at hg; exact hg.elim id (fun q=>by cases q.1)
       cases b with
       |var t cc=>obtain⟨g,C,E,q1,q2,q3⟩:=this; exact⟨g,C,E,q1,hm g q2,q3⟩
       |arr E s xs=>obtain⟨u,ds,q1,q2,q3⟩:=this; exact⟨u,ds,q1,A2i q2.row (fun g hg=>hm g (q2.may g hg)),q3⟩
       |tre E s xs=>obtain⟨sk,L,u,q1,q2,q3⟩:=this; exact⟨sk,L,u,q1,q2,q3.go (.sl E s) _ _ _ _ (fun _ _=>rfl) (fun b _ hb=>hm b hb)⟩
       |map km vm xs=>obtain⟨g,es,clock,q1,q2,q3⟩:=this; exact⟨g,es,clock,q1,hm g q2,q3⟩
     ·rw [hdelg]at hk hl
      split at hk
      ·cases hk
      ·split at hl
       ·cases hl
       ·exact h'.heap.inj k l hkl hk hl b
    rw[hset']at g2
    obtain⟨θ2,r1,r2,r3⟩:=A5q (M0:=fun b=>w.heap.size≤b) hH (fun b hb (hle:w.heap.size≤b)=>absurd (hX b hb) (by omega)) hy g2
    refine⟨h'.defers,val,g1,val,rfl,h'.keeps,θ2,r1,r2,?_⟩
    have b3:=A9I (θ2:=θ1) (j:=0) (M':=fun _ _=>True) b1 hpin (fun _ _ _=>trivial)
    rw[hset']at b3
    exact B2H b3 r3
   ·cases hfin
  ·cases hfin
 cases xe with
 |exit j=>simp[B2f]at hp'
 |normal=>exact fin hp'
 |ret=>exact fin hp'
end Go.Ai

