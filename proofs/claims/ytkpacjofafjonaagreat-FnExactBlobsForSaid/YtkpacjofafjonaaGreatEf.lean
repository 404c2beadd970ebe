/- An abstract machine over plain values for the model, and that it is sound. No conditions. -/
import Derived.Test.YtkpacjofafjonaaGreatEe
/- Whatever order a region draws. -/
namespace Go.Ai
open Go.RowKit
variable {P:Program} {cx:Cx} {w0:Base} {Xo:Nat→Prop} {σ:St} {θ:Nat→Option Own} {as:List (Array Value)} {a:Act} {w:World} {X X':Nat→Prop} {R:Type} {r:R} {base:Nat→Nat→Prop}
variable {ops:Array Oper} {n lev:Nat} {fn:FuncId}
def headDone(m:Nat)(listed:Array Bool):Prop:=∀j,j<m→listed.getD j true=true
theorem offB_spec{d:Option Tmp}{l:List Nat}(h:offB d l=true):∀t,d=some t→t∉l:=by
 intro t ht hm
 subst ht
 simp only[offB,Bool.not_eq_true',List.any_eq_false]at h
 exact h t hm (Nat.beq_refl t)
theorem apartB_spec{l:List Oper}{x y:Oper}(h:apartB l x y=true):(∀ t,x.dst=some t→t∉looks l y)∧(∀ t,y.dst=some t→t∉looks l x)∧(∀ s t,x.dst=some s→y.dst=some t→s≠t):=by
 simp only[apartB,Bool.and_eq_true]at h
 obtain⟨⟨h1,h2⟩,h3⟩:=h
 refine⟨offB_spec h1,offB_spec h2,fun s t hs ht e=> ?_⟩
 rw[hs,ht]at h3
 simp only[Bool.not_eq_true']at h3
 subst e
 rw[Nat.beq_refl]at h3
 cases h3
theorem put_getD{σ:St}{d:Option Tmp}{tv:TV}{t:Nat}(h:∀s,d=some s→s≠t):(σ.put d tv).env.getD t .dead=σ.env.getD t .dead:=by
 cases d with
 |none=>rfl
 |some s=>simp[St.put,List.getElem?_set_ne (h s rfl)]
theorem put_heap(σ:St)(d:Option Tmp)(tv:TV):(σ.put d tv).heap=σ.heap:=by cases d<;>rfl
theorem put_comm(σ:St){d e:Option Tmp}(tv tw:TV)(h:∀s t,d=some s→e=some t→s≠t):(σ.put d tv).put e tw=(σ.put e tw).put d tv:=by
 cases d with
 |none=>rfl
 |some s=>cases e with
  |none=>rfl
  |some t=>simp only[St.put]; congr 1; rw[List.set_comm]; exact h s t rfl rfl
structure Upto (ops:Array Oper) (listed:Array Bool) (k:Nat):Prop where
 size:listed.size=ops.size
 is:∀j,j<k→j<ops.size→listed.getD j false=true
 isnt:∀j,k≤j→j<ops.size→listed.getD j true=false
theorem Upto.set{listed:Array Bool}{k:Nat}(h:Upto ops listed k)(hk:k<ops.size):Upto ops (listed.setIfInBounds k true) (k+1):=by
 refine⟨by simp[h.size],fun j hj hs=> ?_,fun j hj hs=>by rw[getD_set_ne true (by omega)]; exact h.isnt j (by omega) hs⟩
 by_cases e:k=j
 ·subst e; simp[h.size,hk]
 ·exact getD_set_true (h.is j (by omega) hs)
theorem edges_spec{o:Oper}{k:Nat}(h:(o.after.toList.all fun e=> !Region.binds .any e||Nat.blt e.on k)=true):∀e∈o.after,Region.binds .any e=true→e.on<k:=by
 intro e he hb
 have:=List.all_eq_true.1 h e (Array.mem_toList_iff.2 he)
 simpa[hb,Nat.blt_eq]using this
theorem waitsB_spec{o:Oper}{i:Nat}(h:waitsB o i=true):∃e∈o.after,Region.binds .any e=true∧e.on=i:=by
 unfold waitsB at h
 obtain⟨e,he,hb⟩:=List.any_eq_true.1 h
 simp only[Bool.and_eq_true]at hb
 exact⟨e,Array.mem_toList_iff.1 he,hb.1,beq_iff.1 hb.2⟩
theorem waitsFor_of{j i:Nat}{o:Oper}(ho:ops[j]? =some o)(h:waitsB o i=true):Region.waitsFor .any ops j i=true:=by
 obtain⟨e,he,hb,hon⟩:=waitsB_spec h
 unfold Region.waitsFor
 simp only[ho]
 exact Array.any_eq_true'.2 ⟨e,he,by simp[hb,hon]⟩
theorem Upto.ready{listed:Array Bool}{k:Nat}{o:Oper}(h:Upto ops listed k)(ho:ops[k]? =some o)(he:∀e∈o.after,Region.binds .any e=true→e.on<k):k∈Region.ready .any ops listed:=by
 have hk:k<ops.size:=(Array.getElem?_eq_some_iff.1 ho).1
 exact mem_ready.2 ⟨h.isnt k (Nat.le_refl _) hk,o,ho,fun e hm hb=>h.is e.on (he e hm hb) (by have:=he e hm hb; omega)⟩
theorem wpAny_tail(hT:TabOk P cx){call:CallK R}(hcall:CallOk P w0 Xo call){Q':Exit→Act→World→Prop}{K:St→Option R}(hQ:∀σ θ a w,K σ=some r→Rel w0 Xo σ θ as a w→Q' .normal a w):
  ∀(l:List Oper) (k g:Nat) (listed:Array Bool) (σ:St) (θ:Nat→Option Own) (a:Act) (w:World),(∀ j,l[j]? =ops[k+j]?)→l.length≤g→Upto ops listed k→
  (∀ (j:Nat) oj,l[j]? =some oj→(∀ e∈oj.after,Region.binds .any e=true→e.on<k+j)∧(0<j→waitsB oj (k+j-1)=true))→
  opsK cx call lev fn false ops.toList l σ K=some r→Rel w0 Xo σ θ as a w→wpAny P .any ops Q' g listed a w
 | [],k,g,listed,σ,θ,a,w,hl,_,hu,_,hp,hr=>by
  have hnil:Region.ready .any ops listed=[]:=by
   cases hr:Region.ready .any ops listed with
   |nil=>rfl
   |cons j js=>
    have hj:j∈Region.ready .any ops listed:=by rw[hr]; simp
    obtain⟨hjun,oj,hoj,_⟩:=mem_ready.1 hj
    have hjs:j<ops.size:=(Array.getElem?_eq_some_iff.1 hoj).1
    have hks:ops.size≤k:=by
     have:=hl 0
     simp only[List.getElem?_nil,Nat.add_zero]at this
     exact Array.getElem?_eq_none_iff.1 this.symm
    have:=hu.is j (by omega) hjs
    simp[hu.size,hjs]at this hjun
    rw[this]at hjun; cases hjun
  have hq:=hQ σ θ a w hp hr
  cases g with
  |zero=>exact⟨hnil,hq⟩
  |succ g=>exact⟨fun _=>hq,fun i hi=>by rw[hnil]at hi; cases hi⟩
 |o::l,k,0,listed,σ,θ,a,w,hl,hg,hu,hw,hp,hr=>by simp at hg
 |o::l,k,g+1,listed,σ,θ,a,w,hl,hg,hu,hw,hp,hr=>by
  have h0:ops[k]? =some o:=by simpa using(hl 0).symm
  have hk:k<ops.size:=(Array.getElem?_eq_some_iff.1 h0).1
  have hready:=hu.ready h0 (hw 0 o rfl).1
  refine⟨fun h=>(by rw[h]at hready; cases hready),fun i hi=> ?_⟩
  have hik:i=k:=by
   obtain⟨hiun,oi,hoi,hall⟩:=mem_ready.1 hi
   have his:i<ops.size:=(Array.getElem?_eq_some_iff.1 hoi).1
   rcases Nat.lt_trichotomy i k with h|h|h
   ·have:=hu.is i h his
    simp[hu.size,his]at this hiun
    rw[this]at hiun; cases hiun
   ·exact h
   ·have hli:(o::l)[i-k]? =some oi:=by rw[hl (i-k),show k+(i-k)=i by omega]; exact hoi
    have hwi:=(hw (i-k) oi hli).2 (by omega)
    obtain⟨e,he,hb,hon⟩:=waitsB_spec hwi
    have h1:=hall e he hb
    have h2:=hu.isnt e.on (by omega) (by omega)
    rw[getD_both h2]at h1
    cases h1
  subst hik
  simp only[opsK]at hp
  have:=opG_sound hT hcall hr hp (Q:=Q') (K':=wpAny P .any ops Q' g (listed.setIfInBounds i true)) fun σ' θ' a' w' k1 k2=>
   wpAny_tail hT hcall hQ l (i+1) g _ σ' θ' a' w' (fun j=>by have:=hl (j+1); simpa[Nat.add_assoc,Nat.add_comm 1 j]using this) (by simpa using hg) (hu.set hk)
    (fun j oj hj=>by
     have:=hw (j+1) oj (by simpa using hj)
     refine⟨fun e he hb=>by have:=this.1 e he hb; omega,fun hj0=> ?_⟩
     have h2:=this.2 (by omega)
     rw[show i+1+j-1=i+(j+1)-1 by omega]; exact h2) k1 k2
  unfold wpOp
  simp only[h0]
  split
  ·rename_i hw; simp only[hw,if_true]at this; exact .inl this
  ·rename_i hw; simp only[hw]at this; exact this
theorem upto_of_done{m:Nat}{listed:Array Bool}(hm:m≤ops.size)(inv:HeadInv .any ops m listed)(h:headDone m listed):Upto ops listed m:=
 ⟨inv.size,fun j hj hs=>by
  have h1:=h j hj
  have:j<listed.size:=by rw[inv.size]; exact hs
  simpa[this]using h1,fun j hj hs=>inv.tail j hj hs⟩
end Go.Ai
namespace Go.Ai
open Go.RowKit
variable {P:Program} {cx:Cx} {w0:Base} {Xo:Nat→Prop} {σ:St} {θ:Nat→Option Own} {as:List (Array Value)} {a:Act} {w:World} {R:Type} {r:R}
variable {ops:Array Oper} {n lev:Nat} {fn:FuncId}
theorem headB_spec{L:List Oper}:∀(m k:Nat) (l:List Oper),headB cx L m k l=true→∀(j:Nat) oj,l[j]? =some oj→j<m→
  (isStore cx oj.op=true→∀(i:Nat) oi,l[i]? =some oi→j<i→i<m→isStore cx oi.op=true→waitsB oi (k+j)=true)∧(∀ e∈oj.after,Region.binds .any e=true→e.on<k+j)∧∀(i:Nat) oi,l[i]? =some oi→j<i→waitsB oi (k+j)=true∨apartB L oj oi=true
 |0,k,l,_,j,oj,_,hj=>by omega
 |m+1,k,[],_,j,oj,hl,_=>by simp at hl
 |m+1,k,o::l,h,j,oj,hl,hj=>by
  simp only[headB,Bool.and_eq_true]at h
  obtain⟨⟨⟨h0,h1⟩,h2⟩,h3⟩:=h
  cases j with
  |zero=>
   simp only[List.getElem?_cons_zero,Option.some.injEq]at hl
   subst hl
   refine⟨fun hs i oi hi hlt him hsi=> ?_,edges_spec h1,fun i oi hi hlt=> ?_⟩
   ·simp only[hs,Bool.not_true,Bool.false_or]at h0
    cases i with
    |zero=>omega
    |succ i=>
     simp only[List.getElem?_cons_succ]at hi
     have hm:oi∈l.take m:=by
      refine List.mem_of_getElem? (i:=i) ?_
      rw[List.getElem?_take_of_lt (by omega)]; exact hi
     have:=List.all_eq_true.1 h0 oi hm
     simpa[hsi]using this
   cases i with
   |zero=>omega
   |succ i=>
    simp only[List.getElem?_cons_succ]at hi
    have:=List.all_eq_true.1 h2 oi (List.mem_of_getElem? hi)
    simpa using this
  |succ j=>
   simp only[List.getElem?_cons_succ]at hl
   obtain⟨g0,g1,g2⟩:=headB_spec m (k+1) l h3 j oj hl (by omega)
   refine⟨fun hs i oi hi hlt him hsi=> ?_,fun e he hb=>by have:=g1 e he hb; omega,fun i oi hi hlt=> ?_⟩
   ·cases i with
    |zero=>omega
    |succ i=>
     simp only[List.getElem?_cons_succ]at hi
     have:=g0 hs i oi hi (by omega) (by omega) hsi
     rwa [show k+1+j=k+(j+1) by omega]at this
   cases i with
   |zero=>omega
   |succ i=>
    simp only[List.getElem?_cons_succ]at hi
    have:=g2 i oi hi (by omega)
    rwa [show k+1+j=k+(j+1) by omega]at this
theorem sinkB_spec{rel:Bool}:∀(m k:Nat) (l:List Oper),sinkB rel k l m=true→m<l.length→∀j,j<m→(∃ i oi,l[i]? =some oi∧j<i∧i≤m∧waitsB oi (k+j)=true)∨(rel=true∧∃oj,l[j]? =some oj∧isCopy oj=true)
 |0,k,l,_,_,j,hj=>by omega
 |m+1,k,[],_,hm,_,_=>by simp at hm
 |m+1,k,o::l,h,hm,j,hj=>by
  simp only[sinkB,Bool.and_eq_true,Bool.or_eq_true]at h
  obtain⟨h1,h2⟩:=h
  cases j with
  |zero=>
   rcases h1 with h1|h1
   ·exact .inr ⟨h1.1,o,rfl,h1.2⟩
   obtain⟨oi,hmem,hw⟩:=List.any_eq_true.1 h1
   obtain⟨i,hi⟩:=List.getElem?_of_mem hmem
   rw[List.getElem?_take]at hi
   split at hi
   ·exact .inl ⟨i+1,oi,by simpa using hi,by omega,by omega,hw⟩
   ·cases hi
  |succ j=>
   rcases sinkB_spec m (k+1) l h2 (by simpa using hm) j (by omega)with⟨i,oi,g1,g2,g3,g4⟩|⟨g1,oj,g2,g3⟩
   ·exact .inl ⟨i+1,oi,by simpa using g1,by omega,by omega,by rwa [show k+1+j=k+(j+1) by omega]at g4⟩
   ·exact .inr ⟨g1,oj,by simpa using g2,g3⟩
theorem tailB_spec:∀(k:Nat) (l:List Oper),tailB k l=true→∀(j:Nat) oj,l[j]? =some oj→(∀ e∈oj.after,Region.binds .any e=true→e.on<k+j)∧waitsB oj (k+j-1)=true
 |k,[],_,j,oj,h=>by simp at h
 |k,o::l,h,j,oj,hj=>by
  simp only[tailB,Bool.and_eq_true]at h
  obtain⟨⟨h1,h2⟩,h3⟩:=h
  cases j with
  |zero=>
   simp only[List.getElem?_cons_zero,Option.some.injEq]at hj
   subst hj
   exact⟨edges_spec h1,h2⟩
  |succ j=>
   simp only[List.getElem?_cons_succ]at hj
   obtain⟨g1,g2⟩:=tailB_spec (k+1) l h3 j oj hj
   exact⟨fun e he hb=>by have:=g1 e he hb; omega,by rwa [show k+1+j-1=k+(j+1)-1 by omega]at g2⟩
structure DrawSpec (cx:Cx) (ops:Array Oper) (m:Nat):Prop where
 le:m≤ops.size
 store:∀j oj i oi,ops[j]? =some oj→isStore cx oj.op=true→ops[i]? =some oi→j<i→i<m→isStore cx oi.op=true→waitsB oi j=true
 edges:∀j oj,ops[j]? =some oj→∀e∈oj.after,Region.binds .any e=true→e.on<j
 apart:∀j oj i oi,ops[j]? =some oj→j<m→ops[i]? =some oi→j<i→waitsB oi j=true∨apartB ops.toList oj oi=true
 tail:∀j oj,ops[j]? =some oj→m<j→waitsB oj (j-1)=true
 chain:m<ops.size→Region.chainB .any ops m=true
 sink:m<ops.size→∀j,j<m→(∃ i,j<i∧i≤m∧Region.waitsFor .any ops i j=true)∨(relB cx ops.toList=true∧∃oj,ops[j]? =some oj∧isCopy oj=true)
theorem drawB_spec(h:drawB cx ops.toList=true):DrawSpec cx ops (drawN cx ops.toList):=by
 simp only[drawB,splitB,Bool.and_eq_true]at h
 obtain⟨⟨h2,h1⟩,hn⟩:=h
 have hle:drawN cx ops.toList≤ops.size:=by simpa using Nat.le_of_ble_eq_true hn
 have hd:=headB_spec (L:=ops.toList) (drawN cx ops.toList) 0 ops.toList h1
 have tl:∀j oj,ops[j]? =some oj→drawN cx ops.toList≤j→(∀ e∈oj.after,Region.binds .any e=true→e.on<j)∧(drawN cx ops.toList<j→waitsB oj (j-1)=true)∧sinkB (relB cx ops.toList) 0 ops.toList (drawN cx ops.toList)=true:=by
  intro j oj hj hmj
  have hjl:ops.toList[j]? =some oj:=by simpa using hj
  split at h2
  ·rename_i hnil
   have:(ops.toList.drop (drawN cx ops.toList))[j-drawN cx ops.toList]? =some oj:=by rw[List.getElem?_drop,show drawN cx ops.toList+(j-drawN cx ops.toList)=j by omega]; exact hjl
   rw[hnil]at this; simp at this
  ·rename_i o l hcons
   simp only[Bool.and_eq_true]at h2
   obtain⟨⟨g1,g3⟩,g2⟩:=h2
   have hget:(o::l)[j-drawN cx ops.toList]? =some oj:=by
    rw[← hcons,List.getElem?_drop,show drawN cx ops.toList+(j-drawN cx ops.toList)=j by omega]; exact hjl
   by_cases e:j=drawN cx ops.toList
   ·rw [e,Nat.sub_self]at hget
    simp only[List.getElem?_cons_zero,Option.some.injEq]at hget
    subst hget
    refine⟨by rw[e]; exact edges_spec g1,fun h=>by omega,g2⟩
   ·obtain ⟨d,hd⟩:∃d,j-drawN cx ops.toList=d+1:=⟨j-drawN cx ops.toList-1,by omega⟩
    rw[hd]at hget
    simp only[List.getElem?_cons_succ]at hget
    obtain⟨k1,k2⟩:=tailB_spec _ l g3 d oj hget
    have hj':drawN cx ops.toList+1+d=j:=by omega
    rw[hj']at k1 k2
    exact⟨k1,fun _=>k2,g2⟩
 refine⟨hle,fun j oj i oi hj hs hi hji him hsi=>by
  have:=(hd j oj (by simpa using hj) (by omega)).1 hs i oi (by simpa using hi) hji him hsi
  rwa [Nat.zero_add]at this,fun j oj hj e he hb=> ?_,fun j oj i oi hj hjm hi hji=> ?_,fun j oj hj hmj=>(tl j oj hj (by omega)).2.1 hmj,fun hm=> ?_,fun hm i hi=> ?_⟩
 ·by_cases hjm:j<drawN cx ops.toList
  ·have:=(hd j oj (by simpa using hj) hjm).2.1 e he hb; omega
  ·exact (tl j oj hj (by omega)).1 e he hb
 ·have:=(hd j oj (by simpa using hj) hjm).2.2 i oi (by simpa using hi) hji
  rwa [Nat.zero_add]at this
 ·unfold Region.chainB
  rw[List.all_eq_true]
  intro t ht
  have ht:=List.mem_range.1 ht
  by_cases h:t≤drawN cx ops.toList
  ·simp [h]
  ·have ho:ops[t]? =some ops[t]:=by simp[ht]
   simp[waitsFor_of ho ((tl t _ ho (by omega)).2.1 (by omega))]
 ·have hm2:ops[drawN cx ops.toList]? =some ops[drawN cx ops.toList]:=by simp[hm]
  have hs:=(tl _ _ hm2 (Nat.le_refl _)).2.2
  rcases sinkB_spec _ 0 ops.toList hs (by simpa using hm) i hi with⟨j,oj,g1,g2,g3,g4⟩|⟨g1,oj,g2,g3⟩
  ·rw [Nat.zero_add]at g4
   exact .inl ⟨j,g2,g3,waitsFor_of (by simpa using g1) g4⟩
  ·exact .inr ⟨g1,oj,by simpa using g2,g3⟩
theorem tail_waits2{n:Nat}{listed:Array Bool}(hs:∀i,i<n→listed.getD i true=false→∃j,i<j∧j≤n∧Region.waitsFor .any ops j i=true)(hc:Region.chainB .any ops n=true)(hn:n<ops.size)(inv:HeadInv .any ops n listed):
  ∀(d i:Nat),n-i=d→i<n→listed.getD i true=false→∀t,n≤t→t∉Region.ready .any ops listed:=by
 intro d
 induction d using Nat.strongRecOn with
 |_ d ih=>
  intro i hd hi hun t ht hr
  obtain⟨_,ot,hot,hall⟩:=mem_ready.1 hr
  have htlt:t<ops.size:=(Array.getElem?_eq_some_iff.1 hot).1
  by_cases htn:t=n
  ·subst htn
   obtain⟨j,hj1,hj,hj2⟩:=hs i hi hun
   obtain⟨oj,hoj,e,he,hb,hon⟩:=Region.waitsFor_spec hj2
   by_cases hjt:j=t
   ·subst hjt
    have:oj=ot:=Option.some.inj (hoj.symm.trans hot)
    subst this
    have h2:=hall e he hb
    rw[hon,getD_both hun]at h2
    cases h2
   ·cases hl:listed.getD j false with
    |true=>
     have h2:=inv.closed j oj hoj hl e he hb
     rw[hon,getD_both hun]at h2
     cases h2
    |false=>
     have hjs:j<listed.size:=by rw[inv.size]; omega
     exact ih (t-j) (by omega) j rfl (by omega) (getD_in hjs hl) t (Nat.le_refl _) hr
  ·have h1:=List.all_eq_true.1 hc t (List.mem_range.2 htlt)
   simp only[Bool.or_eq_true,decide_eq_true_eq]at h1
   rcases h1 with h1|h1
   ·omega
   ·obtain ⟨o',ho',e,he,hb,hon⟩:=Region.waitsFor_spec h1
    have:o'=ot:=Option.some.inj (ho'.symm.trans hot)
    subst this
    have h2:=hall e he hb
    rw[hon,getD_both (inv.tail (t-1) (by omega) (by omega))]at h2
    cases h2
theorem offB_of{d:Option Tmp}{l:List Nat}(h:∀t,d=some t→t∉l):offB d l=true:=by
 cases d with
 |none=>rfl
 |some t=>
  simp only[offB,Bool.not_eq_true',List.any_eq_false]
  intro x hx hb
  exact h t rfl ((beq_iff.1 hb)▸hx)
theorem looks_eq(y:Oper):y.looksAt ops=looks ops.toList y:=by
 unfold Oper.looksAt looks
 congr 1
 ·generalize y.op.operands.toList=l
  induction l with
  |nil=>rfl
  |cons x l ih=>cases x<;>simp[tmpsOf,ih]
 ·cases y.guard with
  |none=>rfl
  |some q=>
   obtain⟨g,b⟩:=q
   simp only[Array.getElem?_toList]
   cases(ops[g]?).bind (·.dst)<;>rfl
theorem apart_of{x y:Oper}(h:apartB ops.toList x y=true):x.apart ops y=true:=by
 obtain⟨h1,h2,h3⟩:=apartB_spec h
 unfold Oper.apart
 rw[looks_eq,looks_eq]
 cases hx:x.dst with
 |none=>
  cases hy:y.dst with
  |none=>rfl
  |some t=>simpa[hy]using h2 t hy
 |some s=>
  have e1:=h1 s hx
  cases hy:y.dst with
  |none=>simpa[hy]using e1
  |some t=>
   have e2:=h2 t hy
   have e3:=h3 s t hx hy
   simp[hy,e1,e2,Ne.symm e3]
end Go.Ai
/- Whatever order a head comes up in: the state is the one of the text's order,as far as it has come up. -/
namespace Go.Ai
open Go.RowKit
variable {P:Program} {cx:Cx} {w0:Base} {Xo:Nat→Prop} {σ:St} {θ:Nat→Option Own} {as:List (Array Value)} {a:Act} {w:World} {X X':Nat→Prop} {R:Type} {r:R} {base:Nat→Nat→Prop}
variable {ops:Array Oper} {n lev:Nat} {fn:FuncId}
abbrev Told:=TV×List Nat×Heap×Option (Nat×Blk)
def app1(o:Oper)(x:Told)(σ:St):St:=((σ.eff x.2.1 x.2.2.1).wr x.2.2.2).put o.dst x.1
def canon(ops:Array Oper)(f:Nat→Told)(L:Nat→Bool)(σ0:St):Nat→St
 |0=>σ0
 |k+1=>match ops[k]? with
  |some o=>cond (L k) (app1 o (f k) (canon ops f L σ0 k)) (canon ops f L σ0 k)
  |none=>canon ops f L σ0 k
def madeL(ops:Array Oper)(f:Nat→Told):Nat→List Made
 |0=>[]
 |k+1=>match ops[k]? with
  |some o=>(o.dst,(f k).1.ids,(f k).2.2.1)::madeL ops f k
  |none=>madeL ops f k
theorem canon_congr{f f':Nat→Told}{L L':Nat→Bool}{σ0:St}:∀k,(∀ i,i<k→f i=f' i)→(∀ i,i<k→L i=L' i)→canon ops f L σ0 k=canon ops f' L' σ0 k
 |0,_,_=>rfl
 |k+1,h,h'=>by
  simp only[canon]
  rw[canon_congr k (fun i hi=>h i (by omega)) (fun i hi=>h' i (by omega)),h k (by omega),h' k (by omega)]
theorem madeL_congr{f f':Nat→Told}:∀k,(∀ i,i<k→f i=f' i)→madeL ops f k=madeL ops f' k
 |0,_=>rfl
 |k+1,h=>by
  simp only[madeL]
  rw[madeL_congr k (fun i hi=>h i (by omega)),h k (by omega)]
structure HeadRun (cx:Cx) (R:Type) (lev:Nat) (ops:Array Oper) (m:Nat) (σ0:St) (HD:Hid) (f:Nat→Told) (k:Nat) (o:Oper):Prop where
 mono:∀(τ:St) (K:St→KD R),ExtL (seeH cx ops.toList HD σ0 (canon ops f (fun _=>true) σ0 k) (madeL ops f k) k o) τ.heap (cond (isLoad o.op&&(f k).1.noBad) (ldOf (canon ops f (fun _=>true) σ0 k) o) [])→(∀ t∈looks ops.toList o,τ.env.getD t .dead=(canon ops f (fun _=>true) σ0 k).env.getD t .dead)→
  opGD cx lev (ownB cx ops.toList m o) ops.toList τ o K=K τ (f k).1 (f k).2.1 (f k).2.2.1 (f k).2.2.2
 ok:headOk cx ops.toList m σ0 HD (canon ops f (fun _=>true) σ0 k).heap (madeL ops f k) k o (f k).1 (f k).2.1 (f k).2.2.1 (f k).2.2.2=true
 hid:hidB ops.toList σ0 (canon ops f (fun _=>true) σ0 k) HD (madeL ops f k) k o (f k).1 (f k).2.2.2=true
theorem HeadRun.congr{m:Nat}{σ0:St}{HD:Hid}{f f':Nat→Told}{k:Nat}{o:Oper}(h:HeadRun cx R lev ops m σ0 HD f k o)(hf:∀i,i≤k→f i=f' i):HeadRun cx R lev ops m σ0 HD f' k o:=by
 have e1:=madeL_congr (ops:=ops) k (fun i hi=>hf i (Nat.le_of_lt hi))
 have e2:=canon_congr (ops:=ops) (L:=fun _=>true) (L':=fun _=>true) (σ0:=σ0) k (fun i hi=>hf i (Nat.le_of_lt hi)) (fun _ _=>rfl)
 have e3:=hf k (Nat.le_refl _)
 obtain⟨h1,h2,h3⟩:=h
 rw[e1,e2,e3]at h1
 rw[e1,e2,e3]at h2
 rw[e1,e2,e3]at h3
 exact⟨h1,h2,h3⟩
theorem headK_run{m:Nat}{σ0:St}{HD:Hid}{K:St→Option R}:∀(l:List Oper) (k:Nat) (f:Nat→Told),(∀ j,j<l.length→l[j]? =ops[k+j]?)→k+l.length=m→
  headK cx lev ops.toList m σ0 HD l k (madeL ops f k) (canon ops f (fun _=>true) σ0 k) K=some r→
  ∃g:Nat→Told,(∀ i,i<k→g i=f i)∧(∀ j o,k≤j→j<m→ops[j]? =some o→HeadRun cx R lev ops m σ0 HD g j o)∧K (canon ops g (fun _=>true) σ0 m)=some r
 | [],k,f,hl,hk,hp=>by
  have hk:k=m:=by simpa using hk
  subst hk
  exact⟨f,fun _ _=>rfl,fun j o h1 h2=>by omega,hp⟩
 |o::l,k,f,hl,hk,hp=>by
  simp only[List.length_cons]at hk hl
  have h0:ops[k]? =some o:=by have:=hl 0 (by omega); simpa using this.symm
  simp only[headK]at hp
  obtain⟨tv,D,A,W,k1,k2⟩:=opGD_monoL hp
  obtain⟨k3,k4⟩:=cond_some k1
  rw[Bool.and_eq_true]at k3
  let f1:Nat→Told:=fun i=>if i=k then(tv,D,A,W)else f i
  have hf1:∀i,i<k→f1 i=f i:=fun i hi=>by simp[f1,show i≠k by omega]
  have hk1:f1 k=(tv,D,A,W):=by simp[f1]
  have em:madeL ops f1 (k+1)=(o.dst,tv.ids,A)::madeL ops f k:=by simp only[madeL,h0,hk1,madeL_congr k hf1]
  have ec:canon ops f1 (fun _=>true) σ0 (k+1)=(((canon ops f (fun _=>true) σ0 k).eff D A).wr W).put o.dst tv:=by
   simp only[canon,h0,hk1,cond_true,app1]
   rw[canon_congr (L':=fun _=>true) k hf1 (fun _ _=>rfl)]
  have hrun:HeadRun cx R lev ops m σ0 HD f1 k o:=by
   refine⟨fun τ K' H hev=> ?_,?_,?_⟩
   ·rw [madeL_congr k hf1,canon_congr (L':=fun _=>true) k hf1 (fun _ _=>rfl),hk1]at H
    rw[canon_congr (L':=fun _=>true) k hf1 (fun _ _=>rfl)]at hev
    rw[hk1]
    exact k2 τ K' H hev
   ·rw [madeL_congr k hf1,canon_congr (L':=fun _=>true) k hf1 (fun _ _=>rfl),hk1]; exact k3.1
   ·rw [madeL_congr k hf1,canon_congr (L':=fun _=>true) k hf1 (fun _ _=>rfl),hk1]; exact k3.2
  obtain⟨g,g1,g2,g3⟩:=headK_run (m:=m) (σ0:=σ0) (HD:=HD) (K:=K) l (k+1) f1 (fun j (hj:j<l.length)=>by have:=hl (j+1) (by omega); simpa[Nat.add_assoc,Nat.add_comm 1 j]using this) (by omega) (by rw[em,ec]; exact k4)
  refine⟨g,fun i hi=>(g1 i (by omega)).trans (hf1 i hi),fun j oj hj hjm hoj=> ?_,g3⟩
  by_cases e:j=k
  ·subst e
   rw[h0]at hoj; injection hoj with hoj; subst hoj
   exact hrun.congr fun i hi=>(g1 i (by omega)).symm
  ·exact g2 j oj (by omega) hjm hoj
theorem keys_get:∀(H:Heap) (x:Nat),x∈keysOf H↔(hget H x).isSome=true
 | [],x=>by simp[keysOf,hget]
 |(i,b)::H,x=>by
  simp only[keysOf,List.mem_cons,hget]
  by_cases e:i=x
  ·subst e; simp
  ·simp only[beq_false e,cond,keys_get H x]
   simp[Ne.symm e]
theorem keys_none{H:Heap}{x:Nat}(h:x∉keysOf H):hget H x=none:=by
 cases hg:hget H x with
 |none=>rfl
 |some b=>exact absurd ((keys_get H x).2 (by simp[hg])) h
theorem any_beq{l:List Nat}{x:Nat}:l.any (Nat.beq x)=true↔x∈l:=by
 rw[List.any_eq_true]
 constructor
 ·rintro ⟨y,hy,he⟩; rw[beq_iff.1 he]; exact hy
 ·intro h; exact⟨x,h,Nat.beq_refl x⟩
theorem get_ids:∀(H:Heap) (i:Nat) (b:Blk),hget H i=some b→∀x∈b.ids,x∈contIds H
 | [],i,b,h,x,_=>by simp[hget]at h
 |(k,c)::H,i,b,h,x,hx=>by
  simp only[contIds,List.mem_append]
  simp only[hget]at h
  by_cases e:k=i
  ·simp only[beq_iff.2 e,cond,Option.some.injEq]at h; subst h; exact .inl hx
  ·simp only[beq_false e,cond]at h; exact .inr (get_ids H i b h x hx)
theorem killAll_app:∀(l m:List Nat) (v:TV),killAll m (killAll l v)=killAll (l++m) v
 | [],_,_=>rfl
 |i::l,m,v=>by simp only[List.cons_append,killAll]; exact killAll_app l m _
theorem blk_off{l:List Nat}{b:Blk}(h:∀x∈l,x∉b.ids):Blk.mapc (killAll l) b=b:=by
 cases b with
 |var t c=>simp only[Blk.mapc]; rw[killAll_off l c h]
 |_=>rfl
theorem lookB_iff{d:Option Tmp}{l:List Nat}:lookB d l=true↔∃t,d=some t∧t∈l:=by
 cases d with
 |none=>simp[lookB]
 |some t=>simp[lookB,any_beq]
theorem soleB_spec{L:List Oper}{m k:Nat}{d:Option Tmp}:∀(i:Nat) (l:List Oper),soleB L m k d i l=true→∀(j:Nat) q,l[j]? =some q→i+j<m→i+j≠k→lookB d (looks L q)=false
 |i,[],_,j,q,h,_,_=>by simp at h
 |i,p::l,h,j,q,hj,hm,hk=>by
  simp only[soleB,Bool.and_eq_true]at h
  obtain⟨h1,h2⟩:=h
  cases j with
  |zero=>
   simp only[List.getElem?_cons_zero,Option.some.injEq]at hj
   subst hj
   have e1:Nat.beq i k=false:=beq_false (by simpa using hk)
   have e2:Nat.ble m i=false:=by
    cases hb:Nat.ble m i with
    |false=>rfl
    |true=>have:=Nat.le_of_ble_eq_true hb; omega
   simpa[e1,e2]using h1
  |succ j=>
   simp only[List.getElem?_cons_succ]at hj
   exact soleB_spec (i+1) l h2 j q hj (by omega) (by omega)
theorem madeL_mem{f:Nat→Told}:∀k,∀q∈madeL ops f k,∃i o,i<k∧ops[i]? =some o∧q=(o.dst,(f i).1.ids,(f i).2.2.1)
 |0,q,h=>by simp[madeL]at h
 |k+1,q,h=>by
  simp only[madeL]at h
  split at h
  ·rename_i o ho
   rcases List.mem_cons.1 h with h|h
   ·exact ⟨k,o,by omega,ho,h⟩
   ·obtain ⟨i,o',h1,h2,h3⟩:=madeL_mem k q h
    exact⟨i,o',by omega,h2,h3⟩
  ·obtain ⟨i,o',h1,h2,h3⟩:=madeL_mem k q h
   exact⟨i,o',by omega,h2,h3⟩
theorem madeL_of{f:Nat→Told}:∀k i o,i<k→ops[i]? =some o→(o.dst,(f i).1.ids,(f i).2.2.1)∈madeL ops f k
 |0,i,o,h,_=>by omega
 |k+1,i,o,h,ho=>by
  simp only[madeL]
  by_cases e:i=k
  ·subst e; simp only[ho]; simp
  ·have:=madeL_of (f:=f) k i o (by omega) ho
   split
   ·exact List.mem_cons_of_mem _ this
   ·exact this
theorem seenL_mem{l:List Nat}{x:Nat}:∀(made:List Made),x∈seenL l made→∃q∈made,lookB q.1 l=true∧x∈q.2.1
 | [],h=>by simp[seenL]at h
 |q::made,h=>by
  simp only[seenL]at h
  cases hq:lookB q.1 l with
  |false=>
   rw[hq,cond_false]at h
   obtain⟨p,h1,h2⟩:=seenL_mem made h
   exact⟨p,by simp[h1],h2⟩
  |true=>
   rw[hq,cond_true]at h
   rcases List.mem_append.1 h with h|h
   ·exact ⟨q,by simp,hq,h⟩
   ·obtain ⟨p,h1,h2⟩:=seenL_mem made h
    exact⟨p,by simp[h1],h2⟩
theorem onlyH_get{c:List Nat}:∀(H:Heap) (x:Nat) (b:Blk),hget (onlyH c H) x=some b→hget H x=some b∧x∈c
 | [],x,b,h=>by simp[onlyH,hget]at h
 |(i,b')::H,x,b,h=>by
  simp only[onlyH]at h
  by_cases e:i=x
  ·subst e
   cases hc:c.any (Nat.beq i)with
   |true=>
    rw[hc,cond_true]at h
    simp only[hget,Nat.beq_refl,cond]at h⊢
    exact⟨h,any_beq.1 hc⟩
   |false=>
    rw[hc,cond_false]at h
    have:=(onlyH_get H i b h).2
    rw[any_beq.2 this]at hc; cases hc
  ·cases hc:c.any (Nat.beq i)with
   |true=>
    rw[hc,cond_true]at h
    simp only[hget,beq_false e,cond]at h⊢
    exact onlyH_get H x b h
   |false=>
    rw[hc,cond_false]at h
    simp only[hget,beq_false e,cond]
    exact onlyH_get H x b h
structure HidF (σ0:St) (HD:Hid):Prop where
 uniq:∀d i j,(d,i)∈HD.T→(d,j)∈HD.T→i=j
 old:∀d i,(d,i)∈HD.T→∃b,hget σ0.heap d=some b∧b.ids=[]
 offW:∀d i,(d,i)∈HD.T→d∉HD.W
 nW:∀x∈HD.N,x∉HD.W
 nT:∀x∈HD.N,∀i,(x,i)∉HD.T
 nE:HD.T=[]→HD.N=[]
 names:∀d i,(d,i)∈HD.T→∀x b,hget σ0.heap x=some b→d∈b.ids→x∈HD.N
structure Facts (cx:Cx) (ops:Array Oper) (m:Nat) (σ0:St) (HD:Hid) (f:Nat→Told):Prop where
 fresh:∀k o,k<m→ops[k]? =some o→∀x∈keysOf (f k).2.2.1,hget σ0.heap x=none∧x≠PIN∧σ0.names x=false
 apart:∀i k oi ok,i<m→k<m→ops[i]? =some oi→ops[k]? =some ok→∀x,x∈keysOf (f i).2.2.1→x∈keysOf (f k).2.2.1→i=k
 gone:∀k o,k<m→ops[k]? =some o→∀d∈(f k).2.1,(d,k)∈HD.T∨∃i oi s,i<k∧ops[i]? =some oi∧d∈keysOf (f i).2.2.1∧oi.dst=some s∧s∈looks ops.toList o∧∀q oq,q<m→q≠k→ops[q]? =some oq→s∉looks ops.toList oq
 ids:∀k o,k<m→ops[k]? =some o→∀x∈(f k).1.ids,x∈keysOf (f k).2.2.1∨(hget σ0.heap x).isSome=true∨(x∉(f k).2.1∧∃i oi s,i<k∧ops[i]? =some oi∧x∈(f i).1.ids∧oi.dst=some s∧s∈looks ops.toList o)
 conts:∀k o,k<m→ops[k]? =some o→contIds (f k).2.2.1=[]
 goneW:∀k o,k<m→ops[k]? =some o→∀d∈(f k).2.1,d∉HD.W
 wr:∀k o q,k<m→ops[k]? =some o→(f k).2.2.2=some q→isStore cx o.op=true∧(f k).2.1=[]∧keysOf (f k).2.2.1=[]∧q.1∈HD.W∧((hget σ0.heap q.1).isSome=true∨∃p op s,p<k∧ops[p]? =some op∧q.1∈(f p).1.ids∧op.dst=some s∧s∈looks ops.toList o)∧∀x∈q.2.ids,(hget σ0.heap x).isSome=true∨(∃ p op s,p<k∧ops[p]? =some op∧x∈(f p).1.ids∧op.dst=some s∧s∈looks ops.toList o)∨x∈idsAt (canon ops f (fun _=>true) σ0 k).heap q.1
 hid:∀k o,k<m→ops[k]? =some o→HidF σ0 HD
 idsT:∀k o,k<m→ops[k]? =some o→∀x n,(x,n)∈HD.T→x∈(f k).1.ids→waitsAt ops.toList n k=true
 looksT:∀k o,k<m→ops[k]? =some o→∀t∈looks ops.toList o,∀x n,(x,n)∈HD.T→n≠k→(x∈(σ0.env.getD t .dead).ids∨∃p op,p<k∧ops[p]? =some op∧op.dst=some t∧x∈(f p).1.ids)→waitsAt ops.toList n k=true
 loadT:∀k o,k<m→ops[k]? =some o→isLoad o.op=true→HD.T≠ []→(f k).1.noBad=true∨∀i∈ldOf (canon ops f (fun _=>true) σ0 k) o,i∉HD.N
 wrT:∀k o q,k<m→ops[k]? =some o→(f k).2.2.2=some q→∀x n,(x,n)∈HD.T→x∉q.2.ids
theorem dstN_spec:∀(l:List Nat),dstN l=true→∀i j:Nat,i<j→∀x,l[i]? =some x→l[j]? ≠some x
 | [],_,i,j,_,x,h=>by simp at h
 |y::l,h,i,j,hij,x,hi=>by
  simp only[dstN,Bool.and_eq_true,Bool.not_eq_true']at h
  obtain⟨h1,h2⟩:=h
  cases j with
  |zero=>omega
  |succ j=>
   cases i with
   |zero=>
    simp only[List.getElem?_cons_zero,Option.some.injEq]at hi
    subst hi
    simp only[List.getElem?_cons_succ]
    intro hj
    rw[any_beq.2 (List.mem_of_getElem? hj)]at h1
    cases h1
   |succ i=>
    simp only[List.getElem?_cons_succ]at hi⊢
    exact dstN_spec l h2 i j (by omega) x hi
theorem waitsAt_spec{L:List Oper}{n k:Nat}(h:waitsAt L n k=true):∃o,L[n]? =some o∧waitsB o k=true:=by
 unfold waitsAt at h
 split at h
 ·rename_i o ho; exact⟨o,ho,h⟩
 ·cases h
theorem inT_iff{T:List (Nat×Nat)}{i:Nat}:inT T i=true↔∃n,(i,n)∈T:=by
 unfold inT
 rw[List.any_eq_true]
 constructor
 ·rintro ⟨q,hq,he⟩; exact⟨q.2,by rw[← beq_iff.1 he]; exact hq⟩
 ·rintro ⟨n,hn⟩; exact⟨_,hn,Nat.beq_refl _⟩
theorem hget_mem:∀(H:Heap) (x:Nat) (b:Blk),hget H x=some b→(x,b)∈H
 | [],x,b,h=>by simp[hget]at h
 |(i,c)::H,x,b,h=>by
  simp only[hget]at h
  by_cases e:i=x
  ·subst e; simp only[Nat.beq_refl,cond,Option.some.injEq]at h; subst h; simp
  ·simp only[beq_false e,cond]at h; exact List.mem_cons_of_mem _ (hget_mem H x b h)
theorem hidF_of{σ0:St}{HD:Hid}(h:hidOk σ0 HD=true):HidF σ0 HD:=by
 unfold hidOk at h
 rw[Bool.or_eq_true]at h
 rcases h with h|h
 ·simp only[Bool.and_eq_true,List.isEmpty_iff]at h
  obtain⟨h,hn⟩:=h
  refine⟨fun d i j hd=> ?_,fun d i hd=> ?_,fun d i hd=> ?_,fun x hx=> ?_,fun x hx=> ?_,fun _=>hn,fun d i hd=> ?_⟩<;>first|(rw [h]at hd; simp at hd)|(rw [hn]at hx; simp at hx)
 ·simp only[Bool.and_eq_true]at h
  obtain⟨⟨⟨⟨⟨he,h1⟩,h0⟩,h2⟩,h3⟩,h4⟩:=h
  have each:∀d i,(d,i)∈HD.T→d∉HD.W∧∃b,hget σ0.heap d=some b∧b.ids=[]:=fun d i hd=>by
   have:=List.all_eq_true.1 h2 _ hd
   simp only[Bool.and_eq_true,Bool.not_eq_true']at this
   obtain⟨⟨_,k2⟩,k3⟩:=this
   refine⟨fun hw=>(by rw[any_beq.2 hw]at k2; cases k2),?_⟩
   split at k3
   ·cases k3
   ·rename_i b hnv hb
    refine⟨b,hb,?_⟩
    cases b with
    |var t c=>exact absurd rfl (hnv t c)
    |_=>rfl
   ·cases k3
  refine⟨fun d i j hi hj=> ?_,fun d i hd=>(each d i hd).2,fun d i hd=>(each d i hd).1,fun x hx hw=> ?_,fun x hx i hi=> ?_,fun hT=> ?_,fun d i hd x b hb hdb=> ?_⟩
  ·obtain ⟨a,ha⟩:=List.getElem?_of_mem hi
   obtain⟨b,hb⟩:=List.getElem?_of_mem hj
   have ha':(HD.T.map (·.1))[a]? =some d:=by rw[List.getElem?_map,ha]; rfl
   have hb':(HD.T.map (·.1))[b]? =some d:=by rw[List.getElem?_map,hb]; rfl
   rcases Nat.lt_trichotomy a b with q|q|q
   ·exact absurd hb' (dstN_spec _ h1 a b q d ha')
   ·subst q; rw[ha]at hb; simpa using hb
   ·exact absurd ha' (dstN_spec _ h1 b a q d hb')
  ·have:=List.all_eq_true.1 h3 x hx
   rw[any_beq.2 hw]at this; cases this
  ·have:=List.all_eq_true.1 h0 x hx
   rw[inT_iff.2 ⟨i,hi⟩]at this; cases this
  ·rw [hT]at he; simp at he
  ·have:=List.all_eq_true.1 h4 (x,b) (hget_mem _ _ _ hb)
   simp only[Bool.or_eq_true,Bool.not_eq_true']at this
   rcases this with q|q
   ·have:namesT HD.T b.ids=true:=by
     unfold namesT
     exact List.any_eq_true.2 ⟨d,hdb,List.any_eq_true.2 ⟨_,hd,Nat.beq_refl _⟩⟩
    rw[this]at q; cases q
   ·exact any_beq.1 q
theorem facts_of{m:Nat}{σ0:St}{HD:Hid}{f:Nat→Told}(H:∀k o,k<m→ops[k]? =some o→HeadRun cx R lev ops m σ0 HD f k o):Facts cx ops m σ0 HD f:=by
 have spec:∀k o,k<m→ops[k]? =some o→(∀ x∈keysOf (f k).2.2.1,hget σ0.heap x=none∧x≠PIN∧σ0.names x=false∧∀i oi,i<k→ops[i]? =some oi→x∉keysOf (f i).2.2.1)∧
   (∀ d∈(f k).2.1,(d,k)∈HD.T∨(d∉HD.W∧∃q∈madeL ops f k,d∈keysOf q.2.2∧lookB q.1 (looks ops.toList o)=true∧soleB ops.toList m k q.1 0 ops.toList=true))∧
   (∀ x∈(f k).1.ids,x∈keysOf (f k).2.2.1∨(hget σ0.heap x).isSome=true∨(x∉(f k).2.1∧∃i oi s,i<k∧ops[i]? =some oi∧x∈(f i).1.ids∧oi.dst=some s∧s∈looks ops.toList o))∧contIds (f k).2.2.1=[]∧(∀ q,(f k).2.2.2=some q→isStore cx o.op=true∧(f k).2.1=[]∧keysOf (f k).2.2.1=[]∧q.1∈HD.W∧((hget σ0.heap q.1).isSome=true∨∃p op s,p<k∧ops[p]? =some op∧q.1∈(f p).1.ids∧op.dst=some s∧s∈looks ops.toList o)∧∀x∈q.2.ids,(hget σ0.heap x).isSome=true∨(∃ p op s,p<k∧ops[p]? =some op∧x∈(f p).1.ids∧op.dst=some s∧s∈looks ops.toList o)∨x∈idsAt (canon ops f (fun _=>true) σ0 k).heap q.1):=by
  intro k o hk ho
  have:=(H k o hk ho).ok
  unfold headOk at this
  simp only[Bool.and_eq_true]at this
  obtain⟨⟨⟨⟨⟨_,h1⟩,h2⟩,h3⟩,h4⟩,h5⟩:=this
  refine⟨fun x hx=> ?_,fun d hd=> ?_,fun x hx=> ?_,List.isEmpty_iff.1 h4,fun q hq=> ?_⟩
  ·have:=List.all_eq_true.1 h1 x hx
   simp only[Bool.and_eq_true,Bool.not_eq_true',Option.isNone_iff_eq_none]at this
   obtain⟨⟨⟨k1,k2⟩,k3⟩,k4⟩:=this
   refine⟨k1,fun e=>(by rw[e,Nat.beq_refl]at k2; cases k2),k3,fun i oi hi hoi hxi=> ?_⟩
   rw[List.any_eq_false]at k4
   exact k4 _ (madeL_of k i oi hi hoi) (any_beq.2 hxi)
  ·have h2d:=List.all_eq_true.1 h2 d hd
   rw[Bool.or_eq_true]at h2d
   rcases h2d with h2d|h2d
   ·obtain ⟨q,hq,hb⟩:=List.any_eq_true.1 h2d
    rw[Bool.and_eq_true]at hb
    refine .inl ?_
    rw[← beq_iff.1 hb.1,←beq_iff.1 hb.2]; exact hq
   ·rw [Bool.and_eq_true]at h2d
    obtain⟨q,hq,hb⟩:=List.any_eq_true.1 h2d.2
    simp only[Bool.and_eq_true]at hb
    exact .inr ⟨fun hw=>(by rw[any_beq.2 hw]at h2d; simp at h2d),q,hq,any_beq.1 hb.1.1,hb.1.2,hb.2⟩
  ·have:=List.all_eq_true.1 h3 x hx
   simp only[Bool.or_eq_true]at this
   rcases this with(q|q)|q
   ·exact .inl (any_beq.1 q)
   ·exact .inr (.inl q)
   ·simp only[Bool.and_eq_true,Bool.not_eq_true']at q
    obtain⟨q1,q2⟩:=q
    obtain⟨p,hp,hb1,hb2⟩:=seenL_mem _ (any_beq.1 q2)
    obtain⟨i,oi,hi,hoi,rfl⟩:=madeL_mem k p hp
    obtain⟨s,hs,hm⟩:=lookB_iff.1 hb1
    exact .inr (.inr ⟨fun hd=>(by rw[any_beq.2 hd]at q1; cases q1),i,oi,s,hi,hoi,hb2,hs,hm⟩)
  ·rw [hq]at h5
   simp only[Bool.and_eq_true]at h5
   obtain⟨⟨⟨⟨⟨w1,w2⟩,w3⟩,w4⟩,w6⟩,w5⟩:=h5
   refine⟨w1,List.isEmpty_iff.1 w2,List.isEmpty_iff.1 w3,any_beq.1 w4,?_,fun x hx=> ?_⟩
   ·simp only[Bool.or_eq_true]at w6
    refine w6.imp id fun u=> ?_
    obtain⟨p,hp,hb1,hb2⟩:=seenL_mem _ (any_beq.1 u)
    obtain⟨i,oi,hi,hoi,rfl⟩:=madeL_mem k p hp
    obtain⟨s,hs,hm⟩:=lookB_iff.1 hb1
    exact⟨i,oi,s,hi,hoi,hb2,hs,hm⟩
   have:=List.all_eq_true.1 w5 x hx
   simp only[Bool.or_eq_true]at this
   rcases this with(u|u)|u
   ·exact .inl u
   ·obtain ⟨p,hp,hb1,hb2⟩:=seenL_mem _ (any_beq.1 u)
    obtain⟨i,oi,hi,hoi,rfl⟩:=madeL_mem k p hp
    obtain⟨s,hs,hm⟩:=lookB_iff.1 hb1
    exact .inr (.inl ⟨i,oi,s,hi,hoi,hb2,hs,hm⟩)
   ·exact .inr (.inr (any_beq.1 u))
 have hh:∀k o,k<m→ops[k]? =some o→HidF σ0 HD∧((∀ x n,(x,n)∈HD.T→x∈(f k).1.ids→waitsAt ops.toList n k=true)∧(∀ t∈looks ops.toList o,∀x n,(x,n)∈HD.T→n≠k→(x∈(σ0.env.getD t .dead).ids∨∃p op,p<k∧ops[p]? =some op∧op.dst=some t∧x∈(f p).1.ids)→waitsAt ops.toList n k=true)∧(isLoad o.op=true→HD.T≠ []→(f k).1.noBad=true∨∀i∈ldOf (canon ops f (fun _=>true) σ0 k) o,i∉HD.N)∧∀q,(f k).2.2.2=some q→∀x n,(x,n)∈HD.T→x∉q.2.ids):=by
  intro k o hk ho
  have:=(H k o hk ho).hid
  unfold hidB at this
  rw[Bool.and_eq_true,Bool.or_eq_true]at this
  obtain⟨h1,h2⟩:=this
  refine⟨hidF_of h1,?_⟩
  rcases h2 with h2|h2
  ·have h2:=List.isEmpty_iff.1 h2
   rw[h2]
   exact⟨fun x n hx=>by simp at hx,fun t _ x n hx=>by simp at hx,fun _ hx=>absurd rfl hx,fun q _ x n hx=>by simp at hx⟩
  ·simp only[Bool.and_eq_true]at h2
   obtain⟨⟨⟨g1,g2⟩,g3⟩,g4⟩:=h2
   refine⟨fun x n hx hm=> ?_,fun t ht x n hx hn hor=> ?_,fun hl _=> ?_,fun q hq x n hx hm=> ?_⟩
   ·have:=List.all_eq_true.1 (List.all_eq_true.1 g1 x hm) _ hx
    simpa[Nat.beq_refl]using this
   ·have:=List.all_eq_true.1 (List.all_eq_true.1 g2 t ht) _ hx
    simp only[Bool.or_eq_true,Bool.not_eq_true',Bool.or_eq_false_iff]at this
    rcases this with(q|q)|q
    ·exact absurd (beq_iff.1 q) hn
    ·exact q
    ·exfalso
     rcases hor with hor|⟨p,op,hp,hop,hd,hm⟩
     ·rw [any_beq.2 hor]at q; cases q.1
     ·have h3:=List.any_eq_false.1 q.2 _ (madeL_of k p op hp hop)
      apply h3
      rw[Bool.and_eq_true]
      exact⟨lookB_iff.2 ⟨t,hd,by simp⟩,any_beq.2 hm⟩
   ·rw [hl]at g3
    simp only[Bool.not_true,Bool.false_or,Bool.or_eq_true]at g3
    refine g3.imp id fun g i hi hn=> ?_
    have:=List.all_eq_true.1 g i hi
    rw[any_beq.2 hn]at this; cases this
   ·rw [hq]at g4
    have:=List.all_eq_true.1 g4 x hm
    rw[inT_iff.2 ⟨n,hx⟩]at this; cases this
 refine⟨fun k o hk ho x hx=> ?_,fun i k oi ok hi hk hoi hok x hxi hxk=> ?_,fun k o hk ho d hd=> ?_,fun k o hk ho=>(spec k o hk ho).2.2.1,fun k o hk ho=>(spec k o hk ho).2.2.2.1,fun k o hk ho d hd=> ?_,fun k o q hk ho=>(spec k o hk ho).2.2.2.2 q,fun k o hk ho=>(hh k o hk ho).1,fun k o hk ho=>(hh k o hk ho).2.1,fun k o hk ho=>(hh k o hk ho).2.2.1,fun k o hk ho=>(hh k o hk ho).2.2.2.1,fun k o q hk ho=>(hh k o hk ho).2.2.2.2 q⟩
 ·obtain ⟨h1,h2,h3,_⟩:=(spec k o hk ho).1 x hx; exact⟨h1,h2,h3⟩
 ·rcases Nat.lt_trichotomy i k with h|h|h
  ·exact absurd hxi (((spec k ok hk hok).1 x hxk).2.2.2 i oi h hoi)
  ·exact h
  ·exact absurd hxk (((spec i oi hi hoi).1 x hxi).2.2.2 k ok h hok)
 ·rcases (spec k o hk ho).2.1 d hd with h0|⟨_,q,hq,h1,h2,h3⟩
  ·exact .inl h0
  ·obtain ⟨i,oi,hi,hoi,rfl⟩:=madeL_mem k q hq
   obtain⟨s,hs,hm⟩:=lookB_iff.1 h2
   refine .inr ⟨i,oi,s,hi,hoi,h1,hs,hm,fun q oq hq hqk hoq hsq=> ?_⟩
   have:=soleB_spec 0 ops.toList h3 q oq (by simpa using hoq) (by omega) (by omega)
   rw[lookB_iff.2 ⟨s,hs,hsq⟩]at this
   cases this
 ·rcases (spec k o hk ho).2.1 d hd with h0|⟨h0,_⟩
  ·exact ((hh k o hk ho).1).offW d k h0
  ·exact h0
theorem carry_own{m:Nat}{σ0:St}{HD:Hid}{f:Nat→Told}(F:Facts cx ops m σ0 HD f)(S:DrawSpec cx ops m){L:Nat→Bool}(hL:∀p op q,p<m→L p=true→ops[p]? =some op→waitsB op q=true→L q=true){i:Nat}{oi:Oper}(hi:i<m)(hoi:ops[i]? =some oi){x:Nat}(hx:x∈keysOf (f i).2.2.1):
  ∀p op,p<m→ops[p]? =some op→x∈(f p).1.ids→i≤p∧(L p=true→L i=true):=by
 intro p
 induction p using Nat.strongRecOn with
 |_ p ih=>
  intro op hp hop hxp
  rcases F.ids p op hp hop x hxp with q|q|⟨q,j,oj,s,g1,g2,g3,g4,g5⟩
  ·have:=F.apart i p oi op hi hp hoi hop x hx q
   subst this; exact⟨Nat.le_refl _,id⟩
  ·rw [(F.fresh i oi hi hoi x hx).1]at q; cases q
  ·obtain ⟨h1,h2⟩:=ih j g1 oj (by omega) g2 g3
   refine⟨by omega,fun hLp=>h2 ?_⟩
   refine hL p op j hp hLp hop ?_
   rcases S.apart j oj p op g2 (by omega) hop g1 with u|u
   ·exact u
   ·exact absurd g5 ((apartB_spec u).1 s g4)
theorem carry_sole{m:Nat}{σ0:St}{HD:Hid}{f:Nat→Told}(F:Facts cx ops m σ0 HD f){i n:Nat}{oi on:Oper}(hi:i<m)(hn:n<m)(hoi:ops[i]? =some oi)(hon:ops[n]? =some on){x s:Nat}(hx:x∈keysOf (f i).2.2.1)(hd:x∈(f n).2.1)(hs:oi.dst=some s)
  (hsole:∀q oq,q<m→q≠n→ops[q]? =some oq→s∉looks ops.toList oq):∀p op,p<m→ops[p]? =some op→x∈(f p).1.ids→p=i:=by
 intro p
 induction p using Nat.strongRecOn with
 |_ p ih=>
  intro op hp hop hxp
  rcases F.ids p op hp hop x hxp with q|q|⟨q,j,oj,s',g1,g2,g3,g4,g5⟩
  ·exact (F.apart i p oi op hi hp hoi hop x hx q).symm
  ·rw [(F.fresh i oi hi hoi x hx).1]at q; cases q
  ·have:=ih j g1 oj (by omega) g2 g3
   subst this
   rw[hoi]at g2; injection g2 with g2; subst g2
   rw[hs]at g4; injection g4 with g4; subst g4
   by_cases e:p=n
   ·subst e; exact absurd hd q
   ·exact absurd g5 (hsole p op hp e hop)
theorem env_kill(l:List Nat)(σ:St)(t:Nat):(σ.killL l).env.getD t .dead=killAll l (σ.env.getD t .dead):=by
 rw[killL_env]
 have hd:killAll l .dead= .dead:=killAll_off l .dead (by simp[TV.ids])
 simp only[List.getD,List.getElem?_map]
 cases σ.env[t]? with
 |none=>simp[hd]
 |some v=>rfl
theorem env_put(σ:St)(d:Option Tmp)(tv:TV)(t:Nat):(σ.put d tv).env.getD t .dead=if d=some t∧t<σ.env.length then tv else σ.env.getD t .dead:=by
 cases d with
 |none=>simp[St.put]
 |some s=>
  simp only[St.put,List.getD,List.getElem?_set,Option.some.injEq]
  by_cases e:s=t
  ·subst e
   by_cases hl:s<σ.env.length
   ·simp [hl]
   ·simp [hl]
  ·simp [e]
theorem put_len(σ:St)(d:Option Tmp)(tv:TV):(σ.put d tv).env.length=σ.env.length:=by cases d<;>simp[St.put]
theorem app1_len(o:Oper)(x:Told)(σ:St):(app1 o x σ).env.length=σ.env.length:=by
 unfold app1
 rw[put_len]
 simp[St.wr,St.eff,killL_env]
theorem canon_len{f:Nat→Told}{L:Nat→Bool}{σ0:St}:∀k,(canon ops f L σ0 k).env.length=σ0.env.length
 |0=>rfl
 |k+1=>by
  simp only[canon]
  split
  ·cases L k
   ·exact canon_len k
   ·simp only[cond_true,app1_len,canon_len k]
  ·exact canon_len k
theorem app1_env(o:Oper)(x:Told)(σ:St)(t:Nat):(app1 o x σ).env.getD t .dead=if o.dst=some t∧t<σ.env.length then x.1 else killAll (x.2.1++keysOf x.2.2.1) (σ.env.getD t .dead):=by
 unfold app1
 rw[env_put]
 have e:((σ.eff x.2.1 x.2.2.1).wr x.2.2.2).env=(σ.killL (x.2.1++keysOf x.2.2.1)).env:=rfl
 rw[e,env_kill]
 simp[killL_env]
def wrG(W:Option (Nat×Blk))(y:Nat)(z:Option Blk):Option Blk:=match W with
 |none=>z
 |some q=>if y=q.1 then z.map (fun _=>q.2)else z
theorem wrG_off{W:Option (Nat×Blk)}{y:Nat}(z:Option Blk)(h:∀q,W=some q→y≠q.1):wrG W y z=z:=by
 cases W with
 |none=>rfl
 |some q=>simp[wrG,h q rfl]
theorem app1_get(o:Oper)(x:Told)(σ:St)(y:Nat):hget (app1 o x σ).heap y=wrG x.2.2.2 y ((hget x.2.2.1 y).or (if y∈x.2.1++keysOf x.2.2.1 then none else(hget σ.heap y).map (Blk.mapc (killAll (x.2.1++keysOf x.2.2.1))))):=by
 unfold app1
 rw[put_heap]
 have e:(σ.eff x.2.1 x.2.2.1).heap=apH x.2.2.1 (σ.killL (x.2.1++keysOf x.2.2.1)).heap:=rfl
 have e2:((σ.eff x.2.1 x.2.2.1).wr x.2.2.2).heap=wrH (σ.eff x.2.1 x.2.2.1).heap x.2.2.2:=rfl
 rw[e2]
 cases x.2.2.2 with
 |none=>simp only[wrH,wrG]; rw[e,apH_get,killL_get]
 |some q=>
  simp only[wrH,wrG]
  rw[hget_set]
  by_cases hy:y=q.1
  ·rw [if_pos hy,if_pos hy,e,apH_get,killL_get,hy]
  ·rw [if_neg hy,if_neg hy,e,apH_get,killL_get]
theorem app1_stk(o:Oper)(x:Told)(σ:St):(app1 o x σ).stk=σ.stk.map (·.map (killAll (x.2.1++keysOf x.2.2.1))):=by
 unfold app1
 have e:∀(τ:St) d v,(τ.put d v).stk=τ.stk:=fun τ d v=>by cases d<;>rfl
 rw[e]
 exact killL_stk _ σ
theorem names_env{σ:St}{x:Nat}(h:σ.names x=false)(t:Nat):x∉(σ.env.getD t .dead).ids:=by
 intro hx
 unfold St.names at h
 simp only[Bool.or_eq_false_iff]at h
 rcases Nat.lt_or_ge t σ.env.length with hl|hl
 ·have:=List.any_eq_false.1 h.1.1 σ.env[t] (List.getElem_mem hl)
  simp only[List.getD,List.getElem?_eq_getElem hl,Option.getD_some]at hx
  exact this (any_beq.2 hx)
 ·simp [List.getD,List.getElem?_eq_none hl,TV.ids]at hx
theorem names_heap{σ:St}{x:Nat}(h:σ.names x=false):x∉contIds σ.heap:=by
 unfold St.names at h
 simp only[Bool.or_eq_false_iff]at h
 intro hx
 rw[any_beq.2 hx]at h
 exact absurd h.2 (by simp)
theorem canon_agree{m:Nat}(S:DrawSpec cx ops m){σ0:St}{HD:Hid}{f:Nat→Told}(F:Facts cx ops m σ0 HD f){k:Nat}{ok:Oper}(hk:k<m)(hok:ops[k]? =some ok){L L':Nat→Bool}(hL:∀p op q,p<m→L p=true→ops[p]? =some op→waitsB op q=true→L q=true)
  (hd:∀i oi,i<m→ops[i]? =some oi→L i≠L' i→i≠k∧∀s,oi.dst=some s→s∉looks ops.toList ok)
  (hw:∀i oi,i<m→ops[i]? =some oi→L i≠L' i→waitsB oi k=false)
  (hlt:∀p op t,p<m→L p=true→ops[p]? =some op→op.dst=some t→t∈looks ops.toList ok→p<k)
  (hq:∀p op t i,p<m→L p=true→ops[p]? =some op→op.dst=some t→t∈looks ops.toList ok→i≤p→L i=true→L' i=true):∀n,n≤m→∀t∈looks ops.toList ok,
  (canon ops f L σ0 n).env.getD t .dead=(canon ops f L' σ0 n).env.getD t .dead∧∀x∈((canon ops f L σ0 n).env.getD t .dead).ids,x∈(σ0.env.getD t .dead).ids∨
   ∃p op,p<m∧L p=true∧ops[p]? =some op∧op.dst=some t∧x∈(f p).1.ids
 |0,_,t,ht=>⟨rfl,fun x hx=> .inl hx⟩
 |n+1,hn,t,ht=>by
  obtain⟨h1,h2⟩:=canon_agree S F hk hok hL hd hw hlt hq n (by omega) t ht
  have made:∀x∈((canon ops f L σ0 n).env.getD t .dead).ids,∀i oi,i<m→ops[i]? =some oi→x∈keysOf (f i).2.2.1→∃p op,p<m∧L p=true∧ops[p]? =some op∧op.dst=some t∧x∈(f p).1.ids:=fun x hx i oi hi hoi hxi=>(h2 x hx).resolve_left fun hx=>names_env (F.fresh i oi hi hoi x hxi).2.2 t hx
  simp only[canon]
  cases ho:ops[n]? with
  |none=>exact⟨h1,h2⟩
  |some o=>
   simp only
   have same:L n≠L' n→∀Z:Nat→Bool,(canon ops f Z σ0 n).env.getD t .dead=(canon ops f L σ0 n).env.getD t .dead→(app1 o (f n) (canon ops f Z σ0 n)).env.getD t .dead=(canon ops f L σ0 n).env.getD t .dead:=by
    intro hne Z hZ
    obtain⟨q1,q2⟩:=hd n o (by omega) ho hne
    rw[app1_env,if_neg (fun h=>q2 t h.1 ht),hZ]
    refine killAll_off _ _ fun x hx hxi=> ?_
    rcases List.mem_append.1 hx with hx|hx
    ·rcases F.gone n o (by omega) ho x hx with hT|⟨i,oi,s,g1,g2,g3,g4,g5,g6⟩
     ·have:=F.looksT k ok hk hok t ht x n hT q1 ((h2 x hxi).imp id fun⟨p,op,p1,p2,p3,p4,p5⟩=>⟨p,op,hlt p op t p1 p2 p3 p4 ht,p3,p4,p5⟩)
      obtain⟨o2,w1,w2⟩:=waitsAt_spec this
      have w1:ops[n]? =some o2:=by simpa using w1
      rw[ho]at w1; injection w1 with w1; subst w1
      rw[hw n o (by omega) ho hne]at w2; cases w2
     ·obtain ⟨p,op,p1,p2,p3,p4,p5⟩:=made x hxi i oi (by omega) g2 g3
      have:=carry_sole F (by omega) (by omega) g2 ho g3 hx g4 g6 p op p1 p3 p5
      subst this
      rw[g2]at p3; injection p3 with p3; subst p3
      rw[g4]at p4; injection p4 with p4; subst p4
      exact g6 k ok hk (Ne.symm q1) hok ht
    ·obtain ⟨p,op,p1,p2,p3,p4,p5⟩:=made x hxi n o (by omega) ho hx
     obtain⟨c1,c2⟩:=carry_own F S hL (by omega) ho hx p op p1 p3 p5
     have e1:=c2 p2
     have e2:=hq p op t n p1 p2 p3 p4 ht c1 e1
     exact hne (e1.trans e2.symm)
   cases hLn:L n with
   |true=>
    cases hL':L' n with
    |true=>
     simp only[cond_true,app1_env,canon_len,h1]
     refine⟨trivial,fun x hx=> ?_⟩
     split at hx
     ·rename_i hc
      exact .inr ⟨n,o,by omega,hLn,ho,hc.1,hx⟩
     ·rw [← h1]at hx
      exact h2 x (ids_killAll _ _ hx).1
    |false=>
     have e:=same (by rw[hLn,hL']; simp) L rfl
     simp only[cond_true,cond_false,e]
     exact⟨h1,h2⟩
   |false=>
    cases hL':L' n with
    |true=>
     have e:=same (by rw[hLn,hL']; simp) L' h1.symm
     simp only[cond_true,cond_false,e]
     exact⟨trivial,h2⟩
    |false=>exact⟨h1,h2⟩
theorem canon_old{m:Nat}{σ0:St}{HD:Hid}{f:Nat→Told}(F:Facts cx ops m σ0 HD f){L:Nat→Bool}{x:Nat}{b:Blk}(hxw:x∉HD.W)(hxT:∀n,(x,n)∉HD.T)(hxN:x∉HD.N)(hx:hget σ0.heap x=some b):∀n,n≤m→hget (canon ops f L σ0 n).heap x=some b
 |0,_=>hx
 |n+1,hn=>by
  have ih:=canon_old F (L:=L) hxw hxT hxN hx n (by omega)
  simp only[canon]
  cases ho:ops[n]? with
  |none=>exact ih
  |some o=>
   cases hL:L n with
   |false=>exact ih
   |true=>
    simp only[cond_true,app1_get]
    rw[wrG_off _ (y:=x) (fun q hq e=>hxw (by rw[e]; exact(F.wr n o q (by omega) ho hq).2.2.2.1))]
    have new:∀i oi,i<m→ops[i]? =some oi→x∉keysOf (f i).2.2.1:=fun i oi hi hoi hm=>by
     have:=(F.fresh i oi hi hoi x hm).1; rw[hx]at this; cases this
    have hd:x∉(f n).2.1:=fun hm=>by
     rcases F.gone n o (by omega) ho x hm with hT|⟨i,oi,s,g1,g2,g3,_⟩
     ·exact hxT n hT
     ·exact new i oi (by omega) g2 g3
    have hn':=new n o (by omega) ho
    rw[keys_none hn',if_neg (by simp[hd,hn']),ih]
    simp only[Option.map_some,Option.none_or,Option.some.injEq]
    refine blk_off fun y hy hyb=> ?_
    have hc:=get_ids _ _ _ hx y hyb
    have bad:∀i oi,i<m→ops[i]? =some oi→y∈keysOf (f i).2.2.1→False:=fun i oi hi hoi hm=>names_heap (F.fresh i oi hi hoi y hm).2.2 hc
    rcases List.mem_append.1 hy with hy|hy
    ·rcases F.gone n o (by omega) ho y hy with hT|⟨i,oi,s,g1,g2,g3,_⟩
     ·exact hxN ((F.hid n o (by omega) ho).names y n hT x b hx hyb)
     ·exact bad i oi (by omega) g2 g3
    ·exact bad n o (by omega) ho hy
theorem canon_taken{m:Nat}{σ0:St}{HD:Hid}{f:Nat→Told}(F:Facts cx ops m σ0 HD f){L:Nat→Bool}{x k:Nat}{b:Blk}(hT:(x,k)∈HD.T)(hLk:L k=false)(hx:hget σ0.heap x=some b):∀n,n≤m→hget (canon ops f L σ0 n).heap x=some b
 |0,_=>hx
 |n+1,hn=>by
  have ih:=canon_taken F (L:=L) hT hLk hx n (by omega)
  simp only[canon]
  cases ho:ops[n]? with
  |none=>exact ih
  |some o=>
   cases hL:L n with
   |false=>exact ih
   |true=>
    have hh:=F.hid n o (by omega) ho
    simp only[cond_true,app1_get]
    rw[wrG_off _ (y:=x) (fun q hq e=>hh.offW x k hT (by rw[e]; exact(F.wr n o q (by omega) ho hq).2.2.2.1))]
    have new:∀i oi,i<m→ops[i]? =some oi→x∉keysOf (f i).2.2.1:=fun i oi hi hoi hm=>by
     have:=(F.fresh i oi hi hoi x hm).1; rw[hx]at this; cases this
    have hd:x∉(f n).2.1:=fun hm=>by
     rcases F.gone n o (by omega) ho x hm with hT'|⟨i,oi,s,g1,g2,g3,_⟩
     ·have:=hh.uniq x n k hT' hT
      subst this
      rw[hLk]at hL; cases hL
     ·exact new i oi (by omega) g2 g3
    have hn':=new n o (by omega) ho
    rw[keys_none hn',if_neg (by simp[hd,hn']),ih]
    simp only[Option.map_some,Option.none_or,Option.some.injEq]
    obtain⟨b',e1,e2⟩:=hh.old x k hT
    rw[hx]at e1; injection e1 with e1; subst e1
    exact blk_off fun y hy hyb=>by rw[e2]at hyb; simp at hyb
theorem canon_named{m:Nat}{σ0:St}{HD:Hid}{f:Nat→Told}(F:Facts cx ops m σ0 HD f){L:Nat→Bool}{x:Nat}{b:Blk}(hxw:x∉HD.W)(hxT:∀n,(x,n)∉HD.T)(hx:hget σ0.heap x=some b):∀n,n≤m→∃l,hget (canon ops f L σ0 n).heap x=some (killB l b)∧∀y∈l,y∈b.ids→∃k,L k=true∧(y,k)∈HD.T
 |0,_=>⟨[],by cases b<;>exact hx,fun y hy=>by simp at hy⟩
 |n+1,hn=>by
  obtain⟨l,ih1,ih2⟩:=canon_named F (L:=L) hxw hxT hx n (by omega)
  simp only[canon]
  cases ho:ops[n]? with
  |none=>exact⟨l,ih1,ih2⟩
  |some o=>
   cases hL:L n with
   |false=>exact⟨l,ih1,ih2⟩
   |true=>
    simp only[cond_true,app1_get]
    rw[wrG_off _ (y:=x) (fun q hq e=>hxw (by rw[e]; exact(F.wr n o q (by omega) ho hq).2.2.2.1))]
    have new:∀i oi,i<m→ops[i]? =some oi→x∉keysOf (f i).2.2.1:=fun i oi hi hoi hm=>by
     have:=(F.fresh i oi hi hoi x hm).1; rw[hx]at this; cases this
    have hd:x∉(f n).2.1:=fun hm=>by
     rcases F.gone n o (by omega) ho x hm with hT|⟨i,oi,s,g1,g2,g3,_⟩
     ·exact hxT n hT
     ·exact new i oi (by omega) g2 g3
    have hn':=new n o (by omega) ho
    rw[keys_none hn',if_neg (by simp[hd,hn']),ih1]
    refine⟨l++((f n).2.1++keysOf (f n).2.2.1),?_,fun y hy hyb=> ?_⟩
    ·simp only[Option.map_some,Option.none_or,Option.some.injEq]
     cases b with
     |var t c=>simp only[killB,Blk.mapc,Blk.var.injEq,heq_eq_eq,true_and]; rw[killAll_app]
     |_=>rfl
    ·have hc:=get_ids _ _ _ hx y hyb
     have bad:∀i oi,i<m→ops[i]? =some oi→y∈keysOf (f i).2.2.1→False:=fun i oi hi hoi hm=>names_heap (F.fresh i oi hi hoi y hm).2.2 hc
     rcases List.mem_append.1 hy with hy|hy
     ·exact ih2 y hy hyb
     ·rcases List.mem_append.1 hy with hy|hy
      ·rcases F.gone n o (by omega) ho y hy with hT|⟨i,oi,s,g1,g2,g3,_⟩
       ·exact ⟨n,hL,hT⟩
       ·exact (bad i oi (by omega) g2 g3).elim
      ·exact (bad n o (by omega) ho hy).elim
theorem canon_new{m:Nat}{σ0:St}{HD:Hid}{f:Nat→Told}(F:Facts cx ops m σ0 HD f){L:Nat→Bool}{i:Nat}{oi:Oper}(him:i<m)(hoi:ops[i]? =some oi)(hLi:L i=true){x:Nat}{b:Blk}(hxw:x∉HD.W)(hx:hget (f i).2.2.1 x=some b)
  (hg:∀j oj,j<m→ops[j]? =some oj→L j=true→x∉(f j).2.1):∀n,n≤m→i<n→hget (canon ops f L σ0 n).heap x=some b
 |0,_,h=>by omega
 |n+1,hn,hin=>by
  have hxi:x∈keysOf (f i).2.2.1:=(keys_get _ _).2 (by simp[hx])
  simp only[canon]
  by_cases e:i=n
  ·subst e
   rw[hoi,hLi]
   simp only[cond_true,app1_get]
   rw[wrG_off _ (y:=x) (fun q hq e=>hxw (by rw[e]; exact(F.wr i oi q him hoi hq).2.2.2.1))]
   simp only[hx,Option.some_or]
  ·have ih:=canon_new F him hoi hLi hxw hx hg n (by omega) (by omega)
   cases ho:ops[n]? with
   |none=>exact ih
   |some o=>
    cases hL:L n with
    |false=>exact ih
    |true=>
     simp only[cond_true,app1_get]
     rw[wrG_off _ (y:=x) (fun q hq e=>hxw (by rw[e]; exact(F.wr n o q (by omega) ho hq).2.2.2.1))]
     have hn':x∉keysOf (f n).2.2.1:=fun hm=>e (F.apart i n oi o him (by omega) hoi ho x hxi hm)
     rw[keys_none hn',if_neg (by simp[hg n o (by omega) ho hL,hn']),ih]
     simp only[Option.map_some,Option.none_or,Option.some.injEq]
     refine blk_off fun y hy hyb=> ?_
     have:=get_ids _ _ _ hx y hyb
     rw[F.conts i oi him hoi]at this
     simp at this
theorem hideH_get{c:List Nat}:∀(H:Heap) (x:Nat) (b:Blk),hget (hideH c H) x=some b→hget H x=some b∧x∉c
 | [],x,b,h=>by simp[hideH,hget]at h
 |(i,b')::H,x,b,h=>by
  simp only[hideH]at h
  cases hc:c.any (Nat.beq i)with
  |true=>
   rw[hc,cond_true]at h
   obtain⟨h1,h2⟩:=hideH_get H x b h
   by_cases e:i=x
   ·subst e; exact absurd (any_beq.1 hc) h2
   ·simp only[hget,beq_false e,cond]; exact⟨h1,h2⟩
  |false=>
   rw[hc,cond_false]at h
   by_cases e:i=x
   ·subst e
    simp only[hget,Nat.beq_refl,cond]at h⊢
    exact⟨h,fun hm=>by rw[any_beq.2 hm]at hc; cases hc⟩
   ·simp only[hget,beq_false e,cond]at h⊢
    exact hideH_get H x b h
theorem litTV_ids(v:Value):(litTV v).ids=[]:=by
 unfold litTV
 split<;>(try simp only[Bool.cond_eq_ite])<;>(try split)<;>simp[TV.ids]
theorem addrO_spec{op:Op}{a:Operand}(h:addrO cx op=some a):isStore cx op=true∧a∈op.operands.toList:=by
 refine⟨by unfold isStore; rw[h]; rfl,?_⟩
 unfold addrO at h
 split at h
 ·cases h; simp[Op.operands]
 ·rename_i f args at'
  split at h
  ·rename_i x l hl
   cases hi:isInp cx f with
   |true=>
    rw[hi]at h
    simp only[cond,Option.some.injEq]at h
    subst h
    have:x∈args.toList:=by rw[hl]; simp
    simp only[Op.operands,Call.operands]
    simp[Array.mem_toList_iff.1 this]
   |false=>rw[hi]at h; simp[cond]at h
  ·cases h
 ·cases h
theorem tgtOf_spec{σ:St}{o:Oper}{L:List Oper}{x:Nat}(h:x∈tgtOf cx σ o):isStore cx o.op=true∧((∃ t,t∈looks L o∧x∈(σ.env.getD t .dead).ids)):=by
 unfold tgtOf at h
 split at h
 ·rename_i a hop
  obtain⟨h1,h2⟩:=addrO_spec hop
  refine⟨h1,?_⟩
  split at h
  ·rename_i i rt p ha
   simp only[List.mem_singleton]at h
   subst h
   cases a with
   |tmp t=>
    refine⟨t,List.mem_append_left _ (tmpsOf_mem _ t h2),?_⟩
    have:σ.env.getD t .dead= .ptr x rt p:=ha
    rw[this]; simp[TV.ids]
   |const v=>
    have hl:(litTV v).ids=[]:=litTV_ids v
    have ha':litTV v= .ptr x rt p:=ha
    rw[ha']at hl; simp[TV.ids]at hl
   |func f=>simp[St.eval]at ha
   |global g=>simp[St.eval]at ha
  ·simp at h
 ·simp at h
theorem visH_get{h0:Heap}{l:List Nat}:∀(made:List Made) (x:Nat) (b:Blk),hget (visH h0 l made) x=some b→hget h0 x=some b∨(x∈l∧∃q∈made,hget q.2.2 x=some b)
 | [],x,b,h=> .inl h
 |q::made,x,b,h=>by
  simp only[visH]at h
  rw[apH_get]at h
  cases hg:hget (onlyH l q.2.2) x with
  |some c=>
   rw[hg]at h; simp only[Option.some_or,Option.some.injEq]at h; subst h
   obtain⟨k1,k2⟩:=onlyH_get _ _ _ hg
   exact .inr ⟨k2,q,by simp,k1⟩
  |none=>
   rw[hg]at h
   exact(visH_get made x b (by simpa using h)).imp id fun⟨k,p,h1,h2⟩=>⟨k,p,by simp[h1],h2⟩
theorem cont_src{m:Nat}{σ0:St}{HD:Hid}{f:Nat→Told}(F:Facts cx ops m σ0 HD f){x y:Nat}{i:Nat}{oi:Oper}(hi:i<m)(hoi:ops[i]? =some oi)(hy:y∈keysOf (f i).2.2.1)(L:Nat→Bool):∀t,t≤m→y∈idsAt (canon ops f L σ0 t).heap x→∃j oj q,j<t∧L j=true∧ops[j]? =some oj∧(f j).2.2.2=some q∧y∈q.2.ids
 |0,_,h=>by
  unfold idsAt at h
  split at h
  ·rename_i b hb
   exact absurd (get_ids _ _ _ hb y h) (names_heap (F.fresh i oi hi hoi y hy).2.2)
  ·simp at h
 |t+1,ht,h=>by
  have ih:=cont_src F (x:=x) hi hoi hy L t (by omega)
  simp only[canon]at h
  cases ho:ops[t]? with
  |none=>rw[ho]at h; obtain⟨j,oj,q,h1,h2⟩:=ih h; exact⟨j,oj,q,by omega,h2⟩
  |some o=>
   rw[ho]at h
   cases hL:L t with
   |false=>rw[hL]at h; obtain⟨j,oj,q,h1,h2⟩:=ih h; exact⟨j,oj,q,by omega,h2⟩
   |true=>
    simp only[hL,cond_true]at h
    unfold idsAt at h
    rw[app1_get]at h
    have old:y∈idsAt (canon ops f L σ0 t).heap x→∃j oj q,j<t+1∧L j=true∧ops[j]? =some oj∧(f j).2.2.2=some q∧y∈q.2.ids:=fun h=>by
     obtain⟨j,oj,q,h1,h2⟩:=ih h; exact⟨j,oj,q,by omega,h2⟩
    have base:∀b,(hget (f t).2.2.1 x).or (if x∈(f t).2.1++keysOf (f t).2.2.1 then none else(hget (canon ops f L σ0 t).heap x).map (Blk.mapc (killAll ((f t).2.1++keysOf (f t).2.2.1))))=some b→y∈b.ids→y∈idsAt (canon ops f L σ0 t).heap x:=fun b hb hyb=>by
     cases hg:hget (f t).2.2.1 x with
     |some b2=>
      rw[hg]at hb
      simp only[Option.some_or,Option.some.injEq]at hb
      subst hb
      have:=get_ids _ _ _ hg y hyb
      rw[F.conts t o (by omega) ho]at this; simp at this
     |none=>
      rw[hg]at hb
      simp only[Option.none_or]at hb
      split at hb
      ·cases hb
      ·unfold idsAt
       cases hc:hget (canon ops f L σ0 t).heap x with
       |none=>rw[hc]at hb; cases hb
       |some b3=>
        rw[hc]at hb
        simp only[Option.map_some,Option.some.injEq]at hb
        subst hb
        cases b3 with
        |var t2 c=>exact(ids_killAll _ _ hyb).1
        |_=>simp[Blk.mapc,Blk.ids]at hyb
    cases hW:(f t).2.2.2 with
    |none=>
     simp only[hW,wrG]at h
     split at h
     ·rename_i b hb; exact old (base b hb h)
     ·simp at h
    |some q=>
     simp only[hW,wrG]at h
     split at h
     ·rename_i b hb
      split at hb
      ·cases hz:(hget (f t).2.2.1 x).or (if x∈(f t).2.1++keysOf (f t).2.2.1 then none else(hget (canon ops f L σ0 t).heap x).map (Blk.mapc (killAll ((f t).2.1++keysOf (f t).2.2.1))))with
       |none=>rw[hz]at hb; cases hb
       |some b2=>
        rw[hz]at hb
        simp only[Option.map_some,Option.some.injEq]at hb
        subst hb
        exact⟨t,o,q,by omega,hL,ho,hW,h⟩
      ·exact old (base b hb h)
     ·simp at h
theorem cont_T{m:Nat}{σ0:St}{HD:Hid}{f:Nat→Told}(F:Facts cx ops m σ0 HD f){x y k:Nat}(hx:x∈HD.W)(hy:(y,k)∈HD.T)(L:Nat→Bool):∀t,t≤m→0<m→(∃ o,ops[0]? =some o)→y∉idsAt (canon ops f L σ0 t).heap x
 |0,_,h0,⟨o0,ho0⟩,h=>by
  have hh:=F.hid 0 o0 h0 ho0
  unfold idsAt at h
  split at h
  ·rename_i b hb
   exact hh.nW x (hh.names y k hy x b hb h) hx
  ·simp at h
 |t+1,ht,h0,hex,h=>by
  have ih:=cont_T F hx hy L t (by omega) h0 hex
  simp only[canon]at h
  cases ho:ops[t]? with
  |none=>rw[ho]at h; exact ih h
  |some o=>
   rw[ho]at h
   cases hL:L t with
   |false=>rw[hL]at h; exact ih h
   |true=>
    simp only[hL,cond_true]at h
    unfold idsAt at h
    rw[app1_get]at h
    have base:∀b,(hget (f t).2.2.1 x).or (if x∈(f t).2.1++keysOf (f t).2.2.1 then none else(hget (canon ops f L σ0 t).heap x).map (Blk.mapc (killAll ((f t).2.1++keysOf (f t).2.2.1))))=some b→y∈b.ids→y∈idsAt (canon ops f L σ0 t).heap x:=fun b hb hyb=>by
     cases hg:hget (f t).2.2.1 x with
     |some b2=>
      rw[hg]at hb
      simp only[Option.some_or,Option.some.injEq]at hb
      subst hb
      have:=get_ids _ _ _ hg y hyb
      rw[F.conts t o (by omega) ho]at this; simp at this
     |none=>
      rw[hg]at hb
      simp only[Option.none_or]at hb
      split at hb
      ·cases hb
      ·unfold idsAt
       cases hc:hget (canon ops f L σ0 t).heap x with
       |none=>rw[hc]at hb; cases hb
       |some b3=>
        rw[hc]at hb
        simp only[Option.map_some,Option.some.injEq]at hb
        subst hb
        cases b3 with
        |var t2 c=>exact(ids_killAll _ _ hyb).1
        |_=>simp[Blk.mapc,Blk.ids]at hyb
    cases hW:(f t).2.2.2 with
    |none=>
     simp only[hW,wrG]at h
     split at h
     ·rename_i b hb; exact ih (base b hb h)
     ·simp at h
    |some q=>
     simp only[hW,wrG]at h
     split at h
     ·rename_i b hb
      split at hb
      ·cases hz:(hget (f t).2.2.1 x).or (if x∈(f t).2.1++keysOf (f t).2.2.1 then none else(hget (canon ops f L σ0 t).heap x).map (Blk.mapc (killAll ((f t).2.1++keysOf (f t).2.2.1))))with
       |none=>rw[hz]at hb; cases hb
       |some b2=>
        rw[hz]at hb
        simp only[Option.map_some,Option.some.injEq]at hb
        subst hb
        exact F.wrT t o q (by omega) ho hW y k hy h
      ·exact ih (base b hb h)
     ·simp at h
theorem wcont{m:Nat}{σ0:St}{HD:Hid}{f:Nat→Told}(F:Facts cx ops m σ0 HD f)(S:DrawSpec cx ops m){L:Nat→Bool}(hL:∀p op q,p<m→L p=true→ops[p]? =some op→waitsB op q=true→L q=true){i:Nat}{oi:Oper}(hi:i<m)(hoi:ops[i]? =some oi){y:Nat}(hy:y∈keysOf (f i).2.2.1):
  ∀n o q,n<m→ops[n]? =some o→(f n).2.2.2=some q→y∈q.2.ids→i<n∧(L n=true→L i=true)∧∃j oj p op s,j<m∧ops[j]? =some oj∧(f j).2.1=[]∧p<j∧ops[p]? =some op∧y∈(f p).1.ids∧op.dst=some s∧s∈looks ops.toList oj:=by
 intro n
 induction n using Nat.strongRecOn with
 |_ n ih=>
  intro o q hn ho hq hyq
  obtain⟨w1,w2,w3,w4,w5,w6⟩:=F.wr n o q hn ho hq
  rcases w6 y hyq with u|⟨p,op,s,p1,p2,p3,p4,p5⟩|u
  ·rw [(F.fresh i oi hi hoi y hy).1]at u; cases u
  ·obtain ⟨c1,c2⟩:=carry_own F S hL hi hoi hy p op (by omega) p2 p3
   refine⟨by omega,fun hLn=>c2 (hL n o p hn hLn ho ?_),n,o,p,op,s,hn,ho,w2,p1,p2,p3,p4,p5⟩
   rcases S.apart p op n o p2 (by omega) ho p1 with v|v
   ·exact v
   ·exact absurd p5 ((apartB_spec v).1 s p4)
  ·obtain ⟨j,oj,qj,j1,_,j3,j4,j5⟩:=cont_src F hi hoi hy (fun _=>true) n (by omega) u
   obtain⟨k1,k2,k3⟩:=ih j j1 oj qj (by omega) j3 j4 j5
   have hsj:=(F.wr j oj qj (by omega) j3 j4).1
   exact⟨by omega,fun hLn=>k2 (hL n o j hn hLn ho (S.store j oj n o j3 hsj ho j1 hn w1)),k3⟩
theorem canon_tgt{m:Nat}(S:DrawSpec cx ops m){σ0:St}{HD:Hid}{f:Nat→Told}(F:Facts cx ops m σ0 HD f){L L':Nat→Bool}{x:Nat}(hx:x∈HD.W)
  (hd:∀i oi,i<m→ops[i]? =some oi→L i≠L' i→isStore cx oi.op=false∧x∉keysOf (f i).2.2.1):∀n,n≤m→hget (canon ops f L σ0 n).heap x=hget (canon ops f L' σ0 n).heap x
 |0,_=>rfl
 |n+1,hn=>by
  have ih:=canon_tgt S F hx hd n (by omega)
  simp only[canon]
  cases ho:ops[n]? with
  |none=>exact ih
  |some o=>
   simp only
   have same:L n≠L' n→∀Z:Nat→Bool,hget (app1 o (f n) (canon ops f Z σ0 n)).heap x=hget (canon ops f Z σ0 n).heap x:=by
    intro hne Z
    obtain⟨d1,d2⟩:=hd n o (by omega) ho hne
    have hWn:(f n).2.2.2=none:=by
     cases hW:(f n).2.2.2 with
     |none=>rfl
     |some q=>rw[(F.wr n o q (by omega) ho hW).1]at d1; cases d1
    have hxd:x∉(f n).2.1:=fun h=>F.goneW n o (by omega) ho x h hx
    rw[app1_get,hWn]
    simp only[wrG]
    rw[keys_none d2,if_neg (by simp[hxd,d2])]
    cases hc:hget (canon ops f Z σ0 n).heap x with
    |none=>rfl
    |some b=>
     simp only[Option.map_some,Option.none_or,Option.some.injEq]
     refine blk_off fun y hy hyb=> ?_
     have hya:y∈idsAt (canon ops f Z σ0 n).heap x:=by unfold idsAt; rw[hc]; exact hyb
     rcases List.mem_append.1 hy with hy|hy
     ·rcases F.gone n o (by omega) ho y hy with hT|⟨i,oi,s,g1,g2,g3,g4,g5,g6⟩
      ·have h0:∃o,ops[0]? =some o:=by
        have hs:n<ops.size:=(Array.getElem?_eq_some_iff.1 ho).1
        exact⟨ops[0],by simp⟩
       exact cont_T F hx hT Z n (by omega) (by omega) h0 hya
      ·obtain ⟨j,oj,q,j1,_,j3,j4,j5⟩:=cont_src F (by omega) g2 g3 Z n (by omega) hya
       obtain⟨_,_,j2,oj2,p,op,s2,e1,e2,e3,e4,e5,e6,e7,e8⟩:=wcont F S (L:=fun _=>true) (fun _ _ _ _ _ _ _=>rfl) (by omega) g2 g3 j oj q (by omega) j3 j4 j5
       have:=carry_sole F (by omega) (by omega) g2 ho g3 hy g4 g6 p op (by omega) e5 e6
       subst this
       rw[g2]at e5; injection e5 with e5; subst e5
       rw[g4]at e7; injection e7 with e7; subst e7
       by_cases e:j2=n
       ·subst e; rw[e3]at hy; simp at hy
       ·exact g6 j2 oj2 e1 e e2 e8
     ·obtain ⟨j,oj,q,j1,_,j3,j4,j5⟩:=cont_src F (by omega) ho hy Z n (by omega) hya
      have:=(wcont F S (L:=fun _=>true) (fun _ _ _ _ _ _ _=>rfl) (by omega) ho hy j oj q (by omega) j3 j4 j5).1
      omega
   cases hLn:L n with
   |true=>
    cases hL':L' n with
    |true=>simp only[cond_true,app1_get,ih]
    |false=>simp only[cond_true,cond_false,same (by rw[hLn,hL']; simp) L]; exact ih
   |false=>
    cases hL':L' n with
    |true=>simp only[cond_true,cond_false,same (by rw[hLn,hL']; simp) L']; exact ih
    |false=>exact ih
theorem app1_envs(o:Oper)(x:Told)(σ:St):(app1 o x σ).env=match o.dst with
  |some t=>(σ.env.map (killAll (x.2.1++keysOf x.2.2.1))).set t x.1
  |none=>σ.env.map (killAll (x.2.1++keysOf x.2.2.1)):=by
 have e:((σ.eff x.2.1 x.2.2.1).wr x.2.2.2).env=σ.env.map (killAll (x.2.1++keysOf x.2.2.1)):=killL_env _ σ
 unfold app1
 cases o.dst<;>simp[St.put,e]
theorem app1_like{σ τ:St}(h:σ.like τ)(o:Oper)(x:Told):(app1 o x σ).like (app1 o x τ):=
 ⟨by rw[app1_envs,app1_envs,h.env],by rw[app1_stk,app1_stk,h.stk],fun y=>by rw[app1_get,app1_get,h.heap]⟩
theorem app1_comm{o p:Oper}{x y:Told}{σ:St}(hdst:∀s t,o.dst=some s→p.dst=some t→s≠t)
  (hx:∀i∈y.2.1++keysOf y.2.2.1,i∉x.1.ids) (hy:∀i∈x.2.1++keysOf x.2.2.1,i∉y.1.ids)
  (h1:∀i∈x.2.1,i∉keysOf y.2.2.1) (h2:∀i∈y.2.1,i∉keysOf x.2.2.1) (h3:∀i∈keysOf x.2.2.1,i∉keysOf y.2.2.1) (hcx:contIds x.2.2.1=[]) (hcy:contIds y.2.2.1=[])
  (hWx:∀q,x.2.2.2=some q→∀i∈y.2.1++keysOf y.2.2.1,i∉q.2.ids∧i≠q.1) (hWy:∀q,y.2.2.2=some q→∀i∈x.2.1++keysOf x.2.2.1,i∉q.2.ids∧i≠q.1) (hone:x.2.2.2=none∨y.2.2.2=none):
  (app1 p y (app1 o x σ)).like (app1 o x (app1 p y σ)):=by
 refine⟨?_,?_,fun i=> ?_⟩
 ·simp only[app1_envs]
  have e1:=killAll_off _ _ hx
  have e2:=killAll_off _ _ hy
  have em:(σ.env.map (killAll (x.2.1++keysOf x.2.2.1))).map (killAll (y.2.1++keysOf y.2.2.1))=(σ.env.map (killAll (y.2.1++keysOf y.2.2.1))).map (killAll (x.2.1++keysOf x.2.2.1)):=by
   simp only[List.map_map]
   congr 1
   funext v
   exact killAll_comm _ _ v
  cases ho:o.dst with
  |none=>cases hp:p.dst with
   |none=>simp only[em]
   |some t=>simp only[em,List.map_set,e2]
  |some s=>cases hp:p.dst with
   |none=>simp only[em,List.map_set,e1]
   |some t=>
    simp only[List.map_set,em,e1,e2]
    rw[List.set_comm]
    exact hdst s t ho hp
 ·simp only[app1_stk,List.map_map]
  congr 1
  funext l
  simp only[Function.comp,List.map_map]
  congr 1
  funext v
  exact killAll_comm _ _ v
 ·simp only[app1_get]
  have off:∀(H:Heap) (l:List Nat) (b:Blk),contIds H=[]→hget H i=some b→Blk.mapc (killAll l) b=b:=fun H l b hc hg=>blk_off fun z hz hzb=>by
   have:=get_ids _ _ _ hg z hzb
   rw[hc]at this; simp at this
  have wr:∀(z1 z2:Told),z2.2.2.2=none→(∀ q,z1.2.2.2=some q→∀i∈z2.2.1++keysOf z2.2.2.1,i∉q.2.ids∧i≠q.1)→∀q,z1.2.2.2=some q→i=q.1→
    (hget z2.2.2.1 i).or (if i∈z2.2.1++keysOf z2.2.2.1 then none else(wrG z1.2.2.2 i ((hget z1.2.2.1 i).or (if i∈z1.2.1++keysOf z1.2.2.1 then none else(hget σ.heap i).map (Blk.mapc (killAll (z1.2.1++keysOf z1.2.2.1)))))).map (Blk.mapc (killAll (z2.2.1++keysOf z2.2.2.1))))=
    wrG z1.2.2.2 i ((hget z1.2.2.1 i).or (if i∈z1.2.1++keysOf z1.2.2.1 then none else((hget z2.2.2.1 i).or (if i∈z2.2.1++keysOf z2.2.2.1 then none else(hget σ.heap i).map (Blk.mapc (killAll (z2.2.1++keysOf z2.2.2.1))))).map (Blk.mapc (killAll (z1.2.1++keysOf z1.2.2.1))))):=by
   intro z1 z2 h2n hW q hq hi
   have hni:i∉z2.2.1++keysOf z2.2.2.1:=fun h=>(hW q hq i h).2 hi
   have hnk:i∉keysOf z2.2.2.1:=fun h=>hni (List.mem_append_right _ h)
   have hb:Blk.mapc (killAll (z2.2.1++keysOf z2.2.2.1)) q.2=q.2:=blk_off fun z hz=>(hW q hq z hz).1
   rw[keys_none hnk,if_neg hni,if_neg hni,hq]
   simp only[wrG,hi,if_true,Option.none_or,Option.map_map]
   cases hget z1.2.2.1 q.1 with
   |some b=>simp[hb]
   |none=>
    simp only[Option.none_or]
    split
    ·rfl
    ·cases hget σ.heap q.1 with
     |none=>rfl
     |some b=>simp[hb]
  by_cases wx:∃q,x.2.2.2=some q∧i=q.1
  ·obtain ⟨q,hq,hi⟩:=wx
   have hyn:y.2.2.2=none:=hone.resolve_left (by rw[hq]; simp)
   have:=wr x y hyn hWx q hq hi
   rw[hyn]; exact this
  by_cases wy:∃q,y.2.2.2=some q∧i=q.1
  ·obtain ⟨q,hq,hi⟩:=wy
   have hxn:x.2.2.2=none:=hone.resolve_right (by rw[hq]; simp)
   have:=wr y x hxn hWy q hq hi
   rw[hxn]; exact this.symm
  have ox:∀z,wrG x.2.2.2 i z=z:=fun z=>wrG_off z fun q hq e=>wx ⟨q,hq,e⟩
  have oy:∀z,wrG y.2.2.2 i z=z:=fun z=>wrG_off z fun q hq e=>wy ⟨q,hq,e⟩
  simp only[ox,oy]
  by_cases iy:i∈keysOf y.2.2.1
  ·obtain ⟨b,hb⟩:=Option.isSome_iff_exists.1 ((keys_get _ _).1 iy)
   have ix:i∉keysOf x.2.2.1:=fun h=>h3 i h iy
   have ixd:i∉x.2.1:=fun h=>h1 i h iy
   rw[hb,keys_none ix,if_neg (show i∉x.2.1++keysOf x.2.2.1 by simp[ixd,ix])]
   simp[off _ _ b hcy hb,ixd,ix]
  ·rw [keys_none iy]
   by_cases ix:i∈keysOf x.2.2.1
   ·obtain ⟨b,hb⟩:=Option.isSome_iff_exists.1 ((keys_get _ _).1 ix)
    have iyd:i∉y.2.1:=fun h=>h2 i h ix
    rw[hb,if_neg (show i∉y.2.1++keysOf y.2.2.1 by simp[iyd,iy])]
    simp[off _ _ b hcx hb,iyd,iy]
   ·rw [keys_none ix]
    simp only[Option.none_or]
    by_cases ixd:i∈x.2.1<;>by_cases iyd:i∈y.2.1<;>simp only[List.mem_append,ixd,iyd,ix,iy,or_true,or_false,if_true,if_false,Option.map_none]
    cases hget σ.heap i with
    |none=>rfl
    |some b=>
     simp only[Option.map_some,Option.some.injEq]
     cases b with
     |var t c=>simp only[Blk.mapc,killAll_comm]
     |_=>rfl
theorem canon_put{m:Nat}(S:DrawSpec cx ops m){σ0:St}{HD:Hid}{f:Nat→Told}(F:Facts cx ops m σ0 HD f){k:Nat}{ok:Oper}(hk:k<m)(hok:ops[k]? =some ok){L L':Nat→Bool}(hL:L k=false)(hL':∀i,L' i=(L i||Nat.beq k i))
  (hcl:∀p op q,p<m→L p=true→ops[p]? =some op→waitsB op q=true→L q=true):∀n,k<n→n≤m→(app1 ok (f k) (canon ops f L σ0 n)).like (canon ops f L' σ0 n)
 |0,h,_=>by omega
 |n+1,hn,hm=>by
  by_cases e:k=n
  ·subst e
   have h1:canon ops f L' σ0 k=canon ops f L σ0 k:=canon_congr k (fun _ _=>rfl) (fun i hi=>by rw[hL',beq_false (by omega),Bool.or_false])
   have h2:L' k=true:=by rw[hL',Nat.beq_refl,Bool.or_true]
   simp only[canon,hok,hL,h2,cond_false,cond_true,h1]
   exact St.like.refl _
  ·have ih:=canon_put S F hk hok hL hL' hcl n (by omega) (by omega)
   have e1:L' n=L n:=by rw[hL',beq_false e,Bool.or_false]
   simp only[canon,e1]
   cases ho:ops[n]? with
   |none=>exact ih
   |some o=>
    cases hLn:L n with
    |false=>exact ih
    |true=>
     simp only[cond_true]
     refine St.like.trans ?_ (app1_like ih o (f n))
     have hw:waitsB o k=false:=by
      cases hw:waitsB o k with
      |false=>rfl
      |true=>
       have:=hcl n o k (by omega) hLn ho hw
       rw[hL]at this; cases this
     have hap:apartB ops.toList ok o=true:=by
      rcases S.apart k ok n o hok hk ho (by omega)with q|q
      ·rw [hw]at q; cases q
      ·exact q
     obtain⟨p1,p2,p3⟩:=apartB_spec hap
     have offk:∀i j,(i,j)∈HD.T→∀q oq,q<m→ops[q]? =some oq→i∉keysOf (f q).2.2.1:=fun i j hT q oq hq hoq hm=>by
      obtain⟨b,hb,_⟩:=(F.hid k ok hk hok).old i j hT
      rw[(F.fresh q oq hq hoq i hm).1]at hb; cases hb
     have n1:∀i∈(f n).2.1,i∉keysOf (f k).2.2.1:=fun i hi hik=>by
      rcases F.gone n o (by omega) ho i hi with hT|⟨j,oj,s,g1,g2,g3,g4,g5,_⟩
      ·exact offk i n hT k ok hk hok hik
      have:=F.apart j k oj ok (by omega) hk g2 hok i g3 hik
      subst this
      rw[hok]at g2; injection g2 with g2; subst g2
      exact p1 s g4 g5
     have n2:∀i∈(f k).2.1,i∉keysOf (f n).2.2.1:=fun i hi hin=>by
      rcases F.gone k ok hk hok i hi with hT|⟨j,oj,s,g1,g2,g3,_⟩
      ·exact offk i k hT n o (by omega) ho hin
      have:=F.apart j n oj o (by omega) (by omega) g2 ho i g3 hin
      omega
     have n3:∀i∈keysOf (f k).2.2.1,i∉keysOf (f n).2.2.1:=fun i hi hin=>e (F.apart k n ok o hk (by omega) hok ho i hi hin)
     refine app1_comm (o:=o) (p:=ok) (x:=f n) (y:=f k) (fun s t hs ht=>(p3 t s ht hs).symm) (fun i hi hx=> ?_) (fun i hi hy=> ?_) n1 n2 (fun i h1 h2=>n3 i h2 h1) (F.conts n o (by omega) ho) (F.conts k ok hk hok) (fun q hq z hz=>⟨fun hzq=> ?_,fun hzt=> ?_⟩) (fun q hq z hz=>⟨fun hzq=> ?_,fun hzt=> ?_⟩) ?_
     ·rcases List.mem_append.1 hi with hi|hi
      ·rcases F.gone k ok hk hok i hi with hT|⟨j,oj,s,g1,g2,g3,g4,g5,g6⟩
       ·obtain ⟨o2,w1,w2⟩:=waitsAt_spec (F.idsT n o (by omega) ho i k hT hx)
        have w1:ops[k]? =some o2:=by simpa using w1
        rw[hok]at w1; injection w1 with w1; subst w1
        obtain⟨e2,he,hb,hon⟩:=waitsB_spec w2
        have:=S.edges k ok hok e2 he hb
        omega
       have:=carry_sole F (by omega) hk g2 hok g3 hi g4 g6 n o (by omega) ho hx
       omega
      ·have:=(carry_own F S hcl hk hok hi n o (by omega) ho hx).2 hLn
       rw[hL]at this; cases this
     ·rcases List.mem_append.1 hi with hi|hi
      ·rcases F.gone n o (by omega) ho i hi with hT|⟨j,oj,s,g1,g2,g3,g4,g5,g6⟩
       ·obtain ⟨o2,w1,w2⟩:=waitsAt_spec (F.idsT k ok hk hok i n hT hy)
        have w1:ops[n]? =some o2:=by simpa using w1
        rw[ho]at w1; injection w1 with w1; subst w1
        rw[hw]at w2; cases w2
       have:=carry_sole F (by omega) (by omega) g2 ho g3 hi g4 g6 k ok hk hok hy
       subst this
       rw[hok]at g2; injection g2 with g2; subst g2
       exact p1 s g4 g5
      ·have:=(carry_own F S hcl (by omega) ho hi k ok hk hok hy).1
       omega
     ·rcases List.mem_append.1 hz with hz|hz
      ·rcases F.gone k ok hk hok z hz with hT|⟨j,oj,s,g1,g2,g3,g4,g5,g6⟩
       ·exact F.wrT n o q (by omega) ho hq z k hT hzq
       obtain⟨_,_,j2,oj2,p,op,s2,d1,d2,d3,d4,d5,d6,d7,d8⟩:=wcont F S hcl (by omega) g2 g3 n o q (by omega) ho hq hzq
       have:=carry_sole F (by omega) hk g2 hok g3 hz g4 g6 p op (by omega) d5 d6
       subst this
       rw[g2]at d5; injection d5 with d5; subst d5
       rw[g4]at d7; injection d7 with d7; subst d7
       by_cases e2:j2=k
       ·subst e2; rw[d3]at hz; simp at hz
       ·exact g6 j2 oj2 d1 e2 d2 d8
      ·have:=(wcont F S hcl hk hok hz n o q (by omega) ho hq hzq).2.1 hLn
       rw[hL]at this; cases this
     ·rcases List.mem_append.1 hz with hz|hz
      ·exact F.goneW k ok hk hok z hz (by rw[hzt]; exact(F.wr n o q (by omega) ho hq).2.2.2.1)
      ·rcases (F.wr n o q (by omega) ho hq).2.2.2.2.1 with u|⟨p,op,s,p1,p2,p3,p4,p5⟩
       ·rw [← hzt,(F.fresh k ok hk hok z hz).1]at u; cases u
       ·rw [← hzt]at p3
        have hLp:=(carry_own F S hcl hk hok hz p op (by omega) p2 p3).2
        have hwp:waitsB o p=true:=by
         rcases S.apart p op n o p2 (by omega) ho p1 with v|v
         ·exact v
         ·exact absurd p5 ((apartB_spec v).1 s p4)
        have:=hLp (hcl n o p (by omega) hLn ho hwp)
        rw[hL]at this; cases this
     ·rcases List.mem_append.1 hz with hz|hz
      ·rcases F.gone n o (by omega) ho z hz with hT|⟨j,oj,s,g1,g2,g3,g4,g5,g6⟩
       ·exact F.wrT k ok q hk hok hq z n hT hzq
       obtain⟨_,_,j2,oj2,p,op,s2,d1,d2,d3,d4,d5,d6,d7,d8⟩:=wcont F S hcl (by omega) g2 g3 k ok q hk hok hq hzq
       have:=carry_sole F (by omega) (by omega) g2 ho g3 hz g4 g6 p op (by omega) d5 d6
       subst this
       rw[g2]at d5; injection d5 with d5; subst d5
       rw[g4]at d7; injection d7 with d7; subst d7
       by_cases e2:j2=n
       ·subst e2; rw[d3]at hz; simp at hz
       ·exact g6 j2 oj2 d1 e2 d2 d8
      ·have:=(wcont F S hcl (by omega) ho hz k ok q hk hok hq hzq).1
       omega
     ·rcases List.mem_append.1 hz with hz|hz
      ·exact F.goneW n o (by omega) ho z hz (by rw[hzt]; exact(F.wr k ok q hk hok hq).2.2.2.1)
      ·rcases (F.wr k ok q hk hok hq).2.2.2.2.1 with u|⟨p,op,s,p1,p2,p3,p4,p5⟩
       ·rw [← hzt,(F.fresh n o (by omega) ho z hz).1]at u; cases u
       ·rw [← hzt]at p3
        have:=(carry_own F S hcl (by omega) ho hz p op (by omega) p2 p3).1
        omega
     ·cases hWn:(f n).2.2.2 with
      |none=>exact .inl rfl
      |some q=>
       cases hWk:(f k).2.2.2 with
       |none=>exact .inr rfl
       |some q'=>
        have h1:=(F.wr n o q (by omega) ho hWn).1
        have h2:=(F.wr k ok q' hk hok hWk).1
        rw[S.store k ok n o hok h2 ho (by omega) (by omega) h1]at hw
        cases hw
def unl(m:Nat)(listed:Array Bool):Nat:=((List.range m).filter fun j=> !listed.getD j true).length
theorem filter_lt{p q:Nat→Bool}:∀(l:List Nat) (k:Nat),k∈l→p k=true→q k=false→(∀ j,q j=true→p j=true)→(l.filter q).length<(l.filter p).length
 | [],k,h,_,_,_=>by simp at h
 |x::l,k,h,hp,hq,hs=>by
  have mono:∀l:List Nat,(l.filter q).length≤(l.filter p).length:=fun l=>by
   induction l with
   |nil=>simp
   |cons y l ih=>
    simp only[List.filter_cons]
    cases hy:q y with
    |true=>rw[hs y hy]; simp; exact ih
    |false=>cases p y<;>simp<;>omega
  rcases List.mem_cons.1 h with h|h
  ·subst h
   simp only[List.filter_cons,hp,hq,if_true]
   have:=mono l
   simp; omega
  ·have:=filter_lt l k h hp hq hs
   simp only[List.filter_cons]
   cases hy:q x with
   |true=>rw[hs x hy]; simp; exact this
   |false=>cases p x<;>simp<;>omega
theorem tksOf_mem{k x:Nat}:∀{T:List (Nat×Nat)},x∈tksOf T k→(x,k)∈T
 | [],h=>by simp[tksOf]at h
 |q::T,h=>by
  simp only[tksOf]at h
  cases hq:Nat.beq q.2 k with
  |true=>
   rw[hq,cond_true]at h
   rcases List.mem_cons.1 h with h|h
   ·subst h; rw[← beq_iff.1 hq]; simp
   ·exact List.mem_cons_of_mem _ (tksOf_mem h)
  |false=>rw[hq,cond_false]at h; exact List.mem_cons_of_mem _ (tksOf_mem h)
theorem goneT_mem{L:List Oper}{k y j:Nat}:∀{T:List (Nat×Nat)},(y,j)∈T→j≠k→waitsAt L j k=false→y∈goneT L k T
 | [],h,_,_=>by simp at h
 |q::T,h,hj,hw=>by
  simp only[goneT]
  rcases List.mem_cons.1 h with h|h
  ·subst h
   simp only[beq_false hj,hw,Bool.not_false,Bool.and_self,cond_true]
   simp
  ·have:=goneT_mem h hj hw
   cases(!Nat.beq q.2 k&& !waitsAt L q.2 k)with
   |true=>rw[cond_true]; exact List.mem_cons_of_mem _ this
   |false=>rw[cond_false]; exact this
theorem killH_get(l:List Nat):∀(H:Heap) (x:Nat),hget (killH l H) x=(hget H x).map (killB l)
 | [],x=>rfl
 |q::H,x=>by
  simp only[killH,hget]
  cases Nat.beq q.1 x with
  |true=>rfl
  |false=>exact killH_get l H x
open Classical in
theorem head_any(hT:TabOk P cx)(hC:ConsOk P cx w0){m:Nat}(S:DrawSpec cx ops m){σ0:St}{HD:Hid}{f:Nat→Told}(H:∀k o,k<m→ops[k]? =some o→HeadRun cx R lev ops m σ0 HD f k o)(r:R){Q':Exit→Act→World→Prop}(hpan:∀c d v a w,Q' (.panic c) (a.put d v) w→Q' (.panic c) a w)(T:Nat)
  (hQ:∀g listed θ a w,T≤g→Upto ops listed m→Rel w0 Xo (canon ops f (fun _=>true) σ0 m) θ as a w→wpAny P .any ops Q' g listed a w):
  ∀(c g:Nat) (listed:Array Bool) (θ:Nat→Option Own) (a:Act) (w:World),c+T≤g→unl m listed≤c→HeadInv .any ops m listed→Rel w0 Xo (canon ops f (fun i=>listed.getD i false) σ0 m) θ as a w→wpAny P .any ops Q' g listed a w:=by
 have F:=facts_of H
 have hm:=S.le
 intro c
 induction c with
 |zero=>
  intro g listed θ a w hg hc inv h
  have hdone:headDone m listed:=fun j hj=>by
   cases hl:listed.getD j true with
   |true=>rfl
   |false=>
    have:j∈(List.range m).filter fun j=> !listed.getD j true:=List.mem_filter.2 ⟨List.mem_range.2 hj,by simp[hl]⟩
    have h0:((List.range m).filter fun j=> !listed.getD j true).length=0:=by unfold unl at hc; omega
    rw[List.length_eq_zero_iff]at h0
    rw[h0]at this; simp at this
  have hu:=upto_of_done hm inv hdone
  refine hQ g listed θ a w (by omega) hu ?_
  rw[← canon_congr (f:=f) (L:=fun i=>listed.getD i false) (L':=fun _=>true) m (fun _ _=>rfl) (fun i hi=>hu.is i hi (by omega))]
  exact h
 |succ c ih=>
  intro g listed θ a w hg hc inv h
  obtain⟨g,rfl⟩:∃g',g=g'+1:=⟨g-1,by omega⟩
  by_cases hd:headDone m listed
  ·have hu:=upto_of_done hm inv hd
   refine hQ (g+1) listed θ a w (by omega) hu ?_
   rw[← canon_congr (f:=f) (L:=fun i=>listed.getD i false) (L':=fun _=>true) m (fun _ _=>rfl) (fun i hi=>hu.is i hi (by omega))]
   exact h
  ·have hex:∃j,j<m∧listed.getD j true=false:=by
    unfold headDone at hd
    simp only[Classical.not_forall]at hd
    obtain⟨j,hj,hn⟩:=hd
    exact⟨j,hj,by simpa using hn⟩
   obtain⟨u,hu,hum,hlist⟩:∃u,u<m∧listed.getD u true=false∧∀j,j<u→listed.getD j true=true:=by
    obtain⟨u,⟨h1,h2⟩,h3⟩:=least hex
    refine⟨u,h1,h2,fun j hj=> ?_⟩
    cases hh:listed.getD j true with
    |true=>rfl
    |false=>have:=h3 j ⟨by omega,hh⟩; omega
   have hus:u<ops.size:=by omega
   have hou:ops[u]? =some ops[u]:=by simp[hus]
   have hready:u∈Region.ready .any ops listed:=mem_ready.2 ⟨hum,_,hou,fun e he hb=>by
    have:=S.edges u _ hou e he hb
    have h1:=hlist e.on this
    have:e.on<listed.size:=by rw[inv.size]; omega
    simpa[this]using h1⟩
   suffices step:∀k,k∈Region.ready .any ops listed→k<m→wpOp P ops Q' k (wpAny P .any ops Q' g (listed.setIfInBounds k true)) a w by
    by_cases hst:relB cx ops.toList=true∧∃u o,u<m∧ops[u]? =some o∧isCopy o=true∧listed.getD u true=false
    ·obtain ⟨hrel,u,o,hum,hou,hcp,hun⟩:=hst
     unfold isCopy at hcp
     simp only[Bool.and_eq_true]at hcp
     obtain⟨⟨hop,hg0⟩,haf⟩:=hcp
     have hur:u∈Region.ready .any ops listed:=mem_ready.2 ⟨hun,o,hou,fun e he hb=>by
      have:=List.all_eq_true.1 haf e (Array.mem_toList_iff.2 he)
      rw[hb]at this; cases this⟩
     have hg:o.guard=none:=by simpa using hg0
     have hw:Region.wanted o (yielded ops a.tmps)=true:=by simp[Region.wanted,hg]
     split at hop
     ·rename_i x hx
      have hex:∀w,(execOp a.eval o).run P w= .ok (.value (a.eval x)) w:=fun w=>by unfold execOp; rw[hx]; rfl
      have h1:=step u hur hum
      unfold wpOp at h1
      simp only[hou,hw,if_true]at h1
      have hK:wpAny P .any ops Q' g (listed.setIfInBounds u true) (a.put o.dst (a.eval x)) w:=by
       rcases h1 with h1|⟨h1,_⟩
       ·unfold Oper.wp at h1
        rw[hex w]at h1
        exact h1
       ·have e:execOp a.eval o=pure (.value (a.eval x)):=by unfold execOp; rw[hx]
        have:=h1.1
        rw[e]at this
        change noRoomEvent∈(#[]:Array Event)at this
        simp at this
      refine wpAny_first hou (fun j oj cs b hoj=> ?_) (fun c a w=>hpan c _ _ a w) g listed a w (fun j oj hoj hj hjun hno=> ?_) hur (.inl ⟨hw,hex⟩) hK
      ·simp only[relB,Bool.and_eq_true]at hrel
       have:=List.all_eq_true.1 hrel.2 oj (by simpa using Array.mem_of_getElem? hoj)
       intro e; rw[e]at this; cases this
      ·rcases Nat.lt_trichotomy j u with q|q|q
       ·rcases S.apart j oj u o hoj (by omega) hou q with z|z
        ·obtain ⟨e,he,hb,_⟩:=waitsB_spec z
         have:=List.all_eq_true.1 haf e (Array.mem_toList_iff.2 he)
         rw[hb]at this; cases this
        ·obtain ⟨z1,z2,z3⟩:=apartB_spec z
         refine apart_of ?_
         unfold apartB
         rw[offB_of z2,offB_of z1]
         cases hd:o.dst with
         |none=>rfl
         |some s=>cases hd2:oj.dst with
          |none=>rfl
          |some t=>
           have e:=beq_false (Ne.symm (z3 t s hd2 hd))
           simp only[e]; rfl
       ·exact absurd q hj
       ·rcases S.apart u o j oj hou hum hoj q with z|z
        ·obtain ⟨e,he,hb,hon⟩:=waitsB_spec z
         exact absurd hon (hno e he hb)
        ·exact apart_of z
     ·cases hop
    ·refine ⟨fun h0=>(by rw[h0]at hready; cases hready),fun k hkr=>step k hkr ?_⟩
     rcases Nat.lt_or_ge k m with h|h
     ·exact h
     ·obtain ⟨_,oi,hoi,_⟩:=mem_ready.1 hkr
      have his:k<ops.size:=(Array.getElem?_eq_some_iff.1 hoi).1
      have hms:m<ops.size:=by omega
      refine absurd hkr (tail_waits2 (fun i hi hun=> ?_) (S.chain hms) hms inv _ u rfl hu hum k h)
      rcases S.sink hms i hi with q|⟨q1,oj,q2,q3⟩
      ·exact q
      ·exact absurd ⟨q1,i,oj,hi,q2,q3,hun⟩ hst
   intro k hkr hkm
   obtain⟨hkun,o,hok,hall⟩:=mem_ready.1 hkr
   have hkf:listed.getD k false=false:=getD_both hkun
   have run:=H k o hkm hok
   have waits:∀i,waitsB o i=true→listed.getD i false=true:=fun i hw=>by
    obtain⟨e,he,hb,hon⟩:=waitsB_spec hw
    rw[← hon]; exact hall e he hb
   have hdiff:∀i oi,i<m→ops[i]? =some oi→listed.getD i false≠(fun i=>Nat.blt i k) i→i≠k∧∀s,oi.dst=some s→s∉looks ops.toList o:=by
    intro i oi hi hoi hne
    rcases Nat.lt_trichotomy i k with hlt|heq|hgt
    ·refine ⟨by omega,?_⟩
     have e1:Nat.blt i k=true:=by simpa[Nat.blt_eq]using hlt
     simp only[e1]at hne
     rcases S.apart i oi k o hoi hi hok hlt with q|q
     ·exact absurd (waits i q) hne
     ·exact (apartB_spec q).1
    ·subst heq
     exfalso
     apply hne
     rw[hkf]
     cases hb:Nat.blt i i with
     |false=>simp only[hb]
     |true=>exact absurd hb (by simp[Nat.blt_eq])
    ·refine ⟨by omega,?_⟩
     have e1:Nat.blt i k=false:=by
      cases hb:Nat.blt i k with
      |false=>rfl
      |true=>
       have:i<k:=by simpa[Nat.blt_eq]using hb
       omega
     simp only[e1]at hne
     have hli:listed.getD i false=true:=by simpa using hne
     rcases S.apart k o i oi hok hkm hoi hgt with q|q
     ·obtain ⟨e,he,hb,hon⟩:=waitsB_spec q
      have:=inv.closed i oi hoi hli e he hb
      rw[hon,hkf]at this; cases this
     ·exact (apartB_spec q).2.1
   have hcl:∀p op q,p<m→(fun i=>listed.getD i false) p=true→ops[p]? =some op→waitsB op q=true→(fun i=>listed.getD i false) q=true:=by
    intro p op q hp hlp hop hw
    obtain⟨e,he,hb,hon⟩:=waitsB_spec hw
    have:=inv.closed p op hop hlp e he hb
    rw[hon]at this; exact this
   have hpass:∀p op t i,p<m→(fun i=>listed.getD i false) p=true→ops[p]? =some op→op.dst=some t→t∈looks ops.toList o→i≤p→(fun i=>listed.getD i false) i=true→(fun i=>Nat.blt i k) i=true:=by
    intro p op t i hpm hlp hop hpt htl hip hli
    have hlp':listed.getD p false=true:=hlp
    have hpk:p<k:=by
     rcases Nat.lt_trichotomy p k with q|q|q
     ·exact q
     ·subst q; rw[hkf]at hlp'; cases hlp'
     ·rcases S.apart k o p op hok hkm hop q with u|u
      ·have:=hcl p op k hpm hlp hop u
       simp only[hkf]at this; cases this
      ·exact absurd htl ((apartB_spec u).2.1 t hpt)
    have:i<k:=by omega
    simpa[Nat.blt_eq]using this
   have hwait:∀i oi,i<m→ops[i]? =some oi→listed.getD i false≠(fun i=>Nat.blt i k) i→waitsB oi k=false:=by
    intro i oi hi hoi hne
    cases hw:waitsB oi k with
    |false=>rfl
    |true=>
     exfalso
     obtain⟨e,he,hb,hon⟩:=waitsB_spec hw
     have hki:=S.edges i oi hoi e he hb
     have e1:Nat.blt i k=false:=by
      cases hb:Nat.blt i k with
      |false=>rfl
      |true=>
       have:i<k:=by simpa[Nat.blt_eq]using hb
       omega
     have hli:listed.getD i false=true:=by simpa[e1]using hne
     have:=hcl i oi k hi hli hoi hw
     simp only[hkf]at this; cases this
   have hlate:∀p op t,p<m→(fun i=>listed.getD i false) p=true→ops[p]? =some op→op.dst=some t→t∈looks ops.toList o→p<k:=by
    intro p op t hpm hlp hop hpt htl
    have hlp':listed.getD p false=true:=hlp
    rcases Nat.lt_trichotomy p k with q|q|q
    ·exact q
    ·subst q; rw[hkf]at hlp'; cases hlp'
    ·rcases S.apart k o p op hok hkm hop q with u|u
     ·have:=hcl p op k hpm hlp hop u
      simp only[hkf]at this; cases this
     ·exact absurd htl ((apartB_spec u).2.1 t hpt)
   have hpre:canon ops f (fun i=>Nat.blt i k) σ0 m=canon ops f (fun _=>true) σ0 k:=by
    have stop:∀n,k≤n→canon ops f (fun i=>Nat.blt i k) σ0 n=canon ops f (fun i=>Nat.blt i k) σ0 k:=by
     intro n hn
     induction n with
     |zero=>
      have:k=0:=by omega
      subst this; rfl
     |succ n ihn=>
      by_cases e:k=n+1
      ·rw [e]
      ·have hb:Nat.blt n k=false:=by
        cases hb:Nat.blt n k with
        |false=>rfl
        |true=>
         have:n<k:=by simpa[Nat.blt_eq]using hb
         omega
       rw[← ihn (by omega)]
       simp only[canon,hb,cond_false]
       split<;>rfl
    rw[stop m (by omega)]
    exact canon_congr k (fun _ _=>rfl) (fun i hi=>by simpa[Nat.blt_eq]using hi)
   have hvis:∀x b,x∉HD.W→(∀ n,(x,n)∉HD.T)→x∉HD.N→hget (visH σ0.heap (seenL (looks ops.toList o) (madeL ops f k)) (madeL ops f k)) x=some b→hget (canon ops f (fun i=>listed.getD i false) σ0 m).heap x=some b:=by
    intro x b hxw hxT hxN hx
    rcases visH_get _ x b hx with hx|⟨hsee,q,hq,hx⟩
    ·exact canon_old F hxw hxT hxN hx m (Nat.le_refl m)
    ·obtain ⟨i,oi,hi,hoi,rfl⟩:=madeL_mem k q hq
     have hxi:x∈keysOf (f i).2.2.1:=(keys_get _ _).2 (by rw[show hget (f i).2.2.1 x=some b from hx]; rfl)
     obtain⟨e,he,hlk,hxe⟩:=seenL_mem _ hsee
     obtain⟨j,oj,hj,hoj,rfl⟩:=madeL_mem k e he
     obtain⟨s,hs,hsl⟩:=lookB_iff.1 hlk
     have hlj:listed.getD j false=true:=by
      rcases S.apart j oj k o hoj (by omega) hok hj with q|q
      ·exact waits j q
      ·exact absurd hsl ((apartB_spec q).1 s hs)
     have hli:listed.getD i false=true:=(carry_own F S hcl (by omega) hoi hxi j oj (by omega) hoj hxe).2 hlj
     refine canon_new F (i:=i) (by omega) hoi hli hxw hx (fun j' oj' hj' hoj' hlj' hxj=> ?_) m (Nat.le_refl m) (by omega)
     rcases F.gone j' oj' hj' hoj' x hxj with hT|⟨i2,oi2,s2,g1,g2,g3,g4,g5,g6⟩
     ·exact hxT j' hT
     have:=carry_sole F (by omega) hj' g2 hoj' g3 hxj g4 g6 j oj (by omega) hoj hxe
     subst this
     rw[hoj]at g2; injection g2 with g2; subst g2
     have g4:some s=some s2:=hs.symm.trans g4
     injection g4 with g4; subst g4
     have hkj:k≠j':=fun e=>by rw[← e,hkf]at hlj'; cases hlj'
     exact g6 k o hkm hkj hok hsl
   have hagree:=canon_agree S F hkm hok (L:=fun i=>listed.getD i false) (L':=fun i=>Nat.blt i k) hcl hdiff hwait hlate hpass m (Nat.le_refl m)
   have hhid:=F.hid k o hkm hok
   have hext:ExtL (seeH cx ops.toList HD σ0 (canon ops f (fun _=>true) σ0 k) (madeL ops f k) k o) (canon ops f (fun i=>listed.getD i false) σ0 m).heap (cond (isLoad o.op&&(f k).1.noBad) (ldOf (canon ops f (fun _=>true) σ0 k) o) []):=by
    intro x b hx
    unfold seeH at hx
    rw[apH_get]at hx
    cases hg:hget (onlyH HD.W (onlyH (tgtOf cx (canon ops f (fun _=>true) σ0 k) o) (canon ops f (fun _=>true) σ0 k).heap)) x with
    |none=>
     rw[hg]at hx
     simp only[Option.none_or]at hx
     rw[apH_get]at hx
     cases hg2:hget (onlyH (tksOf HD.T k) σ0.heap) x with
     |some c=>
      rw[hg2]at hx
      simp only[Option.some_or,Option.some.injEq]at hx
      subst hx
      obtain⟨h1,hxt⟩:=onlyH_get _ _ _ hg2
      exact .inl (canon_taken F (tksOf_mem hxt) hkf h1 m (Nat.le_refl m))
     |none=>
      rw[hg2]at hx
      simp only[Option.none_or]at hx
      rw[apH_get]at hx
      cases hg3:hget (killH (goneT ops.toList k HD.T) (onlyH HD.N (onlyH (ldOf (canon ops f (fun _=>true) σ0 k) o) σ0.heap))) x with
      |none=>
       rw[hg3]at hx
       obtain⟨h1,h2⟩:=hideH_get _ _ _ (by simpa using hx)
       simp only[List.mem_append,not_or]at h2
       exact .inl (hvis x b h2.1 (fun n hn=>h2.2.1 (List.mem_map.2 ⟨_,hn,rfl⟩)) h2.2.2 h1)
      |some c=>
       rw[hg3]at hx
       simp only[Option.some_or,Option.some.injEq]at hx
       subst hx
       rw[killH_get]at hg3
       cases hg4:hget (onlyH HD.N (onlyH (ldOf (canon ops f (fun _=>true) σ0 k) o) σ0.heap)) x with
       |none=>rw[hg4]at hg3; cases hg3
       |some b0=>
        rw[hg4]at hg3
        simp only[Option.map_some,Option.some.injEq]at hg3
        obtain⟨h1,hxN⟩:=onlyH_get _ _ _ hg4
        obtain⟨h2,hxl⟩:=onlyH_get _ _ _ h1
        have hld:isLoad o.op=true:=by
         unfold ldOf at hxl
         split at hxl
         ·rename_i hop; rw[hop]; rfl
         ·simp at hxl
        have hT:HD.T≠ []:=fun e=>by rw[hhid.nE e]at hxN; simp at hxN
        have hnb:(f k).1.noBad=true:=by
         rcases F.loadT k o hkm hok hld hT with q|q
         ·exact q
         ·exact absurd hxN (q x hxl)
        obtain⟨l,c1,c2⟩:=canon_named F (L:=fun i=>listed.getD i false) (hhid.nW x hxN) (hhid.nT x hxN) h2 m (Nat.le_refl m)
        rw[hld,hnb]
        refine .inr ⟨hxl,b0,goneT ops.toList k HD.T,l,hg3.symm,c1,fun y hy hyb=> ?_⟩
        obtain⟨j,j1,j2⟩:=c2 y hy hyb
        refine goneT_mem j2 (fun e=> ?_) ?_
        ·subst e; rw[hkf]at j1; cases j1
        ·cases hw:waitsAt ops.toList j k with
         |false=>rfl
         |true=>
          exfalso
          obtain⟨oj,w1,w2⟩:=waitsAt_spec hw
          have w1:ops[j]? =some oj:=by simpa using w1
          have hjm:j<m:=by
           rcases Nat.lt_or_ge j m with q|q
           ·exact q
           ·have hjs:j<ops.size:=(Array.getElem?_eq_some_iff.1 w1).1
            have hms:m<ops.size:=by omega
            have hl:listed.getD j true=false:=inv.tail j q hjs
            have:listed.getD j false=true:=j1
            rw[getD_both hl]at this; cases this
          have:=hcl j oj k hjm j1 w1 w2
          simp only[hkf]at this; cases this
    |some c=>
     rw[hg]at hx
     simp only[Option.some_or,Option.some.injEq]at hx
     subst hx
     obtain⟨h1,hxw⟩:=onlyH_get _ _ _ hg
     obtain⟨h2,hxt⟩:=onlyH_get _ _ _ h1
     obtain⟨hst,t,htl,hxt'⟩:=tgtOf_spec (L:=ops.toList) hxt
     rw[← hpre]at h2 hxt'
     obtain⟨ag1,ag2⟩:=hagree t htl
     rw[← ag1]at hxt'
     refine .inl ?_
     rw[canon_tgt S F hxw (L:=fun i=>listed.getD i false) (L':=fun i=>Nat.blt i k) (fun i oi hi hoi hne=> ?_) m (Nat.le_refl m)]
     ·exact h2
     ·constructor
      ·cases hsi:isStore cx oi.op with
       |false=>rfl
       |true=>
        exfalso
        apply hne
        rcases Nat.lt_trichotomy i k with q|q|q
        ·have:=waits i (S.store i oi k o hoi hsi hok q hkm hst)
         show listed.getD i false=Nat.blt i k
         rw[this]; symm; simpa[Nat.blt_eq]using q
        ·subst q
         show listed.getD i false=Nat.blt i i
         rw[hkf]; symm
         cases hb:Nat.blt i i with
         |false=>rfl
         |true=>exact absurd hb (by simp[Nat.blt_eq])
        ·have hw:=S.store k o i oi hok hst hoi q hi hsi
         cases hli:listed.getD i false with
         |true=>
          have:=hcl i oi k hi hli hoi hw
          simp only[hkf]at this; cases this
         |false=>
          show false=Nat.blt i k
          symm
          cases hb:Nat.blt i k with
          |false=>rfl
          |true=>
           have:i<k:=by simpa[Nat.blt_eq]using hb
           omega
      ·intro hxi
       rcases ag2 x hxt' with hn|⟨p,op,p1,p2,p3,p4,p5⟩
       ·exact names_env (F.fresh i oi hi hoi x hxi).2.2 t hn
       obtain⟨c1,c2⟩:=carry_own F S hcl hi hoi hxi p op p1 p3 p5
       have e1:=c2 p2
       have e2:=hpass p op t i p1 p2 p3 p4 htl c1 e1
       exact hne (e1.trans e2.symm)
   have hp:=run.mono (canon ops f (fun i=>listed.getD i false) σ0 m) (fun τ tv D A W=>if tv=(f k).1∧D=(f k).2.1∧A=(f k).2.2.1∧W=(f k).2.2.2 then some r else none) hext (fun t ht=>by
    rw[← hpre]; exact(hagree t ht).1)
   simp only[and_self,if_true]at hp
   have:=opGD_sound hT hC h hp (Q:=Q') (K':=wpAny P .any ops Q' g (listed.setIfInBounds k true)) fun tv D A W θ' a' w' k1 k2=>by
    split at k1
    ·rename_i e
     obtain⟨e1,e2,e3,e4⟩:=e
     subst e1; subst e2; subst e3; subst e4
     refine ih g _ θ' a' w' (by omega) ?_ (inv.set hkr hkm) (Rel.like ?_ k2)
     ·have:unl m (listed.setIfInBounds k true)<unl m listed:=by
       refine filter_lt _ k (List.mem_range.2 hkm) (by simp[hkun]) ?_ fun j hj=> ?_
       ·have:k<listed.size:=by rw[inv.size]; omega
        simp[this]
       ·by_cases e:k=j
        ·subst e; simp[hkun]
        ·rw [getD_set_ne true e]at hj; exact hj
      omega
     ·refine canon_put S F hkm hok (L:=fun i=>listed.getD i false) hkf (fun i=> ?_) hcl m hkm (Nat.le_refl m)
      by_cases e:k=i
      ·subst e
       have:k<listed.size:=by rw[inv.size]; omega
       simp[this]
      ·rw [getD_set_ne false e,beq_false e,Bool.or_false]
    ·cases k1
   unfold wpOp
   simp only[hok]
   split
   ·rename_i hw; simp only[hw,if_true]at this; exact .inl this
   ·rename_i hw; simp only[hw]at this; exact this
theorem draw_sound(hT:TabOk P cx)(hC:ConsOk P cx w0)(hm:P.follows .mixedOrders=true){call:CallK R}(hcall:CallOk P w0 Xo call)(r:R):DrawOk P w0 Xo cx call r:=by
 intro as lev fn id ops σ θ a w K hd hp h
 refine wp_region_any hm ?_
 have S:=drawB_spec hd
 have hlen:(ops.toList.take (drawN cx ops.toList)).length=drawN cx ops.toList:=by have:=S.le; simp; omega
 have inv:HeadInv .any ops (drawN cx ops.toList) (Array.replicate ops.size false):=⟨by simp,fun j oj hj hl=>(by rw[getD_replicate_false]at hl; cases hl),fun t _ hts=>by simp[hts]⟩
 obtain⟨f,_,f2,f3⟩:=headK_run (cx:=cx) (lev:=lev) (ops:=ops) (m:=drawN cx ops.toList) (σ0:=σ) (HD:=hidL cx lev σ (ops.toList.take (drawN cx ops.toList))) (r:=r) (K:=fun τ=>opsK cx call lev fn false ops.toList (ops.toList.drop (drawN cx ops.toList)) τ (K .normal)) (ops.toList.take (drawN cx ops.toList)) 0 (fun _=>(.dead,[],[],none))
  (fun j hj=>by rw[List.getElem?_take_of_lt (by omega)]; simp) (by omega) hp
 refine head_any (w0:=w0) (Xo:=Xo) (as:=as) (σ0:=σ) hT hC S (fun k o hk ho=>f2 k o (by omega) hk ho) r (fun c d v a w=>fun⟨x,_,_,e,_⟩=>by cases x<;>cases e) (ops.size-drawN cx ops.toList) (fun g listed θ a w hg hu hr=> ?_) _ _ _ θ a _ (?_:drawN cx ops.toList+_≤_) ?_ inv ?_
 ·refine wpAny_tail hT hcall (K:=K .normal) (r:=r) (fun σ θ a w hk hr=>⟨.normal,σ,θ,rfl,hr,hk⟩) (ops.toList.drop (drawN cx ops.toList)) (drawN cx ops.toList) g listed _ θ a w (fun j=>by simp) (by simp; omega) hu (fun j oj hj=> ?_) f3 hr
  have hj':ops[drawN cx ops.toList+j]? =some oj:=by simpa using hj
  exact⟨S.edges _ oj hj',fun hj0=>S.tail _ oj hj' (by omega)⟩
 ·have:=S.le; omega
 ·unfold unl
  refine Nat.le_trans (List.length_filter_le _ _) ?_
  simp
 ·have e:canon ops f (fun i=>(Array.replicate ops.size false).getD i false) σ (drawN cx ops.toList)=σ:=by
   have:∀n,canon ops f (fun i=>(Array.replicate ops.size false).getD i false) σ n=σ:=by
    intro n
    induction n with
    |zero=>rfl
    |succ n ih=>
     simp only[getD_replicate_false]at ih
     simp only[canon,getD_replicate_false,cond_false]
     split<;>exact ih
   exact this _
  rw[e]
  exact h.below (Keeps.drew _ w (w.drawn+1) (Nat.le_succ _))
end Go.Ai
/- Calls in place; functions. -/
namespace Go.Ai
open Go.RowKit
variable {P:Program} {cx:Cx} {w0:Base} {Xo:Nat→Prop} {σ:St} {θ:Nat→Option Own} {as:List (Array Value)} {a:Act} {w:World} {X X':Nat→Prop} {R:Type} {r:R} {base:Nat→Nat→Prop}
structure InlOk (P:Program) (f:FuncId) (i:Inl):Prop where
 fn : ∃ fn, P.funcs[f]? = some fn ∧ fn.body = some i.code ∧ fn.ntmps = i.ntmps ∧ fn.results.toList = i.results ∧ (fn.name == "runtime.NumGoroutine") = false
 few:i.results.length≤5
theorem InlOk.enter{f:FuncId}{i:Inl}(h:InlOk P f i)(args:Array Value)(w:World):(callFunc f args).run P w= .ok (.enter f args) w:=by
 obtain⟨⟨fn,h1,h2,_,_,h5⟩,_⟩:=h
 have h5' : (fn.name == "runtime.NumGoroutine") = false := h5
 simp only[beq_eq_false_iff_ne,ne_eq]at h5'
 simp[callFunc,h1,h2,h5']
theorem env_start{args:List TV}{vs:Array Value}(hv:EnvRel w X θ args vs)(n:Nat):EnvRel w X θ (args++List.replicate (n-args.length) .dead) (vs++Array.replicate (n-vs.size) undef):=by
 refine⟨by simp[hv.1],fun t tv ht=> ?_⟩
 rw[List.getElem?_append]at ht
 by_cases hlt:t<args.length
 ·simp only[hlt,if_true]at ht
  obtain⟨v,k1,k2⟩:=hv.2 t tv ht
  exact⟨v,by rw[Array.getElem?_append_left (by rw[hv.1]; exact hlt)]; exact k1,k2⟩
 ·simp only[hlt,if_false]at ht
  have hlt2:t-args.length<n-args.length:=by
   rcases Nat.lt_or_ge (t-args.length) (n-args.length)with h|h
   ·exact h
   ·rw [List.getElem?_eq_none (by simpa using h)]at ht; cases ht
  have:tv= .dead:=by simpa[hlt2,eq_comm]using ht
  subst this
  refine⟨undef,?_,trivial⟩
  rw[Array.getElem?_append_right (by rw[hv.1]; omega),hv.1]
  simp[hlt2]
theorem pop_sound(hC:CxOk P cx){i:Inl}{fn:Func}(hf:fn.results.toList=i.results)(hfew:i.results.length≤5){ac:Act}(h:Rel w0 Xo σ θ (a.tmps::as) ac w)(hd:a.defers=[]){d:Option Tmp}{lev:Nat}{K:TV→St→Option R}
  (hp:popK cx i d lev σ K=some r):∃v,(results fn ac.tmps).run P w= .ok v w∧∃tv σ' θ',K tv σ'=some r∧Rel w0 Xo σ' θ' as a w∧RVal w (owned Xo θ' σ'.heap) θ' tv v:=by
 unfold popK at hp
 split at hp
 ·cases hp
 ·rename_i tv htv
  obtain⟨v,k1,k2⟩:=res_sound hC h hf hfew htv
  clear htv
  obtain⟨tv',σ',θ',hp,h,k2⟩:=trunc_sound h k2 hp
  revert hp h k2
  generalize tv'=tv,σ'=σ,θ'=θ
  intro hp h k2
  split at hp
  ·cases hp
  ·rename_i env stk hstk
   refine⟨v,k1,?_⟩
   have hs:=h.stk
   rw[hstk]at hs
   have h1:Rel w0 Xo {σ with env:=env,stk:=stk} θ as a w:=⟨h.keeps,h.xo,h.heap,hs.1,hs.2,hd,h.pin⟩
   have h2:=Rel.killL (gone (lev+1) (keptIds (lev+1) (keptIds (lev+1) tv.ids++(keptIds (lev+1) tv.ids).flatMap (blkIds σ.heap)++outIds (lev+1) σ.heap)) σ.heap) _ h1
   refine mvAll_sound _ _ tv v _ θ K hp h2 ?_
   have hst:Step (owned Xo θ σ.heap) (owned Xo θ (({σ with env:=env,stk:=stk}:St).killL (gone (lev+1) (keptIds (lev+1) (keptIds (lev+1) tv.ids++(keptIds (lev+1) tv.ids).flatMap (blkIds σ.heap)++outIds (lev+1) σ.heap)) σ.heap)).heap) w w:=by
    refine⟨⟨fun _=>False,Keeps.refl _ w,fun _ _ h=>h.elim⟩,fun b _ hb=> ?_⟩
    rcases hb with hb|⟨k,g1,g2⟩
    ·exact .inl hb
    ·rw [killL_get]at g1
     split at g1
     ·cases g1
     ·simp only[Option.isSome_map]at g1
      exact .inr ⟨k,g1,g2⟩
   exact RVal.step hst tv v (fun _ _=>rfl) k2
structure TabsOk (P:Program) (cx:Cx):Prop where
 tab:TabOk P cx
 con:∀f c,cx.con f=some c→ConOk P f c
 tak:∀f c,cx.tak f=some c→TakOk P f c
 inp:∀f c,cx.inp f=some c→InpOk P f c
 inl:∀f i,cx.inl f=some i→InlOk P f i
 mixed:P.follows .mixedOrders=true
theorem callK_sound(hG:GBase P w0)(hT:TabsOk P cx):∀n,CallOk P w0 Xo (callK (R:=R) cx n)
 |0,lev,fn,draw,f,args,d,σ,K,r,θ,as,a,w,vs,hp,_,_=>by simp[callK]at hp
 |n+1,lev,fn,draw,f,args,d,σ,K,r,θ,as,a,w,vs,hp,h,hv=>by
  have ih:=callK_sound hG hT n
  simp only[callK]at hp
  split at hp
  ·rename_i c hc
   exact con_sound hG (hT.con f c hc) h hv hp
  split at hp
  ·rename_i c hc
   exact tak_sound hG (hT.tak f c hc) (newId_ne lev d) h hv hp
  split at hp
  ·rename_i c hc
   exact inp_sound hG (hT.inp f c hc) h hv hp
  ·split at hp
   ·rename_i i hi
    have hio:=hT.inl f i hi
    refine .inl ⟨hio.enter vs w,?_⟩
    obtain⟨⟨fd,f1,f2,f3,f4,_⟩,hfew⟩:=hio
    refine calls_of_wp f1 f2 ?_
    have hrel:Rel w0 Xo {env:=args++List.replicate (i.ntmps-args.length) .dead,stk:=σ.env::σ.stk,heap:=σ.heap} θ (a.tmps::as) {tmps:=vs++Array.replicate (fd.ntmps-vs.size) undef,defers:=[]} w:=
     ⟨h.keeps,h.xo,h.heap,by rw[f3]; exact env_start hv i.ntmps,⟨h.env,h.stk⟩,rfl,h.pin⟩
    refine wp_mono (exec_sound hT.tab ih (draw_sound hT.tab ⟨hG,hT.con,hT.tak,hT.inp⟩ hT.mixed ih r) i.code _ θ _ w _ hp hrel) fun e ac w' ⟨x,σ',θ',hx,h',hp'⟩=> ?_
    subst hx
    cases x with
    |exit j=>simp[retK]at hp'
    |normal=>
     simp only[retK]at hp'
     obtain⟨v,k1,k2⟩:=pop_sound hT.tab.c f4 hfew h' h.defers hp'
     exact⟨h'.defers,v,k1,v,rfl,k2⟩
    |ret=>
     simp only[retK]at hp'
     obtain⟨v,k1,k2⟩:=pop_sound hT.tab.c f4 hfew h' h.defers hp'
     exact⟨h'.defers,v,k1,v,rfl,k2⟩
   ·cases hp
def argTV:(t:Ty)→t.den→TV
 | .fnc f,_=> .fn f (.pv .unit ())
 |t,x=> .pv t x
def argsTV:(t:Ty)→t.den→List TV
 | .pair a b,x=>argTV a x.1::argsTV b x.2
 |_,_=>[]
theorem argTV_rel{θ:Nat→Option Own}{v:Value}{cs:List Value}:(t:Ty)→(x:t.den)→boxed t.isAgg v cs→Rep w X t cs x→RVal w X θ (argTV t x) v
 | .fnc f,_,hb,hr=>by
  have hr':cs=[.func (.func f) #[] #[]]:=hr
  subst hr'
  exact⟨_,hb,[],rfl,rfl⟩
 | .int _,x,hb,hr| .bool,x,hb,hr| .str,x,hb,hr| .slice _,x,hb,hr| .arr _ _,x,hb,hr| .unit,x,hb,hr| .pair _ _,x,hb,hr| .ref _,x,hb,hr| .opt _,x,hb,hr=>⟨cs,hb,hr⟩
theorem argsTV_rel{θ:Nat→Option Own}:∀(t:Ty) (vs:List Value) (x:t.den),ArgsRep w X t vs x→vs.length=(argsTV t x).length∧∀(i:Nat) tv,(argsTV t x)[i]? =some tv→∃v,vs[i]? =some v∧RVal w X θ tv v
 | .unit,vs,x,h=>by have:vs=[]:=h; subst this; simp[argsTV]
 | .pair a b,vs,x,⟨v,r,cs,h0,h1,h2,h3⟩=>by
  obtain⟨k1,k2⟩:=argsTV_rel (θ:=θ) b r x.2 h3
  subst h0
  refine⟨by simp[argsTV,k1],fun i tv hi=> ?_⟩
  cases i with
  |zero=>simp only[argsTV,List.getElem?_cons_zero,Option.some.injEq]at hi; subst hi; exact⟨v,rfl,argTV_rel a x.1 h1 h2⟩
  |succ i=>simp only[argsTV,List.getElem?_cons_succ]at hi ⊢; exact k2 i tv hi
 | .int _,_,_,h| .bool,_,_,h| .str,_,_,h| .slice _,_,_,h| .arr _ _,_,_,h| .ref _,_,_,h| .opt _,_,_,h| .fnc _,_,_,h=>by simp[ArgsRep]at h
end Go.Ai
/- A function's results,and its contract out of its text. -/
namespace Go.Ai
open Go.RowKit
variable {P:Program} {cx:Cx} {θ:Nat→Option Own} {w:World} {X Y:Nat→Prop} {M0:Nat→Prop} {H:Heap} {o:Option Own}
theorem toPv_ids:(tv:TV)→(t:Ty)→(x:t.den)→toPv H tv t=some x→∀i∈tv.ids,(hget H i).isSome=true
 | .pr a b,.pair ta tb,x,h,i,hi=>by
  simp only[toPv]at h
  split at h
  ·rename_i y z hy hz
   simp only[TV.ids,List.mem_append]at hi
   rcases hi with hi|hi
   ·exact toPv_ids a ta y hy i hi
   ·exact toPv_ids b tb z hz i hi
  ·cases h
 | .sl j e,.slice e',x,h,i,hi=>by
  simp only[toPv]at h
  split at h
  ·rename_i E e2 xs hg
   have:i=j:=by simpa[TV.ids]using hi
   subst this; simp[hg]
  ·cases h
 | .inn j p e,.slice e',x,h,i,hi=>by
  simp only[toPv]at h
  split at h
  ·have:i=j:=by simpa[TV.ids]using hi
   subst this
   unfold innL at h
   split at h
   ·rename_i hg; simp[hg]
   ·cases h
  ·cases h
 | .vw j rt p e lo up,.slice e',x,h,i,hi=>by
  simp only[toPv]at h
  split at h
  ·rename_i q; subst q
   have:i=j:=by simpa[TV.ids]using hi
   subst this
   simp only[viewL]at h
   split at h
   ·rename_i hg; simp[hg]
   ·rename_i hg; simp[hg]
   ·cases h
  ·cases h
 | .ptr j rt p,.ref e,x,h,i,hi=>by
  simp only[toPv]at h
  split at h
  ·rename_i t c hg
   have:i=j:=by simpa[TV.ids]using hi
   subst this; simp[hg]
  ·cases h
 | .pv _ _,_,_,_,i,hi=>by simp[TV.ids]at hi
 | .clp _ _,_,_,_,i,hi=>by simp[TV.ids]at hi
 | .nilsl,_,_,_,i,hi=>by simp[TV.ids]at hi
 | .bad,_,_,_,i,hi=>by simp[TV.ids]at hi
 | .und,_,_,_,i,hi=>by simp[TV.ids]at hi
 | .dead,_,_,_,i,hi=>by simp[TV.ids]at hi
 | .fn f c,t,_,h,i,hi=>by cases t<;>first|(simp [toPv]at h; done)|(obtain ⟨e,_⟩:=fnPv_some (by simpa only[toPv]using h); subst e; simp[TV.ids]at hi)
 | .tup _,t,_,h,_,_=>by cases t<;>simp[toPv]at h
 | .pr _ _,.int _,_,h,_,_| .pr _ _,.bool,_,h,_,_| .pr _ _,.str,_,h,_,_| .pr _ _,.slice _,_,h,_,_| .pr _ _,.arr _ _,_,h,_,_| .pr _ _,.unit,_,h,_,_| .pr _ _,.ref _,_,h,_,_| .pr _ _,.opt _,_,h,_,_| .pr _ _,.fnc _,_,h,_,_=>by simp[toPv]at h
 | .vw ..,.int _,_,h,_,_| .vw ..,.bool,_,h,_,_| .vw ..,.str,_,h,_,_| .vw ..,.ref _,_,h,_,_| .vw ..,.arr _ _,_,h,_,_| .vw ..,.unit,_,h,_,_| .vw ..,.pair _ _,_,h,_,_| .vw ..,.opt _,_,h,_,_| .vw ..,.fnc _,_,h,_,_=>by simp[toPv]at h
 | .sl ..,.int _,_,h,_,_| .sl ..,.bool,_,h,_,_| .sl ..,.str,_,h,_,_| .sl ..,.ref _,_,h,_,_| .sl ..,.arr _ _,_,h,_,_| .sl ..,.unit,_,h,_,_| .sl ..,.pair _ _,_,h,_,_| .sl ..,.opt _,_,h,_,_| .sl ..,.fnc _,_,h,_,_=>by simp[toPv]at h
 | .inn ..,.int _,_,h,_,_| .inn ..,.bool,_,h,_,_| .inn ..,.str,_,h,_,_| .inn ..,.ref _,_,h,_,_| .inn ..,.arr _ _,_,h,_,_| .inn ..,.unit,_,h,_,_| .inn ..,.pair _ _,_,h,_,_| .inn ..,.opt _,_,h,_,_| .inn ..,.fnc _,_,h,_,_=>by simp[toPv]at h
 | .ptr ..,.int _,_,h,_,_| .ptr ..,.bool,_,h,_,_| .ptr ..,.str,_,h,_,_| .ptr ..,.slice _,_,h,_,_| .ptr ..,.arr _ _,_,h,_,_| .ptr ..,.unit,_,h,_,_| .ptr ..,.pair _ _,_,h,_,_| .ptr ..,.opt _,_,h,_,_| .ptr ..,.fnc _,_,h,_,_=>by simp[toPv]at h
theorem chain_parts{a b:TV}{vs:List Value}(h:RV w X θ true (.pr a b) vs):∃v r,vs=v::r∧RVal w X θ a v∧RV w X θ true b r:=by
 cases a with
 |tup c=>simp only[RV]at h; obtain⟨v,r,h0,⟨cs,h1,h2⟩,h3⟩:=h; exact h2.elim
 |dead=>simp only[RV]at h; obtain⟨v,r,h0,h1,h3⟩:=h; exact⟨v,r,h0,trivial,h3⟩
 |und=>simp only[RV]at h; obtain⟨v,r,h0,h1,h3⟩:=h; exact⟨v,r,h0,h1,h3⟩
 |_=>simp only[RV]at h; obtain⟨v,r,h0,⟨cs,h1,h2⟩,h3⟩:=h; exact⟨v,r,h0,⟨cs,h1,h2⟩,h3⟩
def takes(θ:Nat→Option Own)(sl:List Slt)(k:Nat):Option Own:=
 match sl[k]? with
 |some (.id i)=>θ i
 |some .arr=>some (.arr (.slice none 0 0))
 |some .tre=>some (.tre (fun _=>some (.slice none 0 0)) [])
 |none=>none
theorem takes_base{sl:List Slt}{k b:Nat}(h:hasAt (takes θ sl) k b):∃i,sl[k]? =some (.id i)∧hasAt θ i b:=by
 unfold hasAt takes at h
 split at h
 ·rename_i o ho
  split at ho
  ·rename_i i hi; exact⟨i,hi,by simpa[hasAt,ho]using h⟩
  ·injection ho with ho; subst ho; simp[Own.has,Value.ownBlock]at h
  ·injection ho with ho; subst ho; simp[Own.has]at h
  ·cases ho
 ·cases h
theorem isNo_iff{i:Nat}{o:Slt}:isNo i o=true↔o= .id i:=by
 cases o with
 |id j=>
  simp only[isNo]
  rw[beq_iff]
  constructor
  ·intro h; rw[h]
  ·intro h; injection h with h; exact h.symm
 |_=>simp[isNo]
theorem distinct_spec:∀{sl:List Slt},distinctB sl=true→∀(k l i:Nat),sl[k]? =some (.id i)→sl[l]? =some (.id i)→k=l
 | [],_,k,l,i,h,_=>by simp at h
 | .arr::r,hd,k,l,i,hk,hl=>by
  cases k with
  |zero=>simp at hk
  |succ k=>cases l with
   |zero=>simp at hl
   |succ l=>
    simp only[List.getElem?_cons_succ]at hk hl
    rw[distinct_spec (by simpa[distinctB]using hd) k l i hk hl]
 | .tre::r,hd,k,l,i,hk,hl=>by
  cases k with
  |zero=>simp at hk
  |succ k=>cases l with
   |zero=>simp at hl
   |succ l=>
    simp only[List.getElem?_cons_succ]at hk hl
    rw[distinct_spec (by simpa[distinctB]using hd) k l i hk hl]
 | .id j::r,hd,k,l,i,hk,hl=>by
  simp only[distinctB,Bool.and_eq_true,Bool.not_eq_true',List.any_eq_false]at hd
  obtain⟨h1,h2⟩:=hd
  have no:∀m,r[m]? =some (Slt.id j)→False:=fun m hm=>h1 _ (List.mem_of_getElem? hm) (isNo_iff.2 rfl)
  cases k with
  |zero=>
   simp only[List.getElem?_cons_zero,Option.some.injEq,Slt.id.injEq]at hk
   subst hk
   cases l with
   |zero=>rfl
   |succ l=>exact(no l (by simpa using hl)).elim
  |succ k=>cases l with
   |zero=>
    simp only[List.getElem?_cons_zero,Option.some.injEq,Slt.id.injEq]at hl
    subst hl
    exact(no k (by simpa using hk)).elim
   |succ l=>
    simp only[List.getElem?_cons_succ]at hk hl
    rw[distinct_spec h2 k l i hk hl]
theorem slots_length:∀(s:Sh) (tv:TV),(s.slots tv).length=s.cnt
 | .pl _,tv=>by cases tv<;>rfl
 | .own _ _,tv=>by cases tv<;>rfl
 | .tre _ _,tv=>by cases tv<;>rfl
 | .pr a b,tv=>by
  cases tv with
  |pr x y=>simp only[Sh.slots,List.length_append,Sh.cnt,slots_length a x,slots_length b y]
  |_=>simp[Sh.slots,Sh.cnt]
theorem mkSh_agg(n:Nat):∀(s:Sh) (y:s.den) (tv:TV) (H:Heap),readSh H tv s=some y→(∀ t,s= .pl t→tv.isAgg=t.isAgg)→(mkSh n s y).isAgg=tv.isAgg
 | .pl t,y,tv,H,h,ha=>(ha t rfl).symm
 | .own E e,y,tv,H,h,_=>by cases tv<;>simp_all[readSh,mkSh,TV.isAgg]
 | .tre E e,y,tv,H,h,_=>by cases tv<;>simp_all[readSh,mkSh,TV.isAgg]
 | .pr a b,y,tv,H,h,_=>by cases tv<;>simp_all[readSh,mkSh,TV.isAgg]
theorem mkSh_notup(n:Nat):∀(s:Sh) (y:s.den) (c:TV),mkSh n s y≠ .tup c
 | .pl _,_,_,h=>by cases h
 | .own _ _,_,_,h=>by cases h
 | .tre _ _,_,_,h=>by cases h
 | .pr _ _,_,_,h=>by cases h
theorem mkOne_lt:∀(s:Sh) (n k:Nat) (y:s.den) (b:Blk),hget (mkOne n s y) k=some b→n≤k∧k<n+s.cnt
 | .pl _,n,k,y,b,h=>by simp[mkOne,hget]at h
 | .own E e,n,k,y,b,h=>by
  simp only[mkOne,hget]at h
  by_cases hk:n=k
  ·subst hk; simp[Sh.cnt]
  ·simp [beq_false hk]at h
 | .tre E e,n,k,y,b,h=>by
  simp only[mkOne,hget]at h
  by_cases hk:n=k
  ·subst hk; simp[Sh.cnt]
  ·simp [beq_false hk]at h
 | .pr s t,n,k,y,b,h=>by
  simp only[mkOne,apH_get]at h
  simp only[Sh.cnt]
  cases hh:hget (mkOne n s y.1) k with
  |some b1=>have:=mkOne_lt s n k y.1 b1 hh; omega
  |none=>rw[hh]at h; simp only[Option.none_or]at h; have:=mkOne_lt t (n+s.cnt) k y.2 b h; omega
theorem readSh_rv{θ2:Nat→Option Own}(hH:HRel w X θ (fun _=>M0) H)(hY:∀b,Y b→X b):∀(s:Sh) (n:Nat) (tv:TV) (cs:List Value) (y:s.den),readSh H tv s=some y→RV w X θ false tv cs→
  (∀ j,j<s.cnt→θ2 (n+j)=takes θ (s.slots tv) j)→(∀ i∈s.lent tv,∀b,hasAt θ i b→¬Y b)→
  RV w Y θ2 false (mkSh n s y) cs∧(∀ i,Slt.id i∈s.slots tv→(hget H i).isSome=true)∧(∀ i∈s.lent tv,(hget H i).isSome=true)∧∀k b,hget (mkOne n s y) k=some b→BlkRel w Y θ2 (fun _=>M0) k b
 | .pl t,n,tv,cs,y,hr,hv,hθ,hl=>by
  have hr':toPv H tv t=some y:=by cases tv<;>exact hr
  have e:Sh.lent (.pl t) tv=tv.ids:=by cases tv<;>rfl
  rw[e]at hl⊢
  have e2:Sh.slots (.pl t) tv=[]:=by cases tv<;>rfl
  refine⟨toPv_sound hH hY tv t y cs hr' hl hv,fun i hi=>(by rw[e2]at hi; simp at hi),fun i hi=>toPv_ids tv t y hr' i hi,fun k b hb=>by simp[mkOne,hget]at hb⟩
 | .own E e,n,tv,cs,y,hr,hv,hθ,hl=>by
  have blk:∀{u:Value} {ds:List Value},θ2 n=some (.arr u)→ownsR w M0 E e.size u (List.length y) ds→chunks (Rep w X e) ds y→∀k b,hget (mkOne n (.own E e) y) k=some b→BlkRel w Y θ2 (fun _=>M0) k b:=by
   intro u ds k1 k2 k3 k b hb
   simp only[mkOne,hget]at hb
   by_cases hk:n=k
   ·subst hk
    simp only[Nat.beq_refl,cond,Option.some.injEq]at hb
    subst hb
    exact⟨u,ds,k1,k2,chunks_mono (fun c x hx=>Rep.avoid (fun b _ hb=>hY b hb) e c x hx) k3⟩
   ·simp [beq_false hk]at hb
  have h0:=hθ 0 (by simp[Sh.cnt])
  rw[Nat.add_zero]at h0
  cases tv with
  |nilsl=>
   simp only[readSh,Option.some.injEq]at hr
   subst hr
   have hθ':θ2 n=some (.arr (.slice none 0 0)):=h0
   have hv':cs=_:=hv
   subst hv'
   exact⟨⟨_,hθ',rfl,rfl⟩,fun i hi=>by simp[Sh.slots]at hi,fun i hi=>by simp[Sh.lent]at hi,blk hθ' (ownsR_nil w M0 E e.size) rfl⟩
  |sl i e'=>
   simp only[readSh]at hr
   split at hr
   ·rename_i E' e2 xs hg
    split at hr
    ·rename_i q; subst q
     split at hr
     ·rename_i q
      obtain⟨q1,q2⟩:=q
      subst q1; subst q2
      injection hr with hr; subst hr
      have hθ':θ2 n=θ i:=h0
      obtain⟨u,ds,g1,g2,g3⟩:=hH.blk i _ hg
      obtain⟨u2,k2,k3,k4⟩:=hv
      subst k3
      rw[g1]at k2; injection k2 with k2; injection k2 with k2; subst k2
      refine⟨⟨_,hθ'.trans g1,rfl,k4⟩,fun j hj=> ?_,fun i hi=>(by simp[Sh.lent]at hi),blk (hθ'.trans g1) g2 g3⟩
      have hji:j=i:=by simpa[Sh.slots]using hj
      rw[hji,hg]
      rfl
     ·cases hr
    ·cases hr
   ·cases hr
  |_=>simp[readSh]at hr
 | .tre E s,n,tv,cs,y,hr,hv,hθ,hl=>by
  have blk:∀{sk:List Sel→Option Value} {L:List Nat} {u:Value},θ2 n=some (.tre sk L)→L.Nodup→DRep w M0 sk (.sl E s) id L [u] y→∀k b,hget (mkOne n (.tre E s) y) k=some b→BlkRel w Y θ2 (fun _=>M0) k b:=by
   intro sk L u k1 k2 k3 k b hb
   simp only[mkOne,hget]at hb
   by_cases hk:n=k
   ·subst hk
    simp only[Nat.beq_refl,cond,Option.some.injEq]at hb
    subst hb
    exact⟨sk,L,u,k1,k2,k3⟩
   ·simp [beq_false hk]at hb
  have h0:=hθ 0 (by simp[Sh.cnt])
  rw[Nat.add_zero]at h0
  cases tv with
  |nilsl=>
   simp only[readSh,Option.some.injEq]at hr
   subst hr
   have hθ':θ2 n=some (.tre (fun _=>some (.slice none 0 0)) []):=h0
   have hv':cs=_:=hv
   subst hv'
   exact⟨⟨_,_,_,hθ',rfl,rfl,rfl⟩,fun i hi=>by simp[Sh.slots]at hi,fun i hi=>by simp[Sh.lent]at hi,blk (u:= .slice none 0 0) hθ' List.nodup_nil ⟨_,[],[],rfl,rfl,rfl,ownsR_nil w M0 E s.ty.size,rfl,rfl⟩⟩
  |inn i p e'=>
   cases p with
   |nil=>
    simp only[readSh]at hr
    split at hr
    ·rename_i E' s2 xs hg
     split at hr
     ·rename_i q; subst q
      split at hr
      ·rename_i q; subst q
       injection hr with hr; subst hr
       have hθ':θ2 n=θ i:=h0
       obtain⟨sk,L,u,g1,g2,g3⟩:=hH.blk i _ hg
       obtain⟨sk2,L2,u2,k2,k2',k3,k4⟩:=hv
       subst k3
       rw[g1]at k2; injection k2 with k2; injection k2 with k2 k2b; subst k2; subst k2b
       refine⟨⟨_,_,_,hθ'.trans g1,k2',rfl,k4⟩,fun j hj=> ?_,fun i hi=>(by simp[Sh.lent]at hi),blk (hθ'.trans g1) g2 g3⟩
       have hji:j=i:=by simpa[Sh.slots]using hj
       rw[hji,hg]
       rfl
      ·cases hr
     ·cases hr
    ·cases hr
   |cons q p=>simp[readSh]at hr
  |_=>simp[readSh]at hr
 | .pr s t,n,tv,cs,y,hr,hv,hθ,hl=>by
  cases tv with
  |pr u v=>
   simp only[readSh]at hr
   split at hr
   ·rename_i y1 y2 hr1 hr2
    injection hr with hr; subst hr
    obtain⟨c1,c2,h0,g1,g2⟩:=hv
    simp only[Sh.slots,Sh.lent,Sh.cnt]at hθ hl⊢
    have l1:=slots_length s u
    have l2:=slots_length t v
    obtain⟨a1,a2,a3,a4⟩:=readSh_rv (θ2:=θ2) hH hY s n u c1 y1 hr1 g1 (fun j hj=>by
     rw[hθ j (by omega)]
     unfold takes
     rw[List.getElem?_append_left (by omega)]) (fun i hi=>hl i (List.mem_append_left _ hi))
    obtain⟨b1,b2,b3,b4⟩:=readSh_rv (θ2:=θ2) hH hY t (n+s.cnt) v c2 y2 hr2 g2 (fun j hj=>by
     rw[Nat.add_assoc,hθ (s.cnt+j) (by omega)]
     unfold takes
     rw[List.getElem?_append_right (by omega),l1,Nat.add_sub_cancel_left]) (fun i hi=>hl i (List.mem_append_right _ hi))
    refine⟨⟨c1,c2,h0,a1,b1⟩,fun i hi=> ?_,fun i hi=> ?_,fun k b hb=> ?_⟩
    ·rcases List.mem_append.1 hi with hi|hi
     ·exact a2 i hi
     ·exact b2 i hi
    ·rcases List.mem_append.1 hi with hi|hi
     ·exact a3 i hi
     ·exact b3 i hi
    ·simp only[mkOne,apH_get]at hb
     cases hh:hget (mkOne n s y1) k with
     |some b1=>rw[hh]at hb; simp only[Option.some_or,Option.some.injEq]at hb; subst hb; exact a4 k _ hh
     |none=>rw[hh]at hb; simp only[Option.none_or]at hb; exact b4 k b hb
   ·cases hr
  |_=>simp[readSh]at hr
theorem readSh_sound{θ2:Nat→Option Own}(hH:HRel w X θ (fun _=>M0) H)(hY:∀b,Y b→X b){s:Sh}{n:Nat}{tv:TV}{v:Value}{y:s.den}(hr:readSh H tv s=some y)(hv:RVal w X θ tv v)
  (hθ:∀j,j<s.cnt→θ2 (n+j)=takes θ (s.slots tv) j) (hl:∀i∈s.lent tv,∀b,hasAt θ i b→¬Y b):
  RVal w Y θ2 (mkSh n s y) v∧(∀ i,Slt.id i∈s.slots tv→(hget H i).isSome=true)∧(∀ i∈s.lent tv,(hget H i).isSome=true)∧∀k b,hget (mkOne n s y) k=some b→BlkRel w Y θ2 (fun _=>M0) k b:=by
 cases s with
 |pl t=>
  have hr':toPv H tv t=some y:=by cases tv<;>exact hr
  have e:Sh.lent (.pl t) tv=tv.ids:=by cases tv<;>rfl
  rw[e]at hl⊢
  have e2:Sh.slots (.pl t) tv=[]:=by cases tv<;>rfl
  obtain⟨cs,g1,g2⟩:=toPv_val' hH hY hr' hl hv
  exact⟨⟨cs,g1,g2⟩,fun i hi=>(by rw[e2]at hi; simp at hi),fun i hi=>toPv_ids tv t y hr' i hi,fun k b hb=>by simp[mkOne,hget]at hb⟩
 |own E e=>
  have hne:(∀ c,tv≠ .tup c)∧tv≠ .dead∧tv≠ .und∧tv.isAgg=false:=by cases tv<;>simp_all[readSh,TV.isAgg]
  obtain⟨n1,n2,n3,n4⟩:=hne
  obtain⟨cs,g1,g2⟩:=rval_one n1 n2 n3 hv
  obtain⟨k1,k2,k3,k4⟩:=readSh_rv (θ2:=θ2) hH hY (.own E e) n tv cs y hr g2 hθ hl
  exact⟨⟨cs,by rw[n4]at g1; exact g1,k1⟩,k2,k3,k4⟩
 |tre E s=>
  have hne:(∀ c,tv≠ .tup c)∧tv≠ .dead∧tv≠ .und∧tv.isAgg=false:=by cases tv<;>simp_all[readSh,TV.isAgg]
  obtain⟨n1,n2,n3,n4⟩:=hne
  obtain⟨cs,g1,g2⟩:=rval_one n1 n2 n3 hv
  obtain⟨k1,k2,k3,k4⟩:=readSh_rv (θ2:=θ2) hH hY (.tre E s) n tv cs y hr g2 hθ hl
  exact⟨⟨cs,by rw[n4]at g1; exact g1,k1⟩,k2,k3,k4⟩
 |pr s t=>
  have hne:(∀ c,tv≠ .tup c)∧tv≠ .dead∧tv≠ .und∧tv.isAgg=true:=by cases tv<;>simp_all[readSh,TV.isAgg]
  obtain⟨n1,n2,n3,n4⟩:=hne
  obtain⟨cs,g1,g2⟩:=rval_one n1 n2 n3 hv
  obtain⟨k1,k2,k3,k4⟩:=readSh_rv (θ2:=θ2) hH hY (.pr s t) n tv cs y hr g2 hθ hl
  exact⟨⟨cs,by rw[n4]at g1; exact g1,k1⟩,k2,k3,k4⟩
def cntL:List Sh→Nat
 | []=>0
 |s::l=>s.cnt+cntL l
theorem readCh_sound{θ2:Nat→Option Own}(hH:HRel w X θ (fun _=>M0) H)(hY:∀b,Y b→X b):∀(l:List Sh) (n:Nat) (c:TV) (vs:List Value) (y:shDen l),readCh H c l=some y→RV w X θ true c vs→
  (∀ j,j<cntL l→θ2 (n+j)=takes θ (slotsL l c.list) j)→(∀ i∈lentL l c.list,∀b,hasAt θ i b→¬Y b)→
  RV w Y θ2 true (mkCh n l y) vs∧(∀ i,Slt.id i∈slotsL l c.list→(hget H i).isSome=true)∧(∀ i∈lentL l c.list,(hget H i).isSome=true)∧(slotsL l c.list).length=cntL l∧∀k b,hget (mkHs n l y) k=some b→BlkRel w Y θ2 (fun _=>M0) k b
 | [],n,c,vs,y,hr,hv,_,_=>by
  have hc:∃x,c= .pv .unit x:=by
   cases c with
   |pv t x=>cases t<;>simp[readCh]at hr<;>exact⟨x,rfl⟩
   |_=>simp[readCh]at hr
  obtain⟨x,rfl⟩:=hc
  exact⟨hv,fun i hi=>by simp[slotsL]at hi,fun i hi=>by simp[lentL]at hi,rfl,fun k b hb=>by simp[mkHs,hget]at hb⟩
 | [s],n,c,vs,y,hr,hv,hθ,hl=>by
  have hc:∃a x,c= .pr a (.pv .unit x)∧readSh H a s=some y:=by
   cases c with
   |pr a b=>cases b with
    |pv t x=>cases t<;>simp only[readCh]at hr<;>first|exact⟨a,x,rfl,hr⟩|cases hr
    |_=>simp[readCh]at hr
   |pv t x=>cases t<;>simp[readCh]at hr
   |_=>simp[readCh]at hr
  obtain⟨a,x,rfl,hr⟩:=hc
  obtain⟨v,r,h0,g1,g2⟩:=chain_parts hv
  have e1:slotsL [s] (TV.list (.pr a (.pv .unit x)))=s.slots a:=by simp[TV.list,slotsL]
  have e2:lentL [s] (TV.list (.pr a (.pv .unit x)))=s.lent a:=by simp[TV.list,lentL]
  rw[e1]at hθ⊢
  rw[e2]at hl⊢
  obtain⟨m1,m2,m3,m4⟩:=readSh_sound (θ2:=θ2) (n:=n) hH hY hr g1 (fun j hj=>hθ j (by simpa[cntL]using hj)) hl
  subst h0
  exact⟨rv_chain_cons m1 (mkSh_notup n s y) g2,m2,m3,by simp[cntL,slots_length],m4⟩
 |s::t::l,n,c,vs,y,hr,hv,hθ,hl=>by
  have hc:∃a b y1 y2,c= .pr a b∧readSh H a s=some y1∧readCh H b (t::l)=some y2∧y=(y1,y2):=by
   cases c with
   |pr a b=>
    simp only[readCh]at hr
    split at hr
    ·rename_i x z hx hz
     exact⟨a,b,x,z,rfl,hx,hz,by simpa using hr.symm⟩
    ·cases hr
   |pv t x=>cases t<;>simp[readCh]at hr
   |_=>simp[readCh]at hr
  obtain⟨a,b,y1,y2,rfl,hr1,hr2,rfl⟩:=hc
  obtain⟨v,r,h0,g1,g2⟩:=chain_parts hv
  have e1:slotsL (s::t::l) (TV.list (.pr a b))=s.slots a++slotsL (t::l) b.list:=rfl
  have e2:lentL (s::t::l) (TV.list (.pr a b))=s.lent a++lentL (t::l) b.list:=rfl
  have e3:cntL (s::t::l)=s.cnt+cntL (t::l):=rfl
  rw[e1]at hθ⊢
  rw[e2]at hl⊢
  rw[e3]at hθ⊢
  have l1:=slots_length s a
  obtain⟨m1,m2,m3,m4⟩:=readSh_sound (θ2:=θ2) (n:=n) hH hY hr1 g1 (fun j hj=>by
   rw[hθ j (by omega)]
   unfold takes
   rw[List.getElem?_append_left (by omega)]) (fun i hi=>hl i (List.mem_append_left _ hi))
  obtain⟨n1,n2,n3,n4,n5⟩:=readCh_sound (θ2:=θ2) hH hY (t::l) (n+s.cnt) b r y2 hr2 g2 (fun j hj=>by
   rw[Nat.add_assoc,hθ (s.cnt+j) (by omega)]
   unfold takes
   rw[List.getElem?_append_right (by omega),l1,Nat.add_sub_cancel_left]) (fun i hi=>hl i (List.mem_append_right _ hi))
  subst h0
  refine⟨rv_chain_cons m1 (mkSh_notup n s y1) n1,fun i hi=> ?_,fun i hi=> ?_,by rw[List.length_append,l1,n4],fun k bl hb=> ?_⟩
  ·rcases List.mem_append.1 hi with hi|hi
   ·exact m2 i hi
   ·exact n2 i hi
  ·rcases List.mem_append.1 hi with hi|hi
   ·exact m3 i hi
   ·exact n3 i hi
  ·simp only[mkHs,apH_get]at hb
   cases hh:hget (mkOne n s y1) k with
   |some b1=>rw[hh]at hb; simp only[Option.some_or,Option.some.injEq]at hb; subst hb; exact m4 k _ hh
   |none=>rw[hh]at hb; simp only[Option.none_or]at hb; exact n5 k bl hb
theorem readRes_sound(hH:HRel w (owned X θ H) θ (fun _=>M0) H)(hX:∀b,X b→¬M0 b){l:List Sh}{tv:TV}{v:Value}{y:shDen l}(hr:readRes H tv l=some y)(hv:RVal w (owned X θ H) θ tv v):
  ∃θ2,HRel w (owned X θ2 (mkH l y)) θ2 (fun _=>M0) (mkH l y)∧RVal w (owned X θ2 (mkH l y)) θ2 (mkTV l y) v∧∀b,owned X θ2 (mkH l y) b→owned X θ H b:=by
 have main:∀(sl:List Slt) (le:List Nat) (hok:idsOk sl le=true)
   (read:∀(Y:Nat→Prop),(∀ b,Y b→owned X θ H b)→(∀ i∈le,∀b,hasAt θ i b→¬Y b)→
    RVal w Y (takes θ sl) (mkTV l y) v∧(∀ i,Slt.id i∈sl→(hget H i).isSome=true)∧(∀ i∈le,(hget H i).isSome=true)∧∀k b,hget (mkH l y) k=some b→BlkRel w Y (takes θ sl) (fun _=>M0) k b),
   ∃θ2,HRel w (owned X θ2 (mkH l y)) θ2 (fun _=>M0) (mkH l y)∧RVal w (owned X θ2 (mkH l y)) θ2 (mkTV l y) v∧∀b,owned X θ2 (mkH l y) b→owned X θ H b:=by
  intro sl le hok read
  simp only[idsOk,Bool.and_eq_true,List.all_eq_true]at hok
  obtain⟨hone,hdis⟩:=hok
  obtain⟨_,i1,i2,_⟩:=read (fun _=>False) (fun b h=>h.elim) (fun i hi b hb h=>h)
  let θ2:=takes θ sl
  let Y:Nat→Prop:=fun b=>X b∨∃k,hasAt θ2 k b
  have hY:∀b,Y b→owned X θ H b:=fun b hb=>by
   rcases hb with hb|⟨k,hb⟩
   ·exact .inl hb
   ·obtain ⟨i,hi,hbi⟩:=takes_base hb
    exact .inr ⟨i,i1 i (List.mem_of_getElem? hi),hbi⟩
  have hl:∀i∈le,∀b,hasAt θ i b→¬Y b:=by
   intro i hi b hb hy
   obtain⟨bi,hbi⟩:=Option.isSome_iff_exists.1 (i2 i hi)
   rcases hy with hy|⟨k,hy⟩
   ·exact hX b hy ((hH.blk i bi hbi).lt b hb).1
   ·obtain ⟨j,hj,hbj⟩:=takes_base hy
    have hij:j≠i:=fun e=>by
     have h1:=hdis i hi
     simp only[Bool.not_eq_true',List.any_eq_false]at h1
     exact h1 _ (List.mem_of_getElem? hj) (isNo_iff.2 (by rw[e]))
    exact hH.inj j i hij (i1 j (List.mem_of_getElem? hj)) (i2 i hi) b hbj hb
  obtain⟨k1,_,_,k2⟩:=read Y hY hl
  have hsub:∀b,owned X θ2 (mkH l y) b→Y b:=by
   intro b hb
   rcases hb with hb|⟨k,_,h2⟩
   ·exact .inl hb
   ·exact .inr ⟨k,h2⟩
  have hst:Step Y (owned X θ2 (mkH l y)) w w:=⟨⟨fun _=>False,Keeps.refl _ w,fun _ _ h=>h.elim⟩,fun b _ hb=>hsub b hb⟩
  refine⟨θ2,⟨fun k b hb=> ?_,fun i j hij h1 h2 b hbi hbj=> ?_⟩,RVal.step hst _ v (fun _ _=>rfl) k1,fun b hb=>hY b (hsub b hb)⟩
  ·have hbl:=k2 k b hb
   have:=hbl.go hst (θ':=θ2) rfl (fun _ _=>rfl) (fun c=>c) (fun c cs hc=>RV.step hst false c cs (fun _ _=>rfl) hc) (fun c t h=>h)
   cases b<;>exact this
  ·obtain ⟨i',e1,f1⟩:=takes_base hbi
   obtain⟨j',e2,f2⟩:=takes_base hbj
   have hne:i'≠j':=fun e=>hij (distinct_spec hone i j i' e1 (by rw[e]; exact e2))
   exact hH.inj i' j' hne (i1 i' (List.mem_of_getElem? e1)) (i1 j' (List.mem_of_getElem? e2)) b f1 f2
 match l,y,hr,main with
 | [s],y,hr,main=>
  simp only[readRes]at hr
  obtain⟨h1,hr⟩:=cond_some hr
  exact main (s.slots tv) (s.lent tv) h1 fun Y hY hl=>readSh_sound (n:=0) hH hY hr hv (fun j _=>by rw[Nat.zero_add]) hl
 | [],y,hr,main=>
  have hc:∃c,tv= .tup c∧readCh H c []=some y:=by
   cases tv<;>simp only[readRes]at hr<;>first|exact⟨_,rfl,hr⟩|cases hr
  obtain⟨c,rfl,hr⟩:=hc
  obtain⟨vs,k1,k2⟩:=hv
  refine main [] [] rfl fun Y hY hl=> ?_
  obtain⟨m1,m2,m3,_,m4⟩:=readCh_sound (θ2:=takes θ []) hH hY [] 0 c vs y hr k2 (fun j hj=>by simp[cntL]at hj) (fun i hi=>by simp[lentL]at hi)
  exact⟨⟨vs,k1,m1⟩,fun i hi=>by simp at hi,fun i hi=>by simp at hi,m4⟩
 |s::t::l,y,hr,main=>
  have hc:∃c,tv= .tup c∧idsOk (slotsL (s::t::l) c.list) (lentL (s::t::l) c.list)=true∧readCh H c (s::t::l)=some y:=by
   cases tv with
   |tup c=>
    simp only[readRes]at hr
    obtain⟨h1,h2⟩:=cond_some hr
    exact⟨c,rfl,h1,h2⟩
   |_=>simp[readRes]at hr
  obtain⟨c,rfl,hok,hr⟩:=hc
  obtain⟨vs,k1,k2⟩:=hv
  refine main _ _ hok fun Y hY hl=> ?_
  obtain⟨m1,m2,m3,_,m4⟩:=readCh_sound hH hY (s::t::l) 0 c vs y hr k2 (fun j _=>by rw[Nat.zero_add]) hl
  exact⟨⟨vs,k1,m1⟩,m2,m3,m4⟩
theorem HRel.may{M M':Nat→Nat→Prop}(h:HRel w X θ M H)(hM:∀i b,M i b→M' i b):HRel w X θ M' H:=by
 refine⟨fun i b hb=> ?_,h.inj⟩
 have:=h.blk i b hb
 cases b with
 |var t c=>
  obtain⟨g,C,E,h1,h2,h3⟩:=this
  exact⟨g,C,E,h1,hM i g h2,h3⟩
 |arr E e xs=>
  obtain⟨v,ds,h1,h2,h3⟩:=this
  exact⟨v,ds,h1,ownsR_of h2.row (fun g hg=>hM i g (h2.may g hg)),h3⟩
 |tre E s xs=>
  obtain⟨sk,L,v,h1,h2,h3⟩:=this
  exact⟨sk,L,v,h1,h2,h3.go (.sl E s) _ _ _ _ (fun _ _=>rfl) (fun b _ hb=>hM i b hb)⟩
 |map km vm xs=>
  obtain⟨g,es,clock,h1,h2,h3⟩:=this
  exact⟨g,es,clock,h1,hM i g h2,h3⟩
theorem con_of_fn(hT:TabsOk P cx){depth:Nat}{f:FuncId}{i:Inl}{c:Con}(hi:InlOk P f i)(hrun:∀xs y,c.raw xs=some y→fnK cx depth f i c.sh (argsTV c.ps xs)=some y):ConOk P f c:=by
 intro w X args xs y hX hargs hraw hgok
 have hp:=hrun xs y hraw
 refine .inl ⟨hi.enter args w,?_⟩
 obtain⟨⟨fd,f1,f2,f3,f4,_⟩,hfew⟩:=hi
 refine calls_of_wp f1 f2 ?_
 let θ0:Nat→Option Own:=fun _=>none
 obtain⟨k1,k2⟩:=argsTV_rel (w:=w) (X:=owned X θ0 []) (θ:=θ0) c.ps args.toList xs (by
  have:owned X θ0 []=X:=by funext b; simp[owned,hget]
  rw[this]; exact hargs)
 have hv:EnvRel w (owned X θ0 []) θ0 (argsTV c.ps xs) args:=⟨by simpa using k1,fun t tv ht=>by
  obtain⟨v,g1,g2⟩:=k2 t tv ht
  exact⟨v,by simpa using g1,g2⟩⟩
 let w0:Base:=⟨w,fun _=>False,none,false⟩
 have hG:GBase P w0:=⟨hgok,fun b hb=>hb.elim⟩
 have hrel:Rel w0 X {env:=argsTV c.ps xs++List.replicate (i.ntmps-(argsTV c.ps xs).length) .dead,stk:=[],heap:=[]} θ0 [] {tmps:=args++Array.replicate (fd.ntmps-args.size) undef,defers:=[]} w:=
  ⟨Keeps.refl _ w,fun b hb=>⟨hX b hb,fun h=>h⟩,⟨fun j b hb=>by simp[hget]at hb,fun j k _ hj=>by simp[hget]at hj⟩,by rw[f3]; exact env_start hv i.ntmps,trivial,rfl,fun hs=>by simp[hget]at hs⟩
 have ih:=callK_sound hG hT depth (w0:=w0) (Xo:=X) (R:=shDen c.sh)
 refine wp_mono (exec_sound hT.tab ih (draw_sound hT.tab ⟨hG,hT.con,hT.tak,hT.inp⟩ hT.mixed ih y) i.code _ θ0 _ w _ hp hrel) fun e ac w' ⟨x,σ',θ',hx,h',hp'⟩=> ?_
 subst hx
 have fin:finK cx i c.sh .ret σ'=some y→ac.defers=[]∧∃v,(results fd ac.tmps).run P w'= .ok v w'∧∃u,Ending.returned v= .returned u∧Keeps (fun _=>False) w w'∧∃θ,HRel w' (owned X θ (mkH c.sh y)) θ (fun _ b=>w.heap.size≤b) (mkH c.sh y)∧RVal w' (owned X θ (mkH c.sh y)) θ (mkTV c.sh y) u:=by
  intro hfin
  simp only[finK]at hfin
  split at hfin
  ·rename_i tv htv
   obtain⟨v,g1,g2⟩:=res_sound hT.tab.c h' f4 hfew htv
   obtain⟨tv',σ2,θ3,hfin,h',g2⟩:=trunc_sound h' g2 hfin
   obtain⟨θ2,r1,r2,_⟩:=readRes_sound (M0:=fun b=>w.heap.size≤b) (h'.heap.may (M':=fun _ b=>w.heap.size≤b) fun i b hb=>by
    unfold Base.may at hb
    split at hb
    ·exact hb.elim
    ·exact hb.elim id (fun q=>q.2.elim)) (fun b hb (hle:w.heap.size≤b)=>absurd (hX b hb) (by omega)) hfin g2
   exact⟨h'.defers,v,g1,v,rfl,h'.keeps,θ2,r1,r2⟩
  ·cases hfin
 cases x with
 |exit j=>simp[finK]at hp'
 |normal=>exact fin hp'
 |ret=>exact fin hp'
theorem readBK_blk{h0:Heap}{base:Nat→Nat→Prop}(hh:HRel w X θ base h0){k:BK}{i0 i:Nat}{p:List Sel}{x:k.den}(hp:readBK h0 k (k.tv i0)=some (i,p,x)):i=i0∧BlkRel w X θ base i0 (k.blk x)∧(hget h0 i0).isSome=true:=by
 cases k with
 |var t=>
  simp only[BK.tv,readBK]at hp
  split at hp
  ·rename_i t2 c hg
   split at hp
   ·rename_i q
    obtain⟨q1,_⟩:=q
    subst q1
    split at hp
    ·rename_i y hy
     simp only[Option.some.injEq,Prod.mk.injEq]at hp
     obtain⟨e1,_,e2⟩:=hp
     subst e1; subst e2
     obtain⟨b,C,E,h1,h2,h3,h4,h5⟩:=hh.blk i0 _ hg
     exact⟨rfl,⟨b,C,E,h1,h2,h3,plain_sound c _ _ _ hy h4,by simp[TV.fits]⟩,by simp[hg]⟩
    ·cases hp
   ·cases hp
  ·cases hp
 |arr E e=>
  simp only[BK.tv,readBK]at hp
  split at hp
  ·rename_i E2 e2 xs hg
   split at hp
   ·rename_i q; subst q
    split at hp
    ·rename_i q
     obtain⟨_,q2⟩:=q
     subst q2
     simp only[Option.some.injEq,Prod.mk.injEq]at hp
     obtain⟨e1,_,e2⟩:=hp
     subst e1; subst e2
     exact⟨rfl,hh.blk i0 _ hg,by simp[hg]⟩
    ·cases hp
   ·cases hp
  ·cases hp
 |tre E s=>
  simp only[BK.tv,readBK]at hp
  split at hp
  ·rename_i E2 s2 xs hg
   rw[DS.get_nil]at hp
   simp only at hp
   split at hp
   ·rename_i q; subst q
    split at hp
    ·rename_i q
     obtain⟨_,q2⟩:=q
     subst q2
     simp only[Option.some.injEq,Prod.mk.injEq]at hp
     obtain⟨e1,_,e2⟩:=hp
     subst e1; subst e2
     exact⟨rfl,hh.blk i0 _ hg,by simp[hg]⟩
    ·cases hp
   ·cases hp
  ·cases hp
theorem blk_avoid{M:Nat→Nat→Prop}{θ1:Nat→Option Own}{i:Nat}{k:BK}{x:k.den}(h:BlkRel w X θ1 M i (k.blk x))(hY:∀b,Y b→X b):BlkRel w Y θ1 M i (k.blk x):=by
 cases k with
 |var t=>
  obtain⟨b,C,E,h1,h2,h3,h4,h5⟩:=h
  exact⟨b,C,E,h1,h2,h3,Rep.avoid (fun b _ hb=>hY b hb) t _ x h4,h5⟩
 |arr E s=>
  obtain⟨v,ds,h1,h2,h3⟩:=h
  exact⟨v,ds,h1,h2,chunks_mono (fun c x hx=>Rep.avoid (fun b _ hb=>hY b hb) s c x hx) h3⟩
 |tre E s=>exact h
theorem inp_of_fn(hT:TabsOk P cx){depth:Nat}{f:FuncId}{i:Inl}{c:ConI}(hi:InlOk P f i)(hrun:∀x ps z,c.raw x ps=some z→fnIK cx depth f i c.k c.sh x (argsTV c.ps ps)=some z):InpOk P f c:=by
 intro w X θ1 v x rest ps z hX hX1 hblk hv hargs hraw hgok hgb
 have hp:=hrun x ps z hraw
 refine .inl ⟨hi.enter _ w,?_⟩
 obtain⟨⟨fd,f1,f2,f3,f4,_⟩,hfew⟩:=hi
 refine calls_of_wp f1 f2 ?_
 let θ0:Nat→Option Own:=fun k=>if k=PIN then θ1 0 else none
 let w0:Base:=⟨w,fun b=>hasAt θ1 0 b,θ1 0,false⟩
 have hG:GBase P w0:=⟨hgok,hgb⟩
 let Xo:Nat→Prop:=fun b=>X b∧¬hasAt θ1 0 b
 have hθ:θ0 PIN=θ1 0:=by simp[θ0]
 have hset:owned Xo θ0 [(PIN,c.k.blk x)]=X:=by
  funext b
  apply propext
  constructor
  ·rintro (⟨hb,_⟩|⟨k,h1,h2⟩)
   ·exact hb
   ·have hk:k=PIN:=by
     by_cases e:PIN=k
     ·exact e.symm
     ·simp [hget,beq_false e]at h1
    subst hk
    exact hX1 b (by simpa[hasAt,hθ]using h2)
  ·intro hb
   by_cases e:hasAt θ1 0 b
   ·exact .inr ⟨PIN,by simp[hget],by simpa[hasAt,hθ]using e⟩
   ·exact .inl ⟨hb,e⟩
 obtain⟨k1,k2⟩:=argsTV_rel (w:=w) (X:=owned Xo θ0 [(PIN,c.k.blk x)]) (θ:=θ0) c.ps rest ps (by rw[hset]; exact hargs)
 have hv0:RVal w (owned Xo θ0 [(PIN,c.k.blk x)]) θ0 (c.k.tv PIN) v:=by
  rw[hset]
  have e:(c.k.tv 0).ren PIN=c.k.tv PIN:=by cases c.k<;>rfl
  rw[← e]
  refine RVal.ren _ v (fun j hj=> ?_) hv
  have hj0:j=0:=by
   revert hj
   cases c.k<;>simp[BK.tv,TV.ids]
  subst hj0
  exact hθ
 have hvE:EnvRel w (owned Xo θ0 [(PIN,c.k.blk x)]) θ0 (c.k.tv PIN::argsTV c.ps ps) (v::rest).toArray:=⟨by simpa using k1,fun t tv ht=>by
  cases t with
  |zero=>
   simp only[List.getElem?_cons_zero,Option.some.injEq]at ht
   subst ht
   exact⟨v,by simp,hv0⟩
  |succ t=>
   simp only[List.getElem?_cons_succ]at ht
   obtain⟨u,g1,g2⟩:=k2 t tv ht
   exact⟨u,by simpa using g1,g2⟩⟩
 have hrel:Rel w0 Xo {env:=(c.k.tv PIN::argsTV c.ps ps)++List.replicate (i.ntmps-(c.k.tv PIN::argsTV c.ps ps).length) .dead,stk:=[],heap:=[(PIN,c.k.blk x)]} θ0 [] {tmps:=(v::rest).toArray++Array.replicate (fd.ntmps-(v::rest).toArray.size) undef,defers:=[]} w:=by
  refine⟨Keeps.refl _ w,fun b hb=>⟨hX b hb.1,hb.2⟩,⟨fun j b hb=> ?_,fun j k hjk hj hk=> ?_⟩,by rw[f3]; exact env_start hvE i.ntmps,trivial,rfl,fun _=>hθ⟩
  ·by_cases e:PIN=j
   ·subst e
    simp only[hget,Nat.beq_refl,cond,Option.some.injEq]at hb
    subst hb
    rw[hset]
    exact blk_at hblk hθ.symm (fun b hb _=>by unfold Base.may; rw[if_pos rfl]; exact hb)
   ·simp [hget,beq_false e]at hb
  ·have e1:PIN=j:=by
    by_cases e:PIN=j
    ·exact e
    ·simp [hget,beq_false e]at hj
   have e2:PIN=k:=by
    by_cases e:PIN=k
    ·exact e
    ·simp [hget,beq_false e]at hk
   exact absurd (e1.symm.trans e2) hjk
 have ih:=callK_sound hG hT depth (w0:=w0) (Xo:=Xo) (R:=c.k.den×shDen c.sh)
 refine wp_mono (exec_sound hT.tab ih (draw_sound hT.tab ⟨hG,hT.con,hT.tak,hT.inp⟩ hT.mixed ih z) i.code _ θ0 _ w _ hp hrel) fun e ac w' ⟨xe,σ',θ',hx,h',hp'⟩=> ?_
 subst hx
 have fin:finIK cx i c.k c.sh .ret σ'=some z→ac.defers=[]∧∃v,(results fd ac.tmps).run P w'= .ok v w'∧∃u,Ending.returned v= .returned u∧Keeps (fun b=>hasAt θ1 0 b) w w'∧
   ∃θ,HRel w' (owned X θ (mkH c.sh z.2)) θ (fun _ b=>w.heap.size≤b) (mkH c.sh z.2)∧RVal w' (owned X θ (mkH c.sh z.2)) θ (mkTV c.sh z.2) u∧BlkRel w' (owned X θ (mkH c.sh z.2)) θ1 (fun _ _=>True) 0 (c.k.blk z.1):=by
  intro hfin
  simp only[finIK]at hfin
  split at hfin
  ·rename_i tv htv
   split at hfin
   ·rename_i j p' x' y hb hy
    simp only[Option.some.injEq]at hfin
    subst hfin
    obtain⟨val,g1,g2⟩:=res_sound hT.tab.c h' f4 hfew htv
    obtain⟨_,b1,b2⟩:=readBK_blk h'.heap hb
    have hpin:θ' PIN=θ1 0:=h'.pin b2
    have hdelg:∀k,hget (hdel σ'.heap PIN) k=if k=PIN then none else hget σ'.heap k:=fun k=>hget_del _ _ _
    have hset':owned Xo θ' σ'.heap=owned X θ' (hdel σ'.heap PIN):=by
     funext b
     apply propext
     constructor
     ·rintro (⟨hb,_⟩|⟨k,h1,h2⟩)
      ·exact .inl hb
      ·by_cases e:k=PIN
       ·subst e; exact .inl (hX1 b (by simpa[hasAt,hpin]using h2))
       ·exact .inr ⟨k,by rw[hdelg,if_neg e]; exact h1,h2⟩
     ·rintro (hb|⟨k,h1,h2⟩)
      ·by_cases e:hasAt θ1 0 b
       ·exact .inr ⟨PIN,b2,by simpa[hasAt,hpin]using e⟩
       ·exact .inl ⟨hb,e⟩
      ·rw [hdelg]at h1
       split at h1
       ·cases h1
       ·exact .inr ⟨k,h1,h2⟩
    have hH:HRel w' (owned X θ' (hdel σ'.heap PIN)) θ' (fun _ b=>w.heap.size≤b) (hdel σ'.heap PIN):=by
     refine⟨fun k b hb=> ?_,fun k l hkl hk hl b=> ?_⟩
     ·rw [hdelg]at hb
      split at hb
      ·cases hb
      ·rename_i e
       have:=h'.heap.blk k b hb
       rw[hset']at this
       have hm:∀g,w0.may k g→w.heap.size≤g:=fun g hg=>by unfold Base.may at hg; rw[if_neg e]at hg; exact hg.elim id (fun q=>by cases q.1)
       cases b with
       |var t cc=>obtain⟨g,C,E,q1,q2,q3⟩:=this; exact⟨g,C,E,q1,hm g q2,q3⟩
       |arr E s xs=>obtain⟨u,ds,q1,q2,q3⟩:=this; exact⟨u,ds,q1,ownsR_of q2.row (fun g hg=>hm g (q2.may g hg)),q3⟩
       |tre E s xs=>obtain⟨sk,L,u,q1,q2,q3⟩:=this; exact⟨sk,L,u,q1,q2,q3.go (.sl E s) _ _ _ _ (fun _ _=>rfl) (fun b _ hb=>hm b hb)⟩
       |map km vm xs=>obtain⟨g,es,clock,q1,q2,q3⟩:=this; exact⟨g,es,clock,q1,hm g q2,q3⟩
     ·rw [hdelg]at hk hl
      split at hk
      ·cases hk
      ·split at hl
       ·cases hl
       ·exact h'.heap.inj k l hkl hk hl b
    rw[hset']at g2
    obtain⟨θ2,r1,r2,r3⟩:=readRes_sound (M0:=fun b=>w.heap.size≤b) hH (fun b hb (hle:w.heap.size≤b)=>absurd (hX b hb) (by omega)) hy g2
    refine⟨h'.defers,val,g1,val,rfl,h'.keeps,θ2,r1,r2,?_⟩
    have b3:=blk_at (θ2:=θ1) (j:=0) (M':=fun _ _=>True) b1 hpin (fun _ _ _=>trivial)
    rw[hset']at b3
    exact blk_avoid b3 r3
   ·cases hfin
  ·cases hfin
 cases xe with
 |exit j=>simp[finIK]at hp'
 |normal=>exact fin hp'
 |ret=>exact fin hp'
end Go.Ai

