/- The machine, and that it is sound. No conditions. -/
import Derived.Test.YtkpacjofafjonabGreatEf
import Derived.ProofKit
import Derived.OpenShut
/- The contract of a function that takes a slice and hands it back,out of its text. -/
namespace Go.Ai
open Go.RowKit
variable {P:Program} {cx:Cx}
theorem B5r(hT:A9E P cx){depth:Nat}{f:FuncId}{i:Inl}{c:A5M}(hi:A3r P f i)(he:c.e.hasRef=false)(hrun:∀xs ps z,c.raw xs ps=some z→B5M cx depth f i c.E c.e xs (A1A c.ps ps)=some z):A6I P f c:=by
 intro w X base v xs ds rest ps ys hX hbase hvX hown hch hargs _ hraw hgok hgb
 have hp:=hrun xs ps ys hraw
 refine .inl ⟨hi.enter _ w,?_⟩
 obtain⟨⟨fd,f1,f2,f3,f4,_⟩,hfew⟩:=hi
 refine calls_of_wp f1 f2 ?_
 let θ0:Nat→Option Own:=fun k=>if k=TID then some (.arr v)else none
 let w0:A0F:=⟨w,fun b=>v.ownBlock=some b,none,true⟩
 have hG:A4C P w0:=⟨hgok,hgb⟩
 let Xo:Nat→Prop:=fun b=>X b∧¬v.ownBlock=some b
 have hθ:θ0 TID=some (.arr v):=by simp[θ0]
 have hTP:TID≠PIN:=by decide
 have hone:v.oneCell'=true:=by rcases hown.2 with⟨h,_⟩|⟨g,c,cur,h,_⟩<;>rw[h]<;>rfl
 have A0I:A0d Xo θ0 [(TID,.arr c.E c.e xs)]=X:=by
  funext b
  apply propext
  constructor
  ·rintro (⟨hb,_⟩|⟨k,h1,h2⟩)
   ·exact hb
   ·have hk:k=TID:=by
     by_cases e:TID=k
     ·exact e.symm
     ·simp [A0b,A0c e]at h1
    subst hk
    exact hvX b (by simpa[A0e,hθ,Own.has]using h2)
  ·intro hb
   by_cases e:v.ownBlock=some b
   ·exact .inr ⟨TID,by simp[A0b],by simpa[A0e,hθ,Own.has]using e⟩
   ·exact .inl ⟨hb,e⟩
 obtain⟨k1,k2⟩:=A4f (w:=w) (X:=A0d Xo θ0 [(TID,.arr c.E c.e xs)]) (θ:=θ0) c.ps rest ps (by rw[A0I]; exact hargs)
 have hv0:A0g w (A0d Xo θ0 [(TID,.arr c.E c.e xs)]) θ0 (.sl TID c.e) v:=⟨[v],by simp[A0i,TV.isAgg],v,hθ,rfl,hone⟩
 have hvE:A1g w (A0d Xo θ0 [(TID,.arr c.E c.e xs)]) θ0 (.sl TID c.e::A1A c.ps ps) (v::rest).toArray:=⟨by simpa using k1,fun t tv ht=>by
  cases t with
  |zero=>
   simp only[List.getElem?_cons_zero,Option.some.injEq]at ht
   subst ht
   exact⟨v,by simp,hv0⟩
  |succ t=>
   simp only[List.getElem?_cons_succ]at ht
   obtain⟨u,g1,g2⟩:=k2 t tv ht
   exact⟨u,by simpa using g1,g2⟩⟩
 have hrel:Rel w0 Xo {env:=(.sl TID c.e::A1A c.ps ps)++List.replicate (i.ntmps-(TV.sl TID c.e::A1A c.ps ps).length) .dead,stk:=[],heap:=[(TID,.arr c.E c.e xs)]} θ0 [] {tmps:=(v::rest).toArray++Array.replicate (fd.ntmps-(v::rest).toArray.size) undef,defers:=[]} w:=by
  refine⟨A0h.refl _ w,fun b hb=>⟨hX b hb.1,hb.2⟩,⟨fun j b hb=> ?_,fun j k hjk hj hk=> ?_⟩,by rw[f3]; exact A5c hvE i.ntmps,trivial,rfl,fun hs=>by simp[A0b,A0c hTP]at hs⟩
  ·by_cases e:TID=j
   ·subst e
    simp only[A0b,Nat.beq_refl,cond,Option.some.injEq]at hb
    subst hb
    rw[A0I]
    exact⟨v,ds,hθ,A2i hown.row (fun g hg=>by unfold A0F.may; rw[if_neg hTP]; exact .inr ⟨rfl,hg⟩),hch⟩
   ·simp [A0b,A0c e]at hb
  ·have e1:TID=j:=by
    by_cases e:TID=j
    ·exact e
    ·simp [A0b,A0c e]at hj
   have e2:TID=k:=by
    by_cases e:TID=k
    ·exact e
    ·simp [A0b,A0c e]at hk
   exact absurd (e1.symm.trans e2) hjk
 have ih:=A3G hG hT depth (w0:=w0) (Xo:=Xo) (R:=List c.e.den)
 refine wp_mono (A0G hT.tab ih (A4i hT.tab ⟨hG,hT.con,hT.tak,hT.inp⟩ hT.mixed ih ys) i.code _ θ0 _ w _ hp hrel) fun e ac w' ⟨x,σ',θ',hx,h',hp'⟩=> ?_
 subst hx
 have fin:B2g cx i c.E c.e .ret σ'=some ys→ac.defers=[]∧∃u0,(results fd ac.tmps).run P w'= .ok u0 w'∧∃u,Ending.returned u0= .returned u∧∃ds',A0l (Rep w X c.e) ds' ys∧A0E w' base c.E c.e.size u ys.length ds'∧A0h (fun b=>some b=v.ownBlock) w w'∧∀b,u.ownBlock=some b→v.ownBlock=some b∨w.heap.size≤b:=by
  intro hfin
  simp only[B2g]at hfin
  split at hfin
  ·rename_i tv0 htv
   obtain⟨u0,g1,g2⟩:=A5g hT.tab.c h' f4 hfew htv
   clear htv
   obtain⟨tv1,σ',θ',hfin,h',g2⟩:=A4Y h' g2 hfin
   split at hfin
   case h_2=>cases hfin
   rename_i j e'
   split at hfin
   ·rename_i E2 e2 zs hg
    split at hfin
    ·rename_i q
     split at hfin
     ·rename_i q2
      obtain⟨q2,q3⟩:=q2
      subst q; subst q3
      have hfin:zs=ys:=Option.some.inj hfin
      subst hfin
      obtain⟨cs,b1,u,b2,b3,b4⟩:=g2
      subst b3
      have hu:u0=u:=by simpa[A0i,TV.isAgg,eq_comm]using b1
      subst hu
      obtain⟨u2,ds',c1,c2,c3⟩:=h'.heap.blk j _ hg
      rw[b2]at c1; injection c1 with c1; injection c1 with c1; subst c1
      have hm:∀g,u0.ownBlock=some g→v.ownBlock=some g∨w.heap.size≤g:=fun g hg2=>by
       have:=c2.may g hg2
       unfold A0F.may at this
       split at this
       ·exact .inl this
       ·exact this.elim .inr (fun q=> .inl q.2)
      refine⟨h'.defers,u0,g1,u0,rfl,ds',A0o (fun cc x hx=>A0S _ he cc x hx) c3,A2i c2.row (fun g hg2=> ?_),h'.keeps.mono (fun b _ hb=>hb.symm),hm⟩
      rcases hm g hg2 with q|q
      ·exact hown.may g q
      ·exact hbase g q
     ·cases hfin
    ·cases hfin
   ·cases hfin
  ·cases hfin
 cases x with
 |exit j=>simp[B2g]at hp'
 |normal=>exact fin hp'
 |ret=>exact fin hp'
end Go.Ai
/- The tables,checked against the program. -/
namespace Go.Ai
open Go.RowKit
def A2g(P:Program)(T:TypeId)(n:Nat):Bool:=match P.info? T with
 |some i=>Nat.beq i.size n
 |none=>false
theorem A0L{P:Program}{T:TypeId}{n:Nat}(h:A2g P T n=true):P.hasSize T n:=by
 unfold A2g at h
 unfold Program.hasSize
 split at h
 ·rename_i i hi; rw[hi]; simp[A0j.1 h]
 ·cases h
def tyB(P:Program):Ty→(TypeId→Bool)×(Nat→List Field→Bool)
 | .int k=>(fun T=>(match P.underlying T with|some (.int j)=>decide (j=k)|_=>false)&&A2g P T 1,fun _ _=>false)
 | .bool=>(fun T=>(match P.underlying T with|some .bool=>true|_=>false)&&A2g P T 1,fun _ _=>false)
 | .str=>(fun T=>(match P.underlying T with|some .string=>true|_=>false)&&A2g P T 1,fun _ _=>false)
 | .slice e=>(fun T=>(match P.underlying T with|some (.slice E)=>(tyB P e).1 E|_=>false)&&A2g P T 1,fun _ _=>false)
 | .arr n e=>(fun T=>(match P.underlying T with|some (.array m E)=>Nat.beq m n&&(tyB P e).1 E|_=>false)&&A2g P T (n*e.size),fun _ _=>false)
 | .unit=>(fun T=>(match P.underlying T with|some (.struct fs)=>fs.toList.isEmpty|_=>false)&&A2g P T 0&& !P.stoodInHeld T,fun _ fs=>fs.isEmpty)
 | .pair a b=>(fun T=>(match P.underlying T with
   |some (.struct fs)=>match fs.toList with
    | f :: r => Nat.beq f.offset 0 && !decide (f.name = "_") && (tyB P a).1 f.type && (tyB P b).2 a.size r
    | []=>false
   |_=>false)&&A2g P T (a.size+b.size)&& !P.stoodInHeld T,
   fun off fs=>match fs with
    | f :: r => Nat.beq f.offset off && !decide (f.name = "_") && (tyB P a).1 f.type && (tyB P b).2 (off + a.size) r
    | []=>false)
 | .ref _=>(fun _=>false,fun _ _=>false)
 | .fnc _=>(fun _=>false,fun _ _=>false)
 | .opt _=>(fun T=>(match P.underlying T with|some (.pointer _)=>true|some (.func ..)=>true|some (.map ..)=>true|_=>false)&&A2g P T 1,fun _ _=>false)
theorem B4p{P:Program}:(t:Ty)→(∀ T,(tyB P t).1 T=true→(A0u P t).1 T)∧(∀ off fs,(tyB P t).2 off fs=true→(A0u P t).2 off fs):=by
 intro t
 induction t with
 |int k=>
  refine⟨fun T h=> ?_,fun off fs h=>by cases h⟩
  simp only[tyB,Bool.and_eq_true]at h
  obtain⟨h1,h2⟩:=h
  split at h1
  ·rename_i j hj; simp only[decide_eq_true_eq]at h1; subst h1; exact⟨hj,A0L h2⟩
  ·cases h1
 |bool=>
  refine⟨fun T h=> ?_,fun off fs h=>by cases h⟩
  simp only[tyB,Bool.and_eq_true]at h
  obtain⟨h1,h2⟩:=h
  split at h1
  ·rename_i hj; exact⟨hj,A0L h2⟩
  ·cases h1
 |str=>
  refine⟨fun T h=> ?_,fun off fs h=>by cases h⟩
  simp only[tyB,Bool.and_eq_true]at h
  obtain⟨h1,h2⟩:=h
  split at h1
  ·rename_i hj; exact⟨hj,A0L h2⟩
  ·cases h1
 |slice e ih=>
  refine⟨fun T h=> ?_,fun off fs h=>by cases h⟩
  simp only[tyB,Bool.and_eq_true]at h
  obtain⟨h1,h2⟩:=h
  split at h1
  ·rename_i E hj; exact⟨⟨E,hj,ih.1 E h1⟩,A0L h2⟩
  ·cases h1
 |arr n e ih=>
  refine⟨fun T h=> ?_,fun off fs h=>by cases h⟩
  simp only[tyB,Bool.and_eq_true]at h
  obtain⟨h1,h2⟩:=h
  split at h1
  ·rename_i m E hj
   simp only[Bool.and_eq_true]at h1
   obtain⟨h3,h4⟩:=h1
   have:=A0j.1 h3
   subst this
   exact⟨⟨E,hj,ih.1 E h4⟩,A0L h2⟩
  ·cases h1
 |unit=>
  refine⟨fun T h=> ?_,fun off fs h=> ?_⟩
  ·simp only[tyB,Bool.and_eq_true]at h
   obtain⟨⟨h1,h2⟩,h3⟩:=h
   split at h1
   ·rename_i fs hj; exact⟨⟨fs,hj,by simpa using h1⟩,A0L h2,by simpa using h3⟩
   ·cases h1
  ·show fs=[]
   simpa[tyB]using h
 |pair a b iha ihb=>
  refine⟨fun T h=> ?_,fun off fs h=> ?_⟩
  ·simp only[tyB,Bool.and_eq_true]at h
   obtain⟨⟨h1,h2⟩,h3⟩:=h
   split at h1
   ·rename_i fs hj
    split at h1
    ·rename_i f r hf
     simp only[Bool.and_eq_true]at h1
     obtain⟨⟨⟨k1,k2⟩,k3⟩,k4⟩:=h1
     exact⟨⟨fs,hj,f,r,hf,A0j.1 k1,by simpa using k2,iha.1 _ k3,ihb.2 _ _ k4⟩,A0L h2,by simpa using h3⟩
    ·cases h1
   ·cases h1
  ·simp only[tyB]at h
   split at h
   ·rename_i f r
    simp only[Bool.and_eq_true]at h
    obtain⟨⟨⟨k1,k2⟩,k3⟩,k4⟩:=h
    exact⟨f,r,rfl,A0j.1 k1,by simpa using k2,iha.1 _ k3,ihb.2 _ _ k4⟩
   ·cases h
 |ref e ih=>exact⟨fun T h=>(by cases h),fun off fs h=>(by cases h)⟩
 |fnc e=>exact⟨fun T h=>(by cases h),fun off fs h=>(by cases h)⟩
 |opt e=>
  refine⟨fun T h=> ?_,fun off fs h=>by cases h⟩
  simp only[tyB,Bool.and_eq_true]at h
  obtain⟨h1,h2⟩:=h
  split at h1
  ·rename_i E hj; exact⟨.inl ⟨E,hj⟩,A0L h2⟩
  ·rename_i x y z hj; exact⟨.inr (.inl ⟨x,y,z,hj⟩),A0L h2⟩
  ·rename_i x y hj; exact⟨.inr (.inr ⟨x,y,hj⟩),A0L h2⟩
  ·cases h1
def valB:Value→Value→Bool
 | .int j m,.int k n=>decide (j=k)&&decide (m=n)
 | .bool a,.bool b=>a == b
 | .string s,.string t=>Nat.beq s.size 0&&Nat.beq t.size 0
 | .slice none a b,.slice none c d=>Nat.beq a c&&Nat.beq b d
 | .pointer none,.pointer none=>true
 |_,_=>false
theorem B3s{v u:Value}(h:valB v u=true):v=u:=by
 unfold valB at h
 split at h
 ·simp only[Bool.and_eq_true,decide_eq_true_eq]at h; rw[h.1,h.2]
 ·simp only[beq_iff_eq]at h; rw[h]
 ·rename_i s t
  simp only[Bool.and_eq_true]at h
  have h1:=A0j.1 h.1
  have h2:=A0j.1 h.2
  have e:∀s:ByteArray,s.size=0→s=⟨#[]⟩:=fun s hs=>by
   cases s with
   |mk d=>congr 1; exact Array.eq_empty_of_size_eq_zero hs
  rw[e s h1,e t h2]
 ·simp only[Bool.and_eq_true]at h; rw[A0j.1 h.1,A0j.1 h.2]
 ·rfl
 ·cases h
def B1g:List Value→List Value→Bool
 | [],[]=>true
 |a::x,b::y=>valB a b&&B1g x y
 |_,_=>false
theorem A8l:∀{x y:List Value},B1g x y=true→x=y
 | [],[],_=>rfl
 |a::x,b::y,h=>by
  simp only[B1g,Bool.and_eq_true]at h
  rw[B3s h.1,A8l h.2]
 | [],_::_,h=>by cases h
 |_::_,[],h=>by cases h
def B4Q(P:Program)(cx:Cx)(T:Nat)(s:Ty):Bool:=
 (tyB P s).1 T&&Nat.blt s.height 10000&&(s.hasRef|| !P.eqGuardType P.depth T)&&
 (!cx.zok T||match P.info? T with
  |some i=>(match i.zero with|some z=>B1g z.cells.toList s.zcells|none=>false)&&Nat.beq i.bytes (cx.bytes T)
  |none=>false)&&
 (match s with
  | .slice _=>(match P.underlying T with|some (.slice E)=>Nat.beq E (cx.elem T)|_=>false)
  |_=>true)
theorem A8B{P:Program}{T:TypeId}{i:TypeInfo}{z:Value}(h:P.info? T=some i)(hz:i.zero=some z)(w:World):(zeroValue T).run P w= .ok z w:=by
 simp[zeroValue,typeInfo,h,hz]
theorem B1d{P:Program}{cx:Cx}(h:∀T s,cx.ty T=some s→B4Q P cx T s=true)(hm:∀T q,cx.mp T=some q→B3u P T q):A3R P cx:=by
 have key:∀T s,cx.ty T=some s→((tyB P s).1 T=true∧Nat.blt s.height 10000=true∧(s.hasRef|| !P.eqGuardType P.depth T)=true∧(!cx.zok T||match P.info? T with
  |some i=>(match i.zero with|some z=>B1g z.cells.toList s.zcells|none=>false)&&Nat.beq i.bytes (cx.bytes T)
  |none=>false)=true∧(match s with
  | .slice _=>(match P.underlying T with|some (.slice E)=>Nat.beq E (cx.elem T)|_=>false)
  |_=>true)=true):=fun T s hs=>by
   have:=h T s hs
   unfold B4Q at this
   simp only[Bool.and_eq_true]at this
   obtain⟨⟨⟨⟨k1,k2⟩,k3⟩,k4⟩,k5⟩:=this
   exact⟨k1,k2,k3,k4,k5⟩
 refine⟨⟨fun T s hs=>(B4p s).1 T (key T s hs).1,fun T s hs hn=> ?_,fun T s hs=>by have:=(key T s hs).2.1; simpa[Nat.blt_eq]using this⟩,⟨fun T s hs hz=> ?_⟩,⟨fun T e hs=> ?_,fun T s i hs hi=> ?_,hm⟩⟩
 ·have:=(key T s hs).2.2.1
  rw[hn]at this
  simpa using this
 ·have:=(key T s hs).2.2.2.1
  rw[hz]at this
  simp only[Bool.not_true,Bool.false_or]at this
  split at this
  ·rename_i i hi
   simp only[Bool.and_eq_true]at this
   obtain⟨h1,h2⟩:=this
   split at h1
   ·rename_i z hzz
    exact⟨i,z,hi,hzz,A8l h1,A8B hi hzz⟩
   ·cases h1
  ·cases this
 ·have:=(key T _ hs).2.2.2.2
  simp only at this
  split at this
  ·rename_i E hE; rw[hE,A0j.1 this]
  ·cases this
 ·cases hz:cx.zok T with
  |false=>exact .inr rfl
  |true=>
   have:=(key T s hs).2.2.2.1
   rw[hz,hi]at this
   simp only[Bool.not_true,Bool.false_or,Bool.and_eq_true]at this
   exact .inl (A0j.1 this.2)
def A8a(P:Program)(cx:Cx):Nat→List (Option Ty)→Bool
 |_,[]=>true
 |T,none::r=>A8a P cx (T+1) r
 |T,some s::r=>B4Q P cx T s&&A8a P cx (T+1) r
theorem A8b{P:Program}{cx:Cx}:∀(l:List (Option Ty)) (T0:Nat),A8a P cx T0 l=true→∀(T:Nat) (s:Ty),l.getD T none=some s→B4Q P cx (T0+T) s=true
 | [],T0,_,T,s,h=>by simp at h
 |q::l,T0,hb,T,s,h=>by
  cases T with
  |zero=>
   have:q=some s:=by simpa using h
   subst this
   simp only[A8a,Bool.and_eq_true]at hb
   exact hb.1
  |succ T=>
   have hb':A8a P cx (T0+1) l=true:=by
    cases q with
    |none=>exact hb
    |some s0=>simp only[A8a,Bool.and_eq_true]at hb; exact hb.2
   have:=A8b l (T0+1) hb' T s (by simpa using h)
   rwa [show T0+1+T=T0+(T+1) by omega]at this
def B2p(P:Program):List (Nat×Nat×Nat)→Bool
 | []=>true
 |q::r=>(match P.underlying q.1 with|some (.map K V)=>Nat.beq K q.2.1&&Nat.beq V q.2.2|_=>false)&&(match P.info? q.2.2 with
  |some i=>(match i.zero with|some z=>B4k z|none=>false)
  |none=>false)&&(match P.info? q.1 with
  |some i=>(match i.zero with|some (.map none)=>true|_=>false)
  |none=>false)&&B2p P r
theorem A7P{P:Program}:∀(l:List (Nat×Nat×Nat)),B2p P l=true→∀T q,look l T=some q→B3u P T q
 | [],_,T,q,h=>by cases h
 |(j,K,V)::r,hb,T,q,h=>by
  simp only[B2p,Bool.and_eq_true]at hb
  obtain⟨⟨⟨h1,h2⟩,h4⟩,h3⟩:=hb
  simp only[look]at h
  by_cases e:j=T
  ·simp only[A0j.2 e,cond,Option.some.injEq]at h
   subst h; subst e
   refine⟨?_,?_,?_⟩
   ·split at h1
    ·rename_i K' V' hu
     simp only[Bool.and_eq_true]at h1
     rw[hu,A0j.1 h1.1,A0j.1 h1.2]
    ·cases h1
   ·split at h2
    ·rename_i i hi
     split at h2
     ·rename_i z hz; exact⟨i,z,hi,hz,h2⟩
     ·cases h2
    ·cases h2
   ·split at h4
    ·rename_i i hi
     split at h4
     ·rename_i hz; exact⟨i,hi,hz⟩
     ·cases h4
    ·cases h4
  ·simp only[A0c e,cond]at h
   exact A7P r h3 T q h
def B5g(tys:List (Option Ty))(bytes elem nozero:List Nat)(inl:FuncId→Option Inl)(con:FuncId→Option Con)(tak:FuncId→Option A5M)(inp:FuncId→Option A8p)(cut:FuncId→Nat→Option Cut)(fuel:Nat)(dp:List (Nat×DS))(mg:Bool)(mp:List (Nat×Nat×Nat)):Cx:=
 {ty:=fun n=>tys.getD n none,bytes:=fun n=>bytes.getD n 0,elem:=fun n=>elem.getD n 0,zok:=fun n=> !(nozero.any (Nat.beq n)),dp:=fun n=>look dp n,mp:=fun n=>look mp n,con,tak,inp,inl,cut,fuel,mg}
theorem B5R{P:Program}{tys:List (Option Ty)}{bytes elem nozero:List Nat}{mp:List (Nat×Nat×Nat)}(h:A8a P (B5g tys bytes elem nozero (fun _=>none) (fun _=>none) (fun _=>none) (fun _=>none) (fun _ _=>none) 0 [] false []) 0 tys=true)(hm:B2p P mp=true)(inl:FuncId→Option Inl)(con:FuncId→Option Con)(tak:FuncId→Option A5M)(inp:FuncId→Option A8p)(cut:FuncId→Nat→Option Cut)(fuel:Nat)(dp:List (Nat×DS))(mg:Bool):
  A3R P (B5g tys bytes elem nozero inl con tak inp cut fuel dp mg mp):=by
 have:=B1d (P:=P) (cx:=B5g tys bytes elem nozero (fun _=>none) (fun _=>none) (fun _=>none) (fun _=>none) (fun _ _=>none) 0 [] false []) (fun T s hs=>by
  have:=A8b tys 0 h T s hs
  rwa [Nat.zero_add]at this) (fun T q h=>by cases h)
 obtain⟨⟨a1,a2,a3⟩,⟨b1⟩,⟨c1,c2,_⟩⟩:=this
 exact⟨⟨a1,a2,a3⟩,⟨b1⟩,⟨c1,c2,A7P mp hm⟩⟩
theorem B3L {P : Program} {f : FuncId} {fn : Func} {c : Code} (hf : P.funcs[f]? = some fn) (hb : fn.body = some c) (hn : (fn.name == "runtime.NumGoroutine") = false) (hr : Nat.ble fn.results.toList.length 5 = true) :
  A3r P f {code:=c,ntmps:=fn.ntmps,results:=fn.results.toList}:=
 ⟨⟨fn,hf,hb,rfl,rfl,hn⟩,Nat.le_of_ble_eq_true hr⟩
theorem B5w {P : Program} {f : FuncId} {fn : Func} {c : Code} (hf : P.funcs[f]? = some fn) (hb : fn.body = some c) (h : ((fn.name == "runtime.NumGoroutine") || !(Nat.ble fn.results.toList.length 5)) = false) :
  A3r P f {code:=c,ntmps:=fn.ntmps,results:=fn.results.toList}:=by
 simp only[Bool.or_eq_false_iff,Bool.not_eq_false']at h
 exact B3L hf hb h.1 h.2
def B5s{α:Type}(Q:Nat→α→Prop):List (Nat×α)→Prop
 | []=>True
 |q::r=>Q q.1 q.2∧B5s Q r
theorem B3V{α:Type}{Q:Nat→α→Prop}:∀(l:List (Nat×α)),B5s Q l→∀n a,look l n=some a→Q n a
 | [],_,n,a,h=>by cases h
 |(j,b)::r,hq,n,a,h=>by
  simp only[look]at h
  by_cases e:j=n
  ·simp only[A0j.2 e,cond,Option.some.injEq]at h
   subst h; subst e
   exact hq.1
  ·simp only[A0c e,cond]at h
   exact B3V r hq.2 n a h
end Go.Ai
/- What printed texts use. -/
namespace Go.Ai
theorem B5U{α:Type}{c:Bool}{a a' b b':α}(h:a=a')(k:b=b'):cond c a b=cond c a' b':=by rw[h,k]
theorem B5S{α β:Type}{x:Option α}{f g:α→Option β}(h:∀a,f a=g a):A1w x f=A1w x g:=by
 have:f=g:=funext h
 rw[this]
theorem B5T{α:Type}{a a' b b':Option α}(h:a=a')(k:b=b'):A7q a b=A7q a' b':=by rw[h,k]
theorem B5V{α β γ:Type}(f:α→β→γ){a a':α}{b b':β}(h:a=a')(k:b=b'):f a b=f a' b':=by rw[h,k]
def dd:Nat→List TV→List TV
 |0,l=>l
 |n+1,l=> .dead::dd n l
def mkI(c:Code)(f:Func):Inl:={code:=c,ntmps:=f.ntmps,results:=f.results.toList}
namespace G
theorem B2h:∃n:Nat,n=18446744073709551616:=⟨_,rfl⟩
noncomputable def FUEL:Nat:=Classical.choose B2h
theorem B5I:FUEL=18446744073709551616:=Classical.choose_spec B2h
end G
end Go.Ai
/- A statement's arguments as plain values. -/
namespace Go.Ai
open Go.RowKit
variable {H:Type} {enc:TypeId×Value→H} {P:Program} {w:World} {X:Nat→Prop} {base:Nat} {spare:Nat→Bool} {held:Bool}
def Ty.data:Ty→Bool
 | .slice e=>e.data
 | .arr _ e=>e.data
 | .pair a b=>a.data&&b.data
 | .ref _=>false
 | .opt _=>false
 | .fnc _=>false
 |_=>true
theorem A2N{T:TypeId}{n:Nat}(h:P.hasSize T n):P.cellsOf T=n:=by
 unfold Program.hasSize at h
 simp[Program.cellsOf,h]
theorem B2K{a:Addr}{n:Nat}{cs:List Value}(h:w.cells? base a n=some cs):cs.length=n∧∀i,i<n→w.cell? (a.add i)=cs[i]? :=by
 unfold World.cells? at h
 split at h
 ·refine ⟨by simpa using mapM_some_length h,fun i hi=> ?_⟩
  exact mapM_some_get h i i (by simp[hi])
 ·cases h
theorem A9H(a:Addr)(n m:Nat):(a.add n).add m=a.add (n+m):=by
 unfold Addr.add
 by_cases hn:n=0<;>by_cases hm:m=0<;>simp[hn,hm,Nat.add_assoc]
theorem B3E{e:Ty}{size:Nat}{a:Addr}{R:List Value→e.den→Prop}(hl:∀c x,R c x→c.length=size):
  ∀n,(∀ i,i<n→∃cs x,w.cells? base (a.add (i*size)) size=some cs∧R cs x)→
   ∃(ds:List Value) (xs:List e.den),xs.length=n∧ds.length=n*size∧A0l R ds xs∧∀j,j<ds.length→w.cell? (a.add j)=ds[j]?
 |0,_=>⟨[],[],rfl,by simp,rfl,fun j hj=>by simp at hj⟩
 |n+1,h=>by
  obtain⟨ds,xs,h1,h2,h3,h4⟩:=B3E hl n (fun i hi=>h i (by omega))
  obtain⟨cs,x,k1,k2⟩:=h n (by omega)
  obtain⟨m1,m2⟩:=B2K k1
  refine⟨ds++cs,xs++[x],by simp[h1],by simp[h2,m1,Nat.add_mul],A2T h3 ⟨cs,[],by simp,k2,rfl⟩,fun j hj=> ?_⟩
  rw[List.getElem?_append]
  split
  ·rename_i hlt; exact h4 j hlt
  ·rename_i hge
   have hj2:j-ds.length<size:=by simp at hj; omega
   rw[← m2 (j-ds.length) hj2]
   have hge2:n*size≤j:=by rw[h2]at hge; omega
   have e1:n*size+(j-n*size)=j:=by omega
   congr 1
   rw[h2,A9H,e1]
theorem B4n:(t:Ty)→t.data=true→(∀ T fuel cs y,(A0u P t).1 T→DataW.trod enc P w base spare held fuel T cs=some y→∃x,Rep w (fun _=>False) t cs x)∧
  (∀ off fs fuel (cs:List Value),(A0u P t).2 off fs→(∀ f∈fs,∃y,DataW.trod enc P w base spare held fuel f.type ((cs.drop f.offset).take (P.cellsOf f.type))=some y)→∃x,Rep w (fun _=>False) t ((cs.drop off).take t.size) x):=by
 intro t
 induction t with
 |int k=>
  refine fun _=>⟨fun T fuel cs y h hy=> ?_,fun off fs fuel cs h=>h.elim⟩
  obtain⟨n,rfl,_,h3⟩:=DataW.trod_int h.1 hy
  exact⟨n,rfl,by simpa[Lit.wf,IntKind.has]using h3⟩
 |bool=>
  refine fun _=>⟨fun T fuel cs y h hy=> ?_,fun off fs fuel cs h=>h.elim⟩
  obtain⟨b,rfl,_⟩:=DataW.trod_bool h.1 hy
  exact⟨b,rfl⟩
 |str=>
  refine fun _=>⟨fun T fuel cs y h hy=> ?_,fun off fs fuel cs h=>h.elim⟩
  obtain⟨s,rfl,_,h3⟩:=DataW.trod_string h.1 hy
  exact⟨A0B s,s,rfl,rfl,h3⟩
 |slice e ih=>
  refine fun hd=>⟨fun T fuel cs y h hy=> ?_,fun off fs fuel cs h=>h.elim⟩
  obtain⟨⟨E,h1,h2⟩,_⟩:=h
  have hs:=A2N (A0u.size e E h2)
  rcases DataW.trod_slice h1 hy with⟨rfl,_⟩|⟨a,len,cap,elems,rest,n,_,rfl,_,hb,hlc,hcm,hel,hel2,_,_⟩
  ·exact ⟨[],none,0,0,[],rfl,rfl,Nat.le_refl _,Nat.zero_le _,rfl,.inl rfl⟩
  ·rw [hs]at hel2
   obtain⟨ds,xs,g1,g2,g3,g4⟩:=B3E (w:=w) (base:=base) (a:=a) (size:=e.size) (R:=Rep w (fun _=>False) e) (fun c x hx=>Rep.length e c x hx) len (fun i hi=>by
    have:=hel2 i hi
    have hlt:i<elems.length:=by omega
    rw[List.getElem?_eq_getElem hlt]at this
    obtain⟨cs,k1,k2⟩:=Option.bind_eq_some_iff.1 this
    obtain⟨x,hx⟩:=(ih hd).1 E n cs _ h2 k2
    exact⟨cs,x,k1,hx⟩)
   refine⟨xs,some a,len,cap,ds,rfl,g1.symm,hlc,hcm,g3,?_⟩
   by_cases hne:ds=[]
   ·exact .inl hne
   ·have hpos:0<ds.length:=List.length_pos_iff.2 hne
    have h0:=g4 0 hpos
    rw[List.getElem?_eq_getElem hpos]at h0
    have hspot:a.spot=none:=by
     cases hsp:a.spot with
     |none=>rfl
     |some s=>simp[Addr.add,World.cell?,hsp]at h0; split at h0<;>simp_all
    obtain⟨b,o,s⟩:=a
    simp only at hspot
    subst hspot
    refine .inr ⟨b,o,rfl,fun j u hu=> ?_,fun h=>h⟩
    have hj:j<ds.length:=by
     rcases Nat.lt_or_ge j ds.length with h|h
     ·exact h
     ·rw [List.getElem?_eq_none h]at hu; cases hu
    have:=g4 j hj
    rw[hu,Addr.add_lit]at this
    exact this
 |arr n e ih=>
  refine fun hd=>⟨fun T fuel cs y h hy=> ?_,fun off fs fuel cs h=>h.elim⟩
  obtain⟨⟨E,h1,h2⟩,h3⟩:=h
  have hs:=A2N (A0u.size e E h2)
  have hT:=A2N h3
  obtain⟨xs,m,_,_,hl,hxl,hx⟩:=DataW.trod_array h1 hy
  rw[hs]at hx
  rw[hT]at hl
  have key:∀k,k≤n→∃zs:List e.den,zs.length=k∧A0l (Rep w (fun _=>False) e) (cs.take (k*e.size)) zs:=by
   intro k
   induction k with
   |zero=>intro _; exact⟨[],rfl,by simp[A0l]⟩
   |succ k ihk=>
    intro hk
    obtain⟨zs,z1,z2⟩:=ihk (by omega)
    have hg:=hx k (by omega)
    have hlt:k<xs.length:=by omega
    rw[List.getElem?_eq_getElem hlt]at hg
    obtain⟨x,hx⟩:=(ih hd).1 E m _ _ h2 hg
    refine⟨zs++[x],by simp[z1],?_⟩
    have e1:cs.take ((k+1)*e.size)=cs.take (k*e.size)++((cs.drop (k*e.size)).take e.size):=by
     rw[Nat.add_mul,Nat.one_mul,List.take_add]
    rw[e1]
    exact A2T z2 ⟨_,[],by simp,hx,rfl⟩
  obtain⟨zs,z1,z2⟩:=key n (Nat.le_refl _)
  refine⟨zs,z1,?_⟩
  rwa [List.take_of_length_le (by omega)]at z2
 |unit=>
  refine fun _=>⟨fun T fuel cs y h hy=> ?_,fun off fs fuel cs h _=>⟨(),by simp[Ty.size,Rep]⟩⟩
  obtain⟨⟨fs,h1,_⟩,h2,_⟩:=h
  obtain⟨xs,n,_,_,hl,_⟩:=DataW.trod_struct h1 hy
  rw[A2N h2]at hl
  exact⟨(),List.eq_nil_of_length_eq_zero hl⟩
 |pair a b iha ihb=>
  intro hd
  simp only[Ty.data,Bool.and_eq_true]at hd
  have main:∀off fs fuel (cs:List Value),(A0u P (.pair a b)).2 off fs→(∀ f∈fs,∃y,DataW.trod enc P w base spare held fuel f.type ((cs.drop f.offset).take (P.cellsOf f.type))=some y)→∃x,Rep w (fun _=>False) (.pair a b) ((cs.drop off).take (Ty.pair a b).size) x:=by
   intro off fs fuel cs ⟨f,r,he,ho,hn,h1,h2⟩ hall
   subst he
   obtain⟨y,hy⟩:=hall f (by simp)
   obtain⟨xa,ha⟩:=(iha hd.1).1 f.type fuel _ y h1 hy
   obtain⟨xb,hb⟩:=(ihb hd.2).2 (off+a.size) r fuel cs h2 (fun g hg=>hall g (by simp[hg]))
   rw[A2N (A0u.size a _ h1),ho]at ha
   refine⟨(xa,xb),_,_,?_,ha,hb⟩
   simp only[Ty.size]
   rw[List.take_add,List.drop_drop]
  refine⟨fun T fuel cs y h hy=> ?_,main⟩
  obtain⟨⟨fs,h1,f,r,hf,ho,hn,k1,k2⟩,h2,_⟩:=h
  obtain⟨xs,n,_,_,hl,hxl,hx⟩:=DataW.trod_struct h1 hy
  obtain⟨x,hxr⟩:=main 0 fs.toList n cs ⟨f,r,hf,ho,hn,k1,by simpa using k2⟩ (fun g hg=>by
   obtain⟨i,hi⟩:=List.getElem?_of_mem hg
   have hi':fs[i]? =some g:=by simpa using hi
   have hlt:i<xs.length:=by
    rw[hxl]
    exact(Array.getElem?_eq_some_iff.1 hi').1
   rw[hx i g hi',List.getElem?_eq_getElem hlt]
   exact⟨_,rfl⟩)
  rw[A2N h2]at hl
  refine⟨x,?_⟩
  rw[List.drop_zero,List.take_of_length_le (by simp[Ty.size]; omega)]at hxr
  exact hxr
 |ref e ih=>intro hd; simp[Ty.data]at hd
 |opt e ih=>intro hd; simp[Ty.data]at hd
 |fnc e=>intro hd; simp[Ty.data]at hd
theorem B4S{r:Reach}{b0:Nat}{t:Ty}{T:TypeId}{v:Value}{d:DataW H}{p:List MemPlace}(ht:(A0u P t).1 T)(hd:t.data=true)(hok:Value.okWide P w r b0 T v)(h:DataW.Trod enc P w base spare held T v d p):
  ∃cs x,A0i t.isAgg v cs∧Rep w (fun _=>False) t cs x:=by
 obtain⟨fuel,hf⟩:=h
 obtain⟨x,hx⟩:=(B4n t hd).1 T fuel _ _ ht hf
 have one:t.isAgg=false→(∀ c,v≠ .agg c)→A0i t.isAgg v v.cells.toList:=by
  intro ha hn
  have:v.cells= #[v]:=by cases v<;>first|rfl|exact absurd rfl (hn _)
  rw[ha,this]
  rfl
 refine⟨v.cells.toList,x,?_,hx⟩
 unfold Value.okWide at hok
 cases t with
 |arr n e=>
  obtain⟨⟨E,h1,_⟩,_⟩:=ht
  rw[h1]at hok
  obtain⟨cs,rfl,_⟩:=hok
  simp[A0i,Ty.isAgg,Value.cells]
 |unit=>
  obtain⟨⟨fs,h1,_⟩,_⟩:=ht
  rw[h1]at hok
  obtain⟨cs,rfl,_⟩:=hok
  simp[A0i,Ty.isAgg,Value.cells]
 |pair a b=>
  obtain⟨⟨fs,h1,_⟩,_⟩:=ht
  rw[h1]at hok
  obtain⟨cs,rfl,_⟩:=hok
  simp[A0i,Ty.isAgg,Value.cells]
 |int k=>exact one rfl fun c hc=>by subst hc; rw[ht.1]at hok; simp[Cell.okWide,Cell.ok,ht.1]at hok
 |bool=>exact one rfl fun c hc=>by subst hc; rw[ht.1]at hok; simp[Cell.okWide,Cell.ok,ht.1]at hok
 |str=>exact one rfl fun c hc=>by subst hc; rw[ht.1]at hok; simp[Cell.okWide,Cell.ok,ht.1]at hok
 |slice e=>
  obtain⟨⟨E,h1,_⟩,_⟩:=ht
  exact one rfl fun c hc=>by subst hc; rw[h1]at hok; simp[Cell.okWide,Cell.ok,h1]at hok
 |ref e=>simp[Ty.data]at hd
 |opt e=>simp[Ty.data]at hd
 |fnc e=>simp[Ty.data]at hd
def B3v(P:Program):Ty→List TypeId→Prop
 | .unit,ts=>ts=[]
 | .pair a b,ts=>∃T r,ts=T::r∧(A0u P a).1 T∧a.data=true∧B3v P b r
 |_,_=>False
theorem B0p{r:Reach}{b0:Nat}:∀(t:Ty) (ts:List TypeId) (vs:List Value) (ds:List (DataW H)) (p:List MemPlace),B3v P t ts→(∀ (j:Nat) T v,ts[j]? =some T→vs[j]? =some v→Value.okWide P w r b0 T v)→
  DataW.TrodAll enc P w base spare held ts vs ds p→∃xs,A1T w (fun _=>False) t vs xs
 | .unit,ts,vs,ds,p,hp,_,h=>by
  have:ts=[]:=hp
  subst this
  obtain⟨rfl,_⟩:=ChangeShapes.trodAll_nil h
  exact⟨(),rfl⟩
 | .pair a b,ts,vs,ds,p,⟨T,rr,ht,h1,h2,h3⟩,hok,h=>by
  subst ht
  cases vs with
  |nil=>cases ds<;>exact h.elim
  |cons v vs=>
   cases ds with
   |nil=>exact h.elim
   |cons d ds=>
    obtain⟨p1,q1,k1,k2,_⟩:=h
    obtain⟨cs,x,g1,g2⟩:=B4S h1 h2 (hok 0 T v rfl rfl) k1
    obtain⟨xs,hxs⟩:=B0p b rr vs ds q1 h3 (fun j U u hj hu=>hok (j+1) U u hj hu) k2
    exact⟨(x,xs),v,vs,cs,rfl,g1,g2,hxs⟩
 | .int _,_,_,_,_,hp,_,_| .bool,_,_,_,_,hp,_,_| .str,_,_,_,_,hp,_,_| .slice _,_,_,_,_,hp,_,_| .arr _ _,_,_,_,_,hp,_,_| .ref _,_,_,_,_,hp,_,_| .opt _,_,_,_,_,hp,_,_| .fnc _,_,_,_,_,hp,_,_=>by simp[B3v]at hp
theorem A4X:∀{ts:List TypeId} {vs:List Value} {ds:List (DataW H)} {p:List MemPlace},DataW.TrodAll enc P w base spare held ts vs ds p→ds.length=ts.length
 | [],[],[],_,_=>rfl
 |t::ts,v::vs,d::ds,_,⟨_,_,_,h,_⟩=>by simp[A4X h]
 | [],_::_,_,_,h=>h.elim
 | [],[],_::_,_,h=>h.elim
 |_::_,[],_,_,h=>h.elim
 |_::_,_::_,[],_,h=>h.elim
theorem A5w{W W':World}(hl:laidOutB P=true)(hb:Below W.heap.size W W'):∀{ts:List TypeId} {vs:List Value} {ds:List (DataW H)} {p:List MemPlace},(ts.all fun t=>P.readableRec t&&decide (t<P.types.size))=true→
  (∀ x∈p,x.block<W.heap.size)→DataW.TrodAll enc P W 0 (fun _=>true) true ts vs ds p→DataW.TrodAll enc P W' 0 (fun b=>decide (b<W.heap.size)) true ts vs ds p
 | [],[],[],_,_,_,h=>h
 |t::ts,v::vs,d::ds,p,hr,hlt,⟨p1,q1,h1,h2,h3⟩=>by
  simp only[List.all_cons,Bool.and_eq_true,decide_eq_true_eq]at hr
  subst h3
  exact⟨p1,q1,Below.trod hl hr.1.1 hr.1.2 h1 hb (fun x hx=>hlt x (List.mem_append_left _ hx)),A5w hl hb hr.2 (fun x hx=>hlt x (List.mem_append_right _ hx)) h2,rfl⟩
 | [],_::_,_,_,_,_,h=>h.elim
 | [],[],_::_,_,_,_,h=>h.elim
 |_::_,[],_,_,_,_,h=>h.elim
 |_::_,_::_,[],_,_,_,h=>h.elim
theorem B4H{f:FuncId}{fn:Func}{i:Inl}{ps:Ty}{raw:ps.den→Option Bool}{s:ChangeSpec}{B:TypeId}(hcon:A8C P f {ps:=ps,sh:=[.pl .bool],raw:=raw})(hi:A3r P f i)(hps:B3v P ps fn.params.toList)(hres:fn.resultTypes= #[B])(hB:P.underlying B=some .bool)
  (hl:laidOutB P=true) (hr:(fn.params.toList.all fun t=>P.readableRec t&&decide (t<P.types.size))=true) (hvars:s.vars=[])
  (hfn:∀(ds:List (DataW H)),ds.length=fn.params.toList.length→s.fn H ds={results:=[.lit (.bool true)],args:=ds})
  {W:World} {b0:Nat} {r:Reach} {args:Array Value} {ds gs:List (DataW H)} {before:List MemPlace} {apart:Bool}
  (hval:∀(j:Nat) t v,fn.params[j]? =some t→args[j]? =some v→Value.okWide P W r b0 t v)
  (hW:DataW.Whole enc P fn.params.toList s.vars apart W args.toList ds gs before)
  (hpre:∀xs,A1T W (fun _=>False) ps args.toList xs→raw xs=some true) (hG:GOk P W):
  Calls P f args W fun e W'=>∃v,e= .returned v∧s.post enc P fn apart true false false W args v W':=by
 have hW':=hW
 obtain⟨p,q,hA,hV,hpq,hfz,hnd⟩:=hW
 have hlt:=hW'.lt
 rw[hvars]at hV
 obtain⟨hgs,hq⟩:=ChangeShapes.trodVars_none hV
 obtain⟨xs,hxs⟩:=B0p ps fn.params.toList args.toList ds p hps (fun j T v hj hv=>hval j T v (by simpa using hj) (by simpa using hv)) hA
 have hd:=hcon W (fun _=>False) args xs true (fun b hb=>hb.elim) hxs (hpre xs hxs) hG
 rcases hd with⟨_,hd⟩|⟨v,w',hd,_⟩
 ·refine hd.mono fun e W' ⟨v,he,hk,θ,hH,hv⟩=>⟨v,he,?_⟩
  have hvb:=A2x hv
  subst hvb
  have hb:Below W.heap.size W W':=hk.below
  have hs:s.fn H (ds++gs)={results:=[.lit (.bool true)],args:=ds}:=by rw[hgs,List.append_nil]; exact hfn ds (A4X hA)
  refine⟨ds,gs,before,[],p,[],hW',?_,?_,?_,hb.frame _,fun h=>by cases h⟩
  ·rw [hs,hres]
   exact ChangeShapes.trodAll_mk1 ⟨1,by simp[DataW.trod,Value.cells,hB]⟩
  ·rw [hs]
   exact A5w hl hb hr (fun x hx=>hlt x (by rw[hpq]; exact List.mem_append_left _ hx)) hA
  ·rw [hs,hvars]; rfl
 ·rw [hi.enter args W]at hd; cases hd
end Go.Ai
/- What is known of a statement's plain arguments: each number fits its kind,each list is no longer than memory bears. -/
namespace Go.Ai
open Go.RowKit
def Ty.ok:(t:Ty)→t.den→Prop
 | .int k,x=>k.has x
 | .bool,_=>True
 | .str,xs=>xs.length≤maxLen∧∀x∈xs,0≤x∧x<256
 | .slice e,xs=>xs.length≤maxLen∧∀x∈xs,e.ok x
 | .arr n e,xs=>xs.length=n∧∀x∈xs,e.ok x
 | .unit,_=>True
 | .pair a b,x=>a.ok x.1∧b.ok x.2
 | .ref e,x=>e.ok x
 | .fnc _,_=>True
 | .opt _,none=>True
 | .opt e,some x=>e.ok x
theorem A5z{α:Type}{R:List Value→α→Prop}{Q:α→Prop}(h:∀c x,R c x→Q x):∀{xs:List α} {cs},A0l R cs xs→∀x∈xs,Q x
 | [],_,_,x,hx=>by simp at hx
 |y::ys,cs,⟨c1,c2,_,h1,h2⟩,x,hx=>by
  rcases List.mem_cons.1 hx with hx|hx
  ·subst hx; exact h _ _ h1
  ·exact A5z h h2 x hx
theorem Rep.ok{w:World}{X:Nat→Prop}:(t:Ty)→(cs:List Value)→(x:t.den)→Rep w X t cs x→t.ok x
 | .int k,_,x,h=>h.2
 | .bool,_,_,_=>trivial
 | .str,_,x,⟨s,_,h,hl⟩=>by
  subst h
  refine⟨by rw[A2f]; exact hl,fun y hy=> ?_⟩
  unfold A0B at hy
  obtain⟨b,_,rfl⟩:=List.mem_map.1 hy
  have:=b.toNat_lt
  omega
 | .slice e,_,xs,⟨a,len,cap,ds,_,h2,h3,h4,h5,_⟩=>⟨by omega,A5z (fun c x hx=>Rep.ok e c x hx) h5⟩
 | .arr n e,_,xs,⟨h1,h2⟩=>⟨h1,A5z (fun c x hx=>Rep.ok e c x hx) h2⟩
 | .unit,_,_,_=>trivial
 | .pair a b,_,x,⟨c1,c2,_,h1,h2⟩=>⟨Rep.ok a c1 _ h1,Rep.ok b c2 _ h2⟩
 | .ref e,_,x,⟨b,o,ds,_,h,_⟩=>Rep.ok e ds x h
 | .fnc _,_,_,_=>trivial
 | .opt _,_,none,_=>trivial
 | .opt e,_,some x,⟨b,o,ds,_,h,_⟩=>Rep.ok e ds x h
theorem B4u{w:World}{X:Nat→Prop}:(t:Ty)→(vs:List Value)→(x:t.den)→A1T w X t vs x→t.ok x
 | .unit,_,_,_=>trivial
 | .pair a b,_,x,⟨v,r,cs,_,_,h1,h2⟩=>⟨Rep.ok a cs _ h1,B4u b r _ h2⟩
 | .int _,_,_,h| .bool,_,_,h| .str,_,_,h| .slice _,_,_,h| .arr _ _,_,_,h| .ref _,_,_,h| .opt _,_,_,h| .fnc _,_,_,h=>h.elim
def psB(cx:Cx):Ty→List TypeId→Bool
 | .unit,[]=>true
 | .pair a b,T::r=>decide (cx.ty T=some a)&&a.data&&psB cx b r
 |_,_=>false
theorem B4M{P:Program}{cx:Cx}(hC:A1F P cx):(t:Ty)→(ts:List TypeId)→psB cx t ts=true→B3v P t ts
 | .unit,[],_=>rfl
 | .pair a b,T::r,h=>by
  simp only[psB,Bool.and_eq_true,decide_eq_true_eq]at h
  exact⟨T,r,rfl,hC.ty T a h.1.1,h.1.2,B4M hC b r h.2⟩
 | .unit,_::_,h=>by simp[psB]at h
 | .pair _ _,[],h=>by simp[psB]at h
 | .int _,ts,h=>by cases ts<;>simp[psB]at h
 | .bool,ts,h=>by cases ts<;>simp[psB]at h
 | .str,ts,h=>by cases ts<;>simp[psB]at h
 | .slice _,ts,h=>by cases ts<;>simp[psB]at h
 | .arr _ _,ts,h=>by cases ts<;>simp[psB]at h
 | .ref _,ts,h=>by cases ts<;>simp[psB]at h
 | .opt _,ts,h=>by cases ts<;>simp[psB]at h
theorem B5u{α β:Type}(a:α)(f:α→Option β):A1w (some a) f=f a:=rfl
theorem B5v{α β:Type}(f:α→Option β):A1w none f=none:=rfl
end Go.Ai

