/- The machine, and that it is sound. No conditions. -/
import Derived.Below
import Derived.Deep.MidRow
import Derived.KernelRfl
/- Draws are counted up. -/
namespace Go.Ai
open Go.RowKit
theorem A6k{α:Type}(w:World):∀(a:Ask α),w.drawn≤(w.ask a).2.drawn
 | .done a=>Nat.le_refl _
 | .ask what range k=>by
  unfold World.ask
  simp only
  split
  ·exact A6k w (k 0)
  ·exact Nat.le_trans (Nat.le_succ _) (A6k {w with drawn:=w.drawn+1} _)
theorem B3l(w:World)(c:Sys):w.drawn≤(w.sys c).2.drawn:=by
 have h:=A6k w (Kernel.perform c w.os)
 unfold World.sys
 generalize w.ask (Kernel.perform c w.os)=q at h
 obtain⟨⟨r,os⟩,w'⟩:=q
 cases r<;>first|exact Nat.le_refl _|exact h
theorem A7h{p:Program}{w:World}{a:Addr}{u:TypeId}{k:Addr}{v:Value}{t:Bool}{r:World×List Addr}(h:w.viewStore p a u k v t= .ok r):r.1.drawn=w.drawn:=by
 unfold World.viewStore at h
 simp only[bind,Except.bind,pure,Except.pure]at h
 repeat' split at h
 all_goals first|cases h; done|skip
 all_goals (injection h with h; subst h; rfl)
theorem A7A{p:Program}{w:World}{a:Addr}{v:Value}{t:Bool}{r:World×List Addr}(h:w.farStore p a v t= .ok r):r.1.drawn=w.drawn:=by
 unfold World.farStore at h
 split at h
 ·split at h
  ·rename_i x hx; injection h with h; subst h; exact A7h hx
  ·cases h
 ·cases h
theorem A0N{α:Type}{P:Program}{a:α}{w':World}:∀(m:Sem α) (w:World),m.run P w= .ok a w'→w.drawn≤w'.drawn
 | .pure b,w,h=>by injection h with h1 h2; subst h2; exact Nat.le_refl _
 | .load m c k,w,h=>by
  unfold Sem.run at h
  split at h
  ·exact A0N (k _) w h
  ·split at h
   ·exact A0N (k _) w h
   ·cases h
 | .store m c v k,w,h=>by
  have key:∀{u:Value},(match w.cell? c with
   | some _ => if w.frozen? c then Result.halt (.unsupported (.unsafePointer "a write to bytes that a string shares")) w else k.run P (w.setCell c u)
   |none=>match w.farStore P c u (m == Mode.atomic)with
    | .ok (w,_)=>k.run P w
    | .error h=> .halt h w)= .ok a w'→w.drawn≤w'.drawn:=by
   intro u h
   split at h
   ·split at h
    ·cases h
    ·exact A0N k (w.setCell c u) h
   ·split at h
    ·rename_i hx
     have:=A0N k _ h
     rw[A7A hx]at this
     exact this
    ·cases h
  cases v<;>first|exact key h|(simp only[Sem.run]at h; cases h)
 | .new o k,w,h=>A0N (k _) {w with heap:=w.heap.push o} h
 | .shape r k,w,h=>A0N (k _) w h
 | .freeze c n k,w,h=>by
  have:=A0N k (w.freeze c n) h
  unfold World.freeze at this
  split at this<;>exact this
 | .frozen c k,w,h=>A0N (k _) w h
 | .getObj r k,w,h=>by
  unfold Sem.run at h
  split at h
  ·cases h
  ·exact A0N (k _) w h
  ·cases h
 | .setObj r o k,w,h=>by
  unfold Sem.run at h
  split at h
  ·cases h
  ·exact A0N k {w with heap:=w.heap.setIfInBounds r o} h
  ·cases h
 | .choose q k,w,h=>by
  unfold Sem.run at h
  split at h
  ·exact A0N (k 0) w h
  ·exact Nat.le_trans (Nat.le_succ _) (A0N (k _) {w with drawn:=w.drawn+1} h)
 | .sys c k,w,h=>Nat.le_trans (B3l w c) (A0N (k _) _ h)
 | .program k,w,h=>A0N (k P) w h
 | .mark m k,w,h=>A0N k w h
 | .halt q,w,h=>by cases h
end Go.Ai
/- The kinds of plain values,what they are in Lean,and when cells of memory hold one. -/
namespace Go.Ai
open Go.RowKit
inductive Ty where
 |int (k:IntKind)|bool|str
 |slice (e:Ty)
 |arr (n:Nat) (e:Ty)
 |unit
 |pair (a b:Ty)
 |ref (e:Ty)
 |opt (e:Ty)
 |fnc (f:FuncId)
 deriving DecidableEq,Inhabited
@[reducible] def Ty.den:Ty→Type
 | .int _=>Int
 | .bool=>Bool
 | .str=>List Int
 | .slice e=>List e.den
 | .arr _ e=>List e.den
 | .unit=>Unit
 | .pair a b=>a.den×b.den
 | .ref e=>e.den
 | .opt e=>Option e.den
 | .fnc _=>Unit
def Ty.size:Ty→Nat
 | .arr n e=>n*e.size
 | .unit=>0
 | .pair a b=>a.size+b.size
 |_=>1
def Ty.isAgg:Ty→Bool
 | .arr _ _| .unit| .pair _ _=>true
 |_=>false
def Ty.zero:(t:Ty)→t.den
 | .int _=>(0:Int)
 | .bool=>false
 | .str=>([]:List Int)
 | .slice _=>[]
 | .arr n e=>List.replicate n e.zero
 | .unit=>()
 | .pair a b=>(a.zero,b.zero)
 | .ref e=>e.zero
 | .opt _=>none
 | .fnc _=>()
def Ty.hasRef:Ty→Bool
 | .slice _| .ref _| .opt _=>true
 | .arr _ e=>e.hasRef
 | .pair a b=>a.hasRef||b.hasRef
 |_=>false
def A0B(s:ByteArray):List Int:=s.data.toList.map fun b=>(b.toNat:Int)
def A0l{α:Type}(R:List Value→α→Prop):List Value→List α→Prop
 |cs,[]=>cs=[]
 |cs,x::xs=>∃c1 c2,cs=c1++c2∧R c1 x∧A0l R c2 xs
def Rep(w:World)(X:Nat→Prop):(t:Ty)→List Value→t.den→Prop
 | .int k,cs,x=>cs=[.int k x]∧k.has x
 | .bool,cs,x=>cs=[.bool x]
 | .str,cs,x=>∃s:ByteArray,cs=[.string s]∧x=A0B s∧s.size≤maxLen
 | .slice e,cs,xs=>∃a len cap ds,cs=[.slice a len cap]∧len=xs.length∧len≤cap∧cap≤maxLen∧A0l (Rep w X e) ds xs∧
   (ds=[]∨∃b o,a=some ⟨b,o,none⟩∧w.rangeAt b o ds∧¬X b)
 | .arr n e,cs,xs=>xs.length=n∧A0l (Rep w X e) cs xs
 | .unit,cs,_=>cs=[]
 | .pair a b,cs,x=>∃c1 c2,cs=c1++c2∧Rep w X a c1 x.1∧Rep w X b c2 x.2
 | .ref e,cs,x=>∃b o ds,cs=[.pointer (some ⟨b,o,none⟩)]∧Rep w X e ds x∧w.rangeAt b o ds∧(ds≠ []→¬X b)
 | .fnc f,cs,_=>cs=[.func (.func f) #[] #[]]
 | .opt _,cs,none=>cs=[.pointer none]
 | .opt e,cs,some x=>∃b o ds,cs=[.pointer (some ⟨b,o,none⟩)]∧Rep w X e ds x∧w.rangeAt b o ds∧(ds≠ []→¬X b)
theorem A0o{α:Type}{R S:List Value→α→Prop}(h:∀c x,R c x→S c x):∀{xs:List α} {cs},A0l R cs xs→A0l S cs xs
 | [],_,hc=>hc
 |_::_,_,⟨c1,c2,he,hr,hc⟩=>⟨c1,c2,he,h _ _ hr,A0o h hc⟩
structure A0h (X:Nat→Prop) (w w':World):Prop where
 os:w'.os=w.os
 tape:w'.tape=w.tape
 output:w'.output=w.output
 drawn:w.drawn≤w'.drawn
 size:w.heap.size≤w'.heap.size
 block:∀k,k<w.heap.size→¬X k→w'.heap[k]? =w.heap[k]?
theorem A0h.refl(X:Nat→Prop)(w:World):A0h X w w:=⟨rfl,rfl,rfl,Nat.le_refl _,Nat.le_refl _,fun _ _ _=>rfl⟩
theorem A0h.trans{X:Nat→Prop}{a b c:World}(h:A0h X a b)(k:A0h X b c):A0h X a c:=
 ⟨k.os.trans h.os,k.tape.trans h.tape,k.output.trans h.output,Nat.le_trans h.drawn k.drawn,Nat.le_trans h.size k.size,
  fun i hi hx=>(k.block i (Nat.lt_of_lt_of_le hi h.size) hx).trans (h.block i hi hx)⟩
theorem A0h.mono{X Y:Nat→Prop}{w w':World}(h:A0h X w w')(hXY:∀b,b<w.heap.size→X b→Y b):A0h Y w w':=
 ⟨h.os,h.tape,h.output,h.drawn,h.size,fun k hk hy=>h.block k hk (fun hx=>hy (hXY k hk hx))⟩
theorem A0h.below{w w':World}(h:A0h (fun _=>False) w w'):Below w.heap.size w w':=
 ⟨h.os,h.tape,h.output,h.size,fun k hk=>h.block k hk (fun hx=>hx)⟩
theorem A0h.drew(X:Nat→Prop)(w:World)(n:Nat)(hn:w.drawn≤n):A0h X w {w with drawn:=n}:=⟨rfl,rfl,rfl,hn,Nat.le_refl _,fun _ _ _=>rfl⟩
theorem A0h.alloc(X:Nat→Prop)(w:World)(o:Obj):A0h X w (w.alloc o):=
 ⟨rfl,rfl,rfl,Nat.le_refl _,by simp,fun k hk _=>Below.heap_alloc _ _ _ hk⟩
theorem A0h.setCell{X:Nat→Prop}(w:World)(a:Addr)(v:Value)(h:X a.block):A0h X w (w.setCell a v):=
 ⟨rfl,rfl,rfl,Nat.le_refl _,by simp[World.setCell],fun k _ hx=>Below.heap_setCell _ _ _ _ (fun e=>hx (e▸h))⟩
theorem A0h.setCells{X:Nat→Prop}(b:Nat)(h:X b):∀(vs:List Value) (o:Nat) (w:World),A0h X w (w.setCells b o vs)
 | [],_,w=>A0h.refl X w
 |v::r,o,w=>(A0h.setCell w ⟨b,o,none⟩ v h).trans (A0h.setCells b h r (o+1) _)
theorem A2p{w:World}{b o:Nat}{ds:List Value}(h:w.rangeAt b o ds)(hne:ds≠ []):b<w.heap.size:=by
 cases ds with
 |nil=>exact absurd rfl hne
 |cons v r=>exact World.block_lt_of_cell? w _ (h 0 v rfl)
theorem A2X{X:Nat→Prop}{w w':World}{b o:Nat}{ds:List Value}(h:w.rangeAt b o ds)(k:A0h X w w')(hb:¬X b):w'.rangeAt b o ds:=by
 intro j v hv
 have hc:=h j v hv
 have hlt:b<w.heap.size:=World.block_lt_of_cell? w _ hc
 rw[World.cell?_of_block (w:=w) (w':=w') (a:=⟨b,o+j,none⟩) (k.block b hlt hb)]
 exact hc
theorem Rep.keeps{X Y:Nat→Prop}{w w':World}(k:A0h X w w')(hYX:∀b,b<w.heap.size→X b→Y b):(t:Ty)→(cs:List Value)→(x:t.den)→Rep w Y t cs x→Rep w' Y t cs x
 | .int _,_,_,h=>h
 | .bool,_,_,h=>h
 | .str,_,_,h=>h
 | .slice e,cs,xs,⟨a,len,cap,ds,h1,h2,h3,h4,h5,h6⟩=>by
  refine⟨a,len,cap,ds,h1,h2,h3,h4,A0o (fun c x hx=>Rep.keeps k hYX e c x hx) h5,?_⟩
  by_cases hd:ds=[]
  ·exact .inl hd
  ·rcases h6 with h6|⟨b,o,ha,hr,hx⟩
   ·exact .inl h6
   ·exact .inr ⟨b,o,ha,A2X hr k (fun hxb=>hx (hYX b (A2p hr hd) hxb)),hx⟩
 | .arr n e,cs,xs,⟨h1,h2⟩=>⟨h1,A0o (fun c x hx=>Rep.keeps k hYX e c x hx) h2⟩
 | .unit,_,_,h=>h
 | .pair a b,cs,x,⟨c1,c2,h0,h1,h2⟩=>⟨c1,c2,h0,Rep.keeps k hYX a c1 x.1 h1,Rep.keeps k hYX b c2 x.2 h2⟩
 | .ref e,cs,x,⟨b,o,ds,h1,h2,h3,h4⟩=>by
  refine⟨b,o,ds,h1,Rep.keeps k hYX e ds x h2,?_,h4⟩
  by_cases hd:ds=[]
  ·subst hd; intro j v hv; simp at hv
  ·exact A2X h3 k (fun hxb=>h4 hd (hYX b (A2p h3 hd) hxb))
 | .fnc _,_,_,h=>h
 | .opt _,_,none,h=>h
 | .opt e,cs,some x,⟨b,o,ds,h1,h2,h3,h4⟩=>by
  refine⟨b,o,ds,h1,Rep.keeps k hYX e ds x h2,?_,h4⟩
  by_cases hd:ds=[]
  ·subst hd; intro j v hv; simp at hv
  ·exact A2X h3 k (fun hxb=>h4 hd (hYX b (A2p h3 hd) hxb))
theorem Rep.avoid{X Y:Nat→Prop}{w:World}(hXY:∀b,b<w.heap.size→Y b→X b):(t:Ty)→(cs:List Value)→(x:t.den)→Rep w X t cs x→Rep w Y t cs x
 | .int _,_,_,h=>h
 | .bool,_,_,h=>h
 | .str,_,_,h=>h
 | .slice e,cs,xs,⟨a,len,cap,ds,h1,h2,h3,h4,h5,h6⟩=>by
  refine⟨a,len,cap,ds,h1,h2,h3,h4,A0o (fun c x hx=>Rep.avoid hXY e c x hx) h5,?_⟩
  by_cases hd:ds=[]
  ·exact .inl hd
  ·rcases h6 with h6|⟨b,o,ha,hr,hx⟩
   ·exact .inl h6
   ·exact .inr ⟨b,o,ha,hr,fun hy=>hx (hXY b (A2p hr hd) hy)⟩
 | .arr n e,cs,xs,⟨h1,h2⟩=>⟨h1,A0o (fun c x hx=>Rep.avoid hXY e c x hx) h2⟩
 | .unit,_,_,h=>h
 | .pair a b,cs,x,⟨c1,c2,h0,h1,h2⟩=>⟨c1,c2,h0,Rep.avoid hXY a c1 x.1 h1,Rep.avoid hXY b c2 x.2 h2⟩
 | .ref e,cs,x,⟨b,o,ds,h1,h2,h3,h4⟩=>
  ⟨b,o,ds,h1,Rep.avoid hXY e ds x h2,h3,fun hd hy=>h4 hd (hXY b (A2p h3 hd) hy)⟩
 | .fnc _,_,_,h=>h
 | .opt _,_,none,h=>h
 | .opt e,cs,some x,⟨b,o,ds,h1,h2,h3,h4⟩=>
  ⟨b,o,ds,h1,Rep.avoid hXY e ds x h2,h3,fun hd hy=>h4 hd (hXY b (A2p h3 hd) hy)⟩
end Go.Ai
/- An abstract machine over plain values: the model's Code,carried out in the order of the text,on what memory holds instead of on memory. -/
namespace Go.Ai
open Go.RowKit
inductive Sel where
 |fld (n:Nat)
 |idx (k:Nat)
 deriving DecidableEq,Inhabited
def getP:(t:Ty)→t.den→List Sel→Option ((s:Ty)×s.den)
 |t,x,[]=>some ⟨t,x⟩
 | .pair a _,x,.fld 0::p=>getP a x.1 p
 | .pair _ b,x,.fld (n+1)::p=>getP b x.2 (.fld n::p)
 | .arr _ e,xs,.idx k::p=>getP e (xs.getD k e.zero) p
 |_,_,_=>none
def setP:(t:Ty)→t.den→List Sel→(s:Ty)→s.den→Option t.den
 |t,_,[],s,y=>if h:s=t then some (h▸y)else none
 | .pair a _,x,.fld 0::p,s,y=>(setP a x.1 p s y).map fun z=>(z,x.2)
 | .pair _ b,x,.fld (n+1)::p,s,y=>(setP b x.2 (.fld n::p) s y).map fun z=>(x.1,z)
 | .arr _ e,xs,.idx k::p,s,y=>(setP e (xs.getD k e.zero) p s y).map fun z=>xs.set k z
 |_,_,_,_,_=>none
def Ty.at:Ty→List Sel→Option (Nat×Ty)
 |t,[]=>some (0,t)
 | .pair a _,.fld 0::p=>a.at p
 | .pair a b,.fld (n+1)::p=>(b.at (.fld n::p)).map fun q=>(a.size+q.1,q.2)
 | .arr n e,.idx k::p=>if k<n then(e.at p).map fun q=>(k*e.size+q.1,q.2)else none
 |_,_=>none
def Ty.sub:Ty→List Sel→Option Ty
 |t,[]=>some t
 | .pair a _,.fld 0::p=>a.sub p
 | .pair _ b,.fld (n+1)::p=>b.sub (.fld n::p)
 | .arr _ e,.idx _::p=>e.sub p
 |_,_=>none
def Ty.rat:Ty→List Sel→Option (Nat×Ty)
 | .slice e,.idx k::p=>(e.at p).map fun q=>(k*e.size+q.1,q.2)
 |t,p=>t.at p
def Ty.rsub:Ty→List Sel→Option Ty
 | .slice e,.idx _::p=>e.sub p
 |t,p=>t.sub p
inductive DS where
 |pl (t:Ty)
 |sl (E:TypeId) (s:DS)
 |pr (a b:DS)
 deriving DecidableEq,Inhabited
@[reducible] def DS.ty:DS→Ty
 | .pl t=>t
 | .sl _ s=> .slice s.ty
 | .pr a b=> .pair a.ty b.ty
def DS.at:DS→List Sel→Option DS
 |s,[]=>some s
 | .sl _ s,.idx _::p=>s.at p
 | .pr a _,.fld 0::p=>a.at p
 | .pr _ b,.fld (n+1)::p=>b.at (.fld n::p)
 | .pl t,p=>(t.sub p).map .pl
 |_,_=>none
def DS.get:(s:DS)→s.ty.den→List Sel→Option ((d:DS)×d.ty.den)
 |s,x,[]=>some ⟨s,x⟩
 | .sl _ s,xs,.idx k::p=>s.get (List.getD xs k s.ty.zero) p
 | .pr a _,x,.fld 0::p=>a.get x.1 p
 | .pr _ b,x,.fld (n+1)::p=>b.get x.2 (.fld n::p)
 | .pl t,x,p=>(getP t x p).map fun q=>⟨.pl q.1,q.2⟩
 |_,_,_=>none
def DS.set:(s:DS)→s.ty.den→List Sel→(d:DS)→d.ty.den→Option s.ty.den
 |s,_,[],d,y=>if h:d=s then some (h▸y)else none
 | .sl _ s,xs,.idx k::p,d,y=>(s.set (List.getD xs k s.ty.zero) p d y).map fun z'=>List.set xs k z'
 | .pr a _,x,.fld 0::p,d,y=>(a.set x.1 p d y).map fun z=>(z,x.2)
 | .pr _ b,x,.fld (n+1)::p,d,y=>(b.set x.2 (.fld n::p) d y).map fun z=>(x.1,z)
 | .pl t,x,p,.pl u,y=>setP t x p u y
 |_,_,_,_,_=>none
def DS.inB:(s:DS)→s.ty.den→List Sel→Bool
 | .sl _ s,xs,.idx k::p=>decide (k<List.length xs)&&s.inB (List.getD xs k s.ty.zero) p
 | .pr a _,x,.fld 0::p=>a.inB x.1 p
 | .pr _ b,x,.fld (n+1)::p=>b.inB x.2 (.fld n::p)
 |_,_,_=>true
inductive TV where
 |pv (t:Ty) (x:t.den)
 |pr (a b:TV)
 |ptr (i:Nat) (t:Ty) (p:List Sel)
 |sl (i:Nat) (e:Ty)
 |inn (i:Nat) (p:List Sel) (e:Ty)
 |vw (i:Nat) (t:Ty) (p:List Sel) (e:Ty) (lo hi:Nat)
 |clp (e:Ty) (xs:List e.den)
 |nilsl
 |fn (f:FuncId) (caps:TV)
 |tup (c:TV)
 |bad
 |und
 |dead
instance:Inhabited TV:=⟨.dead⟩
inductive Blk where
 |var (t:Ty) (c:TV)
 |arr (E:TypeId) (e:Ty) (xs:List e.den)
 |tre (E:TypeId) (s:DS) (xs:List s.ty.den)
 |map (k v:Ty) (xs:List (k.den×v.den))
abbrev A0m:=List (Nat×Blk)
def PIN:Nat:=7
structure St where
 env:List TV
 stk:List (List TV)
 heap:A0m
inductive Ex where
 |normal
 |exit (id:Nat)
 |ret
 deriving DecidableEq
def TV.getP:TV→List Sel→Option TV
 |v,[]=>some v
 | .pr a _,.fld 0::p=>a.getP p
 | .pr _ b,.fld (n+1)::p=>b.getP (.fld n::p)
 | .pv t x,p=>(Ai.getP t x p).map fun q=> .pv q.1 q.2
 |_,_=>none
def A7g:(t:Ty)→t.den→List Sel→TV→Option TV
 |_,_,[],v=>some v
 | .pair a b,x,.fld 0::p,v=>(A7g a x.1 p v).map fun z=> .pr z (.pv b x.2)
 | .pair a b,x,.fld (n+1)::p,v=>(A7g b x.2 (.fld n::p) v).map fun z=> .pr (.pv a x.1) z
 |_,_,_,_=>none
def TV.setP:TV→List Sel→TV→Option TV
 |_,[],v=>some v
 | .pr a b,.fld 0::p,v=>(a.setP p v).map fun z=> .pr z b
 | .pr a b,.fld (n+1)::p,v=>(b.setP (.fld n::p) v).map fun z=> .pr a z
 | .pv t x,p,.pv s y=>(Ai.setP t x p s y).map fun z=> .pv t z
 | .pv t x,p,v=>A7g t x p v
 |_,_,_=>none
def TV.isPv:TV→Bool
 | .pv _ _=>true
 |_=>false
def A3E:Ty→TV
 | .slice _=> .nilsl
 | .pair a b=>match A3E a,A3E b with
  | .pv ta x,.pv tb y=> .pv (.pair ta tb) (x,y)
  |za,zb=> .pr za zb
 |t=> .pv t t.zero
def A3F{α:Type}(xs:List α)(lo hi:Nat):List α:=(xs.drop lo).take (hi-lo)
def A6D{α:Type}(xs:List α)(lo:Nat)(ys:List α):List α:=xs.take lo++(ys++xs.drop (lo+ys.length))
def A0b:A0m→Nat→Option Blk
 | [],_=>none
 |(j,b)::r,i=>cond (Nat.beq j i) (some b) (A0b r i)
def A2d:A0m→Nat→A0m
 | [],_=>[]
 |(j,b)::r,i=>cond (Nat.beq j i) (A2d r i) ((j,b)::A2d r i)
def A0I:A0m→Nat→Blk→A0m
 | [],_,_=>[]
 |(j,b)::r,i,c=>cond (Nat.beq j i) ((j,c)::r) ((j,b)::A0I r i c)
def A1i:TV→(t:Ty)→Option t.den
 | .pv s x,t=>if e:s=t then some (e▸x)else none
 | .pr a b,.pair ta tb=>match A1i a ta,A1i b tb with
  |some x,some y=>some (x,y)
  |_,_=>none
 | .nilsl,.slice _=>some []
 | .clp e xs,.slice e'=>if q:e=e' then some (q▸xs)else none
 |_,_=>none
def A7b(h:A0m)(i:Nat)(rt:Ty)(p:List Sel)(e:Ty)(lo hi:Nat):Option (List e.den):=
 match A0b h i with
 |some (.var t c)=>cond (decide (t=rt)) (match c.getP p with
   |some (.pv (.arr _ e2) xs)=>if q:e2=e then some (A3F (q▸xs) lo hi)else none
   |_=>none) none
 |some (.arr _ e2 xs)=>match p with
  | []=>cond (decide (Ty.slice e2=rt)) (if q:e2=e then some (A3F (q▸xs) lo hi)else none) none
  |_=>none
 |_=>none
def A7I(h:A0m)(i:Nat)(p:List Sel)(e:Ty):Option (List e.den):=
 match p,A0b h i with
 | [],some (.tre _ s xs)=>if q:s.ty=e then some (q▸xs)else none
 |_,_=>none
def B4D(f:FuncId)(c:TV)(g:FuncId):Option Unit:=
 match c with
 | .pv .unit _=>if f=g then some ()else none
 |_=>none
theorem A8W{f g:FuncId}{c:TV}{x:Unit}(h:B4D f c g=some x):c= .pv .unit ()∧f=g:=by
 unfold B4D at h
 split at h
 ·split at h
  ·rename_i e; exact⟨rfl,e⟩
  ·cases h
 ·cases h
def A0w(h:A0m):TV→(t:Ty)→Option t.den
 | .pv s x,t=>if e:s=t then some (e▸x)else none
 | .pr a b,.pair ta tb=>match A0w h a ta,A0w h b tb with
  |some x,some y=>some (x,y)
  |_,_=>none
 | .nilsl,.slice _=>some []
 | .clp e xs,.slice e'=>if q:e=e' then some (q▸xs)else none
 | .sl i e,.slice e'=>match A0b h i with
  |some (.arr _ e2 xs)=>if q:e2=e' then(if e=e2 then some (q▸xs)else none)else none
  |_=>none
 | .vw i rt p e lo hi,.slice e'=>if q:e=e' then q▸A7b h i rt p e lo hi else none
 | .inn i p e,.slice e'=>if e=e' then A7I h i p e' else none
 | .ptr i rt p,.ref e=>match A0b h i with
  |some (.var t c)=>if t=rt then match c.getP p with
    |some v=>A1i v e
    |none=>none
   else none
  |_=>none
 | .fn f c,.fnc g=>B4D f c g
 |_,_=>none
def TV.ids:TV→List Nat
 | .pr a b=>a.ids++b.ids
 | .ptr i _ _=>[i]
 | .sl i _=>[i]
 | .inn i _ _=>[i]
 | .vw i _ _ _ _ _=>[i]
 | .fn _ c=>c.ids
 | .tup c=>c.ids
 |_=>[]
def TV.alias:TV→Bool
 | .pv t _=>t.hasRef
 | .pr a b=>a.alias||b.alias
 | .clp _ _=>true
 | .fn _ c=>c.alias
 | .tup c=>c.alias
 |_=>false
def Blk.alias:Blk→Bool
 | .var _ c=>c.alias
 | .arr _ e _=>e.hasRef
 | .tre _ _ _=>false
 | .map _ _ _=>false
def TV.kill(i:Nat):TV→TV
 | .pr a b=> .pr (a.kill i) (b.kill i)
 | .ptr j t p=>cond (Nat.beq j i) .bad (.ptr j t p)
 | .sl j e=>cond (Nat.beq j i) .bad (.sl j e)
 | .inn j p e=>cond (Nat.beq j i) .bad (.inn j p e)
 | .vw j t p e lo hi=>cond (Nat.beq j i) .bad (.vw j t p e lo hi)
 | .fn f c=> .fn f (c.kill i)
 | .tup c=> .tup (c.kill i)
 |v=>v
def Blk.kill(i:Nat):Blk→Blk
 | .var t c=> .var t (c.kill i)
 |b=>b
def TV.fix(i:Nat)(e:Ty)(xs:List e.den):TV→TV
 | .pr a b=> .pr (a.fix i e xs) (b.fix i e xs)
 | .ptr j t p=>cond (Nat.beq j i) .bad (.ptr j t p)
 | .sl j s=>cond (Nat.beq j i) (cond (decide (s=e)) (.pv (.slice e) xs) .bad) (.sl j s)
 | .inn j p s=>cond (Nat.beq j i) (cond (p.isEmpty&&decide (s=e)) (.pv (.slice e) xs) .bad) (.inn j p s)
 | .vw j t p s lo hi=>cond (Nat.beq j i) .bad (.vw j t p s lo hi)
 | .fn f c=> .fn f (c.fix i e xs)
 | .tup c=> .tup (c.fix i e xs)
 |v=>v
def Blk.fix(i:Nat)(e:Ty)(xs:List e.den):Blk→Blk
 | .var t c=> .var t (c.fix i e xs)
 |b=>b
def TV.fits:TV→Ty→Bool
 | .pv s _,t=>decide (s=t)
 | .pr a b,.pair s t=>a.fits s&&b.fits t
 | .ptr ..,.opt _=>true
 | .fn ..,.opt _=>true
 | .sl _ e,.slice s=>decide (e=s)
 | .inn _ _ e,.slice s=>decide (e=s)
 | .inn _ (.fld _::_) _,.opt _=>true
 | .vw _ _ _ e _ _,.slice s=>decide (e=s)
 | .clp e _,.slice s=>decide (e=s)
 | .nilsl,.slice _=>true
 | .bad,t=> !t.isAgg
 |_,_=>false
def TV.fixV(o:Bool)(i:Nat)(t:Ty)(x:t.den):TV→TV
 | .pr a b=> .pr (a.fixV o i t x) (b.fixV o i t x)
 | .ptr j rt p=>cond (Nat.beq j i) (cond (decide (rt=t)) (match Ai.getP t x p with
  |some q=>cond o (.pv (.opt q.1) (some q.2)) (.pv (.ref q.1) q.2)
  |none=> .bad) .bad) (.ptr j rt p)
 | .sl j s=>cond (Nat.beq j i) .bad (.sl j s)
 | .inn j p s=>cond (Nat.beq j i) .bad (.inn j p s)
 | .vw j rt p s lo hi=>cond (Nat.beq j i) .bad (.vw j rt p s lo hi)
 | .fn f c=> .fn f (c.fixV o i t x)
 | .tup c=> .tup (c.fixV o i t x)
 |v=>v
def Blk.fixV(i:Nat)(t:Ty)(x:t.den):Blk→Blk
 | .var s c=> .var s (cond ((c.fixV true i t x).fits s) (c.fixV true i t x) (c.kill i))
 |b=>b
def TV.ren(d:Nat):TV→TV
 | .pr a b=> .pr (a.ren d) (b.ren d)
 | .ptr j t p=> .ptr (d+j) t p
 | .sl j e=> .sl (d+j) e
 | .inn j p e=> .inn (d+j) p e
 | .vw j t p e lo hi=> .vw (d+j) t p e lo hi
 | .fn f c=> .fn f (c.ren d)
 | .tup c=> .tup (c.ren d)
 |v=>v
def Blk.ren(d:Nat):Blk→Blk
 | .var t c=> .var t (c.ren d)
 |b=>b
def St.kill(σ:St)(i:Nat):St:=
 {σ with env:=σ.env.map (TV.kill i),stk:=σ.stk.map (·.map (TV.kill i)),heap:=(A2d σ.heap i).map fun q=>(q.1,q.2.kill i)}
def St.add(σ:St)(i:Nat)(b:Blk):St:=
 let τ:=σ.kill i
 {τ with heap:=(i,b)::τ.heap}
def St.fix(σ:St)(i:Nat):Option St:=
 match A0b σ.heap i with
 |some (.arr _ e xs)=>some {σ with env:=σ.env.map (TV.fix i e xs),stk:=σ.stk.map (·.map (TV.fix i e xs)),heap:=(A2d σ.heap i).map fun q=>(q.1,q.2.fix i e xs)}
 |some (.var t c)=>match A1i c t with
  |some x=>some {σ with env:=σ.env.map (TV.fixV false i t x),stk:=σ.stk.map (·.map (TV.fixV false i t x)),heap:=(A2d σ.heap i).map fun q=>(q.1,q.2.fixV i t x)}
  |none=>none
 |some (.tre _ s xs)=>some {σ with env:=σ.env.map (TV.fix i s.ty xs),stk:=σ.stk.map (·.map (TV.fix i s.ty xs)),heap:=(A2d σ.heap i).map fun q=>(q.1,q.2.fix i s.ty xs)}
 |_=>none
def St.fixAll(σ:St):List Nat→Option St
 | []=>some σ
 |i::r=>match σ.fix i with
  |some τ=>τ.fixAll r
  |none=>none
def St.put(σ:St)(d:Option Tmp)(v:TV):St:=
 match d with
 |some t=>{σ with env:=σ.env.set t v}
 |none=>σ
def A0R(lev:Nat)(d:Option Tmp):Nat:=lev*100000+(d.getD 0)*10
def B5b(s:ByteArray):List Int:=A0B s
def A4R:Value→TV
 | .int k n=>cond (decide (k.min≤n)&&decide (n≤k.max)) (.pv (.int k) n) .dead
 | .bool b=> .pv .bool b
 | .string s=>cond (Nat.ble s.size 1000000) (.pv .str (A0B s)) .dead
 | .slice none 0 0=> .nilsl
 |_=> .dead
def St.eval(σ:St):Operand→TV
 | .tmp t=>σ.env.getD t .dead
 | .const v=>A4R v
 | .func f=> .fn f (.pv .unit ())
 | .global _=> .dead
def eqd:(t:Ty)→t.den→t.den→Bool
 | .int _,x,y=>decide (x=y)
 | .bool,x,y=>decide (x=y)
 | .str,x,y=>decide (x=y)
 | .arr _ e,x,y=>go (eqd e) x y
 | .unit,_,_=>true
 | .pair a b,x,y=>eqd a x.1 y.1&&eqd b x.2 y.2
 | .slice e,x,y=>go (eqd e) x y
 | .ref e,x,y=>eqd e x y
 | .opt _,_,_=>false
 | .fnc _,_,_=>true
where
 go {α:Type} (f:α→α→Bool):List α→List α→Bool
  | [],[]=>true
  |a::x,b::y=>f a b&&go f x y
  |_,_=>false
def ltI:List Int→List Int→Bool
 |_,[]=>false
 | [],_::_=>true
 |a::x,b::y=>decide (a<b)||(decide (a=b)&&ltI x y)
def A6l(op:BinOp)(k:IntKind)(x y:Int):Int:=
 let a:=BitVec.ofInt k.bits x
 let b:=BitVec.ofInt k.bits y
 match op with
 | .and=>k.wrap (a &&& b).toNat
 | .or=>k.wrap (a ||| b).toNat
 | .xor=>k.wrap (a ^^^ b).toNat
 | .andNot=>k.wrap (a &&& ~~~b).toNat
 |_=>0
def B5G(k:IntKind)(x y:Int):Int:=k.wrap (x*2 ^ min y.toNat k.bits)
def B5H(k:IntKind)(x y:Int):Int:=x.fdiv (2 ^ min y.toNat k.bits)
variable {R:Type}
def A7e(xt:Option Ty)(op:BinOp)(a b:TV)(K:TV→Option R):Option R:=
 match a,b with
 | .pv (.int k) x,.pv (.int k') y=>
  match op with
  | .shl=>cond (decide (y<0)) none (K (.pv (.int k) (B5G k x y)))
  | .shr=>cond (decide (y<0)) none (K (.pv (.int k) (B5H k x y)))
  |_=>cond (decide (k=k')) (match op with
   | .add=>K (.pv (.int k) (k.wrap (x+y)))
   | .sub=>K (.pv (.int k) (k.wrap (x-y)))
   | .mul=>K (.pv (.int k) (k.wrap (x*y)))
   | .quo=>cond (decide (y=0)) none (K (.pv (.int k) (k.wrap (x.tdiv y))))
   | .rem=>cond (decide (y=0)) none (K (.pv (.int k) (x.tmod y)))
   | .and| .or| .xor| .andNot=>K (.pv (.int k) (A6l op k x y))
   | .eql=>K (.pv .bool (decide (x=y)))
   | .neq=>K (.pv .bool (!decide (x=y)))
   | .lss=>K (.pv .bool (decide (x<y)))
   | .leq=>K (.pv .bool (decide (x≤y)))
   | .gtr=>K (.pv .bool (decide (y<x)))
   | .geq=>K (.pv .bool (decide (y≤x)))
   |_=>none) none
 | .pv .str x,.pv .str y=>
  match op with
  | .add=>cond (decide (x.length+y.length≤9223372036854775807)) (K (.pv .str (x++y))) none
  | .eql=>K (.pv .bool (decide (x=y)))
  | .neq=>K (.pv .bool (!decide (x=y)))
  | .lss=>K (.pv .bool (ltI x y))
  | .leq=>K (.pv .bool (ltI x y||decide (x=y)))
  | .gtr=>K (.pv .bool (!(ltI x y||decide (x=y))))
  | .geq=>K (.pv .bool (!ltI x y))
  |_=>none
 | .pv s x,.pv t y=>
  if h:t=s then cond (s.hasRef|| !decide (xt=some s)) none (match op with
   | .eql=>K (.pv .bool (eqd s x (h▸y)))
   | .neq=>K (.pv .bool (!eqd s x (h▸y)))
   |_=>none)else none
 |_,_=>none
def unK(op:UnOp)(a:TV)(K:TV→Option R):Option R:=
 match op,a with
 | .not,.pv .bool b=>K (.pv .bool (!b))
 | .neg,.pv (.int k) n=>K (.pv (.int k) (k.wrap (0-n)))
 | .xor,.pv (.int k) n=>K (.pv (.int k) (A6l .xor k (if k.signed then -1 else k.max) n))
 |_,_=>none
inductive Sh where
 |pl (t:Ty)
 |own (E:TypeId) (e:Ty)
 |tre (E:TypeId) (s:DS)
 |pr (a b:Sh)
 deriving DecidableEq,Inhabited
@[reducible] def Sh.den:Sh→Type
 | .pl t=>t.den
 | .own _ e=>List e.den
 | .tre _ s=>List s.ty.den
 | .pr a b=>a.den×b.den
@[reducible] def A2K:List Sh→Type
 | []=>Unit
 | [s]=>s.den
 |s::t::r=>s.den×A2K (t::r)
def Sh.cnt:Sh→Nat
 | .pl _=>0
 | .own _ _=>1
 | .tre _ _=>1
 | .pr a b=>a.cnt+b.cnt
def apH:A0m→A0m→A0m
 | [],h=>h
 |q::r,h=>q::apH r h
def B0N(n:Nat):(s:Sh)→s.den→TV
 | .pl t,x=> .pv t x
 | .own _ e,_=> .sl n e
 | .tre _ s,_=> .inn n [] s.ty
 | .pr a b,x=> .pr (B0N n a x.1) (B0N (n+a.cnt) b x.2)
def B4J(n:Nat):(l:List Sh)→A2K l→TV
 | [],_=> .pv .unit ()
 | [s],x=> .pr (B0N n s x) (.pv .unit ())
 |s::t::r,x=> .pr (B0N n s x.1) (B4J (n+s.cnt) (t::r) x.2)
def A2o:(l:List Sh)→A2K l→TV
 | [s],x=>B0N 0 s x
 | [],x=> .tup (B4J 0 [] x)
 |s::t::r,x=> .tup (B4J 0 (s::t::r) x)
def A3x(n:Nat):(s:Sh)→s.den→A0m
 | .pl _,_=>[]
 | .own E e,xs=>[(n,.arr E e xs)]
 | .tre E s,xs=>[(n,.tre E s xs)]
 | .pr a b,x=>apH (A3x n a x.1) (A3x (n+a.cnt) b x.2)
def B1G(n:Nat):(l:List Sh)→A2K l→A0m
 | [],_=>[]
 | [s],x=>A3x n s x
 |s::t::r,x=>apH (A3x n s x.1) (B1G (n+s.cnt) (t::r) x.2)
def mkH(l:List Sh)(x:A2K l):A0m:=B1G 0 l x
structure Con where
 ps:Ty
 sh:List Sh
 raw:ps.den→Option (A2K sh)
structure A5M where
 E:TypeId
 e:Ty
 ps:Ty
 raw:List e.den→ps.den→Option (List e.den)
 thaw:Bool:=false
inductive BK where
 |var (t:Ty)
 |arr (E:TypeId) (e:Ty)
 |tre (E:TypeId) (s:DS)
@[reducible] def BK.den:BK→Type
 | .var t=>t.den
 | .arr _ e=>List e.den
 | .tre _ s=>List s.ty.den
def BK.blk:(k:BK)→k.den→Blk
 | .var t,x=> .var t (.pv t x)
 | .arr E e,xs=> .arr E e xs
 | .tre E s,xs=> .tre E s xs
def BK.tv(i:Nat):BK→TV
 | .var t=> .ptr i t []
 | .arr _ e=> .sl i e
 | .tre _ s=> .inn i [] s.ty
structure A8p where
 k:BK
 ps:Ty
 sh:List Sh
 raw:k.den→ps.den→Option (k.den×A2K sh)
def A1w{α β:Type}(x:Option α)(f:α→Option β):Option β:=
 match x with
 |some a=>f a
 |none=>none
open Classical in
noncomputable def A7q{α:Type}(a b:Option α):Option α:=if a=b then a else none
theorem B1s{α:Type}{a b:Option α}{r:α}(h:A7q a b=some r):a=some r∧b=some r:=by
 unfold A7q at h
 split at h
 ·rename_i e; exact⟨h,e▸h⟩
 ·cases h
theorem B5a{α:Type}(a:Option α):A7q a a=a:=by unfold A7q; rw[if_pos rfl]
noncomputable def B5D{α β:Type}(xs:List α)(F:Bool→Option β):Option β:=cond xs.isEmpty (A7q (F true) (F false)) (F false)
structure Inl where
 code:Code
 ntmps:Nat
 results:List ResultVar
structure Cut where
 keep:List Nat
 stk:List (List Nat)
 ids:List Nat
 own:List (Nat×Nat×TypeId)
 fown:List (Nat×List Sel×Nat×TypeId):=[]
 fix:List Nat:=[]
 oown:List (Nat×List (Nat×Nat×TypeId)):=[]
 outs:List (Nat×List Nat×List Nat)
structure Cx where
 ty:TypeId→Option Ty
 bytes:TypeId→Nat
 elem:TypeId→TypeId
 zok:TypeId→Bool
 dp:TypeId→Option DS
 mp:TypeId→Option (TypeId×TypeId)
 con:FuncId→Option Con
 tak:FuncId→Option A5M
 inp:FuncId→Option A8p
 inl:FuncId→Option Inl
 cut:FuncId→Nat→Option Cut
 fuel:Nat
 mg:Bool
def Ty.valB:Ty→Bool
 | .int _| .bool| .str=>true
 |_=>false
def Ty.keyB:Ty→Bool
 | .int _| .bool| .str| .arr _ (.int _)=>true
 |_=>false
def A7N(k v:Ty):List (k.den×v.den)→k.den→Option v.den
 | [],_=>none
 |q::r,x=>cond (eqd k x q.1) (some q.2) (A7N k v r x)
def A8c(k v:Ty):List (k.den×v.den)→k.den→v.den→List (k.den×v.den)
 | [],x,y=>[(x,y)]
 |q::r,x,y=>cond (eqd k x q.1) ((x,y)::r) (q::A8c k v r x y)
def look{α:Type}:List (Nat×α)→Nat→Option α
 | [],_=>none
 |(j,b)::r,i=>cond (Nat.beq j i) (some b) (look r i)
def Cx.ext(cx:Cx)(cons:List (Nat×Con)):Cx:={cx with con:=fun f=>(look cons f).orElse fun _=>cx.con f}
end Go.Ai
/- The abstract machine: operations,statements,calls. -/
namespace Go.Ai
open Go.RowKit
variable {R:Type}
def chain:List TV→TV
 | []=> .pv .unit ()
 |v::r=> .pr v (chain r)
def nth:TV→Nat→TV
 | .pr a _,0=>a
 | .pr _ b,n+1=>nth b n
 |_,_=> .dead
def A5i:TV→Nat
 | .pr _ b=>A5i b+1
 |_=>0
def TV.isTup:TV→Bool
 | .tup _=>true
 |_=>false
def A4p(v:TV)(K:Int→Option R):Option R:=
 match v with
 | .pv (.int _) n=>K n
 |_=>none
def A6t(i:Int)(n:Nat)(K:Nat→Option R):Option R:=cond (decide (0≤i)&&decide (i<(n:Int))) (K i.toNat) none
def A1j(h:A0m)(t:Ty)(a:TV)(K:TV→Option R):Option R:=
 match a with
 | .pv (.ref s) x=>cond (decide (s=t)) (K (.pv s x)) none
 | .ptr i rt p=>match A0b h i with
  |some (.var r c)=>cond (decide (r=rt)&&decide (rt.rsub p=some t)) (match c.getP p with
   |some v=>K v
   |none=>none) none
  |some (.arr _ e xs)=>cond (decide (Ty.slice e=rt)&&decide (rt.rsub p=some t)) (match p with
   | .idx k::q=>match Ai.getP e (xs.getD k e.zero) q with
    |some v=>K (.pv v.1 v.2)
    |none=>none
   |_=>none) none
  |some (.tre E s xs)=>cond (decide (Ty.slice s.ty=rt)) (match (DS.sl E s).get xs p with
   |some ⟨.pl u,y⟩=>cond (decide (u=t)) (K (.pv u y)) none
   |some ⟨.sl _ d,_⟩=>cond (decide (Ty.slice d.ty=t)) (K (.inn i p d.ty)) none
   |_=>none) none
  |some (.map _ _ _)=>none
  |none=>none
 |_=>none
def A5p:TV→Ty→TV
 | .pv (.ref e) y,.opt _=> .pv (.opt e) (some y)
 |v,_=>v
theorem B3c(v:TV)(t:Ty):(A5p v t).ids=v.ids:=by
 unfold A5p; split<;>rfl
def A5I(h:A0m)(t:Ty)(a v:TV):Option A0m:=
 match a with
 | .ptr i rt p=>match A0b h i with
  |some (.var r c)=>cond (decide (r=rt)&&decide (rt.rsub p=some t)&&v.fits t) (match c.setP p v with
   |some c'=>some (A0I h i (.var r c'))
   |none=>none) none
  |some (.arr E e xs)=>cond (decide (Ty.slice e=rt)&&decide (rt.rsub p=some t)) (match p with
   | .idx k::q=>match A0w h v t with
    |some y=>cond v.ids.isEmpty (match Ai.setP e (xs.getD k e.zero) q t y with
     |some z=>some (A0I h i (.arr E e (xs.set k z)))
     |none=>none) none
    |none=>none
   |_=>none) none
  |some (.tre E s xs)=>cond (decide (Ty.slice s.ty=rt)) (match A0w h v t with
   |some y=>cond v.ids.isEmpty (match (DS.sl E s).set xs p (.pl t) y with
    |some zs=>some (A0I h i (.tre E s zs))
    |none=>none) none
   |none=>none) none
  |some (.map _ _ _)=>none
  |none=>none
 |_=>none
def A0v(h:A0m):TV→(d:DS)→Option (d.ty.den×List Nat)
 | .pv t x,.pl u=>if q:t=u then(if u.hasRef then none else some (q▸x,[]))else none
 | .pr a b,.pr c d=>match A0v h a c,A0v h b d with
  |some x,some y=>some ((x.1,y.1),x.2++y.2)
  |_,_=>none
 | .pr a b,.pl (.pair c d)=>match A0v h a (.pl c),A0v h b (.pl d)with
  |some x,some y=>some ((x.1,y.1),x.2++y.2)
  |_,_=>none
 | .nilsl,.sl _ _=>some ([],[])
 | .sl j e,.sl E (.pl u)=>match A0b h j with
  |some (.arr E2 e2 xs)=>if q:e2=u then(if e=u∧E2=E∧u.hasRef=false then some (q▸xs,[j])else none)else none
  |_=>none
 | .inn j [] _,.sl E s=>match A0b h j with
  |some (.tre E2 s2 xs)=>if q:s2=s then(if E2=E then some (q▸xs,[j])else none)else none
  |_=>none
 |_,_=>none
def A7f:List Nat→Bool
 | []=>true
 |i::r=> !(r.any (Nat.beq i))&&A7f r
def TV.killIn(i:Nat):TV→TV
 | .pr a b=> .pr (a.killIn i) (b.killIn i)
 | .inn j p e=>cond (Nat.beq j i&& !p.isEmpty) .bad (.inn j p e)
 | .fn f c=> .fn f (c.killIn i)
 | .tup c=> .tup (c.killIn i)
 |v=>v
def Blk.killIn(i:Nat):Blk→Blk
 | .var t c=> .var t (c.killIn i)
 |b=>b
def St.killIn(σ:St)(i:Nat):St:=
 {σ with env:=σ.env.map (TV.killIn i),stk:=σ.stk.map (·.map (TV.killIn i)),heap:=σ.heap.map fun q=>(q.1,q.2.killIn i)}
def A0V(n:Nat)(lo hi:Option TV)(K:Nat→Nat→Option R):Option R:=
 match hi with
 |some v=>A4p v fun h=>cond (decide (0≤h)&&decide (h≤(n:Int))) (match lo with
  |some u=>A4p u fun l=>cond (decide (0≤l)&&decide (l≤h)) (K l.toNat h.toNat) none
  |none=>K 0 h.toNat) none
 |none=>match lo with
  |some u=>A4p u fun l=>cond (decide (0≤l)&&decide (l≤(n:Int))) (K l.toNat n) none
  |none=>K 0 n
def A5P(s:Ty)(c:TV)(isArr:Bool):List (Nat×TV)→Option TV
 | []=>some c
 |(i,v)::r=>match s.at [if isArr then .idx i else .fld i]with
  |some q=>cond (v.fits q.2) (match c.setP [if isArr then .idx i else .fld i] v with
   |some c'=>A5P s c' isArr r
   |none=>none) none
  |none=>none
def A2H{α:Type}(xs:List α)(e:Ty)(conv:TV→Option α):List (Nat×TV)→Option (List α)
 | []=>some xs
 |(i,v)::r=>match conv v with
  |some y=>A2H (xs.set i y) e conv r
  |none=>none
def A0Y(h:A0m)(e:Ty):TV→Option (List e.den)
 | .pv (.slice s) xs=>if q:s=e then some (q▸xs)else none
 | .sl i s=>match A0b h i with
  |some (.arr _ e2 xs)=>if q:e2=e then(if s=e then some (q▸xs)else none)else none
  |_=>none
 | .clp s xs=>if q:s=e then some (q▸xs)else none
 | .vw i rt p s lo hi=>if q:s=e then q▸A7b h i rt p s lo hi else none
 | .inn i p s=>if s=e∧e.hasRef=false then A7I h i p e else none
 | .nilsl=>some []
 |_=>none
def A9W(h:A0m)(s:Ty)(v:TV)(K:Int→Option R):Option R:=
 match v,s with
 | .pv (.slice _) xs,.slice _=>K xs.length
 | .pv .str xs,.str=>K xs.length
 | .pv (.arr n _) _,.arr m _=>cond (decide (n=m)&&Nat.ble n 9223372036854775807) (K n) none
 | .clp _ xs,.slice _=>K xs.length
 | .nilsl,.slice _=>K 0
 | .vw _ _ _ _ lo hi,.slice _=>K ((hi-lo:Nat):Int)
 | .inn i p e,.slice _=>match A7I h i p e with
  |some xs=>K xs.length
  |none=>none
 | .sl i _,.slice _=>match A0b h i with
  |some (.arr _ _ xs)=>K xs.length
  |_=>none
 |_,_=>none
def A4U{α β:Type}(f:α→β):Option α→Option β
 |some x=>some (f x)
 |none=>none
def A0p(cx:Cx)(h:A0m)(ρ:Operand→TV)(op:Op)(K:TV→Option R):Option R:=
 match op with
 | .move x| .assign x=>K (ρ x)
 | .pick c a b=>match ρ c with
  | .pv .bool t=>cond t (K (ρ a)) (K (ρ b))
  |_=>none
 | .load t a=>match cx.ty t with
  |some s=>A1j h s (ρ a) K
  |none=>none
 | .nilCheck x=>match ρ x with
  | .ptr i t p=>K (.ptr i t p)
  | .pv (.ref e) y=>K (.pv (.ref e) y)
  | .fn f c=>K (.fn f c)
  | .pv (.opt e) (some y)=>K (.pv (.ref e) y)
  |_=>none
 | .binOp op t x y _=>A7e (cx.ty t) op (ρ x) (ρ y) K
 | .unOp op _ x=>unK op (ρ x) K
 | .convert s d x=>match cx.ty s,cx.ty d,ρ x with
  |some (.int _),some (.int k),.pv (.int _) n=>K (.pv (.int k) (k.wrap n))
  |some .str,some .str,.pv .str n=>K (.pv .str n)
  |some (.slice (.int .u8)),some .str,v=>match A0Y h (.int .u8) v with
   |some xs=>K (.pv .str xs)
   |none=>none
  |_,_,_=>none
 | .slice T x lo hi mx=>match mx with
  |some _=>none
  |none=>match ρ x with
   | .ptr i rt p=>match A0b h i,rt.rsub p with
    |some (.var _ _),some (.arr n e)=>cond (decide (cx.ty T=some (.arr n e))&&Nat.ble n 9223372036854775807) (A0V n (A4U ρ lo) (A4U ρ hi) fun l u=>K (.vw i rt p e l u)) none
    |_,_=>none
   | .sl i e=>match A0b h i with
    |some (.arr _ s xs)=>cond (decide (s=e)&&decide (cx.ty T=some (.slice e))) (A0V xs.length (A4U ρ lo) (A4U ρ hi) fun l u=>K (.vw i (.slice e) [] e l u)) none
    |_=>none
   | .vw i rt p e a b=>cond (decide (cx.ty T=some (.slice e))) (A0V (b-a) (A4U ρ lo) (A4U ρ hi) fun l u=>K (.vw i rt p e (a+l) (a+u))) none
   | .pv .str xs=>cond (decide (cx.ty T=some .str)) (A0V xs.length (A4U ρ lo) (A4U ρ hi) fun l h=>K (.pv .str (A3F xs l h))) none
   | .pv (.slice e) xs=>cond (decide (cx.ty T=some (.slice e))) (A0V xs.length (A4U ρ lo) (A4U ρ hi) fun l h=>K (.pv (.slice e) (A3F xs l h))) none
   |_=>none
 | .fieldAddr T x f=>match ρ x with
  | .ptr i t p=>match cx.ty T with
   |some s=>cond (decide (t.rsub p=some s)) (match s.at [.fld f]with
    |some q=>cond (Nat.ble 1 q.2.size) (K (.ptr i t (p++[.fld f]))) none
    |none=>none) none
   |none=>none
  | .pv (.ref s) y=>cond (decide (cx.ty T=some s)) (match Ai.getP s y [.fld f]with
   |some q=>cond (Nat.ble 1 q.1.size) (K (.pv (.ref q.1) q.2)) none
   |none=>none) none
  |_=>none
 | .field T x f=>match cx.ty T with
  |some s=>cond ((ρ x).fits s) (match (ρ x).getP [.fld f]with
   |some v=>K v
   |none=>none) none
  |none=>none
 | .indexAddr T x ix=>A4p (ρ ix) fun i=>match ρ x with
  | .pv (.slice e) xs=>cond (decide (cx.ty T=some (.slice e))&&Nat.ble 1 e.size) (A6t i xs.length fun k=>K (.pv (.ref e) (xs.getD k e.zero))) none
  | .clp e xs=>cond (decide (cx.ty T=some (.slice e))&&Nat.ble 1 e.size) (A6t i xs.length fun k=>K (.pv (.ref e) (xs.getD k e.zero))) none
  | .sl j e=>match A0b h j with
   |some (.arr _ s xs)=>cond (decide (s=e)&&decide (cx.ty T=some (.slice e))&&Nat.ble 1 e.size) (A6t i xs.length fun k=>K (.ptr j (.slice e) [.idx k])) none
   |_=>none
  | .inn j [] e=>match A0b h j with
   |some (.tre _ s xs)=>cond (decide (s.ty=e)&&decide (cx.ty T=some (.slice e))&&Nat.ble 1 e.size) (A6t i xs.length fun k=>K (.ptr j (.slice e) [.idx k])) none
   |_=>none
  | .vw j rt p e lo hi=>cond (decide (cx.ty T=some (.slice e))&&Nat.ble 1 e.size) (A6t i (hi-lo) fun k=>K (.ptr j rt (p++[.idx (lo+k)]))) none
  | .ptr j t p=>match t.rsub p with
   |some (Ty.arr n e)=>cond (decide (cx.ty T=some (.arr n e))) (A6t i n fun k=>K (.ptr j t (p++[.idx k]))) none
   |_=>none
  | .pv (.ref (.arr n e)) xs=>cond (decide (cx.ty T=some (.arr n e))) (A6t i n fun k=>K (.pv (.ref e) (xs.getD k e.zero))) none
  |_=>none
 | .index T x ix=>A4p (ρ ix) fun i=>match ρ x with
  | .pv (.arr n e) xs=>cond (decide (cx.ty T=some (.arr n e))) (A6t i n fun k=>K (.pv e (xs.getD k e.zero))) none
  | .pv .str xs=>cond (decide (cx.ty T=some .str)) (A6t i xs.length fun k=>K (.pv (.int .u8) (xs.getD k 0))) none
  |_=>none
 | .sliceToArrayPointer t x=>match cx.ty t,ρ x with
  |some (.arr n e),.pv (.slice s) xs=>if q:s=e then cond (Nat.ble 1 (n*e.size)&&decide (n≤List.length (q▸xs:List e.den))) (K (.pv (.ref (.arr n e)) (List.take n (q▸xs:List e.den)))) none else none
  |_,_=>none
 | .extract t ix=>match ρ t with
  | .tup c=>cond (Nat.ble (ix+1) (A5i c)) (K (nth c ix)) none
  |_=>none
 | .makeFunc (.func f) first captured=>cond (first.isEmpty&&captured.toList.all fun x=> !(ρ x).isTup) (K (.fn f (chain (captured.toList.map ρ)))) none
 | .build t parts=>match cx.ty t with
  |some s=>cond (cx.zok t&&s.isAgg) (match A5P s (A3E s) (match s with| .arr _ _=>true|_=>false) (parts.toList.map fun q=>(q.1,ρ q.2))with
   |some v=>K v
   |none=>none) none
  |none=>none
 | .call {callee:= .builtin .len,args,argTypes}=>match args.toList,argTypes.toList with
  | [x],[T]=>match cx.ty T with
   |some s=>A9W h s (ρ x) fun n=>K (.pv (.int .i64) n)
   |none=>none
  |_,_=>none
 | .call {callee:= .builtin .min,args,..}=>match args.toList with
  | [x,y]=>match ρ x,ρ y with
   | .pv (.int k) a,.pv (.int k') b=>cond (decide (k=k')) (K (.pv (.int k) (min a b))) none
   |_,_=>none
  |_=>none
 | .call {callee:= .builtin .max,args,..}=>match args.toList with
  | [x,y]=>match ρ x,ρ y with
   | .pv (.int k) a,.pv (.int k') b=>cond (decide (k=k')) (K (.pv (.int k) (max a b))) none
   |_,_=>none
  |_=>none
 |_=>none
def A9V:Operand→Bool
 | .const (.slice none n c)=>Nat.beq n 0&&Nat.beq c 0
 |_=>false
def A9e:BinOp→Bool
 | .eql=>true
 |_=>false
def B2l:BinOp→Bool
 | .eql| .neq=>true
 |_=>false
def A0Q:Op→Bool
 | .binOp op _ _ y _=> !(B2l op&&A9V y)
 | .move _| .assign _| .pick .. | .load .. | .nilCheck _| .unOp .. | .fieldAddr .. | .field .. | .indexAddr .. | .index ..
 | .extract .. | .makeFunc .. | .build .. | .convert .. | .slice .. | .sliceToArrayPointer .. =>true
 | .call {callee:= .builtin b,..}=>match b with| .len| .min| .max=>true|_=>false
 |_=>false
def B3d:TV→Ty→TV
 | .pv (.opt e) (some y),.ref _=> .pv (.ref e) y
 |v,_=>v
theorem B3Z(v:TV)(t:Ty):(B3d v t).ids=v.ids:=by
 unfold B3d; split<;>rfl
def B1A(e2:Ty)(xs:List e2.den)(rt:Ty)(p:List Sel)(e:Ty):Option e.den:=
 if Ty.slice e2=rt then(match p with
  | .idx k::q=>match Ai.getP e2 (xs.getD k e2.zero) q with
   |some v=>if w:v.1=e then some (w▸v.2)else none
   |none=>none
  |_=>none)else none
def A7o(h:A0m)(v:TV)(t:Ty):Option t.den:=
 match v,t with
 | .ptr i rt p,.ref e=>match A0b h i with
  |some (.var t c)=>if t=rt then match c.getP p with
    |some u=>A0w h u e
    |none=>none
   else none
  |some (.arr _ e2 xs)=>B1A e2 xs rt p e
  |_=>none
 |v,t=>A0w h (B3d v t) t
theorem A8D(h:A0m)(i:Nat)(rt:Ty)(p:List Sel)(e:Ty):A7o h (.ptr i rt p) (.ref e)=match A0b h i with
  |some (.var t c)=>if t=rt then match c.getP p with
    |some u=>A0w h u e
    |none=>none
   else none
  |some (.arr _ e2 xs)=>B1A e2 xs rt p e
  |_=>none:=rfl
theorem A5y(h:A0m):(v:TV)→(t:Ty)→(∀ i rt p e,v= .ptr i rt p→t≠ .ref e)→A7o h v t=A0w h (B3d v t) t:=by
 intro v t hn
 unfold A7o
 split
 ·exact absurd rfl (hn _ _ _ _ rfl)
 ·rfl
def A1N(h:A0m):List TV→(t:Ty)→Option t.den
 | [],.unit=>some ()
 |v::r,.pair a b=>match A7o h v a,A1N h r b with
  |some x,some y=>some (x,y)
  |_,_=>none
 |_,_=>none
def A0z:List TV→List Nat
 | []=>[]
 |v::r=>v.ids++A0z r
def Blk.ids:Blk→List Nat
 | .var _ c=>c.ids
 | .arr .. =>[]
 | .tre .. =>[]
 | .map .. =>[]
def A4G(h:A0m):TV→List Nat
 | .ptr i _ _=>(match A0b h i with
  |some b=>b.ids
  |none=>[])++[i]
 |v=>v.ids
def A8w(h:A0m):List TV→List Nat
 | []=>[]
 |v::r=>A4G h v++A8w h r
theorem B1o(h:A0m)(v:TV):∀i∈v.ids,i∈A4G h v:=by
 intro i hi
 cases v<;>first|exact hi|(simp only[TV.ids,List.mem_singleton]at hi; subst hi; simp[A4G])
theorem A5Y(h:A0m):∀{l:List TV},A0z l=[]→A8w h l=[]
 | [],_=>rfl
 |v::r,e=>by
  simp only[A0z,List.append_eq_nil_iff]at e
  simp only[A8w,List.append_eq_nil_iff]
  refine⟨?_,A5Y h e.2⟩
  have:=e.1
  cases v<;>first|exact this|simp[TV.ids]at this
def A1f:A0m→List Nat
 | []=>[]
 |(_,b)::r=>b.ids++A1f r
def A0f:A0m→List Nat
 | []=>[]
 |(i,_)::r=>i::A0f r
def A2I(H:A0m)(r:TV):List Nat:=A0f H++(r.ids++A1f H).filter fun i=> !(A0f H).any (Nat.beq i)
def A8A(d:Nat):A0m→A0m
 | []=>[]
 |(i,b)::r=>(d+i,b.ren d)::A8A d r
def St.killL(σ:St):List Nat→St
 | []=>σ
 |i::r=>(σ.kill i).killL r
def St.addAll(σ:St)(d:Nat)(H:A0m)(r:TV):St:=
 let τ:=σ.killL ((A2I H r).map (d+ ·))
 {τ with heap:=apH (A8A d H) τ.heap}
def A1z(h:A0m):TV→TV
 | .sl i e=>match A0b h i with
  |some (.arr _ s xs)=>if s=e then .pv (.slice s) xs else .dead
  |_=> .dead
 | .inn i p e=>match A7I h i p e with
  |some xs=> .pv (.slice e) xs
  |none=> .dead
 | .pr a b=>match A1z h a,A1z h b with
  | .dead,_=> .dead
  |_,.dead=> .dead
  |x,y=> .pr x y
 | .pv t x=> .pv t x
 | .nilsl=> .nilsl
 |_=> .dead
def B2t(h:A0m):TV→TV
 | .pr a b=> .pr (A1z h a) (B2t h b)
 |v=>v
def B0f(h:A0m):TV→TV
 | .tup c=> .tup (B2t h c)
 |v=>A1z h v
def B0R(id:Nat)(l:List Nat):Bool:= !(l.any fun j=>Nat.beq (id+j) PIN)
def B2M(c:Con)(draw:Bool)(σ:St)(id:Nat)(args:List TV)(K:TV→St→Option R):Option R:=
 match A1N σ.heap args c.ps with
 |none=>none
 |some xs=>A1w (c.raw xs) fun y=>
   match draw with
   |true=>cond ((A0z args).isEmpty|| !((A2o c.sh y).alias||(mkH c.sh y).any fun q=>q.2.alias||(match q.2 with| .var .. =>true|_=>false))) (K (B0f (mkH c.sh y) (A2o c.sh y)) σ) none
   |false=>cond (B0R id (A2I (mkH c.sh y) (A2o c.sh y)))
    (cond ((A0z args).isEmpty|| !((A2o c.sh y).alias||(mkH c.sh y).any fun q=>q.2.alias)) (K ((A2o c.sh y).ren id) (σ.addAll id (mkH c.sh y) (A2o c.sh y)))
     (match σ.fixAll (A8w σ.heap args)with
      |some τ=>K ((A2o c.sh y).ren id) (τ.addAll id (mkH c.sh y) (A2o c.sh y))
      |none=>none)) none
def A5v(h:A0m):TV→Bool
 | .pv (.int _) _=>true
 | .nilsl=>true
 | .sl j _=>match A0b h j with
  |some (.arr ..)=>true
  |_=>false
 |_=>false
def A4P(c:A5M)(h:A0m)(rest:List TV):Bool:=cond c.thaw (rest.all (A5v h)) (A0z rest).isEmpty
def B3n(c:A5M)(draw:Bool)(σ:St)(id:Nat)(args:List TV)(K:TV→St→Option R):Option R:=
 cond draw none (match args with
 | .nilsl::rest=>match A1N σ.heap rest c.ps with
  |some ps=>cond (A4P c σ.heap rest) (A1w (c.raw [] ps) fun ys=>K (.sl id c.e) ((σ.killL (A0z rest)).add id (.arr c.E c.e ys))) none
  |none=>none
 | .sl i e0::rest=>match A0b σ.heap i with
  |some (.arr E e2 xs)=>match A1N σ.heap rest c.ps with
   |some ps=>if q:e2=c.e then cond (decide (e0=c.e)&&decide (E=c.E)&&A4P c σ.heap rest&& !(A0z rest).any (Nat.beq i)&& !(Nat.beq i PIN)) (A1w (c.raw (q▸xs) ps) fun ys=>K (.sl i c.e) ((σ.killL (A0z rest)).add i (.arr c.E c.e ys))) none else none
   |none=>none
  |_=>none
 |_=>none)
def A1O(h:A0m):(k:BK)→TV→Option (Nat×List Sel×k.den)
 | .var t,.ptr i rt p=>match A0b h i with
  |some (.var t2 c)=>if t2=t∧rt=t then(match p with
   | []=>match A1i c t with
    |some x=>some (i,[],x)
    |none=>none
   |_=>none)else none
  |_=>none
 | .arr E e,.sl i e0=>match A0b h i with
  |some (.arr E2 e2 xs)=>if q:e2=e then(if e0=e∧E2=E then some (i,[],q▸xs)else none)else none
  |_=>none
 | .arr E e,.inn i p e0=>match A0b h i with
  |some (.tre E2 s xs)=>match(DS.sl E2 s).get xs p with
   |some ⟨.sl E3 (.pl e3),ys⟩=>if q:e3=e then(if e0=e∧E3=E∧e.hasRef=false then some (i,p,q▸ys)else none)else none
   |_=>none
  |_=>none
 | .tre E s,.inn i p e0=>match A0b h i with
  |some (.tre E2 s2 xs)=>match(DS.sl E2 s2).get xs p with
   |some ⟨.sl E3 s3,ys⟩=>if q:s3=s then(if e0=s.ty∧E3=E then some (i,p,q▸ys)else none)else none
   |_=>none
  |_=>none
 |_,_=>none
def bkB(h:A0m):TV→Bool
 | .inn i p _=>match A0b h i with
  |some (.tre E s xs)=>(DS.sl E s).inB xs p
  |_=>true
 |_=>true
def A3N(h:A0m)(i:Nat)(p:List Sel)(k:BK)(x:k.den):Option A0m:=
 match A0b h i with
 |some (.tre E s xs)=>match k,x with
  | .arr E' e,ys=>match(DS.sl E s).set xs p (.sl E' (.pl e)) ys with
   |some zs=>some (A0I h i (.tre E s zs))
   |none=>none
  | .tre E' d,ys=>match(DS.sl E s).set xs p (.sl E' d) ys with
   |some zs=>some (A0I h i (.tre E s zs))
   |none=>none
  | .var _,_=>none
 |some _=>some (A0I h i (k.blk x))
 |none=>none
def A7S:(k:BK)→TV→Option k.den
 | .arr _ _,.nilsl=>some []
 | .tre _ _,.nilsl=>some []
 |_,_=>none
def B3M(c:A8p)(draw:Bool)(σ:St)(id:Nat)(args:List TV)(K:TV→St→Option R):Option R:=
 cond draw none (match args with
 |a::rest=>match A1N σ.heap rest c.ps with
  |some ps=>cond ((A0z rest).isEmpty&&bkB σ.heap a) (match A1O σ.heap c.k a with
   |some (i,p,x)=>A1w (c.raw x ps) fun r=>cond (B0R id (A2I (mkH c.sh r.2) (A2o c.sh r.2))) (match A3N σ.heap i p c.k r.1 with
    |some h=>K ((A2o c.sh r.2).ren id) (({σ with heap:=h}:St).addAll id (mkH c.sh r.2) (A2o c.sh r.2))
    |none=>none) none
   |none=>match A7S c.k a with
    |some x=>A1w (c.raw x ps) fun r=>cond (B0R id (A2I (mkH c.sh r.2) (A2o c.sh r.2))) (K ((A2o c.sh r.2).ren id) (σ.addAll id (mkH c.sh r.2) (A2o c.sh r.2))) none
    |none=>none) none
  |none=>none
 | []=>none)
def A8Q(h:A0m)(i:Nat)(rt:Ty)(p:List Sel)(e:Ty)(lo hi:Nat)(ys:List e.den):Option A0m:=
 match A0b h i with
 |some (.var t c)=>cond (decide (t=rt)) (match c.getP p with
  |some (.pv (.arr n e2) xs)=>if q:e2=e then(match c.setP p (.pv (.arr n e) (A6D (q▸xs) lo (ys.take (hi-lo))))with
   |some c'=>some (A0I h i (.var t c'))
   |none=>none)else none
  |_=>none) none
 |some (.arr E e2 xs)=>if q:e2=e then(match p with
  | []=>cond (decide (Ty.slice e=rt)) (some (A0I h i (.arr E e (A6D (q▸xs) lo (ys.take (hi-lo)))))) none
  |_=>none)else none
 |_=>none
def A6m(cx:Cx)(draw:Bool)(σ:St)(id:Nat)(t:TypeId)(n:Nat)(parts:Array (Nat×Operand))(K:TV→St→Option R):Option R:=
 match cx.ty t with
 |some (.slice e)=>cond (decide (cx.ty (cx.elem t)=some e)&&cx.zok (cx.elem t)&&Nat.ble (n*e.size) 16777216&&Nat.ble n 16777216&&(A0z (parts.toList.map fun q=>σ.eval q.2)).isEmpty&&parts.toList.all fun q=>Nat.blt q.1 n)
   (match A2H (List.replicate n e.zero) e (fun v=>A0w σ.heap v e) (parts.toList.map fun q=>(q.1,σ.eval q.2))with
   |some xs=>match draw with
    |true=>K (.pv (.slice e) xs) σ
    |false=>K (.sl id e) (σ.add id (.arr (cx.elem t) e xs))
   |none=>none) none
 |_=>none
def DS.okB:DS→Bool
 | .pl t=> !t.hasRef
 | .sl _ s=>s.okB
 | .pr a b=>a.okB&&b.okB
def A6c(h:A0m)(s:DS):List s.ty.den→List (Nat×TV)→Option (List s.ty.den×List Nat)
 |xs,[]=>some (xs,[])
 |xs,(i,v)::r=>match A0v h v s with
  |some y=>match A6c h s (xs.set i y.1) r with
   |some z=>some (z.1,y.2++z.2)
   |none=>none
  |none=>none
def A4g:TV→DS→Bool
 | .pv t _,.pl u=>decide (t=u)&& !u.hasRef
 | .pr a b,.pr c d=>A4g a c&&A4g b d
 | .pr a b,.pl (.pair c d)=>A4g a (.pl c)&&A4g b (.pl d)
 | .nilsl,.sl _ _=>true
 | .sl _ _,.sl _ (.pl _)=>true
 | .inn _ [] _,.sl _ _=>true
 |_,_=>false
def dpB(cx:Cx)(t:TypeId)(vs:List TV):Option DS:=match cx.dp (cx.elem t)with
 |some s=>cond (vs.all fun v=>A4g v s) (some s) none
 |none=>none
def dpA(cx:Cx)(t:TypeId)(x y:TV):Option DS:=match cx.dp (cx.elem t)with
 |some s=>cond (A4g x (.sl (cx.elem t) s)&&A4g y (.sl (cx.elem t) s)) (some s) none
 |none=>none
def A9K(cx:Cx)(σ:St)(id:Nat)(t:TypeId)(n:Nat)(s:DS)(parts:Array (Nat×Operand))(K:TV→St→Option R):Option R:=
 cond (s.okB&&decide (cx.ty t=some (.slice s.ty))&&decide (cx.ty (cx.elem t)=some s.ty)&&cx.zok (cx.elem t)&&Nat.ble (n*s.ty.size) 16777216&&Nat.ble n 16777216&&parts.toList.all fun q=>Nat.blt q.1 n)
  (match A6c σ.heap s (List.replicate n s.ty.zero) (parts.toList.map fun q=>(q.1,σ.eval q.2))with
  |some z=>cond (A7f z.2&& !z.2.any (Nat.beq PIN)) (K (.inn id [] s.ty) ((σ.killL z.2).add id (.tre (cx.elem t) s z.1))) none
  |none=>none) none
def A7i(cx:Cx)(σ:St)(id:Nat)(t:TypeId)(s:DS)(x y:TV)(K:TV→St→Option R):Option R:=
 cond (decide (cx.ty t=some (.slice s.ty))&&decide (cx.ty (cx.elem t)=some s.ty)&&cx.zok (cx.elem t)&&Nat.ble 1 s.ty.size)
  (match A0v σ.heap x (.sl (cx.elem t) s),A0v σ.heap y (.sl (cx.elem t) s)with
  |some a,some b=>cond (A7f (a.2++b.2)&& !(a.2++b.2).any (Nat.beq PIN))
    (cond (decide ((a.1.length+b.1.length)*cx.bytes (cx.elem t)≤140737488355328)&&decide (a.1.length+b.1.length≤9223372036854775807))
     (K (.inn id [] s.ty) ((σ.killL (a.2++b.2)).add id (.tre (cx.elem t) s (a.1++b.1)))) none) none
  |_,_=>none) none
def B1U(σ:St)(t:Ty)(a v:TV):Option St:=
 match a with
 | .ptr i rt p=>match A0b σ.heap i with
  |some (.tre E s xs)=>cond (decide (Ty.slice s.ty=rt)&&decide (rt.rsub p=some t)) (match (DS.sl E s).at p with
   |some d=>match A0v σ.heap v d with
    |some y=>cond (A7f y.2&& !y.2.any (Nat.beq PIN)&& !y.2.any (Nat.beq i)&& !(Nat.beq i PIN)) (match (DS.sl E s).set xs p d y.1 with
     |some zs=>some {(σ.killL y.2).killIn i with heap:=A0I ((σ.killL y.2).killIn i).heap i (.tre E s zs)}
     |none=>none) none
    |none=>none
   |none=>none) none
  |_=>none
 |_=>none
noncomputable def A1u(cx:Cx)(lev:Nat)(draw:Bool)(σ:St)(d:Option Tmp)(op:Op)(K:TV→St→Option R):Option R:=
 let id:=A0R lev d
 match op with
 | .alloc t=>match draw,cx.ty t with
  |false,some s=>cond (cx.zok t) (K (.ptr id s []) (σ.add id (.var s (A3E s)))) (match cx.mp t with
   |some _=>cond (TV.bad.fits s) (K (.ptr id s []) (σ.add id (.var s .bad))) none
   |none=>none)
  |_,_=>none
 | .box t x=>match draw,cx.ty t with
  |false,some s=>
   let τ:=σ.kill id
   cond ((A5p (τ.eval x) s).fits s) (K (.ptr id s []) (σ.add id (.var s (A5p (τ.eval x) s)))) none
  |_,_=>none
 | .store t a x=>match cx.ty t with
  |some s=>match A5I σ.heap s (σ.eval a) (A5p (σ.eval x) s)with
   |some h=>K .dead {σ with heap:=h}
   |none=>match draw,B1U σ s (σ.eval a) (σ.eval x)with
    |false,some τ=>K .dead τ
    |_,_=>none
  |none=>none
 | .buildSlice t n parts=>match draw,dpB cx t (parts.toList.map fun q=>σ.eval q.2)with
  |false,some s=>A9K cx σ id t n s parts K
  |_,_=>match(A0z (parts.toList.map fun q=>σ.eval q.2)).isEmpty with
  |true=>A6m cx draw σ id t n parts K
  |false=>match draw,σ.fixAll (A0z (parts.toList.map fun q=>σ.eval q.2))with
   |false,some τ=>A6m cx false τ id t n parts K
   |_,_=>none
 | .binOp op t x y _=>match draw,cx.ty t with
  |false,some (.slice e)=>cond (Nat.ble 1 e.size&&B2l op&&A9V y) (match σ.eval x with
   | .nilsl=>K (.pv .bool (A9e op)) σ
   |u=>match A0Y σ.heap e u with
    |some xs=>B5D xs fun b=>K (.pv .bool (cond (A9e op) b (!b))) σ
    |none=>none) none
  |_,_=>none
 | .makeMap t none=>match draw,cx.mp t with
  |false,some q=>match cx.ty q.1,cx.ty q.2 with
   |some k,some v=>cond (k.keyB&&v.valB) (K (.inn id [.fld 0] v) (σ.add id (.map k v []))) none
   |_,_=>none
  |_,_=>none
 | .lookup t m x ok=>match ok,draw,cx.mp t,σ.eval m with
  |false,false,some q,.inn j [.fld 0] _=>match A0b σ.heap j with
   |some (.map k v xs)=>cond (k.keyB&&v.valB&&decide (cx.ty q.1=some k)&&decide (cx.ty q.2=some v)&&cx.zok q.2) (match A1i (σ.eval x) k with
    |some y=>K (.pv v ((A7N k v xs y).getD v.zero)) σ
    |none=>none) none
   |_=>none
  |_,_,_,_=>none
 | .mapUpdate t m x y=>match draw,cx.mp t,σ.eval m with
  |false,some q,.inn j [.fld 0] _=>match A0b σ.heap j with
   |some (.map k v xs)=>cond (k.keyB&&v.valB&&decide (cx.ty q.1=some k)) (match A1i (σ.eval x) k,A1i (σ.eval y) v with
    |some z,some u=>K .dead {σ with heap:=A0I σ.heap j (.map k v (A8c k v xs z u))}
    |_,_=>none) none
   |_=>none
  |_,_,_=>none
 | .makeSlice t l c=>match draw,l,c,cx.ty t with
  |false,.tmp l,.tmp c,some (.slice e)=>match cx.dp (cx.elem t)with
   |some s=>cond (s.okB&&Nat.beq l c&&decide (e=s.ty)&&decide (cx.ty (cx.elem t)=some e)&&cx.zok (cx.elem t)) (A4p (σ.eval (.tmp l)) fun n=>
    cond (decide (0≤n)&&decide (n*cx.bytes (cx.elem t)≤140737488355328)&&decide (n≤9223372036854775807)) (K (.inn id [] s.ty) (σ.add id (.tre (cx.elem t) s (List.replicate n.toNat s.ty.zero)))) none) none
   |none=>cond (Nat.beq l c&&decide (cx.ty (cx.elem t)=some e)&&cx.zok (cx.elem t)) (A4p (σ.eval (.tmp l)) fun n=>
    cond (decide (0≤n)&&decide (n*cx.bytes (cx.elem t)≤140737488355328)&&decide (n≤9223372036854775807)) (K (.sl id e) (σ.add id (.arr (cx.elem t) e (List.replicate n.toNat e.zero)))) none) none
  |_,_,_,_=>none
 | .call {callee:= .builtin .copy,args,argTypes}=>match draw,args.toList,argTypes.toList with
  |false,[x,y],[t,_]=>match cx.ty t with
   |some (.slice e)=>cond (decide (cx.ty (cx.elem t)=some e)) (match A0Y σ.heap e (σ.eval y)with
    |some ys=>match σ.eval x with
     | .vw i rt p s lo hi=>cond (decide (s=e)) (match A8Q σ.heap i rt p e lo hi ys with
      |some h=>K (.pv (.int .i64) (ys.take (hi-lo)).length) {σ with heap:=h}
      |none=>none) none
     | .sl i s=>match A0b σ.heap i with
      |some (.arr _ _ xs)=>cond (decide (s=e)) (match A8Q σ.heap i (.slice e) [] e 0 xs.length ys with
       |some h=>K (.pv (.int .i64) (ys.take xs.length).length) {σ with heap:=h}
       |none=>none) none
      |_=>none
     |_=>none
    |none=>none) none
   |_=>none
  |_,_,_=>none
 | .call {callee:= .builtin .clear,args,argTypes}=>match draw,args.toList,argTypes.toList with
  |false,[x],[t]=>match cx.ty t with
   |some (.slice e)=>cond (decide (cx.ty (cx.elem t)=some e)&&cx.zok (cx.elem t)) (match σ.eval x with
    | .vw i rt p s lo hi=>cond (decide (s=e)) (match A0b σ.heap i with
     |some (.arr _ _ _)=>match A8Q σ.heap i rt p e lo hi (List.replicate (hi-lo) e.zero)with
      |some h=>K (.tup (.pv .unit ())) {σ with heap:=h}
      |none=>none
     |_=>none) none
    |_=>none) none
   |_=>none
  |_,_,_=>none
 | .call {callee:= .builtin .append,args,argTypes}=>match draw,args.toList,argTypes.toList with
  |false,[x,y],[t,u]=>match dpA cx t (σ.eval x) (σ.eval y)with
   |some s=>cond (decide (t=u)) (A7i cx σ id t s (σ.eval x) (σ.eval y) K) none
   |none=>match cx.ty t with
   |some (.slice e)=>cond (decide (t=u)&&decide (cx.ty (cx.elem t)=some e)&&cx.zok (cx.elem t)&&Nat.ble 1 e.size) (match σ.eval x,A0Y σ.heap e (σ.eval x),A0Y σ.heap e (σ.eval y)with
    | .sl i _,some xs,some ys=>match A0b σ.heap i with
     |some (.arr E _ _)=>cond (decide (E=cx.elem t)&& !(Nat.beq i PIN)) (cond (decide ((xs.length+ys.length)*cx.bytes (cx.elem t)≤140737488355328)&&decide (xs.length+ys.length≤9223372036854775807))
       (K (.sl i e) (σ.add i (.arr (cx.elem t) e (xs++ys)))) none) none
     |_=>none
    | .nilsl,_,some ys=>cond (decide (ys.length*cx.bytes (cx.elem t)≤140737488355328)&&decide (ys.length≤9223372036854775807))
       (K (.sl id e) (σ.add id (.arr (cx.elem t) e ys))) none
    |_,_,_=>none) none
   |_=>none
  |_,_,_=>none
 |_=>none
abbrev A1v(R:Type):=Nat→FuncId→Bool→FuncId→List TV→Option Tmp→St→(TV→St→Option R)→Option R
def TV.list:TV→List TV
 | .pr a b=>a::TV.list b
 |_=>[]
noncomputable def opK(cx:Cx)(call:A1v R)(lev:Nat)(fn:FuncId)(draw:Bool)(σ:St)(o:Oper)(K:TV→St→Option R):Option R:=
 match o.op with
 | .call {callee:= .value f,args,..}=>match σ.eval f with
  | .fn f caps=>call lev fn draw f (args.toList.map σ.eval++caps.list) o.dst σ K
  |_=>none
 |op=>cond (A0Q op) (A0p cx σ.heap σ.eval op fun v=>K v σ) (A1u cx lev draw σ o.dst op K)
def St.lit(σ:St)(c:Operand)(b:Bool):St:=
 match c with
 | .tmp t=>σ.put (some t) (.pv .bool b)
 |_=>σ
noncomputable def opG(cx:Cx)(call:A1v R)(lev:Nat)(fn:FuncId)(draw:Bool)(ops:List Oper)(σ:St)(o:Oper)(K:St→Option R):Option R:=
 match o.guard with
 |none=>opK cx call lev fn draw σ o fun v τ=>K (τ.put o.dst v)
 |some (j,want)=>match(ops[j]?).bind (·.dst)with
  |some t=>match σ.env.getD t .dead with
   | .pv .bool b=>
    cond b
     (cond want (opK cx call lev fn draw (σ.put (some t) (.pv .bool true)) o fun v τ=>K (τ.put o.dst v))
      (K ((σ.put (some t) (.pv .bool true)).put o.dst .und)))
     (cond want (K ((σ.put (some t) (.pv .bool false)).put o.dst .und))
      (opK cx call lev fn draw (σ.put (some t) (.pv .bool false)) o fun v τ=>K (τ.put o.dst v)))
   | .und=>K (σ.put o.dst .und)
   |_=>none
  |none=>none
noncomputable def A5k(cx:Cx)(call:A1v R)(lev:Nat)(fn:FuncId)(draw:Bool)(ops:List Oper):List Oper→St→(St→Option R)→Option R
 | [],σ,K=>K σ
 |o::rest,σ,K=>opG cx call lev fn draw ops σ o fun τ=>A5k cx call lev fn draw ops rest τ K
def A0K(o:Oper)(i:Nat):Bool:=o.after.toList.any fun e=>Region.binds .any e&&Nat.beq e.on i
def A2L:List Operand→List Nat
 | []=>[]
 | .tmp t::r=>t::A2L r
 |_::r=>A2L r
def A0D(ops:List Oper)(o:Oper):List Nat:=A2L o.op.operands.toList++(match o.guard with
 |some (g,_)=>match(ops[g]?).bind (·.dst)with
  |some t=>[t]
  |none=>[]
 |none=>[])
def B3a(d:Option Tmp)(l:List Nat):Bool:=match d with
 |some t=> !l.any (Nat.beq t)
 |none=>true
def A4F(ops:List Oper)(x y:Oper):Bool:=B3a x.dst (A0D ops y)&&B3a y.dst (A0D ops x)&&(match x.dst,y.dst with
 |some s,some t=> !Nat.beq s t
 |_,_=>true)
def B4V(cx:Cx)(f:FuncId):Bool:=match cx.con f,cx.tak f,cx.inp f with
 |none,none,some _=>true
 |_,_,_=>false
def B0m(cx:Cx):Op→Option Operand
 | .store _ a _=>some a
 | .call {callee:= .value (.func f),args,..}=>match args.toList with
  |a::_=>cond (B4V cx f) (some a) none
  | []=>none
 |_=>none
def A1D(cx:Cx)(op:Op):Bool:=(B0m cx op).isSome
def B2i(cx:Cx)(ops:List Oper):Nat→Nat→List Oper→Bool
 |0,_,_=>true
 |n+1,k,o::r=>(!A1D cx o.op||(r.take n).all fun q=> !A1D cx q.op||A0K q k)&&(o.after.toList.all fun e=> !Region.binds .any e||Nat.blt e.on k)&&(r.all fun q=>A0K q k||A4F ops o q)&&B2i cx ops n (k+1) r
 |_+1,_,[]=>true
def B2y:Nat→List Oper→Bool
 |_,[]=>true
 |k,o::r=>(o.after.toList.all fun e=> !Region.binds .any e||Nat.blt e.on k)&&A0K o (k-1)&&B2y (k+1) r
def B5O(cx:Cx):Op→Bool
 | .call {callee:= .value (.func f),..}=>match cx.con f,cx.tak f with
  |none,some c=>c.thaw
  |_,_=>false
 |_=>false
def A7K(o:Oper):Bool:=(match o.op with
 | .move _=>true
 |_=>false)&&o.guard.isNone&&o.after.toList.all fun e=> !Region.binds .any e
def B4g(cx:Cx)(ops:List Oper):Bool:=(ops.any fun o=>B5O cx o.op)&&ops.all fun o=>match o.op with
 | .select .. =>false
 |_=>true
def B0Z(rel:Bool):Nat→List Oper→Nat→Bool
 |k,o::r,n+1=>((rel&&A7K o)||(r.take (n+1)).any (A0K · k))&&B0Z rel (k+1) r n
 |_,_,_=>true
def B1T(cx:Cx)(ops:List Oper)(n:Nat):Bool:=
 (match ops.drop n with
  | []=>true
  |o::r=>(o.after.toList.all fun e=> !Region.binds .any e||Nat.blt e.on n)&&B2y (n+1) r&&B0Z (B4g cx ops) 0 ops n)&&B2i cx ops n 0 ops
def B4l(cx:Cx)(ops:List Oper):Nat→Nat→Nat
 |0,n=>n
 |f+1,n=>cond (B1T cx ops n) n (B4l cx ops f (n+1))
def A0H(cx:Cx)(ops:List Oper):Nat:=B4l cx ops ops.length 0
def B2e(cx:Cx)(ops:List Oper):Bool:=B1T cx ops (A0H cx ops)&&Nat.ble (A0H cx ops) ops.length
abbrev KD(R:Type):=TV→List Nat→A0m→Option (Nat×Blk)→Option R
def St.eff(σ:St)(D:List Nat)(A:A0m):St:={σ.killL (D++A0f A)with heap:=apH A (σ.killL (D++A0f A)).heap}
def wrH(h:A0m):Option (Nat×Blk)→A0m
 |none=>h
 |some q=>A0I h q.1 q.2
def St.wr(σ:St)(W:Option (Nat×Blk)):St:={σ with heap:=wrH σ.heap W}
def B1u(c:Con)(own:Bool)(h:A0m)(id:Nat)(args:List TV)(K:KD R):Option R:=
 match A1N h args c.ps with
 |none=>none
 |some xs=>A1w (c.raw xs) fun y=>
   cond ((A0z args).isEmpty|| !((A2o c.sh y).alias||(mkH c.sh y).any fun q=>q.2.alias||(match q.2 with| .var .. =>true|_=>false)))
    (cond own
     (cond (B0R id (A2I (mkH c.sh y) (A2o c.sh y))&&(((A2o c.sh y).ids++A1f (mkH c.sh y)).all fun i=>(A0f (mkH c.sh y)).any (Nat.beq i))) (K ((A2o c.sh y).ren id) [] (A8A id (mkH c.sh y)) none) none)
     (K (B0f (mkH c.sh y) (A2o c.sh y)) [] [] none)) none
def B1V(c:A5M)(h:A0m)(id:Nat)(args:List TV)(K:KD R):Option R:=
 match args with
 | .nilsl::rest=>match A1N h rest c.ps with
  |some ps=>cond (A4P c h rest) (A1w (c.raw [] ps) fun ys=>K (.sl id c.e) (A0z rest) [(id,.arr c.E c.e ys)] none) none
  |none=>none
 | .sl i e0::rest=>match A0b h i with
  |some (.arr E e2 xs)=>match A1N h rest c.ps with
   |some ps=>if q:e2=c.e then cond (decide (e0=c.e)&&decide (E=c.E)&&A4P c h rest&& !(A0z rest).any (Nat.beq i)&& !(Nat.beq i PIN)&& !(Nat.beq i id)) (A1w (c.raw (q▸xs) ps) fun ys=>K (.sl id c.e) (A0z rest++[i]) [(id,.arr c.E c.e ys)] none) none else none
   |none=>none
  |_=>none
 |_=>none
def B2T(c:A8p)(h:A0m)(args:List TV)(K:KD R):Option R:=
 match args with
 | .ptr j rt p::rest=>match c with
  |⟨.var t,ps,sh,raw⟩=>match A1N h rest ps,A1O h (.var t) (.ptr j rt p)with
   |some xs,some (i,_,x)=>cond ((A0z rest).isEmpty) (A1w (raw x xs) fun r=>match mkH sh r.2,A2o sh r.2 with
    | [],.pv u v=>K (.pv u v) [] [] (some (i,.var t (.pv t r.1)))
    |_,_=>none) none
   |_,_=>none
  |_=>none
 |_=>none
noncomputable def A1U(cx:Cx)(lev:Nat)(own:Bool)(σ:St)(d:Option Tmp)(op:Op)(K:KD R):Option R:=
 let id:=A0R lev d
 match op with
 | .store t a x=>match cx.ty t with
  |some s=>match A5I σ.heap s (σ.eval a) (A5p (σ.eval x) s)with
   |some h=>match σ.eval a with
    | .ptr i _ _=>match A0b h i with
     |some b=>K .dead [] [] (some (i,b))
     |none=>none
    |_=>none
   |none=>none
  |none=>none
 | .alloc t=>match cx.ty t with
  |some s=>cond (cx.zok t) (K (.ptr id s []) [] [(id,.var s (A3E s))] none) none
  |none=>none
 | .buildSlice t n parts=>match own,dpB cx t (parts.toList.map fun q=>σ.eval q.2)with
  |true,some s=>
   cond (s.okB&&decide (cx.ty t=some (.slice s.ty))&&decide (cx.ty (cx.elem t)=some s.ty)&&cx.zok (cx.elem t)&&Nat.ble (n*s.ty.size) 16777216&&Nat.ble n 16777216&&parts.toList.all fun q=>Nat.blt q.1 n)
    (match A6c σ.heap s (List.replicate n s.ty.zero) (parts.toList.map fun q=>(q.1,σ.eval q.2))with
    |some z=>cond (A7f z.2&& !z.2.any (Nat.beq PIN)) (K (.inn id [] s.ty) z.2 [(id,.tre (cx.elem t) s z.1)] none) none
    |none=>none) none
  |_,_=>match cx.ty t with
   |some (.slice e)=>cond (decide (cx.ty (cx.elem t)=some e)&&cx.zok (cx.elem t)&&Nat.ble (n*e.size) 16777216&&Nat.ble n 16777216&&(A0z (parts.toList.map fun q=>σ.eval q.2)).isEmpty&&parts.toList.all fun q=>Nat.blt q.1 n)
    (match A2H (List.replicate n e.zero) e (fun v=>A0w σ.heap v e) (parts.toList.map fun q=>(q.1,σ.eval q.2))with
    |some xs=>cond own (K (.sl id e) [] [(id,.arr (cx.elem t) e xs)] none) (K (.pv (.slice e) xs) [] [] none)
    |none=>none) none
   |_=>none
 | .call {callee:= .builtin .append,args,argTypes}=>match args.toList,argTypes.toList with
  | [x,y],[t,u]=>match dpA cx t (σ.eval x) (σ.eval y)with
   |some s=>cond (decide (t=u)) (cond (decide (cx.ty t=some (.slice s.ty))&&decide (cx.ty (cx.elem t)=some s.ty)&&cx.zok (cx.elem t)&&Nat.ble 1 s.ty.size)
    (match A0v σ.heap (σ.eval x) (.sl (cx.elem t) s),A0v σ.heap (σ.eval y) (.sl (cx.elem t) s)with
    |some a,some b=>cond (A7f (a.2++b.2)&& !(a.2++b.2).any (Nat.beq PIN))
      (cond (decide ((a.1.length+b.1.length)*cx.bytes (cx.elem t)≤140737488355328)&&decide (a.1.length+b.1.length≤9223372036854775807))
       (K (.inn id [] s.ty) (a.2++b.2) [(id,.tre (cx.elem t) s (a.1++b.1))] none) none) none
    |_,_=>none) none) none
   |none=>match cx.ty t with
   |some (.slice e)=>cond (decide (t=u)&&decide (cx.ty (cx.elem t)=some e)&&cx.zok (cx.elem t)&&Nat.ble 1 e.size) (match σ.eval x,A0Y σ.heap e (σ.eval x),A0Y σ.heap e (σ.eval y)with
    | .sl i _,some xs,some ys=>match A0b σ.heap i with
     |some (.arr E _ _)=>cond (decide (E=cx.elem t)&& !(Nat.beq i PIN)&& !(Nat.beq i id)) (cond (decide ((xs.length+ys.length)*cx.bytes (cx.elem t)≤140737488355328)&&decide (xs.length+ys.length≤9223372036854775807))
       (K (.sl id e) [i] [(id,.arr (cx.elem t) e (xs++ys))] none) none) none
     |_=>none
    | .nilsl,_,some ys=>cond (decide (ys.length*cx.bytes (cx.elem t)≤140737488355328)&&decide (ys.length≤9223372036854775807))
       (K (.sl id e) [] [(id,.arr (cx.elem t) e ys)] none) none
    |_,_,_=>none) none
   |_=>none
  |_,_=>none
 |_=>none
noncomputable def opD(cx:Cx)(lev:Nat)(own:Bool)(σ:St)(o:Oper)(K:KD R):Option R:=
 match o.op with
 | .call {callee:= .value f,args,..}=>match σ.eval f with
  | .fn g caps=>match cx.con g with
   |some c=>B1u c own σ.heap (A0R lev o.dst) (args.toList.map σ.eval++caps.list) K
   |none=>match cx.tak g with
    |some c=>B1V c σ.heap (A0R lev o.dst) (args.toList.map σ.eval++caps.list) K
    |none=>match cx.inp g with
     |some c=>cond (A1D cx o.op) (B2T c σ.heap (args.toList.map σ.eval++caps.list) K) none
     |none=>none
  |_=>none
 |op=>cond (A0Q op) (A0p cx σ.heap σ.eval op fun v=>K v [] [] none) (A1U cx lev own σ o.dst op K)
noncomputable def A5j(cx:Cx)(lev:Nat)(own:Bool)(ops:List Oper)(σ:St)(o:Oper)(K:St→KD R):Option R:=
 match o.guard with
 |none=>opD cx lev own σ o (K σ)
 |some (j,want)=>match(ops[j]?).bind (·.dst)with
  |some t=>match σ.env.getD t .dead with
   | .pv .bool b=>
    cond b
     (cond want (opD cx lev own (σ.put (some t) (.pv .bool true)) o (K (σ.put (some t) (.pv .bool true)))) (K (σ.put (some t) (.pv .bool true)) .und [] [] none))
     (cond want (K (σ.put (some t) (.pv .bool false)) .und [] [] none) (opD cx lev own (σ.put (some t) (.pv .bool false)) o (K (σ.put (some t) (.pv .bool false)))))
   | .und=>K σ .und [] [] none
   |_=>none
  |none=>none
def A3X(d:Option Tmp)(l:List Nat):Bool:=match d with
 |some t=>l.any (Nat.beq t)
 |none=>false
abbrev A9D:=Option Tmp×List Nat×A0m
def A5t(l:List Nat):List A9D→List Nat
 | []=>[]
 |q::r=>cond (A3X q.1 l) (q.2.1++A5t l r) (A5t l r)
def A2J(c:List Nat):A0m→A0m
 | []=>[]
 |q::r=>cond (c.any (Nat.beq q.1)) (q::A2J c r) (A2J c r)
def B4s(h0:A0m)(c:List Nat):List A9D→A0m
 | []=>h0
 |q::r=>apH (A2J c q.2.2) (B4s h0 c r)
def B5z(cx:Cx)(t:Nat):Op→Bool
 | .call {callee:= .builtin .append,args,argTypes}=>match args.toList,argTypes.toList with
  | [.tmp x,y],T::_=>match cx.dp (cx.elem T)with
   |some _=>true
   |none=>Nat.beq x t&& !((A2L [y]).any (Nat.beq t))
  |_,_=>false
 |_=>false
def B5C(cx:Cx)(t:Nat):Op→Bool
 | .call {callee:= .value (.func f),args,..}=>match cx.con f,cx.tak f,args.toList with
  |none,some c,x::_=>c.thaw&& !((A2L [x]).any (Nat.beq t))
  |_,_,_=>false
 |_=>false
def B5N:Op→Bool
 | .move _| .assign _| .extract _ _=>true
 |_=>false
def B5f(cx:Cx)(q:Oper):Bool:=match q.op with
 | .extract _ _=>match cx.ty q.type with
  |some t=> !t.hasRef
  |none=>false
 |_=>false
def B5A(cx:Cx)(q:Oper):Bool:=match q.op with
 | .buildSlice T _ _=>match cx.dp (cx.elem T)with
  |some _=>true
  |none=>false
 |_=>false
def B5B(t:Nat):Op→Bool
 | .store _ a (.tmp s)=>Nat.beq s t&& !((A2L [a]).any (Nat.beq t))
 |_=>false
def B5F(cx:Cx)(ops:List Oper)(m:Nat):Nat→Option Tmp→Bool
 |n+1,some t=>(ops.take m).all fun q=> !(A0D ops q).any (Nat.beq t)||B5z cx t q.op||B5C cx t q.op||B5B t q.op||B5f cx q||((B5N q.op||B5A cx q)&&B5F cx ops m n q.dst)
 |_,_=>false
def B5E(cx:Cx)(ops:List Oper)(m:Nat)(o:Oper):Bool:=B5F cx ops m 6 o.dst
def B1b(ops:List Oper)(m k:Nat)(d:Option Tmp):Nat→List Oper→Bool
 |_,[]=>true
 |i,q::r=>(Nat.beq i k||Nat.ble m i|| !A3X d (A0D ops q))&&B1b ops m k d (i+1) r
def TV.names(v:TV)(i:Nat):Bool:=v.ids.any (Nat.beq i)
def St.names(σ:St)(i:Nat):Bool:=σ.env.any (·.names i)||σ.stk.any (·.any (·.names i))||(A1f σ.heap).any (Nat.beq i)
def B4W(ops:List Oper):Nat→Nat→Option (Bool×Nat)
 |0,_=>none
 |f+1,t=>match ops.find? fun o=>A3X o.dst [t]with
  |none=>some (false,t)
  |some o=>match o.op with
   | .fieldAddr _ (.tmp s) _| .indexAddr _ (.tmp s) _| .nilCheck (.tmp s)| .move (.tmp s)| .assign (.tmp s)=>B4W ops f s
   | .alloc _=>some (true,t)
   |_=>none
def A9z(cx:Cx)(lev:Nat)(σ0:St)(ops:List Oper):List Oper→List Nat
 | []=>[]
 |o::r=>match B0m cx o.op with
  |some (.tmp t)=>match B4W ops 8 t with
   |some (true,s)=>A0R lev (some s)::A9z cx lev σ0 ops r
   |some (false,s)=>match σ0.env.getD s .dead with
    | .ptr i _ _=>i::A9z cx lev σ0 ops r
    |_=>A9z cx lev σ0 ops r
   |none=>A9z cx lev σ0 ops r
  |_=>A9z cx lev σ0 ops r
def A9a(c:List Nat):A0m→A0m
 | []=>[]
 |q::r=>cond (c.any (Nat.beq q.1)) (A9a c r) (q::A9a c r)
def B2z(cx:Cx)(σ:St)(o:Oper):List Nat:=match B0m cx o.op with
 |some a=>match σ.eval a with
  | .ptr i _ _=>[i]
  |_=>[]
 |none=>[]
def A3f(h:A0m)(i:Nat):List Nat:=match A0b h i with
 |some b=>b.ids
 |none=>[]
structure Hid where
 W:List Nat
 T:List (Nat×Nat)
 N:List Nat
def B2u(ops:List Oper)(σ0:St):Nat→Nat→Option TV
 |0,_=>none
 |f+1,t=>match ops.find? fun o=>A3X o.dst [t]with
  |none=>some (σ0.env.getD t .dead)
  |some o=>match o.op with
   | .move (.tmp s)| .assign (.tmp s)| .nilCheck (.tmp s)=>B2u ops σ0 f s
   | .fieldAddr _ (.tmp s) n=>match B2u ops σ0 f s with
    |some (.ptr i rt p)=>some (.ptr i rt (p++[.fld n]))
    |_=>none
   | .load _ (.tmp s)=>match B2u ops σ0 f s with
    |some (.ptr i _ p)=>match A0b σ0.heap i with
     |some (.var _ c)=>c.getP p
     |_=>none
    |_=>none
   |_=>none
def B5m(cx:Cx):Op→List Nat
 | .call {callee:= .builtin .append,args,argTypes}=>match args.toList,argTypes.toList with
  | [x,y],T::_=>match cx.dp (cx.elem T)with
   |some _=>A2L [x,y]
   |none=>A2L [x]
  |_,_=>[]
 | .call {callee:= .value (.func f),args,..}=>match cx.con f,cx.tak f,args.toList with
  |none,some _,x::_=>A2L [x]
  |_,_,_=>[]
 | .buildSlice t _ parts=>match cx.dp (cx.elem t)with
  |some _=>A2L (parts.toList.map (·.2))
  |none=>[]
 |_=>[]
def A6E(ops:List Oper)(σ0:St)(k:Nat):List Nat→List (Nat×Nat)
 | []=>[]
 |t::r=>match B2u ops σ0 8 t with
  |some (.sl i _)=>cond (A0b σ0.heap i).isSome ((i,k)::A6E ops σ0 k r) (A6E ops σ0 k r)
  |some (.inn i [] _)=>cond (A0b σ0.heap i).isSome ((i,k)::A6E ops σ0 k r) (A6E ops σ0 k r)
  |_=>A6E ops σ0 k r
def B1W(cx:Cx)(ops:List Oper)(σ0:St):Nat→List Oper→List (Nat×Nat)
 |_,[]=>[]
 |k,o::r=>A6E ops σ0 k (B5m cx o.op)++B1W cx ops σ0 (k+1) r
def A9Z(T:List (Nat×Nat))(l:List Nat):Bool:=l.any fun i=>T.any fun q=>Nat.beq q.1 i
def A9Y(T:List (Nat×Nat)):A0m→List Nat
 | []=>[]
 |q::r=>cond (A9Z T q.2.ids) (q.1::A9Y T r) (A9Y T r)
def B5e(cx:Cx)(lev:Nat)(σ0:St)(ops:List Oper):Hid:=
 {W:=A9z cx lev σ0 ops ops,T:=B1W cx ops σ0 0 ops,N:=A9Y (B1W cx ops σ0 0 ops) σ0.heap}
def inT(T:List (Nat×Nat))(i:Nat):Bool:=T.any fun q=>Nat.beq q.1 i
def B3K(σ0:St)(H:Hid):Bool:=
 (H.T.isEmpty&&H.N.isEmpty)||(!H.T.isEmpty&&A7f (H.T.map (·.1))&&(H.N.all fun i=> !inT H.T i)&&(H.T.all fun q=> !Nat.beq q.1 PIN&& !H.W.any (Nat.beq q.1)&&(match A0b σ0.heap q.1 with
  |some (.var ..)=>false
  |some _=>true
  |none=>false))&&(H.N.all fun i=> !H.W.any (Nat.beq i))&&σ0.heap.all fun q=> !A9Z H.T q.2.ids||H.N.any (Nat.beq q.1))
def A8x(σ:St)(o:Oper):List Nat:=match o.op with
 | .load _ a=>match σ.eval a with
  | .ptr i _ _=>[i]
  |_=>[]
 |_=>[]
def A4N:Op→Bool
 | .load .. =>true
 |_=>false
def A2l(ops:List Oper)(n k:Nat):Bool:=match ops[n]? with
 |some o=>A0K o k
 |none=>false
def A8i(T:List (Nat×Nat))(k:Nat):List Nat:=match T with
 | []=>[]
 |q::r=>cond (Nat.beq q.2 k) (q.1::A8i r k) (A8i r k)
def A7F(ops:List Oper)(k:Nat):List (Nat×Nat)→List Nat
 | []=>[]
 |q::r=>cond (!Nat.beq q.2 k&& !A2l ops q.2 k) (q.1::A7F ops k r) (A7F ops k r)
def A0k:List Nat→TV→TV
 | [],v=>v
 |i::r,v=>A0k r (v.kill i)
def A3w(l:List Nat):Blk→Blk
 | .var t c=> .var t (A0k l c)
 |b=>b
def B0J(l:List Nat):A0m→A0m
 | []=>[]
 |q::r=>(q.1,A3w l q.2)::B0J l r
def B4R(cx:Cx)(ops:List Oper)(H:Hid)(σ0 σ:St)(made:List A9D)(k:Nat)(o:Oper):A0m:=
 apH (A2J H.W (A2J (B2z cx σ o) σ.heap)) (apH (A2J (A8i H.T k) σ0.heap) (apH (B0J (A7F ops k H.T) (A2J H.N (A2J (A8x σ o) σ0.heap))) (A9a (H.W++(H.T.map (·.1)++H.N)) (B4s σ0.heap (A5t (A0D ops o) made) made))))
def TV.noBad:TV→Bool
 | .pr a b=>a.noBad&&b.noBad
 | .fn _ c=>c.noBad
 | .tup c=>c.noBad
 | .bad=>false
 |_=>true
def B5d(ops:List Oper)(σ0 σ:St)(H:Hid)(made:List A9D)(k:Nat)(o:Oper)(tv:TV)(W:Option (Nat×Blk)):Bool:=
 B3K σ0 H&&(H.T.isEmpty||((tv.ids.all fun i=>H.T.all fun q=> !Nat.beq q.1 i||A2l ops q.2 k)&&
  ((A0D ops o).all fun t=>H.T.all fun q=>Nat.beq q.2 k||A2l ops q.2 k|| !((σ0.env.getD t .dead).ids.any (Nat.beq q.1)||made.any fun z=>A3X z.1 [t]&&z.2.1.any (Nat.beq q.1)))&&
  (!A4N o.op||tv.noBad||(A8x σ o).all fun i=> !H.N.any (Nat.beq i))&&
  (match W with
  |none=>true
  |some q=>q.2.ids.all fun i=> !inT H.T i)))
def B1B(cx:Cx)(ops:List Oper)(m:Nat)(σ0:St)(H:Hid)(h:A0m)(made:List A9D)(k:Nat)(o:Oper)(tv:TV)(D:List Nat)(A:A0m)(W:Option (Nat×Blk)):Bool:=
 A7f (A0f A)&&((A0f A).all fun i=>(A0b σ0.heap i).isNone&& !Nat.beq i PIN&& !σ0.names i&& !made.any fun q=>(A0f q.2.2).any (Nat.beq i))&&
 (D.all fun d=>(H.T.any fun q=>Nat.beq q.1 d&&Nat.beq q.2 k)||(!H.W.any (Nat.beq d)&&made.any fun q=>(A0f q.2.2).any (Nat.beq d)&&A3X q.1 (A0D ops o)&&B1b ops m k q.1 0 ops))&&
 (tv.ids.all fun i=>(A0f A).any (Nat.beq i)||(A0b σ0.heap i).isSome||(!D.any (Nat.beq i)&&(A5t (A0D ops o) made).any (Nat.beq i)))&&(A1f A).isEmpty&&
 (match W with
 |none=>true
 |some q=>A1D cx o.op&&D.isEmpty&&(A0f A).isEmpty&&H.W.any (Nat.beq q.1)&&((A0b σ0.heap q.1).isSome||(A5t (A0D ops o) made).any (Nat.beq q.1))&&q.2.ids.all fun i=>(A0b σ0.heap i).isSome||(A5t (A0D ops o) made).any (Nat.beq i)||(A3f h q.1).any (Nat.beq i))
noncomputable def B0B(cx:Cx)(lev:Nat)(ops:List Oper)(m:Nat)(σ0:St)(H:Hid):List Oper→Nat→List A9D→St→(St→Option R)→Option R
 | [],_,_,σ,K=>K σ
 |o::rest,k,made,σ,K=>A5j cx lev (B5E cx ops m o) ops {σ with heap:=B4R cx ops H σ0 σ made k o} o fun τ tv D A W=>
   cond (B1B cx ops m σ0 H σ.heap made k o tv D A W&&B5d ops σ0 σ H made k o tv W) (B0B cx lev ops m σ0 H rest (k+1) ((o.dst,tv.ids,A)::made) (((({τ with heap:=σ.heap}:St).eff D A).wr W).put o.dst tv) K) none
def B5P:Code→List Oper
 | .region _ ops _=>ops.toList
 |_=>[]
noncomputable def B5J(cx:Cx)(call:A1v R)(lev:Nat)(fn:FuncId)(draw:Bool)(ops:List Oper)(i:Nat)(K:Ex→St→Option R)(v:TV)(τ:St):Option R:=
 A5k cx call lev fn draw ops (ops.drop (i+1)) (τ.put ((ops[i]?).bind (·.dst)) v) (K .normal)
def keepEnv(keep:List Nat):Nat→List TV→List TV
 |_,[]=>[]
 |n,v::r=>(cond (keep.any (Nat.beq n)) v .dead)::keepEnv keep (n+1) r
def gone(lev:Nat)(ids:List Nat):A0m→List Nat
 | []=>[]
 |(i,_)::r=>cond (Nat.ble (lev*100000) i&& !ids.any (Nat.beq i)) (i::gone lev ids r) (gone lev ids r)
def St.ownNil(σ:St)(E:TypeId)(e:Ty)(dp:Option DS)(t i:Nat):Option St:=
 cond (Nat.beq i PIN) none (match σ.env.getD t .dead with
 | .nilsl=>match dp with
  |some s=>some ((σ.add i (.tre E s [])).put (some t) (.inn i [] s.ty))
  |none=>some ((σ.add i (.arr E e [])).put (some t) (.sl i e))
 | .sl j s=>cond (Nat.beq j i) (some σ) (cond (Nat.beq j PIN) none (match A0b σ.heap j with
  |some (.arr E' e' xs)=>if s=e' then some (((σ.kill i).kill j).add i (.arr E' e' xs) |>.put (some t) (.sl i e'))else none
  |_=>none))
 | .inn j [] _=>cond (Nat.beq j i) (some σ) (cond (Nat.beq j PIN) none (match A0b σ.heap j with
  |some (.tre E' d xs)=>some (((σ.killL [j]).add i (.tre E' d xs)).put (some t) (.inn i [] d.ty))
  |_=>none))
 |_=>none)
def St.ownAll(cx:Cx)(σ:St):List (Nat×Nat×TypeId)→Option St
 | []=>some σ
 |(t,i,T)::r=>match cx.ty T with
  |some (.slice e)=>match σ.ownNil (cx.elem T) e (cx.dp (cx.elem T)) t i with
   |some τ=>τ.ownAll cx r
   |none=>none
  |_=>none
def St.setFld(τ:St)(b:Nat)(p:List Sel)(v:TV):Option St:=match A0b τ.heap b with
 |some (.var t c)=>match c.setP p v with
  |some c'=>some {τ with heap:=A0I τ.heap b (.var t c')}
  |none=>none
 |_=>none
def St.ownFld(σ:St)(E:TypeId)(e:Ty)(dp:Option DS)(b:Nat)(p:List Sel)(i:Nat):Option St:=
 cond (Nat.beq i PIN||Nat.beq b i) none (match A0b σ.heap b with
 |some (.var t c)=>match t.at p with
  |some (_,.slice e2)=>cond (decide (e2=e)) (match c.getP p with
   |some .nilsl=>match dp with
    |some s=>cond (decide (s.ty=e2)) ((σ.add i (.tre E s [])).setFld b p (.inn i [] s.ty)) none
    |none=>(σ.add i (.arr E e [])).setFld b p (.sl i e)
   |some (.sl j s)=>cond (Nat.beq j i) (some σ) (cond (Nat.beq j PIN) none (match A0b σ.heap j with
    |some (.arr E' e' xs)=>if s=e'∧e'=e then(((σ.kill i).kill j).add i (.arr E' e' xs)).setFld b p (.sl i e')else none
    |_=>none))
   |some (.inn j [] _)=>cond (Nat.beq j i) (some σ) (cond (Nat.beq j PIN) none (match A0b σ.heap j with
    |some (.tre E' d xs)=>cond (decide (d.ty=e2)) (((σ.killL [j]).add i (.tre E' d xs)).setFld b p (.inn i [] d.ty)) none
    |_=>none))
   |_=>none) none
  |_=>none
 |_=>none)
def St.fldAll(cx:Cx)(σ:St):List (Nat×List Sel×Nat×TypeId)→Option St
 | []=>some σ
 |(b,p,i,T)::r=>match cx.ty T with
  |some (.slice e)=>match σ.ownFld (cx.elem T) e (cond (Nat.beq (i % 10) 5) (cx.dp (cx.elem T)) none) b p i with
   |some τ=>τ.fldAll cx r
   |none=>none
  |_=>none
def keepStk:List (List Nat)→List (List TV)→List (List TV)
 |k::r,e::q=>keepEnv k 0 e::keepStk r q
 |_,q=>q
def B3N(i:Nat)(b:Blk):A0m→A0m
 | []=>[(i,b)]
 |(j,c)::r=>cond (Nat.ble i j) ((i,b)::(j,c)::r) ((j,c)::B3N i b r)
def B2x:A0m→A0m
 | []=>[]
 |(i,b)::r=>B3N i b (B2x r)
def St.sort(σ:St):St:={σ with heap:=B2x σ.heap}
def St.fixSome(σ:St):List Nat→Option St
 | []=>some σ
 |i::r=>match A0b σ.heap i with
  |none=>σ.fixSome r
  |some _=>match σ.fix i with
   |some τ=>τ.fixSome r
   |none=>none
def St.cut(cx:Cx)(lev:Nat)(σ:St)(c:Cut):Option St:=
 let σ1:={σ with env:=keepEnv c.keep 0 σ.env,stk:=keepStk c.stk σ.stk}
 match σ1.ownAll cx c.own with
 |some σ2=>match σ2.fldAll cx c.fown with
  |some σ3=>match σ3.fixSome c.fix with
   |some σ4=>some (σ4.killL (gone lev c.ids σ4.heap)).sort
   |none=>none
  |none=>none
 |none=>none
def B0a(cx:Cx)(c:Cut)(n:Nat)(τ:St):Option St:=match look c.oown n with
 |some l=>τ.ownAll cx l
 |none=>some τ
def B4L(cx:Cx)(lev:Nat)(c:Cut)(K:Ex→St→Option R)(e:Ex)(τ:St):Option R:=
 match e with
 | .normal=>K e τ
 | .exit j=>match c.outs.find? fun q=>Nat.beq q.1 (j+1)with
  |some q=>match B0a cx c (j+1) {τ with env:=keepEnv q.2.1 0 τ.env}with
   |some υ=>K e (υ.killL (gone lev q.2.2 υ.heap)).sort
   |none=>none
  |none=>K e τ
 | .ret=>match c.outs.find? fun q=>Nat.beq q.1 0 with
  |some q=>match B0a cx c 0 {τ with env:=keepEnv q.2.1 0 τ.env}with
   |some υ=>K e (υ.killL (gone lev q.2.2 υ.heap)).sort
   |none=>none
  |none=>K e τ
def B2m(cx:Cx)(lev:Nat)(c:Cut)(rec:St→Option R)(K:Ex→St→Option R)(e:Ex)(τ:St):Option R:=
 match e with
 | .normal=>match τ.cut cx lev c with
  |some υ=>rec υ
  |none=>none
 | .exit j=>B4L cx lev c K (.exit j) τ
 | .ret=>B4L cx lev c K .ret τ
def A9j(cx:Cx)(lev:Nat)(body:St→(Ex→St→Option R)→Option R)(c:Cut)(K:Ex→St→Option R):Nat→St→Option R
 |0,_=>none
 |n+1,σ=>body σ (B2m cx lev c (A9j cx lev body c K n) K)
def B4x(id:Nat)(K:Ex→St→Option R)(e:Ex)(τ:St):Option R:=
 match e with
 | .normal=>K .normal τ
 | .exit j=>cond (Nat.beq j id) (K .normal τ) (K (.exit j) τ)
 | .ret=>K .ret τ
def B5Q(next:St→(Ex→St→Option R)→Option R)(K:Ex→St→Option R)(e:Ex)(τ:St):Option R:=
 match e with
 | .normal=>next τ K
 | .exit j=>K (.exit j) τ
 | .ret=>K .ret τ
def B3S:List Oper→Option Tmp
 | []=>none
 | [o]=>o.dst
 |_::r=>B3S r
def B5t:List Oper→Nat
 | []=>0
 |o::r=>(match o.op with
  | .assign _=>1
  |_=>0)+B5t r
def B4K(cx:Cx)(ops:List Oper):Bool:=cx.mg&&(ops.all fun o=>A0Q o.op)&&(B3S ops).isSome&&Nat.ble (B5t ops) 1
def A9J(t:Nat)(τ:St):Option Bool:=match τ.env.getD t .dead with
 | .pv .bool b=>some b
 |_=>none
def B0v(t:Nat)(ops:List Oper)(σ:St):Bool:=ops.all fun o=>match o.dst with
 |none=>true
 |some u=>Nat.beq u t||(match σ.env.getD u .dead with
  | .dead=>true
  |_=>false)
noncomputable def B5h(cx:Cx)(lev:Nat)(fn:FuncId)(ops:List Oper)(σ:St)(K:St→Option R):Option R:=
 match B3S ops with
 |some t=>cond (B0v t ops σ)
   (cond (ops.any fun o=>o.guard.isSome)
    (A1w (A5k cx (fun _ _ _ _ _ _ _ _=>none) lev fn false ops ops σ (A9J t)) fun b=>K (σ.put (some t) (.pv .bool b)))
    (A5k cx (fun _ _ _ _ _ _ _ _=>none) lev fn false ops ops σ fun τ=>K (σ.put (some t) (τ.env.getD t .dead)))) none
 |none=>none
noncomputable def A0Z(cx:Cx)(call:A1v R)(lev:Nat)(fn:FuncId):Code→St→(Ex→St→Option R)→Option R
 | .skip,σ,K=>K .normal σ
 | .region _ ops draw,σ,K=>cond draw
   (cond (B2e cx ops.toList) (B0B cx lev ops.toList (A0H cx ops.toList) σ (B5e cx lev σ (ops.toList.take (A0H cx ops.toList))) (ops.toList.take (A0H cx ops.toList)) 0 [] σ fun τ=>A5k cx call lev fn false ops.toList (ops.toList.drop (A0H cx ops.toList)) τ (K .normal)) none)
   (cond (B4K cx ops.toList) (B5h cx lev fn ops.toList σ (K .normal)) (A5k cx call lev fn false ops.toList ops.toList σ (K .normal)))
 | .seq a b,σ,K=>A0Z cx call lev fn a σ (B5Q (A0Z cx call lev fn b) K)
 | .cond c a b,σ,K=>match σ.eval c with
  | .pv .bool t=>cond t (A0Z cx call lev fn a (σ.lit c true) K) (A0Z cx call lev fn b (σ.lit c false) K)
  |_=>none
 | .block id (.loop body),σ,K=>match cx.cut fn id with
  |some c=>match σ.cut cx lev c with
   |some τ=>A9j cx lev (A0Z cx call lev fn body) c (B4x id K) cx.fuel τ
   |none=>none
  |none=>none
 | .block id a,σ,K=>A0Z cx call lev fn a σ (B4x id K)
 | .exit id,σ,K=>K (.exit id) σ
 | .ret,σ,K=>K .ret σ
 |_,_,_=>none
def B4h(cx:Cx)(σ:St):ResultVar→Option TV
 | .tmp t=>some (σ.env.getD t .dead)
 | .cell a t=>match cx.ty t with
  |some s=>A1j σ.heap s (σ.env.getD a .dead) some
  |none=>none
def A7Y(cx:Cx)(σ:St):List ResultVar→Option (List TV)
 | []=>some []
 |r::rs=>match B4h cx σ r,A7Y cx σ rs with
  |some v,some vs=>some (v::vs)
  |_,_=>none
def A9u(cx:Cx)(σ:St)(rs:List ResultVar):Option TV:=
 match A7Y cx σ rs with
 |some [v]=>some v
 |some vs=>cond (vs.any TV.isTup) none (some (.tup (chain vs)))
 |none=>none
def A3L(lev:Nat)(ids:List Nat):List Nat:=(ids.filter fun i=>Nat.ble (lev*100000) i).eraseDups
def B1r(h:A0m)(i:Nat):List Nat:=match A0b h i with
 |some (.var _ c)=>c.ids
 |_=>[]
def TV.mv(i j:Nat):TV→TV
 | .pr a b=> .pr (a.mv i j) (b.mv i j)
 | .ptr k t p=> .ptr (cond (Nat.beq k i) j k) t p
 | .sl k e=> .sl (cond (Nat.beq k i) j k) e
 | .inn k p e=> .inn (cond (Nat.beq k i) j k) p e
 | .vw k t p e lo hi=> .vw (cond (Nat.beq k i) j k) t p e lo hi
 | .fn f c=> .fn f (c.mv i j)
 | .tup c=> .tup (c.mv i j)
 |v=>v
def Blk.mv(i j:Nat):Blk→Blk
 | .var t c=> .var t (c.mv i j)
 |b=>b
def mvH(i j:Nat):A0m→A0m
 | []=>[]
 |(k,b)::r=>(cond (Nat.beq k i) j k,b.mv i j)::mvH i j r
def A9k:List Nat→Nat→TV→St→(TV→St→Option R)→Option R
 | [],_,v,σ,K=>K v σ
 |i::r,j,v,σ,K=>cond (Nat.beq i j) (A9k r (j+1) v σ K)
   (cond (Nat.beq i PIN||Nat.beq j PIN) none (let τ:=σ.kill j
    A9k r (j+1) ((v.kill j).mv i j) {τ with heap:=mvH i j τ.heap} K))
def B4o(σ:St)(v:TV):Option (Nat×Blk×TV):=
 match v with
 | .vw i rt [] e lo hi=>match A0b σ.heap i with
  |some (.arr E e2 xs)=>cond (decide (rt= .slice e)&&Nat.beq lo 0&&decide (e2=e)&& !Nat.beq i PIN) (some (i,.arr E e2 (xs.take hi),.sl i e2)) none
  |_=>none
 |_=>none
def A8k(σ:St)(v:TV)(K:TV→St→Option R):Option R:=
 match B4o σ v with
 |some (i,b,u)=>K u (σ.add i b)
 |none=>K v σ
def B1J(lev:Nat)(h:A0m):List Nat:=h.flatMap fun q=>cond (Nat.blt q.1 (lev*100000)) q.2.ids []
def B5i(cx:Cx)(i:Inl)(d:Option Tmp)(lev:Nat)(τ:St)(K:TV→St→Option R):Option R:=
 match A9u cx τ i.results with
 |none=>none
 |some v=>A8k τ v fun v τ=>match τ.stk with
  | []=>none
  |env::stk=>
   let k1:=A3L (lev+1) v.ids
   let k2:=A3L (lev+1) (k1++k1.flatMap (B1r τ.heap)++B1J (lev+1) τ.heap)
   A9k k2 (A0R lev d) v (({τ with env:=env,stk:=stk}:St).killL (gone (lev+1) k2 τ.heap)) K
def B4P(cx:Cx)(i:Inl)(d:Option Tmp)(lev:Nat)(K:TV→St→Option R)(e:Ex)(τ:St):Option R:=
 match e with
 | .exit _=>none
 | .normal| .ret=>B5i cx i d lev τ K
def B5K(c:Nat)(f:FuncId)(d:Option Tmp):Nat:=(c*10000+d.getD 0)*10000+f
noncomputable def A7s(cx:Cx):Nat→A1v R
 |0=>fun _ _ _ _ _ _ _ _=>none
 |n+1=>fun lev fn draw f args d σ K=>match cx.con f with
  |some c=>B2M c draw σ (A0R lev d) args K
  |none=>match cx.tak f with
  |some c=>B3n c draw σ (A0R lev d) args K
  |none=>match cx.inp f with
  |some c=>B3M c draw σ (A0R lev d) args K
  |none=>match draw,cx.inl f with
   |false,some i=>
    A0Z cx (A7s cx n) (lev+1) (B5K fn f d) i.code {env:=args++List.replicate (i.ntmps-args.length) .dead,stk:=σ.env::σ.stk,heap:=σ.heap} (B4P cx i d lev K)
   |_,_=>none
def A1n(h:A0m):TV→(s:Sh)→Option s.den
 |tv,.pl t=>A0w h tv t
 | .nilsl,.own _ _=>some []
 | .nilsl,.tre _ _=>some []
 | .inn i [] _,.tre E s=>match A0b h i with
   |some (.tre E' s' xs)=>if q:s'=s then(if E'=E then some (q▸xs)else none)else none
   |_=>none
 | .sl i e',.own E e=>match A0b h i with
   |some (.arr E' e2 xs)=>if q:e2=e then(if e'=e∧E'=E then some (q▸xs)else none)else none
   |_=>none
 | .pr x y,.pr a b=>match A1n h x a,A1n h y b with
   |some u,some v=>some (u,v)
   |_,_=>none
 |_,_=>none
def A2e(h:A0m):TV→(l:List Sh)→Option (A2K l)
 | .pv .unit _,[]=>some ()
 | .pr a (.pv .unit _),[s]=>A1n h a s
 | .pr a b,s::t::r=>match A1n h a s,A2e h b (t::r)with
  |some x,some y=>some (x,y)
  |_,_=>none
 |_,_=>none
inductive Slt where
 |id (i:Nat)
 |arr
 |tre
def Sh.slots:Sh→TV→List Slt
 | .pl _,_=>[]
 | .own _ _,.sl i _=>[.id i]
 | .own _ _,_=>[.arr]
 | .tre _ _,.inn i _ _=>[.id i]
 | .tre _ _,_=>[.tre]
 | .pr a b,.pr x y=>a.slots x++b.slots y
 | .pr a b,_=>List.replicate (a.cnt+b.cnt) .arr
def Sh.lent:Sh→TV→List Nat
 | .pl _,v=>v.ids
 | .own _ _,_=>[]
 | .tre _ _,_=>[]
 | .pr a b,.pr x y=>a.lent x++b.lent y
 | .pr _ _,_=>[]
def A3B:List Sh→List TV→List Slt
 |s::l,v::r=>s.slots v++A3B l r
 |_,_=>[]
def A4Q:List Sh→List TV→List Nat
 |s::l,v::r=>s.lent v++A4Q l r
 |_,_=>[]
def B3Q(i:Nat):Slt→Bool
 | .id j=>Nat.beq i j
 |_=>false
def A2O:List Slt→Bool
 | []=>true
 | .id i::r=> !(r.any (B3Q i))&&A2O r
 |_::r=>A2O r
def B0E(sl:List Slt)(le:List Nat):Bool:=A2O sl&&le.all fun i=> !(sl.any (B3Q i))
def A4r(h:A0m)(tv:TV):(l:List Sh)→Option (A2K l)
 | [s]=>cond (B0E (s.slots tv) (s.lent tv)) (A1n h tv s) none
 | []=>match tv with
  | .tup c=>A2e h c []
  |_=>none
 |s::t::r=>match tv with
  | .tup c=>cond (B0E (A3B (s::t::r) c.list) (A4Q (s::t::r) c.list)) (A2e h c (s::t::r)) none
  |_=>none
def B4C(cx:Cx)(i:Inl)(sh:List Sh)(e:Ex)(τ:St):Option (A2K sh):=
 match e with
 | .exit _=>none
 | .normal| .ret=>match A9u cx τ i.results with
  |some v=>A8k τ v fun v τ=>A4r τ.heap v sh
  |none=>none
noncomputable def fnK(cx:Cx)(depth:Nat)(f:FuncId)(i:Inl)(sh:List Sh)(args:List TV):Option (A2K sh):=
 A0Z cx (A7s cx depth) 0 f i.code {env:=args++List.replicate (i.ntmps-args.length) .dead,stk:=[],heap:=[]} (B4C cx i sh)
def B2f(cx:Cx)(i:Inl)(k:BK)(sh:List Sh)(e:Ex)(τ:St):Option (k.den×A2K sh):=
 match e with
 | .exit _=>none
 | .normal| .ret=>match A9u cx τ i.results with
  |some v=>match A1O τ.heap k (k.tv PIN),A4r (A2d τ.heap PIN) v sh with
   |some (_,_,x),some y=>some (x,y)
   |_,_=>none
  |none=>none
noncomputable def B5L(cx:Cx)(depth:Nat)(f:FuncId)(i:Inl)(k:BK)(sh:List Sh)(x:k.den)(args:List TV):Option (k.den×A2K sh):=
 A0Z cx (A7s cx depth) 0 f i.code {env:=(k.tv PIN::args)++List.replicate (i.ntmps-(k.tv PIN::args).length) .dead,stk:=[],heap:=[(PIN,k.blk x)]} (B2f cx i k sh)
def TID:Nat:=8
def B2g(cx:Cx)(i:Inl)(E:TypeId)(e:Ty)(ex:Ex)(τ:St):Option (List e.den):=
 match ex with
 | .exit _=>none
 | .normal| .ret=>match A9u cx τ i.results with
  |some v=>A8k τ v fun v τ=>match v with
   | .sl j e'=>match A0b τ.heap j with
    |some (.arr E2 e2 xs)=>if q:e2=e then(if e'=e∧E2=E then some (q▸xs)else none)else none
    |_=>none
   |_=>none
  |none=>none
noncomputable def B5M(cx:Cx)(depth:Nat)(f:FuncId)(i:Inl)(E:TypeId)(e:Ty)(xs:List e.den)(args:List TV):Option (List e.den):=
 A0Z cx (A7s cx depth) 0 f i.code {env:=(.sl TID e::args)++List.replicate (i.ntmps-(TV.sl TID e::args).length) .dead,stk:=[],heap:=[(TID,.arr E e xs)]} (B2g cx i E e)
def sub:Code→List Nat→Code
 |c,[]=>c
 | .seq a _,0::p=>sub a p
 | .seq _ b,1::p=>sub b p
 | .cond _ a _,0::p=>sub a p
 | .cond _ _ b,1::p=>sub b p
 | .block _ a,0::p=>sub a p
 | .loop a,0::p=>sub a p
 |_,_=> .skip
end Go.Ai
/- When a slot,a block,a state of the abstract machine stand for what the model holds. -/
namespace Go.Ai
open Go.RowKit
inductive Own where
 |var (b:Nat)
 |arr (v:Value)
 |tre (sk:List Sel→Option Value) (L:List Nat)
def Own.base:Own→Option Nat
 | .var b=>some b
 | .arr v=>v.ownBlock
 | .tre sk _=>(sk []).bind Value.ownBlock
def Own.okp:Own→List Sel→Prop
 | .var _,_=>True
 | .arr (.slice _ n _),.idx k::_=>k<n
 | .tre sk _,.idx k::_=>∃a n c,sk []=some (.slice a n c)∧k<n
 |_,_=>False
def Own.vw(o:Own)(rt:Ty)(p:List Sel)(e:Ty)(lo hi:Nat)(v:Value):Prop:=
 lo≤hi∧∃ad cap,v= .slice ad (hi-lo) cap∧hi-lo≤cap∧cap≤maxLen∧(match o with
  | .var b=>∃off n,rt.rat p=some (off,.arr n e)∧hi≤n∧(hi=lo∨ad=some ⟨b,off+lo*e.size,none⟩)
  | .arr u=>p=[]∧rt= .slice e∧∃ad0 len cap0,u= .slice ad0 len cap0∧hi≤len∧(hi=lo∨∃g,ad0=some ⟨g,0,none⟩∧ad=some ⟨g,lo*e.size,none⟩)∧(lo=0→ad=ad0∧cap=cap0)
  | .tre _ _=>False)
theorem Own.vw_one{o:Own}{rt:Ty}{p:List Sel}{e:Ty}{lo hi:Nat}{v:Value}(h:o.vw rt p e lo hi v):v.oneCell'=true:=by
 obtain⟨_,ad,cap,rfl,_⟩:=h; rfl
def TV.isAgg:TV→Bool
 | .pv t _=>t.isAgg
 | .pr _ _=>true
 |_=>false
def A0i(agg:Bool)(v:Value)(cs:List Value):Prop:=if agg then v= .agg cs.toArray else cs=[v]
def RV(w:World)(X:Nat→Prop)(θ:Nat→Option Own):Bool→TV→List Value→Prop
 |false,.pv t x,cs=>Rep w X t cs x
 |false,.pr a b,cs=>∃c1 c2,cs=c1++c2∧RV w X θ false a c1∧RV w X θ false b c2
 |false,.ptr i t p,cs=>∃o b off s,θ i=some o∧o.base=some b∧t.rat p=some (off,s)∧o.okp p∧cs=[.pointer (some ⟨b,off,none⟩)]
 |false,.sl i _,cs=>∃v,θ i=some (.arr v)∧cs=[v]∧v.oneCell'=true
 |false,.inn i p _,cs=>∃sk L v,θ i=some (.tre sk L)∧sk p=some v∧cs=[v]∧v.oneCell'=true
 |false,.vw i rt p e lo hi,cs=>∃o v,θ i=some o∧o.vw rt p e lo hi v∧cs=[v]
 |false,.clp e xs,cs=>∃a len ds,cs=[.slice a len len]∧len=xs.length∧len≤maxLen∧A0l (Rep w X e) ds xs∧
   (ds=[]∨∃b o,a=some ⟨b,o,none⟩∧w.rangeAt b o ds∧¬X b)
 |false,.nilsl,cs=>cs=[.slice none 0 0]
 |false,.fn f c,cs=>∃vs,cs=[.func (.func f) #[] vs.toArray]∧RV w X θ true c vs
 |false,.bad,cs=>∃v,cs=[v]∧v.oneCell'=true
 |false,_,_=>False
 |true,.pr a b,vs=>∃v r,vs=v::r∧(match a with
   | .dead=>True
   | .und=>v=undef
   |a=>∃cs,A0i a.isAgg v cs∧RV w X θ false a cs)∧RV w X θ true b r
 |true,.pv .unit _,vs=>vs=[]
 |true,_,_=>False
theorem B3D{w:World}{X X':Nat→Prop}{θ:Nat→Option Own}{f g:FuncId}{c:TV}{x:Unit}{cs:List Value}(h:B4D f c g=some x)(hr:RV w X θ false (.fn f c) cs):Rep w X' (.fnc g) cs x:=by
 obtain⟨h1,h2⟩:=A8W h
 subst h1; subst h2
 obtain⟨vs,k1,k2⟩:=hr
 have k2':vs=[]:=k2
 subst k2'
 exact k1
def A0g(w:World)(X:Nat→Prop)(θ:Nat→Option Own)(tv:TV)(v:Value):Prop:=
 match tv with
 | .dead=>True
 | .und=>v=undef
 | .tup c=>∃vs,v= .tuple vs.toArray∧RV w X θ true c vs
 |tv=>∃cs,A0i tv.isAgg v cs∧RV w X θ false tv cs
end Go.Ai
namespace Go.Ai
open Go.RowKit
structure A1G (X X':Nat→Prop) (w w':World):Prop where
 z:∃Z:Nat→Prop,A0h Z w w'∧∀b,b<w.heap.size→Z b→X b
 x:∀b,b<w.heap.size→X' b→X b
theorem A1G.same(X:Nat→Prop)(w:World):A1G X X w w:=⟨⟨fun _=>False,A0h.refl _ w,fun _ _ h=>h.elim⟩,fun _ _ h=>h⟩
theorem A1G.rep{X X':Nat→Prop}{w w':World}(h:A1G X X' w w')(t:Ty)(cs:List Value)(x:t.den)(hr:Rep w X t cs x):Rep w' X' t cs x:=by
 obtain⟨⟨Z,hk,hZ⟩,hx⟩:=h
 let X1:Nat→Prop:=fun b=>X b∨w.heap.size≤b
 have h1:Rep w X1 t cs x:=Rep.avoid (X:=X) (fun b hb h=>h.elim id (fun h=>absurd h (by omega))) t cs x hr
 have h2:Rep w' X1 t cs x:=Rep.keeps (X:=Z) (Y:=X1) hk (fun b hb hz=> .inl (hZ b hb hz)) t cs x h1
 refine Rep.avoid (X:=X1) (fun b hb h=> ?_) t cs x h2
 by_cases hlt:b<w.heap.size
 ·exact .inl (hx b hlt h)
 ·exact .inr (by omega)
theorem A1G.range{X X':Nat→Prop}{w w':World}(h:A1G X X' w w'){b o:Nat}{ds:List Value}(hr:w.rangeAt b o ds)(hne:ds≠ [])(hb:¬X b):w'.rangeAt b o ds∧¬X' b:=by
 obtain⟨⟨Z,hk,hZ⟩,hx⟩:=h
 have hlt:=A2p hr hne
 exact⟨A2X hr hk (fun hz=>hb (hZ b hlt hz)),fun h'=>hb (hx b hlt h')⟩
theorem A1G.size{X X':Nat→Prop}{w w':World}(h:A1G X X' w w'):w.heap.size≤w'.heap.size:=by obtain⟨⟨Z,hk,_⟩,_⟩:=h; exact hk.size
theorem A1G.trans{X X' X'':Nat→Prop}{w w' w'':World}(h:A1G X X' w w')(k:A1G X' X'' w' w'')(hsub:∀b,b<w.heap.size→X' b→X b):A1G X X'' w w'':=by
 have hs:=h.size
 obtain⟨⟨Z,hk,hZ⟩,hx⟩:=h
 obtain⟨⟨Z',hk',hZ'⟩,hx'⟩:=k
 refine⟨⟨fun b=>b<w.heap.size∧(Z b∨Z' b)∨w.heap.size≤b,?_,?_⟩,fun b hb h=>hx b hb (hx' b (by omega) h)⟩
 ·refine ⟨hk'.os.trans hk.os,hk'.tape.trans hk.tape,hk'.output.trans hk.output,Nat.le_trans hk.drawn hk'.drawn,Nat.le_trans hk.size hk'.size,fun b hb hn=> ?_⟩
  have hz:¬Z b:=fun h=>hn (.inl ⟨hb,.inl h⟩)
  have hz':¬Z' b:=fun h=>hn (.inl ⟨hb,.inr h⟩)
  exact(hk'.block b (by omega) hz').trans (hk.block b hb hz)
 ·rintro b hb (⟨_,h|h⟩|h)
  ·exact hZ b hb h
  ·exact hsub b hb (hZ' b (by omega) h)
  ·omega
theorem RV.step{X X':Nat→Prop}{w w':World}(h:A1G X X' w w'){θ θ':Nat→Option Own}:(m:Bool)→(tv:TV)→(cs:List Value)→(∀ i,i∈tv.ids→θ' i=θ i)→RV w X θ m tv cs→RV w' X' θ' m tv cs
 |false,.pv t x,cs,_,hr=>h.rep t cs x hr
 |false,.pr a b,cs,hi,⟨c1,c2,h0,h1,h2⟩=>
  ⟨c1,c2,h0,RV.step h false a c1 (fun i q=>hi i (by simp[TV.ids,q])) h1,RV.step h false b c2 (fun i q=>hi i (by simp[TV.ids,q])) h2⟩
 |false,.ptr i t p,cs,hi,⟨o,b,off,s,h1,h2⟩=>⟨o,b,off,s,(hi i (by simp[TV.ids])).trans h1,h2⟩
 |false,.sl i e,cs,hi,⟨v,h1,h2⟩=>⟨v,(hi i (by simp[TV.ids])).trans h1,h2⟩
 |false,.inn i p e,cs,hi,⟨sk,L,v,h1,h2⟩=>⟨sk,L,v,(hi i (by simp[TV.ids])).trans h1,h2⟩
 |false,.vw i rt p e lo hi,cs,hi',⟨o,v,h1,h2⟩=>⟨o,v,(hi' i (by simp[TV.ids])).trans h1,h2⟩
 |false,.clp e xs,cs,_,⟨a,len,ds,h1,h2,h3,h4,h5⟩=>by
  refine⟨a,len,ds,h1,h2,h3,A0o (fun c x hx=>h.rep e c x hx) h4,?_⟩
  by_cases hd:ds=[]
  ·exact .inl hd
  ·rcases h5 with h5|⟨b,o,ha,hr,hx⟩
   ·exact .inl h5
   ·obtain ⟨q1,q2⟩:=h.range hr hd hx
    exact .inr ⟨b,o,ha,q1,q2⟩
 |false,.nilsl,cs,_,hr=>hr
 |false,.fn f c,cs,hi,⟨vs,h1,h2⟩=>⟨vs,h1,RV.step h true c vs (fun i q=>hi i (by simp[TV.ids,q])) h2⟩
 |false,.bad,cs,_,hr=>hr
 |false,.tup _,_,_,hr=>by simp[RV]at hr
 |false,.und,_,_,hr=>by simp[RV]at hr
 |false,.dead,_,_,hr=>by simp[RV]at hr
 |true,.pr a b,vs,hi,hr=>by
  have ha:∀i,i∈a.ids→θ' i=θ i:=fun i q=>hi i (by simp[TV.ids,q])
  have go:∀cs,RV w X θ false a cs→RV w' X' θ' false a cs:=fun cs=>RV.step h false a cs ha
  have gb:∀r,RV w X θ true b r→RV w' X' θ' true b r:=fun r=>RV.step h true b r (fun i q=>hi i (by simp[TV.ids,q]))
  cases a<;>simp only[RV]at hr⊢ <;>obtain⟨v,r,h0,h1,h2⟩:=hr<;>first
   |exact⟨v,r,h0,trivial,gb r h2⟩
   |exact⟨v,r,h0,h1,gb r h2⟩
   |(obtain ⟨cs,k1,k2⟩:=h1; exact⟨v,r,h0,⟨cs,k1,go cs k2⟩,gb r h2⟩)
 |true,.pv .unit _,vs,_,hr=>hr
 |true,.pv (.int _) _,_,_,hr=>by simp[RV]at hr
 |true,.pv .bool _,_,_,hr=>by simp[RV]at hr
 |true,.pv .str _,_,_,hr=>by simp[RV]at hr
 |true,.pv (.slice _) _,_,_,hr=>by simp[RV]at hr
 |true,.pv (.arr _ _) _,_,_,hr=>by simp[RV]at hr
 |true,.pv (.pair _ _) _,_,_,hr=>by simp[RV]at hr
 |true,.pv (.ref _) _,_,_,hr=>by simp[RV]at hr
 |true,.pv (.opt _) _,_,_,hr=>by simp[RV]at hr
 |true,.pv (.fnc _) _,_,_,hr=>by simp[RV]at hr
 |true,.ptr ..,_,_,hr=>by simp[RV]at hr
 |true,.sl ..,_,_,hr=>by simp[RV]at hr
 |true,.inn ..,_,_,hr=>by simp[RV]at hr
 |true,.vw ..,_,_,hr=>by simp[RV]at hr
 |true,.clp ..,_,_,hr=>by simp[RV]at hr
 |true,.nilsl,_,_,hr=>by simp[RV]at hr
 |true,.fn ..,_,_,hr=>by simp[RV]at hr
 |true,.tup _,_,_,hr=>by simp[RV]at hr
 |true,.bad,_,_,hr=>by simp[RV]at hr
 |true,.und,_,_,hr=>by simp[RV]at hr
 |true,.dead,_,_,hr=>by simp[RV]at hr
theorem A0g.step{X X':Nat→Prop}{w w':World}(h:A1G X X' w w'){θ θ':Nat→Option Own}(tv:TV)(v:Value)(hi:∀i,i∈tv.ids→θ' i=θ i)(hr:A0g w X θ tv v):A0g w' X' θ' tv v:=by
 have go:∀m cs,RV w X θ m tv cs→RV w' X' θ' m tv cs:=fun m cs=>RV.step h m tv cs hi
 cases tv with
 |dead=>trivial
 |und=>exact hr
 |tup c=>obtain⟨vs,k1,k2⟩:=hr; exact⟨vs,k1,RV.step h true c vs hi k2⟩
 |_=>obtain⟨cs,k1,k2⟩:=hr; exact⟨cs,k1,go false cs k2⟩
end Go.Ai
/- What each step of the abstract machine's state asks of the model's memory. -/
namespace Go.Ai
open Go.RowKit
theorem A0j{a b:Nat}:Nat.beq a b=true↔a=b:=⟨Nat.eq_of_beq_eq_true,fun h=>h▸Nat.beq_refl a⟩
theorem A0c{a b:Nat}(h:a≠b):Nat.beq a b=false:=by
 cases hb:Nat.beq a b with
 |false=>rfl
 |true=>exact absurd (A0j.1 hb) h
theorem TV.isAgg_kill(i:Nat)(tv:TV):(tv.kill i).isAgg=tv.isAgg:=by
 cases tv<;>simp only[TV.kill,TV.isAgg]<;>cases Nat.beq _ i<;>rfl
theorem TV.isAgg_fix(i:Nat)(e:Ty)(xs:List e.den)(tv:TV):(tv.fix i e xs).isAgg=tv.isAgg:=by
 cases tv with
 |ptr j t p=>simp only[TV.fix]; cases Nat.beq j i<;>rfl
 |sl j s=>simp only[TV.fix]; cases Nat.beq j i<;>cases decide (s=e)<;>rfl
 |inn j p s=>simp only[TV.fix]; cases Nat.beq j i<;>cases(p.isEmpty&&decide (s=e))<;>rfl
 |vw j rt p s lo hi=>simp only[TV.fix]; cases Nat.beq j i<;>rfl
 |_=>rfl
theorem RV.kill{w:World}{X:Nat→Prop}{θ θ':Nat→Option Own}{i:Nat}(hθ:∀j,j≠i→θ' j=θ j):(m:Bool)→(tv:TV)→(cs:List Value)→RV w X θ m tv cs→RV w X θ' m (tv.kill i) cs
 |false,.pv _ _,_,hr=>hr
 |false,.pr a b,cs,⟨c1,c2,h0,h1,h2⟩=>⟨c1,c2,h0,RV.kill hθ false a c1 h1,RV.kill hθ false b c2 h2⟩
 |false,.ptr j t p,cs,hr=>by
  by_cases e:j=i
  ·obtain ⟨o,b,off,s,h1,h2,h3,h4,h5⟩:=hr
   simp only[TV.kill,A0j.2 e,cond]
   exact⟨_,h5,rfl⟩
  ·simp only[TV.kill,A0c e,cond]
   obtain⟨o,b,off,s,h1,h2⟩:=hr
   exact⟨o,b,off,s,(hθ j e).trans h1,h2⟩
 |false,.sl j s,cs,hr=>by
  obtain⟨v,h1,h2,h3⟩:=hr
  by_cases e:j=i
  ·simp only[TV.kill,A0j.2 e,cond]; exact⟨v,h2,h3⟩
  ·simp only[TV.kill,A0c e,cond]; exact⟨v,(hθ j e).trans h1,h2,h3⟩
 |false,.inn j p s,cs,hr=>by
  obtain⟨sk,L,v,h1,h2,h3,h4⟩:=hr
  by_cases e:j=i
  ·simp only[TV.kill,A0j.2 e,cond]; exact⟨v,h3,h4⟩
  ·simp only[TV.kill,A0c e,cond]; exact⟨sk,L,v,(hθ j e).trans h1,h2,h3,h4⟩
 |false,.vw j rt p s lo hi,cs,hr=>by
  obtain⟨o,v,h1,h2,h3⟩:=hr
  by_cases e:j=i
  ·simp only[TV.kill,A0j.2 e,cond]; exact⟨v,h3,Own.vw_one h2⟩
  ·simp only[TV.kill,A0c e,cond]; exact⟨o,v,(hθ j e).trans h1,h2,h3⟩
 |false,.clp _ _,_,hr=>hr
 |false,.nilsl,_,hr=>hr
 |false,.fn f c,cs,⟨vs,h1,h2⟩=>⟨vs,h1,RV.kill hθ true c vs h2⟩
 |false,.bad,_,hr=>hr
 |false,.tup _,_,hr=>by simp[RV]at hr
 |false,.und,_,hr=>by simp[RV]at hr
 |false,.dead,_,hr=>by simp[RV]at hr
 |true,.pr a b,vs,hr=>by
  have go:∀cs,RV w X θ false a cs→RV w X θ' false (a.kill i) cs:=fun cs=>RV.kill hθ false a cs
  have gb:∀r,RV w X θ true b r→RV w X θ' true (b.kill i) r:=fun r=>RV.kill hθ true b r
  have ga:=TV.isAgg_kill i a
  cases a with
  |dead=>simp only[RV,TV.kill]at hr ⊢; obtain⟨v,r,h0,h1,h2⟩:=hr; exact⟨v,r,h0,trivial,gb r h2⟩
  |und=>simp only[RV,TV.kill]at hr ⊢; obtain⟨v,r,h0,h1,h2⟩:=hr; exact⟨v,r,h0,h1,gb r h2⟩
  |ptr j t p=>
   have hr':∃v r,vs=v::r∧(∃ cs,A0i false v cs∧RV w X θ false (.ptr j t p) cs)∧RV w X θ true b r:=hr
   obtain⟨v,r,h0,⟨cs,k1,k2⟩,h2⟩:=hr'
   have k3:=go cs k2
   by_cases e:j=i
   ·simp only[TV.kill,A0j.2 e,cond]at k3 ⊢; simp only[RV]; exact⟨v,r,h0,⟨cs,k1,k3⟩,gb r h2⟩
   ·simp only[TV.kill,A0c e,cond]at k3 ⊢; simp only[RV]; exact⟨v,r,h0,⟨cs,k1,k3⟩,gb r h2⟩
  |sl j s=>
   have hr':∃v r,vs=v::r∧(∃ cs,A0i false v cs∧RV w X θ false (.sl j s) cs)∧RV w X θ true b r:=hr
   obtain⟨v,r,h0,⟨cs,k1,k2⟩,h2⟩:=hr'
   have k3:=go cs k2
   by_cases e:j=i
   ·simp only[TV.kill,A0j.2 e,cond]at k3 ⊢; simp only[RV]; exact⟨v,r,h0,⟨cs,k1,k3⟩,gb r h2⟩
   ·simp only[TV.kill,A0c e,cond]at k3 ⊢; simp only[RV]; exact⟨v,r,h0,⟨cs,k1,k3⟩,gb r h2⟩
  |inn j p s=>
   have hr':∃v r,vs=v::r∧(∃ cs,A0i false v cs∧RV w X θ false (.inn j p s) cs)∧RV w X θ true b r:=hr
   obtain⟨v,r,h0,⟨cs,k1,k2⟩,h2⟩:=hr'
   have k3:=go cs k2
   by_cases e:j=i
   ·simp only[TV.kill,A0j.2 e,cond]at k3 ⊢; simp only[RV]; exact⟨v,r,h0,⟨cs,k1,k3⟩,gb r h2⟩
   ·simp only[TV.kill,A0c e,cond]at k3 ⊢; simp only[RV]; exact⟨v,r,h0,⟨cs,k1,k3⟩,gb r h2⟩
  |vw j rt p s lo hi=>
   have hr':∃v r,vs=v::r∧(∃ cs,A0i false v cs∧RV w X θ false (.vw j rt p s lo hi) cs)∧RV w X θ true b r:=hr
   obtain⟨v,r,h0,⟨cs,k1,k2⟩,h2⟩:=hr'
   have k3:=go cs k2
   by_cases e:j=i
   ·simp only[TV.kill,A0j.2 e,cond]at k3 ⊢; simp only[RV]; exact⟨v,r,h0,⟨cs,k1,k3⟩,gb r h2⟩
   ·simp only[TV.kill,A0c e,cond]at k3 ⊢; simp only[RV]; exact⟨v,r,h0,⟨cs,k1,k3⟩,gb r h2⟩
  |_=>simp only[RV,TV.kill]at hr ⊢; obtain⟨v,r,h0,⟨cs,k1,k2⟩,h2⟩:=hr; exact⟨v,r,h0,⟨cs,k1,go cs k2⟩,gb r h2⟩
 |true,.pv .unit _,vs,hr=>hr
 |true,.pv (.int _) _,_,hr=>by simp[RV]at hr
 |true,.pv .bool _,_,hr=>by simp[RV]at hr
 |true,.pv .str _,_,hr=>by simp[RV]at hr
 |true,.pv (.slice _) _,_,hr=>by simp[RV]at hr
 |true,.pv (.arr _ _) _,_,hr=>by simp[RV]at hr
 |true,.pv (.pair _ _) _,_,hr=>by simp[RV]at hr
 |true,.pv (.ref _) _,_,hr=>by simp[RV]at hr
 |true,.pv (.opt _) _,_,hr=>by simp[RV]at hr
 |true,.pv (.fnc _) _,_,hr=>by simp[RV]at hr
 |true,.ptr ..,_,hr=>by simp[RV]at hr
 |true,.sl ..,_,hr=>by simp[RV]at hr
 |true,.vw ..,_,hr=>by simp[RV]at hr
 |true,.clp ..,_,hr=>by simp[RV]at hr
 |true,.nilsl,_,hr=>by simp[RV]at hr
 |true,.fn ..,_,hr=>by simp[RV]at hr
 |true,.tup _,_,hr=>by simp[RV]at hr
 |true,.bad,_,hr=>by simp[RV]at hr
 |true,.und,_,hr=>by simp[RV]at hr
 |true,.dead,_,hr=>by simp[RV]at hr
theorem A0g.kill{w:World}{X:Nat→Prop}{θ θ':Nat→Option Own}{i:Nat}(hθ:∀j,j≠i→θ' j=θ j)(tv:TV)(v:Value)(hr:A0g w X θ tv v):A0g w X θ' (tv.kill i) v:=by
 have go:∀cs,RV w X θ false tv cs→RV w X θ' false (tv.kill i) cs:=fun cs=>RV.kill hθ false tv cs
 cases tv with
 |dead=>trivial
 |und=>exact hr
 |tup c=>obtain⟨vs,k1,k2⟩:=hr; exact⟨vs,k1,RV.kill hθ true c vs k2⟩
 |ptr j t p=>
  obtain⟨cs,k1,k2⟩:=hr
  have k3:=go cs k2
  by_cases e:j=i
  ·simp only[TV.kill,A0j.2 e,cond]at k3 ⊢; exact⟨cs,k1,k3⟩
  ·simp only[TV.kill,A0c e,cond]at k3 ⊢; exact⟨cs,k1,k3⟩
 |sl j s=>
  obtain⟨cs,k1,k2⟩:=hr
  have k3:=go cs k2
  by_cases e:j=i
  ·simp only[TV.kill,A0j.2 e,cond]at k3 ⊢; exact⟨cs,k1,k3⟩
  ·simp only[TV.kill,A0c e,cond]at k3 ⊢; exact⟨cs,k1,k3⟩
 |inn j p s=>
  obtain⟨cs,k1,k2⟩:=hr
  have k3:=go cs k2
  by_cases e:j=i
  ·simp only[TV.kill,A0j.2 e,cond]at k3 ⊢; exact⟨cs,k1,k3⟩
  ·simp only[TV.kill,A0c e,cond]at k3 ⊢; exact⟨cs,k1,k3⟩
 |vw j rt p s lo hi=>
  obtain⟨cs,k1,k2⟩:=hr
  have k3:=go cs k2
  by_cases e:j=i
  ·simp only[TV.kill,A0j.2 e,cond]at k3 ⊢; exact⟨cs,k1,k3⟩
  ·simp only[TV.kill,A0c e,cond]at k3 ⊢; exact⟨cs,k1,k3⟩
 |_=>obtain⟨cs,k1,k2⟩:=hr; exact⟨cs,k1,go cs k2⟩
theorem TV.fits_kill(i:Nat):(tv:TV)→(t:Ty)→tv.fits t=true→(tv.kill i).fits t=true
 | .pv _ _,_,h=>h
 | .pr a b,.pair s t,h=>by
  simp only[TV.fits,Bool.and_eq_true]at h
  simp[TV.kill,TV.fits,TV.fits_kill i a s h.1,TV.fits_kill i b t h.2]
 | .ptr j t p,.opt e,_=>by simp only[TV.kill]; cases Nat.beq j i<;>rfl
 | .sl j e,.slice s,h=>by simp only[TV.kill]; cases Nat.beq j i; exact h; rfl
 | .inn j p e,.slice s,h=>by simp only[TV.kill]; cases Nat.beq j i; exact h; rfl
 | .vw j rt p e lo hi,.slice s,h=>by simp only[TV.kill]; cases Nat.beq j i; exact h; rfl
 | .fn ..,.opt _,_=>rfl
 | .clp ..,_,h=>h
 | .nilsl,_,h=>h
 | .bad,_,h=>h
 | .und,_,h=>h
 | .dead,_,h=>h
 | .tup _,t,h=>by cases t<;>simp[TV.fits]at h
 | .pr _ _,.int _,h| .pr _ _,.bool,h| .pr _ _,.str,h| .pr _ _,.slice _,h| .pr _ _,.arr _ _,h| .pr _ _,.unit,h| .pr _ _,.ref _,h| .pr _ _,.opt _,h| .pr _ _,.fnc _,h=>by simp[TV.fits]at h
 | .ptr ..,.int _,h| .ptr ..,.bool,h| .ptr ..,.str,h| .ptr ..,.slice _,h| .ptr ..,.arr _ _,h| .ptr ..,.unit,h| .ptr ..,.ref _,h| .ptr ..,.pair _ _,h=>by simp[TV.fits]at h
 | .sl ..,.int _,h| .sl ..,.bool,h| .sl ..,.str,h| .sl ..,.opt _,h| .sl ..,.arr _ _,h| .sl ..,.unit,h| .sl ..,.ref _,h| .sl ..,.pair _ _,h| .sl ..,.fnc _,h=>by simp[TV.fits]at h
 | .inn j (.fld n::p) s,.opt _,h=>by simp only[TV.kill]; cases Nat.beq j i<;>rfl
 | .inn _ [] _,.opt _,h| .inn _ (.idx _::_) _,.opt _,h=>by simp[TV.fits]at h
 | .inn ..,.int _,h| .inn ..,.bool,h| .inn ..,.str,h| .inn ..,.arr _ _,h| .inn ..,.unit,h| .inn ..,.ref _,h| .inn ..,.pair _ _,h| .inn ..,.fnc _,h=>by simp[TV.fits]at h
 | .vw ..,.int _,h| .vw ..,.bool,h| .vw ..,.str,h| .vw ..,.opt _,h| .vw ..,.arr _ _,h| .vw ..,.unit,h| .vw ..,.ref _,h| .vw ..,.pair _ _,h| .vw ..,.fnc _,h=>by simp[TV.fits]at h
 | .fn ..,.int _,h| .fn ..,.bool,h| .fn ..,.str,h| .fn ..,.slice _,h| .fn ..,.arr _ _,h| .fn ..,.unit,h| .fn ..,.ref _,h| .fn ..,.pair _ _,h=>by simp[TV.fits]at h
theorem A1a(h:A0m)(i j:Nat):A0b (A2d h i) j=if j=i then none else A0b h j:=by
 induction h with
 |nil=>simp[A2d,A0b]
 |cons q r ih=>
  obtain⟨k,b⟩:=q
  simp only[A2d]
  by_cases e:k=i
  ·simp only[A0j.2 e,cond,ih,A0b]
   by_cases e2:j=i
   ·simp [e2]
   ·have:k≠j:=fun h=>e2 (by omega)
    simp[e2,A0c this]
  ·simp only[A0c e,cond,A0b]
   by_cases e2:k=j
   ·have:j≠i:=fun h=>e (by omega)
    simp[A0j.2 e2,this]
   ·simp only[A0c e2,ih]
theorem A1b(h:A0m)(f:Blk→Blk)(j:Nat):A0b (h.map fun q=>(q.1,f q.2)) j=(A0b h j).map f:=by
 induction h with
 |nil=>rfl
 |cons q r ih=>obtain⟨k,b⟩:=q; simp only[List.map,A0b]; cases Nat.beq k j<;>simp[ih]
theorem A2Z(h:A0m)(i:Nat)(c:Blk)(j:Nat):A0b (A0I h i c) j=if j=i then(A0b h i).map (fun _=>c)else A0b h j:=by
 induction h with
 |nil=>simp[A0I,A0b]
 |cons q r ih=>
  obtain⟨k,b⟩:=q
  simp only[A0I]
  by_cases e:k=i
  ·simp only[A0j.2 e,cond,A0b]
   by_cases e2:j=i
   ·have:k=j:=by omega
    simp[e2,A0j.2 e]
   ·have:k≠j:=fun h=>e2 (by omega)
    simp[e2,A0c this]
  ·simp only[A0c e,cond,A0b]
   by_cases e2:k=j
   ·have:j≠i:=fun h=>e (by omega)
    simp[A0j.2 e2,this]
   ·simp only[A0c e2,ih]
end Go.Ai
/- A state of the abstract machine and the model's memory: the relation,and how it goes on. -/
namespace Go.Ai
open Go.RowKit
def Own.has:Own→Nat→Prop
 | .var b,c=>b=c
 | .arr v,c=>v.ownBlock=some c
 | .tre _ L,c=>c∈L
def A0e(θ:Nat→Option Own)(i b:Nat):Prop:=match θ i with
 |some o=>o.has b
 |none=>False
def A0d(Xo:Nat→Prop)(θ:Nat→Option Own)(h:A0m)(b:Nat):Prop:=Xo b∨∃i,(A0b h i).isSome=true∧A0e θ i b
structure A0F where
 w:World
 tk:Nat→Prop
 pin:Option Own
 loose:Bool
def A0F.any(B:A0F)(b:Nat):Prop:=B.w.heap.size≤b∨B.tk b
def A0F.may(B:A0F)(i b:Nat):Prop:=if i=PIN then B.tk b else B.w.heap.size≤b∨(B.loose=true∧B.tk b)
theorem A0F.may_any{B:A0F}{i b:Nat}(h:B.may i b):B.any b:=by
 unfold A0F.may at h
 split at h
 ·exact .inr h
 ·exact h.imp id And.right
theorem A0F.may_move{B:A0F}{i j b:Nat}(hi:i≠PIN)(hj:j≠PIN)(h:B.may j b):B.may i b:=by
 unfold A0F.may at h⊢
 rw[if_neg hj]at h
 rw[if_neg hi]
 exact h
theorem A2S{i:Nat}(h:Nat.beq i PIN=false):i≠PIN:=fun e=>by rw[e,Nat.beq_refl]at h; cases h
def A0E(w:World)(M:Nat→Prop)(e:TypeId)(size:Nat)(v:Value)(n:Nat)(xs:List Value):Prop:=
 xs.length=n*size∧
 ((v= .slice none 0 0∧n=0)∨
  ∃g cap cur,v= .slice (some ⟨g,0,none⟩) n cap∧M g∧w.heap[g]? =some (.cells cur e (0,0))∧n≤cap∧cap≤maxLen∧cur.size=cap*size∧cur.toList.take (n*size)=xs)
section
variable {w:World} {M:Nat→Prop} {e:TypeId} {size:Nat} {v:Value} {n:Nat} {xs:List Value}
theorem A0E.row(h:A0E w M e size v n xs):w.ownsRow 0 e size v n xs:=by
 refine⟨h.1,?_⟩
 rcases h.2 with h|⟨g,cap,cur,h1,h2,h3⟩
 ·exact .inl h
 ·exact .inr ⟨g,cap,cur,h1,Nat.zero_le _,h3⟩
theorem A2i{b:Nat}(h:w.ownsRow b e size v n xs)(hM:∀g,v.ownBlock=some g→M g):A0E w M e size v n xs:=by
 refine⟨h.1,?_⟩
 rcases h.2 with h|⟨g,cap,cur,h1,h2,h3⟩
 ·exact .inl h
 ·exact .inr ⟨g,cap,cur,h1,hM g (by simp[h1,Value.ownBlock]),h3⟩
theorem A0E.may(h:A0E w M e size v n xs):∀g,v.ownBlock=some g→M g:=by
 intro g hg
 rcases h.2 with⟨h,_⟩|⟨g',cap,cur,h1,h2,h3⟩
 ·rw [h]at hg; cases hg
 ·rw [h1]at hg; simp only[Value.ownBlock,Option.some.injEq]at hg; subst hg; exact h2
theorem A0E.cells(h:A0E w M e size v n xs){g:Nat}(hg:v.ownBlock=some g)(j:Nat)(c:Value)(hj:xs[j]? =some c):w.cell? (Addr.add ⟨g,0,none⟩ j)=some c:=World.ownsRow.cells h.row hg j c hj
theorem A0E.lt(h:A0E w M e size v n xs):∀g,v.ownBlock=some g→M g∧g<w.heap.size:=fun g hg=>⟨h.may g hg,(World.ownsRow.lt h.row g hg).2⟩
theorem A1k(w:World)(M:Nat→Prop)(e:TypeId)(size:Nat):A0E w M e size (.slice none 0 0) 0 []:=⟨by simp,.inl ⟨rfl,rfl⟩⟩
end
def A0C{α:Type}(R:Nat→List Nat→List Value→α→Prop):Nat→List Nat→List Value→List α→Prop
 |_,L,cs,[]=>L=[]∧cs=[]
 |k,L,cs,x::xs=>∃L1 L2 c1 c2,L=L1++L2∧cs=c1++c2∧R k L1 c1 x∧A0C R (k+1) L2 c2 xs
def B1t:List Sel→List Sel
 | .fld n::p=> .fld (n+1)::p
 |p=> .idx 0::p
def A0t(w:World)(M:Nat→Prop)(sk:List Sel→Option Value):(s:DS)→(List Sel→List Sel)→List Nat→List Value→s.ty.den→Prop
 | .pl t,_,L,cs,x=>L=[]∧t.hasRef=false∧Rep w (fun _=>False) t cs x
 | .sl E s,q,L,cs,xs=>∃v ds L',cs=[v]∧sk (q [])=some v∧L=v.ownBlock.toList++L'∧A0E w M E s.ty.size v (List.length xs) ds∧A0C (fun k=>A0t w M sk s (fun p=>q (.idx k::p))) 0 L' ds xs
 | .pr a b,q,L,cs,x=>∃L1 L2 c1 c2,L=L1++L2∧cs=c1++c2∧A0t w M sk a (fun p=>q (.fld 0::p)) L1 c1 x.1∧A0t w M sk b (fun p=>q (B1t p)) L2 c2 x.2
theorem A1B{α:Type}{R S:Nat→List Nat→List Value→α→Prop}:∀{xs:List α} {k:Nat} {L:List Nat} {cs:List Value},(∀ k L1 c x,(∀ b∈L1,b∈L)→R k L1 c x→S k L1 c x)→A0C R k L cs xs→A0C S k L cs xs
 | [],_,_,_,_,h=>h
 |x::xs,k,L,cs,hRS,⟨L1,L2,c1,c2,h1,h2,h3,h4⟩=>by
  subst h1
  exact⟨L1,L2,c1,c2,rfl,h2,hRS k L1 c1 x (fun b hb=>List.mem_append_left _ hb) h3,A1B (fun k L c x hL=>hRS k L c x (fun b hb=>List.mem_append_right _ (hL b hb))) h4⟩
theorem A5e{w w':World}{M M':Nat→Prop}{E:TypeId}{size n:Nat}{v:Value}{ds:List Value}(h:A0E w M E size v n ds)(hb:∀g,v.ownBlock=some g→w'.heap[g]? =w.heap[g]?)(hM:∀g,v.ownBlock=some g→M g→M' g):A0E w' M' E size v n ds:=by
 refine⟨h.1,?_⟩
 rcases h.2 with h|⟨g,cap,cur,hv,h1,h2,h3⟩
 ·exact .inl h
 ·exact .inr ⟨g,cap,cur,hv,hM g (by simp[hv,Value.ownBlock]) h1,by rw[hb g (by simp[hv,Value.ownBlock])]; exact h2,h3⟩
theorem A0S{w w':World}{X X':Nat→Prop}:(t:Ty)→t.hasRef=false→(cs:List Value)→(x:t.den)→Rep w X t cs x→Rep w' X' t cs x
 | .int _,_,_,_,h=>h
 | .bool,_,_,_,h=>h
 | .str,_,_,_,h=>h
 | .slice _,hn,_,_,_=>by simp[Ty.hasRef]at hn
 | .arr n e,hn,cs,xs,⟨h1,h2⟩=>⟨h1,A0o (fun c x hx=>A0S e (by simpa[Ty.hasRef]using hn) c x hx) h2⟩
 | .unit,_,_,_,h=>h
 | .pair a b,hn,cs,x,⟨c1,c2,h0,h1,h2⟩=>by
  simp only[Ty.hasRef,Bool.or_eq_false_iff]at hn
  exact⟨c1,c2,h0,A0S a hn.1 c1 x.1 h1,A0S b hn.2 c2 x.2 h2⟩
 | .ref _,hn,_,_,_=>by simp[Ty.hasRef]at hn
 | .opt _,hn,_,_,_=>by simp[Ty.hasRef]at hn
 | .fnc _,_,_,_,h=>h
theorem A0t.go{w w':World}{M M':Nat→Prop}{sk:List Sel→Option Value}:∀(s:DS) (q:List Sel→List Sel) (L:List Nat) (cs:List Value) (x:s.ty.den),(∀ g∈L,w'.heap[g]? =w.heap[g]?)→(∀ g∈L,M g→M' g)→A0t w M sk s q L cs x→A0t w' M' sk s q L cs x
 | .pl t,q,L,cs,x,_,_,⟨h1,h2,h3⟩=>⟨h1,h2,A0S t h2 cs x h3⟩
 | .sl E s,q,L,cs,xs,hb,hM,⟨v,ds,L',h1,h2,h3,h4,h5⟩=>by
  subst h3
  refine⟨v,ds,L',h1,h2,rfl,A5e h4 (fun g hg=>hb g (by simp[hg])) (fun g hg=>hM g (by simp[hg])),A1B (fun k L1 c x hL=>A0t.go s _ L1 c x (fun g hg=>hb g (List.mem_append_right _ (hL g hg))) (fun g hg=>hM g (List.mem_append_right _ (hL g hg)))) h5⟩
 | .pr a b,q,L,cs,x,hb,hM,⟨L1,L2,c1,c2,h1,h2,h3,h4⟩=>by
  subst h1
  exact⟨L1,L2,c1,c2,rfl,h2,A0t.go a _ L1 c1 x.1 (fun g hg=>hb g (List.mem_append_left _ hg)) (fun g hg=>hM g (List.mem_append_left _ hg)) h3,A0t.go b _ L2 c2 x.2 (fun g hg=>hb g (List.mem_append_right _ hg)) (fun g hg=>hM g (List.mem_append_right _ hg)) h4⟩
theorem A7u{α:Type}{R:Nat→List Nat→List Value→α→Prop}{Q:Nat→Prop}(hR:∀k L c x,R k L c x→∀b∈L,Q b):∀{xs:List α} {k:Nat} {L:List Nat} {cs:List Value},A0C R k L cs xs→∀b∈L,Q b
 | [],_,_,_,⟨h,_⟩,b,hb=>by rw[h]at hb; simp at hb
 |x::xs,k,L,cs,⟨L1,L2,c1,c2,h1,h2,h3,h4⟩,b,hb=>by
  subst h1
  rcases List.mem_append.1 hb with hb|hb
  ·exact hR k L1 c1 x h3 b hb
  ·exact A7u hR h4 b hb
theorem A0t.lt{w:World}{M:Nat→Prop}{sk:List Sel→Option Value}:∀(s:DS) (q:List Sel→List Sel) (L:List Nat) (cs:List Value) (x:s.ty.den),A0t w M sk s q L cs x→∀g∈L,M g∧g<w.heap.size
 | .pl t,q,L,cs,x,⟨h1,_⟩,g,hg=>by rw[h1]at hg; simp at hg
 | .sl E s,q,L,cs,xs,⟨v,ds,L',h1,h2,h3,h4,h5⟩,g,hg=>by
  subst h3
  rcases List.mem_append.1 hg with hg|hg
  ·exact h4.lt g (by simpa using hg)
  ·exact A7u (Q:=fun g=>M g∧g<w.heap.size) (fun k L c x hx=>A0t.lt s _ L c x hx) h5 g hg
 | .pr a b,q,L,cs,x,⟨L1,L2,c1,c2,h1,h2,h3,h4⟩,g,hg=>by
  subst h1
  rcases List.mem_append.1 hg with hg|hg
  ·exact A0t.lt a _ L1 c1 x.1 h3 g hg
  ·exact A0t.lt b _ L2 c2 x.2 h4 g hg
def B0M(r:Nat):List Sel→Option Value
 | [.fld 0]=>some (.map (some r))
 |_=>none
def A9M(k v:Ty)(e:MapEntry)(q:k.den×v.den):Prop:=
 (∃ cs,A0i k.isAgg e.key cs∧∀w X,Rep w X k cs q.1)∧∃cs,A0i v.isAgg e.val cs∧∀w X,Rep w X v cs q.2
def A2V(k v:Ty):List MapEntry→List (k.den×v.den)→Prop
 | [],[]=>True
 |e::es,q::xs=>A9M k v e q∧A2V k v es xs
 |_,_=>False
def A0A(w:World)(X:Nat→Prop)(θ:Nat→Option Own)(base:Nat→Nat→Prop)(i:Nat):Blk→Prop
 | .var t c=>∃b C E,θ i=some (.var b)∧base i b∧w.heap[b]? =some (.cells C E (0,0))∧RV w X θ false c C.toList∧c.fits t=true
 | .arr E e xs=>∃v ds,θ i=some (.arr v)∧A0E w (base i) E e.size v xs.length ds∧A0l (Rep w X e) ds xs
 | .tre E s xs=>∃sk L v,θ i=some (.tre sk L)∧L.Nodup∧A0t w (base i) sk (.sl E s) id L [v] xs
 | .map k v xs=>∃r es clock,θ i=some (.tre (B0M r) [r])∧base i r∧w.heap[r]? =some (.map es clock)∧A2V k v es.toList xs
structure A1e (w:World) (X:Nat→Prop) (θ:Nat→Option Own) (base:Nat→Nat→Prop) (h:A0m):Prop where
 blk:∀i b,A0b h i=some b→A0A w X θ base i b
 inj:∀i j,i≠j→(A0b h i).isSome=true→(A0b h j).isSome=true→∀b,A0e θ i b→¬A0e θ j b
def A1g(w:World)(X:Nat→Prop)(θ:Nat→Option Own)(env:List TV)(tmps:Array Value):Prop:=
 tmps.size=env.length∧∀(t:Nat) (tv:TV),env[t]? =some tv→∃v,tmps[t]? =some v∧A0g w X θ tv v
def A3O(w:World)(X:Nat→Prop)(θ:Nat→Option Own):List (List TV)→List (Array Value)→Prop
 | [],[]=>True
 |e::es,t::ts=>A1g w X θ e t∧A3O w X θ es ts
 |_,_=>False
structure Rel (w0:A0F) (Xo:Nat→Prop) (σ:St) (θ:Nat→Option Own) (as:List (Array Value)) (a:Act) (w:World):Prop where
 keeps:A0h w0.tk w0.w w
 xo:∀b,Xo b→b<w0.w.heap.size∧¬w0.tk b
 heap:A1e w (A0d Xo θ σ.heap) θ w0.may σ.heap
 env:A1g w (A0d Xo θ σ.heap) θ σ.env a.tmps
 stk:A3O w (A0d Xo θ σ.heap) θ σ.stk as
 defers:a.defers=[]
 pin:(A0b σ.heap PIN).isSome=true→θ PIN=w0.pin
theorem A1g.map{w w':World}{X X':Nat→Prop}{θ θ':Nat→Option Own}(f:TV→TV)(hf:∀tv v,A0g w X θ tv v→A0g w' X' θ' (f tv) v){env:List TV}{tmps:Array Value}(h:A1g w X θ env tmps):A1g w' X' θ' (env.map f) tmps:=by
 refine⟨by simpa using h.1,fun t tv ht=> ?_⟩
 rw[List.getElem?_map]at ht
 cases he:env[t]? with
 |none=>simp[he]at ht
 |some u=>
  simp only[he,Option.map_some,Option.some.injEq]at ht
  obtain⟨v,hv,hr⟩:=h.2 t u he
  exact⟨v,hv,ht▸hf u v hr⟩
theorem A3O.map{w w':World}{X X':Nat→Prop}{θ θ':Nat→Option Own}(f:TV→TV)(hf:∀tv v,A0g w X θ tv v→A0g w' X' θ' (f tv) v):∀{es:List (List TV)} {ts:List (Array Value)},A3O w X θ es ts→A3O w' X' θ' (es.map (·.map f)) ts
 | [],[],_=>trivial
 |_::_,_::_,h=>⟨A1g.map f hf h.1,A3O.map f hf h.2⟩
 | [],_::_,h=>h.elim
 |_::_,[],h=>h.elim
theorem A1g.imp{w w':World}{X X':Nat→Prop}{θ θ':Nat→Option Own}{env:List TV}{tmps:Array Value}(hf:∀tv v,tv∈env→A0g w X θ tv v→A0g w' X' θ' tv v)(h:A1g w X θ env tmps):A1g w' X' θ' env tmps:=
 ⟨h.1,fun t tv ht=>let⟨v,hv,hr⟩:=h.2 t tv ht; ⟨v,hv,hf tv v (List.mem_of_getElem? ht) hr⟩⟩
theorem Rel.eval{w0:A0F}{Xo:Nat→Prop}{σ:St}{θ:Nat→Option Own}{as:List (Array Value)}{a:Act}{w:World}(h:Rel w0 Xo σ θ as a w)(x:Operand):A0g w (A0d Xo θ σ.heap) θ (σ.eval x) (a.eval x):=by
 cases x with
 |tmp t=>
  simp only[St.eval,Act.eval]
  by_cases ht:t<σ.env.length
  ·obtain ⟨v,hv,hr⟩:=h.env.2 t σ.env[t] (by simp[ht])
   have h1:σ.env.getD t .dead=σ.env[t]:=by simp[List.getD,ht]
   have h2:a.tmps.getD t undef=v:=by simp[Array.getD_eq_getD_getElem?,hv]
   rw[h1,h2]; exact hr
  ·have h1:σ.env.getD t .dead= .dead:=by simp[List.getD,ht]
   rw[h1]; trivial
 |const v=>
  simp only[St.eval,Act.eval]
  cases v with
  |int k n=>
   simp only[A4R]
   by_cases hk:decide (k.min≤n)&&decide (n≤k.max)
   ·simp only[hk,cond]
    exact⟨[.int k n],rfl,rfl,by simpa[IntKind.has]using hk⟩
   ·simp only[Bool.not_eq_true]at hk
    simp only[hk,cond]; trivial
  |bool b=>exact⟨[.bool b],rfl,rfl⟩
  |string s=>
   simp only[A4R]
   cases hk:Nat.ble s.size 1000000 with
   |true=>exact⟨[.string s],rfl,s,rfl,rfl,by have:=Nat.le_of_ble_eq_true hk; unfold maxLen; omega⟩
   |false=>trivial
  |slice o l c=>
   cases o with
   |none=>
    cases l with
    |succ _=>trivial
    |zero=>cases c with
     |succ _=>trivial
     |zero=>exact⟨[.slice none 0 0],rfl,rfl⟩
   |some _=>trivial
  |_=>trivial
 |global g=>trivial
 |func f=>exact⟨[.func (.func f) #[] #[]],rfl,[],rfl,rfl⟩
end Go.Ai
/- The relation goes on: slots,blocks that go,new blocks,new worlds. -/
namespace Go.Ai
open Go.RowKit
variable {w0:A0F} {Xo:Nat→Prop} {σ:St} {θ:Nat→Option Own} {as:List (Array Value)} {a:Act} {w:World}
theorem Rel.put(h:Rel w0 Xo σ θ as a w)(d:Option Tmp){tv:TV}{v:Value}(hv:A0g w (A0d Xo θ σ.heap) θ tv v):Rel w0 Xo (σ.put d tv) θ as (a.put d v) w:=by
 cases d with
 |none=>exact h
 |some t=>
  refine⟨h.keeps,h.xo,h.heap,⟨?_,fun s u hs=> ?_⟩,h.stk,h.defers,h.pin⟩
  ·simpa [St.put,Act.put]using h.env.1
  ·simp only[St.put,Act.put]at hs⊢
   rw[List.getElem?_set]at hs
   by_cases e:t=s
   ·subst e
    simp only[if_true]at hs
    by_cases ht:t<σ.env.length
    ·simp only[ht,if_true,Option.some.injEq]at hs
     subst hs
     refine⟨v,?_,hv⟩
     have:t<a.tmps.size:=by rw[h.env.1]; exact ht
     simp[this]
    ·simp [ht]at hs
   ·simp only[e,if_false]at hs
    obtain⟨u',h1,h2⟩:=h.env.2 s u hs
    exact⟨u',by simp[e,h1],h2⟩
theorem A0h.may{Z:Nat→Prop}{w':World}(h:A0h w0.tk w0.w w)(hk:A0h Z w w')(hz:∀b,Z b→w0.any b):A0h w0.tk w0.w w':=by
 refine⟨hk.os.trans h.os,hk.tape.trans h.tape,hk.output.trans h.output,Nat.le_trans h.drawn hk.drawn,Nat.le_trans h.size hk.size,fun b hb hn=> ?_⟩
 rw[hk.block b (Nat.lt_of_lt_of_le hb h.size) (fun h=>by
  rcases hz b h with h1|h1
  ·omega
  ·exact hn h1)]
 exact h.block b hb hn
theorem A1c(lev:Nat)(d:Option Tmp):A0R lev d≠PIN:=by
 unfold A0R PIN
 generalize d.getD 0=k
 have:(k:Nat)*10 % 10=0:=Nat.mul_mod_left k 10
 omega
theorem Rel.new(h:Rel w0 Xo σ θ as a w){i b:Nat}(hi:i≠PIN)(hb:w.heap.size≤b):w0.may i b:=by
 unfold A0F.may
 rw[if_neg hi]
 exact .inl (Nat.le_trans h.keeps.size hb)
theorem Rel.apart(h:Rel w0 Xo σ θ as a w){b:Nat}{i:Nat}(hb:Xo b)(hm:w0.may i b):False:=by
 obtain⟨h1,h2⟩:=h.xo b hb
 have hm:=A0F.may_any hm
 rcases hm with h3|h3
 ·omega
 ·exact h2 h3
theorem Rel.next(h:Rel w0 Xo σ θ as a w)(f:TV→TV){σ':St}{θ':Nat→Option Own}{w':World}(hk:A0h w0.tk w0.w w')
  (hf:∀tv v,A0g w (A0d Xo θ σ.heap) θ tv v→A0g w' (A0d Xo θ' σ'.heap) θ' (f tv) v)
  (henv:σ'.env=σ.env.map f) (hstk:σ'.stk=σ.stk.map (·.map f)) (hheap:A1e w' (A0d Xo θ' σ'.heap) θ' w0.may σ'.heap) (hpin:(A0b σ'.heap PIN).isSome=true→(A0b σ.heap PIN).isSome=true∧θ' PIN=θ PIN):Rel w0 Xo σ' θ' as a w':=
 ⟨hk,h.xo,hheap,henv▸h.env.map f hf,hstk▸h.stk.map f hf,h.defers,fun hs=>(hpin hs).2.trans (h.pin (hpin hs).1)⟩
theorem A7V{w w':World}{base:Nat→Prop}{E:TypeId}{size n:Nat}{v:Value}{ds:List Value}(h:A0E w base E size v n ds)(hb:∀g,v.ownBlock=some g→w'.heap[g]? =w.heap[g]?):A0E w' base E size v n ds:=by
 refine⟨h.1,?_⟩
 rcases h.2 with h|⟨g,cap,cur,hv,h1,h2,h3⟩
 ·exact .inl h
 ·exact .inr ⟨g,cap,cur,hv,h1,by rw[hb g (by simp[hv,Value.ownBlock])]; exact h2,h3⟩
def Blk.mapc(f:TV→TV):Blk→Blk
 | .var t c=> .var t (f c)
 | .arr E e xs=> .arr E e xs
 | .tre E s xs=> .tre E s xs
 | .map k v xs=> .map k v xs
theorem A0A.go{X X':Nat→Prop}{θ':Nat→Option Own}{w':World}{base:Nat→Nat→Prop}{i:Nat}{b:Blk}(hb:A0A w X θ base i b)(hst:A1G X X' w w')(hi:θ' i=θ i)
  (hsame:∀g,A0e θ i g→w'.heap[g]? =w.heap[g]?) (f:TV→TV) (hf:∀c cs,RV w X θ false c cs→RV w' X' θ' false (f c) cs) (hfit:∀c t,TV.fits c t=true→(f c).fits t=true):
  A0A w' X' θ' base i (b.mapc f):=by
 cases b with
 |var t c=>
  obtain⟨b,C,E,h1,h2,h3,h4,h5⟩:=hb
  exact⟨b,C,E,hi.trans h1,h2,by rw[hsame b (by simp[A0e,h1,Own.has])]; exact h3,hf c _ h4,hfit c t h5⟩
 |arr E e xs=>
  obtain⟨v,ds,h1,h2,h3⟩:=hb
  exact⟨v,ds,hi.trans h1,A7V h2 (fun g hg=>hsame g (by simp[A0e,h1,Own.has,hg])),A0o (fun c x hx=>hst.rep e c x hx) h3⟩
 |tre E s xs=>
  obtain⟨sk,L,v,h1,h2,h3⟩:=hb
  exact⟨sk,L,v,hi.trans h1,h2,h3.go (.sl E s) _ L _ xs (fun g hg=>hsame g (by simpa[A0e,h1,Own.has]using hg)) (fun _ _ h=>h)⟩
 |map k v xs=>
  obtain⟨r,es,clock,h1,h2,h3,h4⟩:=hb
  exact⟨r,es,clock,hi.trans h1,h2,by rw[hsame r (by simp[A0e,h1,Own.has])]; exact h3,h4⟩
theorem B3x(b:Blk)(i:Nat):b.kill i=b.mapc (TV.kill i):=by cases b<;>rfl
theorem A7p(b:Blk):b.mapc id=b:=by cases b<;>rfl
theorem A0O(h:A0m)(i j:Nat):(A0b ((A2d h i).map fun q=>(q.1,q.2.kill i)) j).isSome=true↔j≠i∧(A0b h j).isSome=true:=by
 rw[A1b,A1a]
 by_cases e:j=i<;>simp[e]
theorem A0A.lt{X:Nat→Prop}{base:Nat→Nat→Prop}{i:Nat}{b:Blk}(hb:A0A w X θ base i b):∀g,A0e θ i g→base i g∧g<w.heap.size:=by
 intro g hg
 cases b with
 |var t c=>
  obtain⟨b,C,E,h1,h2,h3,_⟩:=hb
  simp only[A0e,h1,Option.bind_some,Own.has,Option.some.injEq]at hg
  subst hg
  exact⟨h2,by rcases Nat.lt_or_ge b w.heap.size with h|h; exact h; simp[Array.getElem?_eq_none h]at h3⟩
 |arr E e xs=>
  obtain⟨v,ds,h1,h2,_⟩:=hb
  simp only[A0e,h1,Option.bind_some,Own.has]at hg
  exact A0E.lt h2 g hg
 |tre E s xs=>
  obtain⟨sk,L,v,h1,h2,h3⟩:=hb
  simp only[A0e,h1,Own.has]at hg
  exact h3.lt (.sl E s) _ L _ xs g hg
 |map k v xs=>
  obtain⟨r,es,clock,h1,h2,h3,h4⟩:=hb
  simp only[A0e,h1,Own.has,List.mem_singleton]at hg
  subst hg
  exact⟨h2,by rcases Nat.lt_or_ge g w.heap.size with h|h; exact h; simp[Array.getElem?_eq_none h]at h3⟩
theorem A7U{i:Nat}{θ':Nat→Option Own}(hθ:∀j,j≠i→θ' j=θ j)(b:Nat)(hb:A0d Xo θ' (σ.kill i).heap b):A0d Xo θ σ.heap b:=by
 rcases hb with hb|⟨j,h1,h2⟩
 ·exact .inl hb
 ·obtain ⟨e,h3⟩:=(A0O σ.heap i j).1 h1
  exact .inr ⟨j,h3,by simpa[A0e,hθ j e]using h2⟩
theorem A1e.kill{i:Nat}{θ':Nat→Option Own}{X X':Nat→Prop}{base:Nat→Nat→Prop}{w':World}{hp:A0m}(h:A1e w X θ base hp)(hθ:∀j,j≠i→θ' j=θ j)(hst:A1G X X' w w')
  (hsame:∀j g,j≠i→(A0b hp j).isSome=true→A0e θ j g→w'.heap[g]? =w.heap[g]?):A1e w' X' θ' base ((A2d hp i).map fun q=>(q.1,q.2.kill i)):=by
 refine⟨fun j b hb=> ?_,fun j k hjk hj hk b=> ?_⟩
 ·rw [A1b,A1a]at hb
  by_cases e:j=i
  ·simp [e]at hb
  ·simp only[e,if_false]at hb
   cases hg:A0b hp j with
   |none=>simp[hg]at hb
   |some b0=>
    simp only[hg,Option.map_some,Option.some.injEq]at hb
    subst hb
    rw[B3x]
    refine(h.blk j b0 hg).go hst (hθ j e) (fun g hgb=>hsame j g e (by simp[hg]) hgb) (TV.kill i) (fun c cs hc=> ?_) (fun c t=>TV.fits_kill i c t)
    exact RV.step hst false _ cs (fun _ _=>rfl) (RV.kill hθ false c cs hc)
 ·obtain ⟨e1,h1⟩:=(A0O hp i j).1 hj
  obtain⟨e2,h2⟩:=(A0O hp i k).1 hk
  simpa[A0e,hθ j e1,hθ k e2]using h.inj j k hjk h1 h2 b
theorem Rel.kill(h:Rel w0 Xo σ θ as a w)(i:Nat){θ':Nat→Option Own}(hθ:∀j,j≠i→θ' j=θ j):Rel w0 Xo (σ.kill i) θ' as a w:=by
 have hst:A1G (A0d Xo θ σ.heap) (A0d Xo θ' (σ.kill i).heap) w w:=⟨⟨fun _=>False,A0h.refl _ w,fun _ _ h=>h.elim⟩,fun b _ hb=>A7U hθ b hb⟩
 refine h.next (TV.kill i) h.keeps (fun tv v hv=> ?_) rfl rfl (h.heap.kill hθ hst (fun _ _ _ _ _=>rfl)) (fun hs=>by
  obtain⟨e1,e2⟩:=(A0O σ.heap i PIN).1 hs
  exact⟨e2,hθ PIN e1⟩)
 exact A0g.step hst _ v (fun _ _=>rfl) (A0g.kill hθ tv v hv)
theorem Rel.below(h:Rel w0 Xo σ θ as a w){w':World}(hk:A0h (fun _=>False) w w'):Rel w0 Xo σ θ as a w':=by
 have hst:A1G (A0d Xo θ σ.heap) (A0d Xo θ σ.heap) w w':=⟨⟨fun _=>False,hk,fun _ _ h=>h.elim⟩,fun _ _ h=>h⟩
 refine h.next id (h.keeps.trans (hk.mono fun _ _ h=>h.elim)) (fun tv v hv=>A0g.step hst tv v (fun _ _=>rfl) hv) (by simp) (by simp) ⟨fun i b hb=> ?_,h.heap.inj⟩ (fun hs=>⟨hs,rfl⟩)
 have hb':=h.heap.blk i b hb
 have:=hb'.go (w':=w') (X':=A0d Xo θ σ.heap) (θ':=θ) hst rfl (fun g hg=>hk.block g (hb'.lt g hg).2 (fun h=>h)) id (fun c cs hc=>RV.step hst false c cs (fun _ _=>rfl) hc) (fun c t h=>h)
 simpa[A7p]using this
def A0x(θ:Nat→Option Own)(i:Nat)(o:Own):Nat→Option Own:=fun j=>if j=i then some o else θ j
theorem A0n(θ:Nat→Option Own)(i:Nat)(o:Own):A0x θ i o i=some o:=by simp[A0x]
theorem A0P(θ:Nat→Option Own)(i:Nat)(o:Own)(j:Nat)(h:j≠i):A0x θ i o j=θ j:=by simp[A0x,h]
theorem A1r(σ:St)(i:Nat)(b:Blk)(j:Nat):A0b (σ.add i b).heap j=if j=i then some b else A0b (σ.kill i).heap j:=by
 simp only[St.add,A0b]
 by_cases e:j=i
 ·simp [e,A0j.2]
 ·simp [A0c (Ne.symm e),e]
theorem Rel.add(h:Rel w0 Xo σ θ as a w)(i:Nat)(hi:i≠PIN)(blk:Blk)(o:Own){w':World}(row:Option Nat)
  (hk:A0h (fun b=>some b=row) w w') (hrow:∀b,row=some b→w0.any b∧((∃ j,(A0b σ.heap j).isSome=true∧A0e θ j b∧(A0b (σ.kill i).heap j).isSome=false)∨False))
  (hbase:∀b,o.has b→(w.heap.size≤b∨row=some b))
  (hblk:A0A w' (A0d Xo (A0x θ i o) (σ.add i blk).heap) (A0x θ i o) w0.may i blk):Rel w0 Xo (σ.add i blk) (A0x θ i o) as a w':=by
 have hθ:∀j,j≠i→A0x θ i o j=θ j:=fun j hj=>A0P θ i o j hj
 have hX:∀b,b<w.heap.size→A0d Xo (A0x θ i o) (σ.add i blk).heap b→A0d Xo θ σ.heap b:=by
  intro b hlt hb
  rcases hb with hb|⟨j,h1,h2⟩
  ·exact .inl hb
  ·rw [A1r]at h1
   by_cases e:j=i
   ·subst e
    simp only[A0e,A0n,Option.bind_some]at h2
    rcases hbase b h2 with h3|h3
    ·omega
    ·rcases (hrow b h3).2 with⟨k,k1,k2,_⟩|hF
     ·exact .inr ⟨k,k1,k2⟩
     ·exact hF.elim
   ·simp only[e,if_false]at h1
    obtain⟨_,h3⟩:=(A0O σ.heap i j).1 h1
    exact .inr ⟨j,h3,by simpa[A0e,hθ j e]using h2⟩
 have hst:A1G (A0d Xo θ σ.heap) (A0d Xo (A0x θ i o) (σ.add i blk).heap) w w':=by
  refine⟨⟨fun b=>some b=row,hk,fun b hb hz=> ?_⟩,hX⟩
  rcases(hrow b hz.symm).2 with⟨k,k1,k2,_⟩|hF
  ·exact .inr ⟨k,k1,k2⟩
  ·exact hF.elim
 have hk0:A0h w0.tk w0.w w':=h.keeps.may hk fun b hz=>(hrow b hz.symm).1
 have hother:∀j g,j≠i→(A0b σ.heap j).isSome=true→A0e θ j g→w'.heap[g]? =w.heap[g]? :=by
  intro j g hj hs hg
  cases hb:A0b σ.heap j with
  |none=>simp[hb]at hs
  |some b0=>
   refine hk.block g ((h.heap.blk j b0 hb).lt g hg).2 (fun hz=> ?_)
   rcases(hrow g hz.symm).2 with⟨k,k1,k2,k3⟩|hF
   ·by_cases e:k=j
    ·subst e
     have:(A0b (σ.kill i).heap k).isSome=true:=(A0O σ.heap i k).2 ⟨hj,hs⟩
     rw[this]at k3; cases k3
    ·exact h.heap.inj k j e k1 hs g k2 hg
   ·exact hF
 refine h.next (TV.kill i) hk0 (fun tv v hv=>A0g.step hst _ v (fun _ _=>rfl) (A0g.kill hθ tv v hv)) rfl rfl ?_ (fun hs=>by
  rw[A1r,if_neg (Ne.symm hi)]at hs
  obtain⟨e1,e2⟩:=(A0O σ.heap i PIN).1 hs
  exact⟨e2,hθ PIN e1⟩)
 have hkill:=h.heap.kill (X':=A0d Xo (A0x θ i o) (σ.add i blk).heap) hθ hst hother
 refine⟨fun j b hb=> ?_,fun j k hjk hj hk' b hb1 hb2=> ?_⟩
 ·rw [A1r]at hb
  by_cases e:j=i
  ·subst e; simp at hb; subst hb; exact hblk
  ·simp only[e,if_false]at hb; exact hkill.blk j b hb
 ·rw [A1r]at hj hk'
  have key:∀j,j≠i→(A0b (σ.kill i).heap j).isSome=true→A0e (A0x θ i o) j b→¬o.has b:=by
   intro j e hs hb1 hb2
   obtain⟨_,hs'⟩:=(A0O σ.heap i j).1 hs
   have hb1':A0e θ j b:=by simpa[A0e,hθ j e]using hb1
   rcases hbase b hb2 with h3|h3
   ·cases hb0:A0b σ.heap j with
    |none=>simp[hb0]at hs'
    |some b0=>have:=((h.heap.blk j b0 hb0).lt b hb1').2; omega
   ·rcases (hrow b h3).2 with⟨k,k1,k2,k3⟩|hF
    ·by_cases e2:k=j
     ·subst e2; rw[hs]at k3; cases k3
     ·exact h.heap.inj k j e2 k1 hs' b k2 hb1'
    ·exact hF
  by_cases e1:j=i
  ·subst e1
   have e2:k≠j:=Ne.symm hjk
   simp only[e2,if_false]at hk'
   exact key k e2 hk' hb2 (by simpa[A0e,A0n]using hb1)
  ·simp only[e1,if_false]at hj
   by_cases e2:k=i
   ·subst e2
    exact key j e1 hj hb1 (by simpa[A0e,A0n]using hb2)
   ·simp only[e2,if_false]at hk'
    exact hkill.inj j k hjk hj hk' b hb1 hb2
end Go.Ai

