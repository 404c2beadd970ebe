/- The machine, and that it is sound. No conditions. -/
import Derived.Test.YtkpacjofafjonabGreatEc
import Derived.MapKept
import Derived.Maps.AppendAt
import Derived.Lib.LazyBuf
import Derived.Tactics
/- copy. -/
namespace Go.Ai
open Go.RowKit
variable {P:Program} {cx:Cx} {w0:A0F} {Xo:Nat→Prop} {σ:St} {θ:Nat→Option Own} {as:List (Array Value)} {a:Act} {w:World} {R:Type} {r:R} {K:TV→St→Option R}
theorem A3I{α:Type}{R:List Value→α→Prop}{n:Nat}(hl:∀c x,R c x→c.length=n){xs:List α}{cs:List Value}{k:Nat}(hc:A0l R cs xs)(hk:k≤xs.length):A0l R (cs.take (k*n)) (xs.take k):=by
 have:=A1Q hl 0 k hc (Nat.zero_le _) hk
 simpa[A3F]using this
theorem A6P{α:Type}{R:List Value→α→Prop}{n:Nat}(hl:∀c x,R c x→c.length=n){xs:List α}{cs:List Value}{k:Nat}(hc:A0l R cs xs)(hk:k≤xs.length):A0l R (cs.drop (k*n)) (xs.drop k):=by
 have h:=A1Q hl k xs.length hc hk (Nat.le_refl _)
 have hlen:=A0s hl hc
 rw[List.take_of_length_le (by rw[List.length_drop,hlen,Nat.sub_mul]; exact Nat.le_refl _)]at h
 have:A3F xs k xs.length=xs.drop k:=by unfold A3F; rw[List.take_of_length_le (by simp)]
 rwa [this]at h
theorem A3t{α:Type}{R:List Value→α→Prop}:∀{xs ys:List α} {cs ds:List Value},A0l R cs xs→A0l R ds ys→A0l R (cs++ds) (xs++ys)
 | [],_,_,_,hx,hy=>by
  have:_=[]:=hx
  subst this; simpa using hy
 |x::xs,_,_,_,⟨c1,c2,h0,h1,h2⟩,hy=>⟨c1,c2++_,by rw[h0,List.append_assoc],h1,A3t h2 hy⟩
theorem A5A{α:Type}{R:List Value→α→Prop}{n:Nat}(hl:∀c x,R c x→c.length=n){xs zs:List α}{cs zc:List Value}{lo:Nat}(hc:A0l R cs xs)(hz:A0l R zc zs)(hk:lo+zs.length≤xs.length):
  A0l R (cs.take (lo*n)++(zc++cs.drop (lo*n+zc.length))) (A6D xs lo zs):=by
 have hzl:=A0s hl hz
 refine A3t (A3I hl hc (by omega)) (A3t hz ?_)
 have:=A6P hl hc hk
 rwa [Nat.add_mul,←hzl]at this
theorem A4W{α:Type}(xs ys:List α)(lo:Nat)(h:lo+ys.length≤xs.length):(A6D xs lo ys).length=xs.length:=by simp[A6D]; omega
theorem B1c{α:Type}(xs:List α)(lo:Nat):A6D xs lo []=xs:=by simp[A6D]
theorem A5s{dT sT ty E:TypeId}(hu:P.underlying dT=some (.slice E)){e:Ty}(hE:(A0u P e).1 E){ad ad2:Option Addr}{dLen dCap sLen cap:Nat}(h0:min sLen dLen=0):
  (Builtin.copy_ #[dT,sT] ty #[.slice ad dLen dCap,.slice ad2 sLen cap]).run P w= .ok (goInt 0) w:=by
 have hsz:=A0u.size e E hE
 unfold Program.hasSize at hsz
 cases hq:P.info? E with
 |none=>simp[hq]at hsz
 |some i=>
  have h0':Nat.min sLen dLen=0:=h0
  cases ad2<;>cases ad<;>simp[Builtin.copy_,run_underlying hu,Builtin.lenOf,Builtin.firstCells,sizeOf,typeInfo,hq,storeCells,h0',loadCells,loadCellsFrom]
theorem A5r{dT sT ty E:TypeId}(hu:P.underlying dT=some (.slice E)){e:Ty}(hE:(A0u P e).1 E){b o dLen dCap sLen cap:Nat}{ad:Option Addr}{cs:List Value}(hn:cs.length=min sLen dLen*e.size)
  (hsrc:cs=[]∨∃b2 o2,ad=some ⟨b2,o2,none⟩∧w.rangeAt b2 o2 cs) (ht:w.there b o cs.length) (h1:∀u∈cs,u.oneCell'=true):
  (Builtin.copy_ #[dT,sT] ty #[.slice (some ⟨b,o,none⟩) dLen dCap,.slice ad sLen cap]).run P w= .ok (goInt ((min sLen dLen:Nat):Int)) (w.setCells b o cs):=by
 have hsz:=A0u.size e E hE
 unfold Program.hasSize at hsz
 cases hq:P.info? E with
 |none=>simp[hq]at hsz
 |some i=>
  have hi:i.size=e.size:=by simpa[hq]using hsz
  have hn':Nat.min sLen dLen*e.size=cs.length:=hn.symm
  have hst:=run_storeCells_cells (P:=P) b o cs 0 w (fun j hj=>by simpa using(ht j hj).1) (fun j hj=>by simpa using(ht j hj).2) h1
  simp only[Nat.add_zero]at hst
  have hld:(Builtin.firstCells e.size (Nat.min sLen dLen) (.slice ad sLen cap)).run P w= .ok cs.toArray w:=by
   cases ad with
   |some q=>
    refine run_firstCells_some (P:=P) (w:=w) _ _ q sLen cap cs hn'.symm ?_
    rcases hsrc with h|⟨b2,o2,h,hr⟩
    ·subst h; intro j v hj; simp at hj
    ·injection h with h; subst h; intro j v hj; rw[Addr.add_lit]; exact hr j v hj
   |none=>
    rcases hsrc with h|⟨b2,o2,h,hr⟩
    ·subst h; simp[Builtin.firstCells]
    ·cases h
  simp[Builtin.copy_,run_underlying hu,Builtin.lenOf,sizeOf,typeInfo,hq,hi,hld,hst]
theorem A6s:∀(H:A0m) (i:Nat) (blk:Blk),A0b H i=some blk→A0I H i blk=H
 | [],_,_,h=>by simp[A0b]at h
 |(k,b)::r,i,blk,h=>by
  simp only[A0b]at h
  simp only[A0I]
  by_cases e:k=i
  ·simp only[A0j.2 e,cond,Option.some.injEq]at h ⊢; rw[h]
  ·simp only[A0c e,cond]at h ⊢; rw[A6s r i blk h]
theorem B2d(hC:A1F P cx)(h:Rel w0 Xo σ θ as a w){T sT:TypeId}{e:Ty}(hT:cx.ty T=some (.slice e)){i:Nat}{rt:Ty}{p:List Sel}{lo hi:Nat}{v:Value}{o:Own}(ho:θ i=some o)(hv:o.vw rt p e lo hi v)
  {ys:List e.den} {ad:Option Addr} {len cap:Nat} {ds:List Value} (hlen:len=ys.length) (hm:len≤maxLen) (hch:A0l (Rep w (A0d Xo θ σ.heap) e) ds ys) (hds:ds=[]∨∃b o,ad=some ⟨b,o,none⟩∧w.rangeAt b o ds) {H':A0m} (hp:A8Q σ.heap i rt p e lo hi ys=some H'):
  ∃w',Rel w0 Xo {σ with heap:=H'} θ as a w'∧∀ty,(Builtin.copy_ #[T,sT] ty #[v,.slice ad len cap]).run P w= .ok (.int .i64 ((ys.take (hi-lo)).length:Nat)) w':=by
 obtain⟨⟨E2,hu,hE⟩,_⟩:=hC.ty T _ hT
 obtain⟨hle,adv,capv,rfl,hc1,hc2,hmm⟩:=hv
 let k:=min ys.length (hi-lo)
 have hzs:ys.take (hi-lo)=ys.take k:=by
  apply List.ext_getElem?; intro j
  simp only[List.getElem?_take,k]
  split<;>split<;>first|rfl|omega|(rw [List.getElem?_eq_none (by omega)])
 have hzch:=A3I (fun c x hx=>Rep.length e c x hx) (k:=k) hch (by omega)
 have hzl:=A0s (fun c x hx=>Rep.length e c x hx) hzch
 have hzlen:(ys.take (hi-lo)).length=k:=by rw[hzs]; simp; omega
 rw[← hzs]at hzch hzl
 have hone:=A2n (fun c x hx=>Rep.one e c x hx) hzch
 have hsrc:ds.take (k*e.size)=[]∨∃b o,ad=some ⟨b,o,none⟩∧w.rangeAt b o (ds.take (k*e.size)):=by
  rcases hds with hds|⟨b,q,h1,h2⟩
  ·exact .inl (by rw[hds]; simp)
  ·exact .inr ⟨b,q,h1,by simpa using A3b h2 0 (k*e.size)⟩
 have hres:∀m:Nat,goInt (m:Int)= .int .i64 m:=fun m=>rfl
 unfold A8Q at hp
 split at hp
 ·rename_i t c hg
  obtain⟨ht,hp2⟩:=A0a hp
  clear hp
  have ht:t=rt:=by simpa using ht
  subst ht
  split at hp2
  ·rename_i n ee xs hu2
   split at hp2
   ·rename_i q; subst q
    split at hp2
    ·rename_i c' hc'
     injection hp2 with hp2; subst hp2
     obtain⟨b,C,E,e1,e2,e3,e4,e5⟩:=h.heap.blk i _ hg
     rw[e1]at ho; injection ho with ho; subst ho
     obtain⟨off,n',hrat,hn,had⟩:=hmm
     have hat:=A3S e5 hu2 hrat
     obtain⟨k1,c1,cc,c2,k2,k3,k4,k5⟩:=A4z c t p C.toList off _ _ hat e5 hu2 e4
     have hnn:n=n':=by simp[TV.fits]at k1; exact k1
     subst hnn
     obtain⟨hl,hcc⟩:=k5
     have hfit:lo+(ys.take (hi-lo)).length≤xs.length:=by rw[hzlen]; omega
     have hnew:=A5A (fun c x hx=>Rep.length ee c x hx) (lo:=lo) hcc hzch hfit
     have hccl:=A0s (fun c x hx=>Rep.length ee c x hx) hcc
     have hcl:=RV.length c t C.toList e5 e4
     have hin:lo*ee.size+(ds.take (k*ee.size)).length≤cc.length:=by
      rw[hzl,hccl,←Nat.add_mul]; exact Nat.mul_le_mul_right _ hfit
     have hsp:=A4W xs (ys.take (hi-lo)) lo hfit
     obtain⟨g1,g2⟩:=A6H c t p C.toList off (.arr n ee) (.pv (.arr n ee) (A6D xs lo (ys.take (hi-lo)))) c' _ hat e5 hc' e4 (A2W _ _) (⟨by rw[hsp]; exact hl,hnew⟩:RV w (A0d Xo θ σ.heap) θ false (.pv (.arr n ee) (A6D xs lo (ys.take (hi-lo)))) _) c1 cc c2 k2 k3 k4
     have hbase:A0e θ i b:=by simp[A0e,e1,Own.has]
     have hCl:C.toList.length=off+cc.length+c2.length:=by rw[k2]; simp; omega
     obtain⟨C',m1,m2⟩:=A0U b E (ds.take (k*ee.size)) (off+lo*ee.size) w C e3 (by simp at hCl ⊢; simp at hin; omega)
     have hcells:C'.toList=c1++((cc.take (lo*ee.size)++((ds.take (k*ee.size))++cc.drop (lo*ee.size+(ds.take (k*ee.size)).length)))++c2):=by
      rw[m2,k2]
      have e6:off+lo*ee.size=(c1++cc.take (lo*ee.size)).length:=by simp[k3]; simp at hin; omega
      have e7:c1++(cc++c2)=(c1++cc.take (lo*ee.size))++(((cc.drop (lo*ee.size)).take (ds.take (k*ee.size)).length)++(cc.drop (lo*ee.size+(ds.take (k*ee.size)).length)++c2)):=by
       conv=>lhs; rw[← List.take_append_drop (lo*ee.size) cc]
       rw[← List.drop_drop]
       simp only[List.append_assoc]
       congr 2
       rw[← List.append_assoc (List.take _ _) (List.drop _ _),List.take_append_drop]
      rw[e7,e6,A8h (by simp; simp at hin; omega)]
      simp
     have hthere:w.there b (off+lo*ee.size) (ds.take (k*ee.size)).length:=by
      intro j hj
      refine⟨?_,?_⟩
      ·have:(C[off+lo*ee.size+j]?).isSome=true:=by simp at hCl ⊢; omega
       simpa[World.cell?,e3]using this
      ·simp [World.frozen?,e3]
     have hstep:=A1Z h hg hbase (blk':= .var t c') (off+lo*ee.size) (ds.take (k*ee.size))
     have hrel:=h.rewrite hg hbase (off+lo*ee.size) (ds.take (k*ee.size)) (blk':= .var t c') ⟨b,C',E,e1,e2,m1,by rw[hcells]; exact RV.step hstep false c' _ (fun _ _=>rfl) g2,g1⟩
     rcases had with had|had
     ·have hk0:k=0:=by omega
      have hnil:ds.take (k*ee.size)=[]:=by rw[hk0]; simp
      rw[hnil]at hrel
      refine⟨w,hrel,fun ty=> ?_⟩
      rw[hzlen,hk0]
      exact A5s hu hE (by omega)
     ·subst had
      refine⟨_,hrel,fun ty=> ?_⟩
      rw[hzlen,←hres]
      have:=A5r (w:=w) (sT:=sT) (ty:=ty) (dCap:=capv) (cap:=cap) (sLen:=len) (dLen:=hi-lo) hu hE (cs:=ds.take (k*ee.size)) (by rw[hzl,hzlen,hlen]) hsrc hthere hone
      rw[hlen]at this⊢
      exact this
    ·cases hp2
   ·cases hp2
  ·cases hp2
 ·rename_i E ee xs hg
  split at hp
  ·rename_i q; subst q
   split at hp
   ·obtain ⟨ht,hp2⟩:=A0a hp
    injection hp2 with hp2; subst hp2
    obtain⟨vv,dx,g1,g2,g3⟩:=h.heap.blk i _ hg
    rw[g1]at ho; injection ho with ho; subst ho
    obtain⟨_,_,ad0,len0,cap0,hu0,hlen0,had⟩:=hmm
    subst hu0
    have hlxs:len0=xs.length:=by
     rcases g2.2 with⟨k1,k2⟩|⟨g,cap1,cur,k1,_⟩
     ·injection k1 with _ k1 _; omega
     ·injection k1 with _ k1 _
    subst hlxs
    have hfit:lo+(ys.take (hi-lo)).length≤xs.length:=by rw[hzlen]; omega
    rcases had with had|⟨g,had,had2⟩
    ·have hk0:k=0:=by omega
     have hz0:ys.take (hi-lo)=[]:=List.eq_nil_of_length_eq_zero (by rw[hzlen,hk0])
     refine⟨w,?_,fun ty=> ?_⟩
     ·rw [hz0,B1c,A6s _ _ _ hg]; exact h
     ·rw [hzlen,hk0]
      exact A5s hu hE (by omega)
    ·subst had; subst had2
     have hnew:=A5A (fun c x hx=>Rep.length ee c x hx) (lo:=lo) g3 hzch hfit
     have hdl:=A0s (fun c x hx=>Rep.length ee c x hx) g3
     have hin:lo*ee.size+(ds.take (k*ee.size)).length≤dx.length:=by
      rw[hzl,hdl,←Nat.add_mul]; exact Nat.mul_le_mul_right _ hfit
     obtain⟨own',hthere⟩:=A3a g2 (g:=g) rfl (o:=lo*ee.size) (vs:=ds.take (k*ee.size)) hin
     have hbase:A0e θ i g:=by simp[A0e,g1,Own.has,Value.ownBlock]
     have hstep:=A1Z h hg hbase (blk':= .arr E ee (A6D xs lo (ys.take (hi-lo)))) (lo*ee.size) (ds.take (k*ee.size))
     have hrel:=h.rewrite hg hbase (lo*ee.size) (ds.take (k*ee.size)) (blk':= .arr E ee (A6D xs lo (ys.take (hi-lo)))) ⟨_,_,g1,by rw[A4W _ _ _ hfit]; exact own',A0o (fun c x hx=>hstep.rep ee c x hx) hnew⟩
     refine⟨_,hrel,fun ty=> ?_⟩
     rw[hzlen,←hres]
     have:=A5r (w:=w) (sT:=sT) (ty:=ty) (dCap:=capv) (cap:=cap) (sLen:=len) (dLen:=hi-lo) hu hE (cs:=ds.take (k*ee.size)) (by rw[hzl,hzlen,hlen]) hsrc hthere hone
     rw[hlen]at this⊢
     exact this
   ·cases hp
  ·cases hp
 ·cases hp
theorem B3A(hC:A1F P cx)(h:Rel w0 Xo σ θ as a w){lev:Nat}{draw:Bool}{d:Option Tmp}{args:Array Operand}{ts:Array TypeId}
  (hp:A1u cx lev draw σ d (.call {callee:= .builtin .copy,args:=args,argTypes:=ts}) K=some r):
  ∃tv σ',K tv σ'=some r∧A1p P w0 Xo as a w (.call {callee:= .builtin .copy,args:=args,argTypes:=ts}) tv σ':=by
 simp only[A1u]at hp
 split at hp
 ·rename_i x y t u hargs hts
  have ha:args= #[x,y]:=by apply Array.ext'; simpa using hargs
  have htt:ts= #[t,u]:=by apply Array.ext'; simpa using hts
  subst ha; subst htt
  split at hp
  ·rename_i e hT
   obtain⟨h1,h2⟩:=A0a hp
   have hx:=h.eval x
   have hy:=h.eval y
   split at h2
   ·rename_i ys hcy
    obtain⟨ad,m,cap,dy,y1,y2,y3,y4,y5,y6⟩:=A1q h.heap hcy hy
    have fin:∀{n:Nat} {w':World} {H:A0m},n≤maxLen→K (.pv (.int .i64) (n:Int)) {σ with heap:=H}=some r→Rel w0 Xo {σ with heap:=H} θ as a w'→(∀ ty,(Builtin.copy_ #[t,u] ty #[a.eval x,a.eval y]).run P w= .ok (.int .i64 (n:Int)) w')→
      ∃tv σ',K tv σ'=some r∧A1p P w0 Xo as a w (.call {callee:= .builtin .copy,args:= #[x,y],argTypes:= #[t,u]}) tv σ':=by
     intro n w' H hn hk hr hrun
     refine⟨_,_,hk,θ,_,w',hr,A1E ?_,.inl fun o ho=> ?_⟩
     ·unfold maxLen at hn
      simp[IntKind.has,IntKind.min,IntKind.max,IntKind.signed,IntKind.bits]
      omega
     ·have:=hrun o.type
      simp[execOp,ho,resolve,invoke,builtin,this,Result.andThen]
    split at h2
    ·rename_i i rt p s lo hi hex
     obtain⟨h3,h4⟩:=A0a h2
     have hse:s=e:=by simpa using h3
     subst hse
     rw[hex]at hx
     obtain⟨o,q1,q2⟩:=A4v hx
     split at h4
     ·rename_i H' hH
      obtain⟨w',r1,r2⟩:=B2d (sT:=u) (cap:=cap) hC h hT q1 q2 y2 y4 y5 y6 hH
      exact fin (by simp; omega) h4 r1 (fun ty=>by rw[y1]; exact r2 ty)
     ·cases h4
    ·rename_i i s hex
     split at h2
     ·rename_i E ee xs hg
      obtain⟨h3,h4⟩:=A0a h2
      have hse:s=e:=by simpa using h3
      subst hse
      rw[hex]at hx
      obtain⟨cs,k1,vv,k2,k3,k4⟩:=hx
      subst k3
      have hev:a.eval x=vv:=by simpa[A0i,TV.isAgg,eq_comm]using k1
      obtain⟨v',ds,g1,g2,g3⟩:=h.heap.blk i _ hg
      rw[g1]at k2; injection k2 with k2; injection k2 with k2; subst k2
      have hvw:(Own.arr v').vw (.slice s) [] s 0 xs.length v':=by
       rcases g2.2 with⟨k1,k2⟩|⟨g,cap1,cur,k1,_,_,k4,k5,_⟩
       ·subst k1; exact⟨Nat.zero_le _,none,0,by rw[k2],by omega,Nat.zero_le _,rfl,rfl,none,0,0,rfl,by omega,.inl k2,fun _=>⟨rfl,rfl⟩⟩
       ·subst k1; exact⟨Nat.zero_le _,_,_,rfl,by omega,k5,rfl,rfl,_,_,_,rfl,Nat.le_refl _,.inr ⟨g,rfl,by simp⟩,fun _=>⟨rfl,rfl⟩⟩
      split at h4
      ·rename_i H' hH
       obtain⟨w',r1,r2⟩:=B2d (sT:=u) (cap:=cap) hC h hT g1 hvw y2 y4 y5 y6 hH
       exact fin (by simp; omega) h4 r1 (fun ty=>by rw[y1,hev]; exact r2 ty)
      ·cases h4
     ·cases h2
    ·cases h2
   ·cases h2
  ·cases hp
 ·cases hp
theorem B1Z(z:Array Value)(n:Nat):(Builtin.zeroCells z n).toList=(List.replicate n z.toList).flatten:=by
 rcases Nat.eq_zero_or_pos z.size with h0|h0
 ·have hz:z= #[]:=Array.eq_empty_of_size_eq_zero h0
  subst hz
  simp[Builtin.zeroCells]
 ·exact A4Z z n h0
theorem B2P(hC:A1F P cx)(hZ:A2z P cx)(hE:A2y P cx)(h:Rel w0 Xo σ θ as a w){lev:Nat}{draw:Bool}{d:Option Tmp}{args:Array Operand}{ts:Array TypeId}
  (hp:A1u cx lev draw σ d (.call {callee:= .builtin .clear,args:=args,argTypes:=ts}) K=some r):
  ∃tv σ',K tv σ'=some r∧A1p P w0 Xo as a w (.call {callee:= .builtin .clear,args:=args,argTypes:=ts}) tv σ':=by
 simp only[A1u]at hp
 split at hp
 ·rename_i x t hargs hts
  have ha:args= #[x]:=by apply Array.ext'; simpa using hargs
  have htt:ts= #[t]:=by apply Array.ext'; simpa using hts
  subst ha; subst htt
  split at hp
  ·rename_i e hT
   obtain⟨h1,hp⟩:=A0a hp
   simp only[Bool.and_eq_true,decide_eq_true_eq]at h1
   obtain⟨q1,q2⟩:=h1
   have hu:=hE.elem t e hT
   have hty:=hC.ty _ _ q1
   obtain⟨inf,z,z1,z2,z3,z4⟩:=hZ.zero _ _ q1 q2
   have hx:=h.eval x
   split at hp
   ·rename_i i rt p s lo hi hex
    obtain⟨h3,hp⟩:=A0a hp
    have hse:s=e:=by simpa using h3
    subst hse
    rw[hex]at hx
    obtain⟨o,ho,hv⟩:=A4v hx
    split at hp
    ·rename_i E0 e0 xs0 hg
     split at hp
     ·rename_i H' hH
      obtain⟨hle,adv,capv,hva,hc1,hc2,hmm⟩:=hv
      have fin:∀w',Rel w0 Xo {σ with heap:=H'} θ as a w'→(∀ ty,(Builtin.clear_ #[t] ty #[a.eval x]).run P w= .ok (.tuple #[]) w')→∃tv σ',K tv σ'=some r∧A1p P w0 Xo as a w (.call {callee:= .builtin .clear,args:= #[x],argTypes:= #[t]}) tv σ':=by
       intro w' hr hrun
       refine⟨_,_,hp,θ,.tuple #[],w',hr,⟨[],rfl,rfl⟩,.inl fun o ho=> ?_⟩
       have:=hrun o.type
       simp[execOp,ho,resolve,invoke,builtin,this,Result.andThen]
      unfold A8Q at hH
      rw[hg]at hH
      simp only at hH
      split at hH
      ·rename_i q
       subst q
       split at hH
       ·obtain ⟨ht,hH⟩:=A0a hH
        injection hH with hH; subst hH
        obtain⟨vv,dx,g1,g2,g3⟩:=h.heap.blk i _ hg
        rw[g1]at ho; injection ho with ho; subst ho
        obtain⟨_,_,ad0,len0,cap0,hu0,hlen0,had,_⟩:=hmm
        subst hu0
        have hlxs:len0=xs0.length:=by
         rcases g2.2 with⟨k1,k2⟩|⟨g,cap1,cur,k1,_⟩
         ·injection k1 with _ k1 _; omega
         ·injection k1 with _ k1 _
        subst hlxs
        have hys:(List.replicate (hi-lo) e0.zero).take (hi-lo)=List.replicate (hi-lo) e0.zero:=List.take_of_length_le (by simp)
        rw[hys]at fin
        have hfit:lo+(List.replicate (hi-lo) e0.zero).length≤xs0.length:=by simp; omega
        have hzch:=A0y (w:=w) (X:=A0d Xo θ σ.heap) (A0u.noRef e0 _ hty) (hi-lo)
        by_cases hk0:hi-lo=0
        ·refine fin w ?_ fun ty=> ?_
         ·rw [hk0]
          simp only[List.replicate_zero]
          rw[B1c,A6s _ _ _ hg]; exact h
         ·rw [hva,hk0]
          cases adv<;>simp[Builtin.clear_,run_underlying hu]
        ·rcases had with had|⟨g,had,had2⟩
         ·exact absurd (by omega) hk0
         ·subst had; subst had2
          have hzl:=A0s (fun c x hx=>Rep.length e0 c x hx) hzch
          have hnew:=A5A (fun c x hx=>Rep.length e0 c x hx) (lo:=lo) g3 hzch hfit
          have hdl:=A0s (fun c x hx=>Rep.length e0 c x hx) g3
          have hin:lo*e0.size+((List.replicate (hi-lo) e0.zcells).flatten).length≤dx.length:=by
           rw[hzl,hdl,←Nat.add_mul]; exact Nat.mul_le_mul_right _ hfit
          obtain⟨own',hthere⟩:=A3a g2 (g:=g) rfl (o:=lo*e0.size) (vs:=(List.replicate (hi-lo) e0.zcells).flatten) hin
          have hbase:A0e θ i g:=by simp[A0e,g1,Own.has,Value.ownBlock]
          have hstep:=A1Z h hg hbase (blk':= .arr E0 e0 (A6D xs0 lo (List.replicate (hi-lo) e0.zero))) (lo*e0.size) ((List.replicate (hi-lo) e0.zcells).flatten)
          have hrel:=h.rewrite hg hbase (lo*e0.size) ((List.replicate (hi-lo) e0.zcells).flatten) (blk':= .arr E0 e0 (A6D xs0 lo (List.replicate (hi-lo) e0.zero))) ⟨_,_,g1,by rw[A4W _ _ _ hfit]; exact own',A0o (fun c x hx=>hstep.rep e0 c x hx) hnew⟩
          refine fin _ hrel fun ty=> ?_
          have hone:=A2n (fun c x hx=>Rep.one e0 c x hx) hzch
          have hst:=run_storeCells_cells (P:=P) g (lo*e0.size) ((List.replicate (hi-lo) e0.zcells).flatten) 0 w (fun j hj=>by simpa using(hthere j hj).1) (fun j hj=>by simpa using(hthere j hj).2) hone
          simp only[Nat.add_zero]at hst
          have hzc:(Builtin.zeroCells z.cells (hi-lo)).toList=(List.replicate (hi-lo) e0.zcells).flatten:=by rw[B1Z,z3]
          obtain⟨m,hm⟩:∃m,hi-lo=m+1:=⟨hi-lo-1,by omega⟩
          rw[hva]
          rw[hm]at hzc hst⊢
          simp[Builtin.clear_,run_underlying hu,z4,hzc,hst]
       ·cases hH
      ·cases hH
     ·cases hp
    ·cases hp
   ·cases hp
  ·cases hp
 ·cases hp
end Go.Ai
/- Maps of the call's own. -/
namespace Go.Ai
open Go.RowKit
open Go.MapKept
variable {P:Program} {cx:Cx} {w0:A0F} {Xo:Nat→Prop} {σ:St} {θ:Nat→Option Own} {as:List (Array Value)} {a:Act} {w:World} {R:Type} {r:R} {K:TV→St→Option R} {X:Nat→Prop}
theorem Rel.rewriteW(h:Rel w0 Xo σ θ as a w){i b:Nat}{blk blk':Blk}(hg:A0b σ.heap i=some blk)(hb:A0e θ i b){w':World}(hk:A0h (fun q=>q=b) w w')
  (hn:A0A w' (A0d Xo θ (A0I σ.heap i blk')) θ w0.may i blk'):Rel w0 Xo {σ with heap:=A0I σ.heap i blk'} θ as a w':=by
 have hXb:A0d Xo θ σ.heap b:= .inr ⟨i,by simp[hg],hb⟩
 have hstep:A1G (A0d Xo θ σ.heap) (A0d Xo θ (A0I σ.heap i blk')) w w':=⟨⟨fun q=>q=b,hk,fun q _ hq=>hq▸hXb⟩,fun q _ hq=>by simpa only[A0d,A2P hg]using hq⟩
 have hkeep:A0h w0.tk w0.w w':=h.keeps.may hk fun q hq=>hq▸A0F.may_any ((h.heap.blk i _ hg).lt b hb).1
 refine h.next id hkeep (fun tv v hv=>A0g.step hstep tv v (fun _ _=>rfl) hv) (by simp) (by simp) ⟨fun j bj hj=> ?_,fun j k hjk hj hk q=> ?_⟩ (fun hs=>⟨by simpa only[A2P hg]using hs,rfl⟩)
 ·rw [A2Z]at hj
  split at hj
  ·rename_i e; subst e
   simp only[hg,Option.map_some,Option.some.injEq]at hj
   subst hj
   exact hn
  ·rename_i e
   have hbj:=h.heap.blk j bj hj
   have:=hbj.go (w':=w') hstep rfl (θ':=θ) (fun g hgb=>hk.block g (hbj.lt g hgb).2 (fun hE=>by
    subst hE
    exact h.heap.inj j i e (by simp[hj]) (by simp[hg]) _ hgb hb)) id (fun c cs hc=>RV.step hstep false c cs (fun _ _=>rfl) hc) (fun c t h=>h)
   simpa[A7p]using this
 ·rw [A2P hg]at hj hk
  exact h.heap.inj j k hjk hj hk q
theorem A4n:{k:Ty}→k.keyB=true→k.hasRef=false
 | .int _,_| .bool,_| .str,_=>rfl
 | .arr _ (.int _),_=>rfl
theorem B3r:{k:Ty}→k.valB=true→k.keyB=true
 | .int _,_| .bool,_| .str,_=>rfl
theorem B4r:{k:Ty}→k.valB=true→k.isAgg=false
 | .int _,_| .bool,_| .str,_=>rfl
theorem A7v{α:Type}{S:List Value→α→Prop}(h:∀c d x,S c x→S d x→c=d):∀{xs:List α} {cs ds},A0l S cs xs→A0l S ds xs→cs=ds
 | [],cs,ds,hc,hd=>by simp only[A0l]at hc hd; rw[hc,hd]
 |x::xs,cs,ds,⟨c1,c2,e,h1,h2⟩,⟨d1,d2,f,g1,g2⟩=>by rw[e,f,h c1 d1 x h1 g1,A7v h h2 g2]
theorem B4O:{k:Ty}→k.keyB=true→{cs ds:List Value}→{x:k.den}→Rep w X k cs x→Rep w X k ds x→cs=ds
 | .int _,_,_,_,_,h,g=>h.1.trans g.1.symm
 | .bool,_,cs,ds,x,h,g=>by have h':cs=[.bool x]:=h; have g':ds=[.bool x]:=g; rw[h',g']
 | .str,_,_,_,_,⟨s,h1,h2,_⟩,⟨r,g1,g2,_⟩=>by rw[h1,g1,A2c (h2.symm.trans g2)]
 | .arr _ (.int _),_,_,_,_,h,g=>A7v (fun c d x (hc:Rep w X (.int _) c x) (hd:Rep w X (.int _) d x)=>hc.1.trans hd.1.symm) h.2 g.2
theorem B2I{b:Bool}{u v:Value}{cs:List Value}(h:A0i b u cs)(g:A0i b v cs):u=v:=by
 cases b with
 |true=>have h':u=_:=h; have g':v=_:=g; rw[h',g']
 |false=>
  have h':cs=[u]:=h; have g':cs=[v]:=g
  rw[h']at g'; simpa using g'
theorem B0F{q:IntKind}:∀{xs:List Int} {cs},A0l (Rep w X (.int q)) cs xs→∀v∈cs,∃n,v= .int q n
 | [],cs,hc=>by simp only[A0l]at hc; simp[hc]
 |x::xs,cs,⟨c1,c2,e,h1,h2⟩=>by
  intro v hv
  have e1:c1=[.int q x]:=h1.1
  rw[e,e1]at hv
  simp only[List.cons_append,List.nil_append,List.mem_cons]at hv
  rcases hv with hv|hv
  ·exact ⟨x,hv⟩
  ·exact B0F h2 v hv
theorem B1i{f:Value→Value→Bool}:∀{cs:List Value},(∀ v∈cs,f v v=true)→((cs.zip cs).all fun(x,y)=>f x y)=true
 | [],_=>rfl
 |c::cs,h=>by
  simp only[List.zip_cons_cons,List.all_cons,Bool.and_eq_true]
  exact⟨h c (by simp),B1i (fun v hv=>h v (by simp[hv]))⟩
theorem B3R:{k:Ty}→k.keyB=true→{cs:List Value}→{x:k.den}→{v:Value}→Rep w X k cs x→A0i k.isAgg v cs→Instr.sameBits 10000 v v=true
 | .int q,_,cs,x,v,h,hv=>by have: [v]=[Value.int q x]:=(show cs=[v]from hv).symm.trans h.1; simp only[List.cons.injEq,and_true]at this; subst this; simp[Instr.sameBits]
 | .bool,_,cs,x,v,h,hv=>by have: [v]=[Value.bool x]:=(show cs=[v]from hv).symm.trans h; simp only[List.cons.injEq,and_true]at this; subst this; simp[Instr.sameBits]
 | .str,_,cs,x,v,⟨s,h,_⟩,hv=>by have: [v]=[Value.string s]:=(show cs=[v]from hv).symm.trans h; simp only[List.cons.injEq,and_true]at this; subst this; simp[Instr.sameBits,bytes_beq]
 | .arr n (.int q),_,cs,x,v,h,hv=>by
  have hv':v= .agg cs.toArray:=hv
  subst hv'
  have hi:=B0F h.2
  show Instr.sameBits (9999+1) _ _=true
  simp only[Instr.sameBits,beq_self_eq_true,Bool.true_and]
  refine B1i fun v hv=> ?_
  obtain⟨n,rfl⟩:=hi v (by simpa using hv)
  simp[Instr.sameBits]
theorem A9v{k:Ty}{T:TypeId}(hk:k.keyB=true)(hT:(A0u P k).1 T)(em:Bool){cs:List Value}{x:k.den}{v:Value}(hr:Rep w X k cs x)(hv:A0i k.isAgg v cs):(Instr.checkKey em 10000 T v).run P w= .ok () w:=by
 cases k with
 |int q=>
  have: [v]=[Value.int q x]:=(show cs=[v]from hv).symm.trans hr.1
  simp only[List.cons.injEq,and_true]at this; subst this
  exact run_checkKey (d:= .int q) hT.1 (by simp[IsKey]) em 9999
 |bool=>
  have: [v]=[Value.bool x]:=(show cs=[v]from hv).symm.trans hr
  simp only[List.cons.injEq,and_true]at this; subst this
  exact run_checkKey (d:= .bool) hT.1 (by simp[IsKey]) em 9999
 |str=>
  obtain⟨s,h1,_⟩:=hr
  have: [v]=[Value.string s]:=(show cs=[v]from hv).symm.trans h1
  simp only[List.cons.injEq,and_true]at this; subst this
  exact run_checkKey (d:= .string) hT.1 (by simp[IsKey]) em 9999
 |arr n e=>
  cases e with
  |int q=>
   obtain⟨⟨E,hu,hE⟩,_⟩:=hT
   have hv':v= .agg cs.toArray:=hv
   subst hv'
   obtain⟨hl,hc⟩:=hr
   have hsz:=A0u.size _ E hE
   unfold Program.hasSize at hsz
   cases hq:P.info? E with
   |none=>simp[hq]at hsz
   |some i=>
    have hs:i.size=1:=by simpa[hq,Ty.size]using hsz
    have hcell:P.cellsOf E=1:=by simp[Program.cellsOf,hq,hs]
    rw[show (10000:Nat)=9999+1 from rfl,Instr.checkKey]
    simp only[Sem.run_bind,run_underlying hu,Result.andThen_ok]
    simp only[Std.Legacy.Range.forIn_eq_forIn_range',Std.Legacy.Range.size,Nat.sub_zero,Nat.add_one_sub_one,Nat.div_one]
    have each:∀j∈List.range' 0 n,∃m,(part E cs.toArray j).run P w= .ok (.int q m) w:=by
     intro j hj
     have hj':j<n:=by simpa using hj
     obtain⟨c1,c,c2,p1,p2,p3⟩:=A6n (fun c x hx=>Rep.length (.int q) c x hx) j _ hc (List.getElem?_eq_getElem (by omega))
     obtain⟨u,r1,r2⟩:=A1o (w:=w) hE p1 (Rep.length (.int q) c _ p3)
     have: [u]=[Value.int q _]:=(show c=[u]from r2).symm.trans p3.1
     simp only[List.cons.injEq,and_true]at this; subst this
     rw[p2]at r1
     simp only[Ty.size,Nat.mul_one]at r1
     exact⟨_,r1⟩
    generalize List.range' 0 n=is at each
    induction is with
    |nil=>simp
    |cons j is ih=>
     obtain⟨m,hm⟩:=each j (by simp)
     have p2:=run_checkKey (P:=P) (w:=w) (k:= .int q m) hE.1 (by simp[IsKey]) em 9998
     simp only[List.forIn_cons,Sem.run_bind,run_sizeOf w hq,hcell,Nat.mul_one,Result.andThen_ok,hm,p2,Sem.run_pure]
     exact ih (fun y hy=>each y (by simp[hy]))
  |_=>cases hk
 |_=>cases hk
def A2Y(k v:Ty):List (k.den×v.den)→List MapEntry→k.den→Nat→Option (Nat×Value)
 |q::xs,e::es,x,i=>cond (eqd k x q.1) (some (i,e.val)) (A2Y k v xs es x (i+1))
 |_,_,_,_=>none
theorem A9w{k v:Ty}{T:TypeId}(hk:k.keyB=true)(hh:k.height<10000)(hT:(A0u P k).1 T){cs:List Value}{x:k.den}{u:Value}(hr:Rep w X k cs x)(hu:A0i k.isAgg u cs):∀(es:List MapEntry) (xs:List (k.den×v.den)) (i:Nat),A2V k v es xs→
  (Instr.findAsking T u es i).run P w= .ok (A2Y k v xs es x i) w
 | [],[],i,_=>by simp[Instr.findAsking,A2Y]
 |e::es,q::xs,i,⟨⟨⟨ds,h1,h2⟩,_⟩,h4⟩=>by
  have heq:(Op.equal T u e.key).run P w= .ok (eqd k x q.1) w:=A4a P w X 10000 k hh (A4n hk) T hT x q.1 cs ds u e.key hr (h2 w X) hu h1
  simp only[Instr.findAsking,Sem.run_bind,heq,Result.andThen_ok,A2Y]
  cases eqd k x q.1 with
  |true=>simp
  |false=>simpa using A9w hk hh hT hr hu es xs (i+1) h4
 | [],_::_,_,h=>h.elim
 |_::_,[],_,h=>h.elim
def A7w:Ty→TypeDesc→Prop
 | .int q,d=>d= .int q
 | .bool,d=>d= .bool
 | .str,d=>d= .string
 |_,_=>False
theorem A8V{k v:Ty}{d:TypeDesc}(hd:A7w k d){cs:List Value}{x:k.den}{u:Value}(hr:Rep w X k cs x)(hu:A0i k.isAgg u cs):∀(es:List MapEntry) (xs:List (k.den×v.den)) (i:Nat),A2V k v es xs→
  Instr.findNow d u es i=some (A2Y k v xs es x i)
 | [],[],i,_=>by simp[Instr.findNow,A2Y]
 |e::es,q::xs,i,⟨⟨⟨ds,h1,h2⟩,_⟩,h4⟩=>by
  have hs:Instr.sameNow d u e.key=some (eqd k x q.1):=by
   cases k with
   |int m=>
    have e1: [u]=[Value.int m x]:=(show cs=[u]from hu).symm.trans hr.1
    have e2: [e.key]=[Value.int m q.1]:=(show ds=[e.key]from h1).symm.trans (h2 w X).1
    simp only[List.cons.injEq,and_true]at e1 e2
    have hd':=hd; simp only[A7w]at hd'; rw[hd',e1,e2]
    have:(x == q.1)=decide (x=q.1):=by rw[Bool.eq_iff_iff]; simp
    simp[Instr.sameNow,eqd,this]
   |bool=>
    have e1: [u]=[Value.bool x]:=(show cs=[u]from hu).symm.trans hr
    have e2: [e.key]=[Value.bool q.1]:=(show ds=[e.key]from h1).symm.trans (h2 w X)
    simp only[List.cons.injEq,and_true]at e1 e2
    have hd':=hd; simp only[A7w]at hd'; rw[hd',e1,e2]
    simp only[Instr.sameNow,eqd]
    obtain⟨y,z⟩:=q
    cases x<;>cases y<;>rfl
   |str=>
    obtain⟨s,g1,g2,_⟩:=hr
    obtain⟨t,g3,g4,_⟩:=h2 w X
    have e1: [u]=[Value.string s]:=(show cs=[u]from hu).symm.trans g1
    have e2: [e.key]=[Value.string t]:=(show ds=[e.key]from h1).symm.trans g3
    simp only[List.cons.injEq,and_true]at e1 e2
    have hd':=hd; simp only[A7w]at hd'; rw[hd',e1,e2]
    simp only[Instr.sameNow,eqd,Option.some.injEq]
    by_cases hst:s=t
    ·have:x=q.1:=by rw[g2,g4,hst]
     rw[decide_eq_true this]; exact(bytes_beq s t).2 hst
    ·have:x≠q.1:=fun hx=>hst (A2c (by rw[← g2,←g4,hx]))
     rw[decide_eq_false this]
     cases hb:s == t with
     |false=>rfl
     |true=>exact absurd ((bytes_beq s t).1 hb) hst
   |_=>exact hd.elim
  simp only[Instr.findNow,hs,A2Y]
  cases eqd k x q.1 with
  |true=>rfl
  |false=>exact A8V hd hr hu es xs (i+1) h4
 | [],_::_,_,h=>h.elim
 |_::_,[],_,h=>h.elim
theorem B0V{k v:Ty}{T:TypeId}(hk:k.keyB=true)(hh:k.height<10000)(hT:(A0u P k).1 T){cs:List Value}{x:k.den}{u:Value}(hr:Rep w X k cs x)(hu:A0i k.isAgg u cs){es:List MapEntry}{xs:List (k.den×v.den)}(he:A2V k v es xs):
  (Instr.findKey T u es).run P w= .ok (A2Y k v xs es x 0) w:=by
 have small:∀d,P.underlying T=some d→A7w k d→(Instr.findKey T u es).run P w= .ok (A2Y k v xs es x 0) w:=fun d hd hm=>run_findKey hd (A8V hm hr hu es xs 0 he)
 cases k with
 |int q=>exact small _ hT.1 rfl
 |bool=>exact small _ hT.1 rfl
 |str=>exact small _ hT.1 rfl
 |arr n e=>
  have hask:=A9w hk hh hT hr hu es xs 0 he
  obtain⟨⟨E,h1,_⟩,_⟩:=hT
  cases es with
  |nil=>
   cases xs with
   |nil=>simp[Instr.findKey,run_underlying h1,Instr.findNow,A2Y,Result.andThen]
   |cons _ _=>exact he.elim
  |cons e0 es=>
   rw[← hask]
   simp[Instr.findKey,run_underlying h1,Instr.findNow,Instr.sameNow,Result.andThen]
 |_=>cases hk
theorem A5C{k v:Ty}{x:k.den}(y:v.den):∀(es:List MapEntry) (xs:List (k.den×v.den)) (i:Nat),A2V k v es xs→A2Y k v xs es x i=none→A7N k v xs x=none∧∀e',A9M k v e' (x,y)→A2V k v (es++[e']) (A8c k v xs x y)
 | [],[],i,_,_=>⟨rfl,fun e' h=>⟨h,trivial⟩⟩
 |e::es,q::xs,i,⟨h1,h2⟩,hf=>by
  simp only[A2Y]at hf
  cases hb:eqd k x q.1 with
  |true=>simp[hb]at hf
  |false=>
   rw[hb]at hf
   obtain⟨g1,g2⟩:=A5C y es xs (i+1) h2 hf
   exact⟨by simp only[A7N,hb,cond,g1],fun e' he=>by simp only[A8c,hb,cond,List.cons_append]; exact⟨h1,g2 e' he⟩⟩
 | [],_::_,_,h,_=>h.elim
 |_::_,[],_,h,_=>h.elim
theorem A5D{k v:Ty}(hk:k.keyB=true){x:k.den}(y:v.den){j:Nat}{u:Value}:∀(es:List MapEntry) (xs:List (k.den×v.den)) (i:Nat),A2V k v es xs→A2Y k v xs es x i=some (j,u)→
  ∃n e z,j=i+n∧es[n]? =some e∧e.val=u∧A9M k v e (x,z)∧A7N k v xs x=some z∧∀e',A9M k v e' (x,y)→A2V k v (es.set n e') (A8c k v xs x y)
 |e::es,q::xs,i,⟨h1,h2⟩,hf=>by
  simp only[A2Y]at hf
  cases hb:eqd k x q.1 with
  |true=>
   rw[hb]at hf
   simp only[cond,Option.some.injEq,Prod.mk.injEq]at hf
   have hx:x=q.1:=(A9N k (A4n hk) x q.1).1 hb
   exact⟨0,e,q.2,by omega,rfl,hf.2,by rw[hx]; exact h1,by simp[A7N,hb],fun e' he=>by simp only[A8c,hb,cond,List.set_cons_zero]; exact⟨he,h2⟩⟩
  |false=>
   rw[hb]at hf
   obtain⟨n,e0,z,g1,g2,g3,g4,g5,g6⟩:=A5D hk y es xs (i+1) h2 hf
   exact⟨n+1,e0,z,by omega,by simpa using g2,g3,g4,by simp only[A7N,hb,cond,g5],fun e' he=>by simp only[A8c,hb,cond,List.set_cons_succ]; exact⟨h1,g6 e' he⟩⟩
 | [],[],_,_,hf=>by simp[A2Y]at hf
 | [],_::_,_,h,_=>h.elim
 |_::_,[],_,h,_=>h.elim
theorem A6C{tv:TV}{t:Ty}{x:t.den}{v:Value}(hp:A1i tv t=some x)(hv:A0g w X θ tv v):∃cs,A0i t.isAgg v cs∧Rep w X t cs x:=by
 have hagg:tv.isAgg=t.isAgg∧(∀ c,tv≠ .tup c)∧tv≠ .dead∧tv≠ .und:=by
  cases tv with
  |pv s y=>
   simp only[A1i]at hp
   split at hp
   ·rename_i e; subst e; exact⟨rfl,by simp,by simp,by simp⟩
   ·cases hp
  |_=>cases t<;>simp_all[A1i,TV.isAgg,Ty.isAgg]
 obtain⟨h1,h2,h3,h4⟩:=hagg
 obtain⟨cs,g1,g2⟩:=A2k h2 h3 h4 hv
 exact⟨cs,by rw[← h1]; exact g1,A1R tv t x cs hp g2⟩
theorem B0x(hC:A1F P cx)(hE:A2y P cx)(h:Rel w0 Xo σ θ as a w){lev:Nat}{draw:Bool}{d:Option Tmp}{T:TypeId}{l:Option Operand}(hp:A1u cx lev draw σ d (.makeMap T l) K=some r):
  ∃tv σ',K tv σ'=some r∧A1p P w0 Xo as a w (.makeMap T l) tv σ':=by
 cases l with
 |some l=>simp[A1u]at hp
 |none=>
  simp only[A1u]at hp
  split at hp
  ·rename_i q hq
   split at hp
   ·rename_i k v hk hv
    obtain⟨h1,h2⟩:=A0a hp
    have hid:=A1c lev d
    have hrel:=h.add (A0R lev d) hid (.map k v []) (.tre (B0M w.heap.size) [w.heap.size]) (w':=w.alloc (.map #[] 0)) none (A0h.alloc _ w _) (fun b hb=>by cases hb) (fun b hb=>by
     simp only[Own.has,List.mem_singleton]at hb; subst hb; exact .inl (Nat.le_refl _)) ⟨w.heap.size,#[],0,A0n _ _ _,h.new hid (Nat.le_refl _),(heap_alloc w _).1,trivial⟩
    refine⟨_,_,h2,_,.map (some w.heap.size),_,hrel,⟨[.map (some w.heap.size)],rfl,B0M w.heap.size,[w.heap.size],.map (some w.heap.size),A0n _ _ _,rfl,rfl,rfl⟩,.inl fun o ho=> ?_⟩
    have hm:(Instr.makeMap T none).run P w= .ok (.map (some w.heap.size)) (w.alloc (.map #[] 0)):=rfl
    simp[execOp,ho,hm,Result.andThen]
   ·cases hp
  ·cases hp
theorem B2o{j:Nat}{e:Ty}{u:Value}{k v:Ty}{xs:List (k.den×v.den)}(h:Rel w0 Xo σ θ as a w)(hg:A0b σ.heap j=some (.map k v xs))(hu:A0g w (A0d Xo θ σ.heap) θ (.inn j [.fld 0] e) u):
  ∃r es clock,θ j=some (.tre (B0M r) [r])∧u= .map (some r)∧w0.may j r∧w.heap[r]? =some (.map es clock)∧A2V k v es.toList xs:=by
 obtain⟨r,es,clock,e1,e2,e3,e4⟩:=h.heap.blk j _ hg
 obtain⟨cs,g1,sk,L,v',g2,g3,g4,_⟩:=hu
 rw[e1]at g2
 injection g2 with g2
 injection g2 with g2 g5
 subst g2
 simp only[B0M,Option.some.injEq]at g3
 subst g3
 have:cs=[u]:=g1
 rw[g4]at this
 exact⟨r,es,clock,e1,by simpa using this.symm,e2,e3,e4⟩
theorem B1y(hC:A1F P cx)(hZ:A2z P cx)(hE:A2y P cx)(h:Rel w0 Xo σ θ as a w){lev:Nat}{draw:Bool}{d:Option Tmp}{T:TypeId}{m x:Operand}{ok:Bool}(hp:A1u cx lev draw σ d (.lookup T m x ok) K=some r):
  ∃tv σ',K tv σ'=some r∧A1p P w0 Xo as a w (.lookup T m x ok) tv σ':=by
 simp only[A1u]at hp
 split at hp
 ·rename_i q j e hq hm
  split at hp
  ·rename_i k v xs hg
   obtain⟨h1,h2⟩:=A0a hp
   simp only[Bool.and_eq_true,decide_eq_true_eq]at h1
   obtain⟨⟨⟨⟨hk,hv⟩,htk⟩,htv⟩,hz⟩:=h1
   split at h2
   ·rename_i y hy
    have hmv:=h.eval m
    rw[hm]at hmv
    obtain⟨r0,es,clock,e1,e2,e3,e4,e5⟩:=B2o h hg hmv
    obtain⟨cs,g1,g2⟩:=A6C hy (h.eval x)
    obtain⟨hu,⟨inf,z,hi,hz1,hz2⟩,_⟩:=hE.mp T q hq
    obtain⟨inf',z',k1,k2,k3,k4⟩:=hZ.zero q.2 v htv hz
    have hck:=A9v (w:=w) hk (hC.ty _ _ htk) es.isEmpty g2 g1
    have hfd:=B0V (w:=w) hk (hC.high _ _ htk) (hC.ty _ _ htk) g2 g1 e5
    have run0:∀o:Oper,o.op= .lookup T m x false→(execOp a.eval o).run P w=((Instr.lookup T (.map (some r0)) (a.eval x) false).run P w).andThen fun v w=> .ok (.value v) w:=by
     intro o ho
     simp[execOp,ho,e2]
    cases hf:A2Y k v xs es.toList y 0 with
    |none=>
     have hl:=(A5C (v:=v) v.zero es.toList xs 0 e5 hf).1
     rw[hl]at h2
     rw[hf]at hfd
     have hzz:z'=z:=by rw[hi]at k1; injection k1 with k1; subst k1; rw[hz1]at k2; injection k2 with k2; exact k2.symm
     subst hzz
     refine⟨_,_,h2,θ,z',w,h,?_,.inl fun o ho=> ?_⟩
     ·refine ⟨v.zcells,?_,?_⟩
      ·have hag:=B4r hv
       show A0i v.isAgg z' v.zcells
       rw[hag]
       show v.zcells=[z']
       rw[← k3]
       cases z'<;>first|rfl|cases hz2
      ·cases v with
       |int _=>exact(A4B (w:=w) (X:=A0d Xo θ σ.heap) (θ:=θ) (.int _) rfl).1
       |bool=>exact(A4B (w:=w) (X:=A0d Xo θ σ.heap) (θ:=θ) .bool rfl).1
       |str=>exact(A4B (w:=w) (X:=A0d Xo θ σ.heap) (θ:=θ) .str rfl).1
       |_=>cases hv
     ·rw [run0 o ho]
      simp[Instr.lookup,run_underlying hu,Go.MapKept.run_getObj_map e4,hck,hfd,k4,Result.andThen]
    |some jv=>
     obtain⟨n,val⟩:=jv
     obtain⟨n',e0,z0,f1,f2,f3,f4,f5,_⟩:=A5D (v:=v) hk v.zero es.toList xs 0 e5 hf
     rw[f5]at h2
     rw[hf]at hfd
     obtain⟨_,vs,f6,f7⟩:=f4
     refine⟨_,_,h2,θ,val,w,h,⟨vs,by rw[← f3]; exact f6,f7 _ _⟩,.inl fun o ho=> ?_⟩
     rw[run0 o ho]
     simp[Instr.lookup,run_underlying hu,Go.MapKept.run_getObj_map e4,hck,hfd,Result.andThen]
   ·cases h2
  ·cases hp
 ·cases hp
theorem A0h.setObj{r:Nat}(o:Obj):A0h (fun q=>q=r) w {w with heap:=w.heap.setIfInBounds r o}:=
 ⟨rfl,rfl,rfl,Nat.le_refl _,by simp,fun k hk hr=>by simp[Ne.symm hr]⟩
theorem A8u(hC:A1F P cx)(hE:A2y P cx)(h:Rel w0 Xo σ θ as a w){lev:Nat}{draw:Bool}{d:Option Tmp}{T:TypeId}{m x y:Operand}(hp:A1u cx lev draw σ d (.mapUpdate T m x y) K=some r):
  ∃tv σ',K tv σ'=some r∧A1p P w0 Xo as a w (.mapUpdate T m x y) tv σ':=by
 simp only[A1u]at hp
 split at hp
 ·rename_i q j e hq hm
  split at hp
  ·rename_i k v xs hg
   obtain⟨h1,h2⟩:=A0a hp
   simp only[Bool.and_eq_true,decide_eq_true_eq]at h1
   obtain⟨⟨hk,hv⟩,htk⟩:=h1
   split at h2
   ·rename_i z u hz hu
    have hmv:=h.eval m
    rw[hm]at hmv
    obtain⟨r0,es,clock,e1,e2,e3,e4,e5⟩:=B2o h hg hmv
    obtain⟨cs,g1,g2⟩:=A6C hz (h.eval x)
    obtain⟨ds,g3,g4⟩:=A6C hu (h.eval y)
    obtain⟨hun,_⟩:=hE.mp T q hq
    have hck:=A9v (w:=w) hk (hC.ty _ _ htk) false g2 g1
    have hfd:=B0V (w:=w) hk (hC.high _ _ htk) (hC.ty _ _ htk) g2 g1 e5
    have hb:A0e θ j r0:=by simp[A0e,e1,Own.has]
    have hkey:∀w' X',Rep w' X' k cs z:=fun w' X'=>A0S k (A4n hk) cs z g2
    have hval:∀w' X',Rep w' X' v ds u:=fun w' X'=>A0S v (A4n (B3r hv)) ds u g4
    have run0:∀w',(Instr.mapUpdate T (.map (some r0)) (a.eval x) (a.eval y)).run P w= .ok () w'→∀o:Oper,o.op= .mapUpdate T m x y→(execOp a.eval o).run P w= .ok .skip w':=by
     intro w' hr o ho
     simp[execOp,ho,e2,hr,Result.andThen]
    cases hf:A2Y k v xs es.toList z 0 with
    |none=>
     rw[hf]at hfd
     obtain⟨_,hadd⟩:=A5C (v:=v) u es.toList xs 0 e5 hf
     have hnew:A0A {w with heap:=w.heap.setIfInBounds r0 (.map (es.push {key:=a.eval x,val:=a.eval y,born:=clock}) (clock+1))} (A0d Xo θ (A0I σ.heap j (.map k v (A8c k v xs z u)))) θ w0.may j (.map k v (A8c k v xs z u)):=
      ⟨r0,_,_,e1,e3,(heap_set e4).1,by rw[Array.toList_push]; exact hadd _ ⟨⟨cs,g1,hkey⟩,ds,g3,hval⟩⟩
     exact⟨_,_,h2,θ,undef,_,h.rewriteW hg hb (A0h.setObj _) hnew,trivial,.inr ⟨rfl,run0 _ (by
      simp[Instr.mapUpdate,run_underlying hun,Go.MapKept.run_getObj_map e4,hck,hfd,Go.MapKept.run_setObj_map _ e4,Result.andThen])⟩⟩
    |some jv=>
     obtain⟨n,val⟩:=jv
     rw[hf]at hfd
     obtain⟨n',e0,z0,f1,f2,f3,f4,f5,f6⟩:=A5D (v:=v) hk u es.toList xs 0 e5 hf
     have hn:n=n':=by omega
     subst hn
     have hsame:e0.key=a.eval x:=by
      obtain⟨⟨cs',p1,p2⟩,_⟩:=f4
      have:cs'=cs:=B4O (w:=w) (X:=A0d Xo θ σ.heap) hk (p2 _ _) g2
      subst this
      exact B2I p1 g1
     have hstay:(Instr.keyThatStays (a.eval x) (a.eval x)).run P w= .ok (a.eval x) w:=by
      simp[Instr.keyThatStays,B3R hk g2 g1]
     have hes:es[n]? =some e0:=by simpa using f2
     have hmod:(es.modify n fun e=>{e with key:=a.eval x,val:=a.eval y}).toList=es.toList.set n {e0 with key:=a.eval x,val:=a.eval y}:=by
      rw[Array.toList_modify]
      apply List.ext_getElem?
      intro i
      rw[List.getElem?_modify,List.getElem?_set]
      have hlt:=(List.getElem?_eq_some_iff.1 f2).1
      by_cases hi:n=i
      ·subst hi
       rw[if_pos rfl,if_pos hlt,f2]
       simp
      ·simp [hi]
     have hnew:A0A {w with heap:=w.heap.setIfInBounds r0 (.map (es.modify n fun e=>{e with key:=a.eval x,val:=a.eval y}) clock)} (A0d Xo θ (A0I σ.heap j (.map k v (A8c k v xs z u)))) θ w0.may j (.map k v (A8c k v xs z u)):=
      ⟨r0,_,_,e1,e3,(heap_set e4).1,by rw[hmod]; exact f6 _ ⟨⟨cs,g1,hkey⟩,ds,g3,hval⟩⟩
     exact⟨_,_,h2,θ,undef,_,h.rewriteW hg hb (A0h.setObj _) hnew,trivial,.inr ⟨rfl,run0 _ (by
      simp[Instr.mapUpdate,run_underlying hun,Go.MapKept.run_getObj_map e4,hck,hfd,hes,hsame,hstay,Go.MapKept.run_setObj_map _ e4,Result.andThen])⟩⟩
   ·cases h2
  ·cases hp
 ·cases hp
end Go.Ai
/- Slices that grow: append. -/
namespace Go.Ai
open Go.RowKit
variable {P:Program} {cx:Cx} {w0:A0F} {Xo:Nat→Prop} {σ:St} {θ:Nat→Option Own} {as:List (Array Value)} {a:Act} {w:World} {R:Type} {r:R} {K:TV→St→Option R} {X:Nat→Prop} {h:A0m}
theorem A6j(hC:A1F P cx)(hZ:A2z P cx)(hE:A2y P cx){T ty:TypeId}{e:Ty}(hT:cx.ty T=some (.slice e))(q1:cx.ty (cx.elem T)=some e)(q2:cx.zok (cx.elem T)=true)(q3:1≤e.size)
  {base:Nat→Prop} (hbase:∀b,w.heap.size≤b→base b) {v:Value} {n:Nat} {dx:List Value} (hown:A0E w base (cx.elem T) e.size v n dx)
  {ad:Option Addr} {m cap:Nat} {dy:List Value} (hl:dy.length=m*e.size) (h1:∀u∈dy,u.oneCell'=true) (hy:dy=[]∨∃b o,ad=some ⟨b,o,none⟩∧w.rangeAt b o dy)
  (h63:n+m≤maxLen) (hby:(n+m)*cx.bytes (cx.elem T)≤140737488355328):
  ∃v' w',(Builtin.append_ #[T,T] ty #[v,.slice ad m cap]).run P w= .ok v' w'∧A0E w' base (cx.elem T) e.size v' (n+m) (dx++dy)∧A0h (fun b=>some b=v.ownBlock) w w'∧(v'.ownBlock=v.ownBlock∨v'.ownBlock=some w.heap.size):=by
 have hu:=hE.elem T e hT
 have hty:=hC.ty _ _ q1
 obtain⟨inf,z,z1,z2,z3,z4⟩:=hZ.zero _ _ q1 q2
 have hsz:=A0u.size e _ hty
 unfold Program.hasSize at hsz
 have hs:inf.size=e.size:=by simpa[z1]using hsz
 have hzs:z.cells.size=e.size:=by
  have:=Rep.length e e.zcells e.zero (A1d (w:=w) (X:=fun _=>False) e (A0u.noRef e _ hty))
  rw[← z3]at this; simpa using this
 have hbytes:inf.bytes=cx.bytes (cx.elem T):=(hE.bytes _ _ _ q1 z1).resolve_right (by simp[q2])
 cases ad with
 |some a=>
  have hc:∀j u,dy[j]? =some u→w.cell? (a.add j)=some u:=by
   intro j u hj
   rcases hy with hy|⟨b,o,hb,hr⟩
   ·subst hy; simp at hj
   ·injection hb with hb; subst hb
    rw[Addr.add_lit]; exact hr j u hj
  obtain⟨v',w',r1,r2,r3,_,r4⟩:=run_append_own_at (P:=P) w 0 T ty (cx.elem T) inf z e.size (cx.bytes (cx.elem T)) hu z1 z2 hs hbytes hzs q3 v n dx hown.row a m cap dy hl hc h1 h63 hby (Nat.zero_le _)
  exact⟨v',w',r1,A2i r2 (fun g hg=>by
   rcases r4 with r4|r4
   ·exact hown.may g (r4▸hg)
   ·rw [r4]at hg; injection hg with hg; subst hg; exact hbase _ (Nat.le_refl _)),⟨r3.os,r3.tape,r3.output,A0N _ _ r1,r3.size,fun k hk hn=>r3.block k hk hn⟩,r4⟩
 |none=>
  rcases hy with hy|⟨b,o,hb,hr⟩
  ·subst hy
   have hm:m=0:=by
    simp only[List.length_nil]at hl
    rcases Nat.eq_zero_or_pos m with h0|h0
    ·exact h0
    ·have:=Nat.mul_pos h0 q3; omega
   subst hm
   refine⟨v,w,?_,by simpa using hown,A0h.refl _ _,.inl rfl⟩
   rcases hown.2 with⟨rfl,rfl⟩|⟨g,c,cur,rfl,_,_,hnc,_⟩
   ·simp [Builtin.append_,run_underlying hu,sizeOf,typeInfo,z1,Builtin.lenOf,Builtin.firstCells]
   ·simp [Builtin.append_,run_underlying hu,sizeOf,typeInfo,z1,Builtin.lenOf,Builtin.firstCells,hnc,storeCells]
  ·cases hb
theorem A2T{α:Type}{R:List Value→α→Prop}:∀{xs ys:List α} {cs ds:List Value},A0l R cs xs→A0l R ds ys→A0l R (cs++ds) (xs++ys)
 | [],_,_,_,hx,hy=>by
  have:_=[]:=hx
  subst this; simpa using hy
 |x::xs,_,_,_,⟨c1,c2,h0,h1,h2⟩,hy=>⟨c1,c2++_,by rw[h0,List.append_assoc],h1,A2T h2 hy⟩
theorem A6y{u v:Option Nat}{n:Nat}(h:u=v∨u=some n):∀b,u=some b→v=some b∨n≤b:=by
 intro b hb
 rcases h with h|h
 ·exact .inl (h▸hb)
 ·rw [h]at hb; injection hb with hb; exact .inr (by omega)
theorem A3s(h:Rel w0 Xo σ θ as a w)(id:Nat)(hid:id≠PIN){E:TypeId}{e:Ty}{xs ys:List e.den}{v v':Value}{dx dy:List Value}{w':World}
  (hv:v.ownBlock=none∨∃q,θ id=some (.arr v)∧A0b σ.heap id=some q) (hx:A0l (Rep w (A0d Xo θ σ.heap) e) dx xs) (hy:A0l (Rep w (A0d Xo θ σ.heap) e) dy ys)
  (hown:A0E w' (w0.may id) E e.size v' (xs.length+ys.length) (dx++dy)) (hk:A0h (fun b=>some b=v.ownBlock) w w') (hb:∀b,v'.ownBlock=some b→v.ownBlock=some b∨w.heap.size≤b):
  Rel w0 Xo (σ.add id (.arr E e (xs++ys))) (A0x θ id (.arr v')) as a w'∧A0g w' (A0d Xo (A0x θ id (.arr v')) (σ.add id (.arr E e (xs++ys))).heap) (A0x θ id (.arr v')) (.sl id e) v':=by
 have hone:v'.oneCell'=true:=by
  rcases hown.2 with⟨rfl,_⟩|⟨g,c,cur,rfl,_⟩<;>rfl
 have hrow:∀b,v.ownBlock=some b→∃q,θ id=some (.arr v)∧A0b σ.heap id=some q:=by
  intro b hb2
  rcases hv with hv|hv
  ·rw [hv]at hb2; cases hb2
  ·exact hv
 have hlt:∀b,v.ownBlock=some b→w0.may id b∧A0d Xo θ σ.heap b:=by
  intro b hb2
  obtain⟨q,k1,k2⟩:=hrow b hb2
  have hbase:A0e θ id b:=by simp[A0e,k1,Own.has,hb2]
  exact⟨((h.heap.blk id q k2).lt b hbase).1,.inr ⟨id,by simp[k2],hbase⟩⟩
 have hX:∀b,b<w.heap.size→A0d Xo (A0x θ id (.arr v')) (σ.add id (.arr E e (xs++ys))).heap b→A0d Xo θ σ.heap b:=by
  intro b hlt2 hx
  rcases hx with hx|⟨j,h1,h2⟩
  ·exact .inl hx
  ·rw [A1r]at h1
   by_cases e1:j=id
   ·subst e1
    simp only[A0e,A0n,Option.bind_some,Own.has]at h2
    rcases hb b h2 with hb|hb
    ·exact (hlt b hb).2
    ·omega
   ·simp only[e1,if_false]at h1
    obtain⟨_,h3⟩:=(A0O σ.heap id j).1 h1
    exact .inr ⟨j,h3,by simpa[A0e,A0P _ _ _ j e1]using h2⟩
 have hst:A1G (A0d Xo θ σ.heap) (A0d Xo (A0x θ id (.arr v')) (σ.add id (.arr E e (xs++ys))).heap) w w':=⟨⟨fun b=>some b=v.ownBlock,hk,fun b _ hz=>(hlt b hz.symm).2⟩,hX⟩
 have hrel:=h.add id hid (.arr E e (xs++ys)) (.arr v') (w':=w') v.ownBlock hk (fun b hb2=>⟨A0F.may_any (hlt b hb2).1,.inl ?_⟩) (fun b hb2=> ?_) ?_
 ·exact ⟨hrel,_,rfl,_,A0n _ _ _,rfl,hone⟩
 ·obtain ⟨q,k1,k2⟩:=hrow b hb2
  refine⟨id,by simp[k2],by simp[A0e,k1,Own.has,hb2],?_⟩
  cases hs:(A0b (σ.kill id).heap id).isSome with
  |false=>rfl
  |true=>exact absurd rfl ((A0O σ.heap id id).1 hs).1
 ·simp only[Own.has]at hb2
  rcases hb b hb2 with hb|hb
  ·exact .inr hb
  ·exact .inl hb
 ·refine ⟨v',dx++dy,A0n _ _ _,by rw[List.length_append]; exact hown,?_⟩
  have mono:∀{zs:List e.den} {ds},A0l (Rep w (A0d Xo θ σ.heap) e) ds zs→A0l (Rep w' (A0d Xo (A0x θ id (.arr v')) (σ.add id (.arr E e (xs++ys))).heap) e) ds zs:=fun hc=>A0o (fun c x hx=>hst.rep e c x hx) hc
  exact A2T (mono hx) (mono hy)
theorem A4I{α:Type}{R:Nat→List Nat→List Value→α→Prop}:∀{xs ys:List α} {k:Nat} {L K:List Nat} {cs ds:List Value},A0C R k L cs xs→A0C R (k+xs.length) K ds ys→A0C R k (L++K) (cs++ds) (xs++ys)
 | [],_,k,L,K,cs,ds,⟨h1,h2⟩,hy=>by subst h1; subst h2; simpa using hy
 |x::xs,_,k,L,K,cs,ds,⟨L1,L2,c1,c2,h1,h2,h3,h4⟩,hy=>by
  subst h1; subst h2
  exact⟨L1,L2++K,c1,c2++ds,by simp,by simp,h3,A4I h4 (by rw[show k+1+xs.length=k+(x::xs).length by simp; omega]; exact hy)⟩
theorem A5m{α:Type}{R S:Nat→List Nat→List Value→α→Prop}(n:Nat)(h:∀k L c x,R k L c x→S (k+n) L c x):∀{xs:List α} {k:Nat} {L:List Nat} {cs:List Value},A0C R k L cs xs→A0C S (k+n) L cs xs
 | [],_,_,_,hc=>hc
 |x::xs,k,L,cs,⟨L1,L2,c1,c2,h1,h2,h3,h4⟩=>⟨L1,L2,c1,c2,h1,h2,h _ _ _ _ h3,by have:=A5m n h h4; rwa [show k+1+n=k+n+1 by omega]at this⟩
theorem A5l{α:Type}{R S:Nat→List Nat→List Value→α→Prop}(n:Nat)(h:∀k L c x,k<n→R k L c x→S k L c x):∀{xs:List α} {k:Nat} {L:List Nat} {cs:List Value},k+xs.length≤n→A0C R k L cs xs→A0C S k L cs xs
 | [],_,_,_,_,hc=>hc
 |x::xs,k,L,cs,hn,⟨L1,L2,c1,c2,h1,h2,h3,h4⟩=>⟨L1,L2,c1,c2,h1,h2,h k _ _ _ (by simp at hn; omega) h3,A5l n h (by simp at hn ⊢; omega) h4⟩
theorem A8r(hC:A1F P cx)(hZ:A2z P cx)(hE:A2y P cx)(h:Rel w0 Xo σ θ as a w){id:Nat}(hid:id≠PIN){t:TypeId}{s:DS}{x y:Operand}(hp:A7i cx σ id t s (σ.eval x) (σ.eval y) K=some r):
  ∃tv σ',K tv σ'=some r∧A1p P w0 Xo as a w (.call {callee:= .builtin .append,args:= #[x,y],argTypes:= #[t,t]}) tv σ':=by
 unfold A7i at hp
 obtain⟨h1,h2⟩:=A0a hp
 simp only[Bool.and_eq_true,decide_eq_true_eq]at h1
 obtain⟨⟨⟨hT,q1⟩,q2⟩,q3⟩:=h1
 have q3:=Nat.le_of_ble_eq_true q3
 split at h2
 ·rename_i xa ya hxa hya
  obtain⟨h3,h4⟩:=A0a h2
  simp only[Bool.and_eq_true,Bool.not_eq_true',List.any_eq_false]at h3
  obtain⟨h3,hpin⟩:=h3
  have hnd:=A4j h3
  have hpin':∀j∈xa.2++ya.2,j≠PIN:=fun j hj e=>hpin j hj (by rw[e]; exact Nat.beq_refl _)
  obtain⟨h5,h6⟩:=A0a h4
  simp only[Bool.and_eq_true,decide_eq_true_eq]at h5
  obtain⟨h51,h52⟩:=h5
  obtain⟨cx1,gx1,gx2⟩:=A4x hxa (h.eval x)
  obtain⟨cy1,gy1,gy2⟩:=A4x hya (h.eval y)
  have hnd':=List.nodup_append.1 hnd
  obtain⟨fx1,skx,Lx,fx2,fx3⟩:=A3m (M:=w0.may id) h.heap _ _ xa.1 xa.2 cx1 hxa gx2 (fun j hj b hb=>A0F.may_move hid (hpin' j (List.mem_append_left _ hj)) hb) hnd'.1
  obtain⟨fy1,sky,Ly,fy2,fy3⟩:=A3m (M:=w0.may id) h.heap _ _ ya.1 ya.2 cy1 hya gy2 (fun j hj b hb=>A0F.may_move hid (hpin' j (List.mem_append_right _ hj)) hb) hnd'.2.1
  have hs:∀j∈xa.2++ya.2,(A0b σ.heap j).isSome=true:=fun j hj=>(List.mem_append.1 hj).elim (fx1 j) (fy1 j)
  have hof:=Of.append h.heap fx3 fy3 hnd hs
  obtain⟨v,dx,Lx',ex1,ex2,ex3,ex4,ex5⟩:=fx2
  obtain⟨u,dy,Ly',ey1,ey2,ey3,ey4,ey5⟩:=fy2
  have hev:a.eval x=v:=by rw[ex1]at gx1; simpa[A0i,DS.ty,Ty.isAgg,eq_comm]using gx1
  have heu:a.eval y=u:=by rw[ey1]at gy1; simpa[A0i,DS.ty,Ty.isAgg,eq_comm]using gy1
  have hdy:∃ad cap,u= .slice ad ya.1.length cap∧(dy=[]∨∃b o,ad=some ⟨b,o,none⟩∧w.rangeAt b o dy):=by
   rcases ey4.2 with⟨k1,k2⟩|⟨g,cap,cur,k1,k2,k3,k4,k5,k6,k7⟩
   ·refine ⟨none,0,by rw[k1,k2],.inl ?_⟩
    have hl:=ey4.1
    rw[k2,Nat.zero_mul]at hl
    exact List.eq_nil_of_length_eq_zero hl
   ·refine ⟨_,cap,k1,.inr ⟨g,0,rfl,?_⟩⟩
    have:=A6Y ey4 (d1:=[]) (c:=dy) (d2:=[]) (by simp) (g:=g) (by rw[k1]; rfl)
    simpa using this
  obtain⟨ad,cap,hu,hry⟩:=hdy
  have h52':xa.1.length+ya.1.length≤maxLen:=by unfold maxLen; omega
  obtain⟨v',w',r1,r2,r3,r4⟩:=A6j (ty:=0) hC hZ hE hT q1 q2 q3 (fun b hb=>h.new hid hb) ex4 (ad:=ad) (m:=ya.1.length) (cap:=cap) ey4.1 (A6O (fun k L c x hx=>A0t.one s _ L c x hx) ey5) hry h52' h51
  have hlt:∀b∈Lx++Ly,b<w.heap.size:=fun b hb=>by
   obtain⟨j,j1,j2⟩:=hof.2 b hb
   obtain⟨b0,h0⟩:=Option.isSome_iff_exists.1 (hs j j1)
   exact((h.heap.blk j b0 h0).lt b j2).2
  have hnodup:=hof.1
  subst ex3; subst ey3
  have hkeep:∀b,b<w.heap.size→b∈Lx'++Ly'→w'.heap[b]? =w.heap[b]? :=fun b hlt hb=>r3.block b hlt (fun hz=>by
   have hvx:b∈v.ownBlock.toList:=by rw[← hz]; simp
   have h1:=List.nodup_append.1 hnodup
   rcases List.mem_append.1 hb with hb|hb
   ·exact (List.nodup_append.1 h1.1).2.2 b hvx b hb rfl
   ·exact h1.2.2 b (List.mem_append_left _ hvx) b (List.mem_append_right _ hb) rfl)
  have hk:A0h (fun b=>some b=v.ownBlock) w w':=r3
  let skf:Nat→List Sel→Option Value:=fun k p=>if k<xa.1.length then skx (.idx k::p)else sky (.idx (k-xa.1.length)::p)
  have hch:A0C (fun k=>A0t w' (w0.may id) (B1a v' skf) s (fun p=> .idx k::p)) 0 (Lx'++Ly') (dx++dy) (xa.1++ya.1):=by
   refine A4I ?_ ?_
   ·refine A5l xa.1.length (R:=fun k=>A0t w' (w0.may id) skx s (fun p=> .idx k::p)) (fun k L c x hk hx=> ?_) (by simp) (A1B (fun k L c x hL hx=>hx.go s _ L c x (fun g hg=>hkeep g (hlt g (by have:=hL g hg; simp[this])) (by have:=hL g hg; simp[this])) (fun _ _ h=>h)) ex5)
    refine A0t.ren s _ _ L c x (fun r=> ?_) hx
    show skf k r=_
    simp only[skf,hk,if_true]
   ·have:=A5m (R:=fun k=>A0t w' (w0.may id) sky s (fun p=> .idx k::p)) (S:=fun k=>A0t w' (w0.may id) (B1a v' skf) s (fun p=> .idx k::p)) xa.1.length (fun k L c x hx=>by
     refine A0t.ren s _ _ L c x (fun r=> ?_) hx
     show skf (k+xa.1.length) r=_
     have:¬k+xa.1.length<xa.1.length:=by omega
     simp only[skf,this,if_false,Nat.add_sub_cancel]) (A1B (fun k L c x hL hx=>hx.go s _ L c x (fun g hg=>hkeep g (hlt g (by have:=hL g hg; simp[this])) (by have:=hL g hg; simp[this])) (fun _ _ h=>h)) ey5)
    exact this
  have hbase:∀b∈v'.ownBlock.toList++(Lx'++Ly'),w.heap.size≤b∨∃j∈xa.2++ya.2,A0e θ j b:=by
   intro b hb
   rcases List.mem_append.1 hb with hb|hb
   ·rcases r4 with r4|r4
    ·rw [r4]at hb; exact .inr (hof.2 b (by simp only[List.mem_append]; exact .inl (.inl hb)))
    ·rw [r4]at hb; simp at hb; exact .inl (by omega)
   ·refine .inr (hof.2 b ?_)
    simp only[List.mem_append]at hb⊢
    rcases hb with hb|hb<;>simp[hb]
  have hndn:(v'.ownBlock.toList++(Lx'++Ly')).Nodup:=by
   have hsub:(v.ownBlock.toList++(Lx'++Ly')).Nodup:=by
    refine hnodup.sublist ?_
    rw[List.append_assoc]
    exact List.Sublist.append (List.Sublist.refl _) (List.Sublist.append (List.Sublist.refl _) (List.sublist_append_right _ _))
   rcases r4 with r4|r4
   ·rw [r4]; exact hsub
   ·rw [r4]
    refine List.nodup_append.2 ⟨by simp,(List.nodup_append.1 hsub).2.1,fun b hb c hc e=> ?_⟩
    simp at hb
    subst e
    have:=hlt b (by simp only[List.mem_append]at hc ⊢; rcases hc with hc|hc<;>simp[hc])
    omega
  have hrel:=h.addG (xa.2++ya.2) (fun j hj=>⟨hs j hj,hpin' j hj⟩) id hid (.tre (cx.elem t) s (xa.1++ya.1)) (.tre (B1a v' skf) (v'.ownBlock.toList++(Lx'++Ly'))) (w':=w') v.ownBlock hk (fun b hb=>hof.2 b (by simp[hb])) hbase
   ⟨B1a v' skf,_,v',A0n _ _ _,hndn,v',dx++dy,Lx'++Ly',rfl,rfl,rfl,by rw[List.length_append]; exact r2,hch⟩
  refine⟨_,_,h6,_,v',w',hrel,⟨[v'],rfl,_,_,v',A0n _ _ _,rfl,rfl,A6B r2⟩,.inl fun o ho=> ?_⟩
  subst hu
  have r1':∀ty,(Builtin.append_ #[t,t] ty #[v,.slice ad ya.1.length cap]).run P w= .ok v' w':=fun ty=>r1
  simp[execOp,ho,resolve,invoke,builtin,hev,heu,r1',Result.andThen]
 ·cases h2
theorem B1x(hC:A1F P cx)(hZ:A2z P cx)(hE:A2y P cx)(h:Rel w0 Xo σ θ as a w){lev:Nat}{draw:Bool}{d:Option Tmp}{args:Array Operand}{ts:Array TypeId}
  (hp:A1u cx lev draw σ d (.call {callee:= .builtin .append,args:=args,argTypes:=ts}) K=some r):
  ∃tv σ',K tv σ'=some r∧A1p P w0 Xo as a w (.call {callee:= .builtin .append,args:=args,argTypes:=ts}) tv σ':=by
 simp only[A1u]at hp
 split at hp
 ·rename_i x y t u hargs hts
  have ha:args= #[x,y]:=by apply Array.ext'; simpa using hargs
  have htt:ts= #[t,u]:=by apply Array.ext'; simpa using hts
  subst ha; subst htt
  split at hp
  ·rename_i s hdp
   obtain⟨hut,h2⟩:=A0a hp
   have hut:t=u:=by simpa using hut
   subst hut
   exact A8r hC hZ hE h (A1c lev d) h2
  split at hp
  ·rename_i e hT
   obtain⟨h1,h2⟩:=A0a hp
   simp only[Bool.and_eq_true,decide_eq_true_eq]at h1
   obtain⟨⟨⟨hut,q1⟩,q2⟩,q3⟩:=h1
   subst hut
   have q3:=Nat.le_of_ble_eq_true q3
   have hx:=h.eval x
   have hy:=h.eval y
   have one:∀{ds:List Value} {zs:List e.den},A0l (Rep w (A0d Xo θ σ.heap) e) ds zs→∀u∈ds,u.oneCell'=true:=fun hc=>A2n (fun c x hx=>Rep.one e c x hx) hc
   have len:∀{ds:List Value} {zs:List e.den},A0l (Rep w (A0d Xo θ σ.heap) e) ds zs→ds.length=zs.length*e.size:=fun hc=>A0s (fun c x hx=>Rep.length e c x hx) hc
   have run:∀{ad:Option Addr} {m cap:Nat} {v v':Value} {w':World},a.eval x=v→a.eval y= .slice ad m cap→(∀ ty,(Builtin.append_ #[t,t] ty #[v,.slice ad m cap]).run P w= .ok v' w')→
     ∀o:Oper,o.op= .call {callee:= .builtin .append,args:= #[x,y],argTypes:= #[t,t]}→(execOp a.eval o).run P w= .ok (.value v') w':=by
    intro ad m cap v v' w' e1 e2 hr o ho
    simp[execOp,ho,resolve,invoke,builtin,e1,e2,hr,Result.andThen]
   split at h2
   ·rename_i i e0 xs ys hex hcx hcy
    split at h2
    ·rename_i E e1 xs1 hg
     obtain⟨hE1,h3⟩:=A0a h2
     simp only[Bool.and_eq_true,decide_eq_true_eq,Bool.not_eq_true']at hE1
     obtain⟨hE1,hpin⟩:=hE1
     have hid:i≠PIN:=fun e=>by rw[e,Nat.beq_refl]at hpin; cases hpin
     subst hE1
     obtain⟨h4,h5⟩:=A0a h3
     simp only[Bool.and_eq_true,decide_eq_true_eq]at h4
     obtain⟨h41,h42⟩:=h4
     simp only[hex,A0Y,hg]at hcx
     split at hcx
     ·rename_i q; subst q
      split at hcx
      ·rename_i q; subst q
       injection hcx with hcx; subst hcx
       obtain⟨ad,m,cap,dy,y1,y2,y3,y4,y5,y6⟩:=A1q h.heap hcy hy
       obtain⟨v,dx,g1,g2,g3⟩:=h.heap.blk i _ hg
       rw[hex]at hx
       obtain⟨cs,k1,v2,k2,k3,k4⟩:=hx
       rw[g1]at k2; injection k2 with k2; injection k2 with k2; subst k2
       subst k3
       have hev:a.eval x=v:=by simpa[A0i,TV.isAgg,eq_comm]using k1
       obtain⟨v',w',r1,r2,r3,r4⟩:=A6j (ty:=0) hC hZ hE hT q1 q2 q3 (fun b hb=>h.new hid hb) g2 (ad:=ad) (m:=m) (cap:=cap) (by rw[len y5,y2]) (one y5) y6 (by have h42':xs1.length+ys.length≤9223372036854775807:=h42; unfold maxLen; omega) (by rw[y2]; exact h41)
       subst y2
       obtain⟨z1,z2⟩:=A3s h i hid (.inr ⟨_,g1,hg⟩) g3 y5 r2 r3 (A6y r4)
       exact⟨_,_,h5,_,_,_,z1,z2,.inl (run hev y1 (fun ty=>r1))⟩
      ·cases hcx
     ·cases hcx
    ·cases h2
   ·rename_i _ ys hex hcy
    obtain⟨h4,h5⟩:=A0a h2
    simp only[Bool.and_eq_true,decide_eq_true_eq]at h4
    obtain⟨ad,m,cap,dy,y1,y2,y3,y4,y5,y6⟩:=A1q h.heap hcy hy
    rw[hex]at hx
    obtain⟨cs,k1,k2⟩:=hx
    have k2':cs=_:=k2
    subst k2'
    have hev:a.eval x= .slice none 0 0:=by simpa[A0i,TV.isAgg,eq_comm]using k1
    obtain⟨v',w',r1,r2,r3,r4⟩:=A6j (ty:=0) hC hZ hE hT q1 q2 q3 (fun b hb=>h.new (A1c lev d) hb) (A1k w (w0.may (A0R lev d)) (cx.elem t) e.size) (ad:=ad) (m:=m) (cap:=cap) (by rw[len y5,y2]) (one y5) y6 (by unfold maxLen; omega) (by rw[y2]; simpa using h4.1)
    subst y2
    have hnil:A0l (Rep w (A0d Xo θ σ.heap) e) [] []:=rfl
    obtain⟨z1,z2⟩:=A3s h (A0R lev d) (A1c lev d) (xs:=[]) (.inl rfl) hnil y5 (by simpa using r2) r3 (A6y r4)
    exact⟨_,_,h5,_,_,_,z1,z2,.inl (run hev y1 (fun ty=>r1))⟩
   ·cases h2
  ·cases hp
 ·cases hp
theorem B0G{y:Operand}(h:A9V y=true)(a:Act):a.eval y= .slice none 0 0:=by
 unfold A9V at h
 split at h
 ·rename_i n c
  simp only[Bool.and_eq_true]at h
  have h1:=Nat.eq_of_beq_eq_true h.1
  have h2:=Nat.eq_of_beq_eq_true h.2
  subst h1; subst h2; rfl
 ·cases h
theorem B4A(hC:A1F P cx)(h:Rel w0 Xo σ θ as a w){lev:Nat}{draw:Bool}{d:Option Tmp}{op:BinOp}{T U:TypeId}{x y:Operand}(hp:A1u cx lev draw σ d (.binOp op T x y U) K=some r):
  ∃tv σ',K tv σ'=some r∧A1p P w0 Xo as a w (.binOp op T x y U) tv σ':=by
 simp only[A1u]at hp
 split at hp
 ·rename_i e hT
  obtain⟨h1,h2⟩:=A0a hp
  simp only[Bool.and_eq_true]at h1
  obtain⟨⟨q1,q2⟩,q3⟩:=h1
  have q1:=Nat.le_of_ble_eq_true q1
  have hy:=B0G q3 a
  have hx:=h.eval x
  obtain⟨⟨E,hu,hE⟩,_⟩:=hC.ty T _ hT
  have run:∀{ad:Option Addr} {l c:Nat},a.eval x= .slice ad l c→∀o:Oper,o.op= .binOp op T x y U→(execOp a.eval o).run P w= .ok (.value (.bool (cond (A9e op) ad.isNone (!ad.isNone)))) w:=by
   intro ad l c hv o ho
   cases op with
   |eql=>
    have:=Go.run_eql_slice_nil (P:=P) w T E ad l c hu
    simp[execOp,ho,hv,hy,eqGuard,this,A9e]
   |neq=>
    have:=Go.run_neq_slice_nil (P:=P) w T E ad l c hu
    simp[execOp,ho,hv,hy,eqGuard,this,A9e]
   |_=>simp[B2l]at q2
  split at h2
  ·rename_i hex
   rw[hex]at hx
   obtain⟨cs,g1,g2⟩:=hx
   have g2':cs=_:=g2
   subst g2'
   have hv:a.eval x= .slice none 0 0:=by simpa[A0i,TV.isAgg,eq_comm]using g1
   refine⟨_,_,h2,θ,_,w,h,A1l,.inl fun o ho=> ?_⟩
   rw[run hv o ho]
   cases op<;>simp[B2l]at q2<;>rfl
  ·split at h2
   ·rename_i xs hcx
    obtain⟨ad,len,cap,ds,y1,y2,y3,y4,y5,y6⟩:=A1q h.heap hcx hx
    have fin:∀b,ad.isNone=b→K (.pv .bool (cond (A9e op) b (!b))) σ=some r→∃tv σ',K tv σ'=some r∧A1p P w0 Xo as a w (.binOp op T x y U) tv σ':=by
     intro b hb hk
     subst hb
     exact⟨_,_,hk,θ,_,w,h,A1l,.inl (run y1)⟩
    unfold B5D at h2
    cases hemp:xs.isEmpty with
    |true=>
     rw[hemp]at h2
     obtain⟨k1,k2⟩:=B1s h2
     cases hn:ad.isNone with
     |true=>exact fin true hn k1
     |false=>exact fin false hn k2
    |false=>
     rw[hemp]at h2
     have hl:=A0s (fun c x hx=>Rep.length e c x hx) y5
     have hpos:0<xs.length:=by cases xs with|nil=>simp at hemp|cons _ _=>simp
     have hne:ds≠ []:=by
      intro hd; rw[hd]at hl
      have:=Nat.mul_pos hpos q1
      simp only[List.length_nil]at hl; omega
     rcases y6 with y6|⟨b,o,y6,_⟩
     ·exact absurd y6 hne
     ·exact fin false (by rw[y6]; rfl) h2
   ·cases h2
 ·cases hp
theorem B2Q(hC:A1F P cx)(hZ:A2z P cx)(hE:A2y P cx)(h:Rel w0 Xo σ θ as a w){lev:Nat}{draw:Bool}{d:Option Tmp}(op:Op)
  (hp:A1u cx lev draw σ d op K=some r):∃tv σ',K tv σ'=some r∧A1p P w0 Xo as a w op tv σ':=by
 cases op with
 |alloc t=>exact B2O hC hZ hE h hp
 |box t x=>exact B4z hC h hp
 |store t x y=>exact B2R hC h hp
 |buildSlice t n parts=>exact A7y hC hZ hE h hp
 |makeSlice t l c=>exact A8t hC hZ hE h hp
 |binOp op t x y u=>exact B4A hC h hp
 |makeMap t l=>exact B0x hC hE h hp
 |lookup t m x ok=>exact B1y hC hZ hE h hp
 |mapUpdate t m x y=>exact A8u hC hE h hp
 |call c=>
  obtain⟨callee,args,argTypes⟩:=c
  cases callee with
  |builtin b=>cases b with
   |append=>exact B1x hC hZ hE h hp
   |copy=>exact B3A hC h hp
   |clear=>exact B2P hC hZ hE h hp
   |_=>simp[A1u]at hp
  |_=>simp[A1u]at hp
 |_=>simp[A1u]at hp
theorem A4Y(h:Rel w0 Xo σ θ as a w){tv:TV}{v:Value}(hv:A0g w (A0d Xo θ σ.heap) θ tv v){K:TV→St→Option R}(hp:A8k σ tv K=some r):
  ∃tv' σ' θ',K tv' σ'=some r∧Rel w0 Xo σ' θ' as a w∧A0g w (A0d Xo θ' σ'.heap) θ' tv' v:=by
 unfold A8k at hp
 split at hp
 ·rename_i i b u hs
  unfold B4o at hs
  split at hs
  ·rename_i j rt e lo hi
   split at hs
   ·rename_i E e2 xs hg
    obtain⟨hc,hs2⟩:=A0a hs
    clear hs
    simp only[Bool.and_eq_true,decide_eq_true_eq,Bool.not_eq_true']at hc
    obtain⟨⟨⟨c1,c2⟩,c3⟩,c4⟩:=hc
    have c2:=A0j.1 c2
    subst c3; subst c2; subst c1
    injection hs2 with hs2
    simp only[Prod.mk.injEq]at hs2
    obtain⟨rfl,rfl,rfl⟩:=hs2
    obtain⟨o,ho,hle,ad,cap,hva,hc1,hc2,hm⟩:=A4v hv
    obtain⟨v0,ds,g1,g2,g3⟩:=h.heap.blk j _ hg
    rw[g1]at ho; injection ho with ho; subst ho
    obtain⟨_,_,ad0,len,cap0,hu,hlen,_,m0⟩:=hm
    obtain⟨m1,m2⟩:=m0 rfl
    subst m1; subst m2; subst hu
    have hlx:len=xs.length:=by
     rcases g2.2 with⟨k1,k2⟩|⟨g,cap1,cur,k1,_⟩
     ·injection k1 with _ k1 _; omega
     ·injection k1 with _ k1 _
    subst hlx
    have hdl:=A0s (fun c x hx=>Rep.length e2 c x hx) g3
    have htk:=A3I (fun c x hx=>Rep.length e2 c x hx) (k:=hi) g3 hlen
    have hown:A0E w (w0.may j) E e2.size v ((xs.take hi).length+([]:List e2.den).length) (ds.take (hi*e2.size)++[]):=by
     have hl:(xs.take hi).length=hi:=by simp; omega
     rw[hva,List.append_nil,hl]
     simp only[List.length_nil,Nat.add_zero,Nat.sub_zero]
     refine⟨?_,?_⟩
     ·rw [List.length_take,hdl]
      exact Nat.min_eq_left (Nat.mul_le_mul_right _ hlen)
     ·rcases g2.2 with⟨k1,k2⟩|⟨g,cap1,cur,k1,k2,k3,k4,k5,k6,k7⟩
      ·injection k1 with k1 k8 k9
       subst k1; subst k9
       exact .inl ⟨by rw[show hi=0 by omega],by omega⟩
      ·injection k1 with k1 k8 k9
       subst k1; subst k9
       refine .inr ⟨g,_,cur,rfl,k2,k3,by omega,k5,k6,?_⟩
       rw[← k7,List.take_take]
       congr 1
       exact(Nat.min_eq_left (Nat.mul_le_mul_right _ hlen)).symm
    have hnil:A0l (Rep w (A0d Xo θ σ.heap) e2) [] []:=rfl
    have:=A3s h j (A2S c4) (E:=E) (xs:=xs.take hi) (ys:=[]) (v:= .slice ad xs.length cap) (v':=v) (w':=w) (.inr ⟨_,g1,hg⟩) htk hnil hown (A0h.refl _ _) (fun b hb=> .inl (by
     rw[hva]at hb
     cases ad with
     |none=>cases hb
     |some q=>simpa[Value.ownBlock]using hb))
    rw[List.append_nil]at this
    exact⟨_,_,_,hp,this.1,this.2⟩
   ·cases hs
  ·cases hs
 ·exact ⟨_,_,_,hp,h,hv⟩
end Go.Ai
/- One operation,and one behind its guard. -/
namespace Go.Ai
open Go.RowKit
variable {P:Program} {cx:Cx} {w0:A0F} {Xo:Nat→Prop} {σ:St} {θ:Nat→Option Own} {as:List (Array Value)} {a:Act} {w:World} {R:Type} {r:R} {X:Nat→Prop}
def A8q(P:Program)(f:FuncId)(args:Array Value)(w:World)(Q:Value→World→Prop):Prop:=
 ((callFunc f args).run P w= .ok (.enter f args) w∧Calls P f args w fun e w'=>∃v,e= .returned v∧Q v w')∨∃v w',(callFunc f args).run P w= .ok (.value v) w'∧Q v w'
theorem A8q.mono{f:FuncId}{args:Array Value}{Q Q':Value→World→Prop}(h:A8q P f args w Q)(hq:∀v w',Q v w'→Q' v w'):A8q P f args w Q':=by
 rcases h with⟨h1,h2⟩|⟨v,w',h1,h2⟩
 ·exact .inl ⟨h1,h2.mono fun e w' ⟨v,he,hv⟩=>⟨v,he,hq v w' hv⟩⟩
 ·exact .inr ⟨v,w',h1,hq v w' h2⟩
def A4d(P:Program)(w0:A0F)(Xo:Nat→Prop)(call:A1v R):Prop:=
 ∀lev fn draw f args d σ K r θ as a w vs,call lev fn draw f args d σ K=some r→Rel w0 Xo σ θ as a w→A1g w (A0d Xo θ σ.heap) θ args vs→
  A8q P f vs w fun v w'=>∃tv σ' θ',K tv σ'=some r∧Rel w0 Xo σ' θ' as a w'∧A0g w' (A0d Xo θ' σ'.heap) θ' tv v
structure A3R (P:Program) (cx:Cx):Prop where
 c:A1F P cx
 z:A2z P cx
 e:A2y P cx
theorem A7t{X:Nat→Prop}:∀(c:TV) (vs:List Value),RV w X θ true c vs→c.list.length=vs.length∧∀(i:Nat) tv,c.list[i]? =some tv→∃v,vs[i]? =some v∧A0g w X θ tv v
 | .pr t b,vs,h=>by
  have hh:∃v r,vs=v::r∧A0g w X θ t v∧RV w X θ true b r:=by
   cases t with
   |tup c=>simp only[RV]at h; obtain⟨v,r,h0,⟨cs,h1,h2⟩,h3⟩:=h; exact h2.elim
   |dead=>simp only[RV]at h; obtain⟨v,r,h0,h1,h3⟩:=h; exact⟨v,r,h0,trivial,h3⟩
   |und=>simp only[RV]at h; obtain⟨v,r,h0,h1,h3⟩:=h; exact⟨v,r,h0,h1,h3⟩
   |_=>simp only[RV]at h; obtain⟨v,r,h0,⟨cs,h1,h2⟩,h3⟩:=h; exact⟨v,r,h0,⟨cs,h1,h2⟩,h3⟩
  obtain⟨v,r,h0,h1,h2⟩:=hh
  obtain⟨k1,k2⟩:=A7t b r h2
  subst h0
  refine⟨by simp[TV.list,k1],fun i tv hi=> ?_⟩
  cases i with
  |zero=>simp only[TV.list,List.getElem?_cons_zero,Option.some.injEq]at hi; subst hi; exact⟨v,rfl,h1⟩
  |succ i=>simp only[TV.list,List.getElem?_cons_succ]at hi ⊢; exact k2 i tv hi
 | .pv .unit _,vs,h=>by have:vs=[]:=h; subst this; simp[TV.list]
 | .pv (.int _) _,_,h| .pv .bool _,_,h| .pv .str _,_,h| .pv (.slice _) _,_,h| .pv (.arr _ _) _,_,h| .pv (.pair _ _) _,_,h| .pv (.ref _) _,_,h| .pv (.opt _) _,_,h| .pv (.fnc _) _,_,h=>by simp[RV]at h
 | .ptr ..,_,h| .sl ..,_,h| .inn ..,_,h| .vw ..,_,h| .clp ..,_,h| .nilsl,_,h| .fn ..,_,h| .tup _,_,h| .bad,_,h| .und,_,h| .dead,_,h=>by simp[RV]at h
theorem A4T(hT:A3R P cx){call:A1v R}(hcall:A4d P w0 Xo call){lev:Nat}{fn:FuncId}{draw:Bool}{o:Oper}{K:TV→St→Option R}(h:Rel w0 Xo σ θ as a w)
  (hp:opK cx call lev fn draw σ o K=some r) {K':Act→World→Prop} {Q:Exit→Act→World→Prop}
  (hK:∀tv σ' θ' v w',K tv σ'=some r→Rel w0 Xo σ' θ' as a w'→A0g w' (A0d Xo θ' σ'.heap) θ' tv v→K' (a.put o.dst v) w'):o.wp P a w K' Q:=by
 unfold opK at hp
 split at hp
 ·rename_i f args argTypes hop
  split at hp
  ·rename_i g caps hf
   have hv:=h.eval f
   rw[hf]at hv
   obtain⟨cs,h1,vs,h2,h3⟩:=hv
   subst h2
   have hev:a.eval f= .func (.func g) #[] vs.toArray:=by simpa[A0i,TV.isAgg,eq_comm]using h1
   obtain⟨c1,c2⟩:=A7t caps vs h3
   have hargs:A1g w (A0d Xo θ σ.heap) θ (args.toList.map σ.eval++caps.list) (args.map a.eval++vs.toArray):=by
    refine⟨by simp[c1],fun t tv ht=> ?_⟩
    rw[List.getElem?_append]at ht
    split at ht
    ·rename_i hlt
     simp only[List.length_map,Array.length_toList]at hlt
     simp only[List.getElem?_map,Array.getElem?_toList,Array.getElem?_eq_getElem hlt,Option.map_some,Option.some.injEq]at ht
     refine⟨a.eval args[t],?_,ht▸h.eval _⟩
     rw[Array.getElem?_append_left (by simpa using hlt)]
     simp[hlt]
    ·rename_i hlt
     simp only[List.length_map,Array.length_toList,Nat.not_lt]at hlt
     obtain⟨v,k1,k2⟩:=c2 _ tv ht
     refine⟨v,?_,k2⟩
     rw[Array.getElem?_append_right (by simpa using hlt)]
     simpa using k1
   have hd:=hcall lev fn draw g _ o.dst σ K r θ as a w _ hp h hargs
   have hrun:(execOp a.eval o).run P w=(callFunc g (args.map a.eval++vs.toArray)).run P w:=by
    simp[execOp,hop,resolve,hev,Deferred.ofValue,invoke]
   unfold Oper.wp
   rw[hrun]
   rcases hd with⟨d1,d2⟩|⟨v,w',d1,tv,σ',θ',d2,d3,d4⟩
   ·rw [d1,Oper.upon_enter]
    refine d2.mono fun e w' he=> ?_
    obtain⟨v,rfl,tv,σ',θ',k1,k2,k3⟩:=he
    exact hK tv σ' θ' v w' k1 k2 k3
   ·rw [d1,Oper.upon_value]
    exact hK tv σ' θ' v w' d2 d3 d4
  ·cases hp
 ·rename_i op hno
  cases hi:A0Q o.op with
  |true=>
   rw[hi]at hp
   simp only[cond]at hp
   obtain⟨tv,k1,v,k2,k3⟩:=B1Q hT.c hT.z h.heap (fun x=>h.eval x) o.op hi hp
   unfold Oper.wp
   rw[k2 o rfl,Oper.upon_value]
   exact hK tv σ θ v w k1 h k3
  |false=>
   rw[hi]at hp
   simp only[cond]at hp
   obtain⟨tv,σ',k1,θ',v,w',k2,k3,k4⟩:=B2Q hT.c hT.z hT.e h o.op hp
   unfold Oper.wp
   rcases k4 with k4|⟨k4,k5⟩
   ·rw [k4 o rfl,Oper.upon_value]
    exact hK tv σ' θ' v w' k1 k2 k3
   ·rw [k5 o rfl,Oper.upon_skip]
    subst k4
    exact hK tv σ' θ' _ w' k1 k2 k3
theorem St.put_same{σ:St}{t:Nat}{tv:TV}(h:σ.env.getD t .dead=tv)(hd:tv≠ .dead):σ.put (some t) tv=σ:=by
 have ht:t<σ.env.length:=by
  rcases Nat.lt_or_ge t σ.env.length with h'|h'
  ·exact h'
  ·simp [List.getD,List.getElem?_eq_none h']at h; exact absurd h.symm hd
 have:σ.env.set t tv=σ.env:=by
  apply List.ext_getElem?
  intro i
  rw[List.getElem?_set]
  by_cases e:t=i
  ·subst e
   simp only[if_true,ht]
   simp only[List.getD,List.getElem?_eq_getElem ht,Option.getD_some]at h
   simp[ht,h]
  ·simp [e]
 simp[St.put,this]
theorem A8o{ops:Array Oper}{j t:Nat}(hd:((ops.toList)[j]?).bind (·.dst)=some t)(tmps:Array Value):yielded ops tmps j=match tmps[t]? with
  |some (.bool b)=>some b
  |_=>none:=by
 unfold yielded
 rw[Array.getElem?_toList]at hd
 rw[hd]
 rfl
theorem A7j{t:Nat}{tv:TV}(h:A1g w X θ σ.env a.tmps)(ht:σ.env.getD t .dead=tv)(hd:tv≠ .dead):∃v,a.tmps[t]? =some v∧A0g w X θ tv v:=by
 have hlt:t<σ.env.length:=by
  rcases Nat.lt_or_ge t σ.env.length with h'|h'
  ·exact h'
  ·simp [List.getD,List.getElem?_eq_none h']at ht; exact absurd ht.symm hd
 have:σ.env[t]? =some tv:=by simp only[List.getD,List.getElem?_eq_getElem hlt,Option.getD_some]at ht; simp[hlt,ht]
 exact h.2 t tv this
theorem A9q(hT:A3R P cx){call:A1v R}(hcall:A4d P w0 Xo call){lev:Nat}{fn:FuncId}{draw:Bool}{ops:Array Oper}{o:Oper}{K:St→Option R}(h:Rel w0 Xo σ θ as a w)
  (hp:opG cx call lev fn draw ops.toList σ o K=some r) {K':Act→World→Prop} {Q:Exit→Act→World→Prop}
  (hK:∀σ' θ' a' w',K σ'=some r→Rel w0 Xo σ' θ' as a' w'→K' a' w'):if Region.wanted o (yielded ops a.tmps)then o.wp P a w K' Q else K' (a.put o.dst undef) w:=by
 unfold opG at hp
 split at hp
 ·rename_i hg
  simp only[Region.wanted,hg,if_true]
  exact A4T hT hcall h hp fun tv σ' θ' v w' k1 k2 k3=>hK _ θ' _ w' k1 (k2.put o.dst k3)
 ·rename_i j want hg
  split at hp
  ·rename_i t hd
   have hy:=A8o hd a.tmps
   simp only[Region.wanted,hg]
   split at hp
   ·rename_i b hb
    obtain⟨v,hv1,hv2⟩:=A7j h.env hb (by simp)
    have:=A2x hv2
    subst this
    rw[hv1]at hy
    simp only at hy
    rw[hy]
    have skip:∀{σ1:St},σ1=σ→K (σ1.put o.dst .und)=some r→K' (a.put o.dst undef) w:=fun e hk=>by
     subst e
     exact hK _ θ _ w hk (h.put o.dst (tv:= .und) (v:=undef) rfl)
    have go:∀{σ1:St},σ1=σ→opK cx call lev fn draw σ1 o (fun v τ=>K (τ.put o.dst v))=some r→o.wp P a w K' Q:=fun e hk=>by
     subst e
     exact A4T hT hcall h hk fun tv σ' θ' v w' k1 k2 k3=>hK _ θ' _ w' k1 (k2.put o.dst k3)
    have e:σ.put (some t) (.pv .bool b)=σ:=St.put_same hb (by simp)
    cases b<;>cases want<;>simp only[cond]at hp<;>simp<;>first|exact go e hp|exact skip e hp
   ·rename_i hb
    obtain⟨v,hv1,hv2⟩:=A7j h.env hb (by simp)
    have hv:v=undef:=hv2
    subst hv
    rw[hv1]at hy
    have hy':yielded ops a.tmps j=none:=hy
    rw[hy']
    simp
    exact hK _ θ _ w hp (h.put o.dst (tv:= .und) (v:=undef) rfl)
   ·cases hp
  ·cases hp
theorem A5G(hT:A3R P cx){call:A1v R}(hcall:A4d P w0 Xo call){lev:Nat}{fn:FuncId}{draw:Bool}{ops:Array Oper}{K:St→Option R}{Q:Exit→Act→World→Prop}
  (hK:∀σ' θ' a' w',K σ'=some r→Rel w0 Xo σ' θ' as a' w'→Q .normal a' w'):∀(l:List Oper) (σ:St) (θ:Nat→Option Own) (a:Act) (w:World),Rel w0 Xo σ θ as a w→A5k cx call lev fn draw ops.toList l σ K=some r→wpList P ops Q l a w
 | [],σ,θ,a,w,h,hp=>wpList_nil (hK σ θ a w hp h)
 |o::l,σ,θ,a,w,h,hp=>wpList_step fun K' hK'=>by
  have:=A9q hT hcall h hp (Q:=Q) (K':=K') fun σ' θ' a' w' k1 k2=>hK' _ _ (A5G hT hcall hK l σ' θ' a' w' k2 k1)
  split
  ·rename_i hw; simp only[hw,if_true]at this; exact this
  ·rename_i hw; simp only[hw]at this; exact this
end Go.Ai
/- What is kept at the head of a loop,and at an exit. -/
namespace Go.Ai
open Go.RowKit
variable {P:Program} {cx:Cx} {w0:A0F} {Xo:Nat→Prop} {σ:St} {θ:Nat→Option Own} {as:List (Array Value)} {a:Act} {w:World} {X:Nat→Prop}
theorem A6S(keep:List Nat):∀(env:List TV) (n t:Nat) (tv:TV),(keepEnv keep n env)[t]? =some tv→tv= .dead∨env[t]? =some tv
 | [],n,t,tv,h=>by simp[keepEnv]at h
 |v::env,n,t,tv,h=>by
  cases t with
  |zero=>
   simp only[keepEnv,List.getElem?_cons_zero,Option.some.injEq]at h
   cases hk:keep.any (Nat.beq n)with
   |true=>rw[hk]at h; exact .inr (by simpa using h)
   |false=>rw[hk]at h; exact .inl (by simpa using h.symm)
  |succ t=>
   simp only[keepEnv,List.getElem?_cons_succ]at h⊢
   exact A6S keep env (n+1) t tv h
theorem A3u(keep:List Nat):∀(env:List TV) (n:Nat),(keepEnv keep n env).length=env.length
 | [],_=>rfl
 |v::env,n=>by simp[keepEnv,A3u keep env (n+1)]
theorem A1g.keep{env:List TV}{tmps:Array Value}(h:A1g w X θ env tmps)(keep:List Nat):A1g w X θ (keepEnv keep 0 env) tmps:=by
 refine⟨by rw[A3u]; exact h.1,fun t tv ht=> ?_⟩
 rcases A6S keep env 0 t tv ht with hd|hd
 ·subst hd
  have hlt:t<env.length:=by
   rcases Nat.lt_or_ge t (keepEnv keep 0 env).length with h'|h'
   ·rwa [A3u]at h'
   ·simp [List.getElem?_eq_none h']at ht
  obtain⟨v,hv,_⟩:=h.2 t env[t] (by simp[hlt])
  exact⟨v,hv,trivial⟩
 ·exact h.2 t tv hd
theorem A3O.keep:∀{ks:List (List Nat)} {es:List (List TV)} {ts:List (Array Value)},A3O w X θ es ts→A3O w X θ (keepStk ks es) ts
 | [],_,_,h=>by simpa[keepStk]using h
 |_::_,[],[],h=>trivial
 |k::ks,e::es,t::ts,h=>⟨h.1.keep k,A3O.keep h.2⟩
 |_::_,[],_::_,h=>h.elim
 |_::_,_::_,[],h=>h.elim
theorem Rel.keepEnv(h:Rel w0 Xo σ θ as a w)(k:List Nat):Rel w0 Xo {σ with env:=Ai.keepEnv k 0 σ.env} θ as a w:=⟨h.keeps,h.xo,h.heap,h.env.keep k,h.stk,h.defers,h.pin⟩
theorem Rel.keepStk(h:Rel w0 Xo σ θ as a w)(k:List (List Nat)):Rel w0 Xo {σ with stk:=Ai.keepStk k σ.stk} θ as a w:=⟨h.keeps,h.xo,h.heap,h.env,h.stk.keep,h.defers,h.pin⟩
theorem Rel.killL:∀(l:List Nat) (σ:St),Rel w0 Xo σ θ as a w→Rel w0 Xo (σ.killL l) θ as a w
 | [],_,h=>h
 |i::l,σ,h=>Rel.killL l (σ.kill i) (h.kill i fun _ _=>rfl)
theorem Rel.move(h:Rel w0 Xo σ θ as a w){i j:Nat}(hij:j≠i)(hpi:i≠PIN)(hpj:j≠PIN){E:TypeId}{e:Ty}{xs:List e.den}(hg:A0b σ.heap j=some (.arr E e xs)):
  ∃v,θ j=some (.arr v)∧v.oneCell'=true∧Rel w0 Xo (((σ.kill i).kill j).add i (.arr E e xs)) (A0x θ i (.arr v)) as a w:=by
 obtain⟨v,ds,g1,g2,g3⟩:=h.heap.blk j _ hg
 have hone:v.oneCell'=true:=by rcases g2.2 with⟨rfl,_⟩|⟨g,c,cur,rfl,_⟩<;>rfl
 refine⟨v,g1,hone,?_⟩
 have hget':∀k,A0b (((σ.kill i).kill j).add i (.arr E e xs)).heap k=if k=i then some (.arr E e xs)else if k=j then none else((((A0b σ.heap k).map (Blk.kill i)).map (Blk.kill j)).map (Blk.kill i)):=by
  intro k
  rw[A1r]
  by_cases e1:k=i
  ·simp [e1]
  ·simp only[e1,if_false,St.kill,A1b,A1a]
   by_cases e2:k=j
   ·simp [e2]
   ·simp [e2]
 have hX:∀b,A0d Xo (A0x θ i (.arr v)) (((σ.kill i).kill j).add i (.arr E e xs)).heap b→A0d Xo θ σ.heap b:=by
  intro b hb
  rcases hb with hb|⟨k,h1,h2⟩
  ·exact .inl hb
  ·rw [hget']at h1
   by_cases e1:k=i
   ·subst e1
    simp only[A0e,A0n,Option.bind_some,Own.has]at h2
    exact .inr ⟨j,by simp[hg],by simp[A0e,g1,Own.has,h2]⟩
   ·by_cases e2:k=j
    ·simp [e1,e2]at h1
     rw[e2]at e1; exact absurd h1 (by simp[e1])
    ·simp only[e1,e2,if_false,Option.isSome_map]at h1
     exact .inr ⟨k,h1,by simpa[A0e,A0P _ _ _ k e1]using h2⟩
 have hst:A1G (A0d Xo θ σ.heap) (A0d Xo (A0x θ i (.arr v)) (((σ.kill i).kill j).add i (.arr E e xs)).heap) w w:=⟨⟨fun _=>False,A0h.refl _ w,fun _ _ h=>h.elim⟩,fun b _ hb=>hX b hb⟩
 have hθ:∀k,k≠i→A0x θ i (.arr v) k=θ k:=fun k hk=>A0P θ i _ k hk
 have hone':∀tv u,A0g w (A0d Xo θ σ.heap) θ tv u→A0g w (A0d Xo (A0x θ i (.arr v)) (((σ.kill i).kill j).add i (.arr E e xs)).heap) (A0x θ i (.arr v)) (((tv.kill i).kill j).kill i) u:=by
  intro tv u hu
  have k1:=A0g.kill (i:=i) (θ':=θ) (fun _ _=>rfl) tv u hu
  have k2:=A0g.kill (i:=j) (θ':=θ) (fun _ _=>rfl) _ u k1
  have k3:=A0g.kill (i:=i) (θ':=A0x θ i (.arr v)) hθ _ u k2
  exact A0g.step hst _ u (fun _ _=>rfl) k3
 have hc:∀c cs,RV w (A0d Xo θ σ.heap) θ false c cs→RV w (A0d Xo (A0x θ i (.arr v)) (((σ.kill i).kill j).add i (.arr E e xs)).heap) (A0x θ i (.arr v)) false (((c.kill i).kill j).kill i) cs:=by
  intro c cs hu
  have k1:=RV.kill (i:=i) (θ':=θ) (fun _ _=>rfl) false c cs hu
  have k2:=RV.kill (i:=j) (θ':=θ) (fun _ _=>rfl) false _ cs k1
  have k3:=RV.kill (i:=i) (θ':=A0x θ i (.arr v)) hθ false _ cs k2
  exact RV.step hst false _ cs (fun _ _=>rfl) k3
 refine h.next (fun tv=>((tv.kill i).kill j).kill i) h.keeps hone' (by simp[St.add,St.kill,Function.comp_def]) (by simp[St.add,St.kill,Function.comp_def]) ⟨fun k b hb=> ?_,fun k l hkl hk hl b=> ?_⟩ (fun hs=>by
  rw[hget',if_neg (Ne.symm hpi),if_neg (Ne.symm hpj)]at hs
  exact⟨by simpa using hs,hθ PIN (Ne.symm hpi)⟩)
 ·rw [hget']at hb
  by_cases e1:k=i
  ·simp only[e1,if_true,Option.some.injEq]at hb
   subst hb; subst e1
   exact⟨v,ds,A0n _ _ _,A2i g2.row (fun g hg=>A0F.may_move hpi hpj (g2.may g hg)),A0o (fun c x hx=>hst.rep e c x hx) g3⟩
  ·by_cases e2:k=j
   ·subst e2; simp[e1]at hb
   ·simp only[e1,e2,if_false]at hb
    cases hb0:A0b σ.heap k with
    |none=>simp[hb0]at hb
    |some b0=>
     simp only[hb0,Option.map_some,Option.some.injEq]at hb
     subst hb
     have:=(h.heap.blk k b0 hb0).go (w':=w) hst (hθ k e1) (fun _ _=>rfl) (fun tv=>((tv.kill i).kill j).kill i) hc (fun c t ht=>TV.fits_kill _ _ _ (TV.fits_kill _ _ _ (TV.fits_kill _ _ _ ht)))
     cases b0<;>exact this
 ·have some':∀k,(A0b (((σ.kill i).kill j).add i (.arr E e xs)).heap k).isSome=true→k=i∨(k≠i∧k≠j∧(A0b σ.heap k).isSome=true):=by
   intro k hk
   rw[hget']at hk
   by_cases e1:k=i
   ·exact .inl e1
   ·by_cases e2:k=j
    ·subst e2; simp[e1]at hk
    ·simp only[e1,e2,if_false,Option.isSome_map]at hk
     exact .inr ⟨e1,e2,hk⟩
  have base':∀k,k≠i→∀b,A0e (A0x θ i (.arr v)) k b=A0e θ k b:=fun k hk b=>by simp[A0e,hθ k hk]
  have basei:∀b,A0e (A0x θ i (.arr v)) i b=A0e θ j b:=fun b=>by simp[A0e,A0n,g1]
  rcases some' k hk with e1|⟨e1,e2,e3⟩<;>rcases some' l hl with f1|⟨f1,f2,f3⟩
  ·exact absurd (e1.trans f1.symm) hkl
  ·subst e1; rw[basei,base' l f1]; exact h.heap.inj j l (Ne.symm f2) (by simp[hg]) f3 b
  ·subst f1; rw[basei,base' k e1]; exact h.heap.inj k j e2 e3 (by simp[hg]) b
  ·rw [base' k e1,base' l f1]; exact h.heap.inj k l hkl e3 f3 b
theorem A6q{env:List TV}{t:Nat}{tv:TV}(h:env.getD t .dead=tv)(hd:tv≠ .dead):env[t]? =some tv:=by
 have hlt:t<env.length:=by
  rcases Nat.lt_or_ge t env.length with h'|h'
  ·exact h'
  ·simp [List.getD,List.getElem?_eq_none h']at h; exact absurd h.symm hd
 simp only[List.getD,List.getElem?_eq_getElem hlt,Option.getD_some]at h; simp[hlt,h]
theorem Rel.name(h:Rel w0 Xo σ θ as a w){t:Nat}{v:Value}(ht:a.tmps[t]? =some v){tv:TV}(hv:A0g w (A0d Xo θ σ.heap) θ tv v):Rel w0 Xo (σ.put (some t) tv) θ as a w:=by
 have:=h.put (some t) hv
 have e:a.put (some t) v=a:=by
  simp only[Act.put]
  congr 1
  apply Array.ext_getElem?
  intro i
  rw[Array.getElem?_setIfInBounds]
  by_cases e:t=i
  ·subst e
   have hlt:t<a.tmps.size:=by
    rcases Nat.lt_or_ge t a.tmps.size with h'|h'
    ·exact h'
    ·simp [Array.getElem?_eq_none h']at ht
   simp[hlt]at ht⊢
   exact ht.symm
  ·simp [e]
 rwa [e]at this
theorem Rel.ownNil(h:Rel w0 Xo σ θ as a w){E:TypeId}{e:Ty}{dp:Option DS}{t i:Nat}{τ:St}(hp:σ.ownNil E e dp t i=some τ):∃θ',Rel w0 Xo τ θ' as a w:=by
 unfold St.ownNil at hp
 cases hpin:Nat.beq i PIN with
 |true=>rw[hpin]at hp; cases hp
 |false=>
 rw[hpin,cond_false]at hp
 have hpi:=A2S hpin
 split at hp
 ·rename_i ht
  obtain⟨v,hv1,hv2⟩:=h.env.2 t _ (A6q ht (by simp))
  obtain⟨cs,k1,k2⟩:=hv2
  have k2':cs=_:=k2
  subst k2'
  have hev:v= .slice none 0 0:=by simpa[A0i,TV.isAgg,eq_comm]using k1
  subst hev
  split at hp
  ·rename_i s
   injection hp with hp; subst hp
   have hrel:=h.add i hpi (.tre E s []) (.tre (fun _=>some (.slice none 0 0)) []) (w':=w) none (A0h.refl _ w) (fun b hb=>by cases hb) (fun b hb=>by simp[Own.has]at hb)
    ⟨_,[],.slice none 0 0,A0n _ _ _,List.nodup_nil,_,[],[],rfl,rfl,rfl,A1k _ _ _ _,rfl,rfl⟩
   exact⟨_,hrel.name hv1 ⟨_,rfl,_,_,_,A0n _ _ _,rfl,rfl,rfl⟩⟩
  injection hp with hp; subst hp
  have hrel:=h.add i hpi (.arr E e []) (.arr (.slice none 0 0)) (w':=w) none (A0h.refl _ w) (fun b hb=>by cases hb) (fun b hb=>by simp[Own.has,Value.ownBlock]at hb)
   ⟨_,[],A0n _ _ _,A1k _ _ _ _,rfl⟩
  exact⟨_,hrel.name hv1 ⟨_,rfl,_,A0n _ _ _,rfl,rfl⟩⟩
 ·rename_i j s ht
  cases hb:Nat.beq j i with
  |true=>rw[hb]at hp; injection hp with hp; subst hp; exact⟨θ,h⟩
  |false=>
   rw[hb,cond_false]at hp
   cases hpj:Nat.beq j PIN with
   |true=>rw[hpj]at hp; cases hp
   |false=>
   rw[hpj,cond_false]at hp
   have hpj:=A2S hpj
   have hji:j≠i:=fun e=>by rw[e,Nat.beq_refl]at hb; cases hb
   split at hp
   ·rename_i E' e' xs hg
    split at hp
    ·rename_i q; subst q
     injection hp with hp; subst hp
     obtain⟨v,g1,g2,g3⟩:=h.move hji hpi hpj hg
     obtain⟨u,hv1,hv2⟩:=h.env.2 t _ (A6q ht (by simp))
     obtain⟨cs,k1,v2,k2,k3,k4⟩:=hv2
     subst k3
     have hev:u=v2:=by simpa[A0i,TV.isAgg,eq_comm]using k1
     subst hev
     rw[g1]at k2; injection k2 with k2; injection k2 with k2; subst k2
     exact⟨_,g3.name hv1 ⟨_,rfl,_,A0n _ _ _,rfl,g2⟩⟩
    ·cases hp
   ·cases hp
 ·rename_i j s ht
  cases hb:Nat.beq j i with
  |true=>rw[hb]at hp; injection hp with hp; subst hp; exact⟨θ,h⟩
  |false=>
   rw[hb,cond_false]at hp
   cases hpj:Nat.beq j PIN with
   |true=>rw[hpj]at hp; cases hp
   |false=>
   rw[hpj,cond_false]at hp
   have hpj:=A2S hpj
   split at hp
   ·rename_i E' d xs hg
    injection hp with hp; subst hp
    obtain⟨sk,L,v,g1,g2,g3⟩:=h.heap.blk j _ hg
    obtain⟨u,hv1,hv2⟩:=h.env.2 t _ (A6q ht (by simp))
    obtain⟨cs,k1,sk2,L2,v2,k2,k2',k3,k4⟩:=hv2
    subst k3
    have hev:u=v2:=by simpa[A0i,TV.isAgg,eq_comm]using k1
    subst hev
    rw[g1]at k2; injection k2 with k2; injection k2 with k2 k2b; subst k2; subst k2b
    have hrel:=h.addG [j] (fun k hk=>by simp only[List.mem_singleton]at hk; subst hk; exact⟨by simp[hg],hpj⟩) i hpi (.tre E' d xs) (.tre sk L) (w':=w) none (A0h.refl _ w) (fun b hb=>by cases hb) (fun b hb=> .inr ⟨j,by simp,by simpa[A0e,g1,Own.has]using hb⟩)
     ⟨sk,L,v,A0n _ _ _,g2,g3.go (.sl E' d) _ _ _ _ (fun _ _=>rfl) (fun b _ hb=>A0F.may_move hpi hpj hb)⟩
    exact⟨_,hrel.name hv1 ⟨_,rfl,_,_,_,A0n _ _ _,k2',rfl,k4⟩⟩
   ·cases hp
 ·cases hp
theorem Rel.ownAll:∀(l:List (Nat×Nat×TypeId)) (σ:St) (θ:Nat→Option Own) (τ:St),Rel w0 Xo σ θ as a w→σ.ownAll cx l=some τ→∃θ',Rel w0 Xo τ θ' as a w
 | [],σ,θ,τ,h,hp=>by simp only[St.ownAll,Option.some.injEq]at hp; subst hp; exact⟨θ,h⟩
 |(t,i,T)::r,σ,θ,τ,h,hp=>by
  simp only[St.ownAll]at hp
  split at hp
  ·split at hp
   ·rename_i τ1 h1
    obtain⟨θ1,k1⟩:=h.ownNil h1
    exact Rel.ownAll r τ1 θ1 τ k1 hp
   ·cases hp
  ·cases hp
theorem Rel.nameB(h:Rel w0 Xo σ θ as a w){b:Nat}{p:List Sel}{v:TV}{τ:St}(hp:σ.setFld b p v=some τ){t s:Ty}{c u:TV}{off:Nat}(hg:A0b σ.heap b=some (.var t c))(ha:t.at p=some (off,s))(hu:c.getP p=some u)
  (hf:v.fits s=true) (hv:∀c0,RV w (A0d Xo θ σ.heap) θ false u c0→(∀ b0 C E,θ b=some (.var b0)→w.heap[b0]? =some (.cells C E (0,0))→∃c1 c2,C.toList=c1++(c0++c2)∧c1.length=off)→RV w (A0d Xo θ σ.heap) θ false v c0):Rel w0 Xo τ θ as a w:=by
 unfold St.setFld at hp
 rw[hg]at hp
 simp only at hp
 split at hp
 ·rename_i c' hc'
  injection hp with hp; subst hp
  obtain⟨b0,C,E,g1,g2,g3,g4,g5⟩:=h.heap.blk b _ hg
  obtain⟨k0,c1,cc,c2,k1,k2,k3,k4⟩:=A4z c t p C.toList off s u ha g5 hu g4
  have hown:A0d Xo θ (A0I σ.heap b (.var t c'))=A0d Xo θ σ.heap:=by
   funext x
   simp only[A0d,A2P hg]
  have hvv:=hv cc k4 (fun b1 C1 E1 e1 e2=>by
   rw[g1]at e1; injection e1 with e1; injection e1 with e1; subst e1
   rw[g3]at e2; injection e2 with e2; injection e2 with e2; subst e2
   exact⟨c1,c2,k1,k2⟩)
  obtain⟨m1,m2⟩:=A6H c t p C.toList off s v c' cc ha g5 hc' g4 hf hvv c1 cc c2 k1 k2 k3
  have:=h.rewrite (blk':= .var t c') hg (b:=b0) (by simp[A0e,g1,Own.has]) 0 [] (by
   show A0A w _ _ _ _ _
   rw[hown]
   refine⟨b0,C,E,g1,g2,g3,?_,m1⟩
   rw[← k1]at m2; exact m2)
  exact this
 ·cases hp
theorem A3l(i:Nat):(c:TV)→(p:List Sel)→(u:TV)→c.getP p=some u→(c.kill i).getP p=some (u.kill i)
 | .pr a b,[],u,h=>by simp only[TV.getP,Option.some.injEq]at h; subst h; simp[TV.kill,TV.getP]
 | .pr a b,.fld 0::p,u,h=>by simp only[TV.getP]at h; simp only[TV.kill,TV.getP]; exact A3l i a p u h
 | .pr a b,.fld (n+1)::p,u,h=>by simp only[TV.getP]at h; simp only[TV.kill,TV.getP]; exact A3l i b _ u h
 | .pr a b,.idx k::p,u,h=>by simp[TV.getP]at h
 | .pv t x,p,u,h=>by
  simp only[TV.kill]
  rw[h]
  cases p with
  |nil=>rw[TV.getP_nil]at h; injection h with h; subst h; rfl
  |cons q p=>
   simp only[TV.getP,Option.map_eq_some_iff]at h
   obtain⟨r,_,rfl⟩:=h
   rfl
 | .ptr ..,p,u,h| .sl ..,p,u,h| .inn ..,p,u,h| .vw ..,p,u,h| .clp ..,p,u,h| .nilsl,p,u,h| .fn ..,p,u,h| .tup _,p,u,h| .bad,p,u,h| .und,p,u,h| .dead,p,u,h=>by
  cases p with
  |nil=>rw[TV.getP_nil]at h ⊢; injection h with h; subst h; rfl
  |cons q p=>simp[TV.getP]at h
theorem Rel.ownFld(h:Rel w0 Xo σ θ as a w){E:TypeId}{e:Ty}{dp:Option DS}{b:Nat}{p:List Sel}{i:Nat}{τ:St}(hp:σ.ownFld E e dp b p i=some τ):∃θ',Rel w0 Xo τ θ' as a w:=by
 unfold St.ownFld at hp
 cases hpin:(Nat.beq i PIN||Nat.beq b i)with
 |true=>rw[hpin]at hp; cases hp
 |false=>
 rw[hpin,cond_false]at hp
 simp only[Bool.or_eq_false_iff]at hpin
 have hpi:=A2S hpin.1
 have hbi:b≠i:=fun q=>by rw[q,Nat.beq_refl]at hpin; cases hpin.2
 split at hp
 ·rename_i t c hg
  split at hp
  ·rename_i off e2 ha
   obtain⟨hce,hp1⟩:=A0a hp
   clear hp
   have hp:=hp1
   clear hp1
   have hce:=of_decide_eq_true hce
   subst hce
   split at hp
   ·rename_i hu
    split at hp
    ·rename_i s
     obtain⟨hse,hp⟩:=A0a hp
     have hse:=of_decide_eq_true hse
     have hrel:=h.add i hpi (.tre E s []) (.tre (fun _=>some (.slice none 0 0)) []) (w':=w) none (A0h.refl _ w) (fun b hb=>by cases hb) (fun b hb=>by simp[Own.has]at hb)
      ⟨_,[],.slice none 0 0,A0n _ _ _,List.nodup_nil,_,[],[],rfl,rfl,rfl,A1k _ _ _ _,rfl,rfl⟩
     have hg2:A0b (σ.add i (.tre E s [])).heap b=some (.var t (c.kill i)):=by
      rw[A1r,if_neg hbi]
      simp only[St.kill,A1b,A1a,if_neg hbi,hg,Option.map_some]
      rfl
     refine⟨_,hrel.nameB hp hg2 ha (A3l i c p _ hu) (by simp[TV.fits,hse]) fun c0 hc0 _=> ?_⟩
     have hc0':c0=[.slice none 0 0]:=hc0
     subst hc0'
     exact⟨_,_,_,A0n _ _ _,rfl,rfl,rfl⟩
    ·have hrel:=h.add i hpi (.arr E e2 []) (.arr (.slice none 0 0)) (w':=w) none (A0h.refl _ w) (fun b hb=>by cases hb) (fun b hb=>by simp[Own.has,Value.ownBlock]at hb)
      ⟨_,[],A0n _ _ _,A1k _ _ _ _,rfl⟩
     have hg2:A0b (σ.add i (.arr E e2 [])).heap b=some (.var t (c.kill i)):=by
      rw[A1r,if_neg hbi]
      simp only[St.kill,A1b,A1a,if_neg hbi,hg,Option.map_some]
      rfl
     refine⟨_,hrel.nameB hp hg2 ha (A3l i c p _ hu) (by simp[TV.fits]) fun c0 hc0 _=> ?_⟩
     have hc0':c0=[.slice none 0 0]:=hc0
     subst hc0'
     exact⟨_,A0n _ _ _,rfl,rfl⟩
   ·rename_i j s hu
    cases hji:Nat.beq j i with
    |true=>rw[hji]at hp; injection hp with hp; subst hp; exact⟨θ,h⟩
    |false=>
     rw[hji,cond_false]at hp
     cases hpj:Nat.beq j PIN with
     |true=>rw[hpj]at hp; cases hp
     |false=>
     rw[hpj,cond_false]at hp
     have hpj:=A2S hpj
     have hji:j≠i:=fun e=>by rw[e,Nat.beq_refl]at hji; cases hji
     split at hp
     ·rename_i E' e' xs hgj
      split at hp
      ·rename_i q
       obtain⟨q1,q2⟩:=q
       subst q1; subst q2
       obtain⟨v,g1,g2,g3⟩:=h.move hji hpi hpj hgj
       have hbj:b≠j:=fun q=>by subst q; rw[hg]at hgj; injection hgj with hgj; cases hgj
       have hg2:A0b (((σ.kill i).kill j).add i (.arr E' s xs)).heap b=some (.var t (((c.kill i).kill j).kill i)):=by
        rw[A1r,if_neg hbi]
        simp only[St.kill,A1b,A1a,if_neg hbi,if_neg hbj,hg,Option.map_some]
        rfl
       refine⟨_,g3.nameB hp hg2 ha (A3l i _ p _ (A3l j _ p _ (A3l i c p _ hu))) (by simp[TV.fits]) fun c0 _ hloc=> ?_⟩
       obtain⟨b0,C,E0,m1,m2,m3,m4,m5⟩:=h.heap.blk b _ hg
       obtain⟨k0,c1,cc,c2,k1,k2,k3,v2,k4,k5,k6⟩:=A4z c t p C.toList off (.slice s) (.sl j s) ha m5 hu m4
       rw[g1]at k4; injection k4 with k4; injection k4 with k4; subst k4
       obtain⟨d1,d2,l1,l2⟩:=hloc b0 C E0 (by rw[A0P _ _ _ _ hbi]; exact m1) m3
       subst k5
       have hc0:c0=[v]:=by
        rw[k1]at l1
        have hl:=List.append_inj l1 (by rw[k2,l2])
        have h3:=hl.2
        have hln:c0.length=1:=by
         have h7:RV w (A0d Xo (A0x θ i (.arr v)) (((σ.kill i).kill j).add i (.arr E' s xs)).heap) (A0x θ i (.arr v)) false (((TV.sl j s).kill i |>.kill j).kill i) c0:=by assumption
         simp only[TV.kill,A0c hji,cond_false,Nat.beq_refl,cond_true]at h7
         obtain⟨u,hu,_⟩:=h7
         rw[hu]; rfl
        match c0,hln with
        | [x],_=>simp at h3; rw[h3.1]
       subst hc0
       exact⟨_,A0n _ _ _,rfl,g2⟩
      ·cases hp
     ·cases hp
   ·rename_i j s hu
    cases hji:Nat.beq j i with
    |true=>rw[hji]at hp; injection hp with hp; subst hp; exact⟨θ,h⟩
    |false=>
     rw[hji,cond_false]at hp
     cases hpj:Nat.beq j PIN with
     |true=>rw[hpj]at hp; cases hp
     |false=>
     rw[hpj,cond_false]at hp
     have hpj:=A2S hpj
     have hjine:j≠i:=fun e=>by rw[e,Nat.beq_refl]at hji; cases hji
     split at hp
     ·rename_i E' d xs hgj
      obtain⟨hde,hp⟩:=A0a hp
      have hde:=of_decide_eq_true hde
      obtain⟨sk,L,v,g1,g2,g3⟩:=h.heap.blk j _ hgj
      have hbj:b≠j:=fun q=>by subst q; rw[hg]at hgj; injection hgj with hgj; cases hgj
      have hrel:=h.addG [j] (fun k hk=>by simp only[List.mem_singleton]at hk; subst hk; exact⟨by simp[hgj],hpj⟩) i hpi (.tre E' d xs) (.tre sk L) (w':=w) none (A0h.refl _ w) (fun b hb=>by cases hb) (fun b hb=> .inr ⟨j,by simp,by simpa[A0e,g1,Own.has]using hb⟩)
       ⟨sk,L,v,A0n _ _ _,g2,g3.go (.sl E' d) _ _ _ _ (fun _ _=>rfl) (fun b _ hb=>A0F.may_move hpi hpj hb)⟩
      have hg2:A0b ((σ.killL [j]).add i (.tre E' d xs)).heap b=some (.var t ((c.kill j).kill i)):=by
       rw[A1r,if_neg hbi]
       simp only[St.killL,St.kill,A1b,A1a,if_neg hbi,if_neg hbj,hg,Option.map_some]
       rfl
      refine⟨_,hrel.nameB hp hg2 ha (A3l i _ p _ (A3l j c p _ hu)) (by simp[TV.fits,hde]) fun c0 hrv hloc=> ?_⟩
      obtain⟨b0,C,E0,m1,m2,m3,m4,m5⟩:=h.heap.blk b _ hg
      obtain⟨k0,c1,cc,c2,k1,k2,k3,sk2,L2,v2,k4,k4',k5,k6⟩:=A4z c t p C.toList off (.slice e2) (.inn j [] s) ha m5 hu m4
      rw[g1]at k4; injection k4 with k4; injection k4 with k4 k4b; subst k4; subst k4b
      obtain⟨d1,d2,l1,l2⟩:=hloc b0 C E0 (by rw[A0P _ _ _ _ hbi]; exact m1) m3
      subst k5
      have hc0:c0=[v2]:=by
       rw[k1]at l1
       have hl:=List.append_inj l1 (by rw[k2,l2])
       have h3:=hl.2
       have hln:c0.length=1:=by
        simp only[TV.kill,Nat.beq_refl,cond_true]at hrv
        obtain⟨u,hu,_⟩:=hrv
        rw[hu]; rfl
       match c0,hln with
       | [x],_=>simp at h3; rw[h3.1]
      subst hc0
      exact⟨_,_,_,A0n _ _ _,k4',rfl,k6⟩
     ·cases hp
   ·cases hp
  ·cases hp
 ·cases hp
theorem Rel.fldAll:∀(l:List (Nat×List Sel×Nat×TypeId)) (σ:St) (θ:Nat→Option Own) (τ:St),Rel w0 Xo σ θ as a w→σ.fldAll cx l=some τ→∃θ',Rel w0 Xo τ θ' as a w
 | [],σ,θ,τ,h,hp=>by simp only[St.fldAll,Option.some.injEq]at hp; subst hp; exact⟨θ,h⟩
 |(b,p,i,T)::r,σ,θ,τ,h,hp=>by
  simp only[St.fldAll]at hp
  split at hp
  ·split at hp
   ·rename_i τ1 h1
    obtain⟨θ1,k1⟩:=h.ownFld h1
    exact Rel.fldAll r τ1 θ1 τ k1 hp
   ·cases hp
  ·cases hp
theorem Rel.fixSome:∀(l:List Nat) (σ τ:St),Rel w0 Xo σ θ as a w→σ.fixSome l=some τ→Rel w0 Xo τ θ as a w
 | [],σ,τ,h,hp=>by simp only[St.fixSome,Option.some.injEq]at hp; subst hp; exact h
 |i::r,σ,τ,h,hp=>by
  simp only[St.fixSome]at hp
  split at hp
  ·exact Rel.fixSome r σ τ h hp
  ·split at hp
   ·rename_i τ1 h1
    have h2:=(Rel.fixAll [i] σ τ1 h (by simp[St.fixAll,h1])).1
    exact Rel.fixSome r τ1 τ h2 hp
   ·cases hp
structure St.like (σ τ:St):Prop where
 env:σ.env=τ.env
 stk:σ.stk=τ.stk
 heap:∀x,A0b σ.heap x=A0b τ.heap x
theorem St.like.refl(σ:St):σ.like σ:=⟨rfl,rfl,fun _=>rfl⟩
theorem St.like.trans{σ τ υ:St}(h:σ.like τ)(k:τ.like υ):σ.like υ:=⟨h.env.trans k.env,h.stk.trans k.stk,fun x=>(h.heap x).trans (k.heap x)⟩
theorem B1K{σ τ:St}(h:σ.like τ):A0d Xo θ σ.heap=A0d Xo θ τ.heap:=by
 funext b
 simp only[A0d,h.heap]
theorem Rel.like{σ τ:St}(k:σ.like τ)(h:Rel w0 Xo σ θ as a w):Rel w0 Xo τ θ as a w:=by
 have e:=B1K (Xo:=Xo) (θ:=θ) k
 refine⟨h.keeps,h.xo,⟨fun i b hb=> ?_,fun i j hij hi hj=> ?_⟩,?_,?_,h.defers,fun hs=>h.pin (by rw[k.heap]; exact hs)⟩
 ·rw [← e]; exact h.heap.blk i b (by rw[k.heap]; exact hb)
 ·exact h.heap.inj i j hij (by rw[k.heap]; exact hi) (by rw[k.heap]; exact hj)
 ·rw [← e,←k.env]; exact h.env
 ·rw [← e,←k.stk]; exact h.stk
theorem B0C(i:Nat)(b:Blk):∀(h:A0m) (k:Nat),A0b (B3N i b h) k=if k=i then some b else A0b h k
 | [],k=>by
  simp only[B3N,A0b]
  by_cases e:i=k
  ·simp [e]
  ·simp [A0c e,Ne.symm e]
 |(j,c)::r,k=>by
  simp only[B3N]
  cases hb:Nat.ble i j with
  |true=>
   simp only[cond,A0b]
   by_cases e:i=k
   ·simp [e]
   ·simp [A0c e,Ne.symm e]
  |false=>
   have hlt:¬i≤j:=fun h=>by rw[Nat.ble_eq_true_of_le h]at hb; cases hb
   simp only[cond,A0b,B0C i b r k]
   by_cases e:j=k
   ·subst e
    have:j≠i:=by omega
    simp[this]
   ·simp only[A0c e]
theorem A8Z:∀(h:A0m) (k:Nat),A0b (B2x h) k=A0b h k
 | [],k=>rfl
 |(i,b)::r,k=>by
  rw[B2x,B0C,A8Z r k,A0b]
  by_cases e:i=k
  ·simp [e]
  ·simp [A0c e,Ne.symm e]
theorem Rel.sort{σ:St}(h:Rel w0 Xo σ θ as a w):Rel w0 Xo σ.sort θ as a w:=Rel.like (σ:=σ) (τ:=σ.sort) ⟨rfl,rfl,fun x=>(A8Z σ.heap x).symm⟩ h
theorem Rel.cut(h:Rel w0 Xo σ θ as a w){lev:Nat}{c:Cut}{τ:St}(hp:σ.cut cx lev c=some τ):∃θ',Rel w0 Xo τ θ' as a w:=by
 unfold St.cut at hp
 simp only at hp
 split at hp
 ·rename_i σ2 h2
  split at hp
  ·rename_i σ3 h3
   split at hp
   ·rename_i σ4 h4
    injection hp with hp; subst hp
    obtain⟨θ',k⟩:=Rel.ownAll _ _ _ _ ((h.keepEnv c.keep).keepStk c.stk) h2
    obtain⟨θ2,k2⟩:=Rel.fldAll _ _ _ _ k h3
    exact⟨θ2,((Rel.fixSome _ _ _ k2 h4).killL _ _).sort⟩
   ·cases hp
  ·cases hp
 ·cases hp
end Go.Ai
/- In a region that draws its order,an operation looks at its operands and at the memory alone. -/
namespace Go.Ai
open Go.RowKit
variable {cx:Cx} {R:Type} {h:A0m} {ρ ρ':Operand→TV}
theorem A0r{α β:Type}(c:Bool)(a b:Option α)(K:α→Option β):(cond c a b).bind K=cond c (a.bind K) (b.bind K):=by cases c<;>rfl
theorem B1E(t:Ty)(a:TV)(K:TV→Option R):A1j h t a K=(A1j h t a some).bind K:=by
 unfold A1j
 repeat' split
 all_goals first|rfl|(simp only[A0r,Option.bind_some,Option.bind_none]; done)|(simp only[A0r,Option.bind_none]; congr 1; repeat' split; all_goals first|rfl|simp)
theorem B2G(xt:Option Ty)(op:BinOp)(a b:TV)(K:TV→Option R):A7e xt op a b K=(A7e xt op a b some).bind K:=by
 unfold A7e
 repeat' split
 all_goals first|rfl|(simp only[A0r,Option.bind_some,Option.bind_none]; done)|(simp only[A0r,Option.bind_none]; congr 1; repeat' split; all_goals first|rfl|(simp only[A0r,Option.bind_some,Option.bind_none]; done))
theorem B4q(op:UnOp)(a:TV)(K:TV→Option R):unK op a K=(unK op a some).bind K:=by
 unfold unK
 repeat' split
 all_goals rfl
theorem A6z{α β:Type}(v:TV)(F:Int→Option α)(K:α→Option β):A4p v (fun n=>(F n).bind K)=(A4p v F).bind K:=by
 unfold A4p
 repeat' split
 all_goals rfl
theorem A1V{α β:Type}(i:Int)(n:Nat)(F:Nat→Option α)(K:α→Option β):A6t i n (fun n=>(F n).bind K)=(A6t i n F).bind K:=by
 unfold A6t
 simp only[A0r,Option.bind_none]
theorem A2B{α β:Type}(n:Nat)(lo hi:Option TV)(F:Nat→Nat→Option α)(K:α→Option β):A0V n lo hi (fun l h=>(F l h).bind K)=(A0V n lo hi F).bind K:=by
 unfold A0V
 cases hi<;>cases lo<;>simp only[← A6z,A0r,Option.bind_none]
theorem A9g(s:Ty)(v:TV)(K:Int→Option R):A9W h s v K=(A9W h s v some).bind K:=by
 unfold A9W
 repeat' split
 all_goals first|rfl|(simp only[A0r,Option.bind_some,Option.bind_none]; done)
theorem A3z(op:Op)(hi:A0Q op=true)(K:TV→Option R):A0p cx h ρ op K=(A0p cx h ρ op some).bind K:=by
 cases op with
 |move x=>rfl
 |assign x=>rfl
 |pick c a b=>simp only[A0p]; split<;>simp only[A0r,Option.bind_some,Option.bind_none]
 |load t a=>simp only[A0p]; split<;>first|exact B1E _ _ _|rfl
 |nilCheck x=>simp only[A0p]; split<;>rfl
 |binOp op t x y u=>exact B2G _ _ _ _ _
 |unOp op t x=>exact B4q _ _ _
 |convert s d x=>
  simp only[A0p]
  split
  ·rfl
  ·rfl
  ·split<;>rfl
  ·rfl
 |slice T x lo hi mx=>
  simp only[A0p]
  split
  ·rfl
  ·split
   ·split
    ·simp only[A0r,←A2B,Option.bind_some,Option.bind_none]
    ·rfl
   ·split
    ·simp only[A0r,←A2B,Option.bind_some,Option.bind_none]
    ·rfl
   ·simp only[A0r,←A2B,Option.bind_some,Option.bind_none]
   ·simp only[A0r,←A2B,Option.bind_some,Option.bind_none]
   ·simp only[A0r,←A2B,Option.bind_some,Option.bind_none]
   ·rfl
 |sliceToArrayPointer T x=>
  simp only[A0p]
  split
  ·split
   ·simp only[A0r,Option.bind_some,Option.bind_none]
   ·rfl
  ·rfl
 |fieldAddr T x f=>
  simp only[A0p]
  split
  ·split
   ·simp only[A0r,Option.bind_none]; congr 1; split<;>simp only[A0r,Option.bind_some,Option.bind_none]
   ·rfl
  ·simp only[A0r,Option.bind_none]; congr 1; split<;>simp only[A0r,Option.bind_some,Option.bind_none]
  ·rfl
 |field T x f=>
  simp only[A0p]
  split
  ·simp only[A0r,Option.bind_none]; congr 1; split<;>rfl
  ·rfl
 |indexAddr T x ix=>
  simp only[A0p]
  rw[← A6z]
  congr 1
  funext i
  split
  ·simp only[A0r,←A1V,Option.bind_some,Option.bind_none]
  ·simp only[A0r,←A1V,Option.bind_some,Option.bind_none]
  ·split
   ·simp only[A0r,←A1V,Option.bind_some,Option.bind_none]
   ·rfl
  ·split
   ·simp only[A0r,←A1V,Option.bind_some,Option.bind_none]
   ·rfl
  ·simp only[A0r,←A1V,Option.bind_some,Option.bind_none]
  ·split
   ·simp only[A0r,←A1V,Option.bind_some,Option.bind_none]
   ·rfl
  ·simp only[A0r,←A1V,Option.bind_some,Option.bind_none]
  ·rfl
 |index T x ix=>
  simp only[A0p]
  rw[← A6z]
  congr 1
  funext i
  split
  ·simp only[A0r,←A1V,Option.bind_some,Option.bind_none]
  ·simp only[A0r,←A1V,Option.bind_some,Option.bind_none]
  ·rfl
 |extract t ix=>simp only[A0p]; split<;>first|rfl|simp only[A0r,Option.bind_some,Option.bind_none]
 |makeFunc f first cap=>
  cases f<;>simp only[A0p]<;>first|rfl|simp only[A0r,Option.bind_some,Option.bind_none]
 |build t parts=>
  simp only[A0p]
  split
  ·simp only[A0r,Option.bind_none]; congr 1; split<;>rfl
  ·rfl
 |call c=>
  obtain⟨callee,args,argTypes⟩:=c
  cases callee with
  |builtin b=>cases b with
   |len=>
    simp only[A0p]
    split
    ·split
     ·rw [A9g]
      conv=>rhs; rw[A9g]
      rw[Option.bind_assoc]
      rfl
     ·rfl
    ·rfl
   |min=>
    simp only[A0p]
    split
    ·split
     ·simp only[A0r,Option.bind_some,Option.bind_none]
     ·rfl
    ·rfl
   |max=>
    simp only[A0p]
    split
    ·split
     ·simp only[A0r,Option.bind_some,Option.bind_none]
     ·rfl
    ·rfl
   |_=>simp[A0Q]at hi
  |_=>simp[A0Q]at hi
 |_=>simp[A0Q]at hi
theorem B0S(op:Op)(hi:A0Q op=true)(K:TV→Option R)(hρ:∀x∈op.operands.toList,ρ x=ρ' x):A0p cx h ρ op K=A0p cx h ρ' op K:=by
 cases op with
 |build t parts=>
  have:parts.toList.map (fun q=>(q.1,ρ q.2))=parts.toList.map (fun q=>(q.1,ρ' q.2)):=List.map_congr_left fun q hq=>by rw[hρ q.2 (by simp only[Op.operands]; exact List.mem_map.2 ⟨q,hq,rfl⟩)]
  simp only[A0p,this]
 |makeFunc f first cap=>
  cases f with
  |func f=>
   have h1:cap.toList.map ρ=cap.toList.map ρ':=List.map_congr_left fun q hq=>hρ q (by simp only[Op.operands]; simp[Array.mem_toList_iff.1 hq])
   have h2:(cap.toList.all fun x=> !(ρ x).isTup)=cap.toList.all fun x=> !(ρ' x).isTup:=by
    rw[Bool.eq_iff_iff]
    simp only[List.all_eq_true]
    constructor
    ·intro h x hx; rw[← hρ x (by simp only[Op.operands]; simp[Array.mem_toList_iff.1 hx])]; exact h x hx
    ·intro h x hx; rw[hρ x (by simp only[Op.operands]; simp[Array.mem_toList_iff.1 hx])]; exact h x hx
   simp only[A0p,h1,h2]
  |_=>rfl
 |slice T x lo up mx=>
  have h1:ρ x=ρ' x:=hρ x (by simp[Op.operands])
  have h2:A4U ρ lo=A4U ρ' lo:=by cases lo with
   |none=>rfl
   |some y=>simp only[A4U]; rw[hρ y (by simp[Op.operands])]
  have h3:A4U ρ up=A4U ρ' up:=by cases up with
   |none=>rfl
   |some y=>simp only[A4U]; rw[hρ y (by simp[Op.operands])]
  cases mx<;>simp only[A0p,h1,h2,h3]
 |call c=>
  obtain⟨callee,args,argTypes⟩:=c
  cases callee with
  |builtin b=>cases b with
   |len=>
    simp only[A0p]
    split
    ·rename_i x T ha ht
     rw[hρ x (by
      simp only[Op.operands,Call.operands]
      simp[ha])]
    ·rfl
   |min=>
    simp only[A0p]
    split
    ·rename_i x y ha
     rw[hρ x (by simp only[Op.operands,Call.operands]; simp[ha]),hρ y (by simp only[Op.operands,Call.operands]; simp[ha])]
    ·rfl
   |max=>
    simp only[A0p]
    split
    ·rename_i x y ha
     rw[hρ x (by simp only[Op.operands,Call.operands]; simp[ha]),hρ y (by simp only[Op.operands,Call.operands]; simp[ha])]
    ·rfl
   |_=>simp[A0Q]at hi
  |_=>simp[A0Q]at hi
 |move x=>simp only[A0p,hρ x (by simp[Op.operands])]
 |assign x=>simp only[A0p,hρ x (by simp[Op.operands])]
 |pick c a b=>simp only[A0p,hρ c (by simp[Op.operands]),hρ a (by simp[Op.operands]),hρ b (by simp[Op.operands])]
 |load t a=>simp only[A0p,hρ a (by simp[Op.operands])]
 |sliceToArrayPointer t a=>simp only[A0p,hρ a (by simp[Op.operands])]
 |nilCheck x=>simp only[A0p,hρ x (by simp[Op.operands])]
 |binOp op t x y u=>simp only[A0p,hρ x (by simp[Op.operands]),hρ y (by simp[Op.operands])]
 |unOp op t x=>simp only[A0p,hρ x (by simp[Op.operands])]
 |convert s d x=>simp only[A0p,hρ x (by simp[Op.operands])]
 |fieldAddr T x f=>simp only[A0p,hρ x (by simp[Op.operands])]
 |field T x f=>simp only[A0p,hρ x (by simp[Op.operands])]
 |indexAddr T x ix=>simp only[A0p,hρ x (by simp[Op.operands]),hρ ix (by simp[Op.operands])]
 |index T x ix=>simp only[A0p,hρ x (by simp[Op.operands]),hρ ix (by simp[Op.operands])]
 |extract t ix=>simp only[A0p,hρ t (by simp[Op.operands])]
 |_=>simp[A0Q]at hi
end Go.Ai
/- Statements. -/
namespace Go.Ai
open Go.RowKit
variable {P:Program} {cx:Cx} {w0:A0F} {Xo:Nat→Prop} {σ:St} {θ:Nat→Option Own} {as:List (Array Value)} {a:Act} {w:World} {X:Nat→Prop} {R:Type} {r:R}
def conv:Ex→Exit
 | .normal=> .normal
 | .exit id=> .exit id
 | .ret=> .ret
def B2A(w0:A0F)(Xo:Nat→Prop)(as:List (Array Value))(r:R)(K:Ex→St→Option R):Exit→Act→World→Prop:=
 fun e a w=>∃x σ θ,e=conv x∧Rel w0 Xo σ θ as a w∧K x σ=some r
theorem A7T(h:Rel w0 Xo σ θ as a w){lev:Nat}{c:Cut}{K:Ex→St→Option R}{e:Ex}(hp:B4L cx lev c K e σ=some r):∃σ' θ',Rel w0 Xo σ' θ' as a w∧K e σ'=some r:=by
 have own:∀{n:Nat} {σ1 σ2:St},Rel w0 Xo σ1 θ as a w→B0a cx c n σ1=some σ2→∃θ',Rel w0 Xo σ2 θ' as a w:=by
  intro n σ1 σ2 h1 hq
  unfold B0a at hq
  split at hq
  ·exact Rel.ownAll _ _ _ _ h1 hq
  ·injection hq with hq; subst hq; exact⟨θ,h1⟩
 unfold B4L at hp
 split at hp
 ·exact ⟨σ,θ,h,hp⟩
 ·split at hp
  ·split at hp
   ·rename_i υ hu
    obtain⟨θ',k⟩:=own (h.keepEnv _) hu
    exact⟨_,θ',(k.killL _ _).sort,hp⟩
   ·cases hp
  ·exact ⟨σ,θ,h,hp⟩
 ·split at hp
  ·split at hp
   ·rename_i υ hu
    obtain⟨θ',k⟩:=own (h.keepEnv _) hu
    exact⟨_,θ',(k.killL _ _).sort,hp⟩
   ·cases hp
  ·exact ⟨σ,θ,h,hp⟩
theorem B0K{σ:St}{c:Operand}{b:Bool}(h:σ.eval c= .pv .bool b):σ.lit c b=σ:=by
 cases c with
 |tmp t=>exact St.put_same h (by simp)
 |_=>rfl
theorem A6U{p:Nat→Prop}(h:∃n,p n):∃n,p n∧∀m,p m→n≤m:=by
 obtain⟨n,hn⟩:=h
 induction n using Nat.strongRecOn with
 |_ n ih=>
  by_cases hl:∃m,m<n∧p m
  ·obtain ⟨m,h1,h2⟩:=hl
   exact ih m h1 h2
  ·exact ⟨n,hn,fun m hm=>by
    rcases Nat.lt_or_ge m n with h|h
    ·exact absurd ⟨m,h,hm⟩ hl
    ·exact h⟩
open Classical in
theorem B1F{lev:Nat}{c:Cut}{body:Code}{ex:St→(Ex→St→Option R)→Option R}{K:Ex→St→Option R}
  (hbody:∀(σ:St) (θ:Nat→Option Own) (a:Act) (w:World) (K:Ex→St→Option R),ex σ K=some r→Rel w0 Xo σ θ as a w→body.wp P (B2A w0 Xo as r K) a w)
  {n:Nat} (hp:A9j cx lev ex c K n σ=some r) (h:Rel w0 Xo σ θ as a w):(Code.loop body).wp P (B2A w0 Xo as r K) a w:=by
 let J:Nat→Act→World→Prop:=fun n a w=>∃σ θ,Rel w0 Xo σ θ as a w∧A9j cx lev ex c K n σ=some r
 let I:Act→World→Prop:=fun a w=>∃n,J n a w
 let μ:Act→World→Nat:=fun a w=>if hI:I a w then Classical.choose (A6U hI)else 0
 refine wp_loop I μ ⟨n,σ,θ,h,hp⟩ fun a1 w1 hI=> ?_
 have hμ:μ a1 w1=Classical.choose (A6U hI):=by simp[μ,hI]
 have hspec:J (Classical.choose (A6U hI)) a1 w1:=(Classical.choose_spec (A6U hI)).1
 obtain⟨σ1,θ1,h1,hp1⟩:=hspec
 cases hn:Classical.choose (A6U hI)with
 |zero=>rw[hn]at hp1; simp[A9j]at hp1
 |succ m=>
  rw[hn]at hp1
  simp only[A9j]at hp1
  refine wp_mono (hbody σ1 θ1 a1 w1 _ hp1 h1) fun e a2 w2 ⟨x,σ2,θ2,hx,h2,hp2⟩=> ?_
  subst hx
  cases x with
  |normal=>
   simp only[B2m]at hp2
   split at hp2
   ·rename_i υ hu
    obtain⟨θ3,h3⟩:=h2.cut hu
    have hI2:I a2 w2:=⟨m,υ,θ3,h3,hp2⟩
    refine⟨hI2,?_⟩
    have:μ a2 w2=Classical.choose (A6U hI2):=by simp[μ,hI2]
    rw[this,hμ,hn]
    exact Nat.lt_succ_of_le ((Classical.choose_spec (A6U hI2)).2 m ⟨υ,θ3,h3,hp2⟩)
   ·cases hp2
  |exit j=>
   simp only[B2m]at hp2
   obtain⟨σ3,θ3,h3,hp3⟩:=A7T h2 hp2
   exact⟨.exit j,σ3,θ3,rfl,h3,hp3⟩
  |ret=>
   simp only[B2m]at hp2
   obtain⟨σ3,θ3,h3,hp3⟩:=A7T h2 hp2
   exact⟨.ret,σ3,θ3,rfl,h3,hp3⟩
theorem A2r{id:Nat}{K:Ex→St→Option R}{c:Code}(h:c.wp P (B2A w0 Xo as r (B4x id K)) a w):(Code.block id c).wp P (B2A w0 Xo as r K) a w:=by
 refine wp_block (wp_mono h fun e a' w' ⟨x,σ,θ,hx,h1,hp⟩=> ?_)
 subst hx
 cases x with
 |normal=>exact⟨.normal,σ,θ,rfl,h1,hp⟩
 |ret=>exact⟨.ret,σ,θ,rfl,h1,hp⟩
 |exit j=>
  simp only[B4x]at hp
  simp only[conv,Exit.inBlock]
  by_cases hj:j=id
  ·simp only[hj,Nat.beq_refl,cond]at hp
   simp only[hj,if_true]
   exact⟨.normal,σ,θ,rfl,h1,hp⟩
  ·simp only[A0c hj,cond]at hp
   simp only[hj,if_false]
   exact⟨.exit j,σ,θ,rfl,h1,hp⟩
def B3t(P:Program)(w0:A0F)(Xo:Nat→Prop)(cx:Cx)(call:A1v R)(r:R):Prop:=
 ∀(as:List (Array Value)) lev fn id (ops:Array Oper) σ θ a w (K:Ex→St→Option R),B2e cx ops.toList=true→(B0B cx lev ops.toList (A0H cx ops.toList) σ (B5e cx lev σ (ops.toList.take (A0H cx ops.toList))) (ops.toList.take (A0H cx ops.toList)) 0 [] σ fun τ=>A5k cx call lev fn false ops.toList (ops.toList.drop (A0H cx ops.toList)) τ (K .normal))=some r→Rel w0 Xo σ θ as a w→(Code.region id ops true).wp P (B2A w0 Xo as r K) a w
structure St.Agr (σ τ:St) (L:List (Option Tmp)):Prop where
 heap:τ.heap=σ.heap
 stk:τ.stk=σ.stk
 len:τ.env.length=σ.env.length
 env:∀t,some t∉L→τ.env[t]? =σ.env[t]?
theorem St.Agr.put{σ:St}(d:Option Tmp)(v:TV):σ.Agr (σ.put d v) [d]:=by
 cases d with
 |none=>exact⟨rfl,rfl,rfl,fun _ _=>rfl⟩
 |some t=>
  refine⟨rfl,rfl,by simp[St.put],fun j hj=> ?_⟩
  have:t≠j:=fun e=>hj (by simp[e])
  simp[St.put,List.getElem?_set_ne this]
theorem St.Agr.trans{σ τ υ:St}{L M:List (Option Tmp)}(h:σ.Agr τ L)(k:τ.Agr υ M):σ.Agr υ (L++M):=
 ⟨k.heap.trans h.heap,k.stk.trans h.stk,k.len.trans h.len,fun t ht=>(k.env t (fun e=>ht (List.mem_append_right _ e))).trans (h.env t (fun e=>ht (List.mem_append_left _ e)))⟩
theorem B0Q{call:A1v R}{lev:Nat}{fn:FuncId}{draw:Bool}{o:Oper}{K:TV→St→Option R}(hi:A0Q o.op=true)(hp:opK cx call lev fn draw σ o K=some r):
  ∃tv,K tv σ=some r∧∀{R':Type} (call':A1v R') (K':TV→St→Option R'),opK cx call' lev fn draw σ o K'=K' tv σ:=by
 have key:∀{R':Type} (call':A1v R') (K':TV→St→Option R'),opK cx call' lev fn draw σ o K'=(A0p cx σ.heap σ.eval o.op some).bind fun v=>K' v σ:=by
  intro R' call' K'
  unfold opK
  split
  ·rename_i f args argTypes hop
   rw[hop]at hi; cases hi
  ·rw [hi]
   simp only[cond]
   rw[A3z _ hi]
 rw[key]at hp
 obtain⟨tv,k1,k2⟩:=Option.bind_eq_some_iff.1 hp
 exact⟨tv,k2,fun call' K'=>by rw[key,k1]; rfl⟩
theorem B3Y{call:A1v R}{lev:Nat}{fn:FuncId}{draw:Bool}{ops:List Oper}{o:Oper}{K:St→Option R}(hi:A0Q o.op=true)(hp:opG cx call lev fn draw ops σ o K=some r):
  ∃τ,σ.Agr τ [o.dst]∧K τ=some r∧∀{R':Type} (call':A1v R') (K':St→Option R'),opG cx call' lev fn draw ops σ o K'=K' τ:=by
 unfold opG at hp
 split at hp
 ·rename_i hg
  obtain⟨tv,k1,k2⟩:=B0Q hi hp
  refine⟨_,.put o.dst tv,k1,fun call' K'=> ?_⟩
  unfold opG
  simp only[hg]
  rw[k2]
 ·rename_i j want hg
  split at hp
  ·rename_i t hd
   split at hp
   ·rename_i b hb
    have e:σ.put (some t) (.pv .bool b)=σ:=St.put_same hb (by simp)
    have run:b=want→opK cx call lev fn draw σ o (fun v τ=>K (τ.put o.dst v))=some r→∃τ,σ.Agr τ [o.dst]∧K τ=some r∧∀{R':Type} (call':A1v R') (K':St→Option R'),opG cx call' lev fn draw ops σ o K'=K' τ:=by
     intro hbw hk
     obtain⟨tv,k1,k2⟩:=B0Q hi hk
     refine⟨_,.put o.dst tv,k1,fun call' K'=> ?_⟩
     unfold opG
     simp only[hg,hd,hb]
     subst hbw
     cases b<;>simp only[cond,e]<;>rw[k2]
    have pass:b≠want→K (σ.put o.dst .und)=some r→∃τ,σ.Agr τ [o.dst]∧K τ=some r∧∀{R':Type} (call':A1v R') (K':St→Option R'),opG cx call' lev fn draw ops σ o K'=K' τ:=by
     intro hbw hk
     refine⟨_,.put o.dst .und,hk,fun call' K'=> ?_⟩
     unfold opG
     simp only[hg,hd,hb]
     cases b<;>cases want<;>simp only[cond,e]<;>first|rfl|exact absurd rfl hbw
    cases b<;>cases want<;>simp only[cond,e]at hp<;>first|exact run rfl hp|exact pass (by simp) hp
   ·rename_i hb
    refine⟨_,.put o.dst .und,hp,fun call' K'=> ?_⟩
    unfold opG
    simp only[hg,hd,hb]
   ·cases hp
  ·cases hp
theorem A6A{call:A1v R}{lev:Nat}{fn:FuncId}{draw:Bool}{ops:List Oper}{K:St→Option R}:∀(l:List Oper) (σ:St),(∀ o∈l,A0Q o.op=true)→A5k cx call lev fn draw ops l σ K=some r→
  ∃τ,σ.Agr τ (l.map (·.dst))∧K τ=some r∧∀{R':Type} (call':A1v R') (K':St→Option R'),A5k cx call' lev fn draw ops l σ K'=K' τ
 | [],σ,_,hp=>⟨σ,⟨rfl,rfl,rfl,fun _ _=>rfl⟩,hp,fun _ _=>rfl⟩
 |o::l,σ,hl,hp=>by
  obtain⟨τ,h1,h2,h3⟩:=B3Y (hl o (by simp)) hp
  obtain⟨υ,k1,k2,k3⟩:=A6A l τ (fun q hq=>hl q (List.mem_cons_of_mem _ hq)) h2
  refine⟨υ,h1.trans k1,k2,fun call' K'=> ?_⟩
  show opG cx call' lev fn draw ops σ o (fun τ=>A5k cx call' lev fn draw ops l τ K')=_
  rw[h3,k3]
theorem B0r{t:Nat}{τ:St}{b:Bool}(h:A9J t τ=some b):τ.env.getD t .dead= .pv .bool b:=by
 unfold A9J at h
 split at h
 ·rename_i c hc; cases h; exact hc
 ·cases h
theorem B1v{t:Nat}{ops:List Oper}(h:B0v t ops σ=true):∀u,some u∈ops.map (·.dst)→u≠t→σ.env.getD u .dead= .dead:=by
 intro u hu hne
 obtain⟨o,ho,hd⟩:=List.mem_map.1 hu
 have:=List.all_eq_true.1 h o ho
 rw[hd]at this
 simp only[Bool.or_eq_true]at this
 rcases this with q|q
 ·exact absurd (Nat.eq_of_beq_eq_true q) hne
 ·split at q
  ·rename_i e; exact e
  ·cases q
theorem Rel.agr{τ:St}{l:List Oper}{t:Nat}(h:Rel w0 Xo τ θ as a w)(k:σ.Agr τ (l.map (·.dst)))(hd:B0v t l σ=true):Rel w0 Xo (σ.put (some t) (τ.env.getD t .dead)) θ as a w:=by
 have hh:(σ.put (some t) (τ.env.getD t .dead)).heap=τ.heap:=k.heap.symm
 have hs:(σ.put (some t) (τ.env.getD t .dead)).stk=τ.stk:=k.stk.symm
 refine⟨h.keeps,h.xo,by rw[hh]; exact h.heap,?_,by rw[hh,hs]; exact h.stk,h.defers,by rw[hh]; exact h.pin⟩
 rw[hh]
 have hl:(σ.put (some t) (τ.env.getD t .dead)).env.length=τ.env.length:=by simp[St.put,k.len]
 refine⟨h.env.1.trans hl.symm,fun j tv hj=> ?_⟩
 have hjl:j<τ.env.length:=by rw[← hl]; exact(List.getElem?_eq_some_iff.1 hj).1
 have hjτ:=List.getElem?_eq_getElem hjl
 simp only[St.put]at hj
 rw[List.getElem?_set]at hj
 split at hj
 ·rename_i e
  subst e
  split at hj
  ·simp only[Option.some.injEq]at hj
   subst hj
   have e2:τ.env.getD t .dead=τ.env[t]:=by simp[List.getD,hjτ]
   rw[e2]
   exact h.env.2 t _ hjτ
  ·cases hj
 ·rename_i hne
  by_cases hm:some j∈l.map (·.dst)
  ·have q:=B1v hd j hm (fun e=>hne e.symm)
   have:tv= .dead:=by
    rw[List.getD,hj]at q; exact q
   subst this
   obtain⟨v,v1,_⟩:=h.env.2 j _ hjτ
   exact⟨v,v1,trivial⟩
  ·exact h.env.2 j tv ((k.env j hm).trans hj)
open Classical in
theorem B2Z(hT:A3R P cx){lev:Nat}{fn:FuncId}{ops:Array Oper}{K:St→Option R}{Q:Exit→Act→World→Prop}(hm:B4K cx ops.toList=true)(h:Rel w0 Xo σ θ as a w)(hp:B5h cx lev fn ops.toList σ K=some r)
  (hK:∀σ' θ' a' w',K σ'=some r→Rel w0 Xo σ' θ' as a' w'→Q .normal a' w'):wpList P ops Q ops.toList a w:=by
 unfold B4K at hm
 simp only[Bool.and_eq_true]at hm
 obtain⟨⟨⟨_,h1⟩,_⟩,_⟩:=hm
 have hpure:∀o∈ops.toList,A0Q o.op=true:=List.all_eq_true.1 h1
 have main:∀(t:Nat) (τ:St),B0v t ops.toList σ=true→σ.Agr τ (ops.toList.map (·.dst))→(∀ {R':Type} (call':A1v R') (K':St→Option R'),A5k cx call' lev fn false ops.toList ops.toList σ K'=K' τ)→
   K (σ.put (some t) (τ.env.getD t .dead))=some r→wpList P ops Q ops.toList a w:=by
  intro t τ hd k1 k3 hp
  have hcall:A4d P w0 Xo (fun _ _ _ _ _ _ _ _=>none:A1v R):=by
   intro lev fn draw f args d σ K r θ as a w vs hp
   cases hp
  refine A5G (r:=r) hT (call:=fun _ _ _ _ _ _ _ _=>none) hcall (K:=fun τ'=>if τ'=τ then some r else none) (fun σ' θ' a' w' q1 q2=> ?_) ops.toList σ θ a w h ((k3 (fun _ _ _ _ _ _ _ _=>none) _).trans (if_pos rfl))
  have e:σ'=τ:=by
   by_cases e:σ'=τ
   ·exact e
   ·rw [if_neg e]at q1; cases q1
  subst e
  exact hK _ θ' a' w' hp (q2.agr k1 hd)
 unfold B5h at hp
 split at hp
 ·rename_i t ht
  cases hd:B0v t ops.toList σ with
  |false=>rw[hd]at hp; cases hp
  |true=>
   rw[hd,cond_true]at hp
   cases hg:(ops.toList.any fun o=>o.guard.isSome)with
   |true=>
    rw[hg,cond_true]at hp
    obtain⟨b,hb,hp⟩:∃b,A5k cx (fun _ _ _ _ _ _ _ _=>none) lev fn false ops.toList ops.toList σ (A9J t)=some b∧K (σ.put (some t) (.pv .bool b))=some r:=by
     unfold A1w at hp
     split at hp
     ·rename_i b hb; exact⟨b,hb,hp⟩
     ·cases hp
    obtain⟨τ,k1,k2,k3⟩:=A6A ops.toList σ hpure hb
    exact main t τ hd k1 k3 (by rw[B0r k2]; exact hp)
   |false=>
    rw[hg,cond_false]at hp
    obtain⟨τ,k1,k2,k3⟩:=A6A ops.toList σ hpure hp
    exact main t τ hd k1 k3 k2
 ·cases hp
theorem A0G(hT:A3R P cx){call:A1v R}(hcall:A4d P w0 Xo call)(hdraw:B3t P w0 Xo cx call r){lev:Nat}{fn:FuncId}:(c:Code)→(σ:St)→(θ:Nat→Option Own)→(a:Act)→(w:World)→(K:Ex→St→Option R)→
  A0Z cx call lev fn c σ K=some r→Rel w0 Xo σ θ as a w→c.wp P (B2A w0 Xo as r K) a w
 | .skip,σ,θ,a,w,K,hp,h=>wp_skip ⟨.normal,σ,θ,rfl,h,hp⟩
 | .region id ops draw,σ,θ,a,w,K,hp,h=>by
  simp only[A0Z]at hp
  cases draw with
  |false=>
   simp only[cond]at hp
   cases hm:B4K cx ops.toList with
   |false=>
    rw[hm]at hp
    exact wp_region_list (A5G hT hcall (K:=K .normal) (fun σ' θ' a' w' k1 k2=>⟨.normal,σ',θ',rfl,k2,k1⟩) ops.toList σ θ a w h hp)
   |true=>
    rw[hm]at hp
    exact wp_region_list (B2Z hT hm h hp fun σ' θ' a' w' k1 k2=>⟨.normal,σ',θ',rfl,k2,k1⟩)
  |true=>
   simp only[cond]at hp
   obtain⟨hd,hp⟩:=A0a hp
   exact hdraw as lev fn id ops σ θ a w K hd hp h
 | .seq x y,σ,θ,a,w,K,hp,h=>by
  simp only[A0Z]at hp
  refine wp_seq (wp_mono (A0G hT hcall hdraw x σ θ a w _ hp h) fun e a' w' ⟨x,σ',θ',hx,h1,hp1⟩=> ?_)
  subst hx
  cases x with
  |normal=>exact A0G hT hcall hdraw y σ' θ' a' w' K hp1 h1
  |exit j=>exact⟨.exit j,σ',θ',rfl,h1,hp1⟩
  |ret=>exact⟨.ret,σ',θ',rfl,h1,hp1⟩
 | .cond c x y,σ,θ,a,w,K,hp,h=>by
  simp only[A0Z]at hp
  split at hp
  ·rename_i t hc
   have hv:=h.eval c
   rw[hc]at hv
   have hev:=A2x hv
   refine wp_cond hev ?_
   cases t with
   |true=>rw[B0K hc]at hp; exact A0G hT hcall hdraw x σ θ a w K hp h
   |false=>rw[B0K hc]at hp; exact A0G hT hcall hdraw y σ θ a w K hp h
  ·cases hp
 | .block id c,σ,θ,a,w,K,hp,h=>by
  cases c with
  |loop body=>
   simp only[A0Z]at hp
   split at hp
   ·rename_i ct hct
    split at hp
    ·rename_i τ hτ
     obtain⟨θ',h'⟩:=h.cut hτ
     exact A2r (B1F (fun σ θ a w K hk hr=>A0G (fn:=fn) (lev:=lev) hT hcall hdraw body σ θ a w K hk hr) hp h')
    ·cases hp
   ·cases hp
  |skip=>rw[A0Z]at hp; exact A2r (A0G (fn:=fn) (lev:=lev) hT hcall hdraw .skip σ θ a w _ hp h); intro b hb; cases hb
  |region i o d=>rw[A0Z]at hp; exact A2r (A0G (fn:=fn) (lev:=lev) hT hcall hdraw (.region i o d) σ θ a w _ hp h); intro b hb; cases hb
  |seq x y=>rw[A0Z]at hp; exact A2r (A0G (fn:=fn) (lev:=lev) hT hcall hdraw (.seq x y) σ θ a w _ hp h); intro b hb; cases hb
  |cond x y z=>rw[A0Z]at hp; exact A2r (A0G (fn:=fn) (lev:=lev) hT hcall hdraw (.cond x y z) σ θ a w _ hp h); intro b hb; cases hb
  |block x y=>rw[A0Z]at hp; exact A2r (A0G (fn:=fn) (lev:=lev) hT hcall hdraw (.block x y) σ θ a w _ hp h); intro b hb; cases hb
  |exit i=>rw[A0Z]at hp; exact A2r (A0G (fn:=fn) (lev:=lev) hT hcall hdraw (.exit i) σ θ a w _ hp h); intro b hb; cases hb
  |ret=>rw[A0Z]at hp; exact A2r (A0G (fn:=fn) (lev:=lev) hT hcall hdraw .ret σ θ a w _ hp h); intro b hb; cases hb
  |rangeFunc f p q s=>simp[A0Z]at hp
  |scope s=>simp[A0Z]at hp
  |label l=>simp[A0Z]at hp
  |goto l=>simp[A0Z]at hp
  |refuse y=>simp[A0Z]at hp
 | .exit id,σ,θ,a,w,K,hp,h=>wp_exit ⟨.exit id,σ,θ,rfl,h,by simpa only[A0Z]using hp⟩
 | .ret,σ,θ,a,w,K,hp,h=>wp_ret ⟨.ret,σ,θ,rfl,h,by simpa only[A0Z]using hp⟩
 | .loop _,_,_,_,_,_,hp,_=>by simp[A0Z]at hp
 | .rangeFunc ..,_,_,_,_,_,hp,_=>by simp[A0Z]at hp
 | .scope _,_,_,_,_,_,hp,_=>by simp[A0Z]at hp
 | .label _,_,_,_,_,_,hp,_=>by simp[A0Z]at hp
 | .goto _,_,_,_,_,_,hp,_=>by simp[A0Z]at hp
 | .refuse _,_,_,_,_,_,hp,_=>by simp[A0Z]at hp
end Go.Ai
/- What a function hands back. -/
namespace Go.Ai
open Go.RowKit
variable {P:Program} {cx:Cx} {w0:A0F} {Xo:Nat→Prop} {σ:St} {θ:Nat→Option Own} {as:List (Array Value)} {a:Act} {w:World} {X:Nat→Prop} {R:Type} {r:R}
def B4X(tmps:Array Value):ResultVar→Sem Value
 | .tmp t=>pure (tmps.getD t undef)
 | .cell a t=>do loadVar t (← asAddr (tmps.getD a undef))
theorem A7Z(fn:Func)(tmps:Array Value):results fn tmps=(do let vs ←fn.results.mapM (B4X tmps); pure (if h:vs.size=1 then vs[0]else .tuple vs)):=rfl
def B1k(P:Program)(w:World)(X:Nat→Prop)(θ:Nat→Option Own)(tmps:Array Value):List ResultVar→List TV→List Value→Prop
 | [],[],[]=>True
 |q::qs,t::ts,v::vs=>(B4X tmps q).run P w= .ok v w∧A0g w X θ t v∧B1k P w X θ tmps qs ts vs
 |_,_,_=>False
theorem A5Z{T:TypeId}{v y:Value}(h:(Instr.loadAt T v).run P w= .ok y w):(do loadVar T (← asAddr v)).run P w= .ok y w:=by
 cases v with
 |pointer o=>
  cases o with
  |some ad=>simpa[Instr.loadAt,Instr.sureAddr,asAddr]using h
  |none=>simp[Instr.loadAt,Instr.sureAddr]at h
 |_=>simp[Instr.loadAt,Instr.sureAddr]at h
theorem A4t(hC:A1F P cx)(h:Rel w0 Xo σ θ as a w):∀(qs:List ResultVar) (ts:List TV),A7Y cx σ qs=some ts→∃vs,B1k P w (A0d Xo θ σ.heap) θ a.tmps qs ts vs
 | [],ts,hp=>by simp only[A7Y,Option.some.injEq]at hp; subst hp; exact⟨[],trivial⟩
 |q::qs,ts,hp=>by
  simp only[A7Y]at hp
  split at hp
  ·rename_i v vs h1 h2
   injection hp with hp; subst hp
   obtain⟨ws,k⟩:=A4t hC h qs vs h2
   cases q with
   |tmp t=>
    simp only[B4h,Option.some.injEq]at h1
    subst h1
    exact⟨_::ws,rfl,h.eval (.tmp t),k⟩
   |cell c T=>
    simp only[B4h]at h1
    split at h1
    ·rename_i s hs
     obtain⟨u,y,g1,g2,g3⟩:=A6W hC h.heap hs (h.eval (.tmp c)) h1
     injection g1 with g1; subst g1
     exact⟨y::ws,A5Z g2,g3,k⟩
    ·cases h1
  ·cases hp
theorem A8M{tmps:Array Value}:∀{qs:List ResultVar} {ts:List TV} {vs:List Value},B1k P w X θ tmps qs ts vs→ts.any TV.isTup=false→RV w X θ true (chain ts) vs
 | [],[],[],_,_=>rfl
 |q::qs,t::ts,v::vs,⟨_,h2,h3⟩,hn=>by
  simp only[List.any_cons,Bool.or_eq_false_iff]at hn
  exact A2j h2 (fun c e=>by subst e; simp[TV.isTup]at hn) (A8M h3 hn.2)
 | [],_::_,_,h,_=>h.elim
 | [],[],_::_,h,_=>h.elim
 |_::_,[],_,h,_=>h.elim
 |_::_,_::_,[],h,_=>h.elim
theorem A5g(hC:A1F P cx)(h:Rel w0 Xo σ θ as a w){fn:Func}{qs:List ResultVar}(hq:fn.results.toList=qs)(hlen:qs.length≤5){v:TV}(hp:A9u cx σ qs=some v):
  ∃val,(results fn a.tmps).run P w= .ok val w∧A0g w (A0d Xo θ σ.heap) θ v val:=by
 have hqa:fn.results=qs.toArray:=by apply Array.ext'; simpa using hq
 unfold A9u at hp
 split at hp
 ·rename_i u hu
  injection hp with hp; subst hp
  obtain⟨vs,k⟩:=A4t hC h qs _ hu
  rcases qs with _|⟨q,qs⟩<;>rcases vs with _|⟨y,vs⟩<;>try exact k.elim
  rcases qs with _|⟨q1,qs⟩<;>rcases vs with _|⟨y1,vs⟩<;>try exact k.2.2.elim
  exact⟨y,by rw[A7Z]; simp[hqa,k.1],k.2.1⟩
 ·rename_i ts hne hu
  have hq2:(ts.any TV.isTup)=false∧v= .tup (chain ts):=by
   cases hany:ts.any TV.isTup with
   |true=>rw[hany]at hp; cases hp
   |false=>rw[hany]at hp; injection hp with hp; exact⟨rfl,hp.symm⟩
  obtain⟨vs,k⟩:=A4t hC h qs _ hu
  obtain⟨hany,rfl⟩:=hq2
  refine⟨.tuple vs.toArray,?_,vs,rfl,A8M k hany⟩
  rw[A7Z]
  rcases qs with _|⟨q0,qs⟩<;>rcases ts with _|⟨t0,ts⟩<;>rcases vs with _|⟨y0,vs⟩<;>try exact k.elim
  ·simp [hqa]
  rcases qs with _|⟨q1,qs⟩<;>rcases ts with _|⟨t1,ts⟩<;>rcases vs with _|⟨y1,vs⟩<;>try exact k.2.2.elim
  ·exact absurd rfl (hne t0)
  rcases qs with _|⟨q2,qs⟩<;>rcases ts with _|⟨t2,ts⟩<;>rcases vs with _|⟨y2,vs⟩<;>try exact k.2.2.2.2.elim
  ·simp [hqa,k.1,k.2.2.1]
  rcases qs with _|⟨q3,qs⟩<;>rcases ts with _|⟨t3,ts⟩<;>rcases vs with _|⟨y3,vs⟩<;>try exact k.2.2.2.2.2.2.elim
  ·simp [hqa,k.1,k.2.2.1,k.2.2.2.2.1]
  rcases qs with _|⟨q4,qs⟩<;>rcases ts with _|⟨t4,ts⟩<;>rcases vs with _|⟨y4,vs⟩<;>try exact k.2.2.2.2.2.2.2.2.elim
  ·simp [hqa,k.1,k.2.2.1,k.2.2.2.2.1,k.2.2.2.2.2.2.1]
  rcases qs with _|⟨q5,qs⟩<;>rcases ts with _|⟨t5,ts⟩<;>rcases vs with _|⟨y5,vs⟩<;>try exact k.2.2.2.2.2.2.2.2.2.2.elim
  ·simp [hqa,k.1,k.2.2.1,k.2.2.2.2.1,k.2.2.2.2.2.2.1,k.2.2.2.2.2.2.2.2.1]
  simp at hlen
 ·cases hp
end Go.Ai

