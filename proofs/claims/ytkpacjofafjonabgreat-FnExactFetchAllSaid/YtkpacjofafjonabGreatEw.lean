/- The machine, and that it is sound. No conditions. -/
import Derived.Test.YtkpacjofafjonabGreatEg
import Derived.Shelf.SlSortCmp.NoneTotal
/- slices.SortFunc of rows of integers by a function that has a contract,by the shelf. -/
namespace Go.Ai
open Go.RowKit Go.Proofs Go.Shelf Go.Sort
variable {P:Program} {w:World} {X:Nat→Prop}
def A7d(n:Nat)(k:IntKind):Type:={l:List Int // l.length=n∧∀x∈l,k.has x}
theorem B3I(k:IntKind):k.has 0:=by cases k<;>simp[IntKind.has,IntKind.min,IntKind.max,IntKind.signed,IntKind.bits]
instance (n:Nat) (k:IntKind):Inhabited (A7d n k):=⟨⟨List.replicate n 0,by simp,fun x hx=>by rw[List.eq_of_mem_replicate hx]; exact B3I k⟩⟩
def A1I{n:Nat}{k:IntKind}(x:A7d n k):List Value:=x.1.map (Value.int k)
def B4t(n:Nat)(k:IntKind)(raw:List Int→List Int→Option Int):Prop:=
 ∃cf:A7d n k→A7d n k→Int,(∀ x y,raw x.1 y.1=some (cf x y))∧SWO (ltOf cf)∧∀x y,ltOf cf x y=false→ltOf cf y x=false→x=y
def leO(raw:List Int→List Int→Option Int)(x y:List Int):Bool:=match raw y x with
 |some c=> !(decide (c<0))
 |none=>false
open Classical in
noncomputable def B1S(n:Nat)(k:IntKind)(raw:List Int→List Int→Option Int)(xs:List (List Int)):Option (List (List Int)×Unit):=
 if B4t n k raw∧xs.length<4611686018427387904 then some (xs.mergeSort (leO raw),())else none
noncomputable def A3e(E:TypeId)(g:FuncId)(n:Nat)(k:IntKind)(raw:List Int→List Int→Option Int):A8p where
 k:= .arr E (.arr n (.int k))
 ps:= .pair (.fnc g) .unit
 sh:=[]
 raw:=fun xs _=>B1S n k raw xs
theorem B4i{k:IntKind}:∀(x:List Int) (cs:List Value),A0l (Rep w X (.int k)) cs x→cs=x.map (Value.int k)∧∀z∈x,k.has z
 | [],cs,h=>⟨h,by simp⟩
 |z::x,cs,⟨c1,c2,h0,⟨h1,h2⟩,h3⟩=>by
  obtain⟨e1,e2⟩:=B4i x c2 h3
  refine⟨by rw[h0,h1,e1]; rfl,fun y hy=> ?_⟩
  rcases List.mem_cons.1 hy with hy|hy
  ·subst hy; exact h2
  ·exact e2 y hy
theorem B0g{k:IntKind}:∀(x:List Int),(∀ z∈x,k.has z)→A0l (Rep w X (.int k)) (x.map (Value.int k)) x
 | [],_=>rfl
 |z::x,h=>⟨[.int k z],x.map (Value.int k),rfl,⟨rfl,h z (by simp)⟩,B0g x fun y hy=>h y (by simp[hy])⟩
theorem B2v{n:Nat}{k:IntKind}:∀(xs:List (List Int)) (ds:List Value),A0l (Rep w X (.arr n (.int k))) ds xs→∃rs:List (A7d n k),xs=rs.map (·.1)∧ds=rs.flatMap A1I
 | [],ds,h=>⟨[],rfl,h⟩
 |x::xs,ds,⟨c1,c2,h0,⟨h1,h2⟩,h3⟩=>by
  obtain⟨rs,e1,e2⟩:=B2v xs c2 h3
  obtain⟨f1,f2⟩:=B4i x c1 h2
  exact⟨⟨x,h1,f2⟩::rs,by rw[e1]; rfl,by rw[h0,f1,e2]; rfl⟩
theorem B2w{n:Nat}{k:IntKind}:∀(rs:List (A7d n k)),A0l (Rep w X (.arr n (.int k))) (rs.flatMap A1I) (rs.map (·.1))
 | []=>rfl
 |a::rs=>⟨A1I a,rs.flatMap A1I,by simp[List.flatMap_cons],⟨a.2.1,B0g a.1 a.2.2⟩,B2w rs⟩
theorem A2t{n:Nat}{k:IntKind}(x:A7d n k):(A1I x).length=n:=by simp[A1I,x.2.1]
theorem B0z{n:Nat}{k:IntKind}(hn:1≤n):∀(rs:List (A7d n k)) (t:Nat),t<rs.length*n→(rs.flatMap A1I)[t]? =some ((A1I rs.toArray[t / n]!)[t % n]!)
 | [],t,h=>by simp at h
 |a::rs,t,h=>by
  rw[List.flatMap_cons]
  by_cases ht:t<n
  ·have hd:t / n=0:=Nat.div_eq_of_lt ht
   have hm:t % n=t:=Nat.mod_eq_of_lt ht
   rw[List.getElem?_append_left (by rw[A2t]; exact ht),hd,hm]
   have hl:t<(A1I a).length:=by rw[A2t]; exact ht
   rw[List.getElem?_eq_getElem hl]
   have e0:(a::rs).toArray[0]! =a:=rfl
   rw[e0,getElem!_pos (A1I a) t hl]
  ·have ht':n≤t:=by omega
   rw[List.getElem?_append_right (by rw[A2t]; exact ht'),A2t]
   have hlt:t-n<rs.length*n:=by simp[Nat.add_mul]at h; omega
   rw[B0z hn rs (t-n) hlt]
   have hd:t / n=(t-n) / n+1:=by
    have:t=(t-n)+n:=by omega
    conv=>lhs; rw[this]
    rw[Nat.add_div_right _ hn]
   have hm:(t-n) % n=t % n:=by
    have:t=(t-n)+n:=by omega
    conv=>rhs; rw[this]
    rw[Nat.add_mod_right]
   have hq:(t-n) / n<rs.length:=by
    rw[Nat.div_lt_iff_lt_mul hn]; exact hlt
   rw[hd,hm]
   congr 3
   rw[getElem!_pos _ _ (by simpa using hq),getElem!_pos _ _ (by simpa using hq)]
   simp
theorem A7E{n:Nat}{k:IntKind}(hn:1≤n)(rs:List (A7d n k)):(flatK A1I n rs.toArray).toList=rs.flatMap A1I:=by
 have hl:(rs.flatMap A1I).length=rs.length*n:=by
  induction rs with
  |nil=>simp
  |cons a rs ih=>rw[List.flatMap_cons,List.length_append,A2t,ih,List.length_cons,Nat.add_mul]; omega
 apply List.ext_getElem?
 intro t
 by_cases ht:t<rs.length*n
 ·rw [B0z hn rs t ht,Array.getElem?_toList]
  have hs:t<(flatK A1I n rs.toArray).size:=by simpa using ht
  rw[Array.getElem?_eq_getElem hs]
  have:=get_flatK (A1I (n:=n) (k:=k)) n rs.toArray t (by simpa using ht)
  rw[getElem!_pos (flatK A1I n rs.toArray) t hs]at this
  rw[this]
 ·rw [List.getElem?_eq_none (by simp; omega),List.getElem?_eq_none (by rw[hl]; omega)]
theorem A8v{w':World}(h:A0h (fun _=>False) w w'):∃q os,w'=grow (w.drewN q) os:=by
 refine⟨w'.drawn-w.drawn,w'.heap.extract w.heap.size w'.heap.size,?_⟩
 obtain⟨heap,tape,drawn,os,out⟩:=w
 obtain⟨heap',tape',drawn',os',out'⟩:=w'
 have h1:=h.os; have h2:=h.tape; have h3:=h.output; have h4:=h.drawn; have h5:=h.size
 simp only at h1 h2 h3 h4 h5
 subst h1; subst h2; subst h3
 simp only[grow,World.drewN,World.mk.injEq,and_true,true_and]
 refine⟨?_,by omega⟩
 apply Array.ext_getElem?
 intro i
 by_cases hi:i<heap.size
 ·rw [Array.getElem?_append_left hi]
  exact h.block i hi (fun x=>x)
 ·rw [Array.getElem?_append_right (by omega)]
  by_cases hi2:i<heap'.size
  ·rw [Array.getElem?_eq_getElem hi2,Array.getElem?_eq_getElem (by simp; omega)]
   simp
   congr 1
   omega
  ·rw [Array.getElem?_eq_none (by omega),Array.getElem?_eq_none (by simp; omega)]
theorem B0d(F cur:Array Value)(j:Nat)(h:j<F.size)(hc:j<cur.size):(putCells id 0 F cur)[j]? =F[j]? :=by
 simp only[putCells]
 simp[h,hc,getElem!_pos F j h]
theorem B5q{ρ:Ren}(L:SlLaysF0.n6 P ρ){E:TypeId}{n:Nat}{k:IntKind}(hn:1≤n)(hE:ρ.t 24=E)(hT:(A0u P (.arr n (.int k))).1 E){g:FuncId}{ig:Inl}(hg:A3r P g ig){raw:List Int→List Int→Option Int}
  {c:Con} (hc:A8C P g c) (hcd:c={ps:= .pair (.arr n (.int k)) (.pair (.arr n (.int k)) .unit),sh:=[.pl (.int .i64)],raw:=fun x=>raw x.1 x.2.1})
  {f:FuncId} (hf:ρ.f 6=f) {i:Inl} (hi:A3r P f i):B0k P f (A3e E g n k raw):=by
 subst hf
 subst hE
 subst hcd
 intro w X θ1 v (xs:List (List Int)) rest ps z hX hX1 hblk hv hargs hraw hgok hgb
 have hrest:rest=[.func (.func g) #[] #[]]:=by
  obtain⟨v1,r1,c1,e1,b1,p1,p2⟩:=hargs
  have p1':c1=[.func (.func g) #[] #[]]:=p1
  have p2':r1=[]:=p2
  subst p1'; subst p2'
  rw[e1]
  simpa[A0i,Ty.isAgg,eq_comm]using b1
 subst hrest
 have hraw':B1S n k raw xs=some z:=hraw
 unfold B1S at hraw'
 split at hraw'
 case isFalse=>cases hraw'
 rename_i hcond
 obtain⟨⟨cf,hcf,hO,hTot⟩,hlen⟩:=hcond
 have hz:(xs.mergeSort (leO raw),())=z:=Option.some.inj hraw'
 subst hz
 obtain⟨v0,ds,k1,k2,k3⟩:=hblk
 obtain⟨cs,b1,v1,b2,b3,b4⟩:=hv
 rw[k1]at b2; injection b2 with b2; injection b2 with b2; subst b2
 subst b3
 have hev:v=v0:=by
  have b1': [v0]=[v]:=b1
  injection b1' with b1'
  exact b1'.symm
 subst hev
 obtain⟨rs,e1,e2⟩:=B2v xs ds k3
 have hxl:xs.length=rs.length:=by rw[e1]; simp
 let le:A7d n k→A7d n k→Bool:=fun x y=> !(ltOf cf) y x
 have hsort:xs.mergeSort (leO raw)=(rs.mergeSort le).map (·.1):=by
  rw[e1,List.map_mergeSort]
  intro a _ b _
  show(!(ltOf cf) b a)=leO raw a.1 b.1
  unfold leO
  rw[hcf b a]
  rfl
 have res:∀(w':World) (θ:Nat→Option Own),A1e w' (A0d X θ (mkH (A3e (ρ.t 24) g n k raw).sh ())) θ (fun _ b=>w.heap.size≤b) (mkH (A3e (ρ.t 24) g n k raw).sh ())∧A0g w' (A0d X θ (mkH (A3e (ρ.t 24) g n k raw).sh ())) θ (A2o (A3e (ρ.t 24) g n k raw).sh ()) (.tuple #[]):=fun w' θ=>
  ⟨⟨fun i b hb=>by simp[A3e,mkH,B1G,A0b]at hb,fun i j _ hi=>by simp[A3e,mkH,B1G,A0b]at hi⟩,[],rfl,rfl⟩
 refine .inl ⟨hi.enter _ w,?_⟩
 have none:xs.length=0→∀p cap,v= .slice p 0 cap→Calls P (ρ.f 6) #[v,.func (.func g) #[] #[]] w fun e w'=>∃u,e= .returned u∧A0h (fun b=>A0e θ1 0 b) w w'∧∃θ,A1e w' (A0d X θ (mkH (A3e (ρ.t 24) g n k raw).sh ())) θ (fun _ b=>w.heap.size≤b) (mkH (A3e (ρ.t 24) g n k raw).sh ())∧A0g w' (A0d X θ (mkH (A3e (ρ.t 24) g n k raw).sh ())) θ (A2o (A3e (ρ.t 24) g n k raw).sh ()) u∧
   A0A w' (A0d X θ (mkH (A3e (ρ.t 24) g n k raw).sh ())) θ1 (fun _ _=>True) 0 (.arr (ρ.t 24) (.arr n (.int k)) (xs.mergeSort (leO raw))):=by
  intro h0 p cap hvp
  have hx:xs=[]:=List.eq_nil_of_length_eq_zero h0
  have hs0:xs.mergeSort (leO raw)=xs:=by rw[hx]; simp
  have hvp':=hvp
  subst hvp
  refine(AnyF.slices_SortFunc_none L p cap _ w).mono ?_
  rintro e w' ⟨rfl,rfl⟩
  obtain⟨r1,r2⟩:=res w' (fun _=> .none)
  refine⟨_,rfl,A0h.refl _ _,fun _=> .none,r1,r2,_,ds,k1,?_,?_⟩
  ·rw [hs0]; exact k2
  ·rw [hs0]; exact A0o (fun c x hx=>A0S (.arr n (.int k)) (by simp[Ty.hasRef]) c x hx) k3
 rcases k2.2 with⟨hv0,hn0⟩|⟨b,cap,cur,hv0,_,hgc,hnc,hcm,hcs,htake⟩
 ·exact none hn0 _ _ (by rw[hv0])
 ·by_cases h0:xs.length=0
  ·exact none h0 _ _ (by rw[hv0,h0])
  ·have hE:A0e θ1 0 b:=by simp[A0e,k1,Own.has,hv0,Value.ownBlock]
   have hcs1:cur.size=cap*n:=by simpa[Ty.size]using hcs
   have hbt:b<w.heap.size:=(Array.getElem?_eq_some_iff.1 hgc).1
   have htk:cur.toList.take (rs.length*n)=rs.flatMap A1I:=by
    rw[← e2,←htake,hxl]; simp[Ty.size]
   have hfl:=A7E hn rs
   have hcapn:rs.length*n≤cur.size:=by rw[hcs1,←hxl]; exact Nat.mul_le_mul_right _ hnc
   have hH:HoldsK A1I n w b 0 rs.toArray:=by
    intro j hj
    have hj':j<rs.length*n:=by simpa using hj
    refine⟨?_,by simp[World.frozen?,hgc]⟩
    have h1:(cur.toList.take (rs.length*n))[j]? =(flatK A1I n rs.toArray).toList[j]? :=by rw[htk,hfl]
    rw[List.getElem?_take_of_lt hj',Array.getElem?_toList,Array.getElem?_toList]at h1
    simp only[World.cell?,hgc,Nat.zero_add,Option.isSome_none,Bool.false_eq_true,if_false]
    rw[h1,Array.getElem?_eq_getElem hj,getElem!_pos (flatK A1I n rs.toArray) j hj]
    rfl
   have hv':v= .slice (some ⟨b,0,.none⟩) rs.toArray.size cap:=by rw[hv0,hxl]; simp
   rw[hv']
   have hcmp:CmpLays P g #[] A1I n cf b 0 rs.toArray.size w:=by
    intro m os dk hdk x y
    have hw:GOk P (sortWorldK A1I n w b 0 m dk os):=by
     refine hgok.keeps (M:=fun q=>q=b) ⟨rfl,rfl,rfl,by show w.drawn≤w.drawn+m; omega,by simp[sortWorldK,putRowK,putRow,mapBlock,Sort.ahead],fun q hq hne=> ?_⟩ (fun q hq=>by subst hq; exact hgb q hE)
     unfold sortWorldK
     rw[heap_grow_old _ _ (by simpa[putRowK,putRow,mapBlock,Sort.ahead]using hq)]
     have:b≠q:=fun e=>hne e.symm
     simp[putRowK,putRow,mapBlock,Sort.ahead,Array.getElem?_modify,this]
    have hd:=hc (sortWorldK A1I n w b 0 m dk os) (fun _=>False) #[.agg (A1I x).toArray,.agg (A1I y).toArray] (x.1,(y.1,())) (cf x y) (fun _ h=>h.elim)
     ⟨_,_,_,rfl,rfl,⟨x.2.1,B0g x.1 x.2.2⟩,_,_,_,rfl,rfl,⟨y.2.1,B0g y.1 y.2.2⟩,rfl⟩ (hcf x y) hw
    have ha: #[Value.agg (A1I x).toArray,.agg (A1I y).toArray]++ #[]= #[Value.agg (A1I x).toArray,.agg (A1I y).toArray]:=by simp
    rw[ha]
    rcases hd with⟨_,hd⟩|⟨u,w',hd,_⟩
    ·refine hd.mono fun e w' ⟨u,he,hk,θ,_,hr⟩=> ?_
     obtain⟨cs,g1,g2,_⟩:=hr
     subst g2
     have g1': [Value.int .i64 (cf x y)]=[u]:=g1
     have hu:u= .int .i64 (cf x y):=by injection g1' with g1' _; exact g1'.symm
     subst hu
     exact⟨he,A8v hk⟩
    ·rw [hg.enter _ _]at hd; cases hd
   have heg:∀args w,(callFunc g args).run P w= .ok (.enter g args) w:=fun args w=>hg.enter args w
   have hone:∀(x:A7d n k),∀u∈A1I x,u.oneCell'=true:=fun x u hu=>by
    obtain⟨z,_,rfl⟩:=List.mem_map.1 hu; rfl
   refine(AnyQ.slices_SortFunc_total L n (fun w=>A0u.isAgg hT w) (fun w=>by
    have:=A0u.size _ _ hT
    unfold Program.hasSize at this
    cases hq:P.info? (ρ.t 24)with
    |none=>simp[hq]at this
    |some inf=>
     have hs:inf.size=n:=by simpa[hq,Ty.size]using this
     simp[Go.sizeOf,typeInfo,hq,hs]) A1I A2t hone cf hO g #[] b 0 cap rs.toArray w heg hcmp hH hbt (by simpa[← hxl]using hlen) hTot).mono ?_
   rintro e w' ⟨rfl,m,os,rfl⟩
   obtain⟨r1,r2⟩:=res (sortWorldK A1I n w b 0 m (rs.mergeSort le).toArray os) (fun _=> .none)
   have hml:(rs.mergeSort le).length=rs.length:=by simp
   have hheap:(sortWorldK A1I n w b 0 m (rs.mergeSort le).toArray os).heap[b]? =some (.cells (putCells id 0 (flatK A1I n (rs.mergeSort le).toArray) cur) (ρ.t 24) (0,0)):=by
    unfold sortWorldK
    rw[heap_grow_old _ _ (by simpa[putRowK,putRow,mapBlock,Sort.ahead]using hbt)]
    simp[putRowK,putRow,mapBlock,Sort.ahead,Array.getElem?_modify,hgc,onCells]
   have hfl2:=A7E hn (rs.mergeSort le)
   have htk2:(putCells id 0 (flatK A1I n (rs.mergeSort le).toArray) cur).toList.take (rs.length*n)=(rs.mergeSort le).flatMap A1I:=by
    rw[← hfl2]
    apply List.ext_getElem?
    intro j
    by_cases hj:j<rs.length*n
    ·rw [List.getElem?_take_of_lt hj,Array.getElem?_toList,Array.getElem?_toList]
     have hs:j<(flatK A1I n (rs.mergeSort le).toArray).size:=by simpa[hml]using hj
     exact B0d _ cur j hs (by omega)
    ·rw [List.getElem?_take_eq_none (by omega),List.getElem?_eq_none (by simp[hml]; omega)]
   refine⟨_,rfl,⟨rfl,rfl,rfl,by show w.drawn≤w.drawn+m; omega,by simp[sortWorldK,putRowK,putRow,mapBlock,Sort.ahead],fun q hq hne=> ?_⟩,fun _=> .none,r1,r2,v,(rs.mergeSort le).flatMap A1I,k1,?_,?_⟩
   ·unfold sortWorldK
    rw[heap_grow_old _ _ (by simpa[putRowK,putRow,mapBlock,Sort.ahead]using hq)]
    have:b≠q:=fun e=>hne (by subst e; exact hE)
    simp[putRowK,putRow,mapBlock,Sort.ahead,Array.getElem?_modify,this]
   ·rw [hsort,List.length_map,hml]
    refine⟨?_,.inr ⟨b,cap,_,?_,trivial,hheap,?_,hcm,?_,?_⟩⟩
    ·rw [← hfl2]; simp[hml,Ty.size]
    ·rw [hv0,hxl]
    ·rw [← hxl]; exact hnc
    ·simp [putCells,hcs1,Ty.size]
    ·simpa [Ty.size]using htk2
   ·rw [hsort]; exact B2w _
end Go.Ai

