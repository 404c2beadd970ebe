/- The machine, and that it is sound. No conditions. -/
import Derived.Test.YtkpacjofafjonabGreatEy
import Derived.Shelf.Lays2
import Derived.Lib.JoinLaws
import Derived.Lib.Overlaps
import Derived.Laws.NewBlocks
/- slices.Insert,for elements of any number of cells: its text is walked. -/
namespace Go.Ai
open Go.RowKit Go.Proofs Go.Shelf
variable {P:Program} {ρ:Ren}
structure InsLay (P:Program) (ρ:Ren) (sz:Nat):Prop where
 mixed:P.follows .mixedOrders=true
 f22:Bears P (ρ.f 22) (Body2.n22 ρ)
 ov:∀(args:Array Value) (w:World),(callFunc (ρ.f 29) args).run P w=((Extern.SlicesOverlaps.overlaps #[ρ.t 24,ρ.t 24] #[ρ.t 4] args).run P w).andThen fun v w'=> .ok (.value v) w'
 t0:P.underlying (ρ.t 0)=some (TypeDesc.tuple #[])
 a0:∀w,(isAgg (ρ.t 0)).run P w= .ok false w
 z0:∀w,(Go.sizeOf (ρ.t 0)).run P w= .ok 1 w
 v0:∀w,(zeroValue (ρ.t 0)).run P w= .ok (Value.tuple #[]) w
 t3:P.underlying (ρ.t 3)=some (TypeDesc.int IntKind.i64)
 a3:∀w,(isAgg (ρ.t 3)).run P w= .ok false w
 z3:∀w,(Go.sizeOf (ρ.t 3)).run P w= .ok 1 w
 v3:∀w,(zeroValue (ρ.t 3)).run P w= .ok (Value.int IntKind.i64 0) w
 t4:P.underlying (ρ.t 4)=some (TypeDesc.bool)
 a4:∀w,(isAgg (ρ.t 4)).run P w= .ok false w
 z4:∀w,(Go.sizeOf (ρ.t 4)).run P w= .ok 1 w
 v4:∀w,(zeroValue (ρ.t 4)).run P w= .ok (Value.bool false) w
 z9:∀w,(Go.sizeOf (ρ.t 9)).run P w= .ok sz w
 t24:P.underlying (ρ.t 24)=some (TypeDesc.slice (ρ.t 9))
 a24:∀w,(isAgg (ρ.t 24)).run P w= .ok false w
 z24:∀w,(Go.sizeOf (ρ.t 24)).run P w= .ok 1 w
 v24:∀w,(zeroValue (ρ.t 24)).run P w= .ok (Value.slice none 0 0) w
theorem B0u{w:World}{o:Oper}{a:Act}{K:Act→World→Prop}{Q:Exit→Act→World→Prop}(d s:Operand)(t t':TypeId)
  (ho:o.op= .call {callee:= .builtin .copy,args:= #[d,s],argTypes:= #[t,t']}) (v u:Value) (hd:a.eval d=v) (hs:a.eval s=u) {v':Value} {w':World}
  (hr:(Builtin.copy_ #[t,t'] o.type #[v,u]).run P w= .ok v' w') (h:K (a.put o.dst v') w'):o.wp P a w K Q:=by
 unfold Oper.wp execOp
 simp only[ho,resolve,invoke,builtin,Sem.run_bind,Sem.run_pure,Result.andThen_ok,List.map_toArray,List.map_cons,List.map_nil,hd,hs,hr]
 exact h
theorem A6o{w:World}{ops:Array Oper}{rest:List Oper}{o:Oper}{a:Act}{Q:Exit→Act→World→Prop}(hgd:o.guard=none)(d s:Operand)(t t':TypeId)
  (ho:o.op= .call {callee:= .builtin .copy,args:= #[d,s],argTypes:= #[t,t']}) (v u:Value) (hd:a.eval d=v) (hs:a.eval s=u) {v':Value} {w':World}
  (hr:(Builtin.copy_ #[t,t'] o.type #[v,u]).run P w= .ok v' w') (h:wpList P ops Q rest (a.put o.dst v') w'):wpList P ops Q (o::rest) a w:=
 wpList_plain hgd fun _ hK=>B0u d s t t' ho v u hd hs hr (hK _ _ h)
theorem A8R{ops:Array Oper}{o:Oper}{a:Act}{w:World}{K:Act→World→Prop}{Q:Exit→Act→World→Prop}{E:Prop}
  (hg:o.guard=none) (d x:Operand) (dT sT:TypeId) (hop:o.op=Op.call {callee:=Callee.builtin Builtin.copy,args:= #[d,x],argTypes:= #[dT,sT]})
  (v u:Value) (hd:a.eval d=v) (hx:a.eval x=u) {v':Value} {w':World} (hr:(Builtin.copy_ #[dT,sT] o.type #[v,u]).run P w= .ok v' w') (hK:K (a.put o.dst v') w'):
  if Region.wanted o (yielded ops a.tmps)=true then Oper.wp P o a w K Q else E:=by
 have hw:Region.wanted o (yielded ops a.tmps)=true:=by simp[Region.wanted,hg]
 rw[if_pos hw]
 exact B0u d x dT sT hop v u hd hx hr hK
theorem A5u(b:Nat)(vs:List Value)(o:Nat)(w:World)(h:∀j,j<vs.length→(w.cell? ⟨b,o+j,none⟩).isSome=true)(k:Nat)(hk:(w.cell? ⟨b,k,none⟩).isSome=true):((w.setCells b o vs).cell? ⟨b,k,none⟩).isSome=true:=by
 by_cases hin:o≤k∧k<o+vs.length
 ·have:=World.cell?_setCells_in b vs o w h (k-o) (by omega)
  rw[show o+(k-o)=k by omega]at this
  rw[this]; rfl
 ·rw [World.cell?_setCells_out b vs o w ⟨b,k,none⟩ (fun _ _=>by show k<o∨o+vs.length≤k; omega)]
  exact hk
theorem A4u(w:World)(dT sT ty elem:TypeId)(b o dLen dCap:Nat)(a:Addr)(sLen sCap sz k:Nat)(cs:List Value)
  (hu:P.underlying dT=some (.slice elem)) (hz:∀w,(Go.sizeOf elem).run P w= .ok sz w) (hk:Nat.min sLen dLen=k) (hn:cs.length=k*sz)
  (hsrc:∀j v,cs[j]? =some v→w.cell? (a.add j)=some v) (hc:∀j,j<cs.length→(w.cell? ⟨b,o+j,none⟩).isSome=true) (hf:∀j,j<cs.length→w.frozen? ⟨b,o+j,none⟩=false) (h1:∀v∈cs,v.oneCell'=true):
  (Builtin.copy_ #[dT,sT] ty #[.slice (some ⟨b,o,none⟩) dLen dCap,.slice (some a) sLen sCap]).run P w= .ok (goInt ((k:Nat):Int)) (w.setCells b o cs):=by
 have hl:=run_loadCells_list (P:=P) w a cs hsrc
 have hst:=run_storeCells_cells (P:=P) b o cs 0 w (by simpa using hc) (by simpa using hf) h1
 simp only[Nat.add_zero]at hst
 rw[hn]at hl
 subst hk
 simp[Builtin.copy_,run_underlying hu,Builtin.lenOf,Builtin.firstCells,hz,hl,hst]
set_option maxHeartbeats 4000000 in
set_option maxRecDepth 100000 in
theorem B2V{sz:Nat}(L:InsLay P ρ sz)(hsz:0<sz)(b n c i vb m vc:Nat)(cs vs:List Value)(w:World)(hi:i<n)(hm:0<m)(hroom:n+m≤c)(hc63:c≤9223372036854775807)(hvb:vb≠b)
  (hcl:cs.length=n*sz) (hvl:vs.length=m*sz)
  (hcs:∀j v,cs[j]? =some v→w.cell? ⟨b,0+j,none⟩=some v) (hsp:∀j,j<(n+m)*sz→(w.cell? ⟨b,0+j,none⟩).isSome=true) (hfz:∀j,j<(n+m)*sz→w.frozen? ⟨b,0+j,none⟩=false)
  (hvs:∀j v,vs[j]? =some v→w.cell? ⟨vb,0+j,none⟩=some v) (h1c:∀v∈cs,v.oneCell'=true) (h1v:∀v∈vs,v.oneCell'=true)
  (tA tB:TypeId) (kA kB:Nat) (hsa:w.shape? vb=some (tA,kA)) (hsb:w.shape? b=some (tB,kB)) (hkB:kB≠0) (hfa:w.frozen? ⟨vb,0,none⟩=false) (hfe:w.frozen? ⟨vb,kA,none⟩=false):
  Calls P (ρ.f 22) #[.slice (some ⟨b,0,none⟩) n c,.int .i64 i,.slice (some ⟨vb,0,none⟩) m vc] w fun e w'=>
   e= .returned (.slice (some ⟨b,0,none⟩) (n+m) c)∧w'=(w.drew.setCells b ((i+m)*sz) (cs.drop (i*sz))).setCells b (i*sz) vs:=by
 have t0:=L.t0; have a0:=L.a0; have z0:=L.z0; have v0:=L.v0; have t3:=L.t3; have a3:=L.a3; have z3:=L.z3; have v3:=L.v3; have t4:=L.t4; have a4:=L.a4; have z4:=L.z4; have v4:=L.v4; have z9:=L.z9; have t24:=L.t24; have a24:=L.a24; have z24:=L.z24; have v24:=L.v24
 have u0:=run_underlying L.t0; have u3:=run_underlying L.t3; have u4:=run_underlying L.t4; have u24:=run_underlying L.t24
 have hz1:¬((m:Int)=0):=by omega
 have hz2:¬((i:Int)=(n:Int)):=by omega
 have hov:∀o lb cb,(callFunc (ρ.f 29) #[.slice (some ⟨vb,0,none⟩) m vc,.slice (some ⟨b,o,none⟩) lb cb]).run P w= .ok (.value (.bool false)) w:=fun o lb cb=>by
  rw[L.ov,Lib.run_overlaps_apart w (ρ.t 24) (ρ.t 4) (ρ.t 9) L.t24 sz L.z9 ⟨vb,0,none⟩ ⟨b,o,none⟩ m vc lb cb hvb tA tB kA kB hsa hsb hkB hfa hfe]
  rfl
 have hdl:(cs.drop (i*sz)).length=(n-i)*sz:=by rw[List.length_drop,hcl,Nat.sub_mul]
 have mixed:=L.mixed
 have hw1:IntKind.i64.wrap ((i:Int)+(m:Int))=(i:Int)+(m:Int):=by rw[IntKind.wrap_i64]; omega
 have hb1:(0:Int)≤(i:Int)+(m:Int):=by omega
 have hin:i≤n:=by omega
 have htn:((i:Int)+(m:Int)).toNat=i+m:=by omega
 have hb2:¬(c=i+m):=by omega
 have hb3:(i:Int)≤(n:Int)+(m:Int):=by omega
 have hb4:¬(c=i):=by omega
 have e1:(i+m)*sz+(n-i)*sz=(n+m)*sz:=by rw[← Nat.add_mul]; congr 1; omega
 have e2:i*sz+m*sz≤(n+m)*sz:=by rw[← Nat.add_mul]; exact Nat.mul_le_mul_right _ (by omega)
 have hcp1:∀ty dc sc,(Builtin.copy_ #[(ρ.t 24),(ρ.t 24)] ty #[.slice (some ⟨b,(i+m)*sz,none⟩) (n+m-(i+m)) dc,.slice (some ⟨b,i*sz,none⟩) (n+m-i) sc]).run P w.drew= .ok (goInt ((n-i:Nat):Int)) (w.drew.setCells b ((i+m)*sz) (cs.drop (i*sz))):=fun ty dc sc=>
  A4u w.drew _ _ ty (ρ.t 9) b ((i+m)*sz) (n+m-(i+m)) dc ⟨b,i*sz,none⟩ (n+m-i) sc sz (n-i) (cs.drop (i*sz)) L.t24 L.z9 (by simp only[Nat.min_def]; split<;>omega) hdl
   (fun j v hj=>by
    rw[Addr.add_lit]
    have:=hcs (i*sz+j) v (by rwa [List.getElem?_drop]at hj)
    rwa [Nat.zero_add]at this)
   (fun j hj=>by have:=hsp ((i+m)*sz+j) (by omega); rwa [Nat.zero_add]at this) (fun j hj=>by have:=hfz ((i+m)*sz+j) (by omega); rwa [Nat.zero_add]at this) (fun v hv=>h1c v (List.mem_of_mem_drop hv))
 obtain⟨W1,hW1⟩:∃W1,W1=w.drew.setCells b ((i+m)*sz) (cs.drop (i*sz)):=⟨_,rfl⟩
 have hsp1:∀k,k<(n+m)*sz→(W1.cell? ⟨b,k,none⟩).isSome=true:=fun k hk=>by
  rw[hW1]
  exact A5u b _ _ _ (fun j hj=>by have:=hsp ((i+m)*sz+j) (by omega); rwa [Nat.zero_add]at this) _ (by have:=hsp k hk; rwa [Nat.zero_add]at this)
 have hcp2:∀(W:World),(∀ x,W.cell? x=W1.cell? x)→(∀ x,W.frozen? x=W1.frozen? x)→∀ty dc,(Builtin.copy_ #[(ρ.t 24),(ρ.t 24)] ty #[.slice (some ⟨b,i*sz,none⟩) (n+m-i) dc,.slice (some ⟨vb,0,none⟩) m vc]).run P W= .ok (goInt ((m:Nat):Int)) (W.setCells b (i*sz) vs):=fun W hWc hWf ty dc=>
  A4u W _ _ ty (ρ.t 9) b (i*sz) (n+m-i) dc ⟨vb,0,none⟩ m vc sz m vs L.t24 L.z9 (by simp only[Nat.min_def]; split<;>omega) hvl
   (fun j v hj=>by
    rw[Addr.add_lit,hWc,hW1,World.cell?_setCells_out b _ _ _ _ (fun h _=>absurd h hvb)]
    exact hvs j v hj)
   (fun j hj=>by rw[hWc]; exact hsp1 _ (by omega)) (fun j hj=>by rw[hWf,hW1,World.frozen?_setCells]; have:=hfz (i*sz+j) (by omega); rwa [Nat.zero_add]at this) h1v
 rw[← hW1]at hcp1
 obtain⟨nm,_,FG⟩:=L.f22
 go_enter FG,Body2.n22_ntmps ρ
 go_wp2_with (simp only[hov])
 go_region_law_o (refine A8R rfl _ _ (ρ.t 24) (ρ.t 24) rfl _ _ (by simp[Act.eval,Act.put]) (by simp[Act.eval,Act.put]) (hcp1 _ _ _) ?_)
 go_wp2_with (at_builtin; refine A6o rfl _ _ (ρ.t 24) (ρ.t 24) rfl _ _ rfl rfl (hcp2 _ (fun _=>rfl) (fun _=>rfl) _ _) ?_)
 go_ret
 first|exact⟨rfl,rfl⟩|exact⟨rfl,by rw[hW1]⟩
set_option maxHeartbeats 4000000 in
set_option maxRecDepth 100000 in
theorem A9S{sz:Nat}(L:InsLay P ρ sz)(i0:TypeInfo)(hi0:P.info? (ρ.t 9)=some i0)(hs0:i0.size=sz)(b n c vb m vc:Nat)(vs:List Value)(w:World)(hm:0<m)(hroom:n+m≤c)(hc63:c≤9223372036854775807)
  (hvl:vs.length=m*sz) (hsp:∀j,j<m*sz→(w.cell? ⟨b,0+n*sz+j,none⟩).isSome=true) (hfz:∀j,j<m*sz→w.frozen? ⟨b,0+n*sz+j,none⟩=false)
  (hvs:∀j v,vs[j]? =some v→w.cell? ⟨vb,0+j,none⟩=some v) (h1v:∀v∈vs,v.oneCell'=true):
  Calls P (ρ.f 22) #[.slice (some ⟨b,0,none⟩) n c,.int .i64 n,.slice (some ⟨vb,0,none⟩) m vc] w fun e w'=>
   e= .returned (.slice (some ⟨b,0,none⟩) (n+m) c)∧w'=w.setCells b (n*sz) vs:=by
 have t0:=L.t0; have a0:=L.a0; have z0:=L.z0; have v0:=L.v0; have t3:=L.t3; have a3:=L.a3; have z3:=L.z3; have v3:=L.v3; have t4:=L.t4; have a4:=L.a4; have z4:=L.z4; have v4:=L.v4; have z9:=L.z9; have t24:=L.t24; have a24:=L.a24; have z24:=L.z24; have v24:=L.v24
 have u0:=run_underlying L.t0; have u3:=run_underlying L.t3; have u4:=run_underlying L.t4; have u24:=run_underlying L.t24
 have mixed:=L.mixed
 have hz1:¬((m:Int)=0):=by omega
 have hsrc:Src P i0.size (ρ.t 24) (.slice (some ⟨vb,0,none⟩) m vc) m vs w:=Src.ofSlice w L.t24 ⟨vb,0,none⟩ m vc vs (by rw[hs0]; omega) (fun j u hj=>by rw[Addr.add_lit]; exact hvs j u hj) h1v
 have hrun:=fun ty=>run_append_room_src (P:=P) (w:=w) (ρ.t 24) (ρ.t 24) ty (ρ.t 9) i0 L.t24 hi0 b 0 n c _ m vs hsrc hroom (by rw[hvl,hs0]; exact hsp) (by rw[hvl,hs0]; exact hfz)
 rw[hs0,Nat.zero_add]at hrun
 obtain⟨nm,_,FG⟩:=L.f22
 go_enter FG,Body2.n22_ntmps ρ
 go_wp2_with (at_builtin; refine Lib.wpList_append_run _ rfl _ _ (ρ.t 24) (ρ.t 24) rfl _ _ rfl rfl _ _ (hrun _) ?_)
 go_ret
 exact⟨rfl,rfl⟩
set_option maxHeartbeats 4000000 in
set_option maxRecDepth 100000 in
theorem A9R{sz:Nat}(L:InsLay P ρ sz)(i0:TypeInfo)(z:Value)(hi0:P.info? (ρ.t 9)=some i0)(hz0:i0.zero=some z)(hs0:i0.size=sz)(base:Option Addr)(n c vb m vc:Nat)(cs vs:List Value)(w:World)(hm:0<m)(hnc:n≤c)(hroom:c<n+m)(hbig:(n+m)*i0.bytes≤140737488355328)(h63:n+m≤4611686018427387904)
  (hcl:cs.length=n*sz) (hvl:vs.length=m*sz) (hnil:base=none→n=0)
  (hcs:∀a,base=some a→∀j v,cs[j]? =some v→w.cell? (a.add j)=some v)
  (hvs:∀j v,vs[j]? =some v→w.cell? ⟨vb,0+j,none⟩=some v) (h1v:∀v∈vs,v.oneCell'=true):
  Calls P (ρ.f 22) #[.slice base n c,.int .i64 n,.slice (some ⟨vb,0,none⟩) m vc] w fun e w'=>
   e= .returned (.slice (some ⟨w.heap.size,0,none⟩) (n+m) (grownCap w (n+m) c (ρ.t 9)))∧
   w'=w.drew.alloc (.cells ((cs++vs).toArray++Builtin.zeroCells z.cells (grownCap w (n+m) c (ρ.t 9)-(n+m))) (ρ.t 9)):=by
 have t0:=L.t0; have a0:=L.a0; have z0:=L.z0; have v0:=L.v0; have t3:=L.t3; have a3:=L.a3; have z3:=L.z3; have v3:=L.v3; have t4:=L.t4; have a4:=L.a4; have z4:=L.z4; have v4:=L.v4; have z9:=L.z9; have t24:=L.t24; have a24:=L.a24; have z24:=L.z24; have v24:=L.v24
 have u0:=run_underlying L.t0; have u3:=run_underlying L.t3; have u4:=run_underlying L.t4; have u24:=run_underlying L.t24
 have mixed:=L.mixed
 have hz1:¬((m:Int)=0):=by omega
 have hsrc:Src P i0.size (ρ.t 24) (.slice (some ⟨vb,0,none⟩) m vc) m vs w:=Src.ofSlice w L.t24 ⟨vb,0,none⟩ m vc vs (by rw[hs0]; omega) (fun j u hj=>by rw[Addr.add_lit]; exact hvs j u hj) h1v
 have hold:(Builtin.firstCells i0.size n (.slice base n c)).run P w.drew= .ok cs.toArray w.drew:=by
  rw[hs0]
  cases base with
  |none=>
   have h0:=hnil rfl
   subst h0
   rw[Nat.zero_mul]at hcl
   rw[List.length_eq_zero_iff.1 hcl]
   exact run_firstCells_none w.drew sz 0 0 c
  |some a=>exact run_firstCells_some w.drew sz n a n c cs hcl (fun j v hj=>hcs a rfl j v hj)
 have hrun:∀ty,(Builtin.append_ #[(ρ.t 24),(ρ.t 24)] ty #[.slice base n c,.slice (some ⟨vb,0,none⟩) m vc]).run P w=_:=fun ty=>
  run_append_grow_src w (ρ.t 24) (ρ.t 24) ty (ρ.t 9) i0 _ L.t24 hi0 hz0 base n c cs hold _ m vs hsrc hroom (by omega) (growslice_fits hroom hbig)
 obtain⟨nm,_,FG⟩:=L.f22
 go_enter FG,Body2.n22_ntmps ρ
 cases base with
 |none=>
  go_wp2_with (at_builtin; refine Lib.wpList_append_run _ rfl _ _ _ _ rfl _ _ rfl rfl _ _ (hrun _) ?_)
  all_goals (go_ret; exact⟨rfl,rfl⟩)
 |some a=>
  obtain⟨ab,ao,asp⟩:=a
  go_wp2_with (at_builtin; refine Lib.wpList_append_run _ rfl _ _ _ _ rfl _ _ rfl rfl _ _ (hrun _) ?_)
  all_goals (go_ret; exact⟨rfl,rfl⟩)
set_option maxHeartbeats 4000000 in
set_option maxRecDepth 100000 in
theorem B3O{sz:Nat}(L:InsLay P ρ sz)(i0:TypeInfo)(z:Value)(hi0:P.info? (ρ.t 9)=some i0)(hz0:i0.zero=some z)(hs0:i0.size=sz)(hsz:0<sz)(hzc:z.cells.size=sz)(b n c i vb m vc:Nat)(cs vs:List Value)(w:World)(hi:i<n)(hm:0<m)(hnc:n≤c)(hroom:c<n+m)(hbig:(n+m)*i0.bytes≤140737488355328)(h63:n+m≤4611686018427387904)
  (hcl:cs.length=n*sz) (hvl:vs.length=m*sz)
  (hcs:∀j v,cs[j]? =some v→w.cell? ⟨b,0+j,none⟩=some v)
  (hvs:∀j v,vs[j]? =some v→w.cell? ⟨vb,0+j,none⟩=some v) (h1c:∀v∈cs,v.oneCell'=true) (h1v:∀v∈vs,v.oneCell'=true):
  Calls P (ρ.f 22) #[.slice (some ⟨b,0,none⟩) n c,.int .i64 i,.slice (some ⟨vb,0,none⟩) m vc] w fun e w'=>
   e= .returned (.slice (some ⟨w.heap.size,0,none⟩) (n+m) (grownCap w (n+m) c (ρ.t 9)))∧
   w'=(((w.alloc (.cells ((cs.take (i*sz)).toArray++Builtin.zeroCells z.cells (n+m-i)++Builtin.zeroCells z.cells (grownCap w (n+m) c (ρ.t 9)-(n+m))) (ρ.t 9))).drew.setCells w.heap.size (i*sz) vs).drew).setCells w.heap.size ((i+m)*sz) (cs.drop (i*sz)):=by
 have t0:=L.t0; have a0:=L.a0; have z0:=L.z0; have v0:=L.v0; have t3:=L.t3; have a3:=L.a3; have z3:=L.z3; have v3:=L.v3; have t4:=L.t4; have a4:=L.a4; have z4:=L.z4; have v4:=L.v4; have z9:=L.z9; have t24:=L.t24; have a24:=L.a24; have z24:=L.z24; have v24:=L.v24
 have u0:=run_underlying L.t0; have u3:=run_underlying L.t3; have u4:=run_underlying L.t4; have u24:=run_underlying L.t24
 have mixed:=L.mixed
 have hz1:¬((m:Int)=0):=by omega
 have hz2:¬((i:Int)=(n:Int)):=by omega
 have hz3:(c:Int)<(n:Int)+(m:Int):=by omega
 have hnsz:0<n*sz:=Nat.mul_pos (by omega) hsz
 have hmsz:0<m*sz:=Nat.mul_pos hm hsz
 have hbw:b<w.heap.size:=block_lt_of_cell (hcs 0 _ (List.getElem?_eq_getElem (by omega)))
 have hvw:vb<w.heap.size:=block_lt_of_cell (hvs 0 _ (List.getElem?_eq_getElem (by omega)))
 have hkk:(n:Int)+(m:Int)-(i:Int)=((n+m-i:Nat):Int):=by omega
 have hik:i+(n+m-i)=n+m:=by omega
 have hisz:i*sz≤n*sz:=Nat.mul_le_mul_right _ (by omega)
 have hold:(Builtin.firstCells i0.size i (.slice (some ⟨b,0,none⟩) i c)).run P w.drew= .ok (cs.take (i*sz)).toArray w.drew:=by
  rw[hs0]
  exact run_firstCells_some w.drew sz i ⟨b,0,none⟩ i c (cs.take (i*sz)) (by rw[List.length_take]; omega) (fun j v hj=>by
   rw[Addr.add_lit]
   rw[List.getElem?_take]at hj
   split at hj
   ·exact hcs j v hj
   ·cases hj)
 have hrz:∀ty,(Builtin.append_ #[(ρ.t 24),(ρ.t 3)] ty #[.slice (some ⟨b,0,none⟩) i c,.int .i64 ((n:Int)+(m:Int)-(i:Int))]).run P w=
   .ok (.slice (some ⟨w.heap.size,0,none⟩) (n+m) (grownCap w (n+m) c (ρ.t 9))) (w.drew.alloc (.cells ((cs.take (i*sz)).toArray++Builtin.zeroCells z.cells (n+m-i)++Builtin.zeroCells z.cells (grownCap w (n+m) c (ρ.t 9)-(n+m))) (ρ.t 9))):=fun ty=>by
  have h:=Lib.run_append_grow_zeros w (ρ.t 24) (ρ.t 3) ty (ρ.t 9) i0 _ .i64 .i64 L.t24 L.t3 hi0 hz0 (some ⟨b,0,none⟩) i c (cs.take (i*sz)) hold (n+m-i) (by omega) (by omega) (by omega) (by omega)
   (by have:(n+m-i)*i0.bytes≤(n+m)*i0.bytes:=Nat.mul_le_mul_right _ (by omega); omega) (by rw[hik]; exact growslice_fits hroom hbig)
  rw[hik]at h
  rw[hkk]
  exact h
 obtain⟨G,hG⟩:∃G,G=grownCap w (n+m) c (ρ.t 9):=⟨_,rfl⟩
 have hGn:n+m≤G:=by rw[hG]; exact grownCap_ge w _ _ _
 have hG63:G≤9223372036854775807:=by
  have:=grownCap_le_maxLen w (n+m) c (ρ.t 9) (by unfold maxLen; omega)
  rw[← hG]at this
  unfold maxLen at this
  omega
 obtain⟨ROW,hROW⟩:∃ROW:Array Value,ROW=(cs.take (i*sz)).toArray++Builtin.zeroCells z.cells (n+m-i)++Builtin.zeroCells z.cells (G-(n+m)):=⟨_,rfl⟩
 rw[← hG]at hrz⊢
 rw[← hROW]at hrz⊢
 have hRl:(n+m)*sz≤ROW.size:=by
  have e:(n+m)*sz=i*sz+(n+m-i)*sz:=by rw[← Nat.add_mul,hik]
  rw[hROW]
  simp only[Array.size_append,List.size_toArray,size_zeroCells,List.length_take,hzc]
  omega
 obtain⟨W1,hW1⟩:∃W1,W1=w.drew.alloc (.cells ROW (ρ.t 9)):=⟨_,rfl⟩
 rw[← hW1]at hrz
 have hN:∀j,j<(n+m)*sz→(W1.cell? ⟨w.heap.size,j,none⟩).isSome=true:=fun j hj=>by
  rw[hW1,World.cell?_alloc_at (w:=w.drew) ROW _ w.heap.size j rfl,Array.getElem?_eq_getElem (by omega)]; rfl
 have hNf:∀j,W1.frozen? ⟨w.heap.size,j,none⟩=false:=fun j=>by rw[hW1]; exact World.frozen?_alloc_at (w:=w.drew) ROW _ w.heap.size j rfl
 have hOb:∀j v,w.cell? ⟨b,j,none⟩=some v→W1.cell? ⟨b,j,none⟩=some v:=fun j v h=>by rw[hW1,World.cell?_alloc_past (w:=w.drew) _ b j hbw]; exact h
 have hOv:∀j v,w.cell? ⟨vb,j,none⟩=some v→W1.cell? ⟨vb,j,none⟩=some v:=fun j v h=>by rw[hW1,World.cell?_alloc_past (w:=w.drew) _ vb j hvw]; exact h
 have q1:i*sz+m*sz≤(n+m)*sz:=by rw[← Nat.add_mul]; exact Nat.mul_le_mul_right _ (by omega)
 have q2:(i+m)*sz+(n-i)*sz=(n+m)*sz:=by rw[← Nat.add_mul]; congr 1; omega
 have hcpA:∀(W:World),(∀ x,W.cell? x=W1.cell? x)→(∀ x,W.frozen? x=W1.frozen? x)→∀ty dc,(Builtin.copy_ #[(ρ.t 24),(ρ.t 24)] ty #[.slice (some ⟨w.heap.size,i*sz,none⟩) (n+m-i) dc,.slice (some ⟨vb,0,none⟩) m vc]).run P W= .ok (goInt ((m:Nat):Int)) (W.setCells w.heap.size (i*sz) vs):=fun W hWc hWf ty dc=>
  A4u W _ _ ty (ρ.t 9) w.heap.size (i*sz) (n+m-i) dc ⟨vb,0,none⟩ m vc sz m vs L.t24 L.z9 (by simp only[Nat.min_def]; split<;>omega) hvl
   (fun j v hj=>by rw[Addr.add_lit,hWc]; exact hOv _ v (hvs j v hj))
   (fun j hj=>by rw[hWc]; exact hN _ (by omega)) (fun j hj=>by rw[hWf]; exact hNf _) h1v
 have hGi:¬(G=i):=by omega
 have hGim:¬(G=i+m):=by omega
 have hci:¬(c=i):=by omega
 have hbN:b≠w.heap.size:=by omega
 have hdl:(cs.drop (i*sz)).length=(n-i)*sz:=by rw[List.length_drop,hcl,Nat.sub_mul]
 have hcpB:∀(W:World),(∀ x,W.cell? x=(W1.setCells w.heap.size (i*sz) vs).cell? x)→(∀ x,W.frozen? x=(W1.setCells w.heap.size (i*sz) vs).frozen? x)→∀ty dc sc,(Builtin.copy_ #[(ρ.t 24),(ρ.t 24)] ty #[.slice (some ⟨w.heap.size,(i+m)*sz,none⟩) (n+m-(i+m)) dc,.slice (some ⟨b,i*sz,none⟩) (n-i) sc]).run P W= .ok (goInt ((n-i:Nat):Int)) (W.setCells w.heap.size ((i+m)*sz) (cs.drop (i*sz))):=fun W hWc hWf ty dc sc=>
  A4u W _ _ ty (ρ.t 9) w.heap.size ((i+m)*sz) (n+m-(i+m)) dc ⟨b,i*sz,none⟩ (n-i) sc sz (n-i) (cs.drop (i*sz)) L.t24 L.z9 (by simp only[Nat.min_def]; split<;>omega) hdl
   (fun j v hj=>by
    rw[Addr.add_lit,hWc,World.cell?_setCells_out _ _ _ _ _ (fun h _=>absurd h hbN)]
    refine hOb _ v ?_
    have:=hcs (i*sz+j) v (by rwa [List.getElem?_drop]at hj)
    rwa [Nat.zero_add]at this)
   (fun j hj=>by rw[hWc]; exact A5u _ _ _ _ (fun t ht=>hN _ (by omega)) _ (hN _ (by omega)))
   (fun j hj=>by rw[hWf,World.frozen?_setCells]; exact hNf _) (fun v hv=>h1c v (List.mem_of_mem_drop hv))
 subst hW1
 have hE1:∀x,((w.alloc (.cells ROW (ρ.t 9))).drew).cell? x=(w.drew.alloc (.cells ROW (ρ.t 9))).cell? x:=fun x=>rfl
 have hE2:∀x,((w.alloc (.cells ROW (ρ.t 9))).drew).frozen? x=(w.drew.alloc (.cells ROW (ρ.t 9))).frozen? x:=fun x=>rfl
 have hF1:∀x,(((w.alloc (.cells ROW (ρ.t 9))).drew.setCells w.heap.size (i*sz) vs).drew).cell? x=((w.drew.alloc (.cells ROW (ρ.t 9))).setCells w.heap.size (i*sz) vs).cell? x:=fun x=>rfl
 have hF2:∀x,(((w.alloc (.cells ROW (ρ.t 9))).drew.setCells w.heap.size (i*sz) vs).drew).frozen? x=((w.drew.alloc (.cells ROW (ρ.t 9))).setCells w.heap.size (i*sz) vs).frozen? x:=fun x=>rfl
 have hw1:IntKind.i64.wrap ((i:Int)+(m:Int))=(i:Int)+(m:Int):=by rw[IntKind.wrap_i64]; omega
 have hb1:(0:Int)≤(i:Int)+(m:Int):=by omega
 have hin:i≤n:=by omega
 have htn:((i:Int)+(m:Int)).toNat=i+m:=by omega
 have hb3:(i:Int)≤(n:Int):=by omega
 clear hkk hik hold hROW hG hRl
 obtain⟨nm,_,FG⟩:=L.f22
 go_enter FG,Body2.n22_ntmps ρ
 go_wp2_with (first
  |(at_builtin; refine Lib.wpList_append_run _ rfl _ _ _ _ rfl _ _ rfl rfl _ _ (hrz _) ?_)
  |(at_builtin; refine A6o rfl _ _ (ρ.t 24) (ρ.t 24) rfl _ _ rfl rfl (hcpA _ hE1 hE2 _ _) ?_)
  |(at_builtin; refine A6o rfl _ _ (ρ.t 24) (ρ.t 24) rfl _ _ rfl rfl (hcpB _ (fun _=>rfl) (fun _=>rfl) _ _ _) ?_))
 go_region_law_o (refine A8R rfl _ _ (ρ.t 24) (ρ.t 24) rfl (.slice (some ⟨w.heap.size,(i+m)*sz,none⟩) (n+m-(i+m)) (G-(i+m))) (.slice (some ⟨b,i*sz,none⟩) (n-i) (c-i)) (by simp[Act.eval,Act.put]) (by simp[Act.eval,Act.put]) (hcpB _ hF1 hF2 (ρ.t 3) (G-(i+m)) (c-i)) ?_)
 go_wp2
 go_ret
 exact⟨rfl,rfl⟩
def B5x(E:TypeId)(e:Ty)(B:Nat):A5M where
 E:=E
 e:=e
 ps:= .pair (.int .i64) (.pair (.slice e) .unit)
 raw:=fun xs p=>cond (decide (List.length (α:=e.den) p.2.1=1)&&(decide (0≤p.1)&&decide (p.1≤(xs.length:Int)))&&(decide ((xs.length+1)*B≤140737488355328)&&decide (xs.length+1≤4611686018427387904))) (some (xs.take p.1.toNat++((p.2.1:List e.den)++xs.drop p.1.toNat))) none
 thaw:=true
theorem B3T{α:Type}{C ds vs:List α}{a L:Nat}(hC:C.take L=ds)(hd:ds.length=L)(ha:a≤L)(hr:L+vs.length≤C.length):
  (((C.take (a+vs.length)++(ds.drop a++C.drop (a+vs.length+(ds.drop a).length))).take a++(vs++(C.take (a+vs.length)++(ds.drop a++C.drop (a+vs.length+(ds.drop a).length))).drop (a+vs.length)))).take (L+vs.length)=ds.take a++(vs++ds.drop a):=by
 have h1:(C.take (a+vs.length)).length=a+vs.length:=by rw[List.length_take]; omega
 have e1:(C.take (a+vs.length)++(ds.drop a++C.drop (a+vs.length+(ds.drop a).length))).take a=ds.take a:=by
  rw[List.take_append_of_le_length (by omega),List.take_take,←hC,List.take_take]
  congr 1; omega
 have e2:(C.take (a+vs.length)++(ds.drop a++C.drop (a+vs.length+(ds.drop a).length))).drop (a+vs.length)=ds.drop a++C.drop (a+vs.length+(ds.drop a).length):=by
  rw[List.drop_append_of_le_length (by omega),List.drop_eq_nil_of_le (by omega)]; rfl
 rw[e1,e2,←List.append_assoc vs,←List.append_assoc]
 rw[List.take_append_of_le_length (by simp; omega),List.take_of_length_le (by simp; omega)]
theorem B4I{α:Type}{C ds vs:List α}{a L:Nat}(hC:C.take a=ds.take a)(hd:ds.length=L)(ha:a≤L)(hr:L+vs.length≤C.length):
  (((C.take a++(vs++C.drop (a+vs.length))).take (a+vs.length)++(ds.drop a++(C.take a++(vs++C.drop (a+vs.length))).drop (a+vs.length+(ds.drop a).length)))).take (L+vs.length)=ds.take a++(vs++ds.drop a):=by
 have h1:(C.take a).length=a:=by rw[List.length_take]; omega
 have e1:(C.take a++(vs++C.drop (a+vs.length))).take (a+vs.length)=ds.take a++vs:=by
  rw[← List.append_assoc,List.take_append_of_le_length (by rw[List.length_append,h1]; omega),List.take_of_length_le (by rw[List.length_append,h1]; omega),hC]
 rw[e1,List.append_assoc,←List.append_assoc vs,←List.append_assoc]
 rw[List.take_append_of_le_length (by simp; omega),List.take_of_length_le (by simp; omega)]
theorem B4G{sz:Nat}(L:InsLay P ρ sz){E:TypeId}{e:Ty}(hE:ρ.t 9=E)(inf:TypeInfo)(z:Value)(z1:P.info? E=some inf)(z2:inf.zero=some z)(hs:inf.size=e.size)(hse:sz=e.size)(hzs:z.cells.size=e.size)(hpos:1≤e.size)
  {f:FuncId} (hf:ρ.f 22=f) {i:Inl} (hi:A3r P f i) {B:Nat} (hB:inf.bytes=B):A6I P f (B5x E e B):=by
 subst hE; subst hf; subst hB; subst hse
 intro w X base v (xs:List e.den) ds rest ps (ys:List e.den) hXlt hbase hvX hown hch hargs hth hraw _ _
 change A0E w base (ρ.t 9) e.size v xs.length ds at hown
 change A0l (Rep w X e) ds xs at hch
 obtain⟨n,vs,u0⟩:=ps
 revert hargs hraw
 generalize hvs0:(vs:List e.den)=vs
 intro hargs hraw
 obtain⟨v0,r,cs0,h1,h2,h3,v1,r1,cs1,h4,h5,h6,h7⟩:=hargs
 have h7':r1=[]:=h7
 subst h7'; subst h4; subst h1
 obtain⟨h3',_⟩:=h3
 subst h3'
 have hv0:v0= .int .i64 n:=by simpa[A0i,Ty.isAgg,eq_comm]using h2
 subst hv0
 obtain⟨ad,len,cap1,d2,q1,q2,q3,q4,q5,q6⟩:=h6
 subst q1
 have hv1:v1= .slice ad len cap1:=by simpa[A0i,Ty.isAgg,eq_comm]using h5
 subst hv1
 obtain⟨hc,hy⟩:=A0a hraw
 have hy:xs.take n.toNat++(vs++xs.drop n.toNat)=ys:=Option.some.inj hy
 simp only[Bool.and_eq_true,decide_eq_true_eq]at hc
 obtain⟨⟨c1,c2,c3⟩,c4,c5⟩:=hc
 have c1:vs.length=1:=c1
 have c3:n≤(xs.length:Int):=c3
 have q2:len=vs.length:=q2
 have hlen:len=1:=q2.trans c1
 subst hlen
 obtain⟨k,rfl⟩:=Int.eq_ofNat_of_zero_le c2
 have hk:k≤xs.length:=Int.ofNat_le.1 c3
 rw[Int.toNat_natCast]at hy
 have hone:∀u∈ds,u.oneCell'=true:=A2n (fun c x hx=>Rep.one e c x hx) hch
 have hone2:∀u∈d2,u.oneCell'=true:=A2n (fun c x hx=>Rep.one e c x hx) q5
 have hl2:d2.length=1*e.size:=by rw[A0s (fun c x hx=>Rep.length e c x hx) q5,c1]
 have hl1:ds.length=xs.length*e.size:=hown.1
 obtain⟨vb,vo,had,hrng,hvbX⟩:∃b o,ad=some ⟨b,o,none⟩∧w.rangeAt b o d2∧¬X b:=by
  rcases q6 with q6|q6
  ·rw [q6]at hl2; simp at hl2; omega
  ·exact q6
 subst had
 obtain⟨cur2,e2,t1,t2,_,_,_⟩:=hth rfl (.slice (some ⟨vb,vo,none⟩) 1 cap1) (by simp) _ _ _ rfl
 have t2:vo=0:=t2
 subst t2
 have t1:w.heap[vb]? =some (.cells cur2 e2 (0,0)):=t1
 have hvs1:∀j u,d2[j]? =some u→w.cell? ⟨vb,0+j,none⟩=some u:=fun j u hj=>hrng j u hj
 have hysl:ys.length=xs.length+1:=by rw[← hy,List.length_append,List.length_append,c1,List.length_take,List.length_drop]; omega
 have hksz:k*e.size≤xs.length*e.size:=Nat.mul_le_mul_right _ hk
 have hysz:(xs.length+1)*e.size=xs.length*e.size+e.size:=by rw[Nat.add_mul,Nat.one_mul]
 have hkm:(k+1)*e.size=k*e.size+e.size:=by rw[Nat.add_mul,Nat.one_mul]
 have hcells:A0l (Rep w X e) (ds.take (k*e.size)++(d2++ds.drop (k*e.size))) ys:=by
  rw[← hy]
  exact A3t (A3I (fun c x hx=>Rep.length e c x hx) hch hk) (A3t q5 (A6P (fun c x hx=>Rep.length e c x hx) hch hk))
 have hcl:(ds.take (k*e.size)++(d2++ds.drop (k*e.size))).length=(xs.length+1)*e.size:=by simp; omega
 have hfz:∀(W:World) (b:Nat) (C:Array Value) (T:TypeId),W.heap[b]? =some (.cells C T (0,0))→∀j,W.frozen? ⟨b,j,none⟩=false:=fun W b C T h j=>by simp[World.frozen?,h]
 refine .inl ⟨hi.enter _ w,?_⟩
 have new:∀(u:Value) (w':World) (G:Nat) (C:Array Value),u= .slice (some ⟨w.heap.size,0,none⟩) (xs.length+1) G→w'.heap[w.heap.size]? =some (.cells C (ρ.t 9) (0,0))→xs.length+1≤G→G≤maxLen→C.size=G*e.size→C.toList.take ((xs.length+1)*e.size)=ds.take (k*e.size)++(d2++ds.drop (k*e.size))→A0h (fun b=>some b=v.ownBlock) w w'→
   ∃ds',A0l (Rep w X e) ds' ys∧A0E w' base (ρ.t 9) e.size u ys.length ds'∧A0h (fun b=>some b=v.ownBlock) w w'∧∀b,u.ownBlock=some b→v.ownBlock=some b∨w.heap.size≤b:=by
  intro u w' G C hu hg hG1 hG2 hC1 hC2 hK
  refine⟨_,hcells,⟨by rw[hysl]; exact hcl,.inr ⟨w.heap.size,G,C,by rw[hysl]; exact hu,hbase _ (Nat.le_refl _),hg,by omega,hG2,hC1,by rw[hysl]; exact hC2⟩⟩,hK,?_⟩
  rw[hu]
  exact A6y (.inr rfl)
 have kAlloc:∀(o:Obj),A0h (fun b=>some b=v.ownBlock) w (w.drew.alloc o):=fun o=>⟨rfl,rfl,rfl,Nat.le_succ _,by simp,fun k hk hr=>(World.grownBy_alloc w.drew o v.ownBlock).block k hk hr⟩
 have endGrow:∀(bs:Option Addr) (c:Nat),k=xs.length→xs.length≤c→c<xs.length+1→(bs=none→xs.length=0)→(∀ a,bs=some a→∀j u,ds[j]? =some u→w.cell? (a.add j)=some u)→
   Calls P (ρ.f 22) #[.slice bs xs.length c,.int .i64 (k:Int),.slice (some ⟨vb,0,none⟩) 1 cap1] w fun e' w'=>∃u,e'= .returned u∧∃ds',A0l (Rep w X e) ds' ys∧A0E w' base (ρ.t 9) e.size u ys.length ds'∧A0h (fun b=>some b=v.ownBlock) w w'∧∀b,u.ownBlock=some b→v.ownBlock=some b∨w.heap.size≤b:=by
  intro bs c hkx g1 g2 g3 g4
  subst hkx
  have hge:=grownCap_ge w (xs.length+1) c (ρ.t 9)
  have hcm:grownCap w (xs.length+1) c (ρ.t 9)≤maxLen:=grownCap_le_maxLen w (xs.length+1) c (ρ.t 9) (by unfold maxLen; omega)
  refine(A9R L inf z z1 z2 hs bs xs.length c vb 1 cap1 ds d2 w (by omega) g1 g2 c4 c5 hl1 hl2 g3 g4 hvs1 hone2).mono ?_
  rintro e' w' ⟨rfl,rfl⟩
  refine⟨_,rfl,new _ _ _ _ rfl (heap_alloc_new w.drew _) hge hcm ?_ ?_ (kAlloc _)⟩
  ·simp only[Array.size_append,List.size_toArray,size_zeroCells,hzs,List.length_append,hl1,hl2,←Nat.add_mul]
   congr 1
   omega
  ·rw [← hl1,List.take_length,List.drop_length,List.append_nil]
   simp only[Array.toList_append,List.append_assoc]
   rw[← List.append_assoc,List.take_append_of_le_length (by simp; omega),List.take_of_length_le (by simp; omega)]
 rcases hown.2 with⟨hv,hn⟩|⟨g,cap,cur,hv,hbg,hg,hnc,hcm,hcs,htake⟩
 ·subst hv
  have hx0:xs.length=0:=hn
  have:=endGrow none 0 (by omega) (by omega) (by omega) (fun _=>hx0) (fun a ha=>by cases ha)
  rw[hx0]at this
  exact this
 ·subst hv
  have hgv:g≠vb:=fun e=>hvbX (e▸hvX g rfl)
  have hcell:∀j u,ds[j]? =some u→w.cell? ⟨g,0+j,none⟩=some u:=fun j u hu=>by
   rw[Nat.zero_add,cell_of_row w g j cur _ (0,0) hg]
   rw[← htake,List.getElem?_take]at hu
   split at hu
   ·simpa using hu
   ·cases hu
  have hcurl:cur.toList.length=cap*e.size:=by simpa using hcs
  have hadd:∀j,(⟨g,0,none⟩:Addr).add j=⟨g,0+j,none⟩:=fun j=>Addr.add_lit ..
  by_cases hroom:xs.length+1≤cap
  ·have hfit:(xs.length+1)*e.size≤cur.size:=by rw[hcs]; exact Nat.mul_le_mul_right _ hroom
   have hthere:∀j,j<(xs.length+1)*e.size→(w.cell? ⟨g,0+j,none⟩).isSome=true:=fun j hj=>by
    rw[Nat.zero_add,cell_of_row w g j cur _ (0,0) hg,Array.getElem?_eq_getElem (by omega)]; rfl
   have same:∀(w':World) (C:Array Value),w'.heap[g]? =some (.cells C (ρ.t 9) (0,0))→C.toList.length=cur.toList.length→C.toList.take ((xs.length+1)*e.size)=ds.take (k*e.size)++(d2++ds.drop (k*e.size))→A0h (fun b=>some b=(Value.slice (some ⟨g,0,none⟩) xs.length cap).ownBlock) w w'→
     ∃ds',A0l (Rep w X e) ds' ys∧A0E w' base (ρ.t 9) e.size (.slice (some ⟨g,0,none⟩) (xs.length+1) cap) ys.length ds'∧A0h (fun b=>some b=(Value.slice (some ⟨g,0,none⟩) xs.length cap).ownBlock) w w'∧∀b,(Value.slice (some ⟨g,0,none⟩) (xs.length+1) cap).ownBlock=some b→(Value.slice (some ⟨g,0,none⟩) xs.length cap).ownBlock=some b∨w.heap.size≤b:=by
    intro w' C hC hCl hCt hK
    exact⟨_,hcells,⟨by rw[hysl]; exact hcl,.inr ⟨g,cap,C,by rw[hysl],hbg,hC,by omega,hcm,by rw[← hcs]; simpa using hCl,by rw[hysl]; exact hCt⟩⟩,hK,A6y (.inl rfl)⟩
   by_cases hkx:k=xs.length
   ·subst hkx
    refine(A9S L inf z1 hs g xs.length cap vb 1 cap1 d2 w (by omega) hroom (by unfold maxLen at hcm; omega) hl2 (fun j hj=>by have:=hthere (xs.length*e.size+j) (by omega); rwa [Nat.zero_add]at this ⊢) (fun j hj=>hfz w g cur _ hg _) hvs1 hone2).mono ?_
    rintro e' w' ⟨rfl,rfl⟩
    obtain⟨C',m1,m2⟩:=A0U g (ρ.t 9) d2 (xs.length*e.size) w cur hg (by omega)
    refine⟨_,rfl,same _ C' m1 ?_ ?_ (A0h.setCells (X:=fun b=>some b=(Value.slice (some ⟨g,0,none⟩) xs.length cap).ownBlock) g rfl _ _ _)⟩
    ·rw [m2]; simp at hcurl ⊢; omega
    ·rw [m2,←hl1,List.take_length,List.drop_length,List.append_nil,hl1,htake,←List.append_assoc,List.take_append_of_le_length (by simp; omega),List.take_of_length_le (by simp; omega)]
   ·refine (B2V L (by omega) g xs.length cap k vb 1 cap1 ds d2 w (by omega) (by omega) hroom (by unfold maxLen at hcm; omega) (Ne.symm hgv) hl1 hl2 hcell hthere (fun j _=>hfz w g cur _ hg _) hvs1 hone hone2 e2 (ρ.t 9) cur2.size cur.size (by simp[World.shape?,t1]) (by simp[World.shape?,hg]) (by omega) (hfz w vb cur2 _ t1 _) (hfz w vb cur2 _ t1 _)).mono ?_
    rintro e' w' ⟨rfl,rfl⟩
    have hdl:(ds.drop (k*e.size)).length=xs.length*e.size-k*e.size:=by rw[List.length_drop,hl1]
    obtain⟨C1,m1,m2⟩:=A0U g (ρ.t 9) (ds.drop (k*e.size)) ((k+1)*e.size) w.drew cur hg (by rw[hdl]; omega)
    have hC1:C1.toList.length=cur.toList.length:=by rw[m2]; simp at hcurl ⊢; omega
    obtain⟨C2,m3,m4⟩:=A0U g (ρ.t 9) d2 (k*e.size) _ C1 m1 (by have:C1.size=cur.size:=(by simpa using hC1); omega)
    refine⟨_,rfl,same _ C2 m3 ?_ ?_ (((A0h.drew _ w (w.drawn+1) (Nat.le_succ _)).trans (A0h.setCells (X:=fun b=>some b=(Value.slice (some ⟨g,0,none⟩) xs.length cap).ownBlock) g rfl _ _ _)).trans (A0h.setCells (X:=fun b=>some b=(Value.slice (some ⟨g,0,none⟩) xs.length cap).ownBlock) g rfl _ _ _))⟩
    ·rw [m4]; simp at hC1 hcurl ⊢; omega
    ·rw [m4,m2]
     have key:=B3T (C:=cur.toList) (ds:=ds) (vs:=d2) (a:=k*e.size) (L:=xs.length*e.size) htake hl1 hksz (by omega)
     rw[hkm,hysz]
     have e9:d2.length=e.size:=by omega
     rw[e9]at key⊢
     exact key
  ·by_cases hkx:k=xs.length
   ·exact endGrow (some ⟨g,0,none⟩) cap hkx hnc (by omega) (fun h=>by cases h) (fun a ha j u hu=>by
     injection ha with ha; subst ha
     rw[hadd]; exact hcell j u hu)
   ·have hge:=grownCap_ge w (xs.length+1) cap (ρ.t 9)
    have hgm:grownCap w (xs.length+1) cap (ρ.t 9)≤maxLen:=grownCap_le_maxLen w (xs.length+1) cap (ρ.t 9) (by unfold maxLen; omega)
    refine(B3O L inf z z1 z2 hs (by omega) hzs g xs.length cap k vb 1 cap1 ds d2 w (by omega) (by omega) hnc (by omega) c4 c5 hl1 hl2 hcell hvs1 hone hone2).mono ?_
    rintro e' w' ⟨rfl,rfl⟩
    obtain⟨G,hG⟩:∃G,G=grownCap w (xs.length+1) cap (ρ.t 9):=⟨_,rfl⟩
    rw[← hG]at hge hgm⊢
    obtain⟨ROW,hROW⟩:∃ROW:Array Value,ROW=(ds.take (k*e.size)).toArray++Builtin.zeroCells z.cells (xs.length+1-k)++Builtin.zeroCells z.cells (G-(xs.length+1)):=⟨_,rfl⟩
    rw[← hROW]
    have hRs:ROW.size=G*e.size:=by
     have e1:k*e.size+(xs.length+1-k)*e.size+(G-(xs.length+1))*e.size=G*e.size:=by rw[← Nat.add_mul,←Nat.add_mul]; congr 1; omega
     rw[hROW]
     simp only[Array.size_append,List.size_toArray,size_zeroCells,List.length_take,hzs]
     omega
    have hGs:(xs.length+1)*e.size≤G*e.size:=Nat.mul_le_mul_right _ hge
    have hRt:ROW.toList.take (k*e.size)=ds.take (k*e.size):=by
     rw[hROW]
     simp only[Array.toList_append,List.append_assoc]
     rw[List.take_append_of_le_length (by simp; omega),List.take_of_length_le (List.length_take_le _ _)]
    have hdl:(ds.drop (k*e.size)).length=xs.length*e.size-k*e.size:=by rw[List.length_drop,hl1]
    obtain⟨C1,m1,m2⟩:=A0U w.heap.size (ρ.t 9) d2 (k*e.size) (w.alloc (.cells ROW (ρ.t 9))).drew ROW (heap_alloc_new w _) (by omega)
    have hC1:C1.toList.length=ROW.toList.length:=by rw[m2]; simp; omega
    obtain⟨C2,m3,m4⟩:=A0U w.heap.size (ρ.t 9) (ds.drop (k*e.size)) ((k+1)*e.size) ((w.alloc (.cells ROW (ρ.t 9))).drew.setCells w.heap.size (k*e.size) d2).drew C1 m1 (by
     have:C1.size=ROW.size:=by simpa using hC1
     omega)
    have big:∀(w1:World) (o:Nat) (l:List Value),A0h (fun b=>some b=(Value.slice (some ⟨g,0,none⟩) xs.length cap).ownBlock) w w1→w.heap.size<w1.heap.size→A0h (fun b=>some b=(Value.slice (some ⟨g,0,none⟩) xs.length cap).ownBlock) w (w1.setCells w.heap.size o l):=fun w1 o l hk hlt=>
     ⟨(A0h.setCells (X:=fun b=>b=w.heap.size) w.heap.size rfl l o w1).os.trans hk.os,(A0h.setCells (X:=fun b=>b=w.heap.size) w.heap.size rfl l o w1).tape.trans hk.tape,(A0h.setCells (X:=fun b=>b=w.heap.size) w.heap.size rfl l o w1).output.trans hk.output,Nat.le_trans hk.drawn (A0h.setCells (X:=fun b=>b=w.heap.size) w.heap.size rfl l o w1).drawn,Nat.le_trans hk.size (A0h.setCells (X:=fun b=>b=w.heap.size) w.heap.size rfl l o w1).size,fun j hj hn=>by
      rw[A0M w.heap.size (show j≠w.heap.size by omega)]; exact hk.block j hj hn⟩
    refine⟨_,rfl,new _ _ G C2 rfl m3 hge hgm ?_ ?_ ?_⟩
    ·have h1:C2.toList.length=ROW.toList.length:=by rw[m4]; simp at hC1 ⊢; omega
     rw[← hRs]; simpa using h1
    ·rw [m4,m2]
     have key:=B4I (C:=ROW.toList) (ds:=ds) (vs:=d2) (a:=k*e.size) (L:=xs.length*e.size) hRt hl1 hksz (by simp; omega)
     rw[hkm,hysz]
     have e9:d2.length=e.size:=by omega
     rw[e9]at key⊢
     exact key
    ·have k0:A0h (fun b=>some b=(Value.slice (some ⟨g,0,none⟩) xs.length cap).ownBlock) w (w.alloc (.cells ROW (ρ.t 9))).drew:=(A0h.alloc _ w _).trans (A0h.drew _ _ _ (Nat.le_succ _))
     have k1:=big _ (k*e.size) d2 k0 (by simp)
     exact big _ ((k+1)*e.size) (ds.drop (k*e.size)) (k1.trans (A0h.drew _ _ _ (Nat.le_succ _))) (Nat.lt_of_lt_of_le (by simp) (A0h.setCells (X:=fun b=>b=w.heap.size) w.heap.size rfl d2 (k*e.size) (w.alloc (.cells ROW (ρ.t 9))).drew).size)
theorem B5y{sz:Nat}(L:InsLay P ρ sz){E:TypeId}(e:Ty)(hE:ρ.t 9=E){f:FuncId}(hf:ρ.f 22=f)(hse:sz=e.size){i:Inl}(hi:A3r P f i)(B:Nat)(hB:B2k P E e.size B=true):A6I P f (B5x E e B):=by
 unfold B2k at hB
 split at hB
 ·rename_i inf z1
  split at hB
  ·rename_i z z2
   simp only[Bool.and_eq_true]at hB
   obtain⟨⟨⟨h1,h2⟩,h3⟩,h4⟩:=hB
   exact B4G L hE inf z z1 z2 (Nat.eq_of_beq_eq_true h2) hse (Nat.eq_of_beq_eq_true h1) (Nat.le_of_ble_eq_true h4) hf hi (Nat.eq_of_beq_eq_true h3)
  ·simp at hB
 ·cases hB
end Go.Ai

