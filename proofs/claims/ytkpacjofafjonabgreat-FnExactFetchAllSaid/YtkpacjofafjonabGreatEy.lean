/- The machine, and that it is sound. No conditions. -/
import Derived.Test.YtkpacjofafjonabGreatEg
import Derived.Shelf.Spec.SlicesGrow
/- slices.Grow,by the shelf: the same slice,with more room. -/
namespace Go.Ai
open Go.RowKit Go.Proofs Go.Shelf
variable {P:Program}
def B4U(E:TypeId)(e:Ty)(B:Nat):A5M where
 E:=E
 e:=e
 ps:= .pair (.int .i64) .unit
 raw:=fun xs p=>cond (decide (0≤p.1)&&(decide (((xs.length:Int)+p.1)*(B:Int)≤140737488355328)&&decide ((xs.length:Int)+p.1≤4611686018427387904))) (some xs) none
theorem B3F{ρ:Ren}(L:Lays8.n4 P ρ){E:TypeId}{e:Ty}(hE:ρ.t 25=E)(inf:TypeInfo)(z:Value)(z1:P.info? E=some inf)(z2:inf.zero=some z)(hs:inf.size=e.size)(hzs:z.cells.size=e.size)(hpos:1≤e.size)
  {f:FuncId} (hf:ρ.f 4=f) {i:Inl} (hi:A3r P f i) {B:Nat} (hB:inf.bytes=B):A6I P f (B4U E e B):=by
 subst hE; subst hf; subst hB
 intro w X base v (xs:List e.den) ds rest ps (ys:List e.den) hXlt hbase hvX hown hch hargs _ hraw _ _
 change A0E w base (ρ.t 25) e.size v xs.length ds at hown
 change A0l (Rep w X e) ds xs at hch
 obtain⟨n,u⟩:=ps
 have hrest:rest=[.int .i64 n]:=by
  obtain⟨v0,r,cs,h1,h2,h3,h4⟩:=hargs
  have h4':r=[]:=h4
  subst h4'
  rw[h1]
  obtain⟨h3',_⟩:=h3
  subst h3'
  simpa[A0i,Ty.isAgg,eq_comm]using h2
 subst hrest
 obtain⟨hc,hy⟩:=A0a hraw
 have hy:xs=ys:=Option.some.inj hy
 subst hy
 simp only[Bool.and_eq_true,decide_eq_true_eq]at hc
 obtain⟨h0,hby,h63⟩:=hc
 obtain⟨k,rfl⟩:=Int.eq_ofNat_of_zero_le h0
 have hby':(xs.length+k)*inf.bytes≤140737488355328:=by
  have h2:(((xs.length+k)*inf.bytes:Nat):Int)≤((140737488355328:Nat):Int):=by rw[Int.natCast_mul,Int.natCast_add]; exact hby
  exact Int.ofNat_le.1 h2
 have h63':xs.length+k≤4611686018427387904:=by omega
 refine .inl ⟨hi.enter _ w,?_⟩
 have new:∀(bs:Option Addr) (c:Nat) (cs:List Value) (hlc:xs.length≤c),c<xs.length+k→cs.length=c*e.size→(bs=none→c=0)→(∀ a,bs=some a→∀j v,cs[j]? =some v→w.cell? (a.add j)=some v)→cs.take (xs.length*e.size)=ds→
   Calls P (ρ.f 4) #[.slice bs xs.length c,.int .i64 k] w fun e' w'=>∃u,e'= .returned u∧∃ds',A0l (Rep w X e) ds' xs∧A0E w' base (ρ.t 25) e.size u xs.length ds'∧A0h (fun b=>some b=v.ownBlock) w w'∧∀b,u.ownBlock=some b→v.ownBlock=some b∨w.heap.size≤b:=by
  intro bs c cs hlc hroom hcl hnil hcs htake
  have hge:=grownCap_ge w (xs.length+k) c (ρ.t 25)
  have hcm:grownCap w (xs.length+k) c (ρ.t 25)≤maxLen:=grownCap_le_maxLen w (xs.length+k) c (ρ.t 25) (by unfold maxLen; omega)
  refine(Any8.slices_Grow_grow L inf z z1 z2 (by omega) bs xs.length c k cs w hlc hroom hby' h63' (by rw[hs]; exact hcl) hnil hcs).mono ?_
  rintro e' w' ⟨rfl,rfl⟩
  refine⟨_,rfl,ds,hch,⟨hown.1,.inr ⟨w.heap.size,_,_,rfl,hbase _ (Nat.le_refl _),heap_alloc_new w.drew _,by omega,hcm,?_,?_⟩⟩,⟨rfl,rfl,rfl,Nat.le_succ _,by simp,fun k hk hr=>(World.grownBy_alloc w.drew _ v.ownBlock).block k hk hr⟩,A6y (.inr rfl)⟩
  ·simp only[Array.size_append,List.size_toArray,size_zeroCells,hzs,hcl,←Nat.add_mul]
   congr 1
   omega
  ·simp only[Array.toList_append,List.append_assoc]
   rw[List.take_append_of_le_length (by rw[hcl]; exact Nat.mul_le_mul_right _ hlc)]
   exact htake
 have same:∀(bs:Option Addr) (c:Nat),v= .slice bs xs.length c→xs.length+k≤c→c≤9223372036854775807→
   Calls P (ρ.f 4) #[.slice bs xs.length c,.int .i64 k] w fun e' w'=>∃u,e'= .returned u∧∃ds',A0l (Rep w X e) ds' xs∧A0E w' base (ρ.t 25) e.size u xs.length ds'∧A0h (fun b=>some b=v.ownBlock) w w'∧∀b,u.ownBlock=some b→v.ownBlock=some b∨w.heap.size≤b:=by
  intro bs c hv hroom hcm
  refine(Any8.slices_Grow_room L bs xs.length c k w (by omega) hcm (by omega) hroom).mono ?_
  rintro e' w' ⟨rfl,rfl⟩
  subst hv
  exact⟨_,rfl,ds,hch,hown,A0h.refl _ _,A6y (.inl rfl)⟩
 rcases hown.2 with⟨hv,hn⟩|⟨g,cap,cur,hv,hbg,hg,hnc,hcm,hcs,htake⟩
 ·have hds:ds=[]:=List.eq_nil_of_length_eq_zero (by rw[hown.1,hn]; simp)
  have ev:v= .slice none xs.length 0:=by rw[hv,hn]
  by_cases hk:k=0
  ·have:=same none 0 ev (by omega) (by omega)
   subst ev; exact this
  ·have:=new none 0 [] (by omega) (by omega) (by simp) (fun _=>rfl) (fun a ha=>by cases ha) (by rw[hds]; simp)
   subst ev; exact this
 ·by_cases hroom:xs.length+k≤cap
  ·have:=same (some ⟨g,0,none⟩) cap hv hroom hcm
   subst hv; exact this
  ·have:=new (some ⟨g,0,none⟩) cap cur.toList hnc (by omega) (by simpa using hcs) (fun h=>by cases h) (fun a ha j u hu=>by
    injection ha with ha; subst ha
    have hadd:(⟨g,0,none⟩:Addr).add j=⟨g,j,none⟩:=by unfold Addr.add; split<;>simp_all
    rw[hadd,cell_of_row w g j cur _ (0,0) hg]
    simpa using hu) htake
   subst hv; exact this
def B2k(P:Program)(E:TypeId)(n B:Nat):Bool:=match P.info? E with
 |some i=>(match i.zero with|some z=>Nat.beq z.cells.size n|none=>false)&&Nat.beq i.size n&&Nat.beq i.bytes B&&Nat.ble 1 n
 |none=>false
theorem B5o{ρ:Ren}(L:Lays8.n4 P ρ){E:TypeId}(e:Ty)(hE:ρ.t 25=E){f:FuncId}(hf:ρ.f 4=f){i:Inl}(hi:A3r P f i)(B:Nat)(hB:B2k P E e.size B=true):A6I P f (B4U E e B):=by
 unfold B2k at hB
 split at hB
 ·rename_i inf z1
  split at hB
  ·rename_i z z2
   simp only[Bool.and_eq_true]at hB
   obtain⟨⟨⟨h1,h2⟩,h3⟩,h4⟩:=hB
   exact B3F L hE inf z z1 z2 (Nat.eq_of_beq_eq_true h2) (Nat.eq_of_beq_eq_true h1) (Nat.le_of_ble_eq_true h4) hf hi (Nat.eq_of_beq_eq_true h3)
  ·simp at hB
 ·cases hB
end Go.Ai

