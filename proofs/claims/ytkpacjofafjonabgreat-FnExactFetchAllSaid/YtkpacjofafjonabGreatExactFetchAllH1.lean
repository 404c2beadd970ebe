import Derived.Test.YtkpacjofafjonabGreatEg
import Derived.Test.YtkpacjofafjonabGreatExactFetchAllFn3
import Derived.Test.YtkpacjofafjonabGreatExactFetchAllH0
/- What the plain functions compute, and that the law answers true. No conditions. -/
namespace Go.Ai.H
open Go.Ai.G Go.IntWalk
set_option synthInstance.maxSize 2000
set_option synthInstance.maxHeartbeats 400000
theorem b6N(ks:G5)(bs:P7)(u:Unit)(roots:G5)(most:Int)(h1:1≤most)(hk:∀k∈ks,L7 k)(hl:ks.length≤1048576)(hi:Inc ks)(hb:bs.length=ks.length)(h:∀b∈bs,J9 b)(hd:∀b∈bs,b.2.1.length≤1024)(hr:∀k∈roots,L7 k)(hU:(a5b bs roots).length≤1048576):
  a0e (ks,bs,u) roots most=some (U5 ks bs roots most):=by
 unfold a0e a1s U5
 rw[c4r ks bs u roots false hk hl hi hb h hd hr hU]
 simp only[B5u]
 have hz:(a5w ks bs roots false).take (min most ((a5w ks bs roots false).length:Int)).toNat=(a5w ks bs roots false).take most.toNat:=by
  by_cases hm:most≤((a5w ks bs roots false).length:Int)
  ·rw [Int.min_eq_left hm]
  ·rw [Int.min_eq_right (by omega),Int.toNat_natCast,List.take_of_length_le (Nat.le_refl _),List.take_of_length_le (by omega)]
 rw[hz,A5 (p:=(0:Int)≤min most ((a5w ks bs roots false).length:Int)) (by omega),A5 (p:=min most ((a5w ks bs roots false).length:Int)≤((a5w ks bs roots false).length:Int)) (by omega)]
 rfl
theorem d0D(B:Int):a2F B=some (inR 1 B 256):=by
 unfold a2F
 rw[a9n]; rfl
theorem b0T{bs:P7}{roots:G5}(h:∀b∈bs,J9 b)(hv:a5P bs)(hw:¬256<roots.length):(a5b bs roots).length≤1048576:=by
 have h1:=d4s roots h hv.2.1
 have h2:=hv.1
 have:bs.length*1026≤128*1026:=Nat.mul_le_mul_right _ h2
 omega
def a1Y:G5→List Int→Nat
 | [],_=>0
 |y::r,k=>if ltI y k=true then a1Y r k+1 else 0
theorem b0I:∀(ks:G5) (k:List Int),a1Y ks k≤ks.length
 | [],_=>Nat.le_refl _
 |y::r,k=>by
  unfold a1Y; split
  ·simp only[List.length_cons]; have:=b0I r k; omega
  ·exact Nat.zero_le _
theorem b2G:∀(ks:G5) (k:List Int) (j:Nat),j<a1Y ks k→ltI (ks.getD j []) k=true
 | [],k,j,h=>by simp[a1Y]at h
 |y::r,k,0,h=>by
  unfold a1Y at h; split at h
  ·rename_i q; simpa[List.getD]using q
  ·omega
 |y::r,k,j+1,h=>by
  unfold a1Y at h; split at h
  ·have:=b2G r k j (by omega); simpa[List.getD]using this
  ·omega
theorem b2F:∀(ks:G5) (k:List Int),a1Y ks k<ks.length→ltI (ks.getD (a1Y ks k) []) k=false
 | [],k,h=>by simp at h
 |y::r,k,h=>by
  unfold a1Y at h⊢
  by_cases q:ltI y k=true
  ·rw [if_pos q]at h⊢
   have:=b2F r k (by simpa using h)
   simpa[List.getD]using this
  ·rw [if_neg q]; simpa[List.getD]using q
theorem c8m{ks:G5}{k:List Int}{i:Nat}(hi:i≤ks.length)(h1:∀j,j<i→ltI (ks.getD j []) k=true)(h2:∀j,i≤j→j<ks.length→ltI (ks.getD j []) k=false):a1Y ks k=i:=by
 rcases Nat.lt_trichotomy (a1Y ks k) i with h|h|h
 ·have:=b2F ks k (by omega)
  rw[h1 _ h]at this; cases this
 ·exact h
 ·have:=b2G ks k i h
  have h3:=b0I ks k
  rw[h2 i (Nat.le_refl _) (by omega)]at this; cases this
def a9q{α:Type}(l:List α)(i:Nat)(x:α):List α:=l.take i++([x]++l.drop i)
theorem c4t{α:Type}(l:List α)(i:Nat)(x:α)(h:i≤l.length):(a9q l i x).length=l.length+1:=by simp[a9q]; omega
theorem b4t{α β:Type}(f:α→β)(l:List α)(i:Nat)(x:α):(a9q l i x).map f=a9q (l.map f) i (f x):=by simp[a9q]
theorem c4u{α:Type}{l:List α}{i:Nat}{x y:α}:y∈a9q l i x↔y=x∨y∈l:=by
 unfold a9q
 rw[List.mem_append,List.mem_append,List.mem_singleton]
 constructor
 ·rintro (h|h|h)
  ·exact .inr (List.mem_of_mem_take h)
  ·exact .inl h
  ·exact .inr (List.mem_of_mem_drop h)
 ·rintro (h|h)
  ·exact .inr (.inl h)
  ·rw [← List.take_append_drop i l,List.mem_append]at h
   exact h.elim .inl fun h=> .inr (.inr h)
theorem d4a{ks:G5}{k:List Int}(h:Inc ks)(hn:k∉ks):Inc (a9q ks (a1Y ks k) k):=by
 unfold a9q
 have hp:=h
 rw[← List.take_append_drop (a1Y ks k) ks]at hp
 obtain⟨p1,p2,p3⟩:=List.pairwise_append.1 hp
 have lo:∀u∈ks.take (a1Y ks k),ltI u k=true:=fun u hu=>by
  obtain⟨j,hj,e⟩:=n8 (d:=[]) hu
  rw[List.length_take]at hj
  have:=b2G ks k j (by omega)
  simp only[List.getD]at e this
  rw[List.getElem?_take_of_lt (by omega)]at e
  rw[e]at this; exact this
 have hi:∀v∈ks.drop (a1Y ks k),ltI k v=true:=fun v hv=>by
  obtain⟨j,hj,e⟩:=n8 (d:=[]) hv
  rw[List.length_drop]at hj
  simp only[List.getD,List.getElem?_drop]at e
  have hne:v≠k:=fun q=>hn (q▸List.mem_of_mem_drop hv)
  have h0:=b2F ks k (by omega)
  have hv2:ltI v k=false:=by
   by_cases q:j=0
   ·subst q; simp only[List.getD]at h0; rw[Nat.add_zero]at e; rw[e]at h0; exact h0
   ·have hlt:=a4W h (show a1Y ks k<a1Y ks k+j by omega) (by omega)
    simp only[List.getD]at hlt
    rw[e]at hlt
    cases hq:ltI v k with
    |false=>rfl
    |true=>
     have:=a1L hlt hq
     simp only[List.getD]at h0
     rw[this]at h0; cases h0
  exact c1l hv2 (Ne.symm hne)
 refine List.pairwise_append.2 ⟨p1,List.pairwise_cons.2 ⟨hi,p2⟩,fun u hu v hv=> ?_⟩
 rcases List.mem_cons.1 hv with hv|hv
 ·subst hv; exact lo u hu
 ·exact p3 u hu v hv
noncomputable def a4U(ws:G5):P7→Int→Int→P7→P7×Int×Int×Int
 |bs,n,t,[]=>(bs,n,t,0)
 |bs,n,t,b::r=>if A6 b∈ws then(match A6t (bs.map A6) (A6 b)with
   |some i=>if bs.getD i bD=b then a4U ws bs n t r else(bs,0,0,8)
   |none=>if 128≤bs.length then(bs,0,0,3)else a4U ws (a9q bs (a1Y (bs.map A6) (A6 b)) b) (n+1) (t+(b.2.1.length:Int)) r)
  else a4U ws bs n t r
structure OSt (bs:P7):Prop where
 len:bs.length≤128
 ok:∀b∈bs,J9 b
 dlen:∀b∈bs,b.2.1.length≤1024
 inc:Inc (bs.map A6)
theorem c1r{bs:P7}(h:OSt bs){b:a1f}(hb:J9 b)(hs:b.2.1.length≤1024)(hn:A6 b∉bs.map A6)(hl:¬128≤bs.length):OSt (a9q bs (a1Y (bs.map A6) (A6 b)) b):=by
 have hp:=b0I (bs.map A6) (A6 b)
 rw[List.length_map]at hp
 refine⟨by rw[c4t _ _ _ hp]; omega,fun x hx=> ?_,fun x hx=> ?_,by rw[b4t]; exact d4a h.inc hn⟩
 ·rcases c4u.1 hx with e|e
  ·rw [e]; exact hb
  ·exact h.ok x e
 ·rcases c4u.1 hx with e|e
  ·rw [e]; exact hs
  ·exact h.dlen x e
theorem c6U{bs:P7}(h:∀b∈bs,J9 b)(hv:a5P bs):OSt bs:=⟨hv.1,h,hv.2.1,hv.2.2⟩
theorem c1j(a b:a1f):a2v a b=some (decide (a=b)):=by
 obtain⟨x,y,u⟩:=a
 obtain⟨x2,y2,u2⟩:=b
 unfold a2v a4z
 by_cases h1:x=x2
 ·by_cases h2:y=y2<;>simp[h1,h2,B5u]
 ·simp [h1]
theorem c1t(a b:a1f)(h:a.2.1.length≤140737488355328):u9 a b=some (decide (a=b)):=by
 obtain⟨x,y,u⟩:=a
 obtain⟨x2,y2,u2⟩:=b
 unfold u9
 rw[c4z _ _ h]
 by_cases h1:x=x2
 ·by_cases h2:y=y2<;>simp[h1,h2,B5u]
 ·simp [h1]
theorem b2f(zs:G5)(k:List Int)(hl:zs.length≤1048576):J3 zs k=some (decide (k∈zs)):=by
 unfold J3 P9
 have key:∀(m n x:Nat),x+m=zs.length→m<n→∃v:Int,F5 (fun x4=>(some x4)) (some (-1:Int)) zs k n (x:Int)=some v∧decide (0≤v)=decide (k∈zs.drop x):=by
  intro m
  induction m with
  |zero=>
   intro n x hx hn
   obtain⟨q,rfl⟩:∃q,n=q+1:=⟨n-1,by omega⟩
   refine⟨-1,?_,by rw[List.drop_eq_nil_of_le (by omega)]; simp⟩
   show F6 _ _ _ zs k (x:Int)=_
   unfold F6
   rw[B7 (p:=(x:Int)<(zs.length:Int)) (by omega)]; rfl
  |succ m ih=>
   intro n x hx hn
   obtain⟨q,rfl⟩:∃q,n=q+1:=⟨n-1,by omega⟩
   have hlt:x<zs.length:=by omega
   have hd:zs.drop x=zs.getD x []::zs.drop (x+1):=by
    rw[List.drop_eq_getElem_cons hlt]; simp[List.getD,List.getElem?_eq_getElem hlt]
   show ∃v:Int,F6 (F5 _ _ zs k q) _ _ zs k (x:Int)=_∧_
   unfold F6
   simp only[Int.toNat_natCast]
   rw[a4V hlt,eqK,A5 (p:=(x:Int)<(zs.length:Int)) (by omega),A5 (p:=(0:Int)≤(x:Int)) (by omega),U1 (n:=(x:Int)+1) (by omega) (by omega),hd]
   by_cases e:k=zs.getD x []
   ·refine ⟨(x:Int),by rw[A5 e]; rfl,?_⟩
    rw[A5 (show (0:Int)≤(x:Int) by omega),A5 (by rw[← e]; simp)]
   ·obtain ⟨v,v1,v2⟩:=ih q (x+1) (by omega) (by omega)
    refine⟨v,by rw[B7 e]; exact v1,?_⟩
    rw[v2]
    by_cases hm:k∈zs.drop (x+1)
    ·rw [A5 hm,A5 (by simp[hm])]
    ·rw [B7 hm,B7 (by simp only[List.mem_cons,not_or]; exact⟨e,hm⟩)]
 obtain⟨v,v1,v2⟩:=key zs.length FUEL 0 (by omega) (D7 (by omega))
 have v1:F5 (fun x4=>(some x4)) (some (-1:Int)) zs k FUEL (0:Int)=some v:=v1
 rw[v1,B5u,v2,List.drop_zero]
theorem d6D(ks:G5)(i:Nat)(k:List Int)(hi:i≤ks.length)(hl:ks.length≤1048576):O6 ks (i:Int) [k]=some (a9q ks i k):=by
 unfold O6 a9q
 rw[A5 (p:=([k]:G5).length=1) rfl,A5 (p:=(0:Int)≤(i:Int)) (by omega),A5 (p:=(i:Int)≤(ks.length:Int)) (by omega),A5 (p:=(ks.length+1)*32≤140737488355328) (by omega),A5 (p:=ks.length+1≤4611686018427387904) (by omega)]
 rfl
theorem d6C(bs:P7)(i:Nat)(b:a1f)(hi:i≤bs.length)(hl:bs.length≤1048576):N0 bs (i:Int) [b]=some (a9q bs i b):=by
 unfold N0 a9q
 rw[A5 (p:=([b]:P7).length=1) rfl,A5 (p:=(0:Int)≤(i:Int)) (by omega),A5 (p:=(i:Int)≤(bs.length:Int)) (by omega),A5 (p:=(bs.length+1)*32≤140737488355328) (by omega),A5 (p:=bs.length+1≤4611686018427387904) (by omega)]
 rfl
theorem a8D{zs:P7}{x:Nat}(h:x<zs.length):zs.drop x=zs.getD x bD::zs.drop (x+1):=by
 rw[List.drop_eq_getElem_cons h]; simp[List.getD,List.getElem?_eq_getElem h]
noncomputable def c6N{R:Type}(kr:P7→G5→Int→Option R)(ke:P7→G5→Int→Int→Option R)(q:P7×Int×Int×Int):Option R:=
 if q.2.2.2=0 then ke q.1 (q.1.map A6) q.2.1 q.2.2.1 else kr q.1 (q.1.map A6) q.2.2.2
theorem b4I(ws:G5):∀(zs:P7),(∀ b∈zs,J9 b)→(∀ b∈zs,b.2.1.length≤1024)→∀(bs:P7) (n t:Int),OSt bs→OSt (a4U ws bs n t zs).1
 | [],_,_,_,_,_,h=>h
 |b::r,hz,hs,bs,n,t,h=>by
  have ih:=b4I ws r (fun x hx=>hz x (by simp[hx])) (fun x hx=>hs x (by simp[hx]))
  rw[a4U]
  split
  ·split
   ·split
    ·exact ih _ _ _ h
    ·exact h
   ·rename_i hx
    split
    ·exact h
    ·rename_i h128
     exact ih _ _ _ (c1r h (hz b (by simp)) (hs b (by simp)) (a3M.1 hx) h128)
  ·exact ih _ _ _ h
theorem b6M(ks:G5)(bs:P7)(u:Unit)(hl:bs.length≤1048576)(h:∀b∈bs,b.2.1.length≤1048576):l9 (ks,bs,u)=some (bs,()):=by
 unfold l9
 have:=b2k (fun n x z=>Z8 (fun E6=>(some (E6,()))) (ks,bs,u) n (x:Int) z) bs (fun b=>b) bD (fun z=>some (z,())) (by omega) (fun n x z hx hz=>by
  show O4 _ _ _ (x:Int) z=_
  unfold O4
  have hb:=h _ (I6 bD hx)
  have eg:bs.getD x ((0:Int),([],()))=bs.getD x bD:=rfl
  simp only[Int.toNat_natCast,eg,b7b _ hb,B5u]
  rw[A5 (p:=(x:Int)<(bs.length:Int)) (by omega),A5 (p:=(0:Int)≤(x:Int)) (by omega),A5 (p:=(z.length+1)*32≤140737488355328) (by omega),A5 (p:=z.length+1≤9223372036854775807) (by omega),U1 (n:=(x:Int)+1) (by omega) (by omega)]
  rfl) (fun n z hz=>by
  show O4 _ _ _ (bs.length:Int) z=_
  unfold O4
  rw[B7 (p:=(bs.length:Int)<(bs.length:Int)) (by omega)]; rfl)
 rw[List.map_id']at this
 exact this
theorem c1h(zs:P7)(k:Int)(h0:0≤k)(hl:zs.length≤1073741824)(h:k+(I7 a0z zs:Int)≤1099511627776):a0D (a3m b0k a0z zs k,()) k=some (k+(I7 a0z zs:Int)):=by
 unfold a0D
 simp only[c1f zs k h0 hl h,B5u]
 rw[B7 (by omega)]; rfl
theorem d0O(ws:G5)(left:Int)(h0:0≤left)(h1:left≤1048576)(hn:ws.length≤9223372036854775807):a3y ws left=some (if left-(ws.length:Int)<0 then -1 else left-(ws.length:Int)):=by
 unfold a3y
 rw[U1 (n:=left-(ws.length:Int)) (by omega) (by omega)]
 by_cases h:left-(ws.length:Int)<0
 ·rw [A5 h,if_pos h]; rfl
 ·rw [B7 h,if_neg h]; rfl
theorem b2A(kr:P7→P7→G5→Int→Option (A2K J4))(ke:P7→Int→Int→P7→G5→Option (A2K J4))(a2:G5)(a3 a4 a5:Int)(y:G5×P7×Unit)(tr:Int×Int×Int×Unit)(ws:G5)(zs:P7)(hwl:ws.length≤1048576)(hzl:zs.length≤1048576)(hz:∀b∈zs,J9 b)(hzs:∀b∈zs,b.2.1.length≤1024):
  ∀(m f x:Nat) (bs:P7) (n t:Int),x+m=zs.length→m<f→OSt bs→0≤n→n≤(x:Int)→0≤t→t≤1024*(x:Int)→Y2 kr ke a2 a3 a4 a5 y tr f ws (zs.length:Int) zs n t (x:Int) bs (bs.map A6)=c6N (kr zs) (fun bs ks n t=>ke zs n t bs ks) (a4U ws bs n t (zs.drop x)):=by
 intro m
 induction m with
 |zero=>
  intro f x bs n t hx hf hO _ _ _ _
  obtain⟨q,rfl⟩:∃q,f=q+1:=⟨f-1,by omega⟩
  rw[List.drop_eq_nil_of_le (by omega)]
  show R8 _ _ _ _ _ _ _ _ _ ws (zs.length:Int) zs n t (x:Int) bs (bs.map A6)=_
  unfold R8
  rw[B7 (p:=(x:Int)<(zs.length:Int)) (by omega)]; rfl
 |succ m ih=>
  intro f x bs n t hx hf hO h1 h2 h3 h4
  obtain⟨q,rfl⟩:∃q,f=q+1:=⟨f-1,by omega⟩
  have hlt:x<zs.length:=by omega
  have hm:=I6 bD hlt
  have hb:=hz _ hm
  have hbs:=hzs _ hm
  have hlen:=hO.len
  rw[a8D hlt,a4U]
  show R8 (Y2 kr ke a2 a3 a4 a5 y tr q) _ _ _ _ _ _ _ _ ws (zs.length:Int) zs n t (x:Int) bs (bs.map A6)=_
  unfold R8
  have eg:zs.getD x ((0:Int),([],()))=zs.getD x bD:=rfl
  simp only[Int.toNat_natCast,eg]
  rw[A5 (p:=(x:Int)<(zs.length:Int)) (by omega),A5 (p:=(0:Int)≤(x:Int)) (by omega),U1 (n:=(x:Int)+1) (by omega) (by omega),U1 (n:=n+1) (by omega) (by omega),b2t hb]
  simp only[Bool.and_self,cond_true,B5u,b2f ws _ hwl]
  generalize zs.getD x bD=b at hb hbs
  by_cases hw:A6 b∈ws
  ·rw [A5 hw,if_pos hw]
   simp only[Bool.not_true,cond_false,a8A (bs.map A6) bs () _ (a4X bs) (a5c b) (by simp; omega) hO.inc,B5u]
   rcases a7k (bs.map A6) bs () (A6 b) (a4X bs) (a5c b) (by simp; omega) hO.inc with⟨i,e1,e2,e3,e4⟩|⟨i,e1,e2,e4,e5,e6⟩
   ·rw [e1,e4]
    rw[List.length_map]at e2
    have hmem:A6 b∈bs.map A6:=by rw[← e3]; exact I6 [] (by simpa using e2)
    have eg2:bs.getD i ((0:Int),([],()))=bs.getD i bD:=rfl
    simp only[B5u,cond_true,Int.toNat_natCast,eg2,c1j]
    rw[A5 (p:=(0:Int)≤(i:Int)) (by omega),A5 (p:=(i:Int)<(bs.length:Int)) (by omega),A5 hmem]
    simp only[Bool.and_self,cond_true,Bool.not_true,cond_false]
    by_cases hs:bs.getD i bD=b
    ·rw [A5 hs,if_pos hs]
     exact ih q (x+1) bs n t (by omega) (by omega) hO h1 (by omega) h3 (by omega)
    ·rw [B7 hs,if_neg hs]; rfl
   ·rw [e1,e4]
    have hnot:=a3M.1 e4
    simp only[B5u,cond_false]
    rw[B7 hnot]
    by_cases h128:128≤bs.length
    ·rw [if_pos h128,A5 (p:=((bs.map A6).length:Int)=128) (by rw[List.length_map]; omega)]; rfl
    ·have hi:a1Y (bs.map A6) (A6 b)=i:=c8m e2 e5 fun j hj1 hj2=>a5a (e6 j hj1 hj2)
     have e2':=e2
     rw[List.length_map]at e2'
     rw[if_neg h128,B7 (p:=((bs.map A6).length:Int)=128) (by rw[List.length_map]; omega),d6D _ i _ e2 (by simp; omega),d6C bs i b e2' (by omega)]
     simp only[B5u,cond_false,Bool.not_false,cond_true,H8]
     rw[U1 (n:=t+(b.2.1.length:Int)) (by omega) (by omega),←hi,←b4t]
     exact ih q (x+1) _ (n+1) (t+(b.2.1.length:Int)) (by omega) (by omega) (c1r hO hb hbs hnot h128) (by omega) (by omega) (by omega) (by omega)
  ·rw [B7 hw,if_neg hw]
   exact ih q (x+1) bs n t (by omega) (by omega) hO h1 (by omega) h3 (by omega)
theorem b6T(ke:Bool→List Int→List Int→Int→Option (A2K C3))(a2:G5)(a3 a4 a5:Int)(y:P7×G5×Unit)(tr:Int×Int×Int×Unit)(ws:G5)(zs bs:P7)(x9 E4 M9:Int)(w:Bool)(k k2:List Int)(ks:G5)(hk:∀y∈ks,L7 y)(hk2:L7 k2)(hl:ks.length≤1048576):∀(m f x:Nat),x+m=ks.length→m<f→x≤a1Y ks k2→r9 ke a2 a3 a4 a5 y tr ws zs x9 E4 M9 bs ks f w k k2 (x:Int)=ke w k k2 ((a1Y ks k2:Nat):Int):=by
 have hle:=b0I ks k2
 intro m
 induction m with
 |zero=>
  intro f x hx hf hp
  obtain⟨q,rfl⟩:∃q,f=q+1:=⟨f-1,by omega⟩
  show X8 _ _ _ _ _ _ _ _ _ _ _ _ _ _ _ w k k2 (x:Int)=_
  unfold X8
  rw[B7 (p:=(x:Int)<(ks.length:Int)) (by omega),show a1Y ks k2=x by omega]; rfl
 |succ m ih=>
  intro f x hx hf hp
  obtain⟨q,rfl⟩:∃q,f=q+1:=⟨f-1,by omega⟩
  have hlt:x<ks.length:=by omega
  show X8 (r9 ke a2 a3 a4 a5 y tr ws zs x9 E4 M9 bs ks q) _ _ _ _ _ _ _ _ _ _ _ _ _ _ w k k2 (x:Int)=_
  unfold X8
  simp only[Int.toNat_natCast]
  rw[a4V hlt,A5 (p:=(x:Int)<(ks.length:Int)) (by omega),A5 (p:=(0:Int)≤(x:Int)) (by omega),a4L (hk _ (I6 [] hlt)).1 hk2.1,U1 (n:=(x:Int)+1) (by omega) (by omega)]
  simp only[Bool.and_self,cond_true,B5u,a3P]
  by_cases e:x<a1Y ks k2
  ·rw [b2G ks k2 x e,cond_true]
   exact ih q (x+1) (by omega) (by omega) (by omega)
  ·have e:a1Y ks k2=x:=by omega
   have:=b2F ks k2 (by omega)
   rw[e]at this
   rw[this,e]; rfl
theorem b2D(kr:P7→P7→G5→Int→Option (A2K C3))(ke:P7→Int→Int→P7→G5→Option (A2K C3))(a2:G5)(a3 a4 a5:Int)(y:P7×G5×Unit)(tr:Int×Int×Int×Unit)(ws:G5)(zs:P7)(hwl:ws.length≤1048576)(hzl:zs.length≤1048576)(hz:∀b∈zs,J9 b)(hzs:∀b∈zs,b.2.1.length≤1024):
  ∀(m f x:Nat) (bs:P7) (n t:Int),x+m=zs.length→m<f→OSt bs→0≤n→n≤(x:Int)→0≤t→t≤1024*(x:Int)→S7 ke kr a2 a3 a4 a5 y tr f ws zs n t (x:Int) bs (bs.map A6)=c6N (kr zs) (fun bs ks n t=>ke zs n t bs ks) (a4U ws bs n t (zs.drop x)):=by
 intro m
 induction m with
 |zero=>
  intro f x bs n t hx hf hO _ _ _ _
  obtain⟨q,rfl⟩:∃q,f=q+1:=⟨f-1,by omega⟩
  rw[List.drop_eq_nil_of_le (by omega)]
  show a0V _ _ _ _ _ _ _ _ _ ws zs n t (x:Int) bs (bs.map A6)=_
  unfold a0V
  rw[B7 (p:=(x:Int)<(zs.length:Int)) (by omega)]; rfl
 |succ m ih=>
  intro f x bs n t hx hf hO h1 h2 h3 h4
  obtain⟨q,rfl⟩:∃q,f=q+1:=⟨f-1,by omega⟩
  have hlt:x<zs.length:=by omega
  have hm:=I6 bD hlt
  have hb:=hz _ hm
  have hbs:=hzs _ hm
  have hlen:=hO.len
  rw[a8D hlt,a4U]
  show a0V (S7 ke kr a2 a3 a4 a5 y tr q) _ _ _ _ _ _ _ _ ws zs n t (x:Int) bs (bs.map A6)=_
  unfold a0V
  have eg:zs.getD x ((0:Int),([],()))=zs.getD x bD:=rfl
  simp only[Int.toNat_natCast,eg]
  rw[A5 (p:=(x:Int)<(zs.length:Int)) (by omega),A5 (p:=(0:Int)≤(x:Int)) (by omega),U1 (n:=(x:Int)+1) (by omega) (by omega),U1 (n:=n+1) (by omega) (by omega),b2w hb]
  simp only[Bool.and_self,cond_true,B5u,a8C ws _ hwl]
  generalize zs.getD x bD=b at hb hbs
  by_cases hw:A6 b∈ws
  ·rw [A5 hw,if_pos hw]
   simp only[Bool.not_true,cond_false,a7m bs (bs.map A6) () _ (by simp; omega),B5u]
   have hle:=b0I (bs.map A6) (A6 b)
   rw[List.length_map]at hle
   refine Eq.trans (b6T _ a2 a3 a4 a5 y tr ws zs bs n t (x:Int) _ (A6 b) (A6 b) (bs.map A6) (a4X bs) (a5c b) (by simp; omega) (bs.map A6).length FUEL 0 (by omega) (D7 (by simp; omega)) (Nat.zero_le _)) ?_
   simp only[Int.toNat_natCast,List.length_map]
   have hcl:∀{α:Type} (l:List α),A3F l (a1Y (bs.map A6) (A6 b)) l.length=l.drop (a1Y (bs.map A6) (A6 b)):=fun l=>by unfold A3F; rw[List.take_of_length_le (by simp)]
   have hct:∀{α:Type} (l:List α),A3F l 0 (a1Y (bs.map A6) (A6 b))=l.take (a1Y (bs.map A6) (A6 b)):=fun l=>by unfold A3F; simp
   have hcl2:A3F (bs.map A6) (a1Y (bs.map A6) (A6 b)) bs.length=(bs.map A6).drop (a1Y (bs.map A6) (A6 b)):=by have:=hcl (bs.map A6); rwa [List.length_map]at this
   have fresh:A6 b∉bs.map A6→∀(P:Nat) (ks:G5),P=a1Y (bs.map A6) (A6 b)→ks=bs.map A6→∀(nw:Bool),nw=true→(cond (decide ((128:Int)≤(bs.length:Int)))
     (kr zs bs ks (3:Int))
     (cond ((decide ((0:Int)≤((P:Nat):Int)))&&(decide (((P:Nat):Int)≤(bs.length:Int))))
     (cond (decide ((1+(A3F bs P (bs.length)).length)*32≤140737488355328)&&decide (1+(A3F bs P (bs.length)).length≤9223372036854775807))
     (cond ((decide ((0:Int)≤((P:Nat):Int)))&&(decide (((P:Nat):Int)≤(bs.length:Int))))
     (cond (decide ((0+(A3F bs 0 P).length)*32≤140737488355328)&&decide (0+(A3F bs 0 P).length≤9223372036854775807))
     (cond (decide ((([]++(A3F bs 0 P)).length+([b]++(A3F bs P (bs.length))).length)*32≤140737488355328)&&decide (([]++(A3F bs 0 P)).length+([b]++(A3F bs P (bs.length))).length≤9223372036854775807))
     (cond ((decide ((0:Int)≤((P:Nat):Int)))&&(decide (((P:Nat):Int)≤(bs.length:Int))))
     (cond (decide ((1+(A3F ks P (bs.length)).length)*32≤140737488355328)&&decide (1+(A3F ks P (bs.length)).length≤9223372036854775807))
     (cond ((decide ((0:Int)≤((P:Nat):Int)))&&(decide (((P:Nat):Int)≤(bs.length:Int))))
     (cond (decide ((0+(A3F ks 0 P).length)*32≤140737488355328)&&decide (0+(A3F ks 0 P).length≤9223372036854775807))
     (cond (decide ((([]++(A3F ks 0 P)).length+([A6 b]++(A3F ks P (bs.length))).length)*32≤140737488355328)&&decide (([]++(A3F ks 0 P)).length+([A6 b]++(A3F ks P (bs.length))).length≤9223372036854775807))
     (cond nw
     ((fun A B n t x=>S7 ke kr a2 a3 a4 a5 y tr q ws zs n t x A B) (([]++(A3F bs 0 P))++([b]++(A3F bs P (bs.length)))) (([]++(A3F ks 0 P))++([A6 b]++(A3F ks P (bs.length)))) (n+1) (IntKind.wrap .i64 (t+(b.2.1.length:Int))) ((x:Int)+1))
     ((fun A B n t x=>S7 ke kr a2 a3 a4 a5 y tr q ws zs n t x A B) (([]++(A3F bs 0 P))++([b]++(A3F bs P (bs.length)))) (([]++(A3F ks 0 P))++([A6 b]++(A3F ks P (bs.length)))) n t ((x:Int)+1)))
     none) none) none) none) none) none) none) none) none) none):Option (A2K C3))=c6N (kr zs) (fun bs ks n t=>ke zs n t bs ks) (if 128≤bs.length then(bs,0,0,3)else a4U ws (a9q bs (a1Y (bs.map A6) (A6 b)) b) (n+1) (t+(b.2.1.length:Int)) (zs.drop (x+1))):=by
    intro hnot P ks hP hks nw hnw
    subst hP hks hnw
    rw[hcl,hct,hcl2,hct]
    by_cases h128:128≤bs.length
    ·rw [if_pos h128,A5 (p:=(128:Int)≤(bs.length:Int)) (by omega)]; rfl
    ·rw [if_neg h128]
     simp (disch:=(first|omega|(simp only[List.nil_append,List.length_append,List.length_take,List.length_drop,List.length_map,List.length_singleton]; omega))) only[A5,B7,cond_false,Bool.and_self,cond_true]
     rw[U1 (n:=t+(b.2.1.length:Int)) (by omega) (by omega),List.nil_append,List.nil_append]
     have:=ih q (x+1) _ (n+1) (t+(b.2.1.length:Int)) (by omega) (by omega) (c1r hO hb hbs hnot h128) (by omega) (by omega) (by omega) (by omega)
     rw[b4t]at this
     exact this
   cases hx:A6t (bs.map A6) (A6 b)with
   |none=>
    have hnot:=a3M.1 hx
    rw[A5 (show (-1:Int)<0 by omega)]
    by_cases hend:a1Y (bs.map A6) (A6 b)<bs.length
    ·rw [A5 (p:=((a1Y (bs.map A6) (A6 b):Nat):Int)<(bs.length:Int)) (by omega),A5 (p:=(0:Int)≤((a1Y (bs.map A6) (A6 b):Nat):Int)) (by omega)]
     have hne:(bs.map A6).getD (a1Y (bs.map A6) (A6 b)) []≠A6 b:=fun e=>hnot (by rw[← e]; exact I6 [] (by simpa using hend))
     rw[a4V (by simpa using hend),eqK,B7 hne]
     simp only[Bool.and_self,cond_true,cond_false]
     exact fresh hnot _ _ rfl rfl true rfl
    ·rw [B7 (p:=((a1Y (bs.map A6) (A6 b):Nat):Int)<(bs.length:Int)) (by omega),cond_false]
     exact fresh hnot _ _ rfl rfl true rfl
   |some i=>
    obtain⟨i1,i2⟩:=a5R hx
    rw[List.length_map]at i1
    have hpi:a1Y (bs.map A6) (A6 b)=i:=c8m (by simp; omega) (fun j hj=>by rw[← i2]; exact a4W hO.inc hj (by simpa using i1)) (fun j hj1 hj2=>by
     rw[← i2]
     by_cases e:j=i
     ·rw [e,a4r]
     ·exact a5a (a4W hO.inc (by omega) hj2))
    rw[hpi,B7 (show ¬(i:Int)<0 by omega),A5 (p:=(i:Int)<(bs.length:Int)) (by omega),A5 (p:=(0:Int)≤(i:Int)) (by omega),a4V (by simpa using i1),i2,eqK,A5 rfl]
    have eg2:bs.getD i ((0:Int),([],()))=bs.getD i bD:=rfl
    have hbi:=(hO.ok _ (I6 bD i1)).2
    simp only[Bool.and_self,cond_true,eg2,c1t (bs.getD i bD) b (by omega),B5u]
    by_cases hs:bs.getD i bD=b
    ·rw [A5 hs,if_pos hs]
     exact ih q (x+1) bs n t (by omega) (by omega) hO h1 (by omega) h3 (by omega)
    ·rw [B7 hs,if_neg hs]; rfl
  ·rw [B7 hw,if_neg hw]
   exact ih q (x+1) bs n t (by omega) (by omega) hO h1 (by omega) h3 (by omega)
theorem b2z(ks:G5)(bs:P7)(u:Unit)(ws:G5)(B:Int)(hk:∀k∈ks,L7 k)(hw:∀w∈ws,L7 w)(hl:ks.length≤1048576)(hi:Inc ks)(hb:bs.length=ks.length)(hd:∀b∈bs,b.2.1.length≤1048576)(hwl:ws.length≤1048576)(h0:0≤B)(h1:B≤1000000):
  q7 (ks,bs,u) ws B=some (a4F ks bs ws B):=by
 unfold q7
 have key:∀(m fuel x:Nat) (B:Int) (out:P7),x+m=ws.length→m<fuel→0≤B→B≤1000000→out.length≤x→P2 (fun A9=>some A9) (ks,bs,u) ws fuel B (x:Int) out=some (out++a4F ks bs (ws.drop x) B):=by
  intro m
  induction m with
  |zero=>
   intro fuel x B out hx hf h0 h1 ho
   obtain⟨k,rfl⟩:∃k,fuel=k+1:=⟨fuel-1,by omega⟩
   show P3 (P2 _ _ ws k) _ (ks,bs,u) ws B (x:Int) out=_
   unfold P3
   rw[B7 (p:=(x:Int)<(ws.length:Int)) (by omega),List.drop_eq_nil_of_le (by omega)]
   simp[a4F]
  |succ m ih=>
   intro fuel x B out hx hf h0 h1 ho
   obtain⟨k,rfl⟩:∃k,fuel=k+1:=⟨fuel-1,by omega⟩
   have hlt:x<ws.length:=by omega
   have hg:ws.getD x []=ws[x]:=by simp[List.getD,List.getElem?_eq_getElem hlt]
   show P3 (P2 _ _ ws k) _ (ks,bs,u) ws B (x:Int) out=_
   unfold P3
   simp only[Int.toNat_natCast]
   rw[a4V (z:=ws) (i:=x) hlt,hg,b2v ks bs u ws[x] hk (hw _ (List.getElem_mem hlt)) (by omega) hi hb,A5 (p:=(x:Int)<(ws.length:Int)) (by omega),A5 (p:=(0:Int)≤(x:Int)) (by omega),U1 (n:=(x:Int)+1) (by omega) (by omega),List.drop_eq_getElem_cons hlt]
   simp only[Bool.and_self,cond_true,B5u,a4F]
   cases hgf:b2y ks bs ws[x]with
   |none=>
    exact ih k (x+1) B out (by omega) (by omega) h0 h1 (by omega)
   |some b=>
    have hbl:=hd b (b0G hb hgf)
    simp only[Bool.not_true,cond_false]
    unfold H8
    rw[B5u,b7b b hbl,U1 (n:=B-(b.2.1.length:Int)) (by omega) (by omega)]
    by_cases hn:B-(b.2.1.length:Int)<0
    ·rw [A5 hn,if_pos hn]; simp
    ·rw [B7 hn,if_neg hn]
     simp only[cond_false,B5u]
     rw[A5 (p:=(out.length+1)*32≤140737488355328) (by omega),A5 (p:=out.length+1≤9223372036854775807) (by omega)]
     simp only[Bool.and_self,cond_true]
     have:=ih k (x+1) (B-(b.2.1.length:Int)) (out++[b]) (by omega) (by omega) (by omega) (by omega) (by simp; omega)
     rw[List.append_assoc]at this
     exact this
 have:=key ws.length FUEL 0 B [] (by omega) (D7 (by omega)) h0 h1 (by simp)
 simpa using this
theorem b2C(ks:G5)(bs:P7)(u:Unit)(ws:G5)(A:Int)(hl:ks.length≤1048576)(hb:bs.length=ks.length)(hd:∀b∈bs,b.2.1.length≤1048576)(hwl:ws.length≤1048576)(h0:0≤A)(h1:A≤1000000):
  a0I (bs,ks,u) ws A=some (a4F ks bs ws A):=by
 unfold a0I
 have key:∀(m fuel x:Nat) (T:Int) (out:P7),x+m=ws.length→m<fuel→0≤T→T≤A→out.length≤x→V8 (fun A9=>some A9) (fun A9=>some A9) (bs,ks,u) ws A fuel T (x:Int) out=some (out++a4F ks bs (ws.drop x) (A-T)):=by
  intro m
  induction m with
  |zero=>
   intro fuel x T out hx hf h0 h1 ho
   obtain⟨k,rfl⟩:∃k,fuel=k+1:=⟨fuel-1,by omega⟩
   show V9 (V8 _ _ _ ws A k) _ _ (bs,ks,u) ws A T (x:Int) out=_
   unfold V9
   rw[B7 (p:=(x:Int)<(ws.length:Int)) (by omega),List.drop_eq_nil_of_le (by omega)]
   simp[a4F]
  |succ m ih=>
   intro fuel x T out hx hf h0 h1 ho
   obtain⟨k,rfl⟩:∃k,fuel=k+1:=⟨fuel-1,by omega⟩
   have hlt:x<ws.length:=by omega
   have hg:ws.getD x []=ws[x]:=by simp[List.getD,List.getElem?_eq_getElem hlt]
   show V9 (V8 _ _ _ ws A k) _ _ (bs,ks,u) ws A T (x:Int) out=_
   unfold V9
   simp only[Int.toNat_natCast]
   rw[a4V (z:=ws) (i:=x) hlt,hg,a7m bs ks u ws[x] hl,A5 (p:=(x:Int)<(ws.length:Int)) (by omega),A5 (p:=(0:Int)≤(x:Int)) (by omega),U1 (n:=(x:Int)+1) (by omega) (by omega),List.drop_eq_getElem_cons hlt]
   simp only[Bool.and_self,cond_true,B5u,a4F,b2y]
   cases hgf:A6t ks ws[x]with
   |none=>
    simp only[Option.map]
    rw[A5 (show (-1:Int)<0 by omega)]
    exact ih k (x+1) T out (by omega) (by omega) h0 h1 (by omega)
   |some i=>
    obtain⟨hi1,_⟩:=a5R hgf
    have hib:i<bs.length:=by omega
    have hbl:=hd _ (I6 bD hib)
    simp only[Option.map,Int.toNat_natCast]
    rw[B7 (show ¬(i:Int)<0 by omega),A5 (p:=(0:Int)≤(i:Int)) (by omega),A5 (p:=(i:Int)<(bs.length:Int)) (by omega),b4w (bs.getD i bD) hbl]
    have ew:IntKind.wrap .i64 (T+((bs.getD i bD).2.1.length:Int))=T+((bs.getD i bD).2.1.length:Int):=U1 (by omega) (by omega)
    simp only[ew,Bool.and_self,cond_true,cond_false,B5u]
    by_cases hn:A<T+((bs.getD i bD).2.1.length:Int)
    ·rw [A5 hn,if_pos (by omega)]; simp
    ·rw [B7 hn,if_neg (by omega),A5 (p:=(out.length+1)*32≤140737488355328) (by omega),A5 (p:=out.length+1≤9223372036854775807) (by omega)]
     simp only[Bool.and_self,cond_true,cond_false]
     have:=ih k (x+1) (T+((bs.getD i bD).2.1.length:Int)) (out++[bs.getD i bD]) (by omega) (by omega) (by omega) (by omega) (by simp; omega)
     rw[List.append_assoc]at this
     refine Eq.trans this ?_
     have e:A-(T+((bs.getD i bD).2.1.length:Int))=A-T-((bs.getD i bD).2.1.length:Int):=by omega
     rw[e]
     rfl
 have:=key ws.length FUEL 0 0 [] (by omega) (D7 (by omega)) (by omega) h0 (by simp)
 simpa using this
theorem b4G(ks:G5)(bs:P7)(u:Unit)(hl:bs.length≤1048576)(h:∀b∈bs,b.2.1.length≤1048576):R4 (bs,ks,u)=some (bs,()):=by
 unfold R4
 have:=b2k (fun n x z=>S9 (fun E6=>(some (E6,()))) (bs,ks,u) n (x:Int) z) bs (fun b=>b) bD (fun z=>some (z,())) (by omega) (fun n x z hx hz=>by
  show J7 _ _ _ (x:Int) z=_
  unfold J7
  have hb:=h _ (I6 bD hx)
  have eg:bs.getD x ((0:Int),([],()))=bs.getD x bD:=rfl
  simp only[Int.toNat_natCast,eg,b4w _ hb,B5u]
  rw[A5 (p:=(x:Int)<(bs.length:Int)) (by omega),A5 (p:=(0:Int)≤(x:Int)) (by omega),A5 (p:=(z.length+1)*32≤140737488355328) (by omega),A5 (p:=z.length+1≤9223372036854775807) (by omega),U1 (n:=(x:Int)+1) (by omega) (by omega)]
  rfl) (fun n z hz=>by
  show J7 _ _ _ (bs.length:Int) z=_
  unfold J7
  rw[B7 (p:=(bs.length:Int)<(bs.length:Int)) (by omega)]; rfl)
 rw[List.map_id']at this
 exact this
abbrev a3L:Type:=Int×Int×Int×Unit
noncomputable def a4l{R:Type}(rec:P7→a3L→Option R)(kr:a3L→P7→Option R)(kv:Int→Option R)(ys:P7)(roots:G5)(most budget rounds:Int)(bs:P7)(tr:a3L):Option R:=
 if(U5 (bs.map A6) bs roots most).length=0 then kr tr bs else if tr.1=rounds then kv 7 else
  c6N (fun _ _ c=>kv c) (fun b _ n t=>if n=0 then kv 6 else rec b (IntKind.wrap .i64 (tr.1+1),(IntKind.wrap .i64 (tr.2.1+n),(IntKind.wrap .i64 (tr.2.2.1+t),())))) (a4U (U5 (bs.map A6) bs roots most) bs 0 0 (a4F (ys.map A6) ys (U5 (bs.map A6) bs roots most) budget))
noncomputable def a4G(ys:P7)(roots:G5)(most budget rounds:Int):Nat→P7→a3L→P7×a3L×Int
 |0,bs,tr=>if(U5 (bs.map A6) bs roots most).length=0 then(bs,tr,0)else([],(0,0,0,()),7)
 |n+1,bs,tr=>if(U5 (bs.map A6) bs roots most).length=0 then(bs,tr,0)else if tr.1=rounds then([],(0,0,0,()),7)else
  let q:=a4U (U5 (bs.map A6) bs roots most) bs 0 0 (a4F (ys.map A6) ys (U5 (bs.map A6) bs roots most) budget)
  if q.2.2.2=0 then(if q.2.1=0 then([],(0,0,0,()),6)else a4G ys roots most budget rounds n q.1 (IntKind.wrap .i64 (tr.1+1),(IntKind.wrap .i64 (tr.2.1+q.2.1),(IntKind.wrap .i64 (tr.2.2.1+q.2.2.1),()))))else([],(0,0,0,()),q.2.2.2)
noncomputable def d3V{R:Type}(kr:a3L→P7→Option R)(kv:Int→Option R)(q:P7×a3L×Int):Option R:=if q.2.2=0 then kr q.2.1 q.1 else kv q.2.2
theorem b8V{ys:P7}(h:∀b∈ys,J9 b)(hv:a5P ys)(ws:G5)(B:Int):(a4F (ys.map A6) ys ws B).length≤ws.length∧(∀ b∈a4F (ys.map A6) ys ws B,J9 b)∧∀b∈a4F (ys.map A6) ys ws B,b.2.1.length≤1024:=by
 obtain⟨h1,h2⟩:=b2I (ks:=ys.map A6) (bs:=ys) (by simp) ws B
 exact⟨h1,fun b hb=>h b (h2 b hb),fun b hb=>hv.2.1 b (h2 b hb)⟩
theorem b0E{R:Type}(L:Nat→P7→a3L→Option R)(kr:a3L→P7→Option R)(kv:Int→Option R)(ys:P7)(roots:G5)(most budget rounds:Int)(hy:∀b∈ys,J9 b)(hyv:a5P ys)(hr:rounds≤64)
  (step:∀n bs tr,OSt bs→L (n+1) bs tr=a4l (L n) kr kv ys roots most budget rounds bs tr):∀(r n:Nat) (bs:P7) (tr:a3L),OSt bs→0≤tr.1→tr.1+(r:Int)=rounds→r<n→L n bs tr=d3V kr kv (a4G ys roots most budget rounds r bs tr):=by
 intro r
 induction r with
 |zero=>
  intro n bs tr hO h0 h1 hn
  obtain⟨n,rfl⟩:∃q,n=q+1:=⟨n-1,by omega⟩
  rw[step n bs tr hO]
  unfold a4l a4G d3V
  by_cases hw:(U5 (bs.map A6) bs roots most).length=0
  ·rw [if_pos hw,if_pos hw]; rfl
  ·rw [if_neg hw,if_neg hw,if_pos (by omega)]; rfl
 |succ r ih=>
  intro n bs tr hO h0 h1 hn
  obtain⟨n,rfl⟩:∃q,n=q+1:=⟨n-1,by omega⟩
  rw[step n bs tr hO]
  unfold a4l
  rw[a4G]
  by_cases hw:(U5 (bs.map A6) bs roots most).length=0
  ·rw [if_pos hw,if_pos hw]; rfl
  ·have hz:=b8V hy hyv (U5 (bs.map A6) bs roots most) budget
   have hok:=b4I (U5 (bs.map A6) bs roots most) _ hz.2.1 hz.2.2 bs 0 0 hO
   rw[if_neg hw,if_neg hw,if_neg (by omega),if_neg (by omega)]
   unfold c6N
   simp only
   generalize a4U (U5 (bs.map A6) bs roots most) bs 0 0 (a4F (ys.map A6) ys (U5 (bs.map A6) bs roots most) budget)=q at hok⊢
   by_cases hc:q.2.2.2=0
   ·rw [if_pos hc,if_pos hc]
    by_cases hq:q.2.1=0
    ·rw [if_pos hq,if_pos hq]; rfl
    ·rw [if_neg hq,if_neg hq]
     have hw1:IntKind.wrap .i64 (tr.1+1)=tr.1+1:=U1 (by omega) (by omega)
     exact ih n q.1 _ hok (by show 0≤IntKind.wrap .i64 (tr.1+1); omega) (by show IntKind.wrap .i64 (tr.1+1)+(r:Int)=rounds; omega) (by omega)
   ·rw [if_neg hc,if_neg hc]
    unfold d3V
    rw[if_neg hc]
theorem b2l{bs:P7}(h:OSt bs):a5P bs:=⟨h.len,h.dlen,h.inc⟩
theorem c4K{bs:P7}{roots:G5}(hO:OSt bs)(hw:∀w∈roots,L7 w)(hl:¬256<roots.length)(most:Int):(U5 (bs.map A6) bs roots most).length≤1048576∧∀k∈U5 (bs.map A6) bs roots most,L7 k:=by
 have hv:=b2l hO
 have:=hO.len
 obtain⟨_,_,_,_,e3,e4⟩:=a7r (bs.map A6) bs () roots (by simp; omega) hv.2.2 (by simp) hO.ok hw (b0T hO.ok hv hl)
 unfold U5
 exact⟨by rw[List.length_take]; omega,fun k hk=>e4 k (List.mem_of_mem_take hk)⟩
theorem c4s(kr:a3L→P7→Option (A2K J4))(kv:Int→Option (A2K J4))(roots:G5)(most budget rounds:Int)(ys:P7)(hy:∀b∈ys,J9 b)(hyv:a5P ys)(hrt:∀w∈roots,L7 w)(hl:¬256<roots.length)(h1:1≤most)(h2:0≤budget)(h3:budget≤1000000)(n:Nat)(bs:P7)(tr:a3L)(hO:OSt bs):
  N6 kr kv roots most budget rounds (n+1) (ys.map A6,ys,()) bs (bs.map A6) tr=a4l (fun bs tr=>N6 kr kv roots most budget rounds n (ys.map A6,ys,()) bs (bs.map A6) tr) kr kv ys roots most budget rounds bs tr:=by
 have hv:=b2l hO
 have hlen:=hO.len
 have hyl:=hyv.1
 obtain⟨w1,w2⟩:=c4K hO hrt hl most
 have hz:=b8V hy hyv (U5 (bs.map A6) bs roots most) budget
 show a2Z (N6 kr kv roots most budget rounds n) kr kv roots most budget rounds (ys.map A6,ys,()) bs (bs.map A6) tr=_
 unfold a2Z a4l
 rw[b6N (bs.map A6) bs () roots most h1 (a4X bs) (by simp; omega) hv.2.2 (by simp) hO.ok hv.2.1 hrt (b0T hO.ok hv hl)]
 simp only[B5u]
 by_cases hw:(U5 (bs.map A6) bs roots most).length=0
 ·rw [if_pos hw,A5 (by omega),cond_true,b6M _ _ () (by omega) (fun b hb=>(hO.ok b hb).2)]; rfl
 ·rw [if_neg hw,B7 (by omega),cond_false]
  by_cases hr:tr.1=rounds
  ·rw [if_pos hr,A5 hr]; rfl
  ·rw [if_neg hr,B7 hr,cond_false,b2z (ys.map A6) ys () _ budget (a4X ys) w2 (by simp; omega) hyv.2.2 (by simp) (fun b hb=>(hy b hb).2) w1 h2 h3,B5u]
   have hzl:(a4F (ys.map A6) ys (U5 (bs.map A6) bs roots most) budget).length≤1048576:=by omega
   refine(b2A _ _ roots most budget rounds _ tr _ _ w1 hzl hz.2.1 hz.2.2 _ FUEL 0 bs 0 0 (Nat.zero_add _) (D7 (by omega)) hO (by omega) (by omega) (by omega) (by omega)).trans ?_
   rw[List.drop_zero]
   unfold c6N
   generalize a4U (U5 (bs.map A6) bs roots most) bs 0 0 (a4F (ys.map A6) ys (U5 (bs.map A6) bs roots most) budget)=q
   by_cases hc:q.2.2.2=0
   ·rw [if_pos hc,if_pos hc]
    show cond (decide (q.2.1=0)) _ _=(if q.2.1=0 then _ else _)
    by_cases hq:q.2.1=0
    ·rw [if_pos hq,A5 hq]; rfl
    ·rw [if_neg hq,B7 hq]; rfl
   ·rw [if_neg hc,if_neg hc]
    show cond (decide (q.2.2.2=0)) _ _=_
    rw[B7 hc]; rfl
theorem c4I(kr:a3L→P7→Option (A2K C3))(kv:Int→Option (A2K C3))(roots:G5)(most budget rounds:Int)(ys:P7)(hy:∀b∈ys,J9 b)(hyv:a5P ys)(hrt:∀w∈roots,L7 w)(hl:¬256<roots.length)(h1:1≤most)(h2:0≤budget)(h3:budget≤1000000)(n:Nat)(bs:P7)(tr:a3L)(hO:OSt bs):
  I3 kr kv roots most budget rounds (n+1) (ys,ys.map A6,()) bs (bs.map A6) tr=a4l (fun bs tr=>I3 kr kv roots most budget rounds n (ys,ys.map A6,()) bs (bs.map A6) tr) kr kv ys roots most budget rounds bs tr:=by
 have hv:=b2l hO
 have hlen:=hO.len
 have hyl:=hyv.1
 obtain⟨w1,w2⟩:=c4K hO hrt hl most
 have hz:=b8V hy hyv (U5 (bs.map A6) bs roots most) budget
 show a3K (I3 kr kv roots most budget rounds n) kr kv roots most budget rounds (ys,ys.map A6,()) bs (bs.map A6) tr=_
 unfold a3K a4l
 rw[b6Y (bs.map A6) bs () roots most h1 (by simp; omega) hv.2.2 (by simp) hO.ok hrt (b0T hO.ok hv hl)]
 simp only[B5u]
 by_cases hw:(U5 (bs.map A6) bs roots most).length=0
 ·rw [if_pos hw,A5 (by omega),cond_true,b4G _ _ () (by omega) (fun b hb=>(hO.ok b hb).2)]; rfl
 ·rw [if_neg hw,B7 (by omega),cond_false]
  by_cases hr:tr.1=rounds
  ·rw [if_pos hr,A5 hr]; rfl
  ·rw [if_neg hr,B7 hr,cond_false,b2C (ys.map A6) ys () _ budget (by simp; omega) (by simp) (fun b hb=>(hy b hb).2) w1 h2 h3,B5u]
   have hzl:(a4F (ys.map A6) ys (U5 (bs.map A6) bs roots most) budget).length≤1048576:=by omega
   refine(b2D _ _ roots most budget rounds _ tr _ _ w1 hzl hz.2.1 hz.2.2 _ FUEL 0 bs 0 0 (Nat.zero_add _) (D7 (by omega)) hO (by omega) (by omega) (by omega) (by omega)).trans ?_
   rw[List.drop_zero]
   unfold c6N
   generalize a4U (U5 (bs.map A6) bs roots most) bs 0 0 (a4F (ys.map A6) ys (U5 (bs.map A6) bs roots most) budget)=q
   by_cases hc:q.2.2.2=0
   ·rw [if_pos hc,if_pos hc]
    show cond (decide (q.2.1=0)) _ _=(if q.2.1=0 then _ else _)
    by_cases hq:q.2.1=0
    ·rw [if_pos hq,A5 hq]; rfl
    ·rw [if_neg hq,B7 hq]; rfl
   ·rw [if_neg hc,if_neg hc]
    show cond (decide (q.2.2.2=0)) _ _=_
    rw[B7 hc]; rfl
abbrev tr0:a3L:=(0,0,0,())
noncomputable def d6w(q:P7×a3L×Int):a3O×a3L×Int:=if q.2.2=0 then((q.1,()),q.2.1,0)else(([],()),tr0,q.2.2)
noncomputable def a2Y(bs ys:P7)(roots:G5)(most budget rounds:Int):a3O×a3L×Int:=
 if a4R bs=true∧a4R ys=true then
  (if 256<roots.length then(([],()),tr0,3)else
   if inR 1 most 256=true∧inR 0 budget 1000000=true∧inR 0 rounds 64=true then
    d6w (a4G ys roots most budget rounds rounds.toNat bs tr0)
   else(([],()),tr0,2))
 else(([],()),tr0,1)
theorem b2g(bs ys:P7)(roots:G5)(most budget rounds:Int)(hl:bs.length≤1048576)(h:∀b∈bs,J9 b)(hyl:ys.length≤1048576)(hy:∀b∈ys,J9 b)(hrt:∀w∈roots,L7 w):a0b (bs,()) (ys,()) roots most budget rounds=some (a2Y bs ys roots most budget rounds):=by
 unfold a0b a2Y
 rw[a9t (bs,()) hl h,a9t (ys,()) hyl hy]
 have e1:D5 bs=some bs:=b0l bs 32 (by omega) (by omega)
 have e2:D5 ys=some ys:=b0l ys 32 (by omega) (by omega)
 simp only[B5u,a7f (bs,()) hl h,a7f (ys,()) hyl hy,e1,e2]
 cases hv:a4R bs with
 |false=>cases hv2:a4R ys<;>rfl
 |true=>
  cases hv2:a4R ys with
  |false=>rfl
  |true=>
   have hp:=v6.1 hv
   have hq:=v6.1 hv2
   have hO:=c6U h hp
   simp only[Bool.not_true,cond_false,and_self,if_true]
   by_cases hw2:256<roots.length
   ·rw [if_pos hw2,A5 (by omega)]; rfl
   ·rw [if_neg hw2,B7 (by omega),cond_false]
    simp only[d0D,c4v,a9n,B5u]
    cases hr:inR 1 most 256 with
    |false=>rfl
    |true=>
     cases hr2:inR 0 budget 1000000 with
     |false=>rfl
     |true=>
      cases hr3:inR 0 rounds 64 with
      |false=>rfl
      |true=>
       obtain⟨r1,r2⟩:=a7g.1 hr
       obtain⟨r3,r4⟩:=a7g.1 hr2
       obtain⟨r5,r6⟩:=a7g.1 hr3
       simp only[Bool.not_true,cond_false,and_self,if_true]
       refine(b0E (fun n bs tr=>N6 _ _ roots most budget rounds n (ys.map A6,ys,()) bs (bs.map A6) tr) _ _ ys roots most budget rounds hy hq r6 (fun n bs tr hO=>c4s _ _ roots most budget rounds ys hy hq hrt hw2 r1 r3 r4 n bs tr hO) rounds.toNat FUEL bs tr0 hO (by show(0:Int)≤0; omega) (by show(0:Int)+(rounds.toNat:Int)=rounds; omega) (D7 (by omega))).trans ?_
       unfold d3V d6w
       by_cases hc:(a4G ys roots most budget rounds rounds.toNat bs tr0).2.2=0
       ·rw [if_pos hc,if_pos hc]
       ·rw [if_neg hc,if_neg hc]
theorem c4o(kr ke:P7→G5→Bool→P7→G5→Option (A2K C3))(s:a3O)(ys:P7)(a2:G5)(a3 a4 a5:Int)(w:Bool)(b:P7)(k:G5)(hl:ys.length≤1048576)(h:∀b∈ys,J9 b)(r:Option (A2K C3))(hkr:∀z1 z2,kr z1 z2 w b k=r)(ho:a4S ys):H1 kr ke s (ys,()) a2 a3 a4 a5 FUEL 0 [] [] w b k=ke ys (ys.map A6) w b k:=
 (b0L (fun n x z1 z2=>H1 kr ke s (ys,()) a2 a3 a4 a5 n x z1 z2 w b k) ys r (fun z1 z2=>kr z1 z2 w b k) (fun z1 z2=>ke z1 z2 w b k) hl h hkr (fun n x z1 z2=>rfl)).1 ho
theorem c4p(kr ke:P7→G5→Bool→P7→G5→Option (A2K C3))(s:a3O)(ys:P7)(a2:G5)(a3 a4 a5:Int)(w:Bool)(b:P7)(k:G5)(hl:ys.length≤1048576)(h:∀b∈ys,J9 b)(r:Option (A2K C3))(hkr:∀z1 z2,kr z1 z2 w b k=r)(ho:¬a4S ys):H1 kr ke s (ys,()) a2 a3 a4 a5 FUEL 0 [] [] w b k=r:=
 (b0L (fun n x z1 z2=>H1 kr ke s (ys,()) a2 a3 a4 a5 n x z1 z2 w b k) ys r (fun z1 z2=>kr z1 z2 w b k) (fun z1 z2=>ke z1 z2 w b k) hl h hkr (fun n x z1 z2=>rfl)).2 ho
theorem c6O(kr ke:P7→G5→Bool→P7→G5→Option (A2K C3))(s:a3O)(ys:P7)(a2:G5)(a3 a4 a5:Int)(w:Bool)(b:P7)(k:G5)(hl:ys.length≤1048576)(h:∀b∈ys,J9 b)(r:Option (A2K C3))(hkr:∀z1 z2,kr z1 z2 w b k=r)(hke:∀z1 z2,ke z1 z2 w b k=r):H1 kr ke s (ys,()) a2 a3 a4 a5 FUEL 0 [] [] w b k=r:=by
 by_cases ho:a4S ys
 ·exact (c4o kr ke s ys a2 a3 a4 a5 w b k hl h r hkr ho).trans (hke _ _)
 ·exact c4p kr ke s ys a2 a3 a4 a5 w b k hl h r hkr ho
theorem d3W(kr ke:P7→G5→Option (A2K C3))(bs:P7)(s:a3O)(a2:G5)(a3 a4 a5:Int)(hl:bs.length≤1048576)(h:∀b∈bs,J9 b)(r:Option (A2K C3))(hkr:∀z1 z2,kr z1 z2=r)(ho:a4S bs):S6 kr ke (bs,()) s a2 a3 a4 a5 FUEL 0 [] []=ke bs (bs.map A6):=
 (b0L (S6 kr ke (bs,()) s a2 a3 a4 a5) bs r kr ke hl h hkr (fun n x z1 z2=>rfl)).1 ho
theorem d3X(kr ke:P7→G5→Option (A2K C3))(bs:P7)(s:a3O)(a2:G5)(a3 a4 a5:Int)(hl:bs.length≤1048576)(h:∀b∈bs,J9 b)(r:Option (A2K C3))(hkr:∀z1 z2,kr z1 z2=r)(ho:¬a4S bs):S6 kr ke (bs,()) s a2 a3 a4 a5 FUEL 0 [] []=r:=
 (b0L (S6 kr ke (bs,()) s a2 a3 a4 a5) bs r kr ke hl h hkr (fun n x z1 z2=>rfl)).2 ho
theorem b2m(bs ys:P7)(roots:G5)(most budget rounds:Int)(hl:bs.length≤1048576)(h:∀b∈bs,J9 b)(hyl:ys.length≤1048576)(hy:∀b∈ys,J9 b)(hrt:∀w∈roots,L7 w):a2z (bs,()) (ys,()) roots most budget rounds=some (a2Y bs ys roots most budget rounds):=by
 unfold a2z a2Y
 by_cases h128:bs.length≤128
 ·rw [B7 (p:=(128:Int)<(bs.length:Int)) (by omega),cond_false]
  by_cases ho:a4S bs
  ·have hv:=(a5L h128).2 ho
   have hp:=v6.1 hv
   have hO:=c6U h hp
   refine(d3W _ _ bs (ys,()) roots most budget rounds hl h (some (([],()),((0,(0,(0,()))),1))) (fun z1 z2=> ?_) ho).trans ?_
   ·by_cases hy128:ys.length≤128
    ·show cond (decide ((128:Int)<(ys.length:Int))) _ _=_
     rw[B7 (p:=(128:Int)<(ys.length:Int)) (by omega),cond_false]
     exact c6O _ _ (bs,()) ys roots most budget rounds false z1 z2 hyl hy _ (fun _ _=>rfl) (fun _ _=>rfl)
    ·show cond (decide ((128:Int)<(ys.length:Int))) _ _=_
     rw[A5 (p:=(128:Int)<(ys.length:Int)) (by omega)]; rfl
   ·show cond (decide ((128:Int)<(ys.length:Int))) _ _=_
    by_cases hy128:ys.length≤128
    ·rw [B7 (p:=(128:Int)<(ys.length:Int)) (by omega),cond_false]
     by_cases hoy:a4S ys
     ·have hv2:=(a5L hy128).2 hoy
      have hq:=v6.1 hv2
      rw[if_pos ⟨hv,hv2⟩]
      refine(c4o _ _ (bs,()) ys roots most budget rounds true bs (bs.map A6) hyl hy (some (([],()),((0,(0,(0,()))),1))) (fun _ _=>rfl) hoy).trans ?_
      show cond (decide ((256:Int)<(roots.length:Int))) _ _=_
      by_cases hw2:256<roots.length
      ·rw [if_pos hw2,A5 (by omega)]; rfl
      ·rw [if_neg hw2,B7 (by omega),cond_false]
       simp only[c4y,B5u]
       cases hr:inR 1 most 256 with
       |false=>rfl
       |true=>
        cases hr2:inR 0 budget 1000000 with
        |false=>rfl
        |true=>
         cases hr3:inR 0 rounds 64 with
         |false=>rfl
         |true=>
          obtain⟨r1,r2⟩:=a7g.1 hr
          obtain⟨r3,r4⟩:=a7g.1 hr2
          obtain⟨r5,r6⟩:=a7g.1 hr3
          simp only[Bool.not_true,cond_false,and_self,if_true]
          refine(b0E (fun n bs tr=>I3 _ _ roots most budget rounds n (ys,ys.map A6,()) bs (bs.map A6) tr) _ _ ys roots most budget rounds hy hq r6 (fun n bs tr hO=>c4I _ _ roots most budget rounds ys hy hq hrt hw2 r1 r3 r4 n bs tr hO) rounds.toNat FUEL bs tr0 hO (by show(0:Int)≤0; omega) (by show(0:Int)+(rounds.toNat:Int)=rounds; omega) (D7 (by omega))).trans ?_
          unfold d3V d6w
          by_cases hc:(a4G ys roots most budget rounds rounds.toNat bs tr0).2.2=0
          ·rw [if_pos hc,if_pos hc]
          ·rw [if_neg hc,if_neg hc]
     ·rw [if_neg (fun q=>hoy ((a5L hy128).1 q.2))]
      exact c4p _ _ (bs,()) ys roots most budget rounds true bs (bs.map A6) hyl hy _ (fun _ _=>rfl) hoy
    ·rw [A5 (p:=(128:Int)<(ys.length:Int)) (by omega),if_neg (fun q=>hy128 (v6.1 q.2).1)]; rfl
  ·rw [if_neg (fun q=>ho ((a5L h128).1 q.1))]
   refine d3X _ _ bs (ys,()) roots most budget rounds hl h _ (fun z1 z2=> ?_) ho
   by_cases hy128:ys.length≤128
   ·show cond (decide ((128:Int)<(ys.length:Int))) _ _=_
    rw[B7 (p:=(128:Int)<(ys.length:Int)) (by omega),cond_false]
    exact c6O _ _ (bs,()) ys roots most budget rounds false z1 z2 hyl hy _ (fun _ _=>rfl) (fun _ _=>rfl)
   ·show cond (decide ((128:Int)<(ys.length:Int))) _ _=_
    rw[A5 (p:=(128:Int)<(ys.length:Int)) (by omega)]; rfl
 ·rw [A5 (p:=(128:Int)<(bs.length:Int)) (by omega),if_neg (fun q=>h128 (v6.1 q.1).1),cond_true]
  by_cases hy128:ys.length≤128
  ·rw [B7 (p:=(128:Int)<(ys.length:Int)) (by omega),cond_false]
   exact c6O _ _ (bs,()) ys roots most budget rounds false [] [] hyl hy _ (fun _ _=>rfl) (fun _ _=>rfl)
  ·rw [A5 (p:=(128:Int)<(ys.length:Int)) (by omega)]; rfl
theorem d0A{ys:P7}(hy:∀b∈ys,J9 b)(hyv:a5P ys)(roots:G5)(most budget rounds:Int):∀(r:Nat) (bs:P7) (tr:a3L),OSt bs→(a4G ys roots most budget rounds r bs tr).2.2=0→OSt (a4G ys roots most budget rounds r bs tr).1:=by
 intro r
 induction r with
 |zero=>
  intro bs tr hO hc
  unfold a4G at hc⊢
  split at hc
  ·rw [if_pos (by assumption)]; exact hO
  ·simp at hc
 |succ r ih=>
  intro bs tr hO hc
  unfold a4G at hc⊢
  split at hc
  ·rw [if_pos (by assumption)]; exact hO
  ·rename_i hw
   rw[if_neg hw]
   split at hc
   ·simp at hc
   ·rename_i hr
    rw[if_neg hr]
    have hz:=b8V hy hyv (U5 (bs.map A6) bs roots most) budget
    have hok:=b4I (U5 (bs.map A6) bs roots most) _ hz.2.1 hz.2.2 bs 0 0 hO
    simp only at hc⊢
    generalize a4U (U5 (bs.map A6) bs roots most) bs 0 0 (a4F (ys.map A6) ys (U5 (bs.map A6) bs roots most) budget)=q at hok hc⊢
    by_cases hq:q.2.2.2=0
    ·rw [if_pos hq]at hc⊢
     by_cases hn:q.2.1=0
     ·rw [if_pos hn]at hc; simp at hc
     ·rw [if_neg hn]at hc⊢
      exact ih _ _ hok hc
    ·rw [if_neg hq]at hc
     exact absurd hc hq
theorem c1e(bs ys:P7)(roots:G5)(most budget rounds:Int)(h:∀b∈bs,J9 b)(hy:∀b∈ys,J9 b):(a2Y bs ys roots most budget rounds).1.1.length≤128∧(∀ b∈(a2Y bs ys roots most budget rounds).1.1,b.2.1.length≤1048576)∧I7 a0z (a2Y bs ys roots most budget rounds).1.1≤1073741824:=by
 have key:(a2Y bs ys roots most budget rounds).1.1.length≤128∧(∀ b∈(a2Y bs ys roots most budget rounds).1.1,b.2.1.length≤1048576):=by
  unfold a2Y
  split
  ·rename_i hv
   split
   ·simp
   ·split
    ·unfold d6w
     by_cases hc:(a4G ys roots most budget rounds rounds.toNat bs tr0).2.2=0
     ·rw [if_pos hc]
      have hO:=d0A hy (v6.1 hv.2) roots most budget rounds rounds.toNat bs tr0 (c6U h (v6.1 hv.1)) hc
      exact⟨hO.len,fun b hb=>(hO.ok b hb).2⟩
     ·rw [if_neg hc]; simp
    ·simp
  ·simp
 refine⟨key.1,key.2,?_⟩
 have:=b8U (sz:=a0z) (C:=1048577) (xs:=(a2Y bs ys roots most budget rounds).1.1) (fun b hb=>by have:=key.2 b hb; simp only[a0z]; omega)
 have h1:=key.1
 have:(a2Y bs ys roots most budget rounds).1.1.length*1048577≤128*1048577:=Nat.mul_le_mul_right _ h1
 omega
theorem c1H(t:a3L):a1y t t=some true:=by
 unfold a1y
 simp only[decide_true,Bool.not_true,cond_false]
theorem FnExactFetchAll_true(s s2:a3O)(ws:G5)(most budget rounds:Int)(h:Ty.ok (.pair (.pair (.slice d0U) .unit) (.pair (.pair (.slice d0U) .unit) (.pair (.slice d9v) (.pair (.int .i64) (.pair (.int .i64) (.pair (.int .i64) .unit)))))) (s,s2,ws,most,budget,rounds,())):laws_FnExactFetchAll_d_r s s2 ws most budget rounds=some true:=by
 obtain⟨bs,u⟩:=s
 obtain⟨ys,u2⟩:=s2
 obtain⟨⟨⟨a1,a2⟩,_⟩,⟨⟨a3,a4⟩,_⟩,⟨a5,a6⟩,_⟩:=h
 unfold laws_FnExactFetchAll_d_r
 have a1:bs.length≤9223372036854775807:=a1
 have a3:ys.length≤9223372036854775807:=a3
 have a5:ws.length≤9223372036854775807:=a5
 rw[b4H (bs,u) 1048576 (by omega) (by omega) (by simp only; omega) (fun b hb=>by have:=(a2 b hb).2.1.1; unfold maxLen at this; omega)]
 simp only[B5u]
 by_cases hbig:(1048576:Int)-(I7 a0z bs:Int)<0
 ·rw [if_pos hbig]; rfl
 ·rw [if_neg hbig,B7 hbig]
  simp only[cond_false]
  rw[b4H (ys,u2) _ (by omega) (by omega) (by simp only; omega) (fun b hb=>by have:=(a4 b hb).2.1.1; unfold maxLen at this; omega)]
  simp only[B5u]
  by_cases hbig2:(1048576:Int)-(I7 a0z bs:Int)-(I7 a0z ys:Int)<0
  ·rw [if_pos hbig2]; rfl
  ·rw [if_neg hbig2,B7 hbig2,cond_false,d0O ws _ (by omega) (by omega) (by omega),B5u]
   by_cases hbig3:(1048576:Int)-(I7 a0z bs:Int)-(I7 a0z ys:Int)-(ws.length:Int)<0
   ·rw [if_pos hbig3]; rfl
   ·rw [if_neg hbig3,B7 hbig3]
    obtain⟨n1,n2⟩:=c1A (bs:=bs) (B:=1048576) (by omega)
    obtain⟨n3,n4⟩:=c1A (bs:=ys) (B:=1048576) (by omega)
    have hb:=c1B a2 n2
    have hy:=c1B a4 n4
    have hk:=d4c a6
    have hw:ws.length≤1048576:=by omega
    obtain⟨m1,m2,m3⟩:=c1e bs ys ws most budget rounds hb hy
    have hs32:=d6N ws
    have hl1:(a2Y bs ys ws most budget rounds).1.1.length≤1048576:=by omega
    simp only[cond_false,b4J (bs,u) n1 n2,b4J (ys,u2) n3 n4,d0S ws hw (fun k q=>(hk k q).1),B5u,b2m bs ys ws most budget rounds n1 hb n3 hy hk,b2g bs ys ws most budget rounds n1 hb n3 hy hk,a5W (bs,u) n1 n2,a5W (ys,u2) n3 n4,c1G ws (by omega),decide_true,Bool.not_true,a5W (a2Y bs ys ws most budget rounds).1 hl1 m2,c1H,
     a7j bs 1 (by omega) (by omega) (by omega),a7j ys (1+(I7 a0z bs:Int)) (by omega) (by omega) (by omega),c4B ws (1+(I7 a0z bs:Int)+(I7 a0z ys:Int)) (by omega) (fun k q=>(hk k q).1) (by omega) (by omega),a7j (a2Y bs ys ws most budget rounds).1.1 1 (by omega) (by omega) (by omega),c1h (a2Y bs ys ws most budget rounds).1.1 1 (by omega) (by omega) (by omega)]
    rw[B7 (p:=1+(I7 a0z bs:Int)+(I7 a0z ys:Int)+(I7 c1u ws:Int)<0) (by omega),B7 (p:=1+(I7 a0z (a2Y bs ys ws most budget rounds).1.1:Int)<0) (by omega)]
    rfl
end Go.Ai.H
