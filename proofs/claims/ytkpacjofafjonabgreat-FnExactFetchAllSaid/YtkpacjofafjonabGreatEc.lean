/- The machine, and that it is sound. No conditions. -/
import Derived.Test.YtkpacjofafjonabGreatEb
import Derived.Great.BuildSlice
import Derived.Laws.CopyRow
/- The remaining operations that hand back a value and leave memory as it was; all of them together. -/
namespace Go.Ai
open Go.RowKit
variable {P:Program} {cx:Cx} {w:World} {X:Nat→Prop} {θ:Nat→Option Own} {h:A0m} {base:Nat→Nat→Prop} {ρ:Operand→TV} {a:Act} {R:Type} {r:R} {K:TV→Option R}
theorem B1N(hC:A1F P cx)(hρ:∀x,A0g w X θ (ρ x) (a.eval x)){T:TypeId}{x:Operand}{f:Nat}(hp:A0p cx h ρ (.field T x f) K=some r):∃tv,K tv=some r∧A1h P w X θ a (.field T x f) tv:=by
 simp only[A0p]at hp
 split at hp
 ·rename_i s hT
  obtain⟨h1,h2⟩:=A0a hp
  split at h2
  ·rename_i u hu
   obtain⟨cs,g1,g2,g3⟩:=A5T h1 (hρ x)
   have hat:∃o2 q,s.at [.fld f]=some (o2,q):=by
    generalize ρ x=tv at*
    clear hp g1 g2 g3 hT h2
    induction tv generalizing s f with
    |pv s2 y=>
     have:s2=s:=by simpa[TV.fits]using h1
     subst this
     simp only[TV.getP]at hu
     cases hz:Ai.getP s2 y [.fld f]with
     |none=>simp[hz]at hu
     |some q=>obtain⟨o2,ho⟩:=B0A s2 y f q hz; exact⟨o2,_,ho⟩
    |pr p q ihp ihq=>
     cases s with
     |pair tp tq=>
      simp only[TV.fits,Bool.and_eq_true]at h1
      cases f with
      |zero=>exact⟨0,tp,by simp[Ty.at,Ty.at_nil]⟩
      |succ f=>
       simp only[TV.getP]at hu
       obtain⟨o2,q2,ho⟩:=ihq (f:=f) (s:=tq) h1.2 hu
       exact⟨tp.size+o2,q2,by simp[Ty.at,ho]⟩
     |_=>simp[TV.fits]at h1
    |_=>simp[TV.getP]at hu
   obtain⟨o2,q,ha⟩:=hat
   obtain⟨k1,c1,c,c2,k2,k3,k4,k5⟩:=A4z _ s [.fld f] cs o2 q u ha h1 hu g2
   obtain⟨fs,u1,fd,u2,u3,u4⟩:=A4w (hC.ty T s hT) ha
   have hagg:s.isAgg=true:=by
    cases s with
    |pair a b=>rfl
    |_=>simp[Ty.at]at ha
   rw[hagg]at g1
   have hv:a.eval x= .agg cs.toArray:=by simpa[A0i]using g1
   obtain⟨v,m1,m2⟩:=A1o (w:=w) u4 k2 k4
   rw[k3,←u3]at m1
   exact⟨u,h2,v,fun o ho=>by simp[execOp,ho,hv,Instr.field,run_underlying u1,u2,asAgg,m1],A3M (by rw[A4m k1]; exact m2) k5⟩
  ·cases h2
 ·cases hp
theorem B1O(hC:A1F P cx)(hρ:∀x,A0g w X θ (ρ x) (a.eval x)){T:TypeId}{x ix:Operand}(hp:A0p cx h ρ (.index T x ix) K=some r):∃tv,K tv=some r∧A1h P w X θ a (.index T x ix) tv:=by
 simp only[A0p]at hp
 have hx:=hρ x
 obtain⟨kk,i,hiv,hp⟩:=A9n (hρ ix) hp
 split at hp
 ·rename_i n e xs he
  rw[he]at hx
  obtain⟨h1,h2⟩:=A0a hp
  have hT:cx.ty T=some (.arr n e):=by simpa using h1
  obtain⟨h3,h4⟩:=A1W h2
  obtain⟨cs,g1,hl,hc⟩:=hx
  have hv:a.eval x= .agg cs.toArray:=by simpa[A0i,TV.isAgg,Ty.isAgg]using g1
  obtain⟨⟨E,hu,hE⟩,_⟩:=hC.ty T _ hT
  obtain⟨c1,c,c2,k1,k2,k3,_⟩:=A1C (fun c x hx=>Rep.length e c x hx) e.zero i.toNat hc (by rw[hl]; omega)
  have hsz:=A0u.size e E hE
  unfold Program.hasSize at hsz
  cases hq:P.info? E with
  |none=>simp[hq]at hsz
  |some inf=>
   have hs:inf.size=e.size:=by simpa[hq]using hsz
   obtain⟨v,m1,m2⟩:=A1o (w:=w) hE k1 (Rep.length e c _ k3)
   rw[k2]at m1
   exact⟨_,h4,v,fun o ho=>by simp[execOp,ho,hv,hiv,Instr.index,asIntOf,run_underlying hu,h3,sizeOf,typeInfo,hq,hs,m1],c,m2,k3⟩
 ·rename_i xs he
  rw[he]at hx
  obtain⟨h1,h2⟩:=A0a hp
  have hT:cx.ty T=some .str:=by simpa using h1
  obtain⟨h3,h4⟩:=A1W h2
  obtain⟨s,hv,rfl,hl⟩:=A4b hx
  rw[A2f]at h3
  have hu:=(hC.ty T _ hT).1
  have hlt:i.toNat<s.size:=by omega
  have hb:s[i.toNat]? =some s[i.toNat]:=by simp[hlt]
  have hg:(A0B s).getD i.toNat 0=(s[i.toNat].toNat:Int):=by
   unfold A0B
   simp only[List.getD,List.getElem?_map]
   have:s.data.toList[i.toNat]? =some s[i.toNat]:=by
    rw[Array.getElem?_toList]; exact Array.getElem?_eq_getElem (by exact hlt)
   rw[this]; rfl
  refine⟨_,h4,.int .u8 s[i.toNat].toNat,fun o ho=> ?_,?_⟩
  ·simp [execOp,ho,hv,hiv,Instr.index,asIntOf,run_underlying hu,h3.1,hb]
  ·rw [hg]
   refine A1E ?_
   have:=s[i.toNat].toNat_lt
   simp[IntKind.has,IntKind.min,IntKind.max,IntKind.signed,IntKind.bits]
   omega
 ·cases hp
theorem A8L:∀(c:TV) (vs:List Value) (i:Nat),RV w X θ true c vs→i<A5i c→∃v,vs[i]? =some v∧A0g w X θ (nth c i) v
 | .pr p q,vs,0,h,_=>by
  have h':∃v rr,vs=v::rr∧A0g w X θ p v∧RV w X θ true q rr:=by
   cases p<;>simp only[RV]at h<;>obtain⟨v,rr,h0,h1,h2⟩:=h
   all_goals first
    |exact⟨v,rr,h0,trivial,h2⟩
    |exact⟨v,rr,h0,h1,h2⟩
    |(obtain ⟨cs,k1,k2⟩:=h1; exact⟨v,rr,h0,A3M k1 k2,h2⟩)
  obtain⟨v,rr,h0,h1,_⟩:=h'
  exact⟨v,by simp[h0],h1⟩
 | .pr p q,vs,i+1,h,hl=>by
  have h':∃v rr,vs=v::rr∧RV w X θ true q rr:=by
   cases p<;>simp only[RV]at h<;>obtain⟨v,rr,h0,h1,h2⟩:=h<;>exact⟨v,rr,h0,h2⟩
  obtain⟨v,rr,h0,h2⟩:=h'
  obtain⟨u,k1,k2⟩:=A8L q rr i h2 (by simpa[A5i]using hl)
  exact⟨u,by simp[h0,k1],k2⟩
 | .pv _ _,_,i,_,hl=>by simp[A5i]at hl
 | .ptr ..,_,i,_,hl=>by simp[A5i]at hl
 | .sl ..,_,i,_,hl=>by simp[A5i]at hl
 | .inn ..,_,i,_,hl=>by simp[A5i]at hl
 | .vw ..,_,i,_,hl=>by simp[A5i]at hl
 | .clp ..,_,i,_,hl=>by simp[A5i]at hl
 | .nilsl,_,i,_,hl=>by simp[A5i]at hl
 | .fn ..,_,i,_,hl=>by simp[A5i]at hl
 | .tup _,_,i,_,hl=>by simp[A5i]at hl
 | .bad,_,i,_,hl=>by simp[A5i]at hl
 | .und,_,i,_,hl=>by simp[A5i]at hl
 | .dead,_,i,_,hl=>by simp[A5i]at hl
theorem B0c(hρ:∀x,A0g w X θ (ρ x) (a.eval x)){x:Operand}{i:Nat}(hp:A0p cx h ρ (.extract x i) K=some r):∃tv,K tv=some r∧A1h P w X θ a (.extract x i) tv:=by
 simp only[A0p]at hp
 have hx:=hρ x
 split at hp
 ·rename_i c he
  rw[he]at hx
  obtain⟨h1,h2⟩:=A0a hp
  obtain⟨vs,hv,hc⟩:=hx
  obtain⟨v,k1,k2⟩:=A8L c vs i hc (by have:=Nat.le_of_ble_eq_true h1; omega)
  exact⟨_,h2,v,fun o ho=>by simp[execOp,ho,hv,Instr.extract,k1],k2⟩
 ·cases hp
theorem A2j{t c:TV}{v:Value}{vs:List Value}(ht:A0g w X θ t v)(htup:∀c,t≠ .tup c)(hc:RV w X θ true c vs):RV w X θ true (.pr t c) (v::vs):=by
 cases t with
 |tup q=>exact absurd rfl (htup q)
 |dead=>simp only[RV]; exact⟨v,vs,rfl,trivial,hc⟩
 |und=>simp only[RV]; exact⟨v,vs,rfl,ht,hc⟩
 |_=>simp only[RV]; exact⟨v,vs,rfl,ht,hc⟩
theorem B0W(hρ:∀x,A0g w X θ (ρ x) (a.eval x)):∀ps:List Operand,(∀ x∈ps,∀c,ρ x≠ .tup c)→RV w X θ true (chain (ps.map ρ)) (ps.map a.eval)
 | [],_=>rfl
 |x::r,h=>A2j (hρ x) (h x (by simp)) (B0W hρ r fun y hy=>h y (by simp[hy]))
theorem A8y(hρ:∀x,A0g w X θ (ρ x) (a.eval x)){fn:Fn}{first cap:Array Operand}(hp:A0p cx h ρ (.makeFunc fn first cap) K=some r):∃tv,K tv=some r∧A1h P w X θ a (.makeFunc fn first cap) tv:=by
 cases fn with
 |func f=>
  simp only[A0p]at hp
  obtain⟨h1,h2⟩:=A0a hp
  simp only[Bool.and_eq_true,List.all_eq_true]at h1
  have hf:first= #[]:=by simpa using h1.1
  refine⟨_,h2,.func (.func f) #[] (cap.map a.eval),fun o ho=>by simp[execOp,ho,Instr.makeFunc,hf],_,rfl,_,?_,B0W hρ cap.toList fun x hx c hc=> ?_⟩
  ·exact congrArg (fun l=>[Value.func (.func f) #[] l]) (Array.ext' (by simp))
  ·have:=h1.2 x hx
   rw[hc]at this
   simp[TV.isTup]at this
 |_=>simp[A0p]at hp
theorem B4b(hC:A1F P cx)(hh:A1e w X θ base h)(hρ:∀x,A0g w X θ (ρ x) (a.eval x)){args:Array Operand}{ts:Array TypeId}(hp:A0p cx h ρ (.call {callee:= .builtin .len,args,argTypes:=ts}) K=some r):
  ∃tv,K tv=some r∧A1h P w X θ a (.call {callee:= .builtin .len,args,argTypes:=ts}) tv:=by
 simp only[A0p]at hp
 split at hp
 ·rename_i x T ha ht
  have ha':args= #[x]:=Array.ext' ha
  have ht':ts= #[T]:=Array.ext' ht
  subst ha'; subst ht'
  split at hp
  ·rename_i s hT
   have hx:=hρ x
   have hty:=hC.ty T s hT
   have key:∀(n:Nat),n≤maxLen→(∀ w:World,(Builtin.len_ #[T] 0 #[a.eval x]).run P w= .ok (goInt n) w∧∀U,(Builtin.len_ #[T] U #[a.eval x]).run P w= .ok (goInt n) w)→A1h P w X θ a (.call {callee:= .builtin .len,args:= #[x],argTypes:= #[T]}) (.pv (.int .i64) (n:Int)):=by
    intro n hn hrun
    refine⟨.int .i64 n,fun o ho=> ?_,A1E ?_⟩
    ·simp only[execOp,ho,resolve,Sem.run_bind,Sem.run_pure,Result.andThen_ok,invoke,builtin]
     have:=(hrun w).2 o.type
     simp only[List.map_toArray,List.map_cons,List.map_nil,this,Result.andThen_ok]
     rfl
    ·unfold maxLen at hn
     simp[IntKind.has,IntKind.min,IntKind.max,IntKind.signed,IntKind.bits]
     omega
   unfold A9W at hp
   split at hp
   ·rename_i e xs e2 he
    rw[he]at hx
    obtain⟨⟨E,hu,hE⟩,_⟩:=hty
    obtain⟨cs,g1,ad,len,cap,ds,g2,g3,g4,g5,g6,g7⟩:=hx
    subst g2
    have hv:a.eval x= .slice ad len cap:=by simpa[A0i,TV.isAgg,Ty.isAgg,eq_comm]using g1
    exact⟨_,hp,key xs.length (by omega) fun w=>by subst g3; constructor<;>(try intro U)<;>simp[Builtin.len_,run_underlying hu,hv]⟩
   ·rename_i xs he
    rw[he]at hx
    obtain⟨s,hv,rfl,hl⟩:=A4b hx
    have hu:=hty.1
    rw[A2f]at hp
    exact⟨_,hp,key s.size hl fun w=>by constructor<;>(try intro U)<;>simp[Builtin.len_,run_underlying hu,hv]⟩
   ·rename_i n e xs m e2 he
    obtain⟨h1,h2⟩:=A0a hp
    simp only[Bool.and_eq_true,decide_eq_true_eq]at h1
    obtain⟨rfl,h1b⟩:=h1
    obtain⟨⟨E,hu,hE⟩,_⟩:=hty
    exact⟨_,h2,key n (by have:=Nat.le_of_ble_eq_true h1b; unfold maxLen; omega) fun w=>by constructor<;>(try intro U)<;>simp[Builtin.len_,run_underlying hu]⟩
   ·rename_i e xs e2 he
    rw[he]at hx
    obtain⟨⟨E,hu,hE⟩,_⟩:=hty
    obtain⟨cs,g1,ad,len,ds,g2,g3,g5,g6,g7⟩:=hx
    subst g2
    have hv:a.eval x= .slice ad len len:=by simpa[A0i,TV.isAgg,eq_comm]using g1
    exact⟨_,hp,key xs.length (by omega) fun w=>by subst g3; constructor<;>(try intro U)<;>simp[Builtin.len_,run_underlying hu,hv]⟩
   ·rename_i e2 he
    rw[he]at hx
    obtain⟨⟨E,hu,hE⟩,_⟩:=hty
    obtain⟨cs,g1,g2⟩:=hx
    have g2':cs=_:=g2
    subst g2'
    have hv:a.eval x= .slice none 0 0:=by simpa[A0i,TV.isAgg,eq_comm]using g1
    exact⟨_,hp,key 0 (Nat.zero_le _) fun w=>by constructor<;>(try intro U)<;>simp[Builtin.len_,run_underlying hu,hv]⟩
   ·rename_i i rt p e lo hi e2 he
    rw[he]at hx
    obtain⟨⟨E,hu,hE⟩,_⟩:=hty
    obtain⟨o,q1,q2,ad,cap,hv,q3,q4,q5⟩:=A4v hx
    exact⟨_,hp,key (hi-lo) (by omega) fun w=>by constructor<;>(try intro U)<;>simp[Builtin.len_,run_underlying hu,hv]⟩
   ·rename_i i p e e2 he
    split at hp
    ·rename_i xs hg
     rw[he]at hx
     obtain⟨cs,h1,h2⟩:=hx
     obtain⟨ad,len,cap,ds,k1,k2,k3,k4,k5,k6⟩:=A7k (X':=fun _=>False) hh hg (fun _ _ h=>h) h2
     subst k1
     have hv:a.eval x= .slice ad len cap:=by simpa[A0i,TV.isAgg,eq_comm]using h1
     obtain⟨⟨E,hu,hE⟩,_⟩:=hty
     exact⟨_,hp,key xs.length (by omega) fun w=>by subst k2; constructor<;>(try intro U)<;>simp[Builtin.len_,run_underlying hu,hv]⟩
    ·cases hp
   ·rename_i i e e2 he
    split at hp
    ·rename_i E0 e3 xs hg
     obtain⟨ad,len,cap,ds,hv,g3,g4,g5,_⟩:=A1q (e:=e3) (xs:=xs) hh (tv:= .sl i e3) (by simp[A0Y,hg]) (v:=a.eval x) (by
      rw[he]at hx
      obtain⟨cs,g1,vv,g2,g3⟩:=hx
      exact⟨cs,g1,vv,g2,g3⟩)
     obtain⟨⟨E,hu,hE⟩,_⟩:=hty
     exact⟨_,hp,key xs.length (by omega) fun w=>by subst g3; constructor<;>(try intro U)<;>simp[Builtin.len_,run_underlying hu,hv]⟩
    ·cases hp
   ·cases hp
  ·cases hp
 ·cases hp
theorem B4e(hC:A1F P cx)(hρ:∀x,A0g w X θ (ρ x) (a.eval x)){T:TypeId}{x:Operand}(hp:A0p cx h ρ (.sliceToArrayPointer T x) K=some r):∃tv,K tv=some r∧A1h P w X θ a (.sliceToArrayPointer T x) tv:=by
 simp only[A0p]at hp
 have hx:=hρ x
 split at hp
 ·rename_i n e s xs hT he
  rw[he]at hx
  split at hp
  ·rename_i q; subst q
   obtain⟨h1,h2⟩:=A0a hp
   simp only[Bool.and_eq_true,decide_eq_true_eq]at h1
   have hn1:=Nat.le_of_ble_eq_true h1.1
   have hn2:n≤xs.length:=h1.2
   obtain⟨cs,g1,ad,len,cap,ds,g2,g3,g4,g5,g6,g7⟩:=hx
   subst g2
   have hv:a.eval x= .slice ad len cap:=by simpa[A0i,TV.isAgg,Ty.isAgg,eq_comm]using g1
   obtain⟨⟨E,hu,hE⟩,_⟩:=hC.ty T _ hT
   have hdl:=A0s (fun c x hx=>Rep.length s c x hx) g6
   have hmul:n*s.size≤xs.length*s.size:=Nat.mul_le_mul_right _ hn2
   have htk:A0l (Rep w X s) (ds.take (n*s.size)) (xs.take n):=by
    have:=A1Q (fun c x hx=>Rep.length s c x hx) 0 n g6 (Nat.zero_le _) hn2
    simpa[A3F]using this
   rcases g7 with g7|⟨b,o,q1,q2,q3⟩
   ·rw [g7]at hdl; simp only[List.length_nil]at hdl; omega
   ·subst q1
    refine⟨_,h2,.pointer (some ⟨b,o,none⟩),fun op ho=> ?_,A9X (ds:=ds.take (n*s.size)) ⟨by simp; omega,htk⟩ (by simpa using A3b q2 0 (n*s.size)) (fun _=>q3)⟩
    have hlt:¬len<n:=by omega
    simp[execOp,ho,hv,Instr.arrayAt,run_underlying hu,hlt]
  ·cases hp
 ·cases hp
theorem B3G{k:IntKind}{m n:Int}:(k.has m→k.has n→k.has (min m n))∧(k.has m→k.has n→k.has (max m n)):=by
 unfold IntKind.has
 constructor<;>intro h1 h2<;>omega
theorem B4d(hρ:∀x,A0g w X θ (ρ x) (a.eval x)){args:Array Operand}{ts:Array TypeId}(hp:A0p cx h ρ (.call {callee:= .builtin .min,args,argTypes:=ts}) K=some r):
  ∃tv,K tv=some r∧A1h P w X θ a (.call {callee:= .builtin .min,args,argTypes:=ts}) tv:=by
 simp only[A0p]at hp
 split at hp
 ·rename_i x y ha
  have ha':args= #[x,y]:=Array.ext' ha
  subst ha'
  have hx:=hρ x
  have hy:=hρ y
  split at hp
  ·rename_i k m k' n h1 h2
   rw[h1]at hx; rw[h2]at hy
   obtain⟨h3,h4⟩:=A0a hp
   have hk:k=k':=by simpa using h3
   subst hk
   obtain⟨hv,hm⟩:=A1t hx
   obtain⟨hu,hn⟩:=A1t hy
   have he:(if n<m then n else m)=min m n:=(show ∀a b:Int,(if b<a then b else a)=min a b by intro a b; omega) m n
   refine⟨_,h4,.int k (min m n),fun o ho=> ?_,A1E ?_⟩
   ·simp only[execOp,ho,resolve,Sem.run_bind,Sem.run_pure,Result.andThen_ok,invoke,builtin]
    simp only[List.map_toArray,List.map_cons,List.map_nil,hv,hu,run_min_int2,Result.andThen_ok,he]
   ·exact B3G.1 hm hn
  ·cases hp
 ·cases hp
theorem B4c(hρ:∀x,A0g w X θ (ρ x) (a.eval x)){args:Array Operand}{ts:Array TypeId}(hp:A0p cx h ρ (.call {callee:= .builtin .max,args,argTypes:=ts}) K=some r):
  ∃tv,K tv=some r∧A1h P w X θ a (.call {callee:= .builtin .max,args,argTypes:=ts}) tv:=by
 simp only[A0p]at hp
 split at hp
 ·rename_i x y ha
  have ha':args= #[x,y]:=Array.ext' ha
  subst ha'
  have hx:=hρ x
  have hy:=hρ y
  split at hp
  ·rename_i k m k' n h1 h2
   rw[h1]at hx; rw[h2]at hy
   obtain⟨h3,h4⟩:=A0a hp
   have hk:k=k':=by simpa using h3
   subst hk
   obtain⟨hv,hm⟩:=A1t hx
   obtain⟨hu,hn⟩:=A1t hy
   have he:(if n>m then n else m)=max m n:=(show ∀a b:Int,(if b>a then b else a)=max a b by intro a b; omega) m n
   refine⟨_,h4,.int k (max m n),fun o ho=> ?_,A1E ?_⟩
   ·simp only[execOp,ho,resolve,Sem.run_bind,Sem.run_pure,Result.andThen_ok,invoke,builtin]
    simp only[List.map_toArray,List.map_cons,List.map_nil,hv,hu,run_max_int2,Result.andThen_ok,he]
   ·exact B3G.2 hm hn
  ·cases hp
 ·cases hp
end Go.Ai
namespace Go.Ai
open Go.RowKit
variable {P:Program} {cx:Cx} {w:World} {X:Nat→Prop} {θ:Nat→Option Own} {h:A0m} {base:Nat→Nat→Prop} {ρ:Operand→TV} {a:Act} {R:Type} {r:R} {K:TV→Option R}
theorem B1Q(hC:A1F P cx)(hZ:A2z P cx)(hh:A1e w X θ base h)(hρ:∀x,A0g w X θ (ρ x) (a.eval x))(op:Op)(hi:A0Q op=true)(hp:A0p cx h ρ op K=some r):∃tv,K tv=some r∧A1h P w X θ a op tv:=by
 cases op with
 |move x=>exact B3h hρ hp
 |assign x=>exact B0T hρ hp
 |pick c x y=>exact B3i hρ hp
 |load T x=>exact B3g hC hh hρ hp
 |nilCheck x=>exact A8z hρ hp
 |binOp op T x y U=>exact B1L hC hρ hp
 |unOp op T x=>exact B3j hρ hp
 |convert S D x=>exact B0b hC hh hρ hp
 |slice T x lo hi mx=>exact B1P hC hh hρ hp
 |sliceToArrayPointer T x=>exact B4e hC hρ hp
 |fieldAddr T x f=>exact A7W hC hρ hp
 |field T x f=>exact B1N hC hρ hp
 |indexAddr T x ix=>exact A7X hC hh hρ hp
 |index T x ix=>exact B1O hC hρ hp
 |extract x i=>exact B0c hρ hp
 |makeFunc fn first cap=>exact A8y hρ hp
 |build T parts=>exact B1M hC hZ hρ hp
 |call c=>
  obtain⟨cal,args,ts⟩:=c
  cases cal with
  |builtin b=>cases b<;>first|exact B4b hC hh hρ hp|exact B4d hρ hp|exact B4c hρ hp|simp[A0Q]at hi
  |_=>simp[A0Q]at hi
 |_=>simp[A0Q]at hi
end Go.Ai
/- Operations that make or write memory. -/
namespace Go.Ai
open Go.RowKit
variable {P:Program} {cx:Cx} {w0:A0F} {Xo:Nat→Prop} {σ:St} {θ:Nat→Option Own} {as:List (Array Value)} {a:Act} {w:World} {R:Type} {r:R} {K:TV→St→Option R}
def A1p(P:Program)(w0:A0F)(Xo:Nat→Prop)(as:List (Array Value))(a:Act)(w:World)(op:Op)(tv:TV)(σ':St):Prop:=
 ∃θ' v w',Rel w0 Xo σ' θ' as a w'∧A0g w' (A0d Xo θ' σ'.heap) θ' tv v∧
  ((∀ o:Oper,o.op=op→(execOp a.eval o).run P w= .ok (.value v) w')∨(v=undef∧∀o:Oper,o.op=op→(execOp a.eval o).run P w= .ok .skip w'))
theorem A9G(h:Rel w0 Xo σ θ as a w)(id:Nat)(hid:id≠PIN)(s:Ty)(c:TV){θk:Nat→Option Own}(hθ:∀j,j≠id→θk j=θ j)(hids:∀i,i∈c.ids→i≠id){C:Array Value}{E:TypeId}(hf:c.fits s=true)
  (hc:RV w (A0d Xo θ σ.heap) θk false c C.toList):
  Rel w0 Xo (σ.add id (.var s c)) (A0x θ id (.var w.heap.size)) as a (w.alloc (.cells C E))∧
   A0g (w.alloc (.cells C E)) (A0d Xo (A0x θ id (.var w.heap.size)) (σ.add id (.var s c)).heap) (A0x θ id (.var w.heap.size)) (.ptr id s []) (.pointer (some ⟨w.heap.size,0,none⟩)):=by
 have hrel:=h.add id hid (.var s c) (.var w.heap.size) (w':=w.alloc (.cells C E)) none ((A0h.alloc _ w _)) (fun b hb=>by cases hb)
  (fun b hb=>by simp only[Own.has]at hb; subst hb; exact .inl (Nat.le_refl _)) ?_
 ·refine ⟨hrel,_,rfl,.var w.heap.size,w.heap.size,0,s,A0n _ _ _,rfl,?_,trivial,rfl⟩
  cases s<;>simp[Ty.rat,Ty.at_nil]
 ·refine ⟨w.heap.size,C,E,A0n _ _ _,h.new hid (Nat.le_refl _),heap_alloc_new w _,?_,hf⟩
  have hst:A1G (A0d Xo θ σ.heap) (A0d Xo (A0x θ id (.var w.heap.size)) (σ.add id (.var s c)).heap) w (w.alloc (.cells C E)):=by
   refine⟨⟨fun _=>False,A0h.alloc _ w _,fun _ _ h=>h.elim⟩,fun b hb hx=> ?_⟩
   rcases hx with hx|⟨j,h1,h2⟩
   ·exact .inl hx
   ·rw [A1r]at h1
    by_cases e:j=id
    ·subst e
     simp only[A0e,A0n,Option.bind_some,Own.has,Option.some.injEq]at h2
     omega
    ·simp only[e,if_false]at h1
     obtain⟨_,h3⟩:=(A0O σ.heap id j).1 h1
     exact .inr ⟨j,h3,by simpa[A0e,A0P _ _ _ j e]using h2⟩
  exact RV.step hst false c _ (fun i hi=>by rw[A0P _ _ _ i (hids i hi)]; exact(hθ i (hids i hi)).symm) hc
theorem A7H:(s:Ty)→(A3E s).ids=[]
 | .pair a b=>by
  simp only[A3E]
  split
  ·rfl
  ·simp [TV.ids,A7H a,A7H b]
 | .slice _=>rfl
 | .int _=>rfl
 | .bool=>rfl
 | .str=>rfl
 | .arr _ _=>rfl
 | .unit=>rfl
 | .ref _=>rfl
 | .opt _=>rfl
 | .fnc _=>rfl
theorem B3k{P:Program}{T:TypeId}{i:TypeInfo}{z:Value}(h:P.info? T=some i)(hz:i.zero=some z)(w:World):(zeroValue T).run P w= .ok z w:=by
 simp[zeroValue,typeInfo,h,hz]
theorem B2O(hC:A1F P cx)(hZ:A2z P cx)(hE:A2y P cx)(h:Rel w0 Xo σ θ as a w){lev:Nat}{draw:Bool}{d:Option Tmp}{T:TypeId}(hp:A1u cx lev draw σ d (.alloc T) K=some r):
  ∃tv σ',K tv σ'=some r∧A1p P w0 Xo as a w (.alloc T) tv σ':=by
 simp only[A1u]at hp
 split at hp
 ·rename_i s hT
  cases h1:cx.zok T with
  |true=>
   rw[h1,cond_true]at hp
   obtain⟨inf,z,z1,z2,z3,z4⟩:=hZ.zero T s hT h1
   obtain⟨r1,r2⟩:=A4B (w:=w) (X:=A0d Xo θ σ.heap) (θ:=θ) s (A0u.noRef s T (hC.ty T s hT))
   obtain⟨k1,k2⟩:=A9G h (A0R lev d) (A1c lev d) s (A3E s) (θk:=θ) (fun _ _=>rfl) (by rw[A7H]; simp) (C:=z.cells) (E:=T) r2 (by rw[z3]; exact r1)
   refine⟨_,_,hp,_,_,_,k1,k2,.inl fun o ho=> ?_⟩
   simp[execOp,ho,Instr.alloc,z4,newVar,newRow]
  |false=>
   rw[h1,cond_false]at hp
   split at hp
   ·rename_i q hq
    obtain⟨h2,hp⟩:=A0a hp
    obtain⟨_,_,i,hi,hz⟩:=hE.mp T q hq
    have z4:=B3k hi hz w
    obtain⟨k1,k2⟩:=A9G h (A0R lev d) (A1c lev d) s .bad (θk:=θ) (fun _ _=>rfl) (by simp[TV.ids]) (C:= #[.map none]) (E:=T) h2 ⟨.map none,rfl,rfl⟩
    refine⟨_,_,hp,_,_,_,k1,k2,.inl fun o ho=> ?_⟩
    simp[execOp,ho,Instr.alloc,z4,newVar,newRow,Value.cells]
   ·cases hp
 ·cases hp
theorem A4M(i:Nat):(tv:TV)→∀j∈(tv.kill i).ids,j≠i
 | .pr a b,j,hj=>by
  simp only[TV.kill,TV.ids,List.mem_append]at hj
  rcases hj with hj|hj
  ·exact A4M i a j hj
  ·exact A4M i b j hj
 | .ptr k t p,j,hj=>by
  simp only[TV.kill]at hj
  by_cases e:k=i
  ·simp [A0j.2 e,TV.ids]at hj
  ·simp [A0c e,TV.ids]at hj; omega
 | .sl k t,j,hj=>by
  simp only[TV.kill]at hj
  by_cases e:k=i
  ·simp [A0j.2 e,TV.ids]at hj
  ·simp [A0c e,TV.ids]at hj; omega
 | .inn k p e,j,hj=>by
  simp only[TV.kill]at hj
  by_cases e:k=i
  ·simp [A0j.2 e,TV.ids]at hj
  ·simp [A0c e,TV.ids]at hj; omega
 | .vw k t p e lo hi,j,hj=>by
  simp only[TV.kill]at hj
  by_cases e:k=i
  ·simp [A0j.2 e,TV.ids]at hj
  ·simp [A0c e,TV.ids]at hj; omega
 | .fn f c,j,hj=>A4M i c j hj
 | .tup c,j,hj=>A4M i c j hj
 | .pv _ _,j,hj=>by simp[TV.kill,TV.ids]at hj
 | .clp _ _,j,hj=>by simp[TV.kill,TV.ids]at hj
 | .nilsl,j,hj=>by simp[TV.kill,TV.ids]at hj
 | .bad,j,hj=>by simp[TV.kill,TV.ids]at hj
 | .und,j,hj=>by simp[TV.kill,TV.ids]at hj
 | .dead,j,hj=>by simp[TV.kill,TV.ids]at hj
theorem B1D(v:Value)(i:Nat):(A4R v).kill i=A4R v:=by
 cases v with
 |int k n=>simp only[A4R]; cases decide (k.min≤n)&&decide (n≤k.max)<;>rfl
 |string s=>simp only[A4R]; cases Nat.ble s.size 1000000<;>rfl
 |slice o l c=>cases o<;>cases l<;>cases c<;>rfl
 |_=>rfl
theorem A8S(σ:St)(i:Nat)(x:Operand):(σ.kill i).eval x=(σ.eval x).kill i:=by
 cases x with
 |tmp t=>simp only[St.eval,St.kill,List.getD,List.getElem?_map]; cases σ.env[t]? <;>rfl
 |const v=>exact(B1D v i).symm
 |global g=>rfl
 |func f=>rfl
theorem A9r{X:Nat→Prop}(tv:TV)(t:Ty)(v:Value)(hv:A0g w X θ tv v):A0g w X θ (A5p tv t) v:=by
 unfold A5p
 split
 ·exact hv
 ·exact hv
theorem B4z(hC:A1F P cx)(h:Rel w0 Xo σ θ as a w){lev:Nat}{draw:Bool}{d:Option Tmp}{T:TypeId}{x:Operand}(hp:A1u cx lev draw σ d (.box T x) K=some r):
  ∃tv σ',K tv σ'=some r∧A1p P w0 Xo as a w (.box T x) tv σ':=by
 simp only[A1u]at hp
 split at hp
 ·rename_i s hT
  obtain⟨h1,h2⟩:=A0a hp
  have hx:=h.eval x
  have hk:=A0g.kill (i:=A0R lev d) (θ':=θ) (fun _ _=>rfl) _ _ hx
  rw[← A8S]at hk
  have hk:=A9r ((σ.kill (A0R lev d)).eval x) s _ hk
  obtain⟨cs,g1,g2,g3⟩:=A5T h1 hk
  have hcs:=A1x g1 (RV.one _ cs g2)
  obtain⟨k1,k2⟩:=A9G h (A0R lev d) (A1c lev d) s (A5p ((σ.kill (A0R lev d)).eval x) s) (θk:=θ) (fun _ _=>rfl) (by rw[B3c,A8S]; exact A4M _ _) (C:=(a.eval x).cells) (E:=T) h1 (by rw[hcs]; exact g2)
  refine⟨_,_,h2,_,_,_,k1,k2,.inl fun o ho=> ?_⟩
  simp[execOp,ho,Instr.box,newVar,newRow]
 ·cases hp
end Go.Ai
namespace Go.Ai
open Go.RowKit
variable {P:Program} {cx:Cx} {w0:A0F} {Xo:Nat→Prop} {σ:St} {θ:Nat→Option Own} {as:List (Array Value)} {a:Act} {w:World} {R:Type} {r:R} {K:TV→St→Option R}
theorem A0U(b:Nat)(E:TypeId):∀(vs:List Value) (o:Nat) (w:World) (C:Array Value),w.heap[b]? =some (.cells C E (0,0))→o+vs.length≤C.size→
  ∃C',(w.setCells b o vs).heap[b]? =some (.cells C' E (0,0))∧C'.toList=C.toList.take o++(vs++C.toList.drop (o+vs.length))
 | [],o,w,C,h,_=>⟨C,h,by simp⟩
 |v::vs,o,w,C,h,hl=>by
  simp only[List.length_cons]at hl
  have h1:=heap_setCell_same w b o C E v h
  obtain⟨C',g1,g2⟩:=A0U b E vs (o+1) (w.setCell ⟨b,o,none⟩ v) _ h1 (by simp; omega)
  refine⟨C',g1,?_⟩
  rw[g2,Array.toList_setIfInBounds]
  have hlt:o<C.toList.length:=by simp; omega
  rw[List.drop_set_of_lt (by omega)]
  rw[show List.take (o+1) (C.toList.set o v)=C.toList.take o++[v] by
   rw[List.take_set,List.take_succ_eq_append_getElem hlt,List.set_append_right _ _ (by simp; omega)]
   have:o-min o C.size=0:=by simp at hlt; omega
   simp[this]]
  simp[Nat.add_assoc,Nat.add_comm 1]
theorem A0M(b:Nat){g:Nat}(h:g≠b)(vs:List Value)(o:Nat)(w:World):(w.setCells b o vs).heap[g]? =w.heap[g]? :=by
 have hk:=A0h.setCells (X:=fun x=>x=b) b rfl vs o w
 rcases Nat.lt_or_ge g w.heap.size with hg|hg
 ·exact hk.block g hg h
 ·have hs:(w.setCells b o vs).heap.size=w.heap.size:=by
   clear hk
   induction vs generalizing o w with
   |nil=>rfl
   |cons v vs ih=>rw[World.setCells,ih (o+1) _ (by simpa[World.setCell]using hg)]; simp[World.setCell]
  rw[Array.getElem?_eq_none (by omega),Array.getElem?_eq_none (by omega)]
end Go.Ai
/- A slice of the call's own becomes plain. -/
namespace Go.Ai
open Go.RowKit
variable {P:Program} {cx:Cx} {w0:A0F} {Xo:Nat→Prop} {σ:St} {θ:Nat→Option Own} {as:List (Array Value)} {a:Act} {w:World} {X X':Nat→Prop} {R:Type} {r:R} {h:A0m} {base:Nat→Nat→Prop}
def Own.top(o:Own)(v:Value):Prop:=match o with
 | .var _=>False
 | .arr u=>u=v
 | .tre sk _=>sk []=some v
def A6e(θ:Nat→Option Own)(i:Nat)(v:Value):Prop:=match θ i with
 |some o=>o.top v
 |none=>False
theorem B3p{i:Nat}{v u:Value}(h:A6e θ i v)(h2:θ i=some (.arr u)):u=v:=by simpa[A6e,h2,Own.top]using h
theorem B3q{i:Nat}{v u:Value}{sk:List Sel→Option Value}{L:List Nat}(h:A6e θ i v)(h2:θ i=some (.tre sk L))(h3:sk []=some u):u=v:=by
 simp[A6e,h2,Own.top]at h
 rw[h3]at h; injection h
theorem RV.fix{e:Ty}{xs:List e.den}{i:Nat}{v:Value}(hθi:A6e θ i v)(hrep:Rep w X' (.slice e) [v] xs)(hX:∀b,X' b→X b):(m:Bool)→(tv:TV)→(cs:List Value)→RV w X θ m tv cs→RV w X' θ m (tv.fix i e xs) cs
 |false,.pv t x,cs,hr=>Rep.avoid (fun b _ hb=>hX b hb) t cs x hr
 |false,.pr a b,cs,⟨c1,c2,h0,h1,h2⟩=>⟨c1,c2,h0,RV.fix hθi hrep hX false a c1 h1,RV.fix hθi hrep hX false b c2 h2⟩
 |false,.ptr j t p,cs,hr=>by
  by_cases q:j=i
  ·obtain ⟨o,b,off,s,h1,h2,h3,h4,h5⟩:=hr
   simp only[TV.fix,A0j.2 q,cond]
   exact⟨_,h5,rfl⟩
  ·simp only[TV.fix,A0c q,cond]; exact hr
 |false,.sl j s,cs,hr=>by
  obtain⟨u,h1,h2,h3⟩:=hr
  by_cases q:j=i
  ·subst q
   have h1:=B3p hθi h1; subst h1
   subst h2
   simp only[TV.fix,Nat.beq_refl,cond]
   by_cases q2:s=e
   ·subst q2; simp only[decide_true]; exact hrep
   ·simp only[q2,decide_false]; exact⟨_,rfl,h3⟩
  ·simp only[TV.fix,A0c q,cond]; exact⟨u,h1,h2,h3⟩
 |false,.inn j p s,cs,hr=>by
  obtain⟨sk,L,u,h1,h2,h3,h4⟩:=hr
  by_cases q:j=i
  ·subst q
   simp only[TV.fix,Nat.beq_refl,cond]
   cases hc:p.isEmpty&&decide (s=e)with
   |false=>exact⟨u,h3,h4⟩
   |true=>
    simp only[Bool.and_eq_true,List.isEmpty_iff,decide_eq_true_eq]at hc
    obtain⟨rfl,rfl⟩:=hc
    have:=B3q hθi h1 h2
    subst this; subst h3
    exact hrep
  ·simp only[TV.fix,A0c q,cond]; exact⟨sk,L,u,h1,h2,h3,h4⟩
 |false,.vw j rt p s lo hi,cs,hr=>by
  by_cases q:j=i
  ·obtain ⟨o,v,h1,h2,h3⟩:=hr
   simp only[TV.fix,A0j.2 q,cond]
   exact⟨v,h3,Own.vw_one h2⟩
  ·simp only[TV.fix,A0c q,cond]; exact hr
 |false,.clp s ys,cs,⟨ad,len,ds,h1,h2,h3,h4,h5⟩=>by
  refine⟨ad,len,ds,h1,h2,h3,A0o (fun c x hx=>Rep.avoid (fun b _ hb=>hX b hb) s c x hx) h4,?_⟩
  rcases h5 with h5|⟨b,o,q1,q2,q3⟩
  ·exact .inl h5
  ·exact .inr ⟨b,o,q1,q2,fun hb=>q3 (hX b hb)⟩
 |false,.nilsl,_,hr=>hr
 |false,.fn f c,cs,⟨vs,h1,h2⟩=>⟨vs,h1,RV.fix hθi hrep hX true c vs h2⟩
 |false,.bad,_,hr=>hr
 |false,.tup _,_,hr=>by simp[RV]at hr
 |false,.und,_,hr=>by simp[RV]at hr
 |false,.dead,_,hr=>by simp[RV]at hr
 |true,.pr a b,vs,hr=>by
  have go:∀cs,RV w X θ false a cs→RV w X' θ false (a.fix i e xs) cs:=fun cs=>RV.fix hθi hrep hX false a cs
  have gb:∀r,RV w X θ true b r→RV w X' θ true (b.fix i e xs) r:=fun r=>RV.fix hθi hrep hX true b r
  have ga:=TV.isAgg_fix i e xs a
  cases a with
  |dead=>simp only[RV,TV.fix]at hr ⊢; obtain⟨v,r,h0,h1,h2⟩:=hr; exact⟨v,r,h0,trivial,gb r h2⟩
  |und=>simp only[RV,TV.fix]at hr ⊢; obtain⟨v,r,h0,h1,h2⟩:=hr; exact⟨v,r,h0,h1,gb r h2⟩
  |ptr j t p=>
   have hr':∃v r,vs=v::r∧(∃ cs,A0i false v cs∧RV w X θ false (.ptr j t p) cs)∧RV w X θ true b r:=hr
   obtain⟨v,r,h0,⟨cs,k1,k2⟩,h2⟩:=hr'
   have k3:=go cs k2
   by_cases e:j=i
   ·simp only[TV.fix,A0j.2 e,cond]at k3 ⊢; simp only[RV]; exact⟨v,r,h0,⟨cs,k1,k3⟩,gb r h2⟩
   ·simp only[TV.fix,A0c e,cond]at k3 ⊢; simp only[RV]; exact⟨v,r,h0,⟨cs,k1,k3⟩,gb r h2⟩
  |vw j rt p s lo hi=>
   have hr':∃v r,vs=v::r∧(∃ cs,A0i false v cs∧RV w X θ false (.vw j rt p s lo hi) cs)∧RV w X θ true b r:=hr
   obtain⟨v,r,h0,⟨cs,k1,k2⟩,h2⟩:=hr'
   have k3:=go cs k2
   by_cases e:j=i
   ·simp only[TV.fix,A0j.2 e,cond]at k3 ⊢; simp only[RV]; exact⟨v,r,h0,⟨cs,k1,k3⟩,gb r h2⟩
   ·simp only[TV.fix,A0c e,cond]at k3 ⊢; simp only[RV]; exact⟨v,r,h0,⟨cs,k1,k3⟩,gb r h2⟩
  |inn j p s=>
   have hr':∃v r,vs=v::r∧(∃ cs,A0i false v cs∧RV w X θ false (.inn j p s) cs)∧RV w X θ true b r:=hr
   obtain⟨v,r,h0,⟨cs,k1,k2⟩,h2⟩:=hr'
   have k3:=go cs k2
   by_cases q:j=i
   ·simp only[TV.fix,A0j.2 q,cond]at k3⊢
    cases hc:p.isEmpty&&decide (s=e)with
    |true=>rw[hc]at k3; simp only[RV]; exact⟨v,r,h0,⟨cs,k1,k3⟩,gb r h2⟩
    |false=>rw[hc]at k3; simp only[RV]; exact⟨v,r,h0,⟨cs,k1,k3⟩,gb r h2⟩
   ·simp only[TV.fix,A0c q,cond]at k3 ⊢; simp only[RV]; exact⟨v,r,h0,⟨cs,k1,k3⟩,gb r h2⟩
  |sl j s=>
   have hr':∃v r,vs=v::r∧(∃ cs,A0i false v cs∧RV w X θ false (.sl j s) cs)∧RV w X θ true b r:=hr
   obtain⟨v,r,h0,⟨cs,k1,k2⟩,h2⟩:=hr'
   have k3:=go cs k2
   by_cases q:j=i
   ·simp only[TV.fix,A0j.2 q,cond]at k3⊢
    by_cases q2:s=e
    ·subst q2; simp only[decide_true]at k3 ⊢; simp only[RV]; exact⟨v,r,h0,⟨cs,k1,k3⟩,gb r h2⟩
    ·simp only[q2,decide_false]at k3 ⊢; simp only[RV]; exact⟨v,r,h0,⟨cs,k1,k3⟩,gb r h2⟩
   ·simp only[TV.fix,A0c q,cond]at k3 ⊢; simp only[RV]; exact⟨v,r,h0,⟨cs,k1,k3⟩,gb r h2⟩
  |_=>simp only[RV,TV.fix]at hr ⊢; obtain⟨v,r,h0,⟨cs,k1,k2⟩,h2⟩:=hr; exact⟨v,r,h0,⟨cs,k1,go cs k2⟩,gb r h2⟩
 |true,.pv .unit _,vs,hr=>hr
 |true,.pv (.int _) _,_,h|true,.pv .bool _,_,h|true,.pv .str _,_,h|true,.pv (.slice _) _,_,h|true,.pv (.arr _ _) _,_,h|true,.pv (.pair _ _) _,_,h|true,.pv (.ref _) _,_,h|true,.pv (.opt _) _,_,h|true,.pv (.fnc _) _,_,h=>by simp[RV]at h
 |true,.ptr ..,_,h|true,.sl ..,_,h|true,.inn ..,_,h|true,.vw ..,_,h|true,.clp ..,_,h|true,.nilsl,_,h|true,.fn ..,_,h|true,.tup _,_,h|true,.bad,_,h|true,.und,_,h|true,.dead,_,h=>by simp[RV]at h
theorem A0g.fix{e:Ty}{xs:List e.den}{i:Nat}{v:Value}(hθi:A6e θ i v)(hrep:Rep w X' (.slice e) [v] xs)(hX:∀b,X' b→X b)(tv:TV)(u:Value)(hr:A0g w X θ tv u):A0g w X' θ (tv.fix i e xs) u:=by
 have go:∀cs,RV w X θ false tv cs→RV w X' θ false (tv.fix i e xs) cs:=fun cs=>RV.fix hθi hrep hX false tv cs
 cases tv with
 |dead=>trivial
 |und=>exact hr
 |tup c=>obtain⟨vs,k1,k2⟩:=hr; exact⟨vs,k1,RV.fix hθi hrep hX true c vs k2⟩
 |ptr j t p=>
  obtain⟨cs,k1,k2⟩:=hr
  have k3:=go cs k2
  by_cases q:j=i
  ·simp only[TV.fix,A0j.2 q,cond]at k3 ⊢; exact⟨cs,k1,k3⟩
  ·simp only[TV.fix,A0c q,cond]at k3 ⊢; exact⟨cs,k1,k3⟩
 |sl j s=>
  obtain⟨cs,k1,k2⟩:=hr
  have k3:=go cs k2
  by_cases q:j=i
  ·simp only[TV.fix,A0j.2 q,cond]at k3⊢
   by_cases q2:s=e
   ·subst q2; simp only[decide_true]at k3 ⊢; exact⟨cs,k1,k3⟩
   ·simp only[q2,decide_false]at k3 ⊢; exact⟨cs,k1,k3⟩
  ·simp only[TV.fix,A0c q,cond]at k3 ⊢; exact⟨cs,k1,k3⟩
 |inn j p s=>
  obtain⟨cs,k1,k2⟩:=hr
  have k3:=go cs k2
  by_cases q:j=i
  ·simp only[TV.fix,A0j.2 q,cond]at k3⊢
   cases hc:p.isEmpty&&decide (s=e)with
   |true=>rw[hc]at k3; exact⟨cs,k1,k3⟩
   |false=>rw[hc]at k3; exact⟨cs,k1,k3⟩
  ·simp only[TV.fix,A0c q,cond]at k3 ⊢; exact⟨cs,k1,k3⟩
 |vw j rt p s lo hi=>
  obtain⟨cs,k1,k2⟩:=hr
  have k3:=go cs k2
  by_cases q:j=i
  ·simp only[TV.fix,A0j.2 q,cond]at k3 ⊢; exact⟨cs,k1,k3⟩
  ·simp only[TV.fix,A0c q,cond]at k3 ⊢; exact⟨cs,k1,k3⟩
 |pr x y=>obtain⟨cs,k1,k2⟩:=hr; exact⟨cs,k1,go cs k2⟩
 |_=>obtain⟨cs,k1,k2⟩:=hr; exact⟨cs,k1,go cs k2⟩
theorem A7C(i:Nat)(e:Ty)(xs:List e.den):(tv:TV)→(t:Ty)→tv.fits t=true→(tv.fix i e xs).fits t=true
 | .pv _ _,_,h=>h
 | .pr a b,.pair s t,h=>by
  simp only[TV.fits,Bool.and_eq_true]at h
  simp[TV.fix,TV.fits,A7C i e xs a s h.1,A7C i e xs b t h.2]
 | .ptr j t p,.opt s,_=>by simp only[TV.fix]; cases Nat.beq j i<;>rfl
 | .sl j s,.slice s',h=>by
  simp only[TV.fix]
  cases Nat.beq j i
  ·exact h
  ·by_cases q:s=e
   ·subst q
    have:s=s':=by simpa[TV.fits]using h
    subst this
    simp[cond,TV.fits]
   ·simp only[q,decide_false]; rfl
 | .inn j p s,.slice s',h=>by
  simp only[TV.fix]
  cases Nat.beq j i
  ·exact h
  ·simp only[cond]
   cases hc:p.isEmpty&&decide (s=e)with
   |false=>rfl
   |true=>
    simp only[Bool.and_eq_true,List.isEmpty_iff,decide_eq_true_eq]at hc
    obtain⟨rfl,rfl⟩:=hc
    have:s=s':=by simpa[TV.fits]using h
    subst this
    simp[TV.fits]
 | .vw j rt p s lo hi,.slice s',h=>by simp only[TV.fix]; cases Nat.beq j i; exact h; rfl
 | .fn ..,.opt _,_=>rfl
 | .clp ..,_,h=>h
 | .nilsl,_,h=>h
 | .bad,_,h=>h
 | .und,_,h=>h
 | .dead,_,h=>h
 | .tup _,t,h=>by cases t<;>simp[TV.fits]at h
 | .pr _ _,.int _,h| .pr _ _,.bool,h| .pr _ _,.str,h| .pr _ _,.slice _,h| .pr _ _,.arr _ _,h| .pr _ _,.unit,h| .pr _ _,.ref _,h| .pr _ _,.opt _,h| .pr _ _,.fnc _,h=>by simp[TV.fits]at h
 | .ptr ..,.int _,h| .ptr ..,.bool,h| .ptr ..,.str,h| .ptr ..,.slice _,h| .ptr ..,.arr _ _,h| .ptr ..,.unit,h| .ptr ..,.ref _,h| .ptr ..,.pair _ _,h=>by simp[TV.fits]at h
 | .sl ..,.int _,h| .sl ..,.bool,h| .sl ..,.str,h| .sl ..,.opt _,h| .sl ..,.arr _ _,h| .sl ..,.unit,h| .sl ..,.ref _,h| .sl ..,.pair _ _,h| .sl ..,.fnc _,h=>by simp[TV.fits]at h
 | .inn j (.fld n::p) s,.opt _,h=>by simp only[TV.fix]; cases Nat.beq j i<;>rfl
 | .inn _ [] _,.opt _,h| .inn _ (.idx _::_) _,.opt _,h=>by simp[TV.fits]at h
 | .inn ..,.int _,h| .inn ..,.bool,h| .inn ..,.str,h| .inn ..,.arr _ _,h| .inn ..,.unit,h| .inn ..,.ref _,h| .inn ..,.pair _ _,h| .inn ..,.fnc _,h=>by simp[TV.fits]at h
 | .vw ..,.int _,h| .vw ..,.bool,h| .vw ..,.str,h| .vw ..,.opt _,h| .vw ..,.arr _ _,h| .vw ..,.unit,h| .vw ..,.ref _,h| .vw ..,.pair _ _,h| .vw ..,.fnc _,h=>by simp[TV.fits]at h
 | .fn ..,.int _,h| .fn ..,.bool,h| .fn ..,.str,h| .fn ..,.slice _,h| .fn ..,.arr _ _,h| .fn ..,.unit,h| .fn ..,.ref _,h| .fn ..,.pair _ _,h=>by simp[TV.fits]at h
theorem A1R:(tv:TV)→(t:Ty)→(x:t.den)→(cs:List Value)→A1i tv t=some x→RV w X θ false tv cs→Rep w X t cs x
 | .pv s y,t,x,cs,hp,hr=>by
  simp only[A1i]at hp
  split at hp
  ·rename_i e; subst e; injection hp with hp; subst hp; exact hr
  ·cases hp
 | .pr a b,.pair ta tb,x,cs,hp,⟨c1,c2,h0,h1,h2⟩=>by
  simp only[A1i]at hp
  split at hp
  ·rename_i y z hy hz
   injection hp with hp; subst hp
   exact⟨c1,c2,h0,A1R a ta y c1 hy h1,A1R b tb z c2 hz h2⟩
  ·cases hp
 | .nilsl,.slice e,x,cs,hp,hr=>by
  simp only[A1i,Option.some.injEq]at hp
  subst hp
  exact⟨none,0,0,[],hr,rfl,Nat.le_refl _,Nat.zero_le _,rfl,.inl rfl⟩
 | .clp s ys,.slice e,x,cs,hp,⟨ad,len,ds,h1,h2,h3,h4,h5⟩=>by
  simp only[A1i]at hp
  split at hp
  ·rename_i q; subst q; injection hp with hp; subst hp
   exact⟨ad,len,len,ds,h1,h2,Nat.le_refl _,h3,h4,h5⟩
  ·cases hp
 | .ptr ..,t,x,cs,hp,_=>by cases t<;>simp[A1i]at hp
 | .sl ..,t,x,cs,hp,_=>by cases t<;>simp[A1i]at hp
 | .inn ..,t,x,cs,hp,_=>by cases t<;>simp[A1i]at hp
 | .vw ..,t,x,cs,hp,_=>by cases t<;>simp[A1i]at hp
 | .fn ..,t,x,cs,hp,_=>by cases t<;>simp[A1i]at hp
 | .tup _,_,_,_,_,hr=>by simp[RV]at hr
 | .und,_,_,_,_,hr=>by simp[RV]at hr
 | .dead,_,_,_,_,hr=>by simp[RV]at hr
 | .bad,t,x,cs,hp,_=>by cases t<;>simp[A1i]at hp
 | .pr _ _,.int _,x,_,hp,_| .pr _ _,.bool,x,_,hp,_| .pr _ _,.str,x,_,hp,_| .pr _ _,.slice _,x,_,hp,_| .pr _ _,.arr _ _,x,_,hp,_| .pr _ _,.unit,x,_,hp,_| .pr _ _,.ref _,x,_,hp,_| .pr _ _,.opt _,x,_,hp,_| .pr _ _,.fnc _,x,_,hp,_=>by simp[A1i]at hp
 | .nilsl,.int _,x,_,hp,_| .nilsl,.bool,x,_,hp,_| .nilsl,.str,x,_,hp,_| .nilsl,.pair _ _,x,_,hp,_| .nilsl,.arr _ _,x,_,hp,_| .nilsl,.unit,x,_,hp,_| .nilsl,.ref _,x,_,hp,_| .nilsl,.opt _,x,_,hp,_| .nilsl,.fnc _,x,_,hp,_=>by simp[A1i]at hp
 | .clp ..,.int _,x,_,hp,_| .clp ..,.bool,x,_,hp,_| .clp ..,.str,x,_,hp,_| .clp ..,.pair _ _,x,_,hp,_| .clp ..,.arr _ _,x,_,hp,_| .clp ..,.unit,x,_,hp,_| .clp ..,.ref _,x,_,hp,_| .clp ..,.opt _,x,_,hp,_| .clp ..,.fnc _,x,_,hp,_=>by simp[A1i]at hp
theorem TV.isAgg_fixV(o:Bool)(i:Nat)(t:Ty)(x:t.den)(tv:TV):(tv.fixV o i t x).isAgg=tv.isAgg:=by
 cases tv with
 |ptr j rt p=>
  simp only[TV.fixV]
  cases Nat.beq j i<;>simp only[cond]
  cases decide (rt=t)<;>simp only[cond]
  ·rfl
  ·cases Ai.getP t x p<;>cases o<;>rfl
 |sl j s=>simp only[TV.fixV]; cases Nat.beq j i<;>rfl
 |inn j p s=>simp only[TV.fixV]; cases Nat.beq j i<;>rfl
 |vw j rt p s lo hi=>simp only[TV.fixV]; cases Nat.beq j i<;>rfl
 |_=>rfl
theorem B1p{t:Ty}{x:t.den}{p:List Sel}{q:(s:Ty)×s.den}{z:Nat×Ty}(hg:Ai.getP t x p=some q)(h:t.rat p=some z):t.at p=some z:=by
 cases t with
 |slice e=>cases p with
  |nil=>exact h
  |cons s p=>simp[Ai.getP]at hg
 |_=>exact h
theorem RV.fixV{o:Bool}{t:Ty}{x:t.den}{i b:Nat}{C:List Value}(hθi:θ i=some (.var b))(hrep:Rep w X' t C x)(hra:w.rangeAt b 0 C)(hnb:C≠ []→¬X' b)(hX:∀b,X' b→X b):(m:Bool)→(tv:TV)→(cs:List Value)→RV w X θ m tv cs→RV w X' θ m (tv.fixV o i t x) cs
 |false,.pv s y,cs,hr=>Rep.avoid (fun b _ hb=>hX b hb) s cs y hr
 |false,.pr a b,cs,⟨c1,c2,h0,h1,h2⟩=>⟨c1,c2,h0,RV.fixV hθi hrep hra hnb hX false a c1 h1,RV.fixV hθi hrep hra hnb hX false b c2 h2⟩
 |false,.ptr j rt p,cs,hr=>by
  by_cases q:j=i
  ·subst q
   obtain⟨ow,b',off,s,h1,h2,h3,h4,h5⟩:=hr
   rw[hθi]at h1; injection h1 with h1; subst h1
   simp only[Own.base,Option.some.injEq]at h2; subst h2
   simp only[TV.fixV,Nat.beq_refl,cond]
   by_cases q2:rt=t
   ·subst q2
    simp only[decide_true]
    cases hg:Ai.getP rt x p with
    |none=>exact⟨_,h5,rfl⟩
    |some y=>
     obtain⟨y',g1,c1,c,c2,g2,g3,g4,_⟩:=A2E rt x p C off s (B1p hg h3) hrep
     rw[hg]at g1; injection g1 with g1; subst g1
     suffices key:∃b o ds,cs=[.pointer (some ⟨b,o,none⟩)]∧Rep w X' s ds y'∧w.rangeAt b o ds∧(ds≠ []→¬X' b) by
      cases o<;>exact key
     refine⟨b,off,c,h5,g4,?_,fun hc=>hnb (by rw[g2]; intro hn; exact hc (List.append_eq_nil_iff.1 (List.append_eq_nil_iff.1 hn).2).1)⟩
     intro k u hu
     have hlt:=(List.getElem?_eq_some_iff.1 hu).1
     have:=hra (off+k) u (by rw[g2,List.getElem?_append_right (by omega),List.getElem?_append_left (by omega)]; rw[show off+k-c1.length=k by omega]; exact hu)
     simpa using this
   ·simp only[q2,decide_false]; exact⟨_,h5,rfl⟩
  ·simp only[TV.fixV,A0c q,cond]; exact hr
 |false,.sl j s,cs,hr=>by
  obtain⟨u,h1,h2,h3⟩:=hr
  by_cases q:j=i
  ·simp only[TV.fixV,A0j.2 q,cond]; exact⟨u,h2,h3⟩
  ·simp only[TV.fixV,A0c q,cond]; exact⟨u,h1,h2,h3⟩
 |false,.inn j p s,cs,hr=>by
  obtain⟨sk,L,u,h1,h2,h3,h4⟩:=hr
  by_cases q:j=i
  ·simp only[TV.fixV,A0j.2 q,cond]; exact⟨u,h3,h4⟩
  ·simp only[TV.fixV,A0c q,cond]; exact⟨sk,L,u,h1,h2,h3,h4⟩
 |false,.vw j rt p s lo hi,cs,hr=>by
  by_cases q:j=i
  ·obtain ⟨o,v,h1,h2,h3⟩:=hr
   simp only[TV.fixV,A0j.2 q,cond]
   exact⟨v,h3,Own.vw_one h2⟩
  ·simp only[TV.fixV,A0c q,cond]; exact hr
 |false,.clp s ys,cs,⟨ad,len,ds,h1,h2,h3,h4,h5⟩=>by
  refine⟨ad,len,ds,h1,h2,h3,A0o (fun c x hx=>Rep.avoid (fun b _ hb=>hX b hb) s c x hx) h4,?_⟩
  rcases h5 with h5|⟨b,o,q1,q2,q3⟩
  ·exact .inl h5
  ·exact .inr ⟨b,o,q1,q2,fun hb=>q3 (hX b hb)⟩
 |false,.nilsl,_,hr=>hr
 |false,.fn f c,cs,⟨vs,h1,h2⟩=>⟨vs,h1,RV.fixV hθi hrep hra hnb hX true c vs h2⟩
 |false,.bad,_,hr=>hr
 |false,.tup _,_,hr=>by simp[RV]at hr
 |false,.und,_,hr=>by simp[RV]at hr
 |false,.dead,_,hr=>by simp[RV]at hr
 |true,.pr a b',vs,hr=>by
  have go:∀cs,RV w X θ false a cs→RV w X' θ false (a.fixV o i t x) cs:=fun cs=>RV.fixV hθi hrep hra hnb hX false a cs
  have gb:∀r,RV w X θ true b' r→RV w X' θ true (b'.fixV o i t x) r:=fun r=>RV.fixV hθi hrep hra hnb hX true b' r
  have ga:=TV.isAgg_fixV o i t x a
  have fin:∀v r,vs=v::r→(∃ cs,A0i a.isAgg v cs∧RV w X θ false a cs)→RV w X θ true b' r→RV w X' θ true (.pr (a.fixV o i t x) (b'.fixV o i t x)) vs:=by
   intro v r h0 ⟨cs,k1,k2⟩ h2
   have k3:=go cs k2
   have k4:A0i (a.fixV o i t x).isAgg v cs:=by rw[ga]; exact k1
   cases ha:a.fixV o i t x with
   |dead=>rw[ha]at k3; simp[RV]at k3
   |und=>rw[ha]at k3; simp[RV]at k3
   |tup c=>rw[ha]at k3; simp[RV]at k3
   |_=>rw[ha]at k3 k4; simp only[RV]; exact⟨v,r,h0,⟨cs,k4,k3⟩,gb r h2⟩
  cases a with
  |dead=>simp only[RV,TV.fixV]at hr ⊢; obtain⟨v,r,h0,h1,h2⟩:=hr; exact⟨v,r,h0,trivial,gb r h2⟩
  |und=>simp only[RV,TV.fixV]at hr ⊢; obtain⟨v,r,h0,h1,h2⟩:=hr; exact⟨v,r,h0,h1,gb r h2⟩
  |_=>simp only[RV]at hr; obtain⟨v,r,h0,h1,h2⟩:=hr; exact fin v r h0 h1 h2
 |true,.pv .unit _,vs,hr=>hr
 |true,.pv (.int _) _,_,h|true,.pv .bool _,_,h|true,.pv .str _,_,h|true,.pv (.slice _) _,_,h|true,.pv (.arr _ _) _,_,h|true,.pv (.pair _ _) _,_,h|true,.pv (.ref _) _,_,h|true,.pv (.opt _) _,_,h|true,.pv (.fnc _) _,_,h=>by simp[RV]at h
 |true,.ptr ..,_,h|true,.sl ..,_,h|true,.inn ..,_,h|true,.vw ..,_,h|true,.clp ..,_,h|true,.nilsl,_,h|true,.fn ..,_,h|true,.tup _,_,h|true,.bad,_,h|true,.und,_,h|true,.dead,_,h=>by simp[RV]at h
theorem A0g.fixV{o:Bool}{t:Ty}{x:t.den}{i b:Nat}{C:List Value}(hθi:θ i=some (.var b))(hrep:Rep w X' t C x)(hra:w.rangeAt b 0 C)(hnb:C≠ []→¬X' b)(hX:∀b,X' b→X b)(tv:TV)(u:Value)(hr:A0g w X θ tv u):A0g w X' θ (tv.fixV o i t x) u:=by
 have fin:(∃ cs,A0i tv.isAgg u cs∧RV w X θ false tv cs)→A0g w X' θ (tv.fixV o i t x) u:=by
  intro⟨cs,k1,k2⟩
  exact A3M (by rw[TV.isAgg_fixV]; exact k1) (RV.fixV hθi hrep hra hnb hX false tv cs k2)
 cases tv with
 |dead=>trivial
 |und=>exact hr
 |tup c=>obtain⟨vs,k1,k2⟩:=hr; exact⟨vs,k1,RV.fixV hθi hrep hra hnb hX true c vs k2⟩
 |_=>exact fin hr
theorem Rel.fixG(h:Rel w0 Xo σ θ as a w){i:Nat}{blk:Blk}(hg:A0b σ.heap i=some blk){e:Ty}{xs:List e.den}{v:Value}(htop:A6e θ i v)(hr:∀X':Nat→Prop,(∀ b,X' b→A0d Xo θ σ.heap b)→(∀ b,A0e θ i b→¬X' b)→Rep w X' (.slice e) [v] xs):
  Rel w0 Xo {σ with env:=σ.env.map (TV.fix i e xs),stk:=σ.stk.map (·.map (TV.fix i e xs)),heap:=(A2d σ.heap i).map fun q=>(q.1,q.2.fix i e xs)} θ as a w∧
   (∀ k,(A0b ((A2d σ.heap i).map fun q=>(q.1,q.2.fix i e xs)) k).isSome=true→k≠i∧(A0b σ.heap k).isSome=true)∧(A0b σ.heap i).isSome=true:=by
 have some':∀k,(A0b ((A2d σ.heap i).map fun q=>(q.1,q.2.fix i e xs)) k).isSome=true→k≠i∧(A0b σ.heap k).isSome=true:=by
  intro k hk
  rw[A1b,A1a]at hk
  by_cases q:k=i<;>simp[q]at hk
  exact⟨q,hk⟩
 have hX:∀b,A0d Xo θ ((A2d σ.heap i).map fun q=>(q.1,q.2.fix i e xs)) b→A0d Xo θ σ.heap b:=by
  intro b hb
  rcases hb with hb|⟨k,h1,h2⟩
  ·exact .inl hb
  ·exact .inr ⟨k,(some' k h1).2,h2⟩
 have hnot:∀g,A0e θ i g→¬A0d Xo θ ((A2d σ.heap i).map fun q=>(q.1,q.2.fix i e xs)) g:=by
  intro g hbi hb
  rcases hb with hb|⟨k,h1,h2⟩
  ·exact h.apart hb ((h.heap.blk i _ hg).lt g hbi).1
  ·exact h.heap.inj k i (some' k h1).1 (some' k h1).2 (by simp[hg]) g h2 hbi
 have hrep:Rep w (A0d Xo θ ((A2d σ.heap i).map fun q=>(q.1,q.2.fix i e xs))) (.slice e) [v] xs:=hr _ hX hnot
 have hst:A1G (A0d Xo θ σ.heap) (A0d Xo θ ((A2d σ.heap i).map fun q=>(q.1,q.2.fix i e xs))) w w:=⟨⟨fun _=>False,A0h.refl _ w,fun _ _ h=>h.elim⟩,fun b _ hb=>hX b hb⟩
 refine⟨h.next (TV.fix i e xs) h.keeps (fun tv u hu=>A0g.fix htop hrep hX tv u hu) rfl rfl ⟨fun k b hb=> ?_,fun k l hkl hk hl b=> ?_⟩ (fun hs=>⟨(some' PIN hs).2,rfl⟩),some',by simp[hg]⟩
 ·dsimp only at hb
  rw[A1b,A1a]at hb
  by_cases q:k=i
  ·simp [q]at hb
  ·simp only[q,if_false]at hb
   cases hb0:A0b σ.heap k with
   |none=>simp[hb0]at hb
   |some b0=>
    simp only[hb0,Option.map_some,Option.some.injEq]at hb
    subst hb
    have:=(h.heap.blk k b0 hb0).go (w':=w) hst rfl (fun _ _=>rfl) (TV.fix i e xs) (fun c cs hc=>RV.fix htop hrep hX false c cs hc) (fun c t ht=>A7C i e xs c t ht)
    cases b0<;>exact this
 ·exact h.heap.inj k l hkl (some' k hk).2 (some' l hl).2 b
theorem Rel.fix(h:Rel w0 Xo σ θ as a w){i:Nat}{τ:St}(hp:σ.fix i=some τ):Rel w0 Xo τ θ as a w∧(∀ k,(A0b τ.heap k).isSome=true→k≠i∧(A0b σ.heap k).isSome=true)∧(A0b σ.heap i).isSome=true:=by
 unfold St.fix at hp
 split at hp
 ·rename_i E e xs hg
  injection hp with hp; subst hp
  obtain⟨v,ds,g1,g2,g3⟩:=h.heap.blk i _ hg
  exact h.fixG hg (v:=v) (by simp[A6e,g1,Own.top]) fun X' hX hn=>A6Z g2 (A0o (fun c x hx=>Rep.avoid (Y:=X') (fun b _ hb=>hX b hb) e c x hx) g3) (fun b hb=>hn b (by simp[A0e,g1,Own.has,hb]))
 ·rename_i t c hg
  split at hp
  ·rename_i x hx
   injection hp with hp; subst hp
   obtain⟨b,C,E,e1,e2,e3,e4,e5⟩:=h.heap.blk i _ hg
   have hbi:A0e θ i b:=by simp[A0e,e1,Own.has]
   have some':∀k,(A0b ((A2d σ.heap i).map fun q=>(q.1,q.2.fixV i t x)) k).isSome=true→k≠i∧(A0b σ.heap k).isSome=true:=fun k hk=>by
    rw[A1b,A1a]at hk
    by_cases q:k=i<;>simp[q]at hk
    exact⟨q,hk⟩
   have hX:∀b,A0d Xo θ ((A2d σ.heap i).map fun q=>(q.1,q.2.fixV i t x)) b→A0d Xo θ σ.heap b:=by
    intro b hb
    rcases hb with hb|⟨k,h1,h2⟩
    ·exact .inl hb
    ·exact .inr ⟨k,(some' k h1).2,h2⟩
   have hnot:¬A0d Xo θ ((A2d σ.heap i).map fun q=>(q.1,q.2.fixV i t x)) b:=by
    intro hb
    rcases hb with hb|⟨k,h1,h2⟩
    ·exact h.apart hb ((h.heap.blk i _ hg).lt b hbi).1
    ·exact h.heap.inj k i (some' k h1).1 (some' k h1).2 (by simp[hg]) b h2 hbi
   have hrep:Rep w (A0d Xo θ ((A2d σ.heap i).map fun q=>(q.1,q.2.fixV i t x))) t C.toList x:=Rep.avoid (fun b _ hb=>hX b hb) t C.toList x (A1R c t x _ hx e4)
   have hra:w.rangeAt b 0 C.toList:=by
    have:=A1M e3 (c1:=[]) (c:=C.toList) (c2:=[]) (by simp)
    simpa using this
   have hst:A1G (A0d Xo θ σ.heap) (A0d Xo θ ((A2d σ.heap i).map fun q=>(q.1,q.2.fixV i t x))) w w:=⟨⟨fun _=>False,A0h.refl _ w,fun _ _ h=>h.elim⟩,fun b _ hb=>hX b hb⟩
   refine⟨h.next (TV.fixV false i t x) h.keeps (fun tv u hu=>A0g.fixV e1 hrep hra (fun _=>hnot) hX tv u hu) rfl rfl ⟨fun k b' hb=> ?_,fun k l hkl hk hl b=>h.heap.inj k l hkl (some' k hk).2 (some' l hl).2 b⟩ (fun hs=>⟨(some' PIN hs).2,rfl⟩),some',by simp[hg]⟩
   dsimp only at hb
   rw[A1b,A1a]at hb
   by_cases q:k=i
   ·simp [q]at hb
   ·simp only[q,if_false]at hb
    cases hb0:A0b σ.heap k with
    |none=>simp[hb0]at hb
    |some b0=>
     simp only[hb0,Option.map_some,Option.some.injEq]at hb
     subst hb
     have hbr:=h.heap.blk k b0 hb0
     cases b0 with
     |var s c0=>
      obtain⟨b2,C2,E2,m1,m2,m3,m4,m5⟩:=hbr
      refine⟨b2,C2,E2,m1,m2,m3,?_,?_⟩
      ·cases hf:(c0.fixV true i t x).fits s with
       |true=>exact RV.fixV e1 hrep hra (fun _=>hnot) hX false c0 _ m4
       |false=>exact RV.step hst false _ _ (fun _ _=>rfl) (RV.kill (fun _ _=>rfl) false c0 _ m4)
      ·cases hf:(c0.fixV true i t x).fits s with
       |true=>exact hf
       |false=>exact TV.fits_kill i c0 s m5
     |_=>
      have:=hbr.go (w':=w) hst rfl (fun _ _=>rfl) id (fun c cs hc=>RV.step hst false c cs (fun _ _=>rfl) hc) (fun c t ht=>ht)
      exact this
  ·cases hp
 ·rename_i E s xs hg
  injection hp with hp; subst hp
  obtain⟨sk,L,v,g1,g2,g3⟩:=h.heap.blk i _ hg
  refine h.fixG hg (v:=v) ?_ fun X' hX hn=>A0t.rep (.sl E s) id L [v] xs (fun b hb=>hn b (by simpa[A0e,g1,Own.has]using hb)) g3
  obtain⟨v',ds,L',m1,m2,_⟩:=g3
  simp only[List.cons.injEq,and_true]at m1
  subst m1
  simpa[A6e,g1,Own.top]using m2
 ·cases hp
theorem Rel.fixAll:∀(l:List Nat) (σ τ:St),Rel w0 Xo σ θ as a w→σ.fixAll l=some τ→Rel w0 Xo τ θ as a w∧(∀ k,(A0b τ.heap k).isSome=true→k∉l∧(A0b σ.heap k).isSome=true)∧∀i∈l,(A0b σ.heap i).isSome=true
 | [],σ,τ,h,hp=>by
  simp only[St.fixAll,Option.some.injEq]at hp; subst hp
  exact⟨h,fun k hk=>⟨by simp,hk⟩,by simp⟩
 |i::l,σ,τ,h,hp=>by
  simp only[St.fixAll]at hp
  split at hp
  ·rename_i σ1 h1
   obtain⟨k1,k2,k3⟩:=h.fix h1
   obtain⟨m1,m2,m3⟩:=Rel.fixAll l σ1 τ k1 hp
   refine⟨m1,fun k hk=> ?_,fun j hj=> ?_⟩
   ·obtain ⟨n1,n2⟩:=m2 k hk
    obtain⟨n3,n4⟩:=k2 k n2
    exact⟨by simp[n1,n3],n4⟩
   ·rcases List.mem_cons.1 hj with hj|hj
    ·rw [hj]; exact k3
    ·exact (k2 j (m3 j hj)).2
  ·cases hp
end Go.Ai
/- Trees: what a value takes along,a new tree. -/
namespace Go.Ai
open Go.RowKit
variable {P:Program} {cx:Cx} {w0:A0F} {Xo:Nat→Prop} {σ:St} {θ:Nat→Option Own} {as:List (Array Value)} {a:Act} {w:World} {X:Nat→Prop} {R:Type} {r:R} {h:A0m}
theorem A2u:∀(l:List Nat) (σ:St),(σ.killL l).env=σ.env.map (A0k l)
 | [],σ=>by simp[St.killL,A0k]
 |i::l,σ=>by rw[St.killL,A2u l]; simp[St.kill,A0k,Function.comp_def]
theorem A3V:∀(l:List Nat) (σ:St),(σ.killL l).stk=σ.stk.map (·.map (A0k l))
 | [],σ=>by simp[St.killL,A0k]
 |i::l,σ=>by rw[St.killL,A3V l]; simp[St.kill,A0k,Function.comp_def]
theorem A1L:∀(l:List Nat) (σ:St) (k:Nat),A0b (σ.killL l).heap k=if k∈l then none else(A0b σ.heap k).map (Blk.mapc (A0k l))
 | [],σ,k=>by
  have e:Blk.mapc (A0k [])=id:=by funext b; cases b<;>rfl
  simp[St.killL,e]
 |i::l,σ,k=>by
  rw[St.killL,A1L l]
  by_cases h1:k∈l
  ·simp [h1]
  ·by_cases h2:k=i
   ·subst h2; simp[St.kill,A1b,A1a]
   ·simp only[h1,if_false,List.mem_cons,h2,or_self,St.kill,A1b,A1a,Option.map_map]
    congr 1
    funext b
    cases b<;>rfl
theorem A3k:∀(l:List Nat) {θ θ':Nat→Option Own} (tv:TV) (v:Value),(∀ j,j∉l→θ' j=θ j)→A0g w X θ tv v→A0g w X θ' (A0k l tv) v
 | [],θ,θ',tv,v,h,hr=>A0g.step (A1G.same X w) tv v (fun i _=>h i (by simp)) hr
 |i::l,θ,θ',tv,v,h,hr=>by
  have h1:A0g w X (fun j=>if j=i then θ' i else θ j) (tv.kill i) v:=A0g.kill (i:=i) (fun j hj=>by simp[hj]) tv v hr
  refine A3k l _ v (fun j hj=> ?_) h1
  by_cases e:j=i
  ·simp [e]
  ·simp only[e,if_false]; exact h j (by simp[e,hj])
theorem A3v:∀(l:List Nat) {θ θ':Nat→Option Own} (m:Bool) (tv:TV) (cs:List Value),(∀ j,j∉l→θ' j=θ j)→RV w X θ m tv cs→RV w X θ' m (A0k l tv) cs
 | [],θ,θ',m,tv,v,h,hr=>RV.step (A1G.same X w) m tv v (fun i _=>h i (by simp)) hr
 |i::l,θ,θ',m,tv,v,h,hr=>by
  have h1:RV w X (fun j=>if j=i then θ' i else θ j) m (tv.kill i) v:=RV.kill (i:=i) (fun j hj=>by simp[hj]) m tv v hr
  refine A3v l m _ v (fun j hj=> ?_) h1
  by_cases e:j=i
  ·simp [e]
  ·simp only[e,if_false]; exact h j (by simp[e,hj])
theorem A2G:∀(l:List Nat) (tv:TV) (t:Ty),tv.fits t=true→(A0k l tv).fits t=true
 | [],_,_,h=>h
 |i::l,tv,t,h=>A2G l (tv.kill i) t (TV.fits_kill i tv t h)
theorem Rel.addG(h:Rel w0 Xo σ θ as a w)(js:List Nat)(hjs:∀j∈js,(A0b σ.heap j).isSome=true∧j≠PIN)(id:Nat)(hid:id≠PIN)(blk:Blk)(o:Own){w':World}(row:Option Nat)
  (hk:A0h (fun b=>some b=row) w w') (hrow:∀b,row=some b→∃j∈js,A0e θ j b) (hbase:∀b,o.has b→w.heap.size≤b∨∃j∈js,A0e θ j b)
  (hblk:A0A w' (A0d Xo (A0x θ id o) ((σ.killL js).add id blk).heap) (A0x θ id o) w0.may id blk):Rel w0 Xo ((σ.killL js).add id blk) (A0x θ id o) as a w':=by
 have hθ:∀j,j≠id→A0x θ id o j=θ j:=fun j hj=>A0P θ id o j hj
 let f:TV→TV:=fun tv=>(A0k js tv).kill id
 have src:∀k b,A0b ((σ.killL js).add id blk).heap k=some b→(k=id∧b=blk)∨(k≠id∧k∉js∧∃b0,A0b σ.heap k=some b0∧b=b0.mapc f):=by
  intro k b hb
  rw[A1r]at hb
  by_cases e:k=id
  ·simp only[e,if_true,Option.some.injEq]at hb; exact .inl ⟨e,hb.symm⟩
  ·simp only[e,if_false,St.kill,A1b,A1a,A1L]at hb
   by_cases e2:k∈js
   ·simp [e2]at hb
   ·simp only[e2,if_false,Option.map_map]at hb
    cases h0:A0b σ.heap k with
    |none=>simp[h0]at hb
    |some b0=>
     simp only[h0,Option.map_some,Option.some.injEq,Function.comp]at hb
     exact .inr ⟨e,e2,b0,rfl,by rw[← hb]; cases b0<;>rfl⟩
 have fresh:∀k,(A0b σ.heap k).isSome=true→∀b,A0e θ k b→w0.may k b∧b<w.heap.size:=by
  intro k hk b hb
  obtain⟨b0,h0⟩:=Option.isSome_iff_exists.1 hk
  exact(h.heap.blk k b0 h0).lt b hb
 have hX:∀b,b<w.heap.size→A0d Xo (A0x θ id o) ((σ.killL js).add id blk).heap b→A0d Xo θ σ.heap b:=by
  intro b hlt hb
  rcases hb with hb|⟨j,h1,h2⟩
  ·exact .inl hb
  ·obtain ⟨bj,hbj⟩:=Option.isSome_iff_exists.1 h1
   rcases src j bj hbj with⟨rfl,_⟩|⟨e,_,b0,h3,_⟩
   ·simp only[A0e,A0n]at h2
    rcases hbase b h2 with h3|⟨k,k1,k2⟩
    ·omega
    ·exact .inr ⟨k,(hjs k k1).1,k2⟩
   ·exact .inr ⟨j,by simp[h3],by simpa[A0e,hθ j e]using h2⟩
 have hrow':∀b,row=some b→A0d Xo θ σ.heap b∧w0.any b:=fun b hb=>by
  obtain⟨k,k1,k2⟩:=hrow b hb
  exact⟨.inr ⟨k,(hjs k k1).1,k2⟩,A0F.may_any (fresh k (hjs k k1).1 b k2).1⟩
 have hst:A1G (A0d Xo θ σ.heap) (A0d Xo (A0x θ id o) ((σ.killL js).add id blk).heap) w w':=⟨⟨fun b=>some b=row,hk,fun b _ hz=>(hrow' b hz.symm).1⟩,hX⟩
 have hk0:A0h w0.tk w0.w w':=h.keeps.may hk fun b hz=>(hrow' b hz.symm).2
 have hother:∀j g,j∉js→(A0b σ.heap j).isSome=true→A0e θ j g→w'.heap[g]? =w.heap[g]? :=by
  intro j g hj hs hg
  refine hk.block g (fresh j hs g hg).2 (fun hz=> ?_)
  obtain⟨k,k1,k2⟩:=hrow g hz.symm
  exact h.heap.inj k j (fun e=>hj (e▸k1)) (hjs k k1).1 hs g k2 hg
 have hf:∀tv v,A0g w (A0d Xo θ σ.heap) θ tv v→A0g w' (A0d Xo (A0x θ id o) ((σ.killL js).add id blk).heap) (A0x θ id o) (f tv) v:=fun tv v hv=>A0g.step hst _ v (fun _ _=>rfl) (A0g.kill hθ _ v (A3k js tv v (fun _ _=>rfl) hv))
 have hf2:∀c cs,RV w (A0d Xo θ σ.heap) θ false c cs→RV w' (A0d Xo (A0x θ id o) ((σ.killL js).add id blk).heap) (A0x θ id o) false (f c) cs:=fun c cs hc=>RV.step hst false _ cs (fun _ _=>rfl) (RV.kill hθ false _ cs (A3v js false c cs (fun _ _=>rfl) hc))
 refine h.next f hk0 hf (by simp[St.add,St.kill,A2u,f,Function.comp_def]) (by simp[St.add,St.kill,A3V,f,Function.comp_def]) ⟨fun j b hb=> ?_,fun j k hjk hj hk' b hb1 hb2=> ?_⟩ (fun hs=> ?_)
 ·rcases src j b hb with⟨rfl,rfl⟩|⟨e,e2,b0,h0,rfl⟩
  ·exact hblk
  ·exact (h.heap.blk j b0 h0).go hst (hθ j e) (fun g hg=>hother j g e2 (by simp[h0]) hg) f hf2 (fun c t ht=>TV.fits_kill id _ t (A2G js c t ht))
 ·obtain ⟨bj,hbj⟩:=Option.isSome_iff_exists.1 hj
  obtain⟨bk,hbk⟩:=Option.isSome_iff_exists.1 hk'
  have key:∀j,j∉js→(A0b σ.heap j).isSome=true→A0e θ j b→¬o.has b:=by
   intro j hj hs hbj hob
   rcases hbase b hob with h1|⟨k,k1,k2⟩
   ·have:=(fresh j hs b hbj).2; omega
   ·exact h.heap.inj k j (fun e=>hj (e▸k1)) (hjs k k1).1 hs b k2 hbj
  rcases src j bj hbj with⟨rfl,_⟩|⟨e,e2,b0,h0,_⟩<;>rcases src k bk hbk with⟨rfl,_⟩|⟨f1,f2,c0,g0,_⟩
  ·exact hjk rfl
  ·exact key k f2 (by simp[g0]) (by simpa[A0e,hθ k f1]using hb2) (by simpa[A0e,A0n]using hb1)
  ·exact key j e2 (by simp[h0]) (by simpa[A0e,hθ j e]using hb1) (by simpa[A0e,A0n]using hb2)
  ·exact h.heap.inj j k hjk (by simp[h0]) (by simp[g0]) b (by simpa[A0e,hθ j e]using hb1) (by simpa[A0e,hθ k f1]using hb2)
 ·obtain ⟨bk,hbk⟩:=Option.isSome_iff_exists.1 hs
  rcases src PIN bk hbk with⟨e,_⟩|⟨e,e2,b0,h0,_⟩
  ·exact absurd e.symm hid
  ·exact ⟨by simp[h0],hθ PIN e⟩
theorem A4j:∀{l:List Nat},A7f l=true→l.Nodup
 | [],_=>List.nodup_nil
 |i::r,h=>by
  simp only[A7f,Bool.and_eq_true,Bool.not_eq_true',List.any_eq_false]at h
  refine List.nodup_cons.2 ⟨fun hi=>h.1 i hi (Nat.beq_refl i),A4j h.2⟩
def Of(θ:Nat→Option Own)(js:List Nat)(L:List Nat):Prop:=L.Nodup∧∀b∈L,∃j∈js,A0e θ j b
theorem Of.nil:Of θ [] []:=⟨List.nodup_nil,fun b h=>by simp at h⟩
theorem Of.append{base:Nat→Nat→Prop}(hh:A1e w X θ base h){js ks L K:List Nat}(h1:Of θ js L)(h2:Of θ ks K)(hd:(js++ks).Nodup)(hs:∀j∈js++ks,(A0b h j).isSome=true):Of θ (js++ks) (L++K):=by
 refine⟨List.nodup_append.2 ⟨h1.1,h2.1,fun b hb c hc e=> ?_⟩,fun b hb=> ?_⟩
 ·subst e
  obtain⟨j,j1,j2⟩:=h1.2 b hb
  obtain⟨k,k1,k2⟩:=h2.2 b hc
  have hne:j≠k:=fun e=>(List.nodup_append.1 hd).2.2 j j1 k k1 e
  exact hh.inj j k hne (hs j (List.mem_append_left _ j1)) (hs k (List.mem_append_right _ k1)) b j2 k2
 ·rcases List.mem_append.1 hb with hb|hb
  ·obtain ⟨j,j1,j2⟩:=h1.2 b hb; exact⟨j,List.mem_append_left _ j1,j2⟩
  ·obtain ⟨j,j1,j2⟩:=h2.2 b hb; exact⟨j,List.mem_append_right _ j1,j2⟩
theorem Of.sub{js L K:List Nat}(h1:Of θ js L)(hK:K.Sublist L):Of θ js K:=⟨h1.1.sublist hK,fun b hb=>h1.2 b (hK.subset hb)⟩
def B5j(l r:List Sel→Option Value):List Sel→Option Value
 | .fld 0::p=>l p
 | .fld (n+1)::p=>r (.fld n::p)
 | .idx _::p=>r p
 | []=>none
theorem B5k(l r:List Sel→Option Value)(p:List Sel):B5j l r (.fld 0::p)=l p:=rfl
theorem B5l(l r:List Sel→Option Value)(p:List Sel):B5j l r (B1t p)=r p:=by
 unfold B1t
 split
 ·rfl
 ·rfl
theorem A3d{M:Nat→Prop}{sk:List Sel→Option Value}{u:Ty}(hn:u.hasRef=false){q:Nat→List Sel→List Sel}:∀{xs:List u.den} {ds:List Value} {k:Nat},A0l (Rep w X u) ds xs→A0C (fun k=>A0t w M sk (.pl u) (q k)) k [] ds xs
 | [],ds,k,h=>⟨rfl,h⟩
 |x::xs,ds,k,⟨c1,c2,h1,h2,h3⟩=>⟨[],[],c1,c2,rfl,h1,⟨rfl,hn,A0S u hn c1 x h2⟩,A3d hn h3⟩
theorem A3m{base:Nat→Nat→Prop}{M:Nat→Prop}(hh:A1e w X θ base h):∀(d:DS) (tv:TV) (x:d.ty.den) (js:List Nat) (cs:List Value),A0v h tv d=some (x,js)→RV w X θ false tv cs→(∀ j∈js,∀b,base j b→M b)→js.Nodup→
  (∀ j∈js,(A0b h j).isSome=true)∧∃sk L,A0t w M sk d id L cs x∧Of θ js L:=by
 have flat:∀(u:Ty) (tv:TV) (x:u.den) (js:List Nat) (cs:List Value),A0v h tv (.pl u)=some (x,js)→RV w X θ false tv cs→js=[]∧u.hasRef=false∧Rep w (fun _=>False) u cs x:=by
  intro u
  induction u with
  |pair c d ihc ihd=>
   intro tv x js cs hp hv
   cases tv with
   |pv t y=>
    simp only[A0v]at hp
    split at hp
    ·rename_i q; subst q
     split at hp
     ·cases hp
     ·rename_i hn
      simp only[Option.some.injEq,Prod.mk.injEq]at hp
      obtain⟨rfl,rfl⟩:=hp
      have hn':(Ty.pair c d).hasRef=false:=by simpa using hn
      exact⟨rfl,hn',A0S _ hn' cs _ hv⟩
    ·cases hp
   |pr a b=>
    simp only[A0v]at hp
    split at hp
    ·rename_i y z hy hz
     simp only[Option.some.injEq,Prod.mk.injEq]at hp
     obtain⟨rfl,rfl⟩:=hp
     obtain⟨c1,c2,h0,h1,h2⟩:=hv
     obtain⟨e1,e2,e3⟩:=ihc a y.1 y.2 c1 hy h1
     obtain⟨f1,f2,f3⟩:=ihd b z.1 z.2 c2 hz h2
     exact⟨by rw[e1,f1]; rfl,by simp[Ty.hasRef,e2,f2],c1,c2,h0,e3,f3⟩
    ·cases hp
   |_=>simp[A0v]at hp
  |_=>
   intro tv x js cs hp hv
   cases tv with
   |pv t y=>
    simp only[A0v]at hp
    split at hp
    ·rename_i q; subst q
     split at hp
     ·cases hp
     ·rename_i hn
      injection hp with hp
      injection hp with e1 e2
      subst e1; subst e2
      exact⟨rfl,by simpa using hn,A0S _ (by simpa using hn) cs _ hv⟩
    ·cases hp
   |_=>simp[A0v]at hp
 intro d
 induction d with
 |pl u=>
  intro tv x js cs hp hv hM hd
  obtain⟨rfl,e2,e3⟩:=flat u tv x js cs hp hv
  exact⟨fun j hj=>by simp at hj,fun _=>none,[],⟨rfl,e2,e3⟩,Of.nil⟩
 |pr c d ihc ihd=>
  intro tv x js cs hp hv hM hd
  cases tv with
  |pr a b=>
   simp only[A0v]at hp
   split at hp
   ·rename_i y z hy hz
    simp only[Option.some.injEq,Prod.mk.injEq]at hp
    obtain⟨rfl,rfl⟩:=hp
    obtain⟨c1,c2,h0,h1,h2⟩:=hv
    have hd':=List.nodup_append.1 hd
    obtain⟨e1,sk1,L1,e2,e3⟩:=ihc a y.1 y.2 c1 hy h1 (fun j hj=>hM j (List.mem_append_left _ hj)) hd'.1
    obtain⟨f1,sk2,L2,f2,f3⟩:=ihd b z.1 z.2 c2 hz h2 (fun j hj=>hM j (List.mem_append_right _ hj)) hd'.2.1
    have hs:∀j∈y.2++z.2,(A0b h j).isSome=true:=fun j hj=>(List.mem_append.1 hj).elim (e1 j) (f1 j)
    refine⟨hs,B5j sk1 sk2,L1++L2,⟨L1,L2,c1,c2,rfl,h0,?_,?_⟩,Of.append hh e3 f3 hd hs⟩
    ·exact A0t.ren c id _ L1 c1 y.1 (fun r=>B5k _ _ _) e2
    ·exact A0t.ren d id _ L2 c2 z.1 (fun r=>B5l _ _ _) f2
   ·cases hp
  |_=>simp[A0v]at hp
 |sl E d _=>
  intro tv x js cs hp hv hM hd
  cases tv with
  |nilsl=>
   simp only[A0v,Option.some.injEq,Prod.mk.injEq]at hp
   obtain⟨rfl,rfl⟩:=hp
   have hv':cs=_:=hv
   subst hv'
   exact⟨fun j hj=>by simp at hj,fun _=>some (.slice none 0 0),[],⟨_,[],[],rfl,rfl,rfl,A1k _ _ _ _,rfl,rfl⟩,Of.nil⟩
  |sl j e=>
   cases d with
   |pl u=>
    simp only[A0v]at hp
    split at hp
    ·rename_i E2 e2 xs hg
     split at hp
     ·rename_i q; subst q
      split at hp
      ·rename_i q
       obtain⟨q1,q2,q3⟩:=q
       subst q1; subst q2
       simp only[Option.some.injEq,Prod.mk.injEq]at hp
       obtain⟨rfl,rfl⟩:=hp
       obtain⟨v,ds,g1,g2,g3⟩:=hh.blk j _ hg
       obtain⟨v2,k1,k2,k3⟩:=hv
       rw[g1]at k1; injection k1 with k1; injection k1 with k1; subst k1
       subst k2
       refine⟨fun i hi=>by simp only[List.mem_singleton]at hi; subst hi; simp[hg],fun _=>some v,v.ownBlock.toList++[],⟨v,ds,[],rfl,rfl,rfl,A5e g2 (fun _ _=>rfl) (fun b _ hb=>hM j (by simp) b hb),A3d q3 g3⟩,?_,fun b hb=>⟨j,by simp,?_⟩⟩
       ·cases v.ownBlock<;>simp
       ·simpa [A0e,g1,Own.has]using hb
      ·cases hp
     ·cases hp
    ·cases hp
   |_=>simp[A0v]at hp
  |inn j p e=>
   cases p with
   |nil=>
    have hp':(match A0b h j with
      |some (.tre E2 s2 xs)=>if q:s2=d then(if E2=E then some ((q▸xs:List d.ty.den),[j])else none)else none
      |_=>none)=some (x,js):=by cases d<;>exact hp
    split at hp'
    ·rename_i E2 s2 xs hg
     split at hp'
     ·rename_i q; subst q
      split at hp'
      ·rename_i q; subst q
       simp only[Option.some.injEq,Prod.mk.injEq]at hp'
       obtain⟨rfl,rfl⟩:=hp'
       obtain⟨sk,L,v,g1,g2,g3⟩:=hh.blk j _ hg
       obtain⟨sk2,L2,v2,k1,k2,k3,k4⟩:=hv
       rw[g1]at k1; injection k1 with k1; injection k1 with k1 k1'; subst k1; subst k1'
       have hvv:v=v2:=by
        obtain⟨v',_,_,m1,m2,_⟩:=g3
        simp only[List.cons.injEq,and_true]at m1
        subst m1
        have m2':sk []=some v:=m2
        rw[k2]at m2'; injection m2' with m2'; exact m2'.symm
       subst hvv
       subst k3
       refine⟨fun i hi=>by simp only[List.mem_singleton]at hi; subst hi; simp[hg],sk,L,g3.go (.sl _ _) _ _ _ _ (fun _ _=>rfl) (fun b _ hb=>hM j (by simp) b hb),g2,fun b hb=>⟨j,by simp,by simpa[A0e,g1,Own.has]using hb⟩⟩
      ·cases hp'
     ·cases hp'
    ·cases hp'
   |cons s p=>cases d<;>simp[A0v]at hp
  |_=>cases d<;>simp[A0v]at hp
end Go.Ai
/- Slices that are made and grow. -/
namespace Go.Ai
open Go.RowKit
variable {P:Program} {cx:Cx} {w0:A0F} {Xo:Nat→Prop} {σ:St} {θ:Nat→Option Own} {as:List (Array Value)} {a:Act} {w:World} {R:Type} {r:R} {K:TV→St→Option R} {X:Nat→Prop} {h:A0m}
theorem A5L:(tv:TV)→(t:Ty)→(x:t.den)→(cs:List Value)→A0w h tv t=some x→tv.ids=[]→RV w X θ false tv cs→Rep w X t cs x
 | .pv s y,t,x,cs,hp,_,hr=>by
  simp only[A0w]at hp
  split at hp
  ·rename_i e; subst e; injection hp with hp; subst hp; exact hr
  ·cases hp
 | .pr a b,.pair ta tb,x,cs,hp,hi,⟨c1,c2,h0,h1,h2⟩=>by
  simp only[TV.ids,List.append_eq_nil_iff]at hi
  simp only[A0w]at hp
  split at hp
  ·rename_i y z hy hz
   injection hp with hp; subst hp
   exact⟨c1,c2,h0,A5L a ta y c1 hy hi.1 h1,A5L b tb z c2 hz hi.2 h2⟩
  ·cases hp
 | .nilsl,.slice e,x,cs,hp,_,hr=>by
  simp only[A0w,Option.some.injEq]at hp
  subst hp
  exact⟨none,0,0,[],hr,rfl,Nat.le_refl _,Nat.zero_le _,rfl,.inl rfl⟩
 | .clp s ys,.slice e,x,cs,hp,_,⟨ad,len,ds,h1,h2,h3,h4,h5⟩=>by
  simp only[A0w]at hp
  split at hp
  ·rename_i q; subst q; injection hp with hp; subst hp
   exact⟨ad,len,len,ds,h1,h2,Nat.le_refl _,h3,h4,h5⟩
  ·cases hp
 | .ptr ..,_,_,_,_,hi,_=>by simp[TV.ids]at hi
 | .sl ..,_,_,_,_,hi,_=>by simp[TV.ids]at hi
 | .inn ..,_,_,_,_,hi,_=>by simp[TV.ids]at hi
 | .vw ..,_,_,_,_,hi,_=>by simp[TV.ids]at hi
 | .fn f c,t,x,cs,hp,_,hr=>by cases t<;>first|(simp [A0w]at hp; done)|exact B3D (by simpa only[A0w]using hp) hr
 | .tup _,_,_,_,_,_,hr=>by simp[RV]at hr
 | .und,_,_,_,_,_,hr=>by simp[RV]at hr
 | .dead,_,_,_,_,_,hr=>by simp[RV]at hr
 | .bad,t,x,cs,hp,_,_=>by cases t<;>simp[A0w]at hp
 | .pr _ _,.int _,x,_,hp,_,_| .pr _ _,.bool,x,_,hp,_,_| .pr _ _,.str,x,_,hp,_,_| .pr _ _,.slice _,x,_,hp,_,_| .pr _ _,.arr _ _,x,_,hp,_,_| .pr _ _,.unit,x,_,hp,_,_| .pr _ _,.ref _,x,_,hp,_,_| .pr _ _,.opt _,x,_,hp,_,_| .pr _ _,.fnc _,x,_,hp,_,_=>by simp[A0w]at hp
 | .nilsl,.int _,x,_,hp,_,_| .nilsl,.bool,x,_,hp,_,_| .nilsl,.str,x,_,hp,_,_| .nilsl,.pair _ _,x,_,hp,_,_| .nilsl,.arr _ _,x,_,hp,_,_| .nilsl,.unit,x,_,hp,_,_| .nilsl,.ref _,x,_,hp,_,_| .nilsl,.opt _,x,_,hp,_,_| .nilsl,.fnc _,x,_,hp,_,_=>by simp[A0w]at hp
 | .clp ..,.int _,x,_,hp,_,_| .clp ..,.bool,x,_,hp,_,_| .clp ..,.str,x,_,hp,_,_| .clp ..,.pair _ _,x,_,hp,_,_| .clp ..,.arr _ _,x,_,hp,_,_| .clp ..,.unit,x,_,hp,_,_| .clp ..,.ref _,x,_,hp,_,_| .clp ..,.opt _,x,_,hp,_,_| .clp ..,.fnc _,x,_,hp,_,_=>by simp[A0w]at hp
theorem B4m{tv:TV}{t:Ty}{x:t.den}(hp:A0w h tv t=some x)(hi:tv.ids=[]):tv.isAgg=t.isAgg∧(∀ c,tv≠ .tup c)∧tv≠ .dead∧tv≠ .und:=by
 cases tv with
 |pv s y=>
  simp only[A0w]at hp
  split at hp
  ·rename_i e; subst e; exact⟨rfl,by simp,by simp,by simp⟩
  ·cases hp
 |ptr=>simp[TV.ids]at hi
 |sl=>simp[TV.ids]at hi
 |vw=>simp[TV.ids]at hi
 |_=>cases t<;>simp_all[A0w,TV.isAgg,Ty.isAgg]
theorem A8j{tv:TV}{t:Ty}{x:t.den}{v:Value}(hp:A0w h tv t=some x)(hi:tv.ids=[])(hv:A0g w X θ tv v):∃cs,A0i t.isAgg v cs∧Rep w X t cs x:=by
 obtain⟨h1,h2,h3,h4⟩:=B4m hp hi
 obtain⟨cs,g1,g2⟩:=A2k h2 h3 h4 hv
 exact⟨cs,by rw[← h1]; exact g1,A5L tv t x cs hp hi g2⟩
theorem A7B{e:Ty}{size:Nat}(hs:size=e.size){n:Nat}:∀(ps:List (Nat×TV)) (vs:List (Nat×Value)) (xs ys:List e.den) (cs:List Value),A4E w X θ ps vs→(∀ q∈ps,q.1<n∧q.2.ids=[])→xs.length=n→
  A2H xs e (fun v=>A0w h v e) ps=some ys→A0l (Rep w X e) cs xs→∃ds,Instr.fill (fun i=>some (i*size,size)) cs.toArray vs=some ds∧A0l (Rep w X e) ds.toList ys∧ys.length=n
 | [],[],xs,ys,cs,_,_,hl,hp,hc=>by
  simp only[A2H,Option.some.injEq]at hp
  subst hp
  exact⟨cs.toArray,rfl,by simpa using hc,hl⟩
 |(i,t)::ps,(j,v)::vs,xs,ys,cs,⟨hij,htv,hr⟩,hq,hl,hp,hc=>by
  subst hij
  simp only[A2H]at hp
  split at hp
  ·rename_i y hy
   obtain⟨hi,hids⟩:=hq (i,t) (by simp)
   obtain⟨vc,g1,g2⟩:=A8j hy hids htv
   have hvl:=Rep.length e vc y g2
   have hvc:=A1x g1 (Rep.one e vc y g2)
   obtain⟨c1,c,c2,k1,k2,k3,k4⟩:=A1C (fun c x hx=>Rep.length e c x hx) e.zero i hc (by omega)
   have hcl:=Rep.length e c _ k3
   have hfold:=A5U (i*size) v.cells.toList 0 cs.toArray (by rw[hvc,hvl,k1]; simp[hcl,k2,hs])
   obtain⟨ds,m1,m2,m3⟩:=A7B hs (n:=n) ps vs (xs.set i y) ys (c1++(vc++c2)) hr (fun q hqm=>hq q (by simp[hqm])) (by simpa using hl) hp (k4 vc y g2)
   refine⟨ds,?_,m2,m3⟩
   have hsz:v.cells.size=size:=by rw[hs,←hvl,←hvc]; simp
   have hnot:¬(v.cells.size≠size∨i*size+v.cells.size>cs.toArray.size):=by rw[k1]; simp[hsz,hcl,k2,hs]
   rw[Instr.fill]
   simp only[Bool.or_eq_true,decide_eq_true_eq,hnot,if_false]
   rw[← m1]
   congr 1
   apply Array.ext'
   rw[← Array.foldl_toList,Array.toList_zipIdx]
   rw[show (c1++(vc++c2)).toArray.toList=c1++(vc++c2)from rfl]
   rw[hfold,hvc,hvl]
   have e1:i*size+0=c1.length:=by rw[hs]; omega
   rw[e1]
   subst k1
   have e2:c1.length+e.size=(c1++c).length:=by simp[hcl]
   simp only[List.take_left']
   rw[e2,←List.append_assoc c1 c c2,List.drop_left]
  ·cases hp
 | [],_::_,_,_,_,h,_,_,_,_=>h.elim
 |_::_,[],_,_,_,h,_,_,_,_=>h.elim
theorem A0y{e:Ty}(hn:e.noRef=true):∀n,A0l (Rep w X e) (List.replicate n e.zcells).flatten (List.replicate n e.zero)
 |0=>by simp[A0l]
 |n+1=>by rw[List.replicate_succ,List.replicate_succ,List.flatten_cons]; exact⟨_,_,rfl,A1d e hn,A0y hn n⟩
theorem A4Z(z:Array Value)(n:Nat)(hz:0<z.size):((Array.range (n*z.size)).map (z[· % z.size]!)).toList=(List.replicate n z.toList).flatten:=by
 rw[Array.toList_map,Array.toList_range]
 induction n with
 |zero=>simp
 |succ n ih=>
  rw[Nat.add_mul,Nat.one_mul,List.range_add,List.map_append,ih,List.replicate_succ',List.flatten_append]
  congr 1
  simp only[List.map_map,List.flatten_cons,List.flatten_nil,List.append_nil]
  apply List.ext_getElem?
  intro i
  rw[List.getElem?_map]
  by_cases hi:i<z.size
  ·rw [List.getElem?_range hi]
   simp[Nat.mul_add_mod_self_right,Nat.add_mul_mod_self_right,Nat.mod_eq_of_lt hi,hi]
  ·rw [List.getElem?_eq_none (by simp; omega),List.getElem?_eq_none (by simp; omega)]; rfl
theorem A3y(h:Rel w0 Xo σ θ as a w){b:Nat}(hb:A0d Xo θ σ.heap b):b<w.heap.size:=by
 rcases hb with hb|⟨i,h1,h2⟩
 ·exact Nat.lt_of_lt_of_le (h.xo b hb).1 h.keeps.size
 ·cases hg:A0b σ.heap i with
  |none=>simp[hg]at h1
  |some blk=>exact((h.heap.blk i blk hg).lt b h2).2
theorem B2b(h:Rel w0 Xo σ θ as a w)(id:Nat)(hid:id≠PIN)(E:TypeId)(e:Ty)(xs:List e.den)(C:Array Value)(hc:A0l (Rep w (A0d Xo θ σ.heap) e) C.toList xs)(hm:xs.length≤maxLen):
  Rel w0 Xo (σ.add id (.arr E e xs)) (A0x θ id (.arr (.slice (some ⟨w.heap.size,0,none⟩) xs.length xs.length))) as a (w.alloc (.cells C E))∧
   A0g (w.alloc (.cells C E)) (A0d Xo (A0x θ id (.arr (.slice (some ⟨w.heap.size,0,none⟩) xs.length xs.length))) (σ.add id (.arr E e xs)).heap) (A0x θ id (.arr (.slice (some ⟨w.heap.size,0,none⟩) xs.length xs.length))) (.sl id e) (.slice (some ⟨w.heap.size,0,none⟩) xs.length xs.length):=by
 have hl:=A0s (fun c x hx=>Rep.length e c x hx) hc
 have hrel:=h.add id hid (.arr E e xs) (.arr (.slice (some ⟨w.heap.size,0,none⟩) xs.length xs.length)) (w':=w.alloc (.cells C E)) none (A0h.alloc _ w _) (fun b hb=>by cases hb)
  (fun b hb=>by simp only[Own.has,Value.ownBlock,Option.some.injEq]at hb; subst hb; exact .inl (Nat.le_refl _)) ?_
 ·exact ⟨hrel,_,rfl,_,A0n _ _ _,rfl,rfl⟩
 ·refine ⟨_,C.toList,A0n _ _ _,A2i (World.ownsRow_lit w C xs.length (Nat.zero_le _) hm (by simpa using hl)) (fun g hg=>by simp only[Value.ownBlock,Option.some.injEq]at hg; subst hg; exact h.new hid (Nat.le_refl _)),?_⟩
  have hst:A1G (A0d Xo θ σ.heap) (A0d Xo (A0x θ id (.arr (.slice (some ⟨w.heap.size,0,none⟩) xs.length xs.length))) (σ.add id (.arr E e xs)).heap) w (w.alloc (.cells C E)):=by
   refine⟨⟨fun _=>False,A0h.alloc _ w _,fun _ _ h=>h.elim⟩,fun b hb hx=> ?_⟩
   rcases hx with hx|⟨j,h1,h2⟩
   ·exact .inl hx
   ·rw [A1r]at h1
    by_cases e:j=id
    ·subst e
     simp only[A0e,A0n,Option.bind_some,Own.has,Value.ownBlock,Option.some.injEq]at h2
     omega
    ·simp only[e,if_false]at h1
     obtain⟨_,h3⟩:=(A0O σ.heap id j).1 h1
     exact .inr ⟨j,h3,by simpa[A0e,A0P _ _ _ j e]using h2⟩
  exact A0o (fun c x hx=>hst.rep e c x hx) hc
theorem A9b:∀{l:List TV},A0z l=[]→∀v∈l,v.ids=[]
 | [],_,v,hv=>by simp at hv
 |x::l,h,v,hv=>by
  simp only[A0z,List.append_eq_nil_iff]at h
  rcases List.mem_cons.1 hv with hv|hv
  ·rw [hv]; exact h.1
  ·exact A9b h.2 v hv
theorem A5O(hC:A1F P cx)(hZ:A2z P cx)(hE:A2y P cx)(h:Rel w0 Xo σ θ as a w){id:Nat}(hid:id≠PIN){draw:Bool}{T:TypeId}{n:Nat}{parts:Array (Nat×Operand)}(hp:A6m cx draw σ id T n parts K=some r):
  ∃tv σ',K tv σ'=some r∧A1p P w0 Xo as a w (.buildSlice T n parts) tv σ':=by
 simp only[A6m]at hp
 split at hp
 ·rename_i e hT
  obtain⟨h1,h2⟩:=A0a hp
  simp only[Bool.and_eq_true,decide_eq_true_eq,List.isEmpty_iff,List.all_eq_true]at h1
  obtain⟨⟨⟨⟨⟨q1,q2⟩,q3⟩,q6⟩,q4⟩,q5⟩:=h1
  have hu:=hE.elem T e hT
  have hty:=hC.ty _ _ q1
  obtain⟨inf,z,z1,z2,z3,z4⟩:=hZ.zero _ _ q1 q2
  have hsz:=A0u.size e _ hty
  unfold Program.hasSize at hsz
  have hs:inf.size=e.size:=by simpa[z1]using hsz
  have hzs:z.cells.size=e.size:=by
   have:=Rep.length e e.zcells e.zero (A1d (w:=w) (X:=fun _=>False) e (A0u.noRef e _ hty))
   rw[← z3]at this; simpa using this
  have hrel:=A5f (fun x=>h.eval x) parts.toList
  have hsmall:=Nat.le_of_ble_eq_true q3
  split at h2
  ·rename_i xs hx
   have hparts:∀q∈parts.toList.map (fun q=>(q.1,σ.eval q.2)),q.1<n∧q.2.ids=[]:=by
    intro q hq
    obtain⟨p,hp1,rfl⟩:=List.mem_map.1 hq
    exact⟨by simpa[Nat.blt_eq]using q5 p hp1,A9b q4 _ (List.mem_map.2 ⟨p,hp1,rfl⟩)⟩
   have key:∃C:Array Value,A0l (Rep w (A0d Xo θ σ.heap) e) C.toList xs∧xs.length=n∧∀o:Oper,o.op= .buildSlice T n parts→(execOp a.eval o).run P w= .ok (.value (.slice (some ⟨w.heap.size,0,none⟩) n n)) (w.alloc (.cells C (cx.elem T))):=by
    by_cases hz0:n*e.size=0
    ·-- nothing to lay
     obtain⟨ds,d1,d2,d3⟩:=A7B (size:=inf.size) hs (n:=n) _ _ (List.replicate n e.zero) xs (List.replicate n e.zcells).flatten hrel hparts (by simp) hx (A0y (A0u.noRef e _ hty) n)
     have hemp:(List.replicate n e.zcells).flatten=[]:=by
      have:=A0s (fun c x hx=>Rep.length e c x hx) (A0y (w:=w) (X:=A0d Xo θ σ.heap) (A0u.noRef e _ hty) n)
      simp only[List.length_replicate,hz0]at this
      exact List.eq_nil_of_length_eq_zero this
     refine⟨ds,d2,d3,fun o ho=> ?_⟩
     rw[hemp]at d1
     have hn0:¬n*inf.size>2 ^ 24:=by rw[hs]; omega
     have hz0':n*inf.size=0:=by rw[hs]; exact hz0
     have d1':Instr.fill (fun i=>some (i*inf.size,inf.size)) #[] (parts.map fun q=>(q.1,a.eval q.2)).toList=some ds:=by simpa using d1
     simp[execOp,ho,Instr.buildSlice,run_underlying hu,sizeOf,typeInfo,z1,hz0',newRow]
     have d1'':Instr.fill (fun i=>some (i*inf.size,inf.size)) #[] (List.map (fun q=>(q.1,a.eval q.2)) parts.toList)=some ds:=by simpa using d1
     rw[show Array.range 0= #[]from rfl,Array.map_empty,d1'']; rfl
    ·obtain ⟨ds,d1,d2,d3⟩:=A7B (size:=inf.size) hs (n:=n) _ _ (List.replicate n e.zero) xs (List.replicate n e.zcells).flatten hrel hparts (by simp) hx (A0y (A0u.noRef e _ hty) n)
     refine⟨ds,d2,d3,fun o ho=> ?_⟩
     have hrow:=A4Z z.cells n (by rw[hzs]; rcases Nat.eq_zero_or_pos e.size with h0|h0; exact absurd (by rw[h0,Nat.mul_zero]) hz0; exact h0)
     have hrow':(Array.range (n*inf.size)).map (z.cells[· % z.cells.size]!)=(List.replicate n e.zcells).flatten.toArray:=by
      apply Array.ext'
      rw[hs,←hzs,hrow,z3]
     have hb:=run_buildSlice (P:=P) w T (cx.elem T) n (parts.map fun q=>(q.1,a.eval q.2)) ds inf z hu z1 z2 (by rw[hs]; omega) (by rw[hs]; exact hz0) (by rw[hrow']; simpa using d1)
     simp[execOp,ho,hb]
   obtain⟨C,k1,k2,k3⟩:=key
   have hm:xs.length≤maxLen:=by
    rw[k2]
    have:=Nat.le_of_ble_eq_true q6
    unfold maxLen; omega
   cases draw with
   |true=>
    have hb:=h.below (A0h.alloc (fun _=>False) w (.cells C (cx.elem T)))
    refine⟨_,_,h2,θ,_,_,hb,⟨_,rfl,_,n,n,C.toList,rfl,k2.symm,Nat.le_refl _,by rw[← k2]; exact hm,?_,?_⟩,.inl k3⟩
    ·have hst:A1G (A0d Xo θ σ.heap) (A0d Xo θ σ.heap) w (w.alloc (.cells C (cx.elem T))):=⟨⟨fun _=>False,A0h.alloc _ w _,fun _ _ h=>h.elim⟩,fun _ _ h=>h⟩
     exact A0o (fun c x hx=>hst.rep e c x hx) k1
    ·refine .inr ⟨w.heap.size,0,rfl,?_,fun hx=>absurd (A3y h hx) (by omega)⟩
     exact A1M (heap_alloc_new w _) (c1:=[]) (c:=C.toList) (c2:=[]) (by simp)
   |false=>
    obtain⟨r1,r2⟩:=B2b h id hid (cx.elem T) e xs C k1 hm
    rw[k2]at r1 r2
    exact⟨_,_,h2,_,_,_,r1,r2,.inl k3⟩
  ·cases h2
 ·cases hp
def B1a(v:Value)(f:Nat→List Sel→Option Value):List Sel→Option Value
 | []=>some v
 | .idx k::p=>f k p
 | .fld _::_=>none
theorem A4x{h:A0m}{d:DS}{tv:TV}{x:d.ty.den×List Nat}{v:Value}(hp:A0v h tv d=some x)(hv:A0g w X θ tv v):∃cs,A0i d.ty.isAgg v cs∧RV w X θ false tv cs:=by
 have h1:tv.isAgg=d.ty.isAgg∧(∀ c,tv≠ .tup c)∧tv≠ .dead∧tv≠ .und:=by
  cases tv with
  |pv t y=>
   cases d with
   |pl u=>
    simp only[A0v]at hp
    split at hp
    ·rename_i q; subst q; exact⟨rfl,by simp,by simp,by simp⟩
    ·cases hp
   |_=>simp[A0v]at hp
  |pr a b=>
   cases d with
   |pl u=>cases u<;>first|exact⟨rfl,by simp,by simp,by simp⟩|simp[A0v]at hp
   |pr c d=>exact⟨rfl,by simp,by simp,by simp⟩
   |sl E d=>simp[A0v]at hp
  |nilsl=>cases d<;>first|exact⟨rfl,by simp,by simp,by simp⟩|simp[A0v]at hp
  |sl j e=>cases d<;>first|exact⟨rfl,by simp,by simp,by simp⟩|simp[A0v]at hp
  |inn j p e=>cases d<;>first|exact⟨rfl,by simp,by simp,by simp⟩|simp[A0v]at hp
  |_=>cases d<;>simp[A0v]at hp
 obtain⟨h1,h2,h3,h4⟩:=h1
 obtain⟨cs,g1,g2⟩:=A2k h2 h3 h4 hv
 exact⟨cs,by rw[← h1]; exact g1,g2⟩
theorem A8T{base:Nat→Nat→Prop}{M:Nat→Prop}(hh:A1e w X θ base h){s:DS}{size:Nat}(hs:size=s.ty.size){n:Nat}:∀(ps:List (Nat×TV)) (vs:List (Nat×Value)) (xs ys:List s.ty.den) (cs:List Value) (skf:Nat→List Sel→Option Value) (L js ks:List Nat),A4E w X θ ps vs→(∀ q∈ps,q.1<n)→xs.length=n→
  A6c h s xs ps=some (ys,ks)→(js++ks).Nodup→(∀ j∈js,(A0b h j).isSome=true)→(∀ j∈ks,∀b,base j b→M b)→A0C (fun k=>A0t w M (skf k) s id) 0 L cs xs→Of θ js L→
  ∃(ds:Array Value) (skf':Nat→List Sel→Option Value) (L':List Nat),Instr.fill (fun i=>some (i*size,size)) cs.toArray vs=some ds∧A0C (fun k=>A0t w M (skf' k) s id) 0 L' ds.toList ys∧ys.length=n∧Of θ (js++ks) L'∧∀j∈js++ks,(A0b h j).isSome=true
 | [],[],xs,ys,cs,skf,L,js,ks,_,_,hl,hp,hd,hj,_,hc,ho=>by
  simp only[A6c,Option.some.injEq,Prod.mk.injEq]at hp
  obtain⟨rfl,rfl⟩:=hp
  exact⟨cs.toArray,skf,L,rfl,by simpa using hc,hl,by simpa using ho,by simpa using hj⟩
 |(i,t)::ps,(j,v)::vs,xs,ys,cs,skf,L,js,ks,⟨hij,htv,hr⟩,hq,hl,hp,hd,hj,hM,hc,ho=>by
  subst hij
  simp only[A6c]at hp
  split at hp
  ·rename_i y hy
   split at hp
   ·rename_i z hz
    simp only[Option.some.injEq,Prod.mk.injEq]at hp
    obtain⟨rfl,rfl⟩:=hp
    have hi:=hq (i,t) (by simp)
    obtain⟨vc,g1,g2⟩:=A4x hy htv
    have hd2:(js++y.2).Nodup:=by rw[← List.append_assoc]at hd; exact(List.nodup_append.1 hd).1
    obtain⟨e1,sk1,L1,e2,e3⟩:=A3m (M:=M) hh s t y.1 y.2 vc hy g2 (fun j hj=>hM j (List.mem_append_left _ hj)) (List.nodup_append.1 hd2).2.1
    have hvl:=A0t.length s _ _ vc _ e2
    have hvc:=A1x g1 (A0t.one s _ _ vc _ e2)
    have hxi:xs[i]? =some xs[i]:=by simp[hl,hi]
    obtain⟨A1,A2,A3,c1,c,c2,k1,k2,k3,k4,k5⟩:=A3H (fun k L c x hx=>A0t.length s _ L c x hx) i _ hc hxi
    have hcl:=A0t.length s _ _ c _ k4
    rw[Nat.zero_add]at k4 k5
    have hfold:=A5U (i*size) v.cells.toList 0 cs.toArray (by rw[hvc,hvl,k2]; simp[hcl,k3,hs])
    have hs':∀j∈js++y.2,(A0b h j).isSome=true:=fun k hk=>(List.mem_append.1 hk).elim (hj k) (e1 k)
    have hof:Of θ (js++y.2) (A1++(L1++A3)):=by
     have h1:Of θ js (A1++A3):=ho.sub (by rw[k1]; exact List.Sublist.append (List.Sublist.refl _) (List.sublist_append_right _ _))
     have h2:=Of.append hh h1 e3 hd2 hs'
     have hperm:((A1++A3)++L1).Perm (A1++(L1++A3)):=by rw[List.append_assoc]; exact List.Perm.append_left _ List.perm_append_comm
     exact⟨hperm.nodup_iff.1 h2.1,fun b hb=>h2.2 b (hperm.mem_iff.2 hb)⟩
    let skf1:Nat→List Sel→Option Value:=fun k=>if k=i then sk1 else skf k
    have hnew:A0C (fun k=>A0t w M (skf1 k) s id) 0 (A1++(L1++A3)) (c1++(vc++c2)) (xs.set i y.1):=
     k5 _ L1 vc y.1 (fun j L c x hne _ hx=>by simp only[skf1,if_neg hne]; exact hx) (by simp only[skf1,if_true]; exact e2)
    obtain⟨ds,skf',L',m1,m2,m3,m4,m5⟩:=A8T hh hs (n:=n) ps vs (xs.set i y.1) z.1 (c1++(vc++c2)) skf1 _ (js++y.2) z.2 hr (fun q hqm=>hq q (by simp[hqm])) (by simpa using hl) hz (by rw[List.append_assoc]; exact hd) hs' (fun j hj=>hM j (List.mem_append_right _ hj)) hnew hof
    refine⟨ds,skf',L',?_,m2,m3,by rw[← List.append_assoc]; exact m4,by rw[← List.append_assoc]; exact m5⟩
    have hsz:v.cells.size=size:=by rw[hs,←hvl,←hvc]; simp
    have hnot:¬(v.cells.size≠size∨i*size+v.cells.size>cs.toArray.size):=by rw[k2]; simp[hsz,hcl,k3,hs]
    rw[Instr.fill]
    simp only[Bool.or_eq_true,decide_eq_true_eq,hnot,if_false]
    rw[← m1]
    congr 1
    apply Array.ext'
    rw[← Array.foldl_toList,Array.toList_zipIdx]
    rw[show (c1++(vc++c2)).toArray.toList=c1++(vc++c2)from rfl]
    rw[hfold,hvc,hvl]
    have e1:i*size+0=c1.length:=by rw[hs]; omega
    rw[e1]
    subst k2
    have e2:c1.length+s.ty.size=(c1++c).length:=by simp[hcl]
    simp only[List.take_left']
    rw[e2,←List.append_assoc c1 c c2,List.drop_left]
   ·cases hp
  ·cases hp
 | [],_::_,_,_,_,_,_,_,_,h,_,_,_,_,_,_,_,_=>h.elim
 |_::_,[],_,_,_,_,_,_,_,h,_,_,_,_,_,_,_,_=>h.elim
theorem A6g{M:Nat→Prop}:∀(s:DS),s.okB=true→s.ty.noRef=true→A0t w M (fun _=>some (.slice none 0 0)) s id [] s.ty.zcells s.ty.zero
 | .pl t,h,hn=>⟨rfl,by simpa[DS.okB]using h,A1d t hn⟩
 | .sl E s,h,hn=>⟨_,[],[],rfl,rfl,rfl,A1k _ _ _ _,rfl,rfl⟩
 | .pr a b,h,hn=>by
  simp only[DS.okB,Bool.and_eq_true]at h
  have hn':a.ty.noRef=true∧b.ty.noRef=true:=by simpa[DS.ty,Ty.noRef]using hn
  exact⟨[],[],_,_,rfl,rfl,A0t.ren a id _ [] _ _ (fun _=>rfl) (A6g a h.1 hn'.1),A0t.ren b id _ [] _ _ (fun _=>rfl) (A6g b h.2 hn'.2)⟩
theorem A4h{M:Nat→Prop}{s:DS}(h:s.okB=true)(hn:s.ty.noRef=true):∀(n k:Nat),A0C (fun _=>A0t w M (fun _=>some (.slice none 0 0)) s id) k [] (List.replicate n s.ty.zcells).flatten (List.replicate n s.ty.zero)
 |0,k=>⟨rfl,by simp⟩
 |n+1,k=>⟨[],[],s.ty.zcells,(List.replicate n s.ty.zcells).flatten,rfl,by rw[List.replicate_succ,List.flatten_cons],A6g s h hn,A4h h hn n (k+1)⟩
theorem B2c(h:Rel w0 Xo σ θ as a w)(js:List Nat)(hjs:∀j∈js,(A0b σ.heap j).isSome=true∧j≠PIN)(id:Nat)(hid:id≠PIN)(E:TypeId)(s:DS)(xs:List s.ty.den)(C:Array Value){skf:Nat→List Sel→Option Value}{L:List Nat}
  (hc:A0C (fun k=>A0t w (w0.may id) (skf k) s _root_.id) 0 L C.toList xs) (ho:Of θ js L) (hm:xs.length≤maxLen):
  ∃o,Rel w0 Xo ((σ.killL js).add id (.tre E s xs)) (A0x θ id o) as a (w.alloc (.cells C E))∧
   A0g (w.alloc (.cells C E)) (A0d Xo (A0x θ id o) ((σ.killL js).add id (.tre E s xs)).heap) (A0x θ id o) (.inn id [] s.ty) (.slice (some ⟨w.heap.size,0,none⟩) xs.length xs.length):=by
 have hl:=A4J (fun k L c x hx=>A0t.length s _ L c x hx) hc
 let v:Value:= .slice (some ⟨w.heap.size,0,none⟩) xs.length xs.length
 have hlt:∀b∈L,b<w.heap.size:=fun b hb=>by
  obtain⟨j,j1,j2⟩:=ho.2 b hb
  obtain⟨b0,h0⟩:=Option.isSome_iff_exists.1 (hjs j j1).1
  exact((h.heap.blk j b0 h0).lt b j2).2
 refine⟨.tre (B1a v skf) (w.heap.size::L),h.addG js hjs id hid (.tre E s xs) _ (w':=w.alloc (.cells C E)) none (A0h.alloc _ w _) (fun b hb=>by cases hb) (fun b hb=> ?_) ?_,[v],rfl,_,_,v,A0n _ _ _,rfl,rfl,rfl⟩
 ·simp only[Own.has,List.mem_cons]at hb
  rcases hb with hb|hb
  ·subst hb; exact .inl (Nat.le_refl _)
  ·exact .inr (ho.2 b hb)
 ·refine ⟨_,_,v,A0n _ _ _,List.nodup_cons.2 ⟨fun hb=>absurd (hlt _ hb) (by omega),ho.1⟩,v,C.toList,L,rfl,rfl,by simp[v,Value.ownBlock],?_,?_⟩
  ·exact A2i (World.ownsRow_lit w C xs.length (Nat.zero_le _) hm (by simpa using hl)) (fun g hg=>by
    have hg':some w.heap.size=some g:=hg
    injection hg' with hg'
    subst hg'; exact h.new hid (Nat.le_refl _))
  ·refine A1B (fun k L1 c x hL hx=> ?_) hc
   exact A0t.ren s _root_.id _ L1 c x (fun r=>rfl) (hx.go s _ L1 c x (fun g hg=>Below.heap_alloc _ _ _ (hlt g (hL g hg))) (fun _ _ h=>h))
theorem A9L(hC:A1F P cx)(hZ:A2z P cx)(hE:A2y P cx)(h:Rel w0 Xo σ θ as a w){id:Nat}(hid:id≠PIN){T:TypeId}{n:Nat}{s:DS}{parts:Array (Nat×Operand)}(hp:A9K cx σ id T n s parts K=some r):
  ∃tv σ',K tv σ'=some r∧A1p P w0 Xo as a w (.buildSlice T n parts) tv σ':=by
 unfold A9K at hp
 obtain⟨h1,h2⟩:=A0a hp
 simp only[Bool.and_eq_true,decide_eq_true_eq,List.all_eq_true]at h1
 obtain⟨⟨⟨⟨⟨⟨q0,hT⟩,q1⟩,q2⟩,q3⟩,q6⟩,q5⟩:=h1
 have hu:=hE.elem T s.ty hT
 have hty:=hC.ty _ _ q1
 obtain⟨inf,z,z1,z2,z3,z4⟩:=hZ.zero _ _ q1 q2
 have hsz:=A0u.size s.ty _ hty
 unfold Program.hasSize at hsz
 have hs:inf.size=s.ty.size:=by simpa[z1]using hsz
 have hzs:z.cells.size=s.ty.size:=by
  have:=Rep.length s.ty s.ty.zcells s.ty.zero (A1d (w:=w) (X:=fun _=>False) s.ty (A0u.noRef s.ty _ hty))
  rw[← z3]at this; simpa using this
 have hrel:=A5f (fun x=>h.eval x) parts.toList
 have hsmall:=Nat.le_of_ble_eq_true q3
 split at h2
 ·rename_i zz hx
  obtain⟨h3,h4⟩:=A0a h2
  simp only[Bool.and_eq_true,Bool.not_eq_true',List.any_eq_false]at h3
  obtain⟨h3,hpin⟩:=h3
  have hnd:=A4j h3
  have hpin':∀j∈zz.2,j≠PIN:=fun j hj e=>hpin j hj (by rw[e]; exact Nat.beq_refl _)
  have hparts:∀q∈parts.toList.map (fun q=>(q.1,σ.eval q.2)),q.1<n:=by
   intro q hq
   obtain⟨p,hp1,rfl⟩:=List.mem_map.1 hq
   simpa[Nat.blt_eq]using q5 p hp1
  obtain⟨ds,skf,L,d1,d2,d3,d4,d5⟩:=A8T (M:=w0.may id) h.heap (size:=inf.size) hs (n:=n) _ _ (List.replicate n s.ty.zero) zz.1 (List.replicate n s.ty.zcells).flatten (fun _ _=>some (.slice none 0 0)) [] [] zz.2 hrel hparts (by simp) hx (by simpa using hnd) (fun j hj=>by simp at hj) (fun j hj b hb=>A0F.may_move hid (hpin' j hj) hb) (A4h q0 (A0u.noRef s.ty _ hty) n 0) Of.nil
  rw[List.nil_append]at d4 d5
  have k3:∀o:Oper,o.op= .buildSlice T n parts→(execOp a.eval o).run P w= .ok (.value (.slice (some ⟨w.heap.size,0,none⟩) n n)) (w.alloc (.cells ds (cx.elem T))):=by
   intro o ho
   by_cases hz0:n*s.ty.size=0
   ·have hemp:(List.replicate n s.ty.zcells).flatten=[]:=by
     have:=A0s (fun c x hx=>Rep.length s.ty c x hx) (A0y (w:=w) (X:=A0d Xo θ σ.heap) (A0u.noRef s.ty _ hty) n)
     simp only[List.length_replicate,hz0]at this
     exact List.eq_nil_of_length_eq_zero this
    rw[hemp]at d1
    have hz0':n*inf.size=0:=by rw[hs]; exact hz0
    have d1':Instr.fill (fun i=>some (i*inf.size,inf.size)) #[] (parts.map fun q=>(q.1,a.eval q.2)).toList=some ds:=by simpa using d1
    simp[execOp,ho,Instr.buildSlice,run_underlying hu,sizeOf,typeInfo,z1,hz0',newRow]
    have d1'':Instr.fill (fun i=>some (i*inf.size,inf.size)) #[] (List.map (fun q=>(q.1,a.eval q.2)) parts.toList)=some ds:=by simpa using d1
    rw[show Array.range 0= #[]from rfl,Array.map_empty,d1'']; rfl
   ·have hrow:=A4Z z.cells n (by rw[hzs]; rcases Nat.eq_zero_or_pos s.ty.size with h0|h0; exact absurd (by rw[h0,Nat.mul_zero]) hz0; exact h0)
    have hrow':(Array.range (n*inf.size)).map (z.cells[· % z.cells.size]!)=(List.replicate n s.ty.zcells).flatten.toArray:=by
     apply Array.ext'
     rw[hs,←hzs,hrow,z3]
    have hb:=run_buildSlice (P:=P) w T (cx.elem T) n (parts.map fun q=>(q.1,a.eval q.2)) ds inf z hu z1 z2 (by rw[hs]; omega) (by rw[hs]; exact hz0) (by rw[hrow']; simpa using d1)
    simp[execOp,ho,hb]
  have hm:zz.1.length≤maxLen:=by
   rw[d3]
   have:=Nat.le_of_ble_eq_true q6
   unfold maxLen; omega
  obtain⟨o,r1,r2⟩:=B2c h zz.2 (fun j hj=>⟨d5 j hj,hpin' j hj⟩) id hid (cx.elem T) s zz.1 ds d2 d4 hm
  rw[d3]at r2
  exact⟨_,_,h4,_,_,_,r1,r2,.inl k3⟩
 ·cases h2
theorem A7y(hC:A1F P cx)(hZ:A2z P cx)(hE:A2y P cx)(h:Rel w0 Xo σ θ as a w){lev:Nat}{draw:Bool}{d:Option Tmp}{T:TypeId}{n:Nat}{parts:Array (Nat×Operand)}(hp:A1u cx lev draw σ d (.buildSlice T n parts) K=some r):
  ∃tv σ',K tv σ'=some r∧A1p P w0 Xo as a w (.buildSlice T n parts) tv σ':=by
 simp only[A1u]at hp
 split at hp
 ·exact A9L hC hZ hE h (A1c lev d) hp
 split at hp
 ·exact A5O hC hZ hE h (A1c lev d) hp
 ·split at hp
  ·rename_i hτ _
   exact A5O hC hZ hE (Rel.fixAll _ _ _ h hτ).1 (A1c lev d) hp
  ·cases hp
theorem A9m{tv:TV}{K:Int→Option R}(h:A4p tv K=some r):∃k n,tv= .pv (.int k) n∧K n=some r:=by
 unfold A4p at h
 split at h
 ·exact ⟨_,_,rfl,h⟩
 ·cases h
theorem A8t(hC:A1F P cx)(hZ:A2z P cx)(hE:A2y P cx)(h:Rel w0 Xo σ θ as a w){lev:Nat}{draw:Bool}{d:Option Tmp}{T:TypeId}{l c:Operand}(hp:A1u cx lev draw σ d (.makeSlice T l c) K=some r):
  ∃tv σ',K tv σ'=some r∧A1p P w0 Xo as a w (.makeSlice T l c) tv σ':=by
 simp only[A1u]at hp
 split at hp
 ·rename_i l c e hT
  split at hp
  ·rename_i s hdp
   obtain⟨h1,h2⟩:=A0a hp
   simp only[Bool.and_eq_true,decide_eq_true_eq]at h1
   obtain⟨⟨⟨⟨q0,hlc⟩,hes⟩,q1⟩,q2⟩:=h1
   subst hes
   have hlc:=Nat.eq_of_beq_eq_true hlc
   subst hlc
   obtain⟨k,n,hev,h3⟩:=A9m h2
   obtain⟨h4,h5⟩:=A0a h3
   simp only[Bool.and_eq_true,decide_eq_true_eq]at h4
   obtain⟨⟨q3,q4⟩,q5⟩:=h4
   have hx:=h.eval (.tmp l)
   rw[hev]at hx
   obtain⟨hv,_⟩:=A1t hx
   have hu:=hE.elem T s.ty hT
   have hty:=hC.ty _ _ q1
   obtain⟨inf,z,z1,z2,z3,z4⟩:=hZ.zero _ _ q1 q2
   have hsz:=A0u.size s.ty _ hty
   unfold Program.hasSize at hsz
   have hs:inf.size=s.ty.size:=by simpa[z1]using hsz
   have hbytes:inf.bytes=cx.bytes (cx.elem T):=(hE.bytes _ _ _ q1 z1).resolve_right (by simp[q2])
   obtain⟨m,rfl⟩:=Int.eq_ofNat_of_zero_le q3
   have hm:m≤maxLen:=by unfold maxLen; omega
   have hrun:=run_make (P:=P) w T (cx.elem T) inf z hu z1 z2 k k (m:Int) (m:Int) q3 (Int.le_refl _) (by rw[hbytes,Int.mul_comm]; omega) (by omega)
   simp only[Int.toNat_natCast]at hrun h5
   have hzs:z.cells.size=s.ty.size:=by
    have:=Rep.length s.ty s.ty.zcells s.ty.zero (A1d (w:=w) (X:=fun _=>False) s.ty (A0u.noRef s.ty _ hty))
    rw[← z3]at this; simpa using this
   have hrowc:(madeCells z.cells (m*inf.size)).toList=(List.replicate m s.ty.zcells).flatten:=by
    rcases Nat.eq_zero_or_pos s.ty.size with h0|h0
    ·have hl:=A0s (fun c x hx=>Rep.length s.ty c x hx) (A0y (w:=w) (X:=A0d Xo θ σ.heap) (A0u.noRef s.ty _ hty) m)
     have hnil:(List.replicate m s.ty.zcells).flatten=[]:=List.eq_nil_of_length_eq_zero (by rw[hl,h0]; simp)
     rw[hnil]; simp[madeCells,hs,h0]
    ·have hrow:=A4Z z.cells m (by rw[hzs]; exact h0)
     unfold madeCells
     rw[hs,←hzs,hrow,z3]
   have hch:A0C (fun k=>A0t w (w0.may (A0R lev d)) ((fun _ _=>some (.slice none 0 0)) k) s id) 0 [] (madeCells z.cells (m*inf.size)).toList (List.replicate m s.ty.zero):=by
    rw[hrowc]
    exact A4h q0 (A0u.noRef s.ty _ hty) m 0
   obtain⟨o,r1,r2⟩:=B2c h [] (fun j hj=>by simp at hj) (A0R lev d) (A1c lev d) (cx.elem T) s (List.replicate m s.ty.zero) _ hch Of.nil (by simpa using hm)
   rw[List.length_replicate]at r2
   refine⟨_,_,h5,_,_,_,r1,r2,.inl fun o ho=> ?_⟩
   simp[execOp,ho,hv,hrun]
  obtain⟨h1,h2⟩:=A0a hp
  simp only[Bool.and_eq_true,decide_eq_true_eq]at h1
  obtain⟨⟨hlc,q1⟩,q2⟩:=h1
  have hlc:=Nat.eq_of_beq_eq_true hlc
  subst hlc
  obtain⟨k,n,hev,h3⟩:=A9m h2
  obtain⟨h4,h5⟩:=A0a h3
  simp only[Bool.and_eq_true,decide_eq_true_eq]at h4
  obtain⟨⟨q3,q4⟩,q5⟩:=h4
  have hx:=h.eval (.tmp l)
  rw[hev]at hx
  obtain⟨hv,_⟩:=A1t hx
  have hu:=hE.elem T e hT
  have hty:=hC.ty _ _ q1
  obtain⟨inf,z,z1,z2,z3,z4⟩:=hZ.zero _ _ q1 q2
  have hsz:=A0u.size e _ hty
  unfold Program.hasSize at hsz
  have hs:inf.size=e.size:=by simpa[z1]using hsz
  have hbytes:inf.bytes=cx.bytes (cx.elem T):=(hE.bytes _ _ _ q1 z1).resolve_right (by simp[q2])
  obtain⟨m,rfl⟩:=Int.eq_ofNat_of_zero_le q3
  have hm:m≤maxLen:=by unfold maxLen; omega
  have hrun:=run_make (P:=P) w T (cx.elem T) inf z hu z1 z2 k k (m:Int) (m:Int) q3 (Int.le_refl _) (by rw[hbytes,Int.mul_comm]; omega) (by omega)
  simp only[Int.toNat_natCast]at hrun h5
  have hzs:z.cells.size=e.size:=by
   have:=Rep.length e e.zcells e.zero (A1d (w:=w) (X:=fun _=>False) e (A0u.noRef e _ hty))
   rw[← z3]at this; simpa using this
  have hch:A0l (Rep w (A0d Xo θ σ.heap) e) (madeCells z.cells (m*inf.size)).toList (List.replicate m e.zero):=by
   rcases Nat.eq_zero_or_pos e.size with h0|h0
   ·have hl:=A0s (fun c x hx=>Rep.length e c x hx) (A0y (w:=w) (X:=A0d Xo θ σ.heap) (A0u.noRef e _ hty) m)
    have hnil:(List.replicate m e.zcells).flatten=[]:=List.eq_nil_of_length_eq_zero (by rw[hl,h0]; simp)
    have hc:=A0y (w:=w) (X:=A0d Xo θ σ.heap) (A0u.noRef e _ hty) m
    rw[hnil]at hc
    have:(madeCells z.cells (m*inf.size)).toList=[]:=by simp[madeCells,hs,h0]
    rw[this]; exact hc
   ·have hrow:=A4Z z.cells m (by rw[hzs]; exact h0)
    have:(madeCells z.cells (m*inf.size)).toList=(List.replicate m e.zcells).flatten:=by
     unfold madeCells
     rw[hs,←hzs,hrow,z3]
    rw[this]
    exact A0y (A0u.noRef e _ hty) m
  obtain⟨r1,r2⟩:=B2b h (A0R lev d) (A1c lev d) (cx.elem T) e (List.replicate m e.zero) _ hch (by simpa using hm)
  rw[List.length_replicate]at r1 r2
  refine⟨_,_,h5,_,_,_,r1,r2,.inl fun o ho=> ?_⟩
  simp[execOp,ho,hv,hrun]
 ·cases hp
end Go.Ai
/- Writing: into variables,into slices of the call's own,copy. -/
namespace Go.Ai
open Go.RowKit
variable {P:Program} {cx:Cx} {w0:A0F} {Xo:Nat→Prop} {σ:St} {θ:Nat→Option Own} {as:List (Array Value)} {a:Act} {w:World} {R:Type} {r:R} {K:TV→St→Option R}
theorem A2P{H:A0m}{i:Nat}{blk blk':Blk}(hg:A0b H i=some blk)(j:Nat):(A0b (A0I H i blk') j).isSome=(A0b H j).isSome:=by
 rw[A2Z]; split
 ·rename_i e; subst e; simp[hg]
 ·rfl
theorem A1Z(h:Rel w0 Xo σ θ as a w){i b:Nat}{blk blk':Blk}(hg:A0b σ.heap i=some blk)(hb:A0e θ i b)(o:Nat)(vs:List Value):
  A1G (A0d Xo θ σ.heap) (A0d Xo θ (A0I σ.heap i blk')) w (w.setCells b o vs):=by
 have hXb:A0d Xo θ σ.heap b:= .inr ⟨i,by simp[hg],hb⟩
 exact⟨⟨fun q=>q=b,A0h.setCells (X:=fun q=>q=b) b rfl vs o w,fun q _ hq=>hq▸hXb⟩,fun q _ hq=>by simpa only[A0d,A2P hg]using hq⟩
theorem Rel.rewrite(h:Rel w0 Xo σ θ as a w){i b:Nat}{blk blk':Blk}(hg:A0b σ.heap i=some blk)(hb:A0e θ i b)(o:Nat)(vs:List Value)
  (hn:A0A (w.setCells b o vs) (A0d Xo θ (A0I σ.heap i blk')) θ w0.may i blk'):Rel w0 Xo {σ with heap:=A0I σ.heap i blk'} θ as a (w.setCells b o vs):=by
 have hstep:=A1Z h hg hb (blk':=blk') o vs
 have hkeep:A0h w0.tk w0.w (w.setCells b o vs):=h.keeps.may (A0h.setCells (X:=fun q=>q=b) b rfl vs o w) fun q hq=>hq▸A0F.may_any ((h.heap.blk i _ hg).lt b hb).1
 refine h.next id hkeep (fun tv v hv=>A0g.step hstep tv v (fun _ _=>rfl) hv) (by simp) (by simp) ⟨fun j bj hj=> ?_,fun j k hjk hj hk q=> ?_⟩ (fun hs=>⟨by simpa only[A2P hg]using hs,rfl⟩)
 ·rw [A2Z]at hj
  split at hj
  ·rename_i e; subst e
   simp only[hg,Option.map_some,Option.some.injEq]at hj
   subst hj
   exact hn
  ·rename_i e
   have hbj:=h.heap.blk j bj hj
   have:=hbj.go (w':=w.setCells b o vs) hstep rfl (θ':=θ) (fun g hgb=>A0M b (fun hE=>by
    subst hE
    exact h.heap.inj j i e (by simp[hj]) (by simp[hg]) _ hgb hb) vs o w) id (fun c cs hc=>RV.step hstep false c cs (fun _ _=>rfl) hc) (fun c t h=>h)
   simpa[A7p]using this
 ·rw [A2P hg]at hj hk
  exact h.heap.inj j k hjk hj hk q
theorem B1f{α:Type}{L ds vs:List α}{o:Nat}(hd:L.take ds.length=ds)(hl:o+vs.length≤ds.length):
  (L.take o++(vs++L.drop (o+vs.length))).take ds.length=ds.take o++(vs++ds.drop (o+vs.length)):=by
 have hL:∃M,L=ds++M:=⟨L.drop ds.length,by have:=List.take_append_drop ds.length L; rw[hd]at this; exact this.symm⟩
 obtain⟨M,rfl⟩:=hL
 rw[List.take_append_of_le_length (by omega:o≤ds.length),List.drop_append_of_le_length (by omega)]
 have:ds.take o++(vs++(ds.drop (o+vs.length)++M))=(ds.take o++(vs++ds.drop (o+vs.length)))++M:=by simp
 rw[this,List.take_left' (by simp; omega)]
theorem A3a{base:Nat→Prop}{g:Nat}{E:TypeId}{size n:Nat}{v:Value}{ds:List Value}(h:A0E w base E size v n ds)(hv:v.ownBlock=some g){o:Nat}{vs:List Value}(hl:o+vs.length≤ds.length):
  A0E (w.setCells g o vs) base E size v n (ds.take o++(vs++ds.drop (o+vs.length)))∧w.there g o vs.length:=by
 obtain⟨h0,h1⟩:=h
 rcases h1 with⟨rfl,_⟩|⟨g',cap,cur,rfl,h2,h3,h4,h5,h6,h7⟩
 ·simp [Value.ownBlock]at hv
 ·simp only[Value.ownBlock,Option.some.injEq]at hv
  subst hv
  have hcur:ds.length≤cur.size:=by rw[← h7]; simp; omega
  obtain⟨C',m1,m2⟩:=A0U g' E vs o w cur h3 (by omega)
  have hsz:C'.size=cur.size:=by
   have:=congrArg List.length m2
   simp only[Array.length_toList,List.length_append,List.length_take,List.length_drop]at this
   omega
  refine⟨⟨?_,.inr ⟨g',cap,C',rfl,h2,m1,h4,h5,by rw[hsz]; exact h6,?_⟩⟩,fun j hj=>⟨?_,?_⟩⟩
  ·simp only[List.length_append,List.length_take,List.length_drop]; omega
  ·have hn:n*size=ds.length:=h0.symm
   rw[m2,hn]
   exact B1f (by rw[← hn]; exact h7) hl
  ·have:(cur[o+j]?).isSome=true:=by simp; omega
   simpa[World.cell?,h3]using this
  ·simp [World.frozen?,h3]
theorem A8h{α:Type}{a b c d:List α}(hl:b.length=d.length):(a++(b++c)).take a.length++(d++(a++(b++c)).drop (a.length+d.length))=a++(d++c):=by
 rw[List.take_left',←hl]
 ·congr 2
  rw[← List.append_assoc,show a.length+b.length=(a++b).length by simp,List.drop_left]
 ·rfl
theorem A2D:∀(t:Ty) (x:t.den) (p:List Sel) (u:Ty) (y:u.den) (x':t.den),setP t x p u y=some x'→∃z,Ai.getP t x p=some ⟨u,z⟩
 |t,x,[],u,y,x',h=>by
  have h':(if q:u=t then some (q▸y:t.den)else none)=some x':=by cases t<;>exact h
  split at h'
  ·rename_i q; subst q; exact⟨x,by cases u<;>rfl⟩
  ·cases h'
 | .pair a b,x,.fld 0::p,u,y,x',h=>by
  simp only[setP,Option.map_eq_some_iff]at h
  obtain⟨z,h1,_⟩:=h
  exact A2D a x.1 p u y z h1
 | .pair a b,x,.fld (n+1)::p,u,y,x',h=>by
  simp only[setP,Option.map_eq_some_iff]at h
  obtain⟨z,h1,_⟩:=h
  exact A2D b x.2 (.fld n::p) u y z h1
 | .arr n e,x,.idx k::p,u,y,x',h=>by
  simp only[setP,Option.map_eq_some_iff]at h
  obtain⟨z,h1,_⟩:=h
  exact A2D e (List.getD x k e.zero) p u y z h1
 | .int _,_,_::_,_,_,_,h| .bool,_,_::_,_,_,_,h| .str,_,_::_,_,_,_,h| .slice _,_,_::_,_,_,_,h| .unit,_,_::_,_,_,_,h| .ref _,_,_::_,_,_,_,h| .opt _,_,_::_,_,_,_,h| .fnc _,_,_::_,_,_,_,h=>by simp[setP]at h
 | .pair _ _,_,.idx _::_,_,_,_,h=>by simp[setP]at h
 | .arr _ _,_,.fld _::_,_,_,_,h=>by simp[setP]at h
theorem DS.get_of_set:∀(s:DS) (x:s.ty.den) (p:List Sel) (d:DS) (y:d.ty.den) (x':s.ty.den),s.set x p d y=some x'→∃z,s.get x p=some ⟨d,z⟩
 |s,x,[],d,y,x',h=>by
  have h':(if q:d=s then some (q▸y:s.ty.den)else none)=some x':=by cases s<;>exact h
  split at h'
  ·rename_i q; subst q; exact⟨x,DS.get_nil d x⟩
  ·cases h'
 | .sl E s,xs,.idx k::p,d,y,x',h=>by
  simp only[DS.set,Option.map_eq_some_iff]at h
  obtain⟨z',h1,_⟩:=h
  obtain⟨u,hu⟩:=DS.get_of_set s _ p d y z' h1
  exact⟨u,by simp only[DS.get]; exact hu⟩
 | .pr a b,x,.fld 0::p,d,y,x',h=>by
  simp only[DS.set,Option.map_eq_some_iff]at h
  obtain⟨z,h1,_⟩:=h
  exact DS.get_of_set a x.1 p d y z h1
 | .pr a b,x,.fld (n+1)::p,d,y,x',h=>by
  simp only[DS.set,Option.map_eq_some_iff]at h
  obtain⟨z,h1,_⟩:=h
  exact DS.get_of_set b x.2 (.fld n::p) d y z h1
 | .pl t,x,.fld n::p,d,y,x',h=>by
  cases d with
  |pl u=>
   have h':setP t x (.fld n::p) u y=some x':=by cases n<;>exact h
   obtain⟨z,hz⟩:=A2D t x _ u y x' h'
   refine⟨z,?_⟩
   have:(DS.pl t).get x (.fld n::p)=(Ai.getP t x (.fld n::p)).map fun q=>⟨.pl q.1,q.2⟩:=by cases n<;>rfl
   rw[this,hz]; rfl
  |_=>cases n<;>simp[DS.set]at h
 | .pl t,x,.idx n::p,d,y,x',h=>by
  cases d with
  |pl u=>
   have h':setP t x (.idx n::p) u y=some x':=h
   obtain⟨z,hz⟩:=A2D t x _ u y x' h'
   refine⟨z,?_⟩
   have:(DS.pl t).get x (.idx n::p)=(Ai.getP t x (.idx n::p)).map fun q=>⟨.pl q.1,q.2⟩:=rfl
   rw[this,hz]; rfl
  |_=>simp[DS.set]at h
 | .sl _ _,_,.fld _::_,_,_,_,h=>by simp[DS.set]at h
 | .pr _ _,_,.idx _::_,_,_,_,h=>by simp[DS.set]at h
theorem A8f{α:Type}{ds d1 c d2 c':List α}(hd:ds=d1++(c++d2))(hl:c'.length=c.length):ds.take d1.length++(c'++ds.drop (d1.length+c'.length))=d1++(c'++d2):=by
 rw[hd,A8h hl.symm]
theorem RV.killIn{X:Nat→Prop}{θ':Nat→Option Own}{i:Nat}{sk sk':List Sel→Option Value}{L L':List Nat}(hθ:∀j,j≠i→θ' j=θ j)(h1:θ i=some (.tre sk L))(h2:θ' i=some (.tre sk' L'))(h3:sk' []=sk []):(m:Bool)→(tv:TV)→(cs:List Value)→RV w X θ m tv cs→RV w X θ' m (tv.killIn i) cs
 |false,.pv _ _,_,hr=>hr
 |false,.pr a b,cs,⟨c1,c2,h0,k1,k2⟩=>⟨c1,c2,h0,RV.killIn hθ h1 h2 h3 false a c1 k1,RV.killIn hθ h1 h2 h3 false b c2 k2⟩
 |false,.ptr j t p,cs,⟨o,b,off,s,k1,k2,k3,k4,k5⟩=>by
  by_cases e:j=i
  ·subst e
   rw[h1]at k1; injection k1 with k1; subst k1
   refine⟨.tre sk' L',b,off,s,h2,?_,k3,?_,k5⟩
   ·simpa only[Own.base,h3]using k2
   ·cases p with
    |nil=>simp[Own.okp]at k4
    |cons q p=>cases q<;>simp only[Own.okp,h3]at k4 ⊢; exact k4
  ·exact ⟨o,b,off,s,(hθ j e).trans k1,k2,k3,k4,k5⟩
 |false,.sl j s,cs,⟨v,k1,k2,k3⟩=>by
  by_cases e:j=i
  ·subst e; rw[h1]at k1; cases k1
  ·exact ⟨v,(hθ j e).trans k1,k2,k3⟩
 |false,.inn j p s,cs,⟨sk0,L0,v,k1,k2,k3,k4⟩=>by
  by_cases e:j=i
  ·subst e
   rw[h1]at k1; injection k1 with k1; injection k1 with k1 k1'; subst k1; subst k1'
   simp only[TV.killIn,Nat.beq_refl,Bool.true_and]
   cases p with
   |nil=>exact⟨sk',L',v,h2,h3.trans k2,k3,k4⟩
   |cons q p=>exact⟨v,k3,k4⟩
  ·simp only[TV.killIn,A0c e,Bool.false_and,cond]; exact⟨sk0,L0,v,(hθ j e).trans k1,k2,k3,k4⟩
 |false,.vw j rt p s lo hi,cs,hr=>by
  obtain⟨o,v,k1,k2,k3⟩:=hr
  by_cases e:j=i
  ·subst e
   rw[h1]at k1; injection k1 with k1; subst k1
   obtain⟨_,_,_,_,_,_,k⟩:=k2
   exact k.elim
  ·exact ⟨o,v,(hθ j e).trans k1,k2,k3⟩
 |false,.clp _ _,_,hr=>hr
 |false,.nilsl,_,hr=>hr
 |false,.fn f c,cs,⟨vs,k1,k2⟩=>⟨vs,k1,RV.killIn hθ h1 h2 h3 true c vs k2⟩
 |false,.bad,_,hr=>hr
 |false,.tup _,_,hr=>by simp[RV]at hr
 |false,.und,_,hr=>by simp[RV]at hr
 |false,.dead,_,hr=>by simp[RV]at hr
 |true,.pr a b,vs,hr=>by
  have go:∀cs,RV w X θ false a cs→RV w X θ' false (a.killIn i) cs:=fun cs=>RV.killIn hθ h1 h2 h3 false a cs
  have gb:∀r,RV w X θ true b r→RV w X θ' true (b.killIn i) r:=fun r=>RV.killIn hθ h1 h2 h3 true b r
  have ga:(a.killIn i).isAgg=a.isAgg:=by
   cases a<;>simp only[TV.killIn,TV.isAgg]<;>cases(Nat.beq _ i&&_)<;>rfl
  cases a with
  |dead=>simp only[RV,TV.killIn]at hr ⊢; obtain⟨v,r,h0,k1,k2⟩:=hr; exact⟨v,r,h0,trivial,gb r k2⟩
  |und=>simp only[RV,TV.killIn]at hr ⊢; obtain⟨v,r,h0,k1,k2⟩:=hr; exact⟨v,r,h0,k1,gb r k2⟩
  |inn j p s=>
   have hr':∃v r,vs=v::r∧(∃ cs,A0i false v cs∧RV w X θ false (.inn j p s) cs)∧RV w X θ true b r:=hr
   obtain⟨v,r,h0,⟨cs,k1,k2⟩,k4⟩:=hr'
   have k3:=go cs k2
   simp only[TV.killIn]at k3⊢
   cases hc:Nat.beq j i&& !p.isEmpty with
   |true=>rw[hc]at k3; simp only[RV]; exact⟨v,r,h0,⟨cs,k1,k3⟩,gb r k4⟩
   |false=>rw[hc]at k3; simp only[RV]; exact⟨v,r,h0,⟨cs,k1,k3⟩,gb r k4⟩
  |_=>simp only[RV,TV.killIn]at hr ⊢; obtain⟨v,r,h0,⟨cs,k1,k2⟩,k4⟩:=hr; exact⟨v,r,h0,⟨cs,k1,go cs k2⟩,gb r k4⟩
 |true,.pv .unit _,vs,hr=>hr
 |true,.pv (.int _) _,_,h|true,.pv .bool _,_,h|true,.pv .str _,_,h|true,.pv (.slice _) _,_,h|true,.pv (.arr _ _) _,_,h|true,.pv (.pair _ _) _,_,h|true,.pv (.ref _) _,_,h|true,.pv (.opt _) _,_,h|true,.pv (.fnc _) _,_,h=>by simp[RV]at h
 |true,.ptr ..,_,h|true,.sl ..,_,h|true,.inn ..,_,h|true,.vw ..,_,h|true,.clp ..,_,h|true,.nilsl,_,h|true,.fn ..,_,h|true,.tup _,_,h|true,.bad,_,h|true,.und,_,h|true,.dead,_,h=>by simp[RV]at h
theorem A9T(i:Nat)(tv:TV):(tv.killIn i).isAgg=tv.isAgg:=by
 cases tv<;>simp only[TV.killIn,TV.isAgg]<;>cases(Nat.beq _ i&&_)<;>rfl
theorem A0g.killIn{X:Nat→Prop}{θ':Nat→Option Own}{i:Nat}{sk sk':List Sel→Option Value}{L L':List Nat}(hθ:∀j,j≠i→θ' j=θ j)(h1:θ i=some (.tre sk L))(h2:θ' i=some (.tre sk' L'))(h3:sk' []=sk [])(tv:TV)(v:Value)(hr:A0g w X θ tv v):A0g w X θ' (tv.killIn i) v:=by
 have fin:(∃ cs,A0i tv.isAgg v cs∧RV w X θ false tv cs)→A0g w X θ' (tv.killIn i) v:=by
  intro⟨cs,k1,k2⟩
  exact A3M (by rw[A9T]; exact k1) (RV.killIn hθ h1 h2 h3 false tv cs k2)
 cases tv with
 |dead=>trivial
 |und=>exact hr
 |tup c=>obtain⟨vs,k1,k2⟩:=hr; exact⟨vs,k1,RV.killIn hθ h1 h2 h3 true c vs k2⟩
 |_=>exact fin hr
theorem A4L(i:Nat):(tv:TV)→(t:Ty)→tv.fits t=true→(tv.killIn i).fits t=true
 | .pv _ _,_,h=>h
 | .pr a b,.pair s t,h=>by
  simp only[TV.fits,Bool.and_eq_true]at h
  simp[TV.killIn,TV.fits,A4L i a s h.1,A4L i b t h.2]
 | .inn j p e,.slice s,h=>by simp only[TV.killIn]; cases(Nat.beq j i&& !p.isEmpty); exact h; rfl
 | .ptr ..,_,h=>h
 | .sl ..,_,h=>h
 | .vw ..,_,h=>h
 | .fn ..,.opt _,h=>h
 | .clp ..,_,h=>h
 | .nilsl,_,h=>h
 | .bad,_,h=>h
 | .und,_,h=>h
 | .dead,_,h=>h
 | .tup _,t,h=>by cases t<;>simp[TV.fits]at h
 | .pr _ _,.int _,h| .pr _ _,.bool,h| .pr _ _,.str,h| .pr _ _,.slice _,h| .pr _ _,.arr _ _,h| .pr _ _,.unit,h| .pr _ _,.ref _,h| .pr _ _,.opt _,h| .pr _ _,.fnc _,h=>by simp[TV.fits]at h
 | .inn j (.fld n::p) s,.opt _,h=>by simp only[TV.killIn]; cases Nat.beq j i<;>rfl
 | .inn _ [] _,.opt _,h| .inn _ (.idx _::_) _,.opt _,h=>by simp[TV.fits]at h
 | .inn ..,.int _,h| .inn ..,.bool,h| .inn ..,.str,h| .inn ..,.arr _ _,h| .inn ..,.unit,h| .inn ..,.ref _,h| .inn ..,.pair _ _,h| .inn ..,.fnc _,h=>by simp[TV.fits]at h
 | .fn ..,.int _,h| .fn ..,.bool,h| .fn ..,.str,h| .fn ..,.slice _,h| .fn ..,.arr _ _,h| .fn ..,.unit,h| .fn ..,.ref _,h| .fn ..,.pair _ _,h=>by simp[TV.fits]at h
theorem Rel.retree(h:Rel w0 Xo σ θ as a w){i b:Nat}{E:TypeId}{s:DS}{xs zs:List s.ty.den}(hg:A0b σ.heap i=some (.tre E s xs)){sk sk':List Sel→Option Value}{L L':List Nat}(e1:θ i=some (.tre sk L))(hb:b∈L)(h3:sk' []=sk [])
  (js:List Nat) (hjs:∀j∈js,(A0b σ.heap j).isSome=true∧j≠PIN∧j≠i) (hi:i≠PIN) (hL:∀c∈L',c∈L∨∃j∈js,A0e θ j c) (o:Nat) (vs:List Value)
  (hn:A0t (w.setCells b o vs) (w0.may i) sk' (.sl E s) id L' [(sk' []).getD undef] zs) (hnd:L'.Nodup):
  Rel w0 Xo {(σ.killL js).killIn i with heap:=A0I ((σ.killL js).killIn i).heap i (.tre E s zs)} (A0x θ i (.tre sk' L')) as a (w.setCells b o vs):=by
 let θ':=A0x θ i (.tre sk' L')
 let w':=w.setCells b o vs
 have hθ:∀j,j≠i→θ' j=θ j:=fun j hj=>A0P θ i _ j hj
 have hθi:θ' i=some (.tre sk' L'):=A0n _ _ _
 let f:TV→TV:=fun tv=>(A0k js tv).killIn i
 have hget':∀k,A0b (A0I ((σ.killL js).killIn i).heap i (.tre E s zs)) k=if k=i then some (.tre E s zs)else if k∈js then none else(A0b σ.heap k).map (Blk.mapc f):=by
  intro k
  rw[A2Z]
  have h0:∀k,A0b ((σ.killL js).killIn i).heap k=if k∈js then none else(A0b σ.heap k).map (Blk.mapc f):=by
   intro k
   simp only[St.killIn,A1b,A1L]
   split
   ·rfl
   ·rw [Option.map_map]; congr 1; funext b; cases b<;>rfl
  by_cases e:k=i
  ·simp only[e,if_true]
   rw[h0,if_neg (fun hk=>(hjs i hk).2.2 rfl),hg]; rfl
  ·simp only[e,if_false]; exact h0 k
 have hbi:A0e θ i b:=by simpa[A0e,e1,Own.has]using hb
 have fresh:∀k,(A0b σ.heap k).isSome=true→∀b,A0e θ k b→w0.may k b∧b<w.heap.size:=by
  intro k hk b hb
  obtain⟨b0,h0⟩:=Option.isSome_iff_exists.1 hk
  exact(h.heap.blk k b0 h0).lt b hb
 have src:∀k bk,A0b (A0I ((σ.killL js).killIn i).heap i (.tre E s zs)) k=some bk→(k=i∧bk= .tre E s zs)∨(k≠i∧k∉js∧∃b0,A0b σ.heap k=some b0∧bk=b0.mapc f):=by
  intro k bk hbk
  rw[hget']at hbk
  by_cases e:k=i
  ·simp only[e,if_true,Option.some.injEq]at hbk; exact .inl ⟨e,hbk.symm⟩
  ·simp only[e,if_false]at hbk
   by_cases e2:k∈js
   ·simp [e2]at hbk
   ·simp only[e2,if_false]at hbk
    cases h0:A0b σ.heap k with
    |none=>simp[h0]at hbk
    |some b0=>simp only[h0,Option.map_some,Option.some.injEq]at hbk; exact .inr ⟨e,e2,b0,rfl,hbk.symm⟩
 have his:(A0b σ.heap i).isSome=true:=by simp[hg]
 have hhas:∀c,A0e θ' i c→A0e θ i c∨∃j∈js,A0e θ j c:=fun c hc=>by
  have:c∈L':=by simpa[A0e,hθi,Own.has]using hc
  rcases hL c this with h|h
  ·exact .inl (by simpa[A0e,e1,Own.has]using h)
  ·exact .inr h
 have hX:∀c,A0d Xo θ' (A0I ((σ.killL js).killIn i).heap i (.tre E s zs)) c→A0d Xo θ σ.heap c:=by
  intro c hc
  rcases hc with hc|⟨k,h1,h2⟩
  ·exact .inl hc
  ·obtain ⟨bk,hbk⟩:=Option.isSome_iff_exists.1 h1
   rcases src k bk hbk with⟨rfl,_⟩|⟨e,_,b0,h0,_⟩
   ·rcases hhas c h2 with h|⟨j,j1,j2⟩
    ·exact .inr ⟨_,his,h⟩
    ·exact .inr ⟨j,(hjs j j1).1,j2⟩
   ·exact .inr ⟨k,by simp[h0],by simpa[A0e,hθ k e]using h2⟩
 have hst:A1G (A0d Xo θ σ.heap) (A0d Xo θ' (A0I ((σ.killL js).killIn i).heap i (.tre E s zs))) w w':=
  ⟨⟨fun q=>q=b,A0h.setCells (X:=fun q=>q=b) b rfl vs o w,fun q _ hq=>hq▸ .inr ⟨i,his,hbi⟩⟩,fun c _ hc=>hX c hc⟩
 have hkeep:A0h w0.tk w0.w w':=h.keeps.may (A0h.setCells (X:=fun q=>q=b) b rfl vs o w) fun q hq=>hq▸A0F.may_any (fresh i his b hbi).1
 have hf:∀tv v,A0g w (A0d Xo θ σ.heap) θ tv v→A0g w' (A0d Xo θ' (A0I ((σ.killL js).killIn i).heap i (.tre E s zs))) θ' (f tv) v:=fun tv v hv=>A0g.step hst _ v (fun _ _=>rfl) (A0g.killIn hθ e1 hθi h3 _ v (A3k js tv v (fun _ _=>rfl) hv))
 have hf2:∀c cs,RV w (A0d Xo θ σ.heap) θ false c cs→RV w' (A0d Xo θ' (A0I ((σ.killL js).killIn i).heap i (.tre E s zs))) θ' false (f c) cs:=fun c cs hc=>RV.step hst false _ cs (fun _ _=>rfl) (RV.killIn hθ e1 hθi h3 false _ cs (A3v js false c cs (fun _ _=>rfl) hc))
 refine h.next f hkeep hf (by simp[St.killIn,A2u,f,Function.comp_def]) (by simp[St.killIn,A3V,f,Function.comp_def]) ⟨fun k bk hbk=> ?_,fun k l hkl hk hl c hc1 hc2=> ?_⟩ (fun hs=> ?_)
 ·rcases src k bk hbk with⟨rfl,rfl⟩|⟨e,e2,b0,h0,rfl⟩
  ·exact ⟨sk',L',_,hθi,hnd,hn⟩
  ·exact (h.heap.blk k b0 h0).go hst (hθ k e) (fun g hgb=>A0M b (fun hE=>by subst hE; exact h.heap.inj k i e (by simp[h0]) his _ hgb hbi) vs o w) f hf2 (fun c t ht=>A4L i _ t (A2G js c t ht))
 ·obtain ⟨bk,hbk⟩:=Option.isSome_iff_exists.1 hk
  obtain⟨bl,hbl⟩:=Option.isSome_iff_exists.1 hl
  have old:∀k,k≠i→A0e (A0x θ i (.tre sk' L')) k c→A0e θ k c:=fun k hk h=>by unfold A0e at h ⊢; rw[A0P _ _ _ k hk]at h; exact h
  have key:∀k,k≠i→k∉js→(A0b σ.heap k).isSome=true→A0e θ k c→¬A0e θ' i c:=by
   intro k e1 e2 hs hc hd
   rcases hhas c hd with h1|⟨j,j1,j2⟩
   ·exact h.heap.inj k i e1 hs his c hc h1
   ·exact h.heap.inj k j (fun e=>e2 (e▸j1)) hs (hjs j j1).1 c hc j2
  rcases src k bk hbk with⟨rfl,_⟩|⟨k1,k2,b0,k3,_⟩<;>rcases src l bl hbl with⟨rfl,_⟩|⟨l1,l2,c0,l3,_⟩
  ·exact hkl rfl
  ·exact key l l1 l2 (by simp[l3]) (old l l1 hc2) hc1
  ·exact key k k1 k2 (by simp[k3]) (old k k1 hc1) hc2
  ·exact h.heap.inj k l hkl (by simp[k3]) (by simp[l3]) c (old k k1 hc1) (old l l1 hc2)
 ·obtain ⟨bk,hbk⟩:=Option.isSome_iff_exists.1 hs
  rcases src PIN bk hbk with⟨e,_⟩|⟨e,e2,b0,h0,_⟩
  ·exact absurd e.symm hi
  ·exact ⟨by simp[h0],hθ PIN e⟩
def A6R:List Sel→List Sel→Option (List Sel)
 | [],q=>some q
 |a::p,b::q=>if a=b then A6R p q else none
 |_::_,[]=>none
theorem A5R:∀(p q:List Sel),A6R p (p++q)=some q
 | [],q=>rfl
 |a::p,q=>by simp[A6R,A5R p q]
theorem A7x:∀(p q:List Sel),(∀ q',q≠p++q')→A6R p q=none
 | [],q,h=>absurd rfl (h q)
 |a::p,[],h=>rfl
 |a::p,b::q,h=>by
  simp only[A6R]
  split
  ·rename_i e; subst e
   exact A7x p q (fun q' hq=>h q' (by rw[hq]; rfl))
  ·rfl
theorem B1z(hC:A1F P cx)(h:Rel w0 Xo σ θ as a w){T:TypeId}{t:Ty}(hT:cx.ty T=some t){x y:Operand}{τ:St}(hs:B1U σ t (σ.eval x) (σ.eval y)=some τ)(hp:K .dead τ=some r):
  ∃tv σ',K tv σ'=some r∧A1p P w0 Xo as a w (.store T x y) tv σ':=by
 have hx:=h.eval x
 have hy:=h.eval y
 unfold B1U at hs
 split at hs
 ·rename_i i rt p he
  rw[he]at hx
  obtain⟨o,b,off,s,q1,q2,q3,q4,hv⟩:=A3A hx
  split at hs
  ·rename_i E s0 xs hg
   obtain⟨hcnd,hs1⟩:=A0a hs
   simp only[Bool.and_eq_true,decide_eq_true_eq]at hcnd
   obtain⟨hrt,hsub⟩:=hcnd
   subst hrt
   split at hs1
   ·rename_i d hd
    split at hs1
    ·rename_i yv hyv
     obtain⟨hcnd,hs2⟩:=A0a hs1
     simp only[Bool.and_eq_true,Bool.not_eq_true',List.any_eq_false]at hcnd
     obtain⟨⟨⟨cc1,cc2⟩,cc3⟩,cc4⟩:=hcnd
     have hpi:i≠PIN:=A2S cc4
     have hnd:=A4j cc1
     have hpin':∀j∈yv.2,j≠PIN:=fun j hj e=>cc2 j hj (by rw[e]; exact Nat.beq_refl _)
     have hni:∀j∈yv.2,j≠i:=fun j hj e=>cc3 j hj (by rw[e]; exact Nat.beq_refl _)
     split at hs2
     ·rename_i zs A0I
      injection hs2 with hs2
      subst hs2
      obtain⟨sk,L,vv,e1,e2,e3⟩:=h.heap.blk i _ hg
      rw[e1]at q1; injection q1 with q1; subst q1
      obtain⟨k,r0,o2,rfl,ha,rfl,hkn,v0,hv0,hb0⟩:=B0j q2 q3 q4
      obtain⟨z,hz⟩:=DS.get_of_set _ _ _ _ _ _ A0I
      obtain⟨m1,m2,m3,ds,d1,c,d2,L1,L2,L3,m4,m5,m6,m7,m8,m9⟩:=A6G e3 hkn ha hz
      have hst:s=t:=by
       simp only[Ty.rsub]at hsub
       rw[Ty.sub_of_at _ _ _ _ ha]at hsub; injection hsub
      subst hst
      rw[m2]at hv0; injection hv0 with hv0; subst hv0
      obtain⟨vc,g1,g2⟩:=A4x hyv hy
      obtain⟨f1,sk1,K1,f2,f3⟩:=A3m (M:=w0.may i) h.heap d _ yv.1 yv.2 vc hyv g2 (fun j hj b hb=>A0F.may_move hpi (hpin' j hj) hb) hnd
      have hvc:=A1x g1 (A0t.one d _ _ vc _ f2)
      have hvl:=A0t.length d _ _ vc _ f2
      have hcl:=A0t.length d _ _ c z m8
      obtain⟨own',hthere⟩:=A3a m4 hb0 (o:=d1.length) (vs:=vc) (by rw[m5]; simp; omega)
      rw[A8f m5 (by omega)]at own'
      rw[m6]at own' hthere
      have hL:L=b::(L1++(L2++L3)):=by rw[m7,hb0]; rfl
      have hbi:A0e θ i b:=by simp[A0e,e1,Own.has,hL]
      have his:(A0b σ.heap i).isSome=true:=by simp[hg]
      have inL:∀g∈L,A0e θ i g:=fun g hg'=>by simpa[A0e,e1,Own.has]using hg'
      have hKi:∀g∈K1,g∉L:=fun g hg' hgl=>by
       obtain⟨j,j1,j2⟩:=f3.2 g hg'
       exact h.heap.inj j i (hni j j1) (f1 j j1) his g j2 (inL g hgl)
      let sk':List Sel→Option Value:=fun q=>match A6R (.idx k::r0) q with
       |some q'=>sk1 q'
       |none=>sk q
      have hk1:∀q,sk' (.idx k::(r0++q))=sk1 q:=fun q=>by
       have:A6R (.idx k::r0) (.idx k::(r0++q))=some q:=A5R (.idx k::r0) q
       simp only[sk',this]
      have hk2:∀q,(∀ q',q≠ .idx k::(r0++q'))→sk' q=sk q:=fun q hq=>by
       have:A6R (.idx k::r0) q=none:=A7x _ _ hq
       simp only[sk',this]
      have hbn:b∉L1++L3:=by
       rw[hL]at e2
       have:=(List.nodup_cons.1 e2).1
       simp only[List.mem_append,not_or]at this⊢
       exact⟨this.1,this.2.2⟩
      have hbK:b∉K1:=fun hb1=>hKi b hb1 (by rw[hL]; simp)
      obtain⟨xs',x1,x2⟩:=m9 (w.setCells b (k*s0.ty.size+o2) vc) sk' K1 vc yv.1 (fun g hg'=>A0M b (fun e=>hbn (e▸hg')) vc _ w) hk2 own'
       (A0t.ren d id _ K1 vc yv.1 hk1 (f2.go d id K1 vc yv.1 (fun g hg'=>A0M b (fun e=>hbK (e▸hg')) vc _ w) (fun _ _ h=>h)))
      rw[x1]at A0I; injection A0I with A0I; subst A0I
      have hroot:sk' []=sk []:=hk2 [] (fun q' hq'=>by cases hq')
      have hrun:=A2a (w:=w) (hC.ty T _ hT) hthere (by rw[hvl,m1]) hvc (A0t.one d _ _ vc _ f2)
      have hnd':(b::(L1++(K1++L3))).Nodup:=by
       have h13:(L1++L3).Nodup:=by
        rw[hL]at e2
        exact(List.nodup_cons.1 e2).2.sublist (List.Sublist.append (List.Sublist.refl _) (List.sublist_append_right _ _))
       have hperm:((L1++L3)++K1).Perm (L1++(K1++L3)):=by rw[List.append_assoc]; exact List.Perm.append_left _ List.perm_append_comm
       refine List.nodup_cons.2 ⟨fun hb1=> ?_,hperm.nodup_iff.1 (List.nodup_append.2 ⟨h13,f3.1,fun g h1 c h2 e=> ?_⟩)⟩
       ·rcases List.mem_append.1 (hperm.mem_iff.2 hb1)with h1|h1
        ·exact hbn h1
        ·exact hbK h1
       ·subst e
        refine hKi g h2 ?_
        rw[hL]
        simp only[List.mem_append,List.mem_cons]at h1⊢
        rcases h1 with h1|h1<;>simp[h1]
      have hrel:=h.retree hg (zs:=xs') e1 (b:=b) (by rw[hL]; simp) hroot yv.2 (fun j hj=>⟨f1 j hj,hpin' j hj,hni j hj⟩) hpi (L':=b::(L1++(K1++L3))) (fun c hc=> ?_) (k*s0.ty.size+o2) vc ?_ hnd'
      ·exact ⟨.dead,_,hp,_,undef,_,hrel,trivial,.inr ⟨rfl,fun o ho=>by simp[execOp,ho,hv,hrun]⟩⟩
      ·simp only[List.mem_cons,List.mem_append]at hc
       rw[hL]
       rcases hc with hc|hc|hc|hc
       ·exact .inl (by simp[hc])
       ·exact .inl (by simp[hc])
       ·exact .inr (f3.2 c hc)
       ·exact .inl (by simp[hc])
      ·rw [hroot,m2]
       simpa[hb0]using x2
     ·cases hs2
    ·cases hs1
   ·cases hs1
  ·cases hs
 ·cases hs
theorem B2R(hC:A1F P cx)(h:Rel w0 Xo σ θ as a w){lev:Nat}{draw:Bool}{d:Option Tmp}{T:TypeId}{x y:Operand}(hp:A1u cx lev draw σ d (.store T x y) K=some r):
  ∃tv σ',K tv σ'=some r∧A1p P w0 Xo as a w (.store T x y) tv σ':=by
 simp only[A1u]at hp
 split at hp
 ·rename_i t hT
  split at hp
  ·rename_i hp' hs
   have hx:=h.eval x
   have hy:=A9r (σ.eval y) t _ (h.eval y)
   obtain⟨vy,hvy⟩:∃vy,vy=A5p (σ.eval y) t:=⟨_,rfl⟩
   rw[← hvy]at hs hy
   unfold A5I at hs
   split at hs
   ·rename_i i rt p he
    rw[he]at hx
    obtain⟨o,b,off,s,q1,q2,q3,q4,hv⟩:=A3A hx
    split at hs
    ·rename_i rr c hg
     have hs':(decide (rr=rt)&&decide (rt.rsub p=some t)&&vy.fits t)=true∧(match c.setP p vy with|some c'=>some (A0I σ.heap i (.var rr c'))|none=>none)=some hp':=by
      cases hcnd:(decide (rr=rt)&&decide (rt.rsub p=some t)&&vy.fits t)with
      |true=>rw[hcnd]at hs; exact⟨rfl,hs⟩
      |false=>rw[hcnd]at hs; cases hs
     obtain⟨h1,h2⟩:=hs'
     simp only[Bool.and_eq_true,decide_eq_true_eq]at h1
     obtain⟨⟨rfl,hsub⟩,hfit⟩:=h1
     split at h2
     ·rename_i c' hc'
      injection h2 with h2
      subst h2
      obtain⟨b',C,E,e1,e2,e3,e4,e5⟩:=h.heap.blk i _ hg
      rw[e1]at q1; injection q1 with q1; subst q1
      simp only[Own.base,Option.some.injEq]at q2; subst q2
      have hst:s=t:=by
       rw[A3c q3]at hsub; injection hsub
      subst hst
      have hat:rr.at p=some (off,s):=by
       cases rr with
       |slice e=>
        cases p with
        |nil=>exact q3
        |cons q p=>
         exfalso
         cases c with
         |pv s2 z=>
          have:s2= .slice e:=by simpa[TV.fits]using e5
          subst this
          cases hev:vy<;>rw[hev]at hc'<;>simp[TV.setP,Ai.setP,A7g]at hc'
         |pr a b=>simp[TV.fits]at e5
         |_=>simp[TV.setP]at hc'
       |_=>exact q3
      obtain⟨vc,g1,g2,g3⟩:=A5T hfit hy
      have hvc:=A1x g1 (RV.one _ vc g2)
      have hle:=A6H.at_le rr p off s hat
      have hl:=RV.length c rr C.toList e5 e4
      have hsplit:C.toList=C.toList.take off++((C.toList.drop off).take s.size++C.toList.drop (off+s.size)):=by
       rw[← List.drop_drop,List.take_append_drop,List.take_append_drop]
      obtain⟨k1,k2⟩:=A6H c rr p C.toList off s _ c' vc hat e5 hc' e4 hfit g2 _ _ _ hsplit (by simp at hl ⊢; omega) (by simp at hl ⊢; omega)
      have hCs:C.size=rr.size:=by simpa using hl
      obtain⟨C',m1,m2⟩:=A0U b' E vc off w C e3 (by omega)
      have hthere:w.there b' off vc.length:=by
       intro j hj
       refine⟨?_,?_⟩
       ·have:(C[off+j]?).isSome=true:=by simp; omega
        simpa[World.cell?,e3]using this
       ·simp [World.frozen?,e3]
      have hrun:=A2a (w:=w) (hC.ty T _ hT) hthere g3 hvc (RV.one _ vc g2)
      have hbase:A0e θ i b':=by simp[A0e,e1,Own.has]
      have hstep:=A1Z h hg hbase (blk':= .var rr c') off vc
      have hrel:=h.rewrite hg hbase off vc (blk':= .var rr c') ⟨b',C',E,e1,e2,m1,by rw[m2,g3]; exact RV.step hstep false c' _ (fun _ _=>rfl) k2,k1⟩
      exact⟨.dead,_,hp,θ,undef,_,hrel,trivial,.inr ⟨rfl,fun o ho=>by simp[execOp,ho,hv,hrun]⟩⟩
     ·cases h2
    ·rename_i E e xs hg
     have hs':(decide (Ty.slice e=rt)&&decide (rt.rsub p=some t))=true:=by
      cases hcnd:(decide (Ty.slice e=rt)&&decide (rt.rsub p=some t))with
      |true=>rfl
      |false=>rw[hcnd]at hs; cases hs
     rw[hs']at hs
     simp only[Bool.and_eq_true,decide_eq_true_eq]at hs'
     obtain⟨hrt,hsub⟩:=hs'
     subst hrt
     simp only[cond]at hs
     obtain⟨vv,ds,e1,e2,e3⟩:=h.heap.blk i _ hg
     rw[e1]at q1; injection q1 with q1; subst q1
     split at hs
     ·rename_i k q
      split at hs
      ·rename_i yv hyv
       cases hids:vy.ids.isEmpty with
       |false=>rw[hids]at hs; cases hs
       |true=>
       rw[hids]at hs
       simp only[cond]at hs
       have hids':vy.ids=[]:=by simpa using hids
       obtain⟨vc,g1,g2⟩:=A8j hyv hids' hy
       have hvc:=A1x g1 (Rep.one t vc yv g2)
       have hk:k<xs.length:=by
        rcases e2.2 with⟨hn,hz⟩|⟨g,cap,cur,hn,_⟩
        ·rw [hn]at q4; simp only[Own.okp]at q4; omega
        ·rw [hn]at q4; simpa[Own.okp]using q4
       simp only[Ty.rat]at q3
       cases hq:e.at q with
       |none=>simp[hq]at q3
       |some qq=>
        obtain⟨o2,s2⟩:=qq
        simp only[hq,Option.map_some,Option.some.injEq,Prod.mk.injEq]at q3
        obtain⟨hoff,hss⟩:=q3
        have hst:s2=t:=by
         have:e.sub q=some s2:=Ty.sub_of_at e q o2 s2 hq
         simp only[Ty.rsub]at hsub
         rw[this]at hsub; injection hsub
        subst hst
        obtain⟨c1,c,c2,k1,k2,k3,k4⟩:=A1C (fun c x hx=>Rep.length e c x hx) e.zero k e3 hk
        obtain⟨y0,z1,d1,d,d2,z2,z3,z4,z5⟩:=A2E e _ q c o2 s2 hq k3
        obtain⟨x',x1,x2⟩:=z5 vc yv g2
        rw[x1]at hs
        simp only[Option.some.injEq]at hs
        subst hs
        have hch:=k4 _ _ x2
        have hdl:=Rep.length s2 d y0 z4
        have hvl:=Rep.length s2 vc yv g2
        have hds:ds=(c1++d1)++(d++(d2++c2)):=by rw[k1,z2]; simp
        have hofl:off=(c1++d1).length:=by simp[k2,z3]; omega
        obtain⟨own',hthere⟩:=A3a e2 (g:=b) (by simpa[Own.base]using q2) (o:=off) (vs:=vc) (by rw[hds,hofl]; simp; omega)
        have hnew:ds.take off++(vc++ds.drop (off+vc.length))=c1++((d1++(vc++d2))++c2):=by
         rw[hds,hofl,A8h (by omega)]; simp
        rw[hnew]at own'
        have hrun:=A2a (w:=w) (hC.ty T _ hT) hthere hvl hvc (Rep.one _ vc yv g2)
        have hbase:A0e θ i b:=by simp[A0e,e1]; exact q2
        have hstep:=A1Z h hg hbase (blk':= .arr E e (xs.set k x')) off vc
        have hrel:=h.rewrite hg hbase off vc (blk':= .arr E e (xs.set k x')) ⟨vv,_,e1,by rw[List.length_set]; exact own',A0o (fun c x hx=>hstep.rep e c x hx) hch⟩
        exact⟨.dead,_,hp,θ,undef,_,hrel,trivial,.inr ⟨rfl,fun o ho=>by simp[execOp,ho,hv,hrun]⟩⟩
      ·cases hs
     ·cases hs
    ·rename_i E s0 xs hg
     obtain⟨hrt,hs1⟩:=A0a hs
     simp only[decide_eq_true_eq]at hrt
     subst hrt
     split at hs1
     ·rename_i yv hyv
      obtain⟨hids,hs2⟩:=A0a hs1
      have hids':vy.ids=[]:=by simpa using hids
      split at hs2
      ·rename_i zs A0I
       injection hs2 with hs2
       subst hs2
       obtain⟨sk,L,vv,e1,e2,e3⟩:=h.heap.blk i _ hg
       rw[e1]at q1; injection q1 with q1; subst q1
       obtain⟨k,r0,o2,rfl,ha,rfl,hkn,v0,hv0,hb0⟩:=B0j q2 q3 q4
       obtain⟨z,hz⟩:=DS.get_of_set _ _ _ _ _ _ A0I
       obtain⟨m1,m2,m3,ds,d1,c,d2,L1,L2,L3,m4,m5,m6,m7,m8,m9⟩:=A6G e3 hkn ha hz
       have m1':t=s:=m1
       subst m1'
       rw[m2]at hv0; injection hv0 with hv0; subst hv0
       obtain⟨n1,n2,n3⟩:=m8
       obtain⟨vc,g1,g2⟩:=A8j hyv hids' hy
       have hvc:=A1x g1 (Rep.one t vc yv g2)
       have hvl:=Rep.length t vc yv g2
       have hcl:=Rep.length t c z n3
       obtain⟨own',hthere⟩:=A3a m4 hb0 (o:=d1.length) (vs:=vc) (by rw[m5]; simp; omega)
       rw[A8f m5 (by omega)]at own'
       rw[m6]at own' hthere
       have hL:L=b::(L1++([]++L3)):=by rw[m7,n1,hb0]; rfl
       have hbn:b∉L1++L3:=by rw[hL]at e2; simpa using(List.nodup_cons.1 e2).1
       have hbase:A0e θ i b:=by simp[A0e,e1,Own.has,hL]
       obtain⟨xs',x1,x2⟩:=m9 (w.setCells b (k*s0.ty.size+o2) vc) sk [] vc yv (fun g hg'=>A0M b (fun e=>hbn (e▸hg')) vc _ w) (fun _ _=>rfl) own' ⟨rfl,n2,A0S t n2 vc yv g2⟩
       rw[x1]at A0I; injection A0I with A0I; subst A0I
       have hrun:=A2a (w:=w) (hC.ty T _ hT) hthere hvl hvc (Rep.one _ vc yv g2)
       have hrel:=h.rewrite hg hbase (k*s0.ty.size+o2) vc (blk':= .tre E s0 xs') ⟨sk,L,vv,e1,e2,by rw[hL]; simpa[hb0]using x2⟩
       exact⟨.dead,_,hp,θ,undef,_,hrel,trivial,.inr ⟨rfl,fun o ho=>by simp[execOp,ho,hv,hrun]⟩⟩
      ·cases hs2
     ·cases hs1
    ·cases hs
    ·cases hs
   ·cases hs
  ·split at hp
   ·rename_i τ _ hτ
    exact B1z hC h hT hτ hp
   ·cases hp
 ·cases hp
end Go.Ai

