/- The machine, and that it is sound. No conditions. -/
import Derived.Test.YtkpacjofafjonabGreatEd
import Derived.Lib.LaidTab
import Derived.Lib.ItoaNum
import Derived.StillTail
/- What a call hands back,in its caller's state. -/
namespace Go.Ai
open Go.RowKit
variable {P:Program} {cx:Cx} {w0:A0F} {Xo:Nat→Prop} {σ:St} {θ:Nat→Option Own} {as:List (Array Value)} {a:Act} {w:World} {X:Nat→Prop} {R:Type} {r:R}
theorem A3Z{w':World}{X':Nat→Prop}:(t:Ty)→t.hasRef=false→(cs:List Value)→(x:t.den)→Rep w X t cs x→Rep w' X' t cs x
 | .int _,_,_,_,h=>h
 | .bool,_,_,_,h=>h
 | .str,_,_,_,h=>h
 | .slice _,hn,_,_,_=>by simp[Ty.hasRef]at hn
 | .arr n e,hn,cs,xs,⟨h1,h2⟩=>⟨h1,A0o (fun c x hx=>A3Z e (by simpa[Ty.hasRef]using hn) c x hx) h2⟩
 | .unit,_,_,_,h=>h
 | .pair a b,hn,cs,x,⟨c1,c2,h0,h1,h2⟩=>by
  simp only[Ty.hasRef,Bool.or_eq_false_iff]at hn
  exact⟨c1,c2,h0,A3Z a hn.1 c1 x.1 h1,A3Z b hn.2 c2 x.2 h2⟩
 | .ref _,hn,_,_,_=>by simp[Ty.hasRef]at hn
 | .opt _,hn,_,_,_=>by simp[Ty.hasRef]at hn
 | .fnc _,_,_,_,h=>h
theorem A1S{X':Nat→Prop}:(m:Bool)→(tv:TV)→(cs:List Value)→tv.alias=false→RV w X θ m tv cs→RV w X' θ m tv cs
 |false,.pv t x,cs,hn,h=>A3Z t hn cs x h
 |false,.pr a b,cs,hn,⟨c1,c2,h0,h1,h2⟩=>by
  simp only[TV.alias,Bool.or_eq_false_iff]at hn
  exact⟨c1,c2,h0,A1S false a c1 hn.1 h1,A1S false b c2 hn.2 h2⟩
 |false,.ptr ..,_,_,h=>h
 |false,.sl ..,_,_,h=>h
 |false,.inn ..,_,_,h=>h
 |false,.vw ..,_,_,h=>h
 |false,.clp ..,_,hn,_=>by simp[TV.alias]at hn
 |false,.nilsl,_,_,h=>h
 |false,.fn f c,cs,hn,⟨vs,h1,h2⟩=>⟨vs,h1,A1S true c vs hn h2⟩
 |false,.bad,_,_,h=>h
 |false,.tup _,_,_,h=>by simp[RV]at h
 |false,.und,_,_,h=>by simp[RV]at h
 |false,.dead,_,_,h=>by simp[RV]at h
 |true,.pr a b,vs,hn,h=>by
  simp only[TV.alias,Bool.or_eq_false_iff]at hn
  have go:∀cs,RV w X θ false a cs→RV w X' θ false a cs:=fun cs=>A1S false a cs hn.1
  have gb:∀r,RV w X θ true b r→RV w X' θ true b r:=fun r=>A1S true b r hn.2
  cases a<;>simp only[RV]at h⊢ <;>obtain⟨v,r,h0,h1,h2⟩:=h<;>first
   |exact⟨v,r,h0,trivial,gb r h2⟩
   |exact⟨v,r,h0,h1,gb r h2⟩
   |(obtain ⟨cs,k1,k2⟩:=h1; exact⟨v,r,h0,⟨cs,k1,go cs k2⟩,gb r h2⟩)
 |true,.pv .unit _,_,_,h=>h
 |true,.pv (.int _) _,_,_,h|true,.pv .bool _,_,_,h|true,.pv .str _,_,_,h|true,.pv (.slice _) _,_,_,h|true,.pv (.arr _ _) _,_,_,h|true,.pv (.pair _ _) _,_,_,h|true,.pv (.ref _) _,_,_,h|true,.pv (.opt _) _,_,_,h|true,.pv (.fnc _) _,_,_,h=>by simp[RV]at h
 |true,.ptr ..,_,_,h|true,.sl ..,_,_,h|true,.inn ..,_,_,h|true,.vw ..,_,_,h|true,.clp ..,_,_,h|true,.nilsl,_,_,h|true,.fn ..,_,_,h|true,.tup _,_,_,h|true,.bad,_,_,h|true,.und,_,_,h|true,.dead,_,_,h=>by simp[RV]at h
theorem B0h{X':Nat→Prop}{tv:TV}{v:Value}(hn:tv.alias=false)(h:A0g w X θ tv v):A0g w X' θ tv v:=by
 cases tv with
 |dead=>trivial
 |und=>exact h
 |tup c=>obtain⟨vs,k1,k2⟩:=h; exact⟨vs,k1,A1S true c vs hn k2⟩
 |_=>obtain⟨cs,k1,k2⟩:=h; exact⟨cs,k1,A1S false _ cs hn k2⟩
theorem B0q{X':Nat→Prop}{base:Nat→Nat→Prop}{i:Nat}{b:Blk}(hn:b.alias=false)(h:A0A w X θ base i b):A0A w X' θ base i b:=by
 cases b with
 |var t c=>obtain⟨b,C,E,h1,h2,h3,h4,h5⟩:=h; exact⟨b,C,E,h1,h2,h3,A1S false c _ hn h4,h5⟩
 |arr E e xs=>obtain⟨v,ds,h1,h2,h3⟩:=h; exact⟨v,ds,h1,h2,A0o (fun c x hx=>A3Z e hn c x hx) h3⟩
 |tre E s xs=>exact h
 |map k v xs=>exact h
theorem A9d(d:Nat)(tv:TV):(tv.ren d).isAgg=tv.isAgg:=by cases tv<;>rfl
theorem RV.ren{θ':Nat→Option Own}{d:Nat}:(m:Bool)→(tv:TV)→(cs:List Value)→(∀ i,i∈tv.ids→θ' (d+i)=θ i)→RV w X θ m tv cs→RV w X θ' m (tv.ren d) cs
 |false,.pv _ _,_,_,h=>h
 |false,.pr a b,cs,hi,⟨c1,c2,h0,h1,h2⟩=>
  ⟨c1,c2,h0,RV.ren false a c1 (fun i q=>hi i (by simp[TV.ids,q])) h1,RV.ren false b c2 (fun i q=>hi i (by simp[TV.ids,q])) h2⟩
 |false,.ptr i t p,cs,hi,⟨o,b,off,s,h1,h2⟩=>⟨o,b,off,s,(hi i (by simp[TV.ids])).trans h1,h2⟩
 |false,.sl i e,cs,hi,⟨v,h1,h2⟩=>⟨v,(hi i (by simp[TV.ids])).trans h1,h2⟩
 |false,.inn i p e,cs,hi,⟨sk,L,v,h1,h2⟩=>⟨sk,L,v,(hi i (by simp[TV.ids])).trans h1,h2⟩
 |false,.vw i t p e lo hi,cs,hi',hr=>by obtain⟨o,v,h1,h2⟩:=hr; exact⟨o,v,(hi' i (by simp[TV.ids])).trans h1,h2⟩
 |false,.clp _ _,_,_,h=>h
 |false,.nilsl,_,_,h=>h
 |false,.fn f c,cs,hi,⟨vs,h1,h2⟩=>⟨vs,h1,RV.ren true c vs (fun i q=>hi i (by simp[TV.ids,q])) h2⟩
 |false,.bad,_,_,h=>h
 |false,.tup _,_,_,h=>by simp[RV]at h
 |false,.und,_,_,h=>by simp[RV]at h
 |false,.dead,_,_,h=>by simp[RV]at h
 |true,.pr a b,vs,hi,h=>by
  have go:∀cs,RV w X θ false a cs→RV w X θ' false (a.ren d) cs:=fun cs=>RV.ren false a cs (fun i q=>hi i (by simp[TV.ids,q]))
  have gb:∀r,RV w X θ true b r→RV w X θ' true (b.ren d) r:=fun r=>RV.ren true b r (fun i q=>hi i (by simp[TV.ids,q]))
  have ga:=A9d d a
  cases a<;>simp only[RV,TV.ren]at h⊢ <;>obtain⟨v,r,h0,h1,h2⟩:=h<;>first
   |exact⟨v,r,h0,trivial,gb r h2⟩
   |exact⟨v,r,h0,h1,gb r h2⟩
   |(obtain ⟨cs,k1,k2⟩:=h1; exact⟨v,r,h0,⟨cs,k1,go cs k2⟩,gb r h2⟩)
 |true,.pv .unit _,_,_,h=>h
 |true,.pv (.int _) _,_,_,h|true,.pv .bool _,_,_,h|true,.pv .str _,_,_,h|true,.pv (.slice _) _,_,_,h|true,.pv (.arr _ _) _,_,_,h|true,.pv (.pair _ _) _,_,_,h|true,.pv (.ref _) _,_,_,h|true,.pv (.opt _) _,_,_,h|true,.pv (.fnc _) _,_,_,h=>by simp[RV]at h
 |true,.ptr ..,_,_,h|true,.sl ..,_,_,h|true,.inn ..,_,_,h|true,.vw ..,_,_,h|true,.clp ..,_,_,h|true,.nilsl,_,_,h|true,.fn ..,_,_,h|true,.tup _,_,_,h|true,.bad,_,_,h|true,.und,_,_,h|true,.dead,_,_,h=>by simp[RV]at h
theorem A0g.ren{θ':Nat→Option Own}{d:Nat}(tv:TV)(v:Value)(hi:∀i,i∈tv.ids→θ' (d+i)=θ i)(h:A0g w X θ tv v):A0g w X θ' (tv.ren d) v:=by
 have ga:=A9d d tv
 cases tv with
 |dead=>trivial
 |und=>exact h
 |tup c=>obtain⟨vs,k1,k2⟩:=h; exact⟨vs,k1,RV.ren true c vs hi k2⟩
 |pr a b=>obtain⟨cs,k1,k2⟩:=h; exact⟨cs,k1,RV.ren false (.pr a b) cs hi k2⟩
 |_=>obtain⟨cs,k1,k2⟩:=h; exact⟨cs,k1,RV.ren false _ cs hi k2⟩
theorem A7D(d:Nat):(tv:TV)→(t:Ty)→(tv.ren d).fits t=tv.fits t
 | .pv _ _,_=>rfl
 | .pr a b,.pair s t=>by simp[TV.ren,TV.fits,A7D d a s,A7D d b t]
 | .pr _ _,.int _| .pr _ _,.bool| .pr _ _,.str| .pr _ _,.slice _| .pr _ _,.arr _ _| .pr _ _,.unit| .pr _ _,.ref _| .pr _ _,.opt _| .pr _ _,.fnc _=>rfl
 | .ptr ..,t=>by cases t<;>rfl
 | .sl ..,t=>by cases t<;>rfl
 | .inn _ p _,t=>by
  cases t<;>first|rfl|skip
  cases p with
  |nil=>rfl
  |cons q p=>cases q<;>rfl
 | .vw ..,t=>by cases t<;>rfl
 | .clp ..,_=>rfl
 | .nilsl,_=>rfl
 | .fn ..,t=>by cases t<;>rfl
 | .tup _,t=>by cases t<;>rfl
 | .bad,_=>rfl
 | .und,_=>rfl
 | .dead,_=>rfl
theorem A2A:∀(g h:A0m) (k:Nat),A0b (apH g h) k=(A0b g k).or (A0b h k)
 | [],h,k=>by simp[apH,A0b]
 |(i,b)::g,h,k=>by simp only[apH,A0b]; cases Nat.beq i k<;>simp[A2A g h k]
theorem B0U(d:Nat):∀(H:A0m) (k:Nat),A0b (A8A d H) (d+k)=(A0b H k).map (Blk.ren d)
 | [],k=>rfl
 |(i,b)::H,k=>by
  simp only[A8A,A0b]
  by_cases e:i=k
  ·simp [A0j.2 e,e]
  ·have:d+i≠d+k:=by omega
   simp[A0c e,A0c this,B0U d H k]
theorem A9t(d:Nat):∀(H:A0m) (k:Nat),k<d→A0b (A8A d H) k=none
 | [],k,_=>rfl
 |(i,b)::H,k,h=>by
  have:d+i≠k:=by omega
  simp[A8A,A0b,A0c this,A9t d H k h]
theorem A7L:∀(H:A0m) (k:Nat),(A0b H k).isSome=true→k∈A0f H
 | [],k,h=>by simp[A0b]at h
 |(i,b)::H,k,h=>by
  simp only[A0b]at h
  by_cases e:i=k
  ·simp [A0f,e]
  ·simp only[A0c e,cond]at h
   simp[A0f,A7L H k h]
theorem A6Q:∀(H:A0m) (k:Nat) (b:Blk) (i:Nat),A0b H k=some b→i∈b.ids→i∈A1f H
 | [],k,b,i,h,_=>by simp[A0b]at h
 |(j,c)::H,k,b,i,h,hi=>by
  simp only[A0b]at h
  by_cases e:j=k
  ·simp only[A0j.2 e,cond,Option.some.injEq]at h; subst h; simp[A1f,hi]
  ·simp only[A0c e,cond]at h; simp[A1f,A6Q H k b i h hi]
theorem A4o{H:A0m}{t:TV}{i:Nat}(h:(A0b H i).isSome=true∨i∈t.ids∨i∈A1f H):i∈A2I H t:=by
 unfold A2I
 by_cases hk:i∈A0f H
 ·exact List.mem_append_left _ hk
 ·refine List.mem_append_right _ (List.mem_filter.2 ⟨?_,?_⟩)
  ·rcases h with h|h|h
   ·exact absurd (A7L H i h) hk
   ·exact List.mem_append_left _ h
   ·exact List.mem_append_right _ h
  ·simp only[Bool.not_eq_true',List.any_eq_false]
   intro x hx
   intro he
   exact hk ((A0j.1 he)▸hx)
theorem A7m(h:Rel w0 Xo σ θ as a w){d:Nat}{X':Nat→Prop}(hX:∀b,A0d Xo θ σ.heap b→X' b){w':World}{T:Nat→Prop}(hk:A0h T w w')(hT:∀b,T b→A0d Xo θ σ.heap b∧w0.any b){G:A0m}
  (hG:∀k,(A0b G k).isSome=(A0b σ.heap k).isSome) {θH:Nat→Option Own} {H:A0m} {t:TV} {v:Value}
  (hH:A1e w' (A0d X' θH H) θH (fun _ b=>w.heap.size≤b) H) (hr:A0g w' (A0d X' θH H) θH t v) (hpin:B0R d (A2I H t)=true)
  (hB:∀k b0,A0b G k=some b0→(A0b σ.heap k=some b0∧∀g,A0e θ k g→¬T g)∨A0A w' (A0d X' θH H) θ w0.may k b0):
  ∃θ',Rel w0 Xo (({σ with heap:=G}:St).addAll d H t) θ' as a w'∧A0g w' (A0d Xo θ' (({σ with heap:=G}:St).addAll d H t).heap) θ' (t.ren d) v:=by
 let L:=(A2I H t).map (d+ ·)
 let θ':Nat→Option Own:=fun k=>if k∈L then θH (k-d)else θ k
 have hL:∀k,k∉L→θ' k=θ k:=fun k hk=>by simp[θ',hk]
 have hN:∀i,i∈A2I H t→θ' (d+i)=θH i:=fun i hi=>by
  have:d+i∈L:=List.mem_map.2 ⟨i,hi,rfl⟩
  simp[θ',this]
 have hget':∀k,A0b (({σ with heap:=G}:St).addAll d H t).heap k=(if d≤k then(A0b H (k-d)).map (Blk.ren d)else none).or (if k∈L then none else(A0b G k).map (Blk.mapc (A0k L))):=by
  intro k
  simp only[St.addAll,A2A]
  rw[A1L]
  congr 1
  by_cases hd:d≤k
  ·obtain ⟨i,rfl⟩:=Nat.exists_eq_add_of_le hd
   simp only[hd,if_true,B0U,Nat.add_sub_cancel_left]
  ·simp only[hd,if_false]
   exact A9t d H k (by omega)
 have cases':∀k b,A0b (({σ with heap:=G}:St).addAll d H t).heap k=some b→(∃ i b0,k=d+i∧A0b H i=some b0∧b=b0.ren d∧θ' k=θH i)∨(∃ b0,A0b G k=some b0∧b=b0.mapc (A0k L)∧θ' k=θ k∧k∉L):=by
  intro k b hb
  rw[hget']at hb
  by_cases hd:d≤k
  ·obtain ⟨i,rfl⟩:=Nat.exists_eq_add_of_le hd
   simp only[hd,if_true,Nat.add_sub_cancel_left]at hb
   cases hi:A0b H i with
   |some b0=>
    simp only[hi,Option.map_some,Option.some_or,Option.some.injEq]at hb
    exact .inl ⟨i,b0,rfl,hi,hb.symm,hN i (A4o (.inl (by simp[hi])))⟩
   |none=>
    simp only[hi,Option.map_none,Option.none_or]at hb
    by_cases hl:d+i∈L
    ·simp [hl]at hb
    ·simp only[hl,if_false]at hb
     cases h0:A0b G (d+i)with
     |none=>simp[h0]at hb
     |some b0=>
      simp only[h0,Option.map_some,Option.some.injEq]at hb
      exact .inr ⟨b0,rfl,hb.symm,hL _ hl,hl⟩
  ·simp only[hd,if_false,Option.none_or]at hb
   by_cases hl:k∈L
   ·simp [hl]at hb
   ·simp only[hl,if_false]at hb
    cases h0:A0b G k with
    |none=>simp[h0]at hb
    |some b0=>
     simp only[h0,Option.map_some,Option.some.injEq]at hb
     exact .inr ⟨b0,rfl,hb.symm,hL _ hl,hl⟩
 have hpi:∀i,(A0b H i).isSome=true→d+i≠PIN:=by
  intro i hi e
  unfold B0R at hpin
  simp only[Bool.not_eq_true',List.any_eq_false]at hpin
  exact hpin i (A4o (.inl hi)) (A0j.2 e)
 have hlt:∀k,(A0b σ.heap k).isSome=true→∀b,A0e θ k b→b<w.heap.size:=by
  intro k hk b hb
  obtain⟨b0,h0⟩:=Option.isSome_iff_exists.1 hk
  exact((h.heap.blk k b0 h0).lt b hb).2
 have hown:∀b,A0d Xo θ' (({σ with heap:=G}:St).addAll d H t).heap b→A0d X' θH H b:=by
  intro b hb
  rcases hb with hb|⟨k,h1,h2⟩
  ·exact .inl (hX b (.inl hb))
  ·obtain ⟨bk,hbk⟩:=Option.isSome_iff_exists.1 h1
   rcases cases' k bk hbk with⟨i,b0,rfl,e1,_,e3⟩|⟨b0,e1,_,e3,_⟩
   ·exact .inr ⟨i,by simp[e1],by simpa[A0e,e3]using h2⟩
   ·exact .inl (hX b (.inr ⟨k,by rw[← hG]; simp[e1],by simpa[A0e,e3]using h2⟩))
 have hown2:∀b,b<w.heap.size→A0d Xo θ' (({σ with heap:=G}:St).addAll d H t).heap b→A0d Xo θ σ.heap b:=by
  intro b hlt hb
  rcases hb with hb|⟨k,h1,h2⟩
  ·exact .inl hb
  ·obtain ⟨bk,hbk⟩:=Option.isSome_iff_exists.1 h1
   rcases cases' k bk hbk with⟨i,b0,rfl,e1,_,e3⟩|⟨b0,e1,_,e3,_⟩
   ·have:w.heap.size≤b:=((hH.blk i b0 e1).lt b (by simpa[A0e,e3]using h2)).1
    omega
   ·exact .inr ⟨k,by rw[← hG]; simp[e1],by simpa[A0e,e3]using h2⟩
 have st1:A1G (A0d Xo θ σ.heap) (A0d Xo θ' (({σ with heap:=G}:St).addAll d H t).heap) w w':=⟨⟨T,hk,fun b _ hz=>(hT b hz).1⟩,hown2⟩
 have st2:A1G (A0d X' θH H) (A0d Xo θ' (({σ with heap:=G}:St).addAll d H t).heap) w' w':=⟨⟨fun _=>False,A0h.refl _ w',fun _ _ h=>h.elim⟩,fun b _ hb=>hown b hb⟩
 refine⟨θ',h.next (A0k L) (h.keeps.may hk fun b hz=>(hT b hz).2) (fun tv u hu=>A0g.step st1 _ u (fun _ _=>rfl) (A3k L tv u hL hu)) (by simp[St.addAll,A2u,L]) (by simp[St.addAll,A3V,L]) ⟨fun k b hb=> ?_,fun k l hkl hk1 hl1 b=> ?_⟩ (fun hs=> ?_),?_⟩
 ·rcases cases' k b hb with⟨i,b0,rfl,e1,e2,e3⟩|⟨b0,e1,e2,e3,_⟩
  ·subst e2
   have hb0:=hH.blk i b0 e1
   cases b0 with
   |var s c=>
    obtain⟨g,C,E,k1,k2,k3,k4,k5⟩:=hb0
    refine⟨g,C,E,e3.trans k1,h.new (hpi i (by simp[e1])) k2,k3,?_,by rw[A7D]; exact k5⟩
    exact RV.step st2 false _ _ (fun _ _=>rfl) (RV.ren false c _ (fun j hj=>hN j (A4o (.inr (.inr (A6Q H i _ j e1 hj))))) k4)
   |arr E e xs=>
    obtain⟨u,ds,k1,k2,k3⟩:=hb0
    refine⟨u,ds,e3.trans k1,⟨k2.1,?_⟩,A0o (fun c x hx=>st2.rep e c x hx) k3⟩
    rcases k2.2 with k|⟨g,cap,cur,m1,m2,m3⟩
    ·exact .inl k
    ·exact .inr ⟨g,cap,cur,m1,h.new (hpi i (by simp[e1])) m2,m3⟩
   |tre E s xs=>
    obtain⟨sk,L,u,k1,k2,k3⟩:=hb0
    exact⟨sk,L,u,e3.trans k1,k2,k3.go (.sl E s) _ _ _ _ (fun _ _=>rfl) (fun b _ hb=>h.new (hpi i (by simp[e1])) hb)⟩
   |map km vm xs=>
    obtain⟨g,es,clock,k1,k2,k3,k4⟩:=hb0
    exact⟨g,es,clock,e3.trans k1,h.new (hpi i (by simp[e1])) k2,k3,k4⟩
  ·subst e2
   rcases hB k b0 e1 with⟨e4,e5⟩|hb0
   ·exact (h.heap.blk k b0 e4).go st1 e3 (fun g hg=>hk.block g ((h.heap.blk k b0 e4).lt g hg).2 (e5 g hg)) (A0k L) (fun c cs hc=>RV.step st1 false _ cs (fun _ _=>rfl) (A3v L false c cs hL hc)) (fun c t ht=>A2G L c t ht)
   ·exact hb0.go st2 e3 (fun g hg=>rfl) (A0k L) (fun c cs hc=>RV.step st2 false _ cs (fun _ _=>rfl) (A3v L false c cs hL hc)) (fun c t ht=>A2G L c t ht)
 ·obtain ⟨bk,hbk⟩:=Option.isSome_iff_exists.1 hk1
  obtain⟨bl,hbl⟩:=Option.isSome_iff_exists.1 hl1
  rcases cases' k bk hbk with⟨i,b0,rfl,e1,_,e3⟩|⟨b0,e1,_,e3,_⟩<;>rcases cases' l bl hbl with⟨j,c0,rfl,f1,_,f3⟩|⟨c0,f1,_,f3,_⟩
  ·have hij:i≠j:=fun e=>hkl (by rw[e])
   simpa[A0e,e3,f3]using hH.inj i j hij (by simp[e1]) (by simp[f1]) b
  ·intro g1 g2
   have k1:w.heap.size≤b:=((hH.blk i b0 e1).lt b (by simpa[A0e,e3]using g1)).1
   have k2:=(hlt l (by rw[← hG]; simp[f1]) b (by simpa[A0e,f3]using g2))
   omega
  ·intro g1 g2
   have k1:w.heap.size≤b:=((hH.blk j c0 f1).lt b (by simpa[A0e,f3]using g2)).1
   have k2:=(hlt k (by rw[← hG]; simp[e1]) b (by simpa[A0e,e3]using g1))
   omega
  ·simpa [A0e,e3,f3]using h.heap.inj k l hkl (by rw[← hG]; simp[e1]) (by rw[← hG]; simp[f1]) b
 ·obtain ⟨bk,hbk⟩:=Option.isSome_iff_exists.1 hs
  rcases cases' PIN bk hbk with⟨i,b0,e0,e1,_,_⟩|⟨b0,e1,_,e3,_⟩
  ·exact absurd e0.symm (hpi i (by simp[e1]))
  ·exact ⟨by rw[← hG]; simp[e1],e3⟩
 ·exact A0g.step st2 _ v (fun _ _=>rfl) (A0g.ren t v (fun i hi=>hN i (A4o (.inr (.inl hi)))) hr)
theorem A5x(h:Rel w0 Xo σ θ as a w){d:Nat}{X':Nat→Prop}(hX:∀b,A0d Xo θ σ.heap b→X' b){w':World}(hk:A0h (fun _=>False) w w'){θH:Nat→Option Own}{H:A0m}{t:TV}{v:Value}
  (hH:A1e w' (A0d X' θH H) θH (fun _ b=>w.heap.size≤b) H) (hr:A0g w' (A0d X' θH H) θH t v) (hpin:B0R d (A2I H t)=true):
  ∃θ',Rel w0 Xo (σ.addAll d H t) θ' as a w'∧A0g w' (A0d Xo θ' (σ.addAll d H t).heap) θ' (t.ren d) v:=
 A7m h hX hk (fun b h=>h.elim) (G:=σ.heap) (fun _=>rfl) hH hr hpin fun k b0 hb=> .inl ⟨hb,fun _ _ h=>h⟩
end Go.Ai
/- A call of a function that has a contract. -/
namespace Go.Ai
open Go.RowKit
variable {P:Program} {cx:Cx} {w0:A0F} {Xo:Nat→Prop} {σ:St} {θ:Nat→Option Own} {as:List (Array Value)} {a:Act} {w:World} {X X':Nat→Prop} {R:Type} {r:R} {h:A0m} {base:Nat→Nat→Prop}
def A1T(w:World)(X:Nat→Prop):(t:Ty)→List Value→t.den→Prop
 | .unit,vs,_=>vs=[]
 | .pair a b,vs,x=>∃v r cs,vs=v::r∧A0i a.isAgg v cs∧Rep w X a cs x.1∧A1T w X b r x.2
 |_,_,_=>False
def B2n : List (String × IntKind × List Int) := [("internal/strconv.uint64pow10", .u64, Lib.pow10Tab)]
def GOk(P:Program)(w:World):Prop:=∀t∈B2n,∀g,P.globalNamed t.1=some g→Lib.TabIs P w t.1 t.2.1 t.2.2
def B1j(P:Program)(b:Nat):Prop:=∃t∈B2n,P.globalNamed t.1=some b
theorem GOk.lt{b:Nat}(h:GOk P w)(hb:B1j P b):b<w.heap.size:=by
 obtain⟨t,ht,hg⟩:=hb
 have:=h t ht b hg
 unfold Lib.TabIs World.var? at this
 rw[hg]at this
 simp only[Option.bind_some]at this
 by_cases hlt:b<w.heap.size
 ·exact hlt
 ·rw [Array.getElem?_eq_none (by omega)]at this
  cases this
theorem GOk.keeps{M:Nat→Prop}{w':World}(h:GOk P w)(hk:A0h M w w')(hM:∀b,M b→¬B1j P b):GOk P w':=by
 intro t ht g hg
 have hb:B1j P g:=⟨t,ht,hg⟩
 have h1:=h t ht g hg
 unfold Lib.TabIs World.var? at h1⊢
 rw[hg]at h1⊢
 simp only[Option.bind_some]at h1⊢
 rw[hk.block g (h.lt hb) (fun hm=>hM g hm hb)]
 exact h1
structure A4C (P:Program) (w0:A0F):Prop where
 ok:GOk P w0.w
 tk:∀b,w0.tk b→¬B1j P b
theorem A4C.now(h:A4C P w0)(hr:Rel w0 Xo σ θ as a w):GOk P w:=h.ok.keeps hr.keeps h.tk
theorem A4C.own(h:A4C P w0){b:Nat}(hb:w0.any b):¬B1j P b:=by
 rcases hb with hb|hb
 ·intro hg; have:=h.ok.lt hg; omega
 ·exact h.tk b hb
def A8C(P:Program)(f:FuncId)(c:Con):Prop:=
 ∀(w:World) (X:Nat→Prop) (args:Array Value) (xs:c.ps.den) (y:A2K c.sh),(∀ b,X b→b<w.heap.size)→A1T w X c.ps args.toList xs→c.raw xs=some y→GOk P w→
  A8q P f args w fun v w'=>A0h (fun _=>False) w w'∧∃θ,A1e w' (A0d X θ (mkH c.sh y)) θ (fun _ b=>w.heap.size≤b) (mkH c.sh y)∧A0g w' (A0d X θ (mkH c.sh y)) θ (A2o c.sh y) v
theorem A0T{α β:Type}{x:Option α}{f:α→Option β}{b:β}(h:A1w x f=some b):∃a,x=some a∧f a=some b:=by
 cases x with
 |none=>cases h
 |some a=>exact⟨a,rfl,h⟩
theorem A3D(hh:A1e w X θ base h)(hX:∀b,X' b→X b):(tv:TV)→(t:Ty)→(x:t.den)→(cs:List Value)→A0w h tv t=some x→(∀ i∈tv.ids,∀b,A0e θ i b→¬X' b)→RV w X θ false tv cs→Rep w X' t cs x
 | .pv s y,t,x,cs,hp,_,hr=>by
  simp only[A0w]at hp
  split at hp
  ·rename_i e; subst e; injection hp with hp; subst hp; exact Rep.avoid (fun b _ hb=>hX b hb) s cs y hr
  ·cases hp
 | .pr a b,.pair ta tb,x,cs,hp,hi,⟨c1,c2,h0,h1,h2⟩=>by
  simp only[A0w]at hp
  split at hp
  ·rename_i y z hy hz
   injection hp with hp; subst hp
   exact⟨c1,c2,h0,A3D hh hX a ta y c1 hy (fun i q=>hi i (by simp[TV.ids,q])) h1,A3D hh hX b tb z c2 hz (fun i q=>hi i (by simp[TV.ids,q])) h2⟩
  ·cases hp
 | .nilsl,.slice e,x,cs,hp,_,hr=>by
  simp only[A0w,Option.some.injEq]at hp
  subst hp
  exact⟨none,0,0,[],hr,rfl,Nat.le_refl _,Nat.zero_le _,rfl,.inl rfl⟩
 | .clp s ys,.slice e,x,cs,hp,_,⟨ad,len,ds,h1,h2,h3,h4,h5⟩=>by
  simp only[A0w]at hp
  split at hp
  ·rename_i q; subst q; injection hp with hp; subst hp
   refine⟨ad,len,len,ds,h1,h2,Nat.le_refl _,h3,A0o (fun c x hx=>Rep.avoid (fun b _ hb=>hX b hb) s c x hx) h4,?_⟩
   rcases h5 with h5|⟨b,o,q1,q2,q3⟩
   ·exact .inl h5
   ·exact .inr ⟨b,o,q1,q2,fun hb=>q3 (hX b hb)⟩
  ·cases hp
 | .sl i e,.slice e',x,cs,hp,hi,⟨v,h1,h2,h3⟩=>by
  simp only[A0w]at hp
  split at hp
  ·rename_i E e2 xs hg
   split at hp
   ·rename_i q; subst q
    split at hp
    ·rename_i q; subst q
     injection hp with hp; subst hp
     obtain⟨v',ds,g1,g2,g3⟩:=hh.blk i _ hg
     rw[g1]at h1; injection h1 with h1; injection h1 with h1; subst h1
     subst h2
     have g3':=A0o (fun c x hx=>Rep.avoid (Y:=X') (fun b _ hb=>hX b hb) e c x hx) g3
     rcases g2.2 with⟨k1,k2⟩|⟨g,cap,cur,k1,k2,k3,k4,k5,k6,k7⟩
     ·subst k1
      have hn:xs=[]:=List.eq_nil_of_length_eq_zero k2
      subst hn
      exact⟨none,0,0,[],rfl,rfl,Nat.le_refl _,Nat.zero_le _,rfl,.inl rfl⟩
     ·subst k1
      refine⟨_,_,cap,ds,rfl,rfl,k4,k5,g3',.inr ⟨g,0,rfl,?_,hi i (by simp[TV.ids]) g (by simp[A0e,g1,Own.has,Value.ownBlock])⟩⟩
      intro j u hu
      have:=A0E.cells g2 (g:=g) rfl j u hu
      simpa[Addr.add_mid]using this
    ·cases hp
   ·cases hp
  ·cases hp
 | .ptr i rt p,.ref e,x,cs,hp,hi,⟨o,b,off,s,h1,h2,h3,h4,h5⟩=>by
  simp only[A0w]at hp
  split at hp
  ·rename_i tt c hg
   split at hp
   ·rename_i q; subst q
    split at hp
    ·rename_i u hy
     obtain⟨b',C,E,e1,e2,e3,e4,e5⟩:=hh.blk i _ hg
     rw[e1]at h1; injection h1 with h1; subst h1
     simp only[Own.base,Option.some.injEq]at h2; subst h2
     have hat:=A3S e5 hy h3
     obtain⟨k1,c1,cc,c2,k2,k3,k4,k5⟩:=A4z c tt p C.toList off s _ hat e5 hy e4
     have hra:w.rangeAt b' off cc:=by
      have:=A1M e3 (c1:=c1) (c:=cc) (c2:=c2) k2
      rwa [k3]at this
     exact⟨b',off,cc,h5,Rep.avoid (fun b _ hb=>hX b hb) e cc x (A1R u e x cc hp k5),hra,fun _=>hi i (by simp[TV.ids]) b' (by simp[A0e,e1,Own.has])⟩
    ·cases hp
   ·cases hp
  ·cases hp
 | .inn i p e,.slice e',x,cs,hp,hi,hr=>by
  simp only[A0w]at hp
  split at hp
  ·exact A7k hh hp (hi i (by simp[TV.ids])) hr
  ·cases hp
 | .vw i rt p e lo up,.slice e',x,cs,hp,hi,hr=>by
  simp only[A0w]at hp
  split at hp
  ·rename_i q; subst q
   obtain⟨o,v,h1,h2,h3⟩:=hr
   subst h3
   obtain⟨ad,len,cap,ds,k1,k2,k3,k4,k5,k6,_⟩:=A8m hh h1 h2 hp
   subst k1
   refine⟨ad,len,cap,ds,rfl,k2,k3,k4,A0o (fun c x hx=>Rep.avoid (Y:=X') (fun b _ hb=>hX b hb) e c x hx) k5,?_⟩
   rcases k6 with k6|⟨b,q,m1,m2,m3⟩
   ·exact .inl k6
   ·exact .inr ⟨b,q,m1,m2,hi i (by simp[TV.ids]) b m3⟩
  ·cases hp
 | .vw ..,.int _,_,_,hp,_,_| .vw ..,.bool,_,_,hp,_,_| .vw ..,.str,_,_,hp,_,_| .vw ..,.ref _,_,_,hp,_,_| .vw ..,.arr _ _,_,_,hp,_,_| .vw ..,.unit,_,_,hp,_,_| .vw ..,.pair _ _,_,_,hp,_,_| .vw ..,.opt _,_,_,hp,_,_| .vw ..,.fnc _,_,_,hp,_,_=>by simp[A0w]at hp
 | .ptr ..,.int _,_,_,hp,_,_| .ptr ..,.bool,_,_,hp,_,_| .ptr ..,.str,_,_,hp,_,_| .ptr ..,.slice _,_,_,hp,_,_| .ptr ..,.arr _ _,_,_,hp,_,_| .ptr ..,.unit,_,_,hp,_,_| .ptr ..,.pair _ _,_,_,hp,_,_| .ptr ..,.opt _,_,_,hp,_,_| .ptr ..,.fnc _,_,_,hp,_,_=>by simp[A0w]at hp
 | .sl ..,.int _,_,_,hp,_,_| .sl ..,.bool,_,_,hp,_,_| .sl ..,.str,_,_,hp,_,_| .sl ..,.ref _,_,_,hp,_,_| .sl ..,.arr _ _,_,_,hp,_,_| .sl ..,.unit,_,_,hp,_,_| .sl ..,.pair _ _,_,_,hp,_,_| .sl ..,.opt _,_,_,hp,_,_| .sl ..,.fnc _,_,_,hp,_,_=>by simp[A0w]at hp
 | .inn ..,.int _,_,_,hp,_,_| .inn ..,.bool,_,_,hp,_,_| .inn ..,.str,_,_,hp,_,_| .inn ..,.ref _,_,_,hp,_,_| .inn ..,.arr _ _,_,_,hp,_,_| .inn ..,.unit,_,_,hp,_,_| .inn ..,.pair _ _,_,_,hp,_,_| .inn ..,.opt _,_,_,hp,_,_| .inn ..,.fnc _,_,_,hp,_,_=>by simp[A0w]at hp
 | .fn f c,t,x,cs,hp,_,hr=>by cases t<;>first|(simp [A0w]at hp; done)|exact B3D (by simpa only[A0w]using hp) hr
 | .tup _,_,_,_,_,_,hr=>by simp[RV]at hr
 | .und,_,_,_,_,_,hr=>by simp[RV]at hr
 | .dead,_,_,_,_,_,hr=>by simp[RV]at hr
 | .bad,t,x,cs,hp,_,_=>by cases t<;>simp[A0w]at hp
 | .pr _ _,.int _,x,_,hp,_,_| .pr _ _,.bool,x,_,hp,_,_| .pr _ _,.str,x,_,hp,_,_| .pr _ _,.slice _,x,_,hp,_,_| .pr _ _,.arr _ _,x,_,hp,_,_| .pr _ _,.unit,x,_,hp,_,_| .pr _ _,.ref _,x,_,hp,_,_| .pr _ _,.opt _,x,_,hp,_,_| .pr _ _,.fnc _,x,_,hp,_,_=>by simp[A0w]at hp
 | .nilsl,.int _,x,_,hp,_,_| .nilsl,.bool,x,_,hp,_,_| .nilsl,.str,x,_,hp,_,_| .nilsl,.pair _ _,x,_,hp,_,_| .nilsl,.arr _ _,x,_,hp,_,_| .nilsl,.unit,x,_,hp,_,_| .nilsl,.ref _,x,_,hp,_,_| .nilsl,.opt _,x,_,hp,_,_| .nilsl,.fnc _,x,_,hp,_,_=>by simp[A0w]at hp
 | .clp ..,.int _,x,_,hp,_,_| .clp ..,.bool,x,_,hp,_,_| .clp ..,.str,x,_,hp,_,_| .clp ..,.pair _ _,x,_,hp,_,_| .clp ..,.arr _ _,x,_,hp,_,_| .clp ..,.unit,x,_,hp,_,_| .clp ..,.ref _,x,_,hp,_,_| .clp ..,.opt _,x,_,hp,_,_| .clp ..,.fnc _,x,_,hp,_,_=>by simp[A0w]at hp
theorem A5V:(c:TV)→(p:List Sel)→(v:TV)→c.getP p=some v→∀x∈v.ids,x∈c.ids
 | .pr a b,[],v,h,x,hx=>by simp only[TV.getP,Option.some.injEq]at h; subst h; exact hx
 | .pr a b,.fld 0::p,v,h,x,hx=>by simp only[TV.getP]at h; exact List.mem_append_left _ (A5V a p v h x hx)
 | .pr a b,.fld (n+1)::p,v,h,x,hx=>by simp only[TV.getP]at h; exact List.mem_append_right _ (A5V b _ v h x hx)
 | .pr a b,.idx k::p,v,h,x,hx=>by simp[TV.getP]at h
 | .pv t y,[],v,h,x,hx=>by simp only[TV.getP,Option.some.injEq]at h; subst h; exact hx
 | .pv t y,s::p,v,h,x,hx=>by
  simp only[TV.getP,Option.map_eq_some_iff]at h
  obtain⟨q,_,rfl⟩:=h
  simp[TV.ids]at hx
 | .ptr ..,[],v,h,x,hx| .sl ..,[],v,h,x,hx| .inn ..,[],v,h,x,hx| .vw ..,[],v,h,x,hx| .clp ..,[],v,h,x,hx| .nilsl,[],v,h,x,hx| .fn ..,[],v,h,x,hx| .tup _,[],v,h,x,hx| .bad,[],v,h,x,hx| .und,[],v,h,x,hx| .dead,[],v,h,x,hx=>by
  simp only[TV.getP,Option.some.injEq]at h; subst h; exact hx
 | .ptr ..,_::_,v,h,x,hx| .sl ..,_::_,v,h,x,hx| .inn ..,_::_,v,h,x,hx| .vw ..,_::_,v,h,x,hx| .clp ..,_::_,v,h,x,hx| .nilsl,_::_,v,h,x,hx| .fn ..,_::_,v,h,x,hx| .tup _,_::_,v,h,x,hx| .bad,_::_,v,h,x,hx| .und,_::_,v,h,x,hx| .dead,_::_,v,h,x,hx=>by
  simp[TV.getP]at h
theorem A9A(hh:A1e w X θ base h)(hX:∀b,X' b→X b){tv:TV}{t:Ty}{x:t.den}{v:Value}(hp:A0w h tv t=some x)(hi:∀i∈tv.ids,∀b,A0e θ i b→¬X' b)(hv:A0g w X θ tv v):∃cs,A0i t.isAgg v cs∧Rep w X' t cs x:=by
 have hagg:tv.isAgg=t.isAgg∧(∀ c,tv≠ .tup c)∧tv≠ .dead∧tv≠ .und:=by
  cases tv with
  |pv s y=>
   simp only[A0w]at hp
   split at hp
   ·rename_i e; subst e; exact⟨rfl,by simp,by simp,by simp⟩
   ·cases hp
  |_=>cases t<;>simp_all[A0w,TV.isAgg,Ty.isAgg]
 obtain⟨h1,h2,h3,h4⟩:=hagg
 obtain⟨cs,g1,g2⟩:=A2k h2 h3 h4 hv
 exact⟨cs,by rw[← h1]; exact g1,A3D hh hX tv t x cs hp hi g2⟩
theorem B4a(tv:TV)(t:Ty)(v:Value)(hv:A0g w X θ tv v):A0g w X θ (B3d tv t) v:=by
 unfold B3d
 split
 ·exact hv
 ·exact hv
theorem B2E(hh:A1e w X θ base h)(hX:∀b,X' b→X b){tv:TV}{t:Ty}{x:t.den}{v:Value}(hp:A7o h tv t=some x)(hi:∀i∈A4G h tv,∀b,A0e θ i b→¬X' b)(hv:A0g w X θ tv v):∃cs,A0i t.isAgg v cs∧Rep w X' t cs x:=by
 by_cases q:∃i rt p e,tv= .ptr i rt p∧t= .ref e
 ·obtain ⟨i,rt,p,e,rfl,rfl⟩:=q
  rw[A8D]at hp
  split at hp
  ·rename_i tt c hg
   split at hp
   ·rename_i q; subst q
    split at hp
    ·rename_i u hy
     obtain⟨cs,g0,o,b,off,s,h1,h2,h3,h4,h5⟩:=hv
     obtain⟨b',C,E,e1,e2,e3,e4,e5⟩:=hh.blk i _ hg
     rw[e1]at h1; injection h1 with h1; subst h1
     simp only[Own.base,Option.some.injEq]at h2; subst h2
     have hat:=A3S e5 hy h3
     obtain⟨k1,c1,cc,c2,k2,k3,k4,k5⟩:=A4z c tt p C.toList off s _ hat e5 hy e4
     have hra:w.rangeAt b' off cc:=by
      have:=A1M e3 (c1:=c1) (c:=cc) (c2:=c2) k2
      rwa [k3]at this
     have hids:∀j∈u.ids,∀b,A0e θ j b→¬X' b:=fun j hj=>hi j (by simp[A4G,hg,Blk.ids,A5V c p u hy j hj])
     exact⟨cs,g0,b',off,cc,h5,A3D hh hX u e x cc hp hids k5,hra,fun _=>hi i (by simp[A4G]) b' (by simp[A0e,e1,Own.has])⟩
    ·cases hp
   ·cases hp
  ·rename_i E e2 xs hg
   unfold B1A at hp
   split at hp
   ·rename_i hrt; subst hrt
    obtain⟨cs,g0,o,b,off,s,h1,h2,h3,h4,h5⟩:=hv
    obtain⟨vv,ds,e1,e2',e3⟩:=hh.blk i _ hg
    rw[e1]at h1; injection h1 with h1; subst h1
    split at hp
    ·rename_i k q
     have hk:k<xs.length:=by
      rcases e2'.2 with⟨hn,hz⟩|⟨g,cap,cur,hn,_⟩
      ·rw [hn]at h4; simp only[Own.okp]at h4; omega
      ·rw [hn]at h4; simpa[Own.okp]using h4
     simp only[Ty.rat]at h3
     cases hq:e2.at q with
     |none=>simp[hq]at h3
     |some qq=>
      obtain⟨o2,s2⟩:=qq
      simp only[hq,Option.map_some,Option.some.injEq,Prod.mk.injEq]at h3
      obtain⟨rfl,rfl⟩:=h3
      obtain⟨y,k1,c,k2,k3,k4⟩:=A8E e2' e3 (g:=b) h2 hk hq
      split at hp
      ·rename_i u hu
       rw[k1]at hu; injection hu with hu; subst hu
       split at hp
       ·rename_i hs; subst hs
        have hp:y=x:=Option.some.inj hp
        subst hp
        exact⟨cs,g0,b,_,c,h5,Rep.avoid (fun b _ hb=>hX b hb) _ c y k4,k2,fun _=>hi i (by simp[A4G]) b (by simpa[A0e,e1,Own.has,Own.base]using h2)⟩
       ·cases hp
      ·cases hp
    ·cases hp
   ·cases hp
  ·cases hp
 ·have hn:∀i rt p e,tv= .ptr i rt p→t≠ .ref e:=fun i rt p e h1 h2=>q ⟨i,rt,p,e,h1,h2⟩
  rw[A5y h tv t hn]at hp
  exact A9A hh hX hp (fun i q=>hi i (B1o h tv i (by rwa [B3Z]at q))) (B4a tv t v hv)
theorem A3g(hh:A1e w X θ base h)(hX:∀b,X' b→X b):∀(l:List TV) (vs:List Value) (t:Ty) (x:t.den),A1N h l t=some x→(∀ i∈A8w h l,∀b,A0e θ i b→¬X' b)→vs.length=l.length→(∀ (i:Nat) tv,l[i]? =some tv→∃v,vs[i]? =some v∧A0g w X θ tv v)→A1T w X' t vs x
 | [],vs,t,x,hp,_,hl,_=>by
  cases t<;>simp only[A1N]at hp<;>first|(cases hp; done)|skip
  exact List.eq_nil_of_length_eq_zero hl
 |tv::l,vs,t,x,hp,hi,hl,hr=>by
  cases t<;>simp only[A1N]at hp<;>first|(cases hp; done)|skip
  rename_i ta tb
  split at hp
  ·rename_i y z hy hz
   injection hp with hp; subst hp
   cases vs with
   |nil=>simp at hl
   |cons v vs=>
    obtain⟨v',e1,e2⟩:=hr 0 tv rfl
    simp only[List.getElem?_cons_zero,Option.some.injEq]at e1; subst e1
    obtain⟨cs,g1,g2⟩:=B2E hh hX hy (fun i q=>hi i (by simp[A8w,q])) e2
    exact⟨v,vs,cs,rfl,g1,g2,A3g hh hX l vs tb z hz (fun i q=>hi i (by simp[A8w,q])) (by simpa using hl) (fun i u hu=>hr (i+1) u hu)⟩
  ·cases hp
end Go.Ai
/- Calls: by a contract,or in place. -/
namespace Go.Ai
open Go.RowKit
variable {h0:A0m} {P:Program} {cx:Cx} {w0:A0F} {Xo:Nat→Prop} {σ:St} {θ:Nat→Option Own} {as:List (Array Value)} {a:Act} {w:World} {X X':Nat→Prop} {R:Type} {r:R} {base:Nat→Nat→Prop}
theorem A6a{H:A0m}{Y:Nat→Prop}(hH:A1e w X θ base H)(hY:∀b,Y b→X b)(hb:∀i b,Y b→¬base i b){θ':Nat→Option Own}:(tv:TV)→(cs:List Value)→RV w X θ false tv cs→A1z H tv≠ .dead→RV w Y θ' false (A1z H tv) cs∧(A1z H tv).isAgg=tv.isAgg∧(∀ c,A1z H tv≠ .tup c)∧A1z H tv≠ .und
 | .pv t x,cs,hr,_=>⟨Rep.avoid (fun b _ h=>hY b h) t cs x hr,rfl,by simp[A1z],by simp[A1z]⟩
 | .pr a b,cs,⟨c1,c2,h0,h1,h2⟩,hd=>by
  have ha:A1z H a≠ .dead:=fun e=>hd (by simp[A1z,e])
  have hb':A1z H b≠ .dead:=fun e=>hd (by simp only[A1z,e]; try (split<;>rfl))
  have e:A1z H (.pr a b)= .pr (A1z H a) (A1z H b):=by
   simp only[A1z]
   try (split<;>first|exact absurd (by assumption) ha|exact absurd (by assumption) hb'|rfl)
  rw[e]
  exact⟨⟨c1,c2,h0,(A6a hH hY hb a c1 h1 ha).1,(A6a hH hY hb b c2 h2 hb').1⟩,rfl,by simp,by simp⟩
 | .sl i e,cs,⟨v,h1,h2,h3⟩,hd=>by
  simp only[A1z]at hd⊢
  split at hd
  ·rename_i E s xs hg
   split at hd
   ·rename_i q; subst q
    obtain⟨v',ds,g1,g2,g3⟩:=hH.blk i _ hg
    rw[g1]at h1; injection h1 with h1; injection h1 with h1; subst h1
    subst h2
    simp only[hg,if_true]
    refine⟨?_,rfl,by simp,by simp⟩
    have g3':=A0o (fun c x hx=>Rep.avoid (Y:=Y) (fun b _ hb=>hY b hb) s c x hx) g3
    rcases g2.2 with⟨k1,k2⟩|⟨g,cap,cur,k1,k2,k3,k4,k5,k6,k7⟩
    ·subst k1
     have hn:xs=[]:=List.eq_nil_of_length_eq_zero k2
     subst hn
     exact⟨none,0,0,[],rfl,rfl,Nat.le_refl _,Nat.zero_le _,rfl,.inl rfl⟩
    ·subst k1
     refine⟨_,_,cap,ds,rfl,rfl,k4,k5,g3',.inr ⟨g,0,rfl,?_,fun hy=>hb _ g hy k2⟩⟩
     intro j u hu
     have:=A0E.cells g2 (g:=g) rfl j u hu
     simpa[Addr.add_mid]using this
   ·exact absurd rfl hd
  ·exact absurd rfl hd
 | .nilsl,cs,hr,_=>⟨hr,rfl,by simp[A1z],by simp[A1z]⟩
 | .inn i p e,cs,hr,hd=>by
  simp only[A1z]at hd⊢
  split at hd
  ·rename_i xs hx
   refine⟨A7k hH hx (fun b hbi hy=> ?_) hr,rfl,by simp,by simp⟩
   have his:∃bk,A0b H i=some bk:=by
    unfold A7I at hx
    split at hx
    ·rename_i hg; exact⟨_,hg⟩
    ·cases hx
   obtain⟨bk,hbk⟩:=his
   exact hb i b hy ((hH.blk i bk hbk).lt b hbi).1
  ·exact absurd rfl hd
 | .ptr ..,_,_,hd=>absurd rfl hd
 | .clp ..,_,_,hd=>absurd rfl hd
 | .vw ..,_,_,hd=>absurd rfl hd
 | .fn ..,_,_,hd=>absurd rfl hd
 | .tup _,_,_,hd=>absurd rfl hd
 | .bad,_,_,hd=>absurd rfl hd
 | .und,_,_,hd=>absurd rfl hd
 | .dead,_,_,hd=>absurd rfl hd
theorem B0X{H:A0m}{Y:Nat→Prop}(hH:A1e w X θ base H)(hY:∀b,Y b→X b)(hb:∀i b,Y b→¬base i b){θ':Nat→Option Own}:(tv:TV)→(vs:List Value)→RV w X θ true tv vs→RV w Y θ' true (B2t H tv) vs
 | .pr a b,vs,hr=>by
  have hh:∃v r,vs=v::r∧A0g w X θ a v∧RV w X θ true b r∧∀c,a≠ .tup c:=by
   cases a with
   |tup c=>simp only[RV]at hr; obtain⟨v,r,h0,⟨cs,h1,h2⟩,h3⟩:=hr; exact h2.elim
   |dead=>simp only[RV]at hr; obtain⟨v,r,h0,h1,h3⟩:=hr; exact⟨v,r,h0,trivial,h3,by simp⟩
   |und=>simp only[RV]at hr; obtain⟨v,r,h0,h1,h3⟩:=hr; exact⟨v,r,h0,h1,h3,by simp⟩
   |_=>simp only[RV]at hr; obtain⟨v,r,h0,⟨cs,h1,h2⟩,h3⟩:=hr; exact⟨v,r,h0,⟨cs,h1,h2⟩,h3,by simp⟩
  obtain⟨v,r,h0,h1,h2,h3⟩:=hh
  have k:=B0X hH hY hb (θ':=θ') b r h2
  simp only[B2t]
  subst h0
  by_cases hd:A1z H a= .dead
  ·rw [hd]; exact⟨v,r,rfl,trivial,k⟩
  ·have hda:a≠ .dead:=fun e=>hd (by rw[e]; rfl)
   have hua:a≠ .und:=fun e=>hd (by rw[e]; rfl)
   obtain⟨cs,g1,g2⟩:=A2k h3 hda hua h1
   obtain⟨m1,m2,m3,m4⟩:=A6a hH hY hb (θ':=θ') a cs g2 hd
   exact A2j (A3M (by rw[m2]; exact g1) m1) m3 k
 | .pv .unit x,_,h=>h
 | .pv (.int _) _,_,h| .pv .bool _,_,h| .pv .str _,_,h| .pv (.slice _) _,_,h| .pv (.arr _ _) _,_,h| .pv (.pair _ _) _,_,h| .pv (.ref _) _,_,h| .pv (.opt _) _,_,h| .pv (.fnc _) _,_,h=>by simp[RV]at h
 | .ptr ..,_,h| .sl ..,_,h| .inn ..,_,h| .vw ..,_,h| .clp ..,_,h| .nilsl,_,h| .fn ..,_,h| .tup _,_,h| .bad,_,h| .und,_,h| .dead,_,h=>by simp[RV]at h
theorem B0Y{H:A0m}{Y:Nat→Prop}(hH:A1e w X θ base H)(hY:∀b,Y b→X b)(hb:∀i b,Y b→¬base i b){θ':Nat→Option Own}(tv:TV)(v:Value)(hr:A0g w X θ tv v):A0g w Y θ' (B0f H tv) v:=by
 by_cases ht:∃c,tv= .tup c
 ·obtain ⟨c,rfl⟩:=ht
  obtain⟨vs,k1,k2⟩:=hr
  exact⟨vs,k1,B0X hH hY hb c vs k2⟩
 ·have e:B0f H tv=A1z H tv:=by cases tv<;>first|rfl|exact absurd ⟨_,rfl⟩ ht
  rw[e]
  by_cases hd:A1z H tv= .dead
  ·rw [hd]; trivial
  ·have hda:tv≠ .dead:=fun e=>hd (by rw[e]; rfl)
   have hua:tv≠ .und:=fun e=>hd (by rw[e]; rfl)
   obtain⟨cs,g1,g2⟩:=A2k (fun c e=>ht ⟨c,e⟩) hda hua hr
   obtain⟨m1,m2,m3,m4⟩:=A6a hH hY hb (θ':=θ') tv cs g2 hd
   exact A3M (by rw[m2]; exact g1) m1
theorem A9Q{H:A0m}(hn:(H.any fun q=>q.2.alias)=false)(h:A1e w X θ base H):A1e w X' θ base H:=by
 refine⟨fun i b hb=> ?_,h.inj⟩
 have:b.alias=false:=by
  have hm:∀(H:A0m) (i:Nat) (b:Blk),A0b H i=some b→(H.any fun q=>q.2.alias)=false→b.alias=false:=by
   intro H
   induction H with
   |nil=>intro i b h; simp[A0b]at h
   |cons q H ih=>
    obtain⟨j,c⟩:=q
    intro i b hb hn
    simp only[List.any_cons,Bool.or_eq_false_iff]at hn
    simp only[A0b]at hb
    by_cases e:j=i
    ·simp only[A0j.2 e,cond,Option.some.injEq]at hb; subst hb; exact hn.1
    ·simp only[A0c e,cond]at hb; exact ih i b hb hn.2
  exact hm H i b hb hn
 exact B0q this (h.blk i b hb)
theorem A8O{f:FuncId}{c:Con}(hG:A4C P w0)(hc:A8C P f c){draw:Bool}{id:Nat}{args:List TV}{vs:Array Value}{K:TV→St→Option R}(h:Rel w0 Xo σ θ as a w)(hv:A1g w (A0d Xo θ σ.heap) θ args vs)
  (hp:B2M c draw σ id args K=some r):A8q P f vs w fun v w'=>∃tv σ' θ',K tv σ'=some r∧Rel w0 Xo σ' θ' as a w'∧A0g w' (A0d Xo θ' σ'.heap) θ' tv v:=by
 unfold B2M at hp
 split at hp
 ·cases hp
 ·rename_i xs hxs
  obtain⟨y,hpre,hp⟩:=A0T hp
  let Y:Nat→Prop:=fun b=>A0d Xo θ σ.heap b∧¬∃i∈A8w σ.heap args,A0e θ i b
  have hYX:∀b,Y b→A0d Xo θ σ.heap b:=fun b h=>h.1
  have hYlt:∀b,Y b→b<w.heap.size:=fun b hb=>A3y h hb.1
  have hargs:A1T w Y c.ps vs.toList xs:=A3g h.heap hYX args vs.toList c.ps xs hxs (fun i hi b hb hy=>hy.2 ⟨i,hi,hb⟩) (by simpa using hv.1) (fun i tv hi=>by
   obtain⟨v,k1,k2⟩:=hv.2 i tv hi
   exact⟨v,by simpa using k1,k2⟩)
  refine(hc w Y vs xs y hYlt hargs hpre (hG.now h)).mono fun v w' ⟨hk,θH,hH,hr⟩=> ?_
  have all:∀H t,(((A0z args).isEmpty|| !(TV.alias t||H.any fun q=>q.2.alias))=true)→A1e w' (A0d Y θH H) θH (fun _ b=>w.heap.size≤b) H→A0g w' (A0d Y θH H) θH t v→A1e w' (A0d (A0d Xo θ σ.heap) θH H) θH (fun _ b=>w.heap.size≤b) H∧A0g w' (A0d (A0d Xo θ σ.heap) θH H) θH t v:=by
   intro H t hcond h1 h2
   simp only[Bool.or_eq_true,List.isEmpty_iff,Bool.not_eq_true',Bool.or_eq_false_iff]at hcond
   rcases hcond with hcond|⟨n1,n2⟩
   ·have hst:A1G (A0d Y θH H) (A0d (A0d Xo θ σ.heap) θH H) w' w':=⟨⟨fun _=>False,A0h.refl _ w',fun _ _ h=>h.elim⟩,fun b _ hb=>by
     rcases hb with hb|hb
     ·exact .inl ⟨hb,by rw[A5Y _ hcond]; simp⟩
     ·exact .inr hb⟩
    refine⟨⟨fun i b hb=> ?_,h1.inj⟩,A0g.step hst t v (fun _ _=>rfl) h2⟩
    have:=(h1.blk i b hb).go hst (θ':=θH) rfl (fun _ _=>rfl) (fun c=>c) (fun c cs hc=>RV.step hst false c cs (fun _ _=>rfl) hc) (fun c t h=>h)
    cases b<;>exact this
   ·exact ⟨A9Q n2 h1,B0h n1 h2⟩
  generalize A2o c.sh y=t at hp hH hr
  generalize mkH c.sh y=H at hp hH hr
  cases draw with
  |true=>
   simp only at hp
   obtain⟨hcond,hp⟩:=A0a hp
   have hcond':((A0z args).isEmpty|| !(TV.alias t||H.any fun q=>q.2.alias))=true:=by
    simp only[Bool.or_eq_true,Bool.not_eq_true',Bool.or_eq_false_iff]at hcond⊢
    rcases hcond with hcond|⟨n1,n2⟩
    ·exact .inl hcond
    ·refine .inr ⟨n1,?_⟩
     rw[List.any_eq_false]at n2⊢
     intro q hq hal
     exact n2 q hq (by simp[hal])
   obtain⟨k1,k2⟩:=all H t hcond' hH hr
   have h':=h.below hk
   exact⟨_,_,θ,hp,h',B0Y k1 (fun b hb=> .inl hb) (fun _ b hb (hle:w.heap.size≤b)=>absurd (A3y h hb) (by omega)) t v k2⟩
  |false=>
   simp only at hp
   obtain⟨hpin,hp⟩:=A0a hp
   cases hcond:((A0z args).isEmpty|| !(TV.alias t||H.any fun q=>q.2.alias))with
   |true=>
    rw[hcond]at hp
    obtain⟨k1,k2⟩:=all H t hcond hH hr
    obtain⟨θ',m1,m2⟩:=A5x h (d:=id) (fun b hb=>hb) hk k1 k2 hpin
    exact⟨_,_,θ',hp,m1,m2⟩
   |false=>
    rw[hcond,cond_false]at hp
    split at hp
    ·rename_i τ hτ
     obtain⟨f1,f2,f3⟩:=Rel.fixAll _ _ _ h hτ
     have hX:∀b,A0d Xo θ τ.heap b→Y b:=by
      intro b hb
      have hb':A0d Xo θ σ.heap b:=by
       rcases hb with hb|⟨k,k1,k2⟩
       ·exact .inl hb
       ·exact .inr ⟨k,(f2 k k1).2,k2⟩
      refine⟨hb',fun⟨i,hi,hbi⟩=> ?_⟩
      have hsi:=f3 i hi
      obtain⟨bi,hgi⟩:=Option.isSome_iff_exists.1 hsi
      rcases hb with hb|⟨k,k1,k2⟩
      ·exact h.apart hb ((h.heap.blk i bi hgi).lt b hbi).1
      ·have hki:k≠i:=fun e=>(f2 k k1).1 (e▸hi)
       exact h.heap.inj k i hki (f2 k k1).2 hsi b k2 hbi
     obtain⟨θ',m1,m2⟩:=A5x f1 (d:=id) hX hk hH hr hpin
     exact⟨_,_,θ',hp,m1,m2⟩
    ·cases hp
def B1l(w:World)(v:Value):Prop:=∀ad n c,v= .slice (some ad) n c→∃cur e,w.heap[ad.block]? =some (.cells cur e (0,0))∧ad.off=0∧ad.spot=none∧n≤c∧c≤maxLen
def A6I(P:Program)(f:FuncId)(c:A5M):Prop:=
 ∀(w:World) (X:Nat→Prop) (base:Nat→Prop) (v:Value) (xs:List c.e.den) (ds:List Value) (rest:List Value) (ps:c.ps.den) (ys:List c.e.den),(∀ b,X b→b<w.heap.size)→(∀ b,w.heap.size≤b→base b)→(∀ b,v.ownBlock=some b→X b)→
  A0E w base c.E c.e.size v xs.length ds→A0l (Rep w X c.e) ds xs→A1T w X c.ps rest ps→(c.thaw=true→∀u∈rest,B1l w u)→c.raw xs ps=some ys→GOk P w→(∀ b,v.ownBlock=some b→¬B1j P b)→
  A8q P f (v::rest).toArray w fun u w'=>∃ds',A0l (Rep w X c.e) ds' ys∧A0E w' base c.E c.e.size u ys.length ds'∧A0h (fun b=>some b=v.ownBlock) w w'∧∀b,u.ownBlock=some b→v.ownBlock=some b∨w.heap.size≤b
theorem B1Y(h:Rel w0 Xo σ θ as a w){tv:TV}(ht:A5v σ.heap tv=true){v:Value}(hv:A0g w X θ tv v):B1l w v:=by
 unfold A5v at ht
 split at ht
 ·obtain ⟨cs,k1,k2⟩:=hv
  obtain⟨k2,_⟩:=k2
  subst k2
  rename_i kk xx _
  have e:v= .int kk xx:=by simpa[A0i,TV.isAgg,Ty.isAgg,eq_comm]using k1
  subst e
  intro ad n c e; cases e
 ·obtain ⟨cs,k1,k2⟩:=hv
  have k2':cs=_:=k2
  subst k2'
  have e:v= .slice none 0 0:=by simpa[A0i,TV.isAgg,eq_comm]using k1
  subst e
  intro ad n c e; cases e
 ·rename_i j e
  split at ht
  ·rename_i hg
   obtain⟨cs,k1,u,k2,k3,k4⟩:=hv
   subst k3
   have e:v=u:=by simpa[A0i,TV.isAgg,eq_comm]using k1
   subst e
   obtain⟨u2,ds,g1,g2,g3⟩:=h.heap.blk j _ hg
   rw[g1]at k2; injection k2 with k2; injection k2 with k2; subst k2
   intro ad n c e
   rcases g2.2 with⟨q,_⟩|⟨g,cap,cur,q,_,q2,q3,q4,_⟩
   ·rw [q]at e; cases e
   ·rw [q]at e; injection e with e1 e2 e3; injection e1 with e1; subst e1; subst e2; subst e3
    exact⟨_,_,q2,rfl,rfl,q3,q4⟩
  ·cases ht
 ·cases ht
theorem A6X{b:Nat}:∀{l:List Nat} {σ:St},A0d Xo θ (σ.killL l).heap b→A0d Xo θ σ.heap b
 | [],_,h=>h
 |_::_,_,h=>A7U (fun _ _=>rfl) b (A6X h)
theorem A9i{c:A5M}{h:A0m}:∀{l:List TV},(l.all (A5v h))=true→A8w h l=A0z l
 | [],_=>rfl
 |tv::l,hl=>by
  simp only[List.all_cons,Bool.and_eq_true]at hl
  have e:=A9i (c:=c) hl.2
  have e1:A4G h tv=tv.ids:=by
   have:=hl.1
   unfold A5v at this
   split at this<;>first|rfl|cases this
  simp only[A8w,A0z]
  rw[e1,e]
theorem A9x{f:FuncId}{c:A5M}(hG:A4C P w0)(hc:A6I P f c){draw:Bool}{id:Nat}(hid0:id≠PIN){args:List TV}{vs:Array Value}{K:TV→St→Option R}(h:Rel w0 Xo σ θ as a w)(hv:A1g w (A0d Xo θ σ.heap) θ args vs)
  (hp:B3n c draw σ id args K=some r):A8q P f vs w fun v w'=>∃tv σ' θ',K tv σ'=some r∧Rel w0 Xo σ' θ' as a w'∧A0g w' (A0d Xo θ' σ'.heap) θ' tv v:=by
 unfold B3n at hp
 cases draw with
 |true=>simp[cond]at hp
 |false=>
  rw[cond_false]at hp
  have tail:∀{t:TV} {rest:List TV} {ps:c.ps.den},args=t::rest→A1N σ.heap rest c.ps=some ps→A4P c σ.heap rest=true→∃v vr,vs=(v::vr).toArray∧A0g w (A0d Xo θ σ.heap) θ t v∧A1T w (A0d Xo θ (σ.killL (A0z rest)).heap) c.ps vr ps∧(c.thaw=true→∀u∈vr,B1l w u):=by
   intro t rest ps e hps hid
   subst e
   have hl:vs.toList.length=rest.length+1:=by simpa using hv.1
   cases hvl:vs.toList with
   |nil=>rw[hvl]at hl; simp at hl
   |cons v vr=>
    have hat:∀(i:Nat) (tv:TV),rest[i]? =some tv→∃u,vr[i]? =some u∧A0g w (A0d Xo θ σ.heap) θ tv u:=fun i tv hi=>by
     obtain⟨u,k1,k2⟩:=hv.2 (i+1) tv (by simpa using hi)
     refine⟨u,?_,k2⟩
     have:vs.toList[i+1]? =some u:=by simpa using k1
     rw[hvl]at this
     simpa using this
    have hlen:vr.length=rest.length:=by rw[hvl]at hl; simpa using hl
    refine⟨v,vr,by rw[← hvl],?_,?_,fun ht u hu=> ?_⟩
    ·obtain ⟨u,k1,k2⟩:=hv.2 0 t rfl
     have:vs.toList[0]? =some u:=by simpa using k1
     rw[hvl]at this
     simp only[List.getElem?_cons_zero,Option.some.injEq]at this
     subst this; exact k2
    ·refine A3g h.heap (fun b hb=>A6X hb) rest vr c.ps ps hps (fun i hi b hb hy=> ?_) hlen hat
     unfold A4P at hid
     cases hth:c.thaw with
     |false=>
      rw[hth]at hid
      rw[A5Y _ (List.isEmpty_iff.1 hid)]at hi; simp at hi
     |true=>
      rw[hth]at hid
      rw[A9i (c:=c) hid]at hi
      have hsome:(A0b σ.heap i).isSome=true:=by
       have key:∀l:List TV,l.all (A5v σ.heap)=true→i∈A0z l→(A0b σ.heap i).isSome=true:=by
        intro l
        induction l with
        |nil=>intro _ hi; simp[A0z]at hi
        |cons tv l ih=>
         intro hl hi
         simp only[List.all_cons,Bool.and_eq_true]at hl
         have hi':i∈tv.ids∨i∈A0z l:=by simpa[A0z]using hi
         rcases hi' with hi'|hi'
         ·have:=hl.1
          unfold A5v at this
          split at this
          ·simp [TV.ids]at hi'
          ·simp [TV.ids]at hi'
          ·simp only[TV.ids,List.mem_singleton]at hi'
           subst hi'
           split at this
           ·rename_i hg; simp[hg]
           ·cases this
          ·cases this
         ·exact ih hl.2 hi'
       exact key rest hid hi
      obtain⟨bi,hgi⟩:=Option.isSome_iff_exists.1 hsome
      rcases hy with hy|⟨k,k1,k2⟩
      ·exact h.apart hy ((h.heap.blk i bi hgi).lt b hb).1
      ·rw [A1L]at k1
       split at k1
       ·cases k1
       ·rename_i hn
        have hki:k≠i:=fun e=>hn (e▸hi)
        have hks:(A0b σ.heap k).isSome=true:=by simpa using k1
        exact h.heap.inj k i hki hks hsome b k2 hb
    ·unfold A4P at hid
     rw[ht]at hid
     obtain⟨i,hi,e⟩:=List.mem_iff_getElem.1 hu
     have hi2:i<rest.length:=by omega
     obtain⟨u',q1,q2⟩:=hat i _ (List.getElem?_eq_getElem hi2)
     have:u'=u:=by rw[List.getElem?_eq_getElem hi]at q1; injection q1 with q1; rw[← q1,e]
     subst this
     exact B1Y h (List.all_eq_true.1 hid _ (List.getElem_mem hi2)) q2
  split at hp
  ·rename_i rest
   split at hp
   ·rename_i ps hps
    obtain⟨hid,hp⟩:=A0a hp
    obtain⟨ys,hraw,hp⟩:=A0T hp
    obtain⟨v,vr,hvs,hv0,hargs,hth⟩:=tail rfl hps hid
    obtain⟨cs,k1,k2⟩:=hv0
    have k2':cs=_:=k2
    subst k2'
    have hev:v= .slice none 0 0:=by simpa[A0i,TV.isAgg,eq_comm]using k1
    subst hev
    subst hvs
    have h':=h.killL (A0z rest)
    have hd:=hc w (A0d Xo θ (σ.killL (A0z rest)).heap) (w0.may id) (.slice none 0 0) [] [] vr ps ys (fun b hb=>A3y h' hb) (fun b hb=>h'.new hid0 hb) (fun b hb=>by simp[Value.ownBlock]at hb) (A1k w (w0.may id) c.E c.e.size) rfl hargs hth hraw (hG.now h) (fun b hb=>by simp[Value.ownBlock]at hb)
    refine hd.mono fun u w' ⟨ds',q1,q2,q3,q4⟩=> ?_
    have hnil:A0l (Rep w (A0d Xo θ (σ.killL (A0z rest)).heap) c.e) [] []:=rfl
    obtain⟨z1,z2⟩:=A3s h' id hid0 (E:=c.E) (xs:=ys) (ys:=[]) (v:= .slice none 0 0) (.inl rfl) q1 hnil (by simpa using q2) q3 q4
    rw[List.append_nil]at z1 z2
    exact⟨_,_,_,hp,z1,z2⟩
   ·cases hp
  ·rename_i i e0 rest
   split at hp
   ·rename_i E e2 xs hg
    split at hp
    ·rename_i ps hps
     split at hp
     ·rename_i q; subst q
      obtain⟨hcnd,hp2⟩:=A0a hp
      clear hp
      simp only[Bool.and_eq_true,decide_eq_true_eq]at hcnd
      obtain⟨⟨⟨⟨he0,hE⟩,hid⟩,hnot⟩,hpin⟩:=hcnd
      have hpi:i≠PIN:=A2S (by simpa using hpin)
      subst he0; subst hE
      obtain⟨ys,hraw,hp⟩:=A0T hp2
      obtain⟨v,vr,hvs,hv0,hargs,hth⟩:=tail rfl hps hid
      have hni:i∉A0z rest:=fun hi=>by
       have:(A0z rest).any (Nat.beq i)=true:=List.any_eq_true.2 ⟨i,hi,Nat.beq_refl i⟩
       rw[this]at hnot; cases hnot
      have h':=h.killL (A0z rest)
      have hg':A0b (σ.killL (A0z rest)).heap i=some (.arr c.E c.e xs):=by rw[A1L,if_neg hni,hg]; rfl
      obtain⟨v0,dx,g1,g2,g3⟩:=h'.heap.blk i _ hg'
      obtain⟨cs,k1,v2,k2,k3,k4⟩:=hv0
      rw[g1]at k2; injection k2 with k2; injection k2 with k2; subst k2
      subst k3
      have hev:v=v0:=by simpa[A0i,TV.isAgg,eq_comm]using k1
      subst hev
      subst hvs
      have hd:=hc w (A0d Xo θ (σ.killL (A0z rest)).heap) (w0.may i) v xs dx vr ps ys (fun b hb=>A3y h' hb) (fun b hb=>h'.new hpi hb) (fun b hb=> .inr ⟨i,by simp[hg'],by simp[A0e,g1,Own.has,hb]⟩) g2 g3 hargs hth hraw (hG.now h) (fun b hb=>hG.own (A0F.may_any (((h'.heap.blk i _ hg').lt b (by simp[A0e,g1,Own.has,hb])).1)))
      refine hd.mono fun u w' ⟨ds',q1,q2,q3,q4⟩=> ?_
      have hnil:A0l (Rep w (A0d Xo θ (σ.killL (A0z rest)).heap) c.e) [] []:=rfl
      obtain⟨z1,z2⟩:=A3s h' i hpi (E:=c.E) (xs:=ys) (ys:=[]) (v:=v) (.inr ⟨_,g1,hg'⟩) q1 hnil (by simpa using q2) q3 q4
      rw[List.append_nil]at z1 z2
      exact⟨_,_,_,hp,z1,z2⟩
     ·cases hp
    ·cases hp
   ·cases hp
  ·cases hp
def B0k(P:Program)(f:FuncId)(c:A8p):Prop:=
 ∀(w:World) (X:Nat→Prop) (θ1:Nat→Option Own) (v:Value) (x:c.k.den) (rest:List Value) (ps:c.ps.den) (z:c.k.den×A2K c.sh),(∀ b,X b→b<w.heap.size)→(∀ b,A0e θ1 0 b→X b)→
  A0A w X θ1 (fun _ _=>True) 0 (c.k.blk x)→A0g w X θ1 (c.k.tv 0) v→A1T w X c.ps rest ps→c.raw x ps=some z→GOk P w→(∀ b,A0e θ1 0 b→¬B1j P b)→
  A8q P f (v::rest).toArray w fun u w'=>A0h (fun b=>A0e θ1 0 b) w w'∧∃θ,A1e w' (A0d X θ (mkH c.sh z.2)) θ (fun _ b=>w.heap.size≤b) (mkH c.sh z.2)∧A0g w' (A0d X θ (mkH c.sh z.2)) θ (A2o c.sh z.2) u∧
   A0A w' (A0d X θ (mkH c.sh z.2)) θ1 (fun _ _=>True) 0 (c.k.blk z.1)
theorem A9I{M M':Nat→Nat→Prop}{θ1 θ2:Nat→Option Own}{i j:Nat}{k:BK}{x:k.den}(h:A0A w X θ1 M i (k.blk x))(e:θ1 i=θ2 j)(hM:∀b,A0e θ1 i b→M i b→M' j b):A0A w X θ2 M' j (k.blk x):=by
 cases k with
 |var t=>
  obtain⟨b,C,E,h1,h2,h3,h4,h5⟩:=h
  exact⟨b,C,E,e.symm.trans h1,hM b (by simp[A0e,h1,Own.has]) h2,h3,h4,h5⟩
 |arr E s=>
  obtain⟨v,ds,h1,h2,h3⟩:=h
  exact⟨v,ds,e.symm.trans h1,A2i h2.row (fun g hg=>hM g (by simp[A0e,h1,Own.has,hg]) (h2.may g hg)),h3⟩
 |tre E s=>
  obtain⟨sk,L,v,h1,h2,h3⟩:=h
  exact⟨sk,L,v,e.symm.trans h1,h2,h3.go (.sl E s) _ _ _ _ (fun _ _=>rfl) (fun b hb hm=>hM b (by simpa[A0e,h1,Own.has]using hb) hm)⟩
theorem B0e(hh:A1e w X θ base h0){k:BK}{tv:TV}{i:Nat}{p:List Sel}{x:k.den}(hp:A1O h0 k tv=some (i,p,x))(hin:bkB h0 tv=true){v:Value}(hv:A0g w X θ tv v):
  (A0b h0 i).isSome=true∧∃o:Own,(∀ b,o.has b→A0e θ i b)∧A0A w X (fun _=>some o) (fun _=>base i) 0 (k.blk x)∧A0g w X (fun _=>some o) (k.tv 0) v∧
   ∀(w':World) (X':Nat→Prop) (z:k.den) (h':A0m),A3N h0 i p k z=some h'→(∀ b,A0e θ i b→¬o.has b→w'.heap[b]? =w.heap[b]?)→A0A w' X' (fun _=>some o) (fun _ _=>True) 0 (k.blk z)→
    ∃blk',h'=A0I h0 i blk'∧A0A w' X' θ base i blk':=by
 have plainBack:∀{o:Own} {b0:Blk} (hg:A0b h0 i=some b0) (ho:θ i=some o) (hne:∀E s xs,b0≠ .tre E s xs) (w':World) (X':Nat→Prop) (z:k.den) (h':A0m),A3N h0 i p k z=some h'→A0A w' X' (fun _=>some o) (fun _ _=>True) 0 (k.blk z)→∃blk',h'=A0I h0 i blk'∧A0A w' X' θ base i blk':=by
  intro o b0 hg ho hne w' X' z h' hw hb
  have hw':h'=A0I h0 i (k.blk z):=by
   unfold A3N at hw
   rw[hg]at hw
   cases b0 with
   |tre E s xs=>exact absurd rfl (hne E s xs)
   |_=>simpa[eq_comm]using hw
  exact⟨_,hw',A9I (θ2:=θ) (j:=i) hb ho.symm (fun b hbo _=>((hh.blk i _ hg).lt b (by simpa[A0e,ho]using hbo)).1)⟩
 cases k with
 |var t=>
  cases tv with
  |ptr j rt q=>
   simp only[A1O]at hp
   split at hp
   ·rename_i t2 c hg
    split at hp
    ·rename_i q
     obtain⟨q1,q2⟩:=q
     subst q1; subst q2
     split at hp
     ·split at hp
      ·rename_i y hy
       simp only[Option.some.injEq,Prod.mk.injEq]at hp
       obtain⟨e1,e2,e3⟩:=hp
       subst e1; subst e2; subst e3
       obtain⟨b,C,E,h1,h2,h3,h4,h5⟩:=hh.blk j _ hg
       refine⟨by simp[hg],.var b,fun c hc=>by simpa[A0e,h1]using hc,⟨b,C,E,rfl,h2,h3,A1R c _ _ _ hy h4,by simp[TV.fits]⟩,?_,fun w' X' z h' hw _ hb=>plainBack hg h1 (by simp) w' X' z h' hw hb⟩
       obtain⟨cs,k1,o,b2,off,s,k2,k3⟩:=hv
       rw[h1]at k2; injection k2 with k2; subst k2
       exact⟨cs,k1,_,b2,off,s,rfl,k3⟩
      ·cases hp
     ·cases hp
    ·cases hp
   ·cases hp
  |_=>simp[A1O]at hp
 |arr E e=>
  cases tv with
  |sl j e0=>
   simp only[A1O]at hp
   split at hp
   ·rename_i E2 e2 xs hg
    split at hp
    ·rename_i q; subst q
     split at hp
     ·rename_i q
      obtain⟨q1,q2⟩:=q
      subst q1; subst q2
      simp only[Option.some.injEq,Prod.mk.injEq]at hp
      obtain⟨e1,e2,e3⟩:=hp
      subst e1; subst e2; subst e3
      obtain⟨cs,k1,u,k2,k3,k4⟩:=hv
      obtain⟨u2,ds,g1,g2,g3⟩:=hh.blk j _ hg
      rw[k2]at g1; injection g1 with g1; injection g1 with g1; subst g1
      exact⟨by simp[hg],.arr u,fun c hc=>by simpa[A0e,k2]using hc,⟨u,ds,rfl,g2,g3⟩,⟨cs,k1,u,rfl,k3,k4⟩,fun w' X' z h' hw _ hb=>plainBack hg k2 (by simp) w' X' z h' hw hb⟩
     ·cases hp
    ·cases hp
   ·cases hp
  |inn j q e0=>
   simp only[A1O]at hp
   split at hp
   ·rename_i E2 s xs hg
    split at hp
    ·rename_i E3 e3 ys hy
     split at hp
     ·rename_i q; subst q
      split at hp
      ·rename_i q
       obtain⟨q1,q2,q3⟩:=q
       subst q1; subst q2
       simp only[Option.some.injEq,Prod.mk.injEq]at hp
       obtain⟨e1,e2,e3⟩:=hp
       subst e1; subst e2; subst e3
       obtain⟨cs,k1,sk,L,u,k2,k2',k3,k4⟩:=hv
       obtain⟨sk2,L2,v0,g1,g2,g3⟩:=hh.blk j _ hg
       rw[k2]at g1; injection g1 with g1; injection g1 with g1 g1'; subst g1; subst g1'
       obtain⟨A1,A2,A3,u',m1,m2,m3,m4⟩:=g3.inner (.sl E2 s) id L [v0] xs q _ _ _ (by simpa only[bkB,hg]using hin) hy
       have huu:u'=u:=by
        have:sk q=some u':=m2
        rw[k2']at this; injection this with this; exact this.symm
       subst huu
       obtain⟨v1,ds,L',n1,n2,n3,n4,n5⟩:=m3
       simp only[List.cons.injEq,and_true]at n1
       subst n1
       have hL':L'=[]:=by
        have:∀(u:Ty) {xs:List u.den} {k:Nat} {L:List Nat} {cs:List Value},A0C (fun k=>A0t w (base j) sk (.pl u) (fun p_1=>id (q++(.idx k::p_1)))) k L cs xs→L=[]:=by
         intro u xs
         induction xs with
         |nil=>intro k L cs h; exact h.1
         |cons x xs ih=>intro k L cs ⟨B1,B2,c1,c2,h1,h2,h3,h4⟩; rw[h1,h3.1,ih h4]; rfl
        exact this _ n5
       subst hL'
       have hA2:A2=u'.ownBlock.toList:=by rw[n3]; simp
       have hsub:∀c,c∈A2→c∈L:=fun c hc=>by rw[m1]; simp[hc]
       refine⟨by simp[hg],.arr u',fun c hc=> ?_,⟨u',ds,rfl,n4,A4K (fun k L1 c x _ hx=>A0S _ q3 c x hx.2.2) n5⟩,⟨cs,k1,u',rfl,k3,k4⟩,fun w' X' z h' hw hkeep hb=> ?_⟩
       ·simp only[A0e,k2,Own.has]at hc⊢
        exact hsub c (by rw[hA2]; simp[hc])
       ·obtain ⟨u2,ds',b1,b2,b3⟩:=hb
        injection b1 with b1; injection b1 with b1; subst b1
        have hnd:∀g∈A1++A3,g∉A2:=fun g hg' hga=>by
         rw[m1]at g2
         have h1:=List.nodup_append.1 g2
         rcases List.mem_append.1 hg' with hg'|hg'
         ·exact h1.2.2 g hg' g (List.mem_append_left _ hga) rfl
         ·exact (List.nodup_append.1 h1.2.1).2.2 g hga g hg' rfl
        obtain⟨xs',x1,x2⟩:=m4 w' z (fun g hg'=>hkeep g (by
          simp only[A0e,k2,Own.has]
          rw[m1]
          simp only[List.mem_append]at hg'⊢
          rcases hg' with hg'|hg'<;>simp[hg']) (fun ho=>hnd g hg' (by rw[hA2]; simpa[Own.has]using ho)))
         ⟨u',ds',[],rfl,n2,by rw[hA2]; simp,A5e b2 (fun _ _=>rfl) (fun g hgo _=>n4.may g hgo),A3d q3 b3⟩
        have hw':h'=A0I h0 j (.tre E2 s xs'):=by
         have x1':=x1
         simp only[A3N,hg]at hw
         erw [x1']at hw
         injection hw with hw; exact hw.symm
        exact⟨_,hw',sk,L,v0,k2,g2,x2⟩
      ·cases hp
     ·cases hp
    ·cases hp
   ·cases hp
  |_=>simp[A1O]at hp
 |tre E s=>
  cases tv with
  |inn j q e0=>
   simp only[A1O]at hp
   split at hp
   ·rename_i E2 s2 xs hg
    split at hp
    ·rename_i E3 s3 ys hy
     split at hp
     ·rename_i q; subst q
      split at hp
      ·rename_i q
       obtain⟨q1,q2⟩:=q
       subst q1; subst q2
       simp only[Option.some.injEq,Prod.mk.injEq]at hp
       obtain⟨e1,e2,e3⟩:=hp
       subst e1; subst e2; subst e3
       obtain⟨cs,k1,sk,L,u,k2,k2',k3,k4⟩:=hv
       obtain⟨sk2,L2,v0,g1,g2,g3⟩:=hh.blk j _ hg
       rw[k2]at g1; injection g1 with g1; injection g1 with g1 g1'; subst g1; subst g1'
       obtain⟨A1,A2,A3,u',m1,m2,m3,m4⟩:=g3.inner (.sl E2 s2) id L [v0] xs q _ _ _ (by simpa only[bkB,hg]using hin) hy
       have huu:u'=u:=by
        have:sk q=some u':=m2
        rw[k2']at this; injection this with this; exact this.symm
       subst huu
       have hsub:∀c,c∈A2→c∈L:=fun c hc=>by rw[m1]; simp[hc]
       have hnd2:A2.Nodup:=by rw[m1]at g2; exact(List.nodup_append.1 (List.nodup_append.1 g2).2.1).1
       refine⟨by simp[hg],.tre (fun r=>sk (q++r)) A2,fun c hc=> ?_,⟨_,_,u',rfl,hnd2,A0t.ren _ (fun r=>id (q++r)) id A2 [u'] ys (fun r=>rfl) m3⟩,⟨cs,k1,_,_,u',rfl,?_,k3,k4⟩,fun w' X' z h' hw hkeep hb=> ?_⟩
       ·simp only[A0e,k2,Own.has]at hc⊢
        exact hsub c hc
       ·simpa using k2'
       ·obtain ⟨sk3,L3,u2,b1,b2,b3⟩:=hb
        injection b1 with b1; injection b1 with b1 b1'
        subst b1; subst b1'
        have hu2:u2=u':=by
         obtain⟨v1,_,_,n1,n2,_⟩:=b3
         simp only[List.cons.injEq,and_true]at n1
         subst n1
         have n2':sk (q++[])=some u2:=n2
         rw[List.append_nil,k2']at n2'
         injection n2' with n2'; exact n2'.symm
        subst hu2
        have hnd:∀g∈A1++A3,g∉A2:=fun g hg' hga=>by
         rw[m1]at g2
         have h1:=List.nodup_append.1 g2
         rcases List.mem_append.1 hg' with hg'|hg'
         ·exact h1.2.2 g hg' g (List.mem_append_left _ hga) rfl
         ·exact (List.nodup_append.1 h1.2.1).2.2 g hga g hg' rfl
        have hM:=A0t.lt _ _ _ _ _ m3
        have hz0:=b3.go (w':=w') (M':=base j) (.sl E3 s3) id A2 [u2] z (fun _ _=>rfl) (fun g hga _=>(hM g hga).1)
        have hz:=A0t.ren (sk':=sk) (.sl E3 s3) id (fun r=>id (q++r)) A2 [u2] z (fun r=>rfl) hz0
        obtain⟨xs',x1,x2⟩:=m4 w' z (fun g hg'=>hkeep g (by
          simp only[A0e,k2,Own.has]
          rw[m1]
          simp only[List.mem_append]at hg'⊢
          rcases hg' with hg'|hg'<;>simp[hg']) (fun ho=>hnd g hg' ho))
         hz
        have hw':h'=A0I h0 j (.tre E2 s2 xs'):=by
         have x1':=x1
         simp only[A3N,hg]at hw
         erw [x1']at hw
         injection hw with hw; exact hw.symm
        exact⟨_,hw',sk,L,v0,k2,g2,x2⟩
      ·cases hp
     ·cases hp
    ·cases hp
   ·cases hp
  |_=>simp[A1O]at hp
theorem B0O{k:BK}{t:TV}{x:k.den}(h:A7S k t=some x):t= .nilsl∧∃o:Own,(∀ b,¬o.has b)∧A0A w X (fun _=>some o) (fun _ _=>True) 0 (k.blk x)∧A0g w X (fun _=>some o) (k.tv 0) (.slice none 0 0):=by
 cases k with
 |var _=>simp[A7S]at h
 |arr E e=>
  cases t with
  |nilsl=>
   simp only[A7S,Option.some.injEq]at h
   subst h
   exact⟨rfl,.arr (.slice none 0 0),fun b hb=>by simp[Own.has,Value.ownBlock]at hb,⟨_,[],rfl,A1k _ _ _ _,rfl⟩,⟨_,rfl,_,rfl,rfl,rfl⟩⟩
  |_=>simp[A7S]at h
 |tre E s=>
  cases t with
  |nilsl=>
   simp only[A7S,Option.some.injEq]at h
   subst h
   exact⟨rfl,.tre (fun _=>some (.slice none 0 0)) [],fun b hb=>by simp[Own.has]at hb,⟨_,[],.slice none 0 0,rfl,List.nodup_nil,_,[],[],rfl,rfl,rfl,A1k _ _ _ _,rfl,rfl⟩,⟨_,rfl,_,_,_,rfl,rfl,rfl,rfl⟩⟩
  |_=>simp[A7S]at h
theorem A9c{f:FuncId}{c:A8p}(hG:A4C P w0)(hc:B0k P f c){draw:Bool}{id:Nat}{args:List TV}{vs:Array Value}{K:TV→St→Option R}(h:Rel w0 Xo σ θ as a w)(hv:A1g w (A0d Xo θ σ.heap) θ args vs)
  (hp:B3M c draw σ id args K=some r):A8q P f vs w fun v w'=>∃tv σ' θ',K tv σ'=some r∧Rel w0 Xo σ' θ' as a w'∧A0g w' (A0d Xo θ' σ'.heap) θ' tv v:=by
 unfold B3M at hp
 cases draw with
 |true=>simp[cond]at hp
 |false=>
  rw[cond_false]at hp
  split at hp
  ·rename_i t rest
   split at hp
   ·rename_i ps hps
    obtain⟨hid0,hp⟩:=A0a hp
    simp only[Bool.and_eq_true]at hid0
    obtain⟨hid,hbk⟩:=hid0
    have base:∀{Q:Prop},(∀ v vr,vs=(v::vr).toArray→A0g w (A0d Xo θ σ.heap) θ t v→A1T w (A0d Xo θ σ.heap) c.ps vr ps→Q)→Q:=by
     intro Q hQ
     have hl:vs.toList.length=rest.length+1:=by simpa using hv.1
     cases hvl:vs.toList with
     |nil=>rw[hvl]at hl; simp at hl
     |cons v vr=>
      refine hQ v vr (by rw[← hvl]) ?_ ?_
      ·obtain ⟨u,k1,k2⟩:=hv.2 0 t rfl
       have:vs.toList[0]? =some u:=by simpa using k1
       rw[hvl]at this
       simp only[List.getElem?_cons_zero,Option.some.injEq]at this
       subst this; exact k2
      ·refine A3g h.heap (fun b hb=>hb) rest vr c.ps ps hps (fun i hi=> ?_) (by rw[hvl]at hl; simpa using hl) (fun i tv hi=> ?_)
       ·rw [A5Y _ (List.isEmpty_iff.1 hid)]at hi; simp at hi
       ·obtain ⟨u,k1,k2⟩:=hv.2 (i+1) tv (by simpa using hi)
        refine⟨u,?_,k2⟩
        have:vs.toList[i+1]? =some u:=by simpa using k1
        rw[hvl]at this
        simpa using this
    split at hp
    ·rename_i i p x hrd
     obtain⟨z,hraw,hp1⟩:=A0T hp
     obtain⟨hpin,hp2⟩:=A0a hp1
     split at hp2
     ·rename_i h' hw
      refine base fun v vr hvs hv0 hargs=> ?_
      subst hvs
      obtain⟨b3,o,b4,b1,b2,b5⟩:=B0e h.heap hrd hbk hv0
      have hmay:∀b,A0e θ i b→w0.may i b:=fun b hb=>by
       obtain⟨bi,hbi⟩:=Option.isSome_iff_exists.1 b3
       exact((h.heap.blk i bi hbi).lt b hb).1
      have hown:∀b,A0e θ i b→A0d Xo θ σ.heap b:=fun b hb=> .inr ⟨i,b3,hb⟩
      refine(hc w (A0d Xo θ σ.heap) (fun _=>some o) v x vr ps z (fun b hb=>A3y h hb) (fun b hb=>hown b (b4 b hb)) (A9I b1 rfl (fun _ _ _=>trivial)) b2 hargs hraw (hG.now h) (fun b hb=>hG.own (A0F.may_any (hmay b (b4 b hb))))).mono fun u w' ⟨hk,θH,hH,hr,hb⟩=> ?_
      obtain⟨bi,hbi⟩:=Option.isSome_iff_exists.1 b3
      have hlt:∀b,A0e θ i b→b<w.heap.size:=fun b hb=>((h.heap.blk i bi hbi).lt b hb).2
      obtain⟨blk',e1,e2⟩:=b5 w' _ z.1 h' hw (fun b hb hn=>hk.block b (hlt b hb) hn) hb
      subst e1
      obtain⟨θ',m1,m2⟩:=A7m h (d:=id) (fun b hb=>hb) (T:=fun b=>o.has b) hk (fun b hb=>⟨hown b (b4 b hb),A0F.may_any (hmay b (b4 b hb))⟩) (G:=A0I σ.heap i blk') (fun k=>by
       rw[A2Z]; split
       ·rename_i e; subst e; simp[hbi]
       ·rfl) hH hr hpin (fun k b0 hg=>by
       rw[A2Z]at hg
       split at hg
       ·rename_i e; subst e
        simp only[hbi,Option.map_some,Option.some.injEq]at hg
        subst hg
        exact .inr e2
       ·rename_i e
        refine .inl ⟨hg,fun g hgb hT=> ?_⟩
        exact h.heap.inj k i e (by simp[hg]) b3 g hgb (b4 g hT))
      exact⟨_,_,θ',hp2,m1,m2⟩
     ·cases hp2
    ·split at hp
     ·rename_i x hnil
      obtain⟨z,hraw,hp1⟩:=A0T hp
      obtain⟨hpin,hp2⟩:=A0a hp1
      refine base fun v vr hvs hv0 hargs=> ?_
      subst hvs
      have hn:=B0O (w:=w) (X:=A0d Xo θ σ.heap) hnil
      obtain⟨ht,o,hno,hb,hrv⟩:=hn
      subst ht
      obtain⟨cs,k1,k2⟩:=hv0
      have k2':cs=_:=k2
      subst k2'
      have hev:v= .slice none 0 0:=by simpa[A0i,TV.isAgg,eq_comm]using k1
      subst hev
      refine(hc w (A0d Xo θ σ.heap) (fun _=>some o) (.slice none 0 0) x vr ps z (fun b hb=>A3y h hb) (fun b hb=>absurd hb (hno b)) hb hrv hargs hraw (hG.now h) (fun b hb=>absurd hb (hno b))).mono fun u w' ⟨hk,θH,hH,hr,_⟩=> ?_
      obtain⟨θ',m1,m2⟩:=A5x h (d:=id) (fun b hb=>hb) (hk.mono fun b _ hb=>hno b hb) hH hr hpin
      exact⟨_,_,θ',hp2,m1,m2⟩
     ·cases hp
   ·cases hp
  ·cases hp
end Go.Ai
/- A block gets another number. -/
namespace Go.Ai
open Go.RowKit
variable {P:Program} {cx:Cx} {w0:A0F} {Xo:Nat→Prop} {σ:St} {θ:Nat→Option Own} {as:List (Array Value)} {a:Act} {w:World} {X X':Nat→Prop} {R:Type} {r:R} {base:Nat→Nat→Prop}
theorem B3P(i j:Nat)(tv:TV):(tv.mv i j).isAgg=tv.isAgg:=by cases tv<;>rfl
theorem RV.mv{i j:Nat}(hij:θ j=θ i):(m:Bool)→(tv:TV)→(cs:List Value)→RV w X θ m tv cs→RV w X θ m (tv.mv i j) cs
 |false,.pv _ _,_,h=>h
 |false,.pr a b,cs,⟨c1,c2,h0,h1,h2⟩=>⟨c1,c2,h0,RV.mv hij false a c1 h1,RV.mv hij false b c2 h2⟩
 |false,.ptr k t p,cs,⟨o,b,off,s,h1,h2⟩=>by
  refine⟨o,b,off,s,?_,h2⟩
  by_cases e:k=i
  ·subst e; simp only[Nat.beq_refl,cond]; exact hij.trans h1
  ·simp only[A0c e,cond]; exact h1
 |false,.sl k e,cs,⟨v,h1,h2⟩=>by
  refine⟨v,?_,h2⟩
  by_cases e:k=i
  ·subst e; simp only[Nat.beq_refl,cond]; exact hij.trans h1
  ·simp only[A0c e,cond]; exact h1
 |false,.inn k p e,cs,⟨sk,L,v,h1,h2⟩=>by
  refine⟨sk,L,v,?_,h2⟩
  by_cases e:k=i
  ·subst e; simp only[Nat.beq_refl,cond]; exact hij.trans h1
  ·simp only[A0c e,cond]; exact h1
 |false,.vw k t p e lo hi,cs,hr=>by
  obtain⟨o,v,h1,h2⟩:=hr
  refine⟨o,v,?_,h2⟩
  by_cases e:k=i
  ·subst e; simp only[Nat.beq_refl,cond]; exact hij.trans h1
  ·simp only[A0c e,cond]; exact h1
 |false,.clp _ _,_,h=>h
 |false,.nilsl,_,h=>h
 |false,.fn f c,cs,⟨vs,h1,h2⟩=>⟨vs,h1,RV.mv hij true c vs h2⟩
 |false,.bad,_,h=>h
 |false,.tup _,_,h=>by simp[RV]at h
 |false,.und,_,h=>by simp[RV]at h
 |false,.dead,_,h=>by simp[RV]at h
 |true,.pr a b,vs,h=>by
  have go:∀cs,RV w X θ false a cs→RV w X θ false (a.mv i j) cs:=fun cs=>RV.mv hij false a cs
  have gb:∀r,RV w X θ true b r→RV w X θ true (b.mv i j) r:=fun r=>RV.mv hij true b r
  have ga:=B3P i j a
  cases a<;>simp only[RV,TV.mv]at h⊢ <;>obtain⟨v,r,h0,h1,h2⟩:=h<;>first
   |exact⟨v,r,h0,trivial,gb r h2⟩
   |exact⟨v,r,h0,h1,gb r h2⟩
   |(obtain ⟨cs,k1,k2⟩:=h1; exact⟨v,r,h0,⟨cs,k1,go cs k2⟩,gb r h2⟩)
 |true,.pv .unit _,_,h=>h
 |true,.pv (.int _) _,_,h|true,.pv .bool _,_,h|true,.pv .str _,_,h|true,.pv (.slice _) _,_,h|true,.pv (.arr _ _) _,_,h|true,.pv (.pair _ _) _,_,h|true,.pv (.ref _) _,_,h|true,.pv (.opt _) _,_,h|true,.pv (.fnc _) _,_,h=>by simp[RV]at h
 |true,.ptr ..,_,h|true,.sl ..,_,h|true,.inn ..,_,h|true,.vw ..,_,h|true,.clp ..,_,h|true,.nilsl,_,h|true,.fn ..,_,h|true,.tup _,_,h|true,.bad,_,h|true,.und,_,h|true,.dead,_,h=>by simp[RV]at h
theorem A0g.mv{i j:Nat}(hij:θ j=θ i)(tv:TV)(v:Value)(h:A0g w X θ tv v):A0g w X θ (tv.mv i j) v:=by
 cases tv with
 |dead=>trivial
 |und=>exact h
 |tup c=>obtain⟨vs,k1,k2⟩:=h; exact⟨vs,k1,RV.mv hij true c vs k2⟩
 |pr a b=>obtain⟨cs,k1,k2⟩:=h; exact⟨cs,k1,RV.mv hij false (.pr a b) cs k2⟩
 |ptr k t p=>obtain⟨cs,k1,k2⟩:=h; exact⟨cs,k1,RV.mv hij false (.ptr k t p) cs k2⟩
 |sl k e=>obtain⟨cs,k1,k2⟩:=h; exact⟨cs,k1,RV.mv hij false (.sl k e) cs k2⟩
 |inn k p e=>obtain⟨cs,k1,k2⟩:=h; exact⟨cs,k1,RV.mv hij false (.inn k p e) cs k2⟩
 |vw k t p e lo hi=>obtain⟨cs,k1,k2⟩:=h; exact⟨cs,k1,RV.mv hij false (.vw k t p e lo hi) cs k2⟩
 |fn f c=>obtain⟨cs,k1,k2⟩:=h; exact⟨cs,k1,RV.mv hij false (.fn f c) cs k2⟩
 |_=>obtain⟨cs,k1,k2⟩:=h; exact⟨cs,k1,k2⟩
theorem A9O(i j:Nat):(tv:TV)→(t:Ty)→(tv.mv i j).fits t=tv.fits t
 | .pv _ _,_=>rfl
 | .pr a b,.pair s t=>by simp[TV.mv,TV.fits,A9O i j a s,A9O i j b t]
 | .pr _ _,.int _| .pr _ _,.bool| .pr _ _,.str| .pr _ _,.slice _| .pr _ _,.arr _ _| .pr _ _,.unit| .pr _ _,.ref _| .pr _ _,.opt _| .pr _ _,.fnc _=>rfl
 | .ptr ..,t=>by cases t<;>rfl
 | .sl ..,t=>by cases t<;>rfl
 | .inn _ p _,t=>by
  cases t<;>first|rfl|skip
  cases p with
  |nil=>rfl
  |cons q p=>cases q<;>rfl
 | .vw ..,t=>by cases t<;>rfl
 | .clp ..,_=>rfl
 | .nilsl,_=>rfl
 | .fn ..,t=>by cases t<;>rfl
 | .tup _,t=>by cases t<;>rfl
 | .bad,_=>rfl
 | .und,_=>rfl
 | .dead,_=>rfl
theorem B2q{i j:Nat}(hij:i≠j):∀(h:A0m) (k:Nat),A0b h j=none→A0b (mvH i j h) k=if k=j then(A0b h i).map (Blk.mv i j)else if k=i then none else(A0b h k).map (Blk.mv i j)
 | [],k,_=>by simp[mvH,A0b]
 |(l,b)::h,k,hn=>by
  simp only[A0b]at hn
  have hlj:l≠j:=fun e=>by rw[e,Nat.beq_refl]at hn; cases hn
  simp only[A0c hlj,cond]at hn
  have ih:=B2q hij h k hn
  simp only[mvH,A0b]
  by_cases e:l=i
  ·subst e
   simp only[Nat.beq_refl,cond]
   by_cases e2:k=j
   ·subst e2; simp
   ·simp only[A0c (Ne.symm e2),cond,ih,e2,if_false]
    by_cases e3:k=l
    ·simp [e3]
    ·simp [e3,A0c (Ne.symm e3)]
  ·simp only[A0c e,cond]
   by_cases e2:l=k
   ·subst e2; simp[hlj,e]
   ·simp only[A0c e2,cond,ih]
theorem Rel.mv1(h:Rel w0 Xo σ θ as a w){i j:Nat}(hij:i≠j)(hpi:i≠PIN)(hpj:j≠PIN){tv:TV}{v:Value}(hv:A0g w (A0d Xo θ σ.heap) θ tv v):
  ∃θ',Rel w0 Xo {σ.kill j with heap:=mvH i j (σ.kill j).heap} θ' as a w∧A0g w (A0d Xo θ' (mvH i j (σ.kill j).heap)) θ' ((tv.kill j).mv i j) v:=by
 let θ':Nat→Option Own:=fun k=>if k=j then θ i else θ k
 have hθ:∀k,k≠j→θ' k=θ k:=fun k hk=>by simp[θ',hk]
 have hij':θ' j=θ' i:=by simp[θ',hij]
 have hnone:A0b (σ.kill j).heap j=none:=by simp[St.kill,A1b,A1a]
 have hget':∀k,A0b (mvH i j (σ.kill j).heap) k=if k=j then((A0b σ.heap i).map (Blk.kill j)).map (Blk.mv i j)else if k=i then none else((A0b σ.heap k).map (Blk.kill j)).map (Blk.mv i j):=by
  intro k
  rw[B2q hij _ _ hnone]
  have:∀l,l≠j→A0b (σ.kill j).heap l=(A0b σ.heap l).map (Blk.kill j):=fun l hl=>by simp[St.kill,A1b,A1a,hl]
  by_cases e:k=j
  ·simp only[e,if_true]; rw[this i hij]
  ·simp only[e,if_false]; by_cases e2:k=i
   ·simp [e2]
   ·simp only[e2,if_false]; rw[this k e]
 have src:∀k b,A0b (mvH i j (σ.kill j).heap) k=some b→∃l b0,A0b σ.heap l=some b0∧b=(b0.kill j).mv i j∧θ' k=θ l∧(k=j∧l=i∨k=l∧k≠j∧k≠i):=by
  intro k b hb
  rw[hget']at hb
  by_cases e:k=j
  ·simp only[e,if_true]at hb
   cases h0:A0b σ.heap i with
   |none=>simp[h0]at hb
   |some b0=>
    simp only[h0,Option.map_some,Option.some.injEq]at hb
    exact⟨i,b0,h0,hb.symm,by simp[θ',e],.inl ⟨e,rfl⟩⟩
  ·by_cases e2:k=i
   ·simp [e2,hij]at hb
   ·simp only[e,e2,if_false]at hb
    cases h0:A0b σ.heap k with
    |none=>simp[h0]at hb
    |some b0=>
     simp only[h0,Option.map_some,Option.some.injEq]at hb
     exact⟨k,b0,h0,hb.symm,hθ k e,.inr ⟨rfl,e,e2⟩⟩
 have hown:∀b,A0d Xo θ' (mvH i j (σ.kill j).heap) b→A0d Xo θ σ.heap b:=by
  intro b hb
  rcases hb with hb|⟨k,h1,h2⟩
  ·exact .inl hb
  ·obtain ⟨bk,hbk⟩:=Option.isSome_iff_exists.1 h1
   obtain⟨l,b0,e1,_,e3,_⟩:=src k bk hbk
   exact .inr ⟨l,by simp[e1],by simpa[A0e,e3]using h2⟩
 have hst:A1G (A0d Xo θ σ.heap) (A0d Xo θ' (mvH i j (σ.kill j).heap)) w w:=⟨⟨fun _=>False,A0h.refl _ w,fun _ _ h=>h.elim⟩,fun b _ hb=>hown b hb⟩
 refine⟨θ',h.next (TV.kill j) h.keeps (fun tv u hu=>A0g.step hst _ u (fun _ _=>rfl) (A0g.kill hθ tv u hu)) rfl rfl ⟨fun k b hb=> ?_,fun k l hkl hk hl b=> ?_⟩ (fun hs=>by
  rw[hget',if_neg (Ne.symm hpj),if_neg (Ne.symm hpi)]at hs
  exact⟨by simpa using hs,hθ PIN (Ne.symm hpj)⟩),?_⟩
 ·obtain ⟨l,b0,e1,e2,e3,e4⟩:=src k b hb
  have hm:∀g,w0.may l g→w0.may k g:=fun g hg=>by
   rcases e4 with⟨q1,q2⟩|⟨q1,_,_⟩
   ·subst q1; subst q2; exact A0F.may_move hpj hpi hg
   ·subst q1; exact hg
  subst e2
  have hb0:=h.heap.blk l b0 e1
  cases b0 with
  |var t c=>
   obtain⟨g,C,E,k1,k2,k3,k4,k5⟩:=hb0
   exact⟨g,C,E,e3.trans k1,hm g k2,k3,RV.step hst false _ _ (fun _ _=>rfl) (RV.mv hij' false _ _ (RV.kill hθ false c _ k4)),by rw[A9O]; exact TV.fits_kill j c t k5⟩
  |arr E e xs=>
   obtain⟨u,ds,k1,k2,k3⟩:=hb0
   exact⟨u,ds,e3.trans k1,A2i k2.row (fun g hg=>hm g (k2.may g hg)),A0o (fun c x hx=>hst.rep e c x hx) k3⟩
  |tre E s xs=>
   obtain⟨sk,L,u,k1,k2,k3⟩:=hb0
   exact⟨sk,L,u,e3.trans k1,k2,k3.go (.sl E s) _ _ _ _ (fun _ _=>rfl) (fun b _ hb=>hm b hb)⟩
  |map km vm xs=>
   obtain⟨g,es,clock,k1,k2,k3,k4⟩:=hb0
   exact⟨g,es,clock,e3.trans k1,hm g k2,k3,k4⟩
 ·obtain ⟨bk,hbk⟩:=Option.isSome_iff_exists.1 hk
  obtain⟨bl,hbl⟩:=Option.isSome_iff_exists.1 hl
  obtain⟨k',b0,e1,_,e3,e4⟩:=src k bk hbk
  obtain⟨l',c0,f1,_,f3,f4⟩:=src l bl hbl
  have hne:k'≠l':=by
   rcases e4 with⟨q1,q2⟩|⟨q1,q2,q3⟩<;>rcases f4 with⟨p1,p2⟩|⟨p1,p2,p3⟩
   ·exact absurd (q1.trans p1.symm) hkl
   ·intro e; exact p3 (by rw[p1,←e,q2])
   ·intro e; exact q3 (by rw[q1,e,p2])
   ·intro e; exact hkl (by rw[q1,p1,e])
  simpa[A0e,e3,f3]using h.heap.inj k' l' hne (by simp[e1]) (by simp[f1]) b
 ·exact A0g.mv hij' _ v (A0g.step hst _ v (fun _ _=>rfl) (A0g.kill hθ tv v hv))
theorem A4S:∀(l:List Nat) (j:Nat) (tv:TV) (v:Value) (σ:St) (θ:Nat→Option Own) (K:TV→St→Option R),A9k l j tv σ K=some r→Rel w0 Xo σ θ as a w→A0g w (A0d Xo θ σ.heap) θ tv v→
  ∃tv' σ' θ',K tv' σ'=some r∧Rel w0 Xo σ' θ' as a w∧A0g w (A0d Xo θ' σ'.heap) θ' tv' v
 | [],j,tv,v,σ,θ,K,hp,h,hv=>⟨tv,σ,θ,hp,h,hv⟩
 |i::l,j,tv,v,σ,θ,K,hp,h,hv=>by
  by_cases e:i=j
  ·rw [A9k,A0j.2 e,cond_true]at hp
   exact A4S l (j+1) tv v σ θ K hp h hv
  ·rw [A9k,A0c e,cond_false]at hp
   cases hpin:Nat.beq i PIN||Nat.beq j PIN with
   |true=>rw[hpin]at hp; cases hp
   |false=>
   rw[hpin,cond_false]at hp
   simp only[Bool.or_eq_false_iff]at hpin
   obtain⟨θ',h1,h2⟩:=h.mv1 e (A2S hpin.1) (A2S hpin.2) hv
   exact A4S l (j+1) _ v _ θ' K hp h1 h2
end Go.Ai
/- What an operation tells on a heap,it tells on a greater one. -/
namespace Go.Ai
open Go.RowKit
variable {cx:Cx} {R:Type} {h h':A0m} {ρ ρ':Operand→TV}
def Ext(h h':A0m):Prop:=∀i b,A0b h i=some b→A0b h' i=some b
theorem Ext.refl(h:A0m):Ext h h:=fun _ _ k=>k
theorem Ext.trans{h1 h2 h3:A0m}(a:Ext h1 h2)(b:Ext h2 h3):Ext h1 h3:=fun i x k=>b i x (a i x k)
theorem A9B(H:Ext h h'){i:Nat}{rt:Ty}{p:List Sel}{e:Ty}{lo hi:Nat}{x:List e.den}(k:A7b h i rt p e lo hi=some x):A7b h' i rt p e lo hi=some x:=by
 unfold A7b at k⊢
 cases hg:A0b h i with
 |none=>rw[hg]at k; cases k
 |some b=>rw[H i b hg]; rw[hg]at k; exact k
theorem A7J(H:Ext h h'){i:Nat}{p:List Sel}{e:Ty}{x:List e.den}(k:A7I h i p e=some x):A7I h' i p e=some x:=by
 unfold A7I at k⊢
 cases hg:A0b h i with
 |none=>rw[hg]at k; cases p<;>cases k
 |some b=>rw[H i b hg]; rw[hg]at k; exact k
theorem A3C(H:Ext h h'):(tv:TV)→(t:Ty)→(x:t.den)→A0w h tv t=some x→A0w h' tv t=some x
 | .pv s y,t,x,k=>k
 | .pr a b,.pair ta tb,x,k=>by
  simp only[A0w]at k⊢
  split at k
  ·rename_i u v hu hv
   rw[A3C H a ta u hu,A3C H b tb v hv]; exact k
  ·cases k
 | .nilsl,.slice _,x,k=>k
 | .clp e xs,.slice e',x,k=>k
 | .sl i e,.slice e',x,k=>by
  simp only[A0w]at k⊢
  cases hg:A0b h i with
  |none=>rw[hg]at k; cases k
  |some b=>rw[H i b hg]; rw[hg]at k; exact k
 | .vw i rt p e lo hi,.slice e',x,k=>by
  simp only[A0w]at k⊢
  split at k
  ·rename_i q
   subst q
   simp only[dif_pos]
   exact A9B H k
  ·cases k
 | .inn i p e,.slice e',x,k=>by
  simp only[A0w]at k⊢
  split at k
  ·rename_i q
   rw[if_pos q]; exact A7J H k
  ·cases k
 | .ptr i rt p,.ref e,x,k=>by
  simp only[A0w]at k⊢
  cases hg:A0b h i with
  |none=>rw[hg]at k; cases k
  |some b=>rw[H i b hg]; rw[hg]at k; exact k
 | .pr _ _,.int _,_,k| .pr _ _,.bool,_,k| .pr _ _,.str,_,k| .pr _ _,.slice _,_,k| .pr _ _,.arr _ _,_,k| .pr _ _,.unit,_,k| .pr _ _,.ref _,_,k| .pr _ _,.opt _,_,k| .pr _ _,.fnc _,_,k=>by simp[A0w]at k
 | .ptr ..,.int _,_,k| .ptr ..,.bool,_,k| .ptr ..,.str,_,k| .ptr ..,.slice _,_,k| .ptr ..,.arr _ _,_,k| .ptr ..,.unit,_,k| .ptr ..,.opt _,_,k| .ptr ..,.pair _ _,_,k| .ptr ..,.fnc _,_,k=>by simp[A0w]at k
 | .sl ..,.int _,_,k| .sl ..,.bool,_,k| .sl ..,.str,_,k| .sl ..,.opt _,_,k| .sl ..,.arr _ _,_,k| .sl ..,.unit,_,k| .sl ..,.ref _,_,k| .sl ..,.pair _ _,_,k| .sl ..,.fnc _,_,k=>by simp[A0w]at k
 | .inn ..,.int _,_,k| .inn ..,.bool,_,k| .inn ..,.str,_,k| .inn ..,.opt _,_,k| .inn ..,.arr _ _,_,k| .inn ..,.unit,_,k| .inn ..,.ref _,_,k| .inn ..,.pair _ _,_,k| .inn ..,.fnc _,_,k=>by simp[A0w]at k
 | .vw ..,.int _,_,k| .vw ..,.bool,_,k| .vw ..,.str,_,k| .vw ..,.opt _,_,k| .vw ..,.arr _ _,_,k| .vw ..,.unit,_,k| .vw ..,.ref _,_,k| .vw ..,.pair _ _,_,k| .vw ..,.fnc _,_,k=>by simp[A0w]at k
 | .clp ..,.int _,_,k| .clp ..,.bool,_,k| .clp ..,.str,_,k| .clp ..,.opt _,_,k| .clp ..,.arr _ _,_,k| .clp ..,.unit,_,k| .clp ..,.ref _,_,k| .clp ..,.pair _ _,_,k| .clp ..,.fnc _,_,k=>by simp[A0w]at k
 | .nilsl,.int _,_,k| .nilsl,.bool,_,k| .nilsl,.str,_,k| .nilsl,.opt _,_,k| .nilsl,.arr _ _,_,k| .nilsl,.unit,_,k| .nilsl,.ref _,_,k| .nilsl,.pair _ _,_,k| .nilsl,.fnc _,_,k=>by simp[A0w]at k
 | .fn ..,t,_,k=>by cases t<;>first|(simp [A0w]at k; done)|(simp only[A0w]at k ⊢; exact k)
 | .tup _,t,_,k=>by cases t<;>simp[A0w]at k
 | .bad,t,_,k=>by cases t<;>simp[A0w]at k
 | .und,t,_,k=>by cases t<;>simp[A0w]at k
 | .dead,t,_,k=>by cases t<;>simp[A0w]at k
theorem B2D(H:Ext h h')(v:TV)(t:Ty)(x:t.den)(k:A7o h v t=some x):A7o h' v t=some x:=by
 by_cases q:∃i rt p e,v= .ptr i rt p∧t= .ref e
 ·obtain ⟨i,rt,p,e,rfl,rfl⟩:=q
  rw[A8D]at k⊢
  cases hg:A0b h i with
  |none=>rw[hg]at k; cases k
  |some b=>
   rw[H i b hg]; rw[hg]at k
   cases b with
   |var t c=>
    simp only at k⊢
    split at k
    ·rename_i e1
     rw[if_pos e1]
     cases hu:c.getP p with
     |none=>rw[hu]at k; cases k
     |some u=>rw[hu]at k; exact A3C H u e x k
    ·cases k
   |arr _ _ _=>exact k
   |tre _ _ _=>cases k
   |map _ _ _=>cases k
 ·have hn:∀i rt p e,v= .ptr i rt p→t≠ .ref e:=fun i rt p e h1 h2=>q ⟨i,rt,p,e,h1,h2⟩
  rw[A5y h v t hn]at k
  rw[A5y h' v t hn]
  exact A3C H _ t x k
theorem A2M(H:Ext h h'):(l:List TV)→(t:Ty)→(x:t.den)→A1N h l t=some x→A1N h' l t=some x
 | [],.unit,x,k=>k
 |v::r,.pair a b,x,k=>by
  simp only[A1N]at k⊢
  split at k
  ·rename_i u y hu hy
   rw[B2D H v a u hu,A2M H r b y hy]; exact k
  ·cases k
 | [],.int _,_,k| [],.bool,_,k| [],.str,_,k| [],.opt _,_,k| [],.arr _ _,_,k| [],.slice _,_,k| [],.ref _,_,k| [],.pair _ _,_,k| [],.fnc _,_,k=>by simp[A1N]at k
 |_::_,.int _,_,k|_::_,.bool,_,k|_::_,.str,_,k|_::_,.opt _,_,k|_::_,.arr _ _,_,k|_::_,.unit,_,k|_::_,.ref _,_,k|_::_,.slice _,_,k|_::_,.fnc _,_,k=>by simp[A1N]at k
theorem A3h(H:Ext h h'){e:Ty}(v:TV){x:List e.den}(k:A0Y h e v=some x):A0Y h' e v=some x:=by
 cases v with
 |sl i s=>
  simp only[A0Y]at k⊢
  cases hg:A0b h i with
  |none=>rw[hg]at k; cases k
  |some b=>rw[H i b hg]; rw[hg]at k; exact k
 |vw i rt p s lo hi=>
  simp only[A0Y]at k⊢
  split at k
  ·rename_i q
   subst q
   simp only[dif_pos]
   exact A9B H k
  ·cases k
 |inn i p s=>
  simp only[A0Y]at k⊢
  split at k
  ·rename_i q
   rw[if_pos q]; exact A7J H k
  ·cases k
 |pv t y=>cases t<;>exact k
 |_=>exact k
theorem B3U(H:Ext h h'){s:Ty}(v:TV){K:Int→Option R}{r:R}(k:A9W h s v K=some r):A9W h' s v K=some r:=by
 cases v with
 |sl i e=>
  cases s<;>simp only[A9W]at k⊢ <;>first|cases k|skip
  cases hg:A0b h i with
  |none=>rw[hg]at k; cases k
  |some b=>rw[H i b hg]; rw[hg]at k; exact k
 |inn i p e=>
  cases s<;>simp only[A9W]at k⊢ <;>first|cases k|skip
  split at k
  ·rename_i xs hx; rw[A7J H hx]; exact k
  ·cases k
 |pv t y=>cases t<;>cases s<;>exact k
 |_=>cases s<;>exact k
theorem B2X(H:Ext h h'){t:Ty}(a:TV){K:TV→Option R}{r:R}(k:A1j h t a K=some r):A1j h' t a K=some r:=by
 cases a with
 |ptr i rt p=>
  simp only[A1j]at k⊢
  cases hg:A0b h i with
  |none=>rw[hg]at k; cases k
  |some b=>rw[H i b hg]; rw[hg]at k; exact k
 |pv u y=>cases u<;>exact k
 |_=>exact k
theorem B3X{α:Type}{v:TV}{F G:Int→Option α}{r:α}(hF:∀i,F i=some r→G i=some r)(k:A4p v F=some r):A4p v G=some r:=by
 unfold A4p at k⊢
 split at k
 ·exact hF _ k
 ·cases k
theorem B3f(H:Ext h h')(op:Op)(hi:A0Q op=true){K:TV→Option R}{r:R}(k:A0p cx h ρ op K=some r):A0p cx h' ρ op K=some r:=by
 cases op with
 |load t a=>
  simp only[A0p]at k⊢
  split at k
  ·exact B2X H _ k
  ·cases k
 |convert s d x=>
  simp only[A0p]at k⊢
  split at k
  ·exact k
  ·exact k
  ·split at k
   ·rename_i xs hx; rw[A3h H _ hx]; exact k
   ·cases k
  ·cases k
 |slice T x lo up mx=>
  simp only[A0p]at k⊢
  split at k
  ·cases k
  ·split at k
   ·rename_i i rt p hx
    cases hg:A0b h i with
    |none=>rw[hg]at k; cases k
    |some b=>rw[H i b hg]; rw[hg]at k; exact k
   ·rename_i i e hx
    cases hg:A0b h i with
    |none=>rw[hg]at k; cases k
    |some b=>rw[H i b hg]; rw[hg]at k; exact k
   ·exact k
   ·exact k
   ·exact k
   ·cases k
 |indexAddr T x ix=>
  simp only[A0p]at k⊢
  refine B3X (fun i k=> ?_) k
  split at k
  ·exact k
  ·exact k
  ·rename_i j e hx
   cases hg:A0b h j with
   |none=>rw[hg]at k; cases k
   |some b=>rw[H j b hg]; rw[hg]at k; exact k
  ·rename_i j e hx
   cases hg:A0b h j with
   |none=>rw[hg]at k; cases k
   |some b=>rw[H j b hg]; rw[hg]at k; exact k
  ·exact k
  ·exact k
  ·exact k
  ·cases k
 |call c=>
  obtain⟨callee,args,argTypes⟩:=c
  cases callee with
  |builtin b=>cases b with
   |len=>
    simp only[A0p]at k⊢
    split at k
    ·split at k
     ·exact B3U H _ k
     ·cases k
    ·cases k
   |min=>exact k
   |max=>exact k
   |_=>simp[A0Q]at hi
  |_=>simp[A0Q]at hi
 |move x=>exact k
 |assign x=>exact k
 |pick c a b=>exact k
 |sliceToArrayPointer t a=>exact k
 |nilCheck x=>exact k
 |binOp op t x y u=>exact k
 |unOp op t x=>exact k
 |fieldAddr T x f=>exact k
 |field T x f=>exact k
 |index T x ix=>exact k
 |extract t ix=>exact k
 |makeFunc f first cap=>cases f<;>exact k
 |build t parts=>exact k
 |_=>simp[A0Q]at hi
theorem A6V(H:Ext h h'){e:Ty}:(l:List (Nat×TV))→(xs ys:List e.den)→A2H xs e (fun v=>A0w h v e) l=some ys→A2H xs e (fun v=>A0w h' v e) l=some ys
 | [],xs,ys,k=>k
 |(i,v)::r,xs,ys,k=>by
  simp only[A2H]at k⊢
  split at k
  ·rename_i y hy; rw[A3C H v e y hy]; exact A6V H r _ ys k
  ·cases k
theorem A2q(H:Ext h h'):(v:TV)→(d:DS)→(z:d.ty.den×List Nat)→A0v h v d=some z→A0v h' v d=some z
 | .pv t x,.pl u,z,k=>k
 | .pr a b,.pr c d,z,k=>by
  simp only[A0v]at k⊢
  split at k
  ·rename_i x y hx hy; rw[A2q H a c x hx,A2q H b d y hy]; exact k
  ·cases k
 | .pr a b,.pl (.pair c d),z,k=>by
  simp only[A0v]at k⊢
  split at k
  ·rename_i x y hx hy; rw[A2q H a (.pl c) x hx,A2q H b (.pl d) y hy]; exact k
  ·cases k
 | .nilsl,.sl _ _,z,k=>k
 | .sl j e,.sl E (.pl u),z,k=>by
  simp only[A0v]at k⊢
  cases hg:A0b h j with
  |none=>rw[hg]at k; cases k
  |some b=>rw[H j b hg]; rw[hg]at k; exact k
 | .inn j p e,.sl E s,z,k=>by
  cases p with
  |cons _ _=>simp[A0v]at k
  |nil=>
   simp only[A0v]at k⊢
   cases hg:A0b h j with
   |none=>rw[hg]at k; cases k
   |some b=>rw[H j b hg]; rw[hg]at k; exact k
 | .sl j e,.sl E (.sl _ _),z,k| .sl j e,.sl E (.pr _ _),z,k| .sl j e,.pl _,z,k| .sl j e,.pr _ _,z,k=>by simp[A0v]at k
 | .inn j p e,.pl _,z,k| .inn j p e,.pr _ _,z,k=>by cases p<;>simp[A0v]at k
 | .nilsl,.pl _,z,k| .nilsl,.pr _ _,z,k=>by simp[A0v]at k
 | .pv _ _,.sl _ _,z,k| .pv _ _,.pr _ _,z,k=>by simp[A0v]at k
 | .pr _ _,.sl _ _,z,k=>by simp[A0v]at k
 | .pr _ _,.pl (.int _),z,k| .pr _ _,.pl .bool,z,k| .pr _ _,.pl .str,z,k| .pr _ _,.pl (.slice _),z,k| .pr _ _,.pl (.arr _ _),z,k| .pr _ _,.pl .unit,z,k| .pr _ _,.pl (.ref _),z,k| .pr _ _,.pl (.opt _),z,k| .pr _ _,.pl (.fnc _),z,k=>by simp[A0v]at k
 | .ptr ..,d,z,k| .vw ..,d,z,k| .clp ..,d,z,k| .fn ..,d,z,k| .tup _,d,z,k| .bad,d,z,k| .und,d,z,k| .dead,d,z,k=>by cases d<;>simp[A0v]at k
theorem A9y(H:Ext h h'){s:DS}:(l:List (Nat×TV))→(xs:List s.ty.den)→(z:List s.ty.den×List Nat)→A6c h s xs l=some z→A6c h' s xs l=some z
 | [],xs,z,k=>k
 |(i,v)::r,xs,z,k=>by
  simp only[A6c]at k⊢
  split at k
  ·rename_i y hy
   rw[A2q H v s y hy]
   simp only at k⊢
   split at k
   ·rename_i u hu; rw[A9y H r _ u hu]; exact k
   ·cases k
  ·cases k
theorem A8P{α:Type}{c:Bool}{a:Option α}{r:α}(h:cond c a none=some r):c=true∧a=some r:=by
 cases c with
 |true=>exact⟨rfl,h⟩
 |false=>cases h
theorem A5J(H:Ext h h'){t:Ty}{a v:TV}{h1:A0m}(k:A5I h t a v=some h1):∃i rt p b,a= .ptr i rt p∧(A0b h i).isSome=true∧h1=A0I h i b∧A5I h' t a v=some (A0I h' i b):=by
 cases a with
 |ptr i rt p=>
  simp only[A5I]at k⊢
  cases hg:A0b h i with
  |none=>rw[hg]at k; cases k
  |some blk=>
   rw[hg]at k
   rw[H i blk hg]
   cases blk with
   |var r c=>
    simp only at k⊢
    obtain⟨hc,k⟩:=A8P k
    split at k
    ·rename_i c' hc'
     have k:=Option.some.inj k
     exact⟨i,rt,p,.var r c',rfl,by simp[hg],k.symm,by rw[hc]; simp only[cond,hc']⟩
    ·cases k
   |arr E e xs=>
    simp only at k⊢
    obtain⟨hc,k⟩:=A8P k
    split at k
    ·split at k
     ·rename_i y hy
      obtain⟨hc2,k⟩:=A8P k
      split at k
      ·rename_i z hz
       have k:=Option.some.inj k
       exact⟨i,rt,_,.arr E e _,rfl,by simp[hg],k.symm,by rw[hc]; simp only[cond,A3C H v t y hy,hc2,hz]⟩
      ·cases k
     ·cases k
    ·cases k
   |tre E s xs=>
    simp only at k⊢
    obtain⟨hc,k⟩:=A8P k
    split at k
    ·rename_i y hy
     obtain⟨hc2,k⟩:=A8P k
     split at k
     ·rename_i z hz
      have k:=Option.some.inj k
      exact⟨i,rt,p,.tre E s z,rfl,by simp[hg],k.symm,by rw[hc]; simp only[cond,A3C H v t y hy,hc2,hz]⟩
     ·cases k
    ·cases k
   |map _ _ _=>cases k
 |_=>simp[A5I]at k
end Go.Ai
/- One operation of a head. -/
namespace Go.Ai
open Go.RowKit
variable {P:Program} {cx:Cx} {w0:A0F} {Xo:Nat→Prop} {σ:St} {θ:Nat→Option Own} {as:List (Array Value)} {a:Act} {w:World} {X X':Nat→Prop} {R:Type} {r:R} {base:Nat→Nat→Prop}
theorem A4O{i:Nat}:(tv:TV)→i∉tv.ids→tv.kill i=tv
 | .pv _ _,_=>rfl
 | .pr a b,h=>by
  simp only[TV.ids,List.mem_append,not_or]at h
  simp only[TV.kill,A4O a h.1,A4O b h.2]
 | .ptr j t p,h=>by simp only[TV.ids,List.mem_singleton]at h; simp only[TV.kill,A0c (Ne.symm h),cond]
 | .sl j s,h=>by simp only[TV.ids,List.mem_singleton]at h; simp only[TV.kill,A0c (Ne.symm h),cond]
 | .inn j p s,h=>by simp only[TV.ids,List.mem_singleton]at h; simp only[TV.kill,A0c (Ne.symm h),cond]
 | .vw j t p e lo hi,h=>by simp only[TV.ids,List.mem_singleton]at h; simp only[TV.kill,A0c (Ne.symm h),cond]
 | .clp _ _,_=>rfl
 | .nilsl,_=>rfl
 | .fn f c,h=>by simp only[TV.ids]at h; simp only[TV.kill,A4O c h]
 | .tup c,h=>by simp only[TV.ids]at h; simp only[TV.kill,A4O c h]
 | .bad,_=>rfl
 | .und,_=>rfl
 | .dead,_=>rfl
theorem A3o{i x:Nat}:(tv:TV)→x∈(tv.kill i).ids→x∈tv.ids∧x≠i
 | .pv _ _,h=>by simp[TV.kill,TV.ids]at h
 | .pr a b,h=>by
  simp only[TV.kill,TV.ids,List.mem_append]at h⊢
  rcases h with h|h
  ·have:=A3o a h; exact⟨.inl this.1,this.2⟩
  ·have:=A3o b h; exact⟨.inr this.1,this.2⟩
 | .ptr j t p,h=>by
  by_cases e:j=i
  ·simp [TV.kill,e,TV.ids]at h
  ·simp only[TV.kill,A0c e,cond,TV.ids,List.mem_singleton]at h ⊢; exact⟨h,h▸e⟩
 | .sl j s,h=>by
  by_cases e:j=i
  ·simp [TV.kill,e,TV.ids]at h
  ·simp only[TV.kill,A0c e,cond,TV.ids,List.mem_singleton]at h ⊢; exact⟨h,h▸e⟩
 | .inn j p s,h=>by
  by_cases e:j=i
  ·simp [TV.kill,e,TV.ids]at h
  ·simp only[TV.kill,A0c e,cond,TV.ids,List.mem_singleton]at h ⊢; exact⟨h,h▸e⟩
 | .vw j t p s lo hi,h=>by
  by_cases e:j=i
  ·simp [TV.kill,e,TV.ids]at h
  ·simp only[TV.kill,A0c e,cond,TV.ids,List.mem_singleton]at h ⊢; exact⟨h,h▸e⟩
 | .clp _ _,h=>by simp[TV.kill,TV.ids]at h
 | .nilsl,h=>by simp[TV.kill,TV.ids]at h
 | .fn f c,h=>by simp only[TV.kill,TV.ids]at h ⊢; exact A3o c h
 | .tup c,h=>by simp only[TV.kill,TV.ids]at h ⊢; exact A3o c h
 | .bad,h=>by simp[TV.kill,TV.ids]at h
 | .und,h=>by simp[TV.kill,TV.ids]at h
 | .dead,h=>by simp[TV.kill,TV.ids]at h
theorem A1y:(l:List Nat)→(tv:TV)→(∀ i∈l,i∉tv.ids)→A0k l tv=tv
 | [],_,_=>rfl
 |i::l,tv,h=>by rw[A0k,A4O tv (h i (by simp))]; exact A1y l tv fun j hj=>h j (by simp[hj])
theorem A3K{x:Nat}:(l:List Nat)→(tv:TV)→x∈(A0k l tv).ids→x∈tv.ids∧x∉l
 | [],_,h=>⟨h,by simp⟩
 |i::l,tv,h=>by
  obtain⟨h1,h2⟩:=A3K l _ h
  obtain⟨h3,h4⟩:=A3o tv h1
  exact⟨h3,by simp[h2,h4]⟩
theorem A3W(i j:Nat):(tv:TV)→(tv.kill i).kill j=(tv.kill j).kill i
 | .pv _ _=>rfl
 | .pr a b=>by simp only[TV.kill,A3W i j a,A3W i j b]
 | .ptr k t p=>by simp only[TV.kill]; cases h1:Nat.beq k i<;>cases h2:Nat.beq k j<;>simp[TV.kill,h1,h2]
 | .sl k s=>by simp only[TV.kill]; cases h1:Nat.beq k i<;>cases h2:Nat.beq k j<;>simp[TV.kill,h1,h2]
 | .inn k p s=>by simp only[TV.kill]; cases h1:Nat.beq k i<;>cases h2:Nat.beq k j<;>simp[TV.kill,h1,h2]
 | .vw k t p e lo hi=>by simp only[TV.kill]; cases h1:Nat.beq k i<;>cases h2:Nat.beq k j<;>simp[TV.kill,h1,h2]
 | .clp _ _=>rfl
 | .nilsl=>rfl
 | .fn f c=>by simp only[TV.kill,A3W i j c]
 | .tup c=>by simp only[TV.kill,A3W i j c]
 | .bad=>rfl
 | .und=>rfl
 | .dead=>rfl
theorem A3j(i:Nat):(l:List Nat)→(tv:TV)→A0k l (tv.kill i)=(A0k l tv).kill i
 | [],_=>rfl
 |j::l,tv=>by rw[A0k,A3W,A3j i l]; rfl
theorem A3i:(l m:List Nat)→(tv:TV)→A0k l (A0k m tv)=A0k m (A0k l tv)
 | [],_,_=>rfl
 |i::l,m,tv=>by rw[A0k,←A3j i m,A3i l m]; rfl
theorem A7R{i j:Nat}:(tv:TV)→i∉tv.ids→tv.mv i j=tv
 | .pv _ _,_=>rfl
 | .pr a b,h=>by
  simp only[TV.ids,List.mem_append,not_or]at h
  simp only[TV.mv,A7R a h.1,A7R b h.2]
 | .ptr k t p,h=>by simp only[TV.ids,List.mem_singleton]at h; simp only[TV.mv,A0c (Ne.symm h),cond]
 | .sl k s,h=>by simp only[TV.ids,List.mem_singleton]at h; simp only[TV.mv,A0c (Ne.symm h),cond]
 | .inn k p s,h=>by simp only[TV.ids,List.mem_singleton]at h; simp only[TV.mv,A0c (Ne.symm h),cond]
 | .vw k t p e lo hi,h=>by simp only[TV.ids,List.mem_singleton]at h; simp only[TV.mv,A0c (Ne.symm h),cond]
 | .clp _ _,_=>rfl
 | .nilsl,_=>rfl
 | .fn f c,h=>by simp only[TV.ids]at h; simp only[TV.mv,A7R c h]
 | .tup c,h=>by simp only[TV.ids]at h; simp only[TV.mv,A7R c h]
 | .bad,_=>rfl
 | .und,_=>rfl
 | .dead,_=>rfl
theorem B2r{i j:Nat}:(h:A0m)→(∀ q∈h,q.1≠i∧i∉q.2.ids)→mvH i j h=h
 | [],_=>rfl
 |(k,b)::h,hh=>by
  have h1:=hh (k,b) (by simp)
  have:b.mv i j=b:=by
   cases b with
   |var t c=>simp only[Blk.mv]; rw[A7R c h1.2]
   |_=>rfl
  rw[mvH,A0c h1.1,B2r h fun q hq=>hh q (by simp[hq]),this]
  rfl
theorem A5W{i:Nat}:(h:A0m)→∀q∈A2d h i,q∈h∧q.1≠i
 | [],q,hq=>by simp[A2d]at hq
 |(k,b)::h,q,hq=>by
  by_cases e:k=i
  ·simp only[A2d,A0j.2 e,cond]at hq
   have:=A5W h q hq; exact⟨by simp[this.1],this.2⟩
  ·simp only[A2d,A0c e,cond,List.mem_cons]at hq
   rcases hq with hq|hq
   ·subst hq; exact⟨by simp,e⟩
   ·have:=A5W h q hq; exact⟨by simp[this.1],this.2⟩
theorem A5N{i x:Nat}{b:Blk}(h:x∈(b.kill i).ids):x∈b.ids∧x≠i:=by
 cases b with
 |var t c=>exact A3o c h
 |_=>simp[Blk.kill,Blk.ids]at h
theorem A6x:∀(l m:List Nat) (σ:St),σ.killL (l++m)=(σ.killL l).killL m
 | [],_,_=>rfl
 |i::l,m,σ=>by rw[List.cons_append,St.killL,A6x l m]; rfl
theorem B0w(σ:St):σ.eff [] []=σ:=rfl
theorem A9F(σ:St)(i:Nat)(b:Blk):σ.add i b=σ.eff [] [(i,b)]:=rfl
theorem A6h(σ:St)(D:List Nat)(i:Nat)(b:Blk):(σ.killL D).add i b=σ.eff D [(i,b)]:=by
 unfold St.eff
 rw[A6x]
 rfl
theorem A7M(d:Nat):(H:A0m)→A0f (A8A d H)=(A0f H).map (d+ ·)
 | []=>rfl
 |(i,b)::H=>by simp[A8A,A0f,A7M d H]
theorem B1m(σ:St)(d:Nat)(H:A0m)(t:TV)(h:((t.ids++A1f H).all fun i=>(A0f H).any (Nat.beq i))=true):σ.addAll d H t=σ.eff [] (A8A d H):=by
 have hn:A2I H t=A0f H:=by
  unfold A2I
  have:((t.ids++A1f H).filter fun i=> !(A0f H).any (Nat.beq i))=[]:=by
   rw[List.filter_eq_nil_iff]
   intro i hi
   have:=List.all_eq_true.1 h i hi
   simp[this]
  rw[this,List.append_nil]
 unfold St.addAll St.eff
 rw[hn,A7M]
 rfl
theorem Rel.rename{i id:Nat}{E:TypeId}{e:Ty}{xs:List e.den}{v:Value}(hid:id≠i)(hpi:i≠PIN)(hpd:id≠PIN)(h:Rel w0 Xo (σ.add i (.arr E e xs)) θ as a w)(hv:A0g w (A0d Xo θ (σ.add i (.arr E e xs)).heap) θ (.sl i e) v):
  ∃θ',Rel w0 Xo (σ.eff [i] [(id,.arr E e xs)]) θ' as a w∧A0g w (A0d Xo θ' (σ.eff [i] [(id,.arr E e xs)]).heap) θ' (.sl id e) v:=by
 obtain⟨θ',h1,h2⟩:=h.mv1 (Ne.symm hid) hpi hpd hv
 have hst:({(σ.add i (.arr E e xs)).kill id with heap:=mvH i id ((σ.add i (.arr E e xs)).kill id).heap}:St)=σ.eff [i] [(id,.arr E e xs)]:=by
  have hH:mvH i id ((σ.add i (.arr E e xs)).kill id).heap=(id,.arr E e xs)::((σ.kill i).kill id).heap:=by
   have h0:((σ.add i (.arr E e xs)).kill id).heap=(i,.arr E e xs)::((σ.kill i).kill id).heap:=by
    simp[St.add,St.kill,A2d,A0c (Ne.symm hid),Blk.kill]
   rw[h0,mvH,B2r]
   ·simp [Blk.mv]
   ·intro q hq
    simp only[St.kill,List.mem_map]at hq
    obtain⟨q1,hq1,rfl⟩:=hq
    obtain⟨m1,m2⟩:=A5W _ q1 hq1
    rw[List.mem_map]at m1
    obtain⟨q2,hq2,rfl⟩:=m1
    obtain⟨m3,m4⟩:=A5W _ q2 hq2
    exact⟨m4,fun hi=>(A5N (A5N hi).1).2 rfl⟩
  rw[hH]
  rfl
 have htv:((TV.sl i e).kill id).mv i id= .sl id e:=by simp[TV.kill,TV.mv,A0c (Ne.symm hid)]
 rw[hst]at h1
 rw[htv]at h2
 have hh:mvH i id ((σ.add i (.arr E e xs)).kill id).heap=(σ.eff [i] [(id,.arr E e xs)]).heap:=by rw[← hst]
 rw[hh]at h2
 exact⟨θ',h1,h2⟩
end Go.Ai
/- An operation of a head: what it tells it tells on greater heaps; it is sound. -/
namespace Go.Ai
open Go.RowKit
variable {P:Program} {cx:Cx} {w0:A0F} {Xo:Nat→Prop} {σ:St} {θ:Nat→Option Own} {as:List (Array Value)} {a:Act} {w:World} {X X':Nat→Prop} {R:Type} {r:R} {base:Nat→Nat→Prop} {lev:Nat} {own:Bool}
theorem B2L{c:Con}{h:A0m}{id:Nat}{args:List TV}{K:KD R}(hp:B1u c own h id args K=some r):
  ∃tv D A W,K tv D A W=some r∧∀(h':A0m) (K':KD R),Ext h h'→B1u c own h' id args K'=K' tv D A W:=by
 unfold B1u at hp
 split at hp
 ·cases hp
 ·rename_i xs hxs
  obtain⟨y,hy,hp⟩:=A0T hp
  obtain⟨hc,hp⟩:=A0a hp
  cases own with
  |true=>
   rw[cond_true]at hp
   obtain⟨hd,hp⟩:=A0a hp
   refine⟨_,_,_,_,hp,fun h' K' H=> ?_⟩
   unfold B1u
   simp only[A2M H _ _ _ hxs,hy,A1w,hc,hd,cond]
  |false=>
   rw[cond_false]at hp
   refine⟨_,_,_,_,hp,fun h' K' H=> ?_⟩
   unfold B1u
   simp only[A2M H _ _ _ hxs,hy,A1w,hc,cond]
theorem B3o{h h':A0m}(H:Ext h h'){tv:TV}(ht:A5v h tv=true):A5v h' tv=true:=by
 unfold A5v at ht⊢
 split at ht
 ·rfl
 ·rfl
 ·split at ht
  ·rename_i hg; simp only[H _ _ hg]
  ·cases ht
 ·cases ht
theorem A9h{c:A5M}{h h':A0m}(H:Ext h h'){l:List TV}(ht:A4P c h l=true):A4P c h' l=true:=by
 unfold A4P at ht⊢
 cases hc:c.thaw with
 |false=>rw[hc]at ht; exact ht
 |true=>rw[hc]at ht; exact List.all_eq_true.2 fun x hx=>B3o H (List.all_eq_true.1 ht x hx)
theorem B3m{c:A5M}{h:A0m}{id:Nat}{args:List TV}{K:KD R}(hp:B1V c h id args K=some r):
  ∃tv D A W,K tv D A W=some r∧∀(h':A0m) (K':KD R),Ext h h'→B1V c h' id args K'=K' tv D A W:=by
 unfold B1V at hp
 split at hp
 ·rename_i rest
  split at hp
  ·rename_i ps hps
   obtain⟨hc,hp⟩:=A0a hp
   obtain⟨y,hy,hp⟩:=A0T hp
   refine⟨_,_,_,_,hp,fun h' K' H=> ?_⟩
   unfold B1V
   simp only[A2M H _ _ _ hps,hy,A1w,A9h H hc,cond]
  ·cases hp
 ·rename_i i e0 rest
  split at hp
  ·rename_i E e2 xs hg
   split at hp
   ·rename_i ps hps
    split at hp
    ·rename_i q
     obtain⟨hc,hp⟩:=A0a hp
     obtain⟨y,hy,hp⟩:=A0T hp
     refine⟨_,_,_,_,hp,fun h' K' H=> ?_⟩
     have hc':(decide (e0=c.e)&&decide (E=c.E)&&A4P c h' rest&& !(A0z rest).any (Nat.beq i)&& !(Nat.beq i PIN)&& !(Nat.beq i id))=true:=by
      simp only[Bool.and_eq_true]at hc⊢
      exact⟨⟨⟨⟨hc.1.1.1.1,A9h H hc.1.1.1.2⟩,hc.1.1.2⟩,hc.1.2⟩,hc.2⟩
     unfold B1V
     simp only[H _ _ hg,A2M H _ _ _ hps,q,dif_pos,hc',hy,A1w,cond]
    ·cases hp
   ·cases hp
  ·cases hp
 ·cases hp
theorem B2U{c:A8p}{h:A0m}{args:List TV}{K:KD R}(hp:B2T c h args K=some r):
  ∃tv D A W,K tv D A W=some r∧∀(h':A0m) (K':KD R),Ext h h'→B2T c h' args K'=K' tv D A W:=by
 unfold B2T at hp
 split at hp
 ·rename_i j rt p rest
  split at hp
  ·rename_i t ps sh raw
   split at hp
   ·rename_i xs i q x hxs hrd
    obtain⟨hid,hp⟩:=A0a hp
    obtain⟨y,hy,hp⟩:=A0T hp
    split at hp
    ·rename_i u v hH hT
     refine⟨_,_,_,_,hp,fun h' K' H=> ?_⟩
     have hrd':A1O h' (.var t) (.ptr j rt p)=some (i,q,x):=by
      unfold A1O at hrd⊢
      simp only at hrd⊢
      split at hrd
      ·rename_i t2 c2 hg
       rw[H _ _ hg]
       exact hrd
      ·cases hrd
     unfold B2T
     simp only[A2M H _ _ _ hxs,hrd',hid,cond,hy,A1w,hH,hT]
    ·cases hp
   ·cases hp
  ·cases hp
 ·cases hp
theorem A2F{h:A0m}{i:Nat}{b:Blk}(k:(A0b h i).isSome=true):A0b (A0I h i b) i=some b:=by
 obtain⟨c,hc⟩:=Option.isSome_iff_exists.1 k
 rw[A2Z,if_pos rfl,hc]; rfl
theorem B2N{d:Option Tmp}{op:Op}{K:KD R}(hp:A1U cx lev own σ d op K=some r):
  ∃tv D A W,K tv D A W=some r∧∀(τ:St) (K':KD R),Ext σ.heap τ.heap→(∀ x∈op.operands.toList,τ.eval x=σ.eval x)→A1U cx lev own τ d op K'=K' tv D A W:=by
 cases op with
 |store t a x=>
  simp only[A1U]at hp
  split at hp
  ·rename_i s hs
   split at hp
   ·rename_i h1 hst
    obtain⟨i,rt,p,b,ha,hi,e1,_⟩:=A5J (Ext.refl _) hst
    subst e1
    rw[ha]at hp
    simp only[A2F hi]at hp
    refine⟨_,_,_,_,hp,fun τ K' H hev=> ?_⟩
    obtain⟨i2,rt2,p2,b2,ha2,hi2,e2,hst2⟩:=A5J H hst
    rw[ha]at ha2
    injection ha2 with q1 q2 q3
    subst q1
    have hb:b2=b:=by
     have:=congrArg (fun g=>A0b g i) e2
     simp only[A2F hi]at this
     exact(Option.some.inj this).symm
    subst hb
    obtain⟨c,hc⟩:=Option.isSome_iff_exists.1 hi
    have hi':(A0b τ.heap i).isSome=true:=by rw[H i c hc]; rfl
    have e1:=hev a (by simp[Op.operands])
    have e3:=hev x (by simp[Op.operands])
    simp only[A1U,hs,e1,e3,hst2]
    rw[ha]
    simp only[A2F hi']
   ·cases hp
  ·cases hp
 |alloc t=>
  simp only[A1U]at hp
  split at hp
  ·rename_i s hs
   obtain⟨hz,hp⟩:=A0a hp
   refine⟨_,_,_,_,hp,fun τ K' H hev=> ?_⟩
   simp only[A1U,hs,hz,cond]
  ·cases hp
 |buildSlice t n parts=>
  have hl:∀τ:St,(∀ x∈(Op.buildSlice t n parts).operands.toList,τ.eval x=σ.eval x)→parts.toList.map (fun q=>τ.eval q.2)=parts.toList.map (fun q=>σ.eval q.2)∧parts.toList.map (fun q=>(q.1,τ.eval q.2))=parts.toList.map (fun q=>(q.1,σ.eval q.2)):=fun τ hev=>by
   have hev':∀q∈parts.toList,τ.eval q.2=σ.eval q.2:=fun q hq=>hev q.2 (by simp only[Op.operands]; exact List.mem_map.2 ⟨q,hq,rfl⟩)
   exact⟨List.map_congr_left hev',List.map_congr_left fun q hq=>by rw[hev' q hq]⟩
  have A1i:∀{own:Bool},(own=false∨dpB cx t (parts.toList.map fun q=>σ.eval q.2)=none)→A1U cx lev own σ d (.buildSlice t n parts) K=some r→∃tv D A W,K tv D A W=some r∧∀(τ:St) (K':KD R),Ext σ.heap τ.heap→(∀ x∈(Op.buildSlice t n parts).operands.toList,τ.eval x=σ.eval x)→A1U cx lev own τ d (.buildSlice t n parts) K'=K' tv D A W:=by
   intro own ho hp
   have key:∀(τ:St) (K':KD R),(own=false∨dpB cx t (parts.toList.map fun q=>τ.eval q.2)=none)→A1U cx lev own τ d (.buildSlice t n parts) K'=match cx.ty t with
    |some (.slice e)=>cond (decide (cx.ty (cx.elem t)=some e)&&cx.zok (cx.elem t)&&Nat.ble (n*e.size) 16777216&&Nat.ble n 16777216&&(A0z (parts.toList.map fun q=>τ.eval q.2)).isEmpty&&parts.toList.all fun q=>Nat.blt q.1 n)
     (match A2H (List.replicate n e.zero) e (fun v=>A0w τ.heap v e) (parts.toList.map fun q=>(q.1,τ.eval q.2))with
     |some xs=>cond own (K' (.sl (A0R lev d) e) [] [(A0R lev d,.arr (cx.elem t) e xs)] none) (K' (.pv (.slice e) xs) [] [] none)
     |none=>none) none
    |_=>none:=fun τ K' ho2=>by
    rcases ho2 with rfl|ho2
    ·simp only[A1U]; rfl
    ·cases own
     ·simp only[A1U]; rfl
     ·simp only[A1U]
      split
      ·rename_i s hs; rw[ho2]at hs; cases hs
      ·rfl
   rw[key _ _ ho]at hp
   split at hp
   ·rename_i e hT
    obtain⟨h1,hp⟩:=A0a hp
    split at hp
    ·rename_i xs hx
     have k2:∀(τ:St) (K':KD R),Ext σ.heap τ.heap→(∀ x∈(Op.buildSlice t n parts).operands.toList,τ.eval x=σ.eval x)→A1U cx lev own τ d (.buildSlice t n parts) K'=cond own (K' (.sl (A0R lev d) e) [] [(A0R lev d,.arr (cx.elem t) e xs)] none) (K' (.pv (.slice e) xs) [] [] none):=fun τ K' H hev=>by
      obtain⟨e1,e2⟩:=hl τ hev
      rw[key _ _ (by rw[e1]; exact ho)]
      simp only[hT,e1,e2,h1,cond_true,A6V H _ _ _ hx]
     cases own with
     |true=>exact⟨_,_,_,_,hp,k2⟩
     |false=>exact⟨_,_,_,_,hp,k2⟩
    ·cases hp
   ·cases hp
  cases own with
  |false=>exact A1i (.inl rfl) hp
  |true=>
   cases hs:dpB cx t (parts.toList.map fun q=>σ.eval q.2)with
   |none=>exact A1i (.inr hs) hp
   |some s=>
    simp only[A1U,hs]at hp
    obtain⟨h1,hp⟩:=A0a hp
    split at hp
    ·rename_i z hz
     obtain⟨h2,hp⟩:=A0a hp
     refine⟨_,_,_,_,hp,fun τ K' H hev=> ?_⟩
     obtain⟨e1,e2⟩:=hl τ hev
     simp only[A1U,e1,hs,h1,cond,e2,A9y H _ _ _ hz,h2]
    ·cases hp
 |call c=>
  obtain⟨callee,args,argTypes⟩:=c
  cases callee with
  |builtin b=>
   cases b with
   |append=>
    simp only[A1U]at hp
    split at hp
    ·rename_i x y t u ha ht
     have hxy:∀τ:St,(∀ z∈(Op.call {callee:= .builtin .append,args:=args,argTypes:=argTypes}).operands.toList,τ.eval z=σ.eval z)→τ.eval x=σ.eval x∧τ.eval y=σ.eval y:=fun τ hev=>
      ⟨hev x (by simp only[Op.operands,Call.operands]; simp[ha]),hev y (by simp only[Op.operands,Call.operands]; simp[ha])⟩
     split at hp
     ·rename_i s hs
      obtain⟨h1,hp⟩:=A0a hp
      obtain⟨h2,hp⟩:=A0a hp
      split at hp
      ·rename_i p q hpx hqy
       obtain⟨h3,hp⟩:=A0a hp
       obtain⟨h4,hp⟩:=A0a hp
       refine⟨_,_,_,_,hp,fun τ K' H hev=> ?_⟩
       obtain⟨e1,e2⟩:=hxy τ hev
       simp only[A1U,ha,ht,e1,e2,hs,h1,h2,cond,A2q H _ _ _ hpx,A2q H _ _ _ hqy,h3,h4]
      ·cases hp
     ·rename_i hs
      split at hp
      ·rename_i e hT
       obtain⟨h1,hp⟩:=A0a hp
       split at hp
       ·rename_i i e' xs ys hx hxs hys
        split at hp
        ·rename_i E e2 xs2 hg
         obtain⟨h2,hp⟩:=A0a hp
         obtain⟨h3,hp⟩:=A0a hp
         refine⟨_,_,_,_,hp,fun τ K' H hev=> ?_⟩
         obtain⟨e1,e2'⟩:=hxy τ hev
         have hxs':=A3h H _ hxs
         have hys':=A3h H _ hys
         rw[hx]at hxs'
         rw[hx]at hs
         simp only[A1U,ha,ht,e1,e2',hx,hs,hT,h1,hxs',hys',H _ _ hg,h2,h3,cond]
        ·cases hp
       ·rename_i ys hx hys
        obtain⟨h3,hp⟩:=A0a hp
        refine⟨_,_,_,_,hp,fun τ K' H hev=> ?_⟩
        obtain⟨e1,e2'⟩:=hxy τ hev
        have hys':=A3h H _ hys
        rw[hx]at hs
        simp only[A1U,ha,ht,e1,e2',hx,hs,hT,h1,hys',h3,cond]
       ·cases hp
      ·cases hp
    ·cases hp
   |_=>simp[A1U]at hp
  |_=>simp[A1U]at hp
 |_=>simp[A1U]at hp
theorem B0P{o:Oper}{K:KD R}(hp:opD cx lev own σ o K=some r):
  ∃tv D A W,K tv D A W=some r∧∀(τ:St) (K':KD R),Ext σ.heap τ.heap→(∀ x∈o.op.operands.toList,τ.eval x=σ.eval x)→opD cx lev own τ o K'=K' tv D A W:=by
 unfold opD at hp
 split at hp
 ·rename_i f args argTypes hop
  split at hp
  ·rename_i g caps hf
   have hf':∀τ:St,(∀ x∈o.op.operands.toList,τ.eval x=σ.eval x)→τ.eval f= .fn g caps∧args.toList.map τ.eval=args.toList.map σ.eval:=fun τ hev=>
    ⟨by rw[hev f (by simp[hop,Op.operands,Call.operands]),hf],List.map_congr_left fun x hx=>hev x (by simp only[hop,Op.operands,Call.operands]; simp[Array.mem_toList_iff.1 hx])⟩
   split at hp
   ·rename_i c hc
    obtain⟨tv,D,A,W,k1,k2⟩:=B2L hp
    refine⟨tv,D,A,W,k1,fun τ K' H hev=> ?_⟩
    obtain⟨e1,e2⟩:=hf' τ hev
    unfold opD
    simp only[hop,e1,e2,hc]
    exact k2 _ _ H
   ·rename_i hc
    split at hp
    ·rename_i c ht
     obtain⟨tv,D,A,W,k1,k2⟩:=B3m hp
     refine⟨tv,D,A,W,k1,fun τ K' H hev=> ?_⟩
     obtain⟨e1,e2⟩:=hf' τ hev
     unfold opD
     simp only[hop,e1,e2,hc,ht]
     exact k2 _ _ H
    ·rename_i ht
     split at hp
     ·rename_i c hi
      obtain⟨hst,hp⟩:=A0a hp
      obtain⟨tv,D,A,W,k1,k2⟩:=B2U hp
      refine⟨tv,D,A,W,k1,fun τ K' H hev=> ?_⟩
      obtain⟨e1,e2⟩:=hf' τ hev
      rw[hop]at hst
      unfold opD
      simp only[hop,e1,e2,hc,ht,hi,hst,cond_true]
      exact k2 _ _ H
     ·cases hp
  ·cases hp
 ·rename_i hno
  cases hi:A0Q o.op with
  |true=>
   rw[hi,cond_true]at hp
   rw[A3z _ hi]at hp
   obtain⟨tv,k1,k2⟩:=Option.bind_eq_some_iff.1 hp
   refine⟨tv,[],[],none,k2,fun τ K' H hev=> ?_⟩
   unfold opD
   split
   ·rename_i f args argTypes hop; exact absurd hop (hno f args argTypes)
   ·rw [hi,cond_true,A3z _ hi,B0S (ρ:=τ.eval) (ρ':=σ.eval) o.op hi some hev,B3f H _ hi k1]
    rfl
  |false=>
   rw[hi,cond_false]at hp
   obtain⟨tv,D,A,W,k1,k2⟩:=B2N hp
   refine⟨tv,D,A,W,k1,fun τ K' H hev=> ?_⟩
   unfold opD
   split
   ·rename_i f args argTypes hop; exact absurd hop (hno f args argTypes)
   ·rw [hi,cond_false]
    exact k2 τ K' H hev
noncomputable def A4D(cx:Cx):A1v R:=fun lev fn draw f args d σ K=>match cx.con f with
 |some c=>B2M c draw σ (A0R lev d) args K
 |none=>match cx.tak f with
  |some c=>B3n c draw σ (A0R lev d) args K
  |none=>match cx.inp f with
   |some c=>B3M c draw σ (A0R lev d) args K
   |none=>none
structure A7l (P:Program) (cx:Cx) (w0:A0F):Prop where
 gb:A4C P w0
 con:∀f c,cx.con f=some c→A8C P f c
 tak:∀f c,cx.tak f=some c→A6I P f c
 inp:∀f c,cx.inp f=some c→B0k P f c
theorem A4H(hC:A7l P cx w0):A4d P w0 Xo (A4D (R:=R) cx):=by
 intro lev fn draw f args d σ K r θ as a w vs hp h hv
 unfold A4D at hp
 split at hp
 ·rename_i c hc; exact A8O hC.gb (hC.con f c hc) h hv hp
 ·split at hp
  ·rename_i c hc; exact A9x hC.gb (hC.tak f c hc) (A1c lev d) h hv hp
  ·split at hp
   ·rename_i c hc; exact A9c hC.gb (hC.inp f c hc) h hv hp
   ·cases hp
open Classical in
noncomputable def B1C(r:R)(tv:TV)(σ:St):TV→St→Option R:=fun tv' σ'=>if tv'=tv∧σ'=σ then some r else none
theorem A6u(r:R)(tv:TV)(σ:St):B1C r tv σ tv σ=some r:=by simp[B1C]
theorem A9U{tv tv':TV}{σ σ':St}(h:B1C r tv σ tv' σ'=some r):tv'=tv∧σ'=σ:=by
 unfold B1C at h
 split at h
 ·assumption
 ·cases h
theorem A9p(hT:A3R P cx)(hC:A7l P cx w0){o:Oper}{K:KD R}(h:Rel w0 Xo σ θ as a w)(hp:opD cx lev own σ o K=some r){K':Act→World→Prop}{Q:Exit→Act→World→Prop}
  (hK:∀tv D A W θ' v w',K tv D A W=some r→Rel w0 Xo ((σ.eff D A).wr W) θ' as a w'→A0g w' (A0d Xo θ' ((σ.eff D A).wr W).heap) θ' tv v→K' (a.put o.dst v) w'):o.wp P a w K' Q:=by
 have by_opW:∀{draw:Bool} {tv:TV} {D:List Nat} {A:A0m} {W:Option (Nat×Blk)},K tv D A W=some r→(∀ K2:TV→St→Option R,opK cx (A4D cx) lev 0 draw σ o K2=K2 tv ((σ.eff D A).wr W))→o.wp P a w K' Q:=by
  intro draw tv D A W hk hop
  refine A4T (r:=r) (fn:=0) hT (A4H hC) h ((hop (B1C r tv ((σ.eff D A).wr W))).trans (A6u r _ _)) fun tv' σ' θ' v w' k1 k2 k3=> ?_
  obtain⟨e1,e2⟩:=A9U k1
  subst e1; subst e2
  exact hK _ _ _ _ θ' v w' hk k2 k3
 have by_op:∀{draw:Bool} {tv:TV} {D:List Nat} {A:A0m},K tv D A none=some r→(∀ K2:TV→St→Option R,opK cx (A4D cx) lev 0 draw σ o K2=K2 tv (σ.eff D A))→o.wp P a w K' Q:=fun hk hop=>by_opW hk hop
 unfold opD at hp
 split at hp
 ·rename_i f args argTypes hop
  split at hp
  ·rename_i g caps hf
   split at hp
   ·rename_i c hc
    unfold B1u at hp
    split at hp
    ·cases hp
    ·rename_i xs hxs
     obtain⟨y,hy,hp⟩:=A0T hp
     obtain⟨hcond,hp⟩:=A0a hp
     cases own with
     |true=>
      rw[cond_true]at hp
      obtain⟨hd,hp⟩:=A0a hp
      simp only[Bool.and_eq_true]at hd
      refine by_op (draw:=false) hp fun K2=> ?_
      unfold opK
      simp only[hop,hf,A4D,hc]
      unfold B2M
      simp only[hxs,hy,A1w,hd.1,cond_true]
      rw[← B1m σ _ _ _ hd.2]
      have:((A0z (args.toList.map σ.eval++caps.list)).isEmpty|| !((A2o c.sh y).alias||(mkH c.sh y).any fun q=>q.2.alias))=true:=by
       revert hcond
       cases(A0z (args.toList.map σ.eval++caps.list)).isEmpty with
       |true=>intro _; rfl
       |false=>
        simp only[Bool.false_or,Bool.not_eq_true',Bool.or_eq_false_iff]
        rintro ⟨h1,h2⟩
        refine⟨h1,?_⟩
        rw[List.any_eq_false]at h2⊢
        intro q hq
        have:=h2 q hq
        simp only[Bool.or_eq_true,not_or]at this
        exact this.1
      rw[this]; rfl
     |false=>
      rw[cond_false]at hp
      refine by_op (draw:=true) hp fun K2=> ?_
      unfold opK
      simp only[hop,hf,A4D,hc]
      unfold B2M
      simp only[hxs,hy,A1w,hcond,cond_true,B0w]
   ·rename_i hc
    split at hp
    ·rename_i c ht
     unfold B1V at hp
     split at hp
     ·rename_i rest hargs
      split at hp
      ·rename_i ps hps
       obtain⟨hcond,hp⟩:=A0a hp
       obtain⟨y,hy,hp⟩:=A0T hp
       refine by_op (draw:=false) hp fun K2=> ?_
       unfold opK
       simp only[hop,hf,A4D,hc,ht]
       unfold B3n
       simp only[hargs,hps,hcond,A1w,hy,cond,A6h]
      ·cases hp
     ·rename_i i e0 rest hargs
      split at hp
      ·rename_i E e2 xs hg
       split at hp
       ·rename_i ps hps
        split at hp
        ·rename_i q
         obtain⟨hcond,hp⟩:=A0a hp
         obtain⟨y,hy,hp⟩:=A0T hp
         simp only[Bool.and_eq_true,Bool.not_eq_true']at hcond
         obtain⟨⟨⟨⟨⟨h2a,h2b⟩,h2c⟩,h2n⟩,h2d⟩,h2e⟩:=hcond
         have hrun:∀K2:TV→St→Option R,opK cx (A4D cx) lev 0 false σ o K2=K2 (.sl i c.e) ((σ.killL (A0z rest)).add i (.arr c.E c.e y)):=fun K2=>by
          unfold opK
          simp only[hop,hf,A4D,hc,ht]
          unfold B3n
          simp only[hargs,hg,hps,q,dif_pos,h2a,h2b,h2c,h2n,h2d,hy,A1w,cond,Bool.not_false,Bool.and_self]
         refine A4T (r:=r) (fn:=0) hT (A4H hC) h ((hrun (B1C r _ _)).trans (A6u r _ _)) fun tv' σ' θ' v w' k1 k2 k3=> ?_
         obtain⟨e1,e2⟩:=A9U k1
         subst e1; subst e2
         have hne:A0R lev o.dst≠i:=fun e=>by rw[← e,Nat.beq_refl]at h2e; cases h2e
         obtain⟨θ2,m1,m2⟩:=Rel.rename hne (A2S h2d) (A1c _ _) k2 k3
         have he:(σ.killL (A0z rest)).eff [i] [(A0R lev o.dst,.arr c.E c.e y)]=σ.eff (A0z rest++[i]) [(A0R lev o.dst,.arr c.E c.e y)]:=by
          unfold St.eff
          rw[List.append_assoc,A6x (A0z rest)]
         rw[he]at m1 m2
         exact hK _ _ _ _ θ2 v w' hp m1 m2
        ·cases hp
       ·cases hp
      ·cases hp
     ·cases hp
    ·rename_i ht
     split at hp
     ·rename_i c hi
      obtain⟨hst,hp⟩:=A0a hp
      unfold B2T at hp
      split at hp
      ·rename_i j rt p rest hargs
       split at hp
       ·rename_i t ps sh raw hraw0
        split at hp
        ·rename_i xs i q x hxs hrd
         obtain⟨hid,hp⟩:=A0a hp
         obtain⟨y,hy,hp⟩:=A0T hp
         split at hp
         ·rename_i u v hH hT
          refine by_opW (draw:=false) hp fun K2=> ?_
          have hw:A3N σ.heap i q (.var t) y.1=some (A0I σ.heap i (.var t (.pv t y.1))):=by
           unfold A1O at hrd
           simp only at hrd
           split at hrd
           ·rename_i t2 c2 hg
            split at hrd
            ·split at hrd
             ·split at hrd
              ·simp only[Option.some.injEq,Prod.mk.injEq]at hrd
               obtain⟨e1,_,_⟩:=hrd
               subst e1
               unfold A3N
               rw[hg]; rfl
              ·cases hrd
             ·cases hrd
            ·cases hrd
           ·cases hrd
          have hp0:B0R (A0R lev o.dst) (A2I [] (.pv u v))=true:=rfl
          have hb0:bkB σ.heap (.ptr j rt p)=true:=rfl
          unfold opK
          simp only[hop,hf,A4D,hc,ht,hi]
          unfold B3M
          simp only[hargs,hxs,hid,hb0,hrd,hy,A1w,hH,hT,hp0,hw,Bool.and_self,cond]
          rfl
         ·cases hp
        ·cases hp
       ·cases hp
      ·cases hp
     ·cases hp
  ·cases hp
 ·rename_i hno
  have hopK:∀{draw:Bool} (K2:TV→St→Option R),opK cx (A4D cx) lev 0 draw σ o K2=cond (A0Q o.op) (A0p cx σ.heap σ.eval o.op fun v=>K2 v σ) (A1u cx lev draw σ o.dst o.op K2):=fun {draw} K2=>by
   unfold opK
   split
   ·rename_i f args argTypes hop; exact absurd hop (hno f args argTypes)
   ·rfl
  cases hi:A0Q o.op with
  |true=>
   rw[hi,cond_true]at hp
   rw[A3z _ hi]at hp
   obtain⟨tv,k1,k2⟩:=Option.bind_eq_some_iff.1 hp
   refine by_op (draw:=false) k2 fun K2=> ?_
   rw[hopK,hi,cond_true,A3z _ hi,k1]
   rfl
  |false=>
   rw[hi,cond_false]at hp
   have by_eff:∀{draw:Bool} {tv:TV} {D:List Nat} {A:A0m},K tv D A none=some r→(∀ K2:TV→St→Option R,A1u cx lev draw σ o.dst o.op K2=K2 tv (σ.eff D A))→o.wp P a w K' Q:=fun {draw tv D A} hk he=>
    by_op (draw:=draw) hk fun K2=>by rw[hopK,hi,cond_false,he]
   cases hop:o.op with
   |store t a' x=>
    rw[hop]at hp
    simp only[A1U]at hp
    split at hp
    ·rename_i s hs
     split at hp
     ·rename_i h1 hst
      obtain⟨i,rt,p,b,ha,hi',e1,_⟩:=A5J (Ext.refl _) hst
      subst e1
      rw[ha]at hp
      simp only[A2F hi']at hp
      refine by_opW (draw:=false) hp fun K2=> ?_
      rw[hopK,hi,cond_false,hop]
      simp only[A1u,hs,hst]
      rfl
     ·cases hp
    ·cases hp
   |alloc t=>
    rw[hop]at hp by_eff
    simp only[A1U]at hp
    split at hp
    ·rename_i s hs
     obtain⟨hz,hp⟩:=A0a hp
     refine by_eff (draw:=false) hp fun K2=> ?_
     simp only[A1u,hs,hz,cond,A9F]
    ·cases hp
   |buildSlice t n parts=>
    rw[hop]at hp by_eff
    have A1i:(own=false∨dpB cx t (parts.toList.map fun q=>σ.eval q.2)=none)→o.wp P a w K' Q:=by
     intro ho
     have key:A1U cx lev own σ o.dst (.buildSlice t n parts) K=match cx.ty t with
      |some (.slice e)=>cond (decide (cx.ty (cx.elem t)=some e)&&cx.zok (cx.elem t)&&Nat.ble (n*e.size) 16777216&&Nat.ble n 16777216&&(A0z (parts.toList.map fun q=>σ.eval q.2)).isEmpty&&parts.toList.all fun q=>Nat.blt q.1 n)
       (match A2H (List.replicate n e.zero) e (fun v=>A0w σ.heap v e) (parts.toList.map fun q=>(q.1,σ.eval q.2))with
       |some xs=>cond own (K (.sl (A0R lev o.dst) e) [] [(A0R lev o.dst,.arr (cx.elem t) e xs)] none) (K (.pv (.slice e) xs) [] [] none)
       |none=>none) none
      |_=>none:=by
      rcases ho with rfl|ho
      ·simp only[A1U]; rfl
      ·cases own
       ·simp only[A1U]; rfl
       ·simp only[A1U]
        split
        ·rename_i s hs; rw[ho]at hs; cases hs
        ·rfl
     rw[key]at hp
     split at hp
     ·rename_i e hT
      obtain⟨h1,hp⟩:=A0a hp
      split at hp
      ·rename_i xs hx
       have hemp:(A0z (parts.toList.map fun q=>σ.eval q.2)).isEmpty=true:=by
        simp only[Bool.and_eq_true]at h1
        exact h1.1.2
       cases own with
       |false=>
        rw[cond_false]at hp
        refine by_eff (draw:=true) hp fun K2=> ?_
        rw[hemp]at h1
        simp only[A1u,A6m,hT,hemp,h1,cond,hx,B0w]
       |true=>
        rw[cond_true]at hp
        rcases ho with ho|ho
        ·cases ho
        refine by_eff (draw:=false) hp fun K2=> ?_
        rw[hemp]at h1
        simp only[A1u,A6m,ho,hT,hemp,h1,cond,hx,A9F]
      ·cases hp
     ·cases hp
    cases ho:own with
    |false=>exact A1i (.inl ho)
    |true=>
     cases hs:dpB cx t (parts.toList.map fun q=>σ.eval q.2)with
     |none=>exact A1i (.inr hs)
     |some s=>
      rw[ho]at hp
      simp only[A1U,hs]at hp
      obtain⟨h1,hp⟩:=A0a hp
      split at hp
      ·rename_i z hz
       obtain⟨h2,hp⟩:=A0a hp
       refine by_eff (draw:=false) hp fun K2=> ?_
       simp only[A1u,hs,A9K,h1,hz,h2,cond_true,A6h]
      ·cases hp
   |call c=>
    obtain⟨callee,args,argTypes⟩:=c
    cases callee with
    |builtin b=>
     cases b with
     |append=>
      rw[hop]at hp by_eff
      simp only[A1U]at hp
      split at hp
      ·rename_i x y t u ha ht
       split at hp
       ·rename_i s hs
        obtain⟨h1,hp⟩:=A0a hp
        obtain⟨h2,hp⟩:=A0a hp
        split at hp
        ·rename_i p q hpx hqy
         obtain⟨h3,hp⟩:=A0a hp
         obtain⟨h4,hp⟩:=A0a hp
         refine by_eff (draw:=false) hp fun K2=> ?_
         simp only[A1u,ha,ht,hs,h1,A7i,h2,hpx,hqy,h3,h4,cond_true,A6h]
        ·cases hp
       ·rename_i hs
        split at hp
        ·rename_i e hTy
         obtain⟨h1,hp⟩:=A0a hp
         split at hp
         ·rename_i i e' xs ys hx hxs hys
          split at hp
          ·rename_i E e2 xs2 hg
           obtain⟨h2,hp⟩:=A0a hp
           obtain⟨h3,hp⟩:=A0a hp
           simp only[Bool.and_eq_true,Bool.not_eq_true']at h2
           obtain⟨⟨h2a,h2b⟩,h2c⟩:=h2
           rw[hx]at hxs
           have hrun:∀K2:TV→St→Option R,opK cx (A4D cx) lev 0 false σ o K2=K2 (.sl i e) (σ.add i (.arr (cx.elem t) e (xs++ys))):=fun K2=>by
            rw[hopK,hi,cond_false,hop]
            rw[hx]at hs
            simp only[A1u,ha,ht,hx,hs,hTy,h1,hxs,hys,hg,h2a,h2b,h3,cond_true,Bool.not_false,Bool.and_self]
           refine A4T (r:=r) (fn:=0) hT (A4H hC) h ((hrun (B1C r _ _)).trans (A6u r _ _)) fun tv' σ' θ' v w' k1 k2 k3=> ?_
           obtain⟨e1,e2⟩:=A9U k1
           subst e1; subst e2
           have hne:A0R lev o.dst≠i:=fun e=>by rw[← e,Nat.beq_refl]at h2c; cases h2c
           obtain⟨θ2,m1,m2⟩:=Rel.rename hne (A2S h2b) (A1c _ _) k2 k3
           exact hK _ _ _ _ θ2 v w' hp m1 m2
          ·cases hp
         ·rename_i ys hx hys
          obtain⟨h3,hp⟩:=A0a hp
          refine by_eff (draw:=false) hp fun K2=> ?_
          have hcn:A0Y σ.heap e .nilsl=some []:=rfl
          rw[hx]at hs
          simp only[A1u,ha,ht,hx,hs,hTy,h1,hcn,hys,h3,cond_true,A9F]
         ·cases hp
        ·cases hp
      ·cases hp
     |_=>rw[hop]at hp; simp[A1U]at hp
    |_=>rw[hop]at hp; simp[A1U]at hp
   |_=>rw[hop]at hp; simp[A1U]at hp
theorem A5K:∀(l:List Operand) (t:Nat),.tmp t∈l→t∈A2L l
 | [],t,h=>by simp at h
 |x::l,t,h=>by
  rcases List.mem_cons.1 h with h|h
  ·subst h; simp[A2L]
  ·have:=A5K l t h
   cases x<;>simp[A2L,this]
theorem A4k{ops:List Oper}{o:Oper}{τ:St}(h:∀t∈A0D ops o,τ.env.getD t .dead=σ.env.getD t .dead):∀x∈o.op.operands.toList,τ.eval x=σ.eval x:=by
 intro x hx
 cases x with
 |tmp t=>exact h t (List.mem_append_left _ (A5K _ t hx))
 |_=>rfl
theorem B3b{ops:List Oper}{o:Oper}{K:St→KD R}(hp:A5j cx lev own ops σ o K=some r):
  ∃tv D A W,K σ tv D A W=some r∧∀(τ:St) (K':St→KD R),Ext σ.heap τ.heap→(∀ t∈A0D ops o,τ.env.getD t .dead=σ.env.getD t .dead)→A5j cx lev own ops τ o K'=K' τ tv D A W:=by
 unfold A5j at hp
 split at hp
 ·rename_i hg
  obtain⟨tv,D,A,W,k1,k2⟩:=B0P hp
  refine⟨tv,D,A,W,k1,fun τ K' H hev=> ?_⟩
  unfold A5j
  simp only[hg]
  exact k2 τ _ H (A4k hev)
 ·rename_i j want hg
  split at hp
  ·rename_i t hd
   have hmem:t∈A0D ops o:=by
    unfold A0D
    refine List.mem_append_right _ ?_
    rw[hg]
    simp only[hd]
    simp
   split at hp
   ·rename_i b hb
    have e:σ.put (some t) (.pv .bool b)=σ:=St.put_same hb (by simp)
    have run:b=want→opD cx lev own σ o (K σ)=some r→∃tv D A W,K σ tv D A W=some r∧∀(τ:St) (K':St→KD R),Ext σ.heap τ.heap→(∀ t∈A0D ops o,τ.env.getD t .dead=σ.env.getD t .dead)→A5j cx lev own ops τ o K'=K' τ tv D A W:=by
     intro hbw hrun
     obtain⟨tv,D,A,W,k1,k2⟩:=B0P hrun
     refine⟨tv,D,A,W,k1,fun τ K' H hev=> ?_⟩
     have hb':τ.env.getD t .dead= .pv .bool b:=by rw[hev t hmem]; exact hb
     have e':τ.put (some t) (.pv .bool b)=τ:=St.put_same hb' (by simp)
     unfold A5j
     simp only[hg,hd,hb']
     subst hbw
     cases b<;>simp only[cond]<;>rw[e']<;>exact k2 τ _ H (A4k hev)
    have pass:b≠want→K σ .und [] [] none=some r→∃tv D A W,K σ tv D A W=some r∧∀(τ:St) (K':St→KD R),Ext σ.heap τ.heap→(∀ t∈A0D ops o,τ.env.getD t .dead=σ.env.getD t .dead)→A5j cx lev own ops τ o K'=K' τ tv D A W:=by
     intro hbw hk
     refine⟨.und,[],[],none,hk,fun τ K' H hev=> ?_⟩
     have hb':τ.env.getD t .dead= .pv .bool b:=by rw[hev t hmem]; exact hb
     have e':τ.put (some t) (.pv .bool b)=τ:=St.put_same hb' (by simp)
     unfold A5j
     simp only[hg,hd,hb']
     cases b<;>cases want<;>first|exact absurd rfl hbw|(simp only[cond]; rw[e'])
    cases b<;>cases want<;>simp only[cond]at hp<;>rw[e]at hp<;>first
     |exact run rfl hp
     |exact pass (by simp) hp
   ·rename_i hb
    refine⟨.und,[],[],none,hp,fun τ K' H hev=> ?_⟩
    have hb':τ.env.getD t .dead= .und:=by rw[hev t hmem]; exact hb
    unfold A5j
    simp only[hg,hd,hb']
   ·cases hp
  ·cases hp
theorem A9P(l:List Nat):(c:TV)→(p:List Sel)→(A0k l c).getP p=(c.getP p).map (A0k l):=by
 have one:∀(i:Nat) (c:TV) (p:List Sel),(c.kill i).getP p=(c.getP p).map (TV.kill i):=by
  intro i c
  induction c with
  |pv t x=>intro p; cases p<;>simp[TV.kill,TV.getP,Function.comp_def]
  |pr a b iha ihb=>
   intro p
   match p with
   | []=>simp[TV.kill,TV.getP]
   | .fld 0::p=>simp only[TV.kill,TV.getP]; exact iha p
   | .fld (n+1)::p=>simp only[TV.kill,TV.getP]; exact ihb _
   | .idx k::p=>simp[TV.kill,TV.getP]
  |ptr j t q=>intro p; cases hb:Nat.beq j i<;>cases p<;>simp[TV.getP,TV.kill,hb]
  |sl j e=>intro p; cases hb:Nat.beq j i<;>cases p<;>simp[TV.getP,TV.kill,hb]
  |inn j q e=>intro p; cases hb:Nat.beq j i<;>cases p<;>simp[TV.getP,TV.kill,hb]
  |vw j t q e lo hi=>intro p; cases hb:Nat.beq j i<;>cases p<;>simp[TV.getP,TV.kill,hb]
  |clp e xs=>intro p; cases p<;>simp[TV.kill,TV.getP]
  |nilsl=>intro p; cases p<;>simp[TV.kill,TV.getP]
  |fn f c _=>intro p; cases p<;>simp[TV.kill,TV.getP]
  |tup c _=>intro p; cases p<;>simp[TV.kill,TV.getP]
  |bad=>intro p; cases p<;>simp[TV.kill,TV.getP]
  |und=>intro p; cases p<;>simp[TV.kill,TV.getP]
  |dead=>intro p; cases p<;>simp[TV.kill,TV.getP]
 intro c p
 induction l generalizing c with
 |nil=>simp only[A0k]; cases c.getP p<;>rfl
 |cons i l ih=>
  simp only[A0k]
  rw[ih,one]
  cases c.getP p<;>rfl
theorem A2R{i:Nat}:(v:TV)→(v.kill i).noBad=true→i∉v.ids
 | .pv _ _,_=>by simp[TV.ids]
 | .pr a b,h=>by
  simp only[TV.kill,TV.noBad,Bool.and_eq_true]at h
  simp[TV.ids,A2R a h.1,A2R b h.2]
 | .ptr j t p,h=>by
  by_cases e:j=i
  ·simp [TV.kill,e,TV.noBad]at h
  ·simp [TV.ids,Ne.symm e]
 | .sl j s,h=>by
  by_cases e:j=i
  ·simp [TV.kill,e,TV.noBad]at h
  ·simp [TV.ids,Ne.symm e]
 | .inn j p s,h=>by
  by_cases e:j=i
  ·simp [TV.kill,e,TV.noBad]at h
  ·simp [TV.ids,Ne.symm e]
 | .vw j t p s lo hi,h=>by
  by_cases e:j=i
  ·simp [TV.kill,e,TV.noBad]at h
  ·simp [TV.ids,Ne.symm e]
 | .clp _ _,_=>by simp[TV.ids]
 | .nilsl,_=>by simp[TV.ids]
 | .fn f c,h=>by simp only[TV.ids]; exact A2R c (by simpa[TV.kill,TV.noBad]using h)
 | .tup c,h=>by simp only[TV.ids]; exact A2R c (by simpa[TV.kill,TV.noBad]using h)
 | .bad,_=>by simp[TV.ids]
 | .und,_=>by simp[TV.ids]
 | .dead,_=>by simp[TV.ids]
theorem A5o:(l:List Nat)→(v:TV)→(A0k l v).noBad=true→∀i∈l,i∉v.ids
 | [],v,_,i,hi=>by simp at hi
 |j::l,v,h,i,hi=>by
  rcases List.mem_cons.1 hi with hi|hi
  ·subst hi
   rw[A0k,A3j]at h
   intro hm
   exact A2R (i:=i) v (by
    have:∀(l:List Nat) (u:TV),(A0k l u).noBad=true→u.noBad=true:=by
     intro l
     induction l with
     |nil=>intro u h; exact h
     |cons k l ih=>
      intro u h
      rw[A0k]at h
      have h2:=ih _ h
      revert h2
      have:∀(w:TV),(w.kill k).noBad=true→w.noBad=true:=by
       intro w
       induction w with
       |pr a b iha ihb=>intro h; simp only[TV.kill,TV.noBad,Bool.and_eq_true]at h ⊢; exact⟨iha h.1,ihb h.2⟩
       |fn f c ih=>intro h; simp only[TV.kill,TV.noBad]at h ⊢; exact ih h
       |tup c ih=>intro h; simp only[TV.kill,TV.noBad]at h ⊢; exact ih h
       |bad=>intro h; exact h
       |_=>intro _; rfl
      exact this u
    rw[← A3j]at h
    exact this l _ h) hm
  ·have:(A0k l (v.kill j)).noBad=true:=h
   intro hm
   have h2:=A5o l (v.kill j) this i hi
   by_cases e:i=j
   ·subst e
    exact A2R v (by
     have go:∀(l:List Nat) (u:TV),(A0k l u).noBad=true→u.noBad=true:=by
      intro l
      induction l with
      |nil=>intro u h; exact h
      |cons k l ih=>
       intro u h
       rw[A0k]at h
       have h2:=ih _ h
       revert h2
       have:∀(w:TV),(w.kill k).noBad=true→w.noBad=true:=by
        intro w
        induction w with
        |pr a b iha ihb=>intro h; simp only[TV.kill,TV.noBad,Bool.and_eq_true]at h ⊢; exact⟨iha h.1,ihb h.2⟩
        |fn f c ih=>intro h; simp only[TV.kill,TV.noBad]at h ⊢; exact ih h
        |tup c ih=>intro h; simp only[TV.kill,TV.noBad]at h ⊢; exact ih h
        |bad=>intro h; exact h
        |_=>intro _; rfl
       exact this u
     exact go l _ this) hm
   ·apply h2
    clear h2 this h
    have keep:∀(w:TV),i∈w.ids→i∈(w.kill j).ids:=by
     intro w
     induction w with
     |pr a b iha ihb=>
      intro h
      simp only[TV.ids,TV.kill,List.mem_append]at h⊢
      exact h.imp iha ihb
     |fn f c ih=>intro h; simp only[TV.ids,TV.kill]at h ⊢; exact ih h
     |tup c ih=>intro h; simp only[TV.ids,TV.kill]at h ⊢; exact ih h
     |ptr k t p=>intro h; simp only[TV.ids,List.mem_singleton]at h; subst h; simp[TV.kill,A0c e,TV.ids]
     |sl k t=>intro h; simp only[TV.ids,List.mem_singleton]at h; subst h; simp[TV.kill,A0c e,TV.ids]
     |inn k t p=>intro h; simp only[TV.ids,List.mem_singleton]at h; subst h; simp[TV.kill,A0c e,TV.ids]
     |vw k t p e2 lo hi=>intro h; simp only[TV.ids,List.mem_singleton]at h; subst h; simp[TV.kill,A0c e,TV.ids]
     |_=>intro h; simp[TV.ids]at h
    exact keep v hm
def B4Y(seen h:A0m)(l:List Nat):Prop:=∀i b,A0b seen i=some b→A0b h i=some b∨(i∈l∧∃b0 T L,b=A3w T b0∧A0b h i=some (A3w L b0)∧∀y∈L,y∈b0.ids→y∈T)
theorem B2Y{h h':A0m}{t:Ty}{a tv:TV}(k:A1j h t a some=some tv)(nb:tv.noBad=true)(H:∀i rt p,a= .ptr i rt p→∀b,A0b h i=some b→A0b h' i=some b∨∃b0 T L,b=A3w T b0∧A0b h' i=some (A3w L b0)∧∀y∈L,y∈b0.ids→y∈T):A1j h' t a some=some tv:=by
 cases a with
 |ptr i rt p=>
  cases hg:A0b h i with
  |none=>simp only[A1j,hg]at k; cases k
  |some b=>
   rcases H i rt p rfl b hg with h2|⟨b0,T,L,e1,e2,e3⟩
   ·simp only[A1j,hg]at k
    simp only[A1j,h2]
    exact k
   ·subst e1
    cases b0 with
    |var r c=>
     simp only[A1j,hg,A3w]at k
     simp only[A1j,e2,A3w]
     obtain⟨hc,k⟩:=A8P k
     rw[hc]
     simp only[cond]
     rw[A9P]at k⊢
     cases hv:c.getP p with
     |none=>rw[hv]at k; cases k
     |some v0=>
      rw[hv]at k
      simp only[Option.map_some,Option.some.injEq]at k⊢
      subst k
      have h3:=A5o T v0 nb
      rw[A1y T v0 h3]
      refine A1y L v0 fun y hy hyv=>h3 y (e3 y hy ?_) hyv
      exact A5V c p v0 hv y hyv
    |arr E e xs=>simp only[A1j,hg,A3w]at k; simp only[A1j,e2,A3w]; exact k
    |tre E s xs=>simp only[A1j,hg,A3w]at k; simp only[A1j,e2,A3w]; exact k
    |map km vm xs=>simp only[A1j,hg,A3w]at k; cases k
 |pv u y=>cases u<;>exact k
 |_=>simp[A1j]at k
open Classical in
noncomputable def A6v(r:R)(tv:TV)(D:List Nat)(A:A0m)(W:Option (Nat×Blk)):KD R:=fun tv' D' A' W'=>if tv'=tv∧D'=D∧A'=A∧W'=W then some r else none
theorem B0I(r:R)(tv:TV)(D:List Nat)(A:A0m)(W:Option (Nat×Blk)):A6v r tv D A W tv D A W=some r:=by simp[A6v]
theorem A6w{tv tv':TV}{D D':List Nat}{A A':A0m}{W W':Option (Nat×Blk)}(h:A6v r tv D A W tv' D' A' W'=some r):tv'=tv∧D'=D∧A'=A∧W'=W:=by
 unfold A6v at h
 split at h
 ·assumption
 ·cases h
theorem B1H{ops:List Oper}{o:Oper}{K:St→KD R}(hp:A5j cx lev own ops σ o K=some r):
  ∃tv D A W,K σ tv D A W=some r∧∀(τ:St) (K':St→KD R),B4Y σ.heap τ.heap (cond (A4N o.op&&tv.noBad) (A8x σ o) [])→(∀ t∈A0D ops o,τ.env.getD t .dead=σ.env.getD t .dead)→A5j cx lev own ops τ o K'=K' τ tv D A W:=by
 obtain⟨tv,D,A,W,k1,k2⟩:=B3b hp
 refine⟨tv,D,A,W,k1,fun τ K' H hev=> ?_⟩
 by_cases hl:(A4N o.op&&tv.noBad)=true
 ·rw [hl,cond_true]at H
  simp only[Bool.and_eq_true]at hl
  obtain⟨hl,hnb⟩:=hl
  have self:=(k2 σ (fun _=>A6v r tv D A W) (Ext.refl _) (fun _ _=>rfl)).trans (B0I r tv D A W)
  cases hop:o.op with
  |load t a=>
   have hev':=A4k (σ:=σ) (τ:=τ) hev
   have ea:τ.eval a=σ.eval a:=hev' a (by rw[hop]; simp[Op.operands])
   have body:∀(υ:St) (K2:KD R),opD cx lev own υ o K2=match cx.ty t with
     |some s=>A1j υ.heap s (υ.eval a) fun v=>K2 v [] [] none
     |none=>none:=fun υ K2=>by
    unfold opD
    rw[hop]
    simp only[A0Q,cond_true,A0p]
    cases cx.ty t<;>rfl
   have lb:∀{R':Type} (h:A0m) (s:Ty) (u:TV) (F:TV→Option R'),A1j h s u F=(A1j h s u some).bind F:=by
    intro R' h s u F
    cases u with
    |ptr i rt p=>
     simp only[A1j]
     cases A0b h i with
     |none=>rfl
     |some b=>cases b with
      |var r c=>simp only; cases(decide (r=rt)&&decide (rt.rsub p=some s))<;>simp only[cond]<;>first|rfl|(cases c.getP p<;>rfl)
      |arr E e xs=>
       simp only
       cases(decide (Ty.slice e=rt)&&decide (rt.rsub p=some s))<;>simp only[cond]<;>first|rfl|skip
       split
       ·split<;>rfl
       ·rfl
      |tre E d xs=>
       simp only
       cases decide (Ty.slice d.ty=rt)<;>simp only[cond]<;>first|rfl|skip
       split
       ·rename_i u2 y _; cases decide (u2=s)<;>rfl
       ·rename_i d2 _ _; cases decide (Ty.slice d2.ty=s)<;>rfl
       ·rfl
      |map km vm xs=>rfl
    |pv u y=>
     cases u<;>simp only[A1j]<;>first|rfl|skip
     rename_i s2
     cases decide (s2=s)<;>rfl
    |_=>rfl
   have key:∀s,cx.ty t=some s→A1j σ.heap s (σ.eval a) some=some tv→A1j τ.heap s (τ.eval a) some=some tv:=fun s hs hk=>by
    rw[ea]
    refine B2Y hk hnb fun i rt p hi b hb=> ?_
    rcases H i b hb with h1|⟨_,h1⟩
    ·exact .inl h1
    ·exact .inr h1
   have run:opD cx lev own σ o (A6v r tv D A W)=some r→opD cx lev own τ o (K' τ)=K' τ tv D A W:=fun hs=>by
    rw[body]at hs
    rw[body]
    cases hty:cx.ty t with
    |none=>rw[hty]at hs; cases hs
    |some s=>
     rw[hty]at hs
     simp only at hs⊢
     rw[lb]at hs⊢
     obtain⟨v,q1,q2⟩:=Option.bind_eq_some_iff.1 hs
     obtain⟨rfl,e2,e3,e4⟩:=A6w q2
     subst e2; subst e3; subst e4
     rw[key s hty q1]
     rfl
   unfold A5j at self⊢
   split at self
   ·rename_i hg
    try simp only[hg]
    exact run self
   ·rename_i j want hg
    try simp only[hg]
    split at self
    ·rename_i t2 hd
     try simp only[hd]
     have hmem:t2∈A0D ops o:=by
      unfold A0D
      refine List.mem_append_right _ ?_
      rw[hg]
      simp only[hd]
      simp
     have e2:=hev t2 hmem
     rw[e2]
     split at self
     ·rename_i b hb
      try rw[hb]
      have e:σ.put (some t2) (.pv .bool b)=σ:=St.put_same hb (by simp)
      have e':τ.put (some t2) (.pv .bool b)=τ:=St.put_same (e2.trans hb) (by simp)
      cases b<;>cases want<;>simp only[cond]at self⊢ <;>(try rw[e]at self)<;>rw[e']<;>first
       |exact run self
       |(obtain ⟨e5,e6,e7,e8⟩:=A6w self; subst e5; subst e6; subst e7; subst e8; rfl)
     ·rename_i hb
      try rw[hb]
      obtain⟨e5,e6,e7,e8⟩:=A6w self; subst e5; subst e6; subst e7; subst e8; rfl
     ·cases self
    ·cases self
  |_=>rw[hop]at hl; cases hl
 ·simp only[Bool.not_eq_true]at hl
  rw[hl,cond_false]at H
  exact k2 τ K' (fun i b hb=>(H i b hb).elim id fun⟨h,_⟩=>by simp at h) hev
theorem B1I(hT:A3R P cx)(hC:A7l P cx w0){ops:Array Oper}{o:Oper}{K:St→KD R}(h:Rel w0 Xo σ θ as a w)(hp:A5j cx lev own ops.toList σ o K=some r){K':Act→World→Prop}{Q:Exit→Act→World→Prop}
  (hK:∀tv D A W θ' a' w',K σ tv D A W=some r→Rel w0 Xo (((σ.eff D A).wr W).put o.dst tv) θ' as a' w'→K' a' w'):if Region.wanted o (yielded ops a.tmps)then o.wp P a w K' Q else K' (a.put o.dst undef) w:=by
 unfold A5j at hp
 split at hp
 ·rename_i hg
  simp only[Region.wanted,hg,if_true]
  exact A9p hT hC h hp fun tv D A W θ' v w' k1 k2 k3=>hK _ _ _ _ θ' _ w' k1 (k2.put o.dst k3)
 ·rename_i j want hg
  split at hp
  ·rename_i t hd
   have hy:=A8o hd a.tmps
   simp only[Region.wanted,hg]
   have skip:K σ .und [] [] none=some r→K' (a.put o.dst undef) w:=fun hk=>hK _ _ _ _ θ _ w hk (h.put o.dst (tv:= .und) (v:=undef) rfl)
   split at hp
   ·rename_i b hb
    obtain⟨v,hv1,hv2⟩:=A7j h.env hb (by simp)
    have:=A2x hv2
    subst this
    rw[hv1]at hy
    simp only at hy
    rw[hy]
    have go:opD cx lev own σ o (K σ)=some r→o.wp P a w K' Q:=fun hk=>
     A9p hT hC h hk fun tv D A W θ' v w' k1 k2 k3=>hK _ _ _ _ θ' _ w' k1 (k2.put o.dst k3)
    have e:σ.put (some t) (.pv .bool b)=σ:=St.put_same hb (by simp)
    cases b<;>cases want<;>simp only[cond]at hp<;>rw[e]at hp<;>simp<;>first|exact go hp|exact skip hp
   ·rename_i hb
    obtain⟨v,hv1,hv2⟩:=A7j h.env hb (by simp)
    have hv:v=undef:=hv2
    subst hv
    rw[hv1]at hy
    have hy':yielded ops a.tmps j=none:=hy
    rw[hy']
    simp
    exact skip hp
   ·cases hp
  ·cases hp
end Go.Ai

