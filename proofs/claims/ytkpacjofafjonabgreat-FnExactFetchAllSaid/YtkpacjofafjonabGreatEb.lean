/- The machine, and that it is sound. No conditions. -/
import Derived.Test.YtkpacjofafjonabGreatEa
import Derived.Laws.StructEq
import Derived.ChangeKeysEq
import Derived.Laws.BytesString
/- Parts of values and their cells. -/
namespace Go.Ai
open Go.RowKit
theorem A0s{α:Type}{R:List Value→α→Prop}{n:Nat}(h:∀c x,R c x→c.length=n):∀{xs:List α} {cs},A0l R cs xs→cs.length=xs.length*n
 | [],cs,hc=>by simp only[A0l]at hc; simp[hc]
 |x::xs,cs,⟨c1,c2,he,hr,hc⟩=>by rw[he,List.length_append,h c1 x hr,A0s h hc,List.length_cons,Nat.add_mul,Nat.one_mul,Nat.add_comm]
theorem Rep.length{w:World}{X:Nat→Prop}:(t:Ty)→(cs:List Value)→(x:t.den)→Rep w X t cs x→cs.length=t.size
 | .int _,_,_,h=>by rw[h.1]; rfl
 | .bool,_,_,h=>by have h':_=_:=h; rw[h']; rfl
 | .str,_,_,⟨s,h,_⟩=>by rw[h]; rfl
 | .slice e,_,_,⟨a,len,cap,ds,h1,_⟩=>by rw[h1]; rfl
 | .arr n e,cs,xs,⟨h1,h2⟩=>by rw[A0s (fun c x hx=>Rep.length e c x hx) h2,h1]; rfl
 | .unit,_,_,h=>by have h':_=_:=h; rw[h']; rfl
 | .pair a b,cs,x,⟨c1,c2,h0,h1,h2⟩=>by rw[h0,List.length_append,Rep.length a c1 _ h1,Rep.length b c2 _ h2]; rfl
 | .ref e,_,_,⟨b,o,ds,h1,_⟩=>by rw[h1]; rfl
 | .opt _,_,none,h=>by have h':_=_:=h; rw[h']; rfl
 | .fnc _,_,_,h=>by have h':_=_:=h; rw[h']; rfl
 | .opt e,_,some x,⟨b,o,ds,h1,_⟩=>by rw[h1]; rfl
theorem A2n{α:Type}{R:List Value→α→Prop}{Q:Value→Prop}(h:∀c x,R c x→∀v∈c,Q v):∀{xs:List α} {cs},A0l R cs xs→∀v∈cs,Q v
 | [],cs,hc=>by simp only[A0l]at hc; simp[hc]
 |x::xs,cs,⟨c1,c2,he,hr,hc⟩=>by
  intro v hv
  rw[he,List.mem_append]at hv
  rcases hv with hv|hv
  ·exact h c1 x hr v hv
  ·exact A2n h hc v hv
theorem Rep.one{w:World}{X:Nat→Prop}:(t:Ty)→(cs:List Value)→(x:t.den)→Rep w X t cs x→∀v∈cs,v.oneCell'=true
 | .int _,_,_,h=>by rw[h.1]; simp[Value.oneCell']
 | .bool,_,_,h=>by have h':_=_:=h; rw[h']; simp[Value.oneCell']
 | .str,_,_,⟨s,h,_⟩=>by rw[h]; simp[Value.oneCell']
 | .slice e,_,_,⟨a,len,cap,ds,h1,_⟩=>by rw[h1]; simp[Value.oneCell']
 | .arr n e,cs,xs,⟨h1,h2⟩=>A2n (fun c x hx=>Rep.one e c x hx) h2
 | .unit,_,_,h=>by have h':_=_:=h; rw[h']; simp
 | .pair a b,cs,x,⟨c1,c2,h0,h1,h2⟩=>by
  intro v hv
  rw[h0,List.mem_append]at hv
  rcases hv with hv|hv
  ·exact Rep.one a c1 _ h1 v hv
  ·exact Rep.one b c2 _ h2 v hv
 | .ref e,_,_,⟨b,o,ds,h1,_⟩=>by rw[h1]; simp[Value.oneCell']
 | .opt _,_,none,h=>by have h':_=_:=h; rw[h']; simp[Value.oneCell']
 | .fnc _,_,_,h=>by have h':_=_:=h; rw[h']; simp[Value.oneCell']
 | .opt e,_,some x,⟨b,o,ds,h1,_⟩=>by rw[h1]; simp[Value.oneCell']
theorem A1C{α:Type}{R:List Value→α→Prop}{n:Nat}(hl:∀c x,R c x→c.length=n)(d:α):∀{xs:List α} {cs} (k:Nat),A0l R cs xs→k<xs.length→∃c1 c c2,cs=c1++(c++c2)∧c1.length=k*n∧R c (xs.getD k d)∧∀c' y,R c' y→A0l R (c1++(c'++c2)) (xs.set k y)
 | [],cs,k,hc,hk=>by simp at hk
 |x::xs,cs,0,⟨c1,c2,he,hr,hc⟩,_=>⟨[],c1,c2,by simpa using he,by simp,by simpa using hr,fun c' y hy=>⟨c',c2,by simp,hy,hc⟩⟩
 |x::xs,cs,k+1,⟨c1,c2,he,hr,hc⟩,hk=>by
  obtain⟨d1,dc,d2,h1,h2,h3,h4⟩:=A1C hl d k hc (by simpa using hk)
  refine⟨c1++d1,dc,d2,by rw[he,h1,List.append_assoc],?_,by simpa using h3,fun c' y hy=> ?_⟩
  ·rw [List.length_append,hl c1 x hr,h2,Nat.add_mul,Nat.one_mul,Nat.add_comm]
  ·exact ⟨c1,d1++(c'++d2),by simp,hr,h4 c' y hy⟩
theorem B5W(n:Nat):Sel.fld n= .fld n:=rfl
theorem A2E{w:World}{X:Nat→Prop}:(t:Ty)→(x:t.den)→(p:List Sel)→(cs:List Value)→(off:Nat)→(s:Ty)→t.at p=some (off,s)→Rep w X t cs x→
  ∃y,getP t x p=some ⟨s,y⟩∧∃c1 c c2,cs=c1++(c++c2)∧c1.length=off∧Rep w X s c y∧∀c' y',Rep w X s c' y'→∃x',setP t x p s y'=some x'∧Rep w X t (c1++(c'++c2)) x':=by
 intro t
 have base:∀(t:Ty) (x:t.den) (cs:List Value) (off:Nat) (s:Ty),t.at []=some (off,s)→Rep w X t cs x→
   ∃y,getP t x []=some ⟨s,y⟩∧∃c1 c c2,cs=c1++(c++c2)∧c1.length=off∧Rep w X s c y∧∀c' y',Rep w X s c' y'→∃x',setP t x [] s y'=some x'∧Rep w X t (c1++(c'++c2)) x':=by
  intro t x cs off s ha hr
  have ha':t.at []=some (0,t):=by cases t<;>rfl
  rw[ha']at ha
  simp only[Option.some.injEq,Prod.mk.injEq]at ha
  obtain⟨rfl,rfl⟩:=ha
  have h1:getP t x []=some ⟨t,x⟩:=by cases t<;>rfl
  have h2:∀y':t.den,setP t x [] t y'=some y':=fun y'=>by cases t<;>simp[setP]
  exact⟨x,h1,[],cs,[],by simp,rfl,hr,fun c' y' hy=>⟨y',h2 y',by simpa using hy⟩⟩
 induction t with
 |int k=>intro x p cs off s ha hr; cases p with
  |nil=>exact base _ x cs off s ha hr
  |cons q p=>simp[Ty.at]at ha
 |bool=>intro x p cs off s ha hr; cases p with
  |nil=>exact base _ x cs off s ha hr
  |cons q p=>simp[Ty.at]at ha
 |str=>intro x p cs off s ha hr; cases p with
  |nil=>exact base _ x cs off s ha hr
  |cons q p=>simp[Ty.at]at ha
 |slice e ih=>intro x p cs off s ha hr; cases p with
  |nil=>exact base _ x cs off s ha hr
  |cons q p=>simp[Ty.at]at ha
 |unit=>intro x p cs off s ha hr; cases p with
  |nil=>exact base _ x cs off s ha hr
  |cons q p=>simp[Ty.at]at ha
 |ref e ih=>intro x p cs off s ha hr; cases p with
  |nil=>exact base _ x cs off s ha hr
  |cons q p=>simp[Ty.at]at ha
 |opt e ih=>intro x p cs off s ha hr; cases p with
  |nil=>exact base _ x cs off s ha hr
  |cons q p=>simp[Ty.at]at ha
 |fnc g=>intro x p cs off s ha hr; cases p with
  |nil=>exact base _ x cs off s ha hr
  |cons q p=>simp[Ty.at]at ha
 |arr n e ih=>
  intro x p cs off s ha hr
  cases p with
  |nil=>exact base _ x cs off s ha hr
  |cons q p=>
   cases q with
   |fld n=>simp[Ty.at]at ha
   |idx k=>
    simp only[Ty.at]at ha
    split at ha
    ·rename_i hk
     cases hq:e.at p with
     |none=>simp[hq]at ha
     |some q=>
      obtain⟨o2,s2⟩:=q
      simp only[hq,Option.map_some,Option.some.injEq,Prod.mk.injEq]at ha
      obtain⟨rfl,rfl⟩:=ha
      obtain⟨hl,hc⟩:=hr
      obtain⟨c1,c,c2,h1,h2,h3,h4⟩:=A1C (fun c x hx=>Rep.length e c x hx) e.zero k hc (by rw[hl]; exact hk)
      obtain⟨y,g1,d1,d,d2,g2,g3,g4,g5⟩:=ih _ p c o2 s2 hq h3
      refine⟨y,g1,c1++d1,d,d2++c2,by rw[h1,g2]; simp,by simp[h2,g3],g4,fun c' y' hy=> ?_⟩
      obtain⟨x',k1,k2⟩:=g5 c' y' hy
      refine⟨List.set x k x',by simp only[setP,k1,Option.map_some],?_⟩
      have:=h4 _ x' k2
      exact⟨by simpa using hl,by simpa using this⟩
    ·cases ha
 |pair a b iha ihb=>
  intro x p cs off s ha hr
  cases p with
  |nil=>exact base _ x cs off s ha hr
  |cons q p=>
   obtain⟨e1,e2,h0,h1,h2⟩:=hr
   cases q with
   |idx k=>simp[Ty.at]at ha
   |fld n=>
    cases n with
    |zero=>
     simp only[Ty.at]at ha
     obtain⟨y,g1,d1,d,d2,g2,g3,g4,g5⟩:=iha x.1 p e1 off s ha h1
     refine⟨y,g1,d1,d,d2++e2,by rw[h0,g2]; simp,g3,g4,fun c' y' hy=> ?_⟩
     obtain⟨x',k1,k2⟩:=g5 c' y' hy
     exact⟨(x',x.2),by simp only[setP,k1,Option.map_some],_,_,by simp,k2,h2⟩
    |succ n=>
     simp only[Ty.at]at ha
     cases hq:b.at (.fld n::p)with
     |none=>simp[hq]at ha
     |some q=>
      obtain⟨o2,s2⟩:=q
      simp only[hq,Option.map_some,Option.some.injEq,Prod.mk.injEq]at ha
      obtain⟨rfl,rfl⟩:=ha
      obtain⟨y,g1,d1,d,d2,g2,g3,g4,g5⟩:=ihb x.2 (.fld n::p) e2 o2 s2 hq h2
      refine⟨y,g1,e1++d1,d,d2,by rw[h0,g2]; simp,by simp[g3,Rep.length a e1 _ h1],g4,fun c' y' hy=> ?_⟩
      obtain⟨x',k1,k2⟩:=g5 c' y' hy
      exact⟨(x.1,x'),by simp only[setP,k1,Option.map_some],e1,d1++(c'++d2),by simp,h1,k2⟩
end Go.Ai
/- Parts of what a slot or a block holds. -/
namespace Go.Ai
open Go.RowKit
variable {w:World} {X:Nat→Prop} {θ:Nat→Option Own}
theorem Ty.size_one{t:Ty}(h:t.isAgg=false):t.size=1:=by cases t<;>simp_all[Ty.isAgg,Ty.size]
theorem RV.length:(tv:TV)→(t:Ty)→(cs:List Value)→tv.fits t=true→RV w X θ false tv cs→cs.length=t.size
 | .pv s x,t,cs,hf,hr=>by
  have:s=t:=by simpa[TV.fits]using hf
  subst this
  exact Rep.length s cs x hr
 | .pr a b,.pair s t,cs,hf,⟨c1,c2,h0,h1,h2⟩=>by
  simp only[TV.fits,Bool.and_eq_true]at hf
  rw[h0,List.length_append,RV.length a s c1 hf.1 h1,RV.length b t c2 hf.2 h2]; rfl
 | .ptr i r p,.opt e,cs,_,⟨o,b,off,s,_,_,_,_,h⟩=>by rw[h]; rfl
 | .fn f c,.opt e,cs,_,⟨vs,h,_⟩=>by rw[h]; rfl
 | .sl i e,.slice s,cs,_,⟨v,_,h,_⟩=>by rw[h]; rfl
 | .inn i p e,.slice s,cs,_,⟨_,_,v,_,_,h,_⟩=>by rw[h]; rfl
 | .vw ..,.slice s,cs,_,hr=>by obtain⟨o,v,_,_,h⟩:=hr; rw[h]; rfl
 | .clp e xs,.slice s,cs,_,⟨a,len,ds,h,_⟩=>by rw[h]; rfl
 | .nilsl,.slice s,cs,_,h=>by have h':_=_:=h; rw[h']; rfl
 | .bad,t,cs,hf,⟨v,h,_⟩=>by
  have:t.isAgg=false:=by simpa[TV.fits]using hf
  rw[h,Ty.size_one this]; rfl
 | .tup _,_,_,_,hr=>by simp[RV]at hr
 | .und,_,_,_,hr=>by simp[RV]at hr
 | .dead,_,_,_,hr=>by simp[RV]at hr
 | .pr _ _,.int _,_,h,_| .pr _ _,.bool,_,h,_| .pr _ _,.str,_,h,_| .pr _ _,.slice _,_,h,_| .pr _ _,.arr _ _,_,h,_| .pr _ _,.unit,_,h,_| .pr _ _,.ref _,_,h,_| .pr _ _,.opt _,_,h,_| .pr _ _,.fnc _,_,h,_=>by simp[TV.fits]at h
 | .ptr ..,.int _,_,h,_| .ptr ..,.bool,_,h,_| .ptr ..,.str,_,h,_| .ptr ..,.slice _,_,h,_| .ptr ..,.arr _ _,_,h,_| .ptr ..,.unit,_,h,_| .ptr ..,.ref _,_,h,_| .ptr ..,.pair _ _,_,h,_=>by simp[TV.fits]at h
 | .sl ..,.int _,_,h,_| .sl ..,.bool,_,h,_| .sl ..,.str,_,h,_| .sl ..,.opt _,_,h,_| .sl ..,.arr _ _,_,h,_| .sl ..,.unit,_,h,_| .sl ..,.ref _,_,h,_| .sl ..,.pair _ _,_,h,_| .sl ..,.fnc _,_,h,_=>by simp[TV.fits]at h
 | .inn j (.fld n::p) s,.opt _,cs,h,hr=>by obtain⟨sk,L,v,_,_,h3,_⟩:=hr; rw[h3]; rfl
 | .inn _ [] _,.opt _,_,h,_| .inn _ (.idx _::_) _,.opt _,_,h,_=>by simp[TV.fits]at h
 | .inn ..,.int _,_,h,_| .inn ..,.bool,_,h,_| .inn ..,.str,_,h,_| .inn ..,.arr _ _,_,h,_| .inn ..,.unit,_,h,_| .inn ..,.ref _,_,h,_| .inn ..,.pair _ _,_,h,_| .inn ..,.fnc _,_,h,_=>by simp[TV.fits]at h
 | .vw ..,.int _,_,h,_| .vw ..,.bool,_,h,_| .vw ..,.str,_,h,_| .vw ..,.opt _,_,h,_| .vw ..,.arr _ _,_,h,_| .vw ..,.unit,_,h,_| .vw ..,.ref _,_,h,_| .vw ..,.pair _ _,_,h,_| .vw ..,.fnc _,_,h,_=>by simp[TV.fits]at h
 | .clp ..,.int _,_,h,_| .clp ..,.bool,_,h,_| .clp ..,.str,_,h,_| .clp ..,.opt _,_,h,_| .clp ..,.arr _ _,_,h,_| .clp ..,.unit,_,h,_| .clp ..,.ref _,_,h,_| .clp ..,.pair _ _,_,h,_| .clp ..,.fnc _,_,h,_=>by simp[TV.fits]at h
 | .nilsl,.int _,_,h,_| .nilsl,.bool,_,h,_| .nilsl,.str,_,h,_| .nilsl,.opt _,_,h,_| .nilsl,.arr _ _,_,h,_| .nilsl,.unit,_,h,_| .nilsl,.ref _,_,h,_| .nilsl,.pair _ _,_,h,_| .nilsl,.fnc _,_,h,_=>by simp[TV.fits]at h
 | .fn ..,.int _,_,h,_| .fn ..,.bool,_,h,_| .fn ..,.str,_,h,_| .fn ..,.slice _,_,h,_| .fn ..,.arr _ _,_,h,_| .fn ..,.unit,_,h,_| .fn ..,.ref _,_,h,_| .fn ..,.pair _ _,_,h,_=>by simp[TV.fits]at h
theorem B5c{α:Type}{c1 c c2 d1 d d2:List α}(h:c1++(c++c2)=d1++(d++d2))(h1:c1.length=d1.length)(h2:c.length=d.length):c1=d1∧c=d∧c2=d2:=by
 obtain⟨e1,e2⟩:=List.append_inj h h1
 obtain⟨e3,e4⟩:=List.append_inj e2 h2
 exact⟨e1,e3,e4⟩
theorem A2W(s:Ty)(x:s.den):(TV.pv s x).fits s=true:=by simp[TV.fits]
theorem Ty.at_nil(t:Ty):t.at []=some (0,t):=by cases t<;>rfl
theorem TV.getP_nil(tv:TV):tv.getP []=some tv:=by cases tv<;>rfl
theorem TV.setP_nil(tv u:TV):tv.setP [] u=some u:=by cases tv<;>rfl
theorem A4z:(tv:TV)→(t:Ty)→(p:List Sel)→(cs:List Value)→(off:Nat)→(s:Ty)→(u:TV)→t.at p=some (off,s)→tv.fits t=true→tv.getP p=some u→RV w X θ false tv cs→
  u.fits s=true∧∃c1 c c2,cs=c1++(c++c2)∧c1.length=off∧c.length=s.size∧RV w X θ false u c:=by
 intro tv
 have base:∀(tv:TV) (t:Ty) (cs:List Value) (off:Nat) (s:Ty) (u:TV),t.at []=some (off,s)→tv.fits t=true→tv.getP []=some u→RV w X θ false tv cs→
   u.fits s=true∧∃c1 c c2,cs=c1++(c++c2)∧c1.length=off∧c.length=s.size∧RV w X θ false u c:=by
  intro tv t cs off s u ha hf hg hr
  rw[Ty.at_nil]at ha
  simp only[Option.some.injEq,Prod.mk.injEq]at ha
  obtain⟨rfl,rfl⟩:=ha
  rw[TV.getP_nil]at hg
  injection hg with hg
  subst hg
  exact⟨hf,[],cs,[],by simp,rfl,RV.length tv t cs hf hr,hr⟩
 induction tv with
 |pv r x=>
  intro t p cs off s u ha hf hg hr
  have:r=t:=by simpa[TV.fits]using hf
  subst this
  cases p with
  |nil=>exact base _ _ cs off s u ha hf hg hr
  |cons q p=>
   obtain⟨y,g1,c1,c,c2,g2,g3,g4,_⟩:=A2E r x (q::p) cs off s ha hr
   simp only[TV.getP,g1,Option.map_some,Option.some.injEq]at hg
   subst hg
   exact⟨A2W s y,c1,c,c2,g2,g3,Rep.length s c y g4,g4⟩
 |pr a b iha ihb=>
  intro t p cs off s u ha hf hg hr
  cases p with
  |nil=>exact base _ _ cs off s u ha hf hg hr
  |cons q p=>
   cases t with
   |pair ta tb=>
    simp only[TV.fits,Bool.and_eq_true]at hf
    obtain⟨e1,e2,h0,h1,h2⟩:=hr
    cases q with
    |idx k=>simp[Ty.at]at ha
    |fld n=>
     cases n with
     |zero=>
      simp only[Ty.at]at ha
      simp only[TV.getP]at hg
      obtain⟨k1,c1,c,c2,g2,g3,g4,g5⟩:=iha ta p e1 off s u ha hf.1 hg h1
      exact⟨k1,c1,c,c2++e2,by rw[h0,g2]; simp,g3,g4,g5⟩
     |succ n=>
      simp only[Ty.at]at ha
      cases hq:tb.at (.fld n::p)with
      |none=>simp[hq]at ha
      |some q=>
       obtain⟨o2,s2⟩:=q
       simp only[hq,Option.map_some,Option.some.injEq,Prod.mk.injEq]at ha
       obtain⟨rfl,rfl⟩:=ha
       simp only[TV.getP]at hg
       obtain⟨k1,c1,c,c2,g2,g3,g4,g5⟩:=ihb tb (.fld n::p) e2 o2 s2 u hq hf.2 hg h2
       exact⟨k1,e1++c1,c,c2,by rw[h0,g2]; simp,by simp[g3,RV.length a ta e1 hf.1 h1],g4,g5⟩
   |_=>simp[TV.fits]at hf
 |_=>
  intro t p cs off s u ha hf hg hr
  cases p with
  |nil=>exact base _ _ cs off s u ha hf hg hr
  |cons q p=>simp[TV.getP]at hg
theorem B4j:(t:Ty)→(x:t.den)→(p:List Sel)→(cs:List Value)→(off:Nat)→(s:Ty)→(u tv':TV)→(c':List Value)→t.at p=some (off,s)→A7g t x p u=some tv'→Rep w X t cs x→
  u.fits s=true→RV w X θ false u c'→∀c1 c c2,cs=c1++(c++c2)→c1.length=off→c.length=s.size→tv'.fits t=true∧RV w X θ false tv' (c1++(c'++c2)):=by
 intro t
 have base:∀(t:Ty) (x:t.den) (cs:List Value) (off:Nat) (s:Ty) (u tv':TV) (c':List Value),t.at []=some (off,s)→A7g t x [] u=some tv'→Rep w X t cs x→
   u.fits s=true→RV w X θ false u c'→∀c1 c c2,cs=c1++(c++c2)→c1.length=off→c.length=s.size→tv'.fits t=true∧RV w X θ false tv' (c1++(c'++c2)):=by
  intro t x cs off s u tv' c' ha hs hr hf hu c1 c c2 h0 h1 h2
  rw[Ty.at_nil]at ha
  simp only[Option.some.injEq,Prod.mk.injEq]at ha
  obtain⟨rfl,rfl⟩:=ha
  have:A7g t x [] u=some u:=by cases t<;>rfl
  rw[this]at hs
  injection hs with hs
  subst hs
  have hc1:c1=[]:=List.eq_nil_of_length_eq_zero h1
  subst hc1
  have hl:=Rep.length t cs x hr
  rw[h0]at hl
  simp only[List.nil_append,List.length_append,h2]at hl
  have hc2:c2=[]:=List.eq_nil_of_length_eq_zero (by omega)
  subst hc2
  exact⟨hf,by simpa using hu⟩
 induction t with
 |pair ta tb iha ihb=>
  intro x p cs off s u tv' c' ha hs hr hf hu c1 c c2 h0 h1 h2
  cases p with
  |nil=>exact base _ x cs off s u tv' c' ha hs hr hf hu c1 c c2 h0 h1 h2
  |cons q p=>
   obtain⟨e1,e2,k0,k1,k2⟩:=hr
   cases q with
   |idx k=>simp[Ty.at]at ha
   |fld n=>
    cases n with
    |zero=>
     simp only[Ty.at]at ha
     simp only[A7g]at hs
     cases hz:A7g ta x.1 p u with
     |none=>simp[hz]at hs
     |some z=>
      simp only[hz,Option.map_some,Option.some.injEq]at hs
      subst hs
      obtain⟨y,_,d1,d,d2,g2,g3,g4,_⟩:=A2E ta x.1 p e1 off s ha k1
      have hd:=Rep.length s d y g4
      obtain⟨q1,q2,q3⟩:=B5c (c1:=c1) (c:=c) (c2:=c2) (d1:=d1) (d:=d) (d2:=d2++e2) (by rw[← h0,k0,g2]; simp) (by rw[h1,g3]) (by rw[h2,hd])
      obtain⟨r1,r2⟩:=iha x.1 p e1 off s u z c' ha hz k1 hf hu d1 d d2 g2 g3 hd
      exact⟨by simp[TV.fits,r1],_,_,by rw[q1,q3]; simp,r2,k2⟩
    |succ n=>
     simp only[Ty.at]at ha
     cases hq:tb.at (.fld n::p)with
     |none=>simp[hq]at ha
     |some q=>
      obtain⟨o2,s2⟩:=q
      simp only[hq,Option.map_some,Option.some.injEq,Prod.mk.injEq]at ha
      obtain⟨rfl,rfl⟩:=ha
      simp only[A7g]at hs
      cases hz:A7g tb x.2 (.fld n::p) u with
      |none=>simp[hz]at hs
      |some z=>
       simp only[hz,Option.map_some,Option.some.injEq]at hs
       subst hs
       obtain⟨y,_,d1,d,d2,g2,g3,g4,_⟩:=A2E tb x.2 (.fld n::p) e2 o2 s2 hq k2
       have hd:=Rep.length s2 d y g4
       have he:=Rep.length ta e1 _ k1
       obtain⟨q1,q2,q3⟩:=B5c (c1:=c1) (c:=c) (c2:=c2) (d1:=e1++d1) (d:=d) (d2:=d2) (by rw[← h0,k0,g2]; simp) (by simp[h1,g3,he]) (by rw[h2,hd])
       obtain⟨r1,r2⟩:=ihb x.2 (.fld n::p) e2 o2 s2 u z c' hq hz k2 hf hu d1 d d2 g2 g3 hd
       exact⟨by simp[TV.fits,r1],_,_,by rw[q1,q3]; simp,k1,r2⟩
 |_=>
  intro x p cs off s u tv' c' ha hs hr hf hu c1 c c2 h0 h1 h2
  cases p with
  |nil=>exact base _ x cs off s u tv' c' ha hs hr hf hu c1 c c2 h0 h1 h2
  |cons q p=>simp[A7g]at hs
theorem A6H:(tv:TV)→(t:Ty)→(p:List Sel)→(cs:List Value)→(off:Nat)→(s:Ty)→(u tv':TV)→(c':List Value)→t.at p=some (off,s)→tv.fits t=true→tv.setP p u=some tv'→RV w X θ false tv cs→
  u.fits s=true→RV w X θ false u c'→∀c1 c c2,cs=c1++(c++c2)→c1.length=off→c.length=s.size→tv'.fits t=true∧RV w X θ false tv' (c1++(c'++c2)):=by
 intro tv
 have base:∀(tv:TV) (t:Ty) (cs:List Value) (off:Nat) (s:Ty) (u tv':TV) (c':List Value),t.at []=some (off,s)→tv.fits t=true→tv.setP [] u=some tv'→RV w X θ false tv cs→
   u.fits s=true→RV w X θ false u c'→∀c1 c c2,cs=c1++(c++c2)→c1.length=off→c.length=s.size→tv'.fits t=true∧RV w X θ false tv' (c1++(c'++c2)):=by
  intro tv t cs off s u tv' c' ha hft hs hr hf hu c1 c c2 h0 h1 h2
  rw[Ty.at_nil]at ha
  simp only[Option.some.injEq,Prod.mk.injEq]at ha
  obtain⟨rfl,rfl⟩:=ha
  rw[TV.setP_nil]at hs
  injection hs with hs
  subst hs
  have hc1:c1=[]:=List.eq_nil_of_length_eq_zero h1
  subst hc1
  have hl:=RV.length tv t cs hft hr
  rw[h0]at hl
  simp only[List.nil_append,List.length_append,h2]at hl
  have hc2:c2=[]:=List.eq_nil_of_length_eq_zero (by omega)
  subst hc2
  exact⟨hf,by simpa using hu⟩
 induction tv with
 |pv r x=>
  intro t p cs off s u tv' c' ha hft hs hr hf hu c1 c c2 h0 h1 h2
  have:r=t:=by simpa[TV.fits]using hft
  subst this
  cases p with
  |nil=>exact base _ _ cs off s u tv' c' ha hft hs hr hf hu c1 c c2 h0 h1 h2
  |cons q p=>
   cases u with
   |pv s2 y=>
    have:s2=s:=by simpa[TV.fits]using hf
    subst this
    obtain⟨y0,_,d1,d,d2,g2,g3,g4,g5⟩:=A2E r x (q::p) cs off s2 ha hr
    have hd:=Rep.length s2 d y0 g4
    obtain⟨q1,q2,q3⟩:=B5c (c1:=c1) (c:=c) (c2:=c2) (d1:=d1) (d:=d) (d2:=d2) (by rw[← h0,g2]) (by rw[h1,g3]) (by rw[h2,hd])
    obtain⟨x',k1,k2⟩:=g5 c' y hu
    simp only[TV.setP,k1,Option.map_some,Option.some.injEq]at hs
    subst hs
    exact⟨A2W r x',by rw[q1,q3]; exact k2⟩
   |_=>
    simp only[TV.setP]at hs
    exact B4j r x (q::p) cs off s _ tv' c' ha hs hr hf hu c1 c c2 h0 h1 h2
 |pr a b iha ihb=>
  intro t p cs off s u tv' c' ha hft hs hr hf hu c1 c c2 h0 h1 h2
  cases p with
  |nil=>exact base _ _ cs off s u tv' c' ha hft hs hr hf hu c1 c c2 h0 h1 h2
  |cons q p=>
   cases t with
   |pair ta tb=>
    have hft0:=hft
    simp only[TV.fits,Bool.and_eq_true]at hft
    obtain⟨e1,e2,k0,k1,k2⟩:=hr
    have l1:=RV.length a ta e1 hft.1 k1
    have l2:=RV.length b tb e2 hft.2 k2
    cases q with
    |idx k=>simp[Ty.at]at ha
    |fld n=>
     cases n with
     |zero=>
      simp only[Ty.at]at ha
      simp only[TV.setP]at hs
      cases hz:a.setP p u with
      |none=>simp[hz]at hs
      |some z=>
       simp only[hz,Option.map_some,Option.some.injEq]at hs
       subst hs
       have hle:off+s.size≤ta.size:=at_le ta p off s ha
       have hle':c1.length+c.length≤e1.length:=by omega
       obtain⟨d2,q1,q2⟩:=split_at h0 k0 hle'
       obtain⟨r1,r2⟩:=iha ta p e1 off s u z c' ha hft.1 hz k1 hf hu c1 c d2 q1 h1 h2
       exact⟨by simp[TV.fits,r1,hft.2],_,_,by rw[q2]; simp,r2,k2⟩
     |succ n=>
      simp only[Ty.at]at ha
      cases hq:tb.at (.fld n::p)with
      |none=>simp[hq]at ha
      |some q=>
       obtain⟨o2,s2⟩:=q
       simp only[hq,Option.map_some,Option.some.injEq,Prod.mk.injEq]at ha
       obtain⟨rfl,rfl⟩:=ha
       simp only[TV.setP]at hs
       cases hz:b.setP (.fld n::p) u with
       |none=>simp[hz]at hs
       |some z=>
        simp only[hz,Option.map_some,Option.some.injEq]at hs
        subst hs
        have hge:e1.length≤c1.length:=by omega
        obtain⟨d1,q1,q2⟩:=split_tail h0 k0 hge
        obtain⟨r1,r2⟩:=ihb tb (.fld n::p) e2 o2 s2 u z c' hq hft.2 hz k2 hf hu d1 c c2 q2 (by rw[q1,List.length_append]at h1; omega) h2
        exact⟨by simp[TV.fits,r1,hft.1],e1,d1++(c'++c2),by rw[q1]; simp,k1,r2⟩
   |_=>simp[TV.fits]at hft
 |_=>
  intro t p cs off s u tv' c' ha hft hs hr hf hu c1 c c2 h0 h1 h2
  cases p with
  |nil=>exact base _ _ cs off s u tv' c' ha hft hs hr hf hu c1 c c2 h0 h1 h2
  |cons q p=>simp[TV.setP]at hs
where
 at_le:∀(t:Ty) (p:List Sel) (off:Nat) (s:Ty),t.at p=some (off,s)→off+s.size≤t.size:=by
  intro t
  induction t with
  |pair a b iha ihb=>
   intro p off s ha
   cases p with
   |nil=>rw[Ty.at_nil]at ha; simp only[Option.some.injEq,Prod.mk.injEq]at ha; obtain⟨rfl,rfl⟩:=ha; simp
   |cons q p=>
    cases q with
    |idx k=>simp[Ty.at]at ha
    |fld n=>
     cases n with
     |zero=>simp only[Ty.at]at ha; have:=iha p off s ha; simp only[Ty.size]; omega
     |succ n=>
      simp only[Ty.at]at ha
      cases hq:b.at (.fld n::p)with
      |none=>simp[hq]at ha
      |some q=>
       obtain⟨o2,s2⟩:=q
       simp only[hq,Option.map_some,Option.some.injEq,Prod.mk.injEq]at ha
       obtain⟨rfl,rfl⟩:=ha
       have:=ihb _ _ _ hq
       simp only[Ty.size]; omega
  |arr n e ih=>
   intro p off s ha
   cases p with
   |nil=>rw[Ty.at_nil]at ha; simp only[Option.some.injEq,Prod.mk.injEq]at ha; obtain⟨rfl,rfl⟩:=ha; simp
   |cons q p=>
    cases q with
    |fld n=>simp[Ty.at]at ha
    |idx k=>
     simp only[Ty.at]at ha
     split at ha
     ·rename_i hk
      cases hq:e.at p with
      |none=>simp[hq]at ha
      |some q=>
       obtain⟨o2,s2⟩:=q
       simp only[hq,Option.map_some,Option.some.injEq,Prod.mk.injEq]at ha
       obtain⟨rfl,rfl⟩:=ha
       have:=ih _ _ _ hq
       have h2:(k+1)*e.size≤n*e.size:=Nat.mul_le_mul_right _ hk
       simp only[Ty.size]
       rw[Nat.add_mul]at h2
       omega
     ·cases ha
  |_=>
   intro p off s ha
   cases p with
   |nil=>rw[Ty.at_nil]at ha; simp only[Option.some.injEq,Prod.mk.injEq]at ha; obtain⟨rfl,rfl⟩:=ha; simp
   |cons q p=>simp[Ty.at]at ha
 split_at {cs c1 c c2 e1 e2:List Value} (h0:cs=c1++(c++c2)) (k0:cs=e1++e2) (h:c1.length+c.length≤e1.length):∃d2,e1=c1++(c++d2)∧c2=d2++e2:=by
  subst h0
  refine⟨e1.drop (c1.length+c.length),?_,?_⟩
  ·have:=congrArg (List.take (c1.length+c.length)) k0
   rw[← List.append_assoc,List.take_append_of_le_length (by simp),List.take_of_length_le (by simp),List.take_append_of_le_length h]at this
   rw[← List.append_assoc,this,List.take_append_drop]
  ·have:=congrArg (List.drop (c1.length+c.length)) k0
   rw[← List.append_assoc,List.drop_append_of_le_length (by simp),List.drop_of_length_le (by simp),List.drop_append_of_le_length h]at this
   simpa using this
 split_tail {cs c1 c c2 e1 e2:List Value} (h0:cs=c1++(c++c2)) (k0:cs=e1++e2) (h:e1.length≤c1.length):∃d1,c1=e1++d1∧e2=d1++(c++c2):=by
  subst h0
  refine⟨c1.drop e1.length,?_,?_⟩
  ·have:=congrArg (List.take e1.length) k0
   rw[List.take_append_of_le_length h,List.take_append_of_le_length (Nat.le_refl _),List.take_of_length_le (Nat.le_refl _)]at this
   rw[← this,List.length_take,Nat.min_eq_left h,List.take_append_drop]
  ·have:=congrArg (List.drop e1.length) k0
   rw[List.drop_append_of_le_length h,List.drop_append_of_le_length (Nat.le_refl _),List.drop_of_length_le (Nat.le_refl _),List.nil_append]at this
   exact this.symm
end Go.Ai
/- Trees of slices: places,parts. -/
namespace Go.Ai
open Go.RowKit
variable {w w':World} {M:Nat→Prop} {sk:List Sel→Option Value} {X:Nat→Prop}
theorem A4J{α:Type}{R:Nat→List Nat→List Value→α→Prop}{n:Nat}(h:∀k L c x,R k L c x→c.length=n):∀{xs:List α} {k:Nat} {L:List Nat} {cs},A0C R k L cs xs→cs.length=xs.length*n
 | [],_,_,cs,⟨_,hc⟩=>by simp[hc]
 |x::xs,k,L,cs,⟨L1,L2,c1,c2,_,he,hr,hc⟩=>by rw[he,List.length_append,h k L1 c1 x hr,A4J h hc,List.length_cons,Nat.add_mul,Nat.one_mul,Nat.add_comm]
theorem A0t.length:∀(s:DS) (q:List Sel→List Sel) (L:List Nat) (cs:List Value) (x:s.ty.den),A0t w M sk s q L cs x→cs.length=s.ty.size
 | .pl t,q,L,cs,x,⟨_,_,h⟩=>Rep.length t cs x h
 | .sl E s,q,L,cs,xs,⟨v,ds,L',h,_⟩=>by rw[h]; rfl
 | .pr a b,q,L,cs,x,⟨L1,L2,c1,c2,_,h0,h1,h2⟩=>by rw[h0,List.length_append,A0t.length a _ L1 c1 _ h1,A0t.length b _ L2 c2 _ h2]; rfl
theorem A6O{α:Type}{R:Nat→List Nat→List Value→α→Prop}{Q:Value→Prop}(h:∀k L c x,R k L c x→∀v∈c,Q v):∀{xs:List α} {k:Nat} {L:List Nat} {cs},A0C R k L cs xs→∀v∈cs,Q v
 | [],_,_,cs,⟨_,hc⟩=>by simp[hc]
 |x::xs,k,L,cs,⟨L1,L2,c1,c2,_,he,hr,hc⟩=>by
  intro v hv
  rw[he,List.mem_append]at hv
  rcases hv with hv|hv
  ·exact h k L1 c1 x hr v hv
  ·exact A6O h hc v hv
theorem A6B{E:TypeId}{size n:Nat}{v:Value}{ds:List Value}(h:A0E w M E size v n ds):v.oneCell'=true:=by
 rcases h.2 with⟨rfl,_⟩|⟨g,c,cur,rfl,_⟩<;>rfl
theorem A0t.one:∀(s:DS) (q:List Sel→List Sel) (L:List Nat) (cs:List Value) (x:s.ty.den),A0t w M sk s q L cs x→∀v∈cs,v.oneCell'=true
 | .pl t,q,L,cs,x,⟨_,_,h⟩=>Rep.one t cs x h
 | .sl E s,q,L,cs,xs,⟨v,ds,L',h,_,_,h4,_⟩=>by rw[h]; simpa using A6B h4
 | .pr a b,q,L,cs,x,⟨L1,L2,c1,c2,_,h0,h1,h2⟩=>by
  intro v hv
  rw[h0,List.mem_append]at hv
  rcases hv with hv|hv
  ·exact A0t.one a _ L1 c1 _ h1 v hv
  ·exact A0t.one b _ L2 c2 _ h2 v hv
theorem A4K{α:Type}{R:Nat→List Nat→List Value→α→Prop}{S:List Value→α→Prop}:∀{xs:List α} {k:Nat} {L:List Nat} {cs},(∀ k L1 c x,(∀ b∈L1,b∈L)→R k L1 c x→S c x)→A0C R k L cs xs→A0l S cs xs
 | [],_,_,cs,_,⟨_,hc⟩=>hc
 |x::xs,k,L,cs,h,⟨L1,L2,c1,c2,hL,he,hr,hc⟩=>by
  subst hL
  exact⟨c1,c2,he,h k L1 c1 x (fun b hb=>List.mem_append_left _ hb) hr,A4K (fun k L c x hL=>h k L c x (fun b hb=>List.mem_append_right _ (hL b hb))) hc⟩
theorem A6Z{E:TypeId}{e:Ty}{v:Value}{xs:List e.den}{ds:List Value}(h:A0E w M E e.size v xs.length ds)(hc:A0l (Rep w X e) ds xs)(hX:∀b,v.ownBlock=some b→¬X b):Rep w X (.slice e) [v] xs:=by
 rcases h.2 with⟨k1,k2⟩|⟨g,cap,cur,k1,k2,k3,k4,k5,k6,k7⟩
 ·subst k1
  have hn:xs=[]:=List.eq_nil_of_length_eq_zero k2
  subst hn
  exact⟨none,0,0,[],rfl,rfl,Nat.le_refl _,Nat.zero_le _,rfl,.inl rfl⟩
 ·subst k1
  refine⟨_,_,cap,ds,rfl,rfl,k4,k5,hc,.inr ⟨g,0,rfl,?_,hX g rfl⟩⟩
  intro j u hu
  have:=A0E.cells h (g:=g) rfl j u hu
  simpa[Addr.add_mid]using this
theorem A0t.rep:∀(s:DS) (q:List Sel→List Sel) (L:List Nat) (cs:List Value) (x:s.ty.den),(∀ b∈L,¬X b)→A0t w M sk s q L cs x→Rep w X s.ty cs x
 | .pl t,q,L,cs,x,_,⟨_,h2,h⟩=>A0S t h2 cs x h
 | .sl E s,q,L,cs,xs,hX,⟨v,ds,L',h1,_,h3,h4,h5⟩=>by
  subst h1; subst h3
  exact A6Z h4 (A4K (fun k L1 c x hL=>A0t.rep s _ L1 c x (fun b hb=>hX b (List.mem_append_right _ (hL b hb)))) h5) (fun b hb=>hX b (List.mem_append_left _ (by simp[hb])))
 | .pr a b,q,L,cs,x,hX,⟨L1,L2,c1,c2,h0,h1,h2,h3⟩=>by
  subst h0
  exact⟨c1,c2,h1,A0t.rep a _ L1 c1 x.1 (fun b hb=>hX b (List.mem_append_left _ hb)) h2,A0t.rep b _ L2 c2 x.2 (fun b hb=>hX b (List.mem_append_right _ hb)) h3⟩
theorem A3H{α:Type}{R:Nat→List Nat→List Value→α→Prop}{n:Nat}(hl:∀k L c x,R k L c x→c.length=n):∀{xs:List α} {k0:Nat} {L:List Nat} {cs} (k:Nat) (x:α),A0C R k0 L cs xs→xs[k]? =some x→
  ∃L1 L2 L3 c1 c c2,L=L1++(L2++L3)∧cs=c1++(c++c2)∧c1.length=k*n∧R (k0+k) L2 c x∧
   ∀(S:Nat→List Nat→List Value→α→Prop) L' c' y,(∀ j L c x,j≠k0+k→(∀ b∈L,b∈L1++L3)→R j L c x→S j L c x)→S (k0+k) L' c' y→A0C S k0 (L1++(L'++L3)) (c1++(c'++c2)) (xs.set k y)
 | [],k0,L,cs,k,x,_,hk=>by simp at hk
 |x0::xs,k0,L,cs,0,x,⟨L1,L2,c1,c2,h1,h2,h3,h4⟩,hk=>by
  simp only[List.getElem?_cons_zero,Option.some.injEq]at hk
  subst hk
  refine⟨[],L1,L2,[],c1,c2,by simpa using h1,by simpa using h2,by simp,h3,fun S L' c' y hS hy=>⟨L',L2,c',c2,by simp,by simp,hy,?_⟩⟩
  have:∀{xs:List α} {k:Nat} {L cs},k0<k→(∀ b∈L,b∈L2)→A0C R k L cs xs→A0C S k L cs xs:=by
   intro xs
   induction xs with
   |nil=>intro k L cs _ _ h; exact h
   |cons z zs ih=>
    intro k L cs hlt hL ⟨A1,A2,d1,d2,g1,g2,g3,g4⟩
    subst g1
    exact⟨A1,A2,d1,d2,rfl,g2,hS k A1 d1 z (by omega) (fun b hb=>hL b (List.mem_append_left _ hb)) g3,ih (by omega) (fun b hb=>hL b (List.mem_append_right _ hb)) g4⟩
  exact this (by omega) (fun b hb=>hb) h4
 |x0::xs,k0,L,cs,k+1,x,⟨L1,L2,c1,c2,h1,h2,h3,h4⟩,hk=>by
  simp only[List.getElem?_cons_succ]at hk
  obtain⟨A1,A2,A3,d1,d,d2,g1,g2,g3,g4,g5⟩:=A3H hl k x h4 hk
  subst g1; subst g2; subst h1
  refine⟨L1++A1,A2,A3,c1++d1,d,d2,by simp,by rw[h2]; simp,?_,by rw[show k0+(k+1)=k0+1+k by omega]; exact g4,fun S L' c' y hS hy=> ?_⟩
  ·rw [List.length_append,hl k0 L1 c1 x0 h3,g3,Nat.add_mul,Nat.one_mul,Nat.add_comm]
  ·refine ⟨L1,A1++(L'++A3),c1,d1++(c'++d2),by simp,by simp,hS k0 L1 c1 x0 (by omega) (fun b hb=>by simp[hb]) h3,?_⟩
   exact g5 S L' c' y (fun j L c x hj hL=>hS j L c x (by omega) (fun b hb=>by have:=hL b hb; simp only[List.mem_append]at this ⊢; rcases this with h|h<;>simp[h])) (by rw[show k0+1+k=k0+(k+1) by omega]; exact hy)
theorem A0t.sk_congr{sk':List Sel→Option Value}:∀(s:DS) (q:List Sel→List Sel) (L:List Nat) (cs:List Value) (x:s.ty.den),(∀ r,sk' (q r)=sk (q r))→A0t w M sk s q L cs x→A0t w M sk' s q L cs x
 | .pl t,q,L,cs,x,_,h=>h
 | .sl E s,q,L,cs,xs,hq,⟨v,ds,L',h1,h2,h3,h4,h5⟩=>⟨v,ds,L',h1,(hq []).trans h2,h3,h4,A1B (fun k L1 c x _=>A0t.sk_congr s _ L1 c x (fun r=>hq _)) h5⟩
 | .pr a b,q,L,cs,x,hq,⟨L1,L2,c1,c2,h0,h1,h2,h3⟩=>⟨L1,L2,c1,c2,h0,h1,A0t.sk_congr a _ L1 c1 x.1 (fun r=>hq _) h2,A0t.sk_congr b _ L2 c2 x.2 (fun r=>hq _) h3⟩
theorem A0t.ren{sk':List Sel→Option Value}:∀(s:DS) (q:List Sel→List Sel) (q':List Sel→List Sel) (L:List Nat) (cs:List Value) (x:s.ty.den),(∀ r,sk' (q' r)=sk (q r))→A0t w M sk s q L cs x→A0t w M sk' s q' L cs x
 | .pl t,q,q',L,cs,x,_,h=>h
 | .sl E s,q,q',L,cs,xs,hq,⟨v,ds,L',h1,h2,h3,h4,h5⟩=>⟨v,ds,L',h1,(hq []).trans h2,h3,h4,A1B (fun k L1 c x _=>A0t.ren s _ _ L1 c x (fun r=>hq _)) h5⟩
 | .pr a b,q,q',L,cs,x,hq,⟨L1,L2,c1,c2,h0,h1,h2,h3⟩=>⟨L1,L2,c1,c2,h0,h1,A0t.ren a _ _ L1 c1 x.1 (fun r=>hq _) h2,A0t.ren b _ _ L2 c2 x.2 (fun r=>hq _) h3⟩
theorem DS.set_nil(s:DS)(x y:s.ty.den):s.set x [] s y=some y:=by cases s<;>simp[DS.set]
theorem DS.get_nil(s:DS)(x:s.ty.den):s.get x []=some ⟨s,x⟩:=by cases s<;>rfl
theorem A0t.inner:∀(s:DS) (q:List Sel→List Sel) (L:List Nat) (cs:List Value) (x:s.ty.den) (p:List Sel) (E:TypeId) (d:DS) (y:(DS.sl E d).ty.den),s.inB x p=true→s.get x p=some ⟨.sl E d,y⟩→A0t w M sk s q L cs x→
  ∃L1 L2 L3 v,L=L1++(L2++L3)∧sk (q p)=some v∧A0t w M sk (.sl E d) (fun r=>q (p++r)) L2 [v] y∧
   ∀(w':World) (y':(DS.sl E d).ty.den),(∀ g∈L1++L3,w'.heap[g]? =w.heap[g]?)→A0t w' M sk (.sl E d) (fun r=>q (p++r)) L2 [v] y'→∃x',s.set x p (.sl E d) y'=some x'∧A0t w' M sk s q L cs x'
 |s,q,L,cs,x,[],E,d,y,_,hg,h=>by
  rw[DS.get_nil]at hg
  simp only[Option.some.injEq,Sigma.mk.injEq]at hg
  obtain⟨e,hy⟩:=hg
  subst e
  have hy':=eq_of_heq hy
  subst hy'
  obtain⟨v,ds,L',h1,h2,h3⟩:=h
  subst h1
  exact⟨[],L,[],v,by simp,h2,⟨v,ds,L',rfl,h2,h3⟩,fun w' y' _ h'=>⟨y',DS.set_nil _ _ _,h'⟩⟩
 | .sl E0 s,q,L,cs,xs,.idx k::p,E,d,y,hin,hg,⟨v,ds,L',h1,h2,h3,h4,h5⟩=>by
  simp only[DS.get]at hg
  simp only[DS.inB,Bool.and_eq_true,decide_eq_true_eq]at hin
  obtain⟨hk,hin⟩:=hin
  have hz:xs[k]? =some (List.getD xs k s.ty.zero):=by simp[hk]
  ·generalize hzz:List.getD xs k s.ty.zero=z at hg hin hz
   obtain⟨A1,A2,A3,c1,c,c2,g1,g2,g3,g4,g5⟩:=A3H (fun k L c x hx=>A0t.length s _ L c x hx) k z h5 hz
   rw[Nat.zero_add]at g4 g5
   obtain⟨B1,B2,B3,u,k1,k2,k3,k4⟩:=A0t.inner s _ A2 c z p E d y hin hg g4
   subst g1; subst k1; subst h3
   refine⟨v.ownBlock.toList++(A1++B1),B2,B3++A3,u,by simp,k2,k3,fun w' y' hw hy'=> ?_⟩
   obtain⟨z',m1,m2⟩:=k4 w' y' (fun g hg=>hw g (by simp only[List.mem_append]at hg ⊢; rcases hg with h|h<;>simp[h])) hy'
   refine⟨xs.set k z',by simp only[DS.set,hzz,m1,Option.map_some],v,c1++(c++c2),A1++(B1++(B2++B3)++A3),h1,h2,by simp,?_,?_⟩
   ·rw [List.length_set,←g2]
    exact A5e h4 (fun g hg=>hw g (by simp[hg])) (fun _ _ h=>h)
   ·exact g5 _ _ c z' (fun j L c x _ hL hx=>hx.go s _ L c x (fun g hg=>hw g (by have:=hL g hg; simp only[List.mem_append]at this ⊢; rcases this with h|h<;>simp[h])) (fun _ _ h=>h)) m2
 | .pr a b,q,L,cs,x,.fld 0::p,E,d,y,hin,hg,⟨L1,L2,c1,c2,h0,h1,h2,h3⟩=>by
  simp only[DS.get]at hg
  simp only[DS.inB]at hin
  obtain⟨B1,B2,B3,u,k1,k2,k3,k4⟩:=A0t.inner a _ L1 c1 x.1 p E d y hin hg h2
  subst h0; subst k1
  refine⟨B1,B2,B3++L2,u,by simp,k2,k3,fun w' y' hw hy'=> ?_⟩
  obtain⟨z',m1,m2⟩:=k4 w' y' (fun g hg=>hw g (by simp only[List.mem_append]at hg ⊢; rcases hg with h|h<;>simp[h])) hy'
  exact⟨(z',x.2),by simp only[DS.set,m1,Option.map_some],B1++(B2++B3),L2,c1,c2,rfl,h1,m2,h3.go b _ L2 c2 x.2 (fun g hg=>hw g (by simp[hg])) (fun _ _ h=>h)⟩
 | .pr a b,q,L,cs,x,.fld (n+1)::p,E,d,y,hin,hg,⟨L1,L2,c1,c2,h0,h1,h2,h3⟩=>by
  simp only[DS.get]at hg
  simp only[DS.inB]at hin
  obtain⟨B1,B2,B3,u,k1,k2,k3,k4⟩:=A0t.inner b _ L2 c2 x.2 (.fld n::p) E d y hin hg h3
  subst h0; subst k1
  refine⟨L1++B1,B2,B3,u,by simp,k2,k3,fun w' y' hw hy'=> ?_⟩
  obtain⟨z',m1,m2⟩:=k4 w' y' (fun g hg=>hw g (by simp only[List.mem_append]at hg ⊢; rcases hg with h|h<;>simp[h])) hy'
  exact⟨(x.1,z'),by simp only[DS.set,m1,Option.map_some],L1,B1++(B2++B3),c1,c2,by simp,h1,h2.go a _ L1 c1 x.1 (fun g hg=>hw g (by simp[hg])) (fun _ _ h=>h),m2⟩
 | .pl t,q,L,cs,x,r::p,E,d,y,_,hg,h=>by
  cases r<;>simp only[DS.get]at hg
  ·cases hp:getP t x (.fld _::p)with
   |none=>rw[hp]at hg; simp at hg
   |some z=>rw[hp]at hg; simp at hg
  ·cases hp:getP t x (.idx _::p)with
   |none=>rw[hp]at hg; simp at hg
   |some z=>rw[hp]at hg; simp at hg
 | .sl _ _,q,L,cs,x,.fld _::p,E,d,y,_,hg,h=>by simp[DS.get]at hg
 | .pr _ _,q,L,cs,x,.idx _::p,E,d,y,_,hg,h=>by simp[DS.get]at hg
theorem A5d:∀(t:Ty) (p:List Sel) (off:Nat) (s:Ty),t.hasRef=false→t.at p=some (off,s)→s.hasRef=false
 |t,[],off,s,h,ha=>by rw[Ty.at_nil]at ha; simp only[Option.some.injEq,Prod.mk.injEq]at ha; rw[← ha.2]; exact h
 | .pair a b,.fld 0::p,off,s,h,ha=>by
  simp only[Ty.hasRef,Bool.or_eq_false_iff]at h
  exact A5d a p off s h.1 (by simpa[Ty.at]using ha)
 | .pair a b,.fld (n+1)::p,off,s,h,ha=>by
  simp only[Ty.hasRef,Bool.or_eq_false_iff]at h
  simp only[Ty.at]at ha
  cases hq:b.at (.fld n::p)with
  |none=>simp[hq]at ha
  |some z=>
   simp only[hq,Option.map_some,Option.some.injEq,Prod.mk.injEq]at ha
   exact A5d b (.fld n::p) z.1 s h.2 (by rw[hq,←ha.2])
 | .arr n e,.idx k::p,off,s,h,ha=>by
  simp only[Ty.at]at ha
  split at ha
  ·cases hq:e.at p with
   |none=>simp[hq]at ha
   |some z=>
    simp only[hq,Option.map_some,Option.some.injEq,Prod.mk.injEq]at ha
    exact A5d e p z.1 s (by simpa[Ty.hasRef]using h) (by rw[hq,←ha.2])
  ·cases ha
 | .int _,_::_,_,_,_,ha| .bool,_::_,_,_,_,ha| .str,_::_,_,_,_,ha| .slice _,_::_,_,_,_,ha| .unit,_::_,_,_,_,ha| .ref _,_::_,_,_,_,ha| .opt _,_::_,_,_,_,ha| .fnc _,_::_,_,_,_,ha=>by simp[Ty.at]at ha
 | .pair _ _,.idx _::_,_,_,_,ha=>by simp[Ty.at]at ha
 | .arr _ _,.fld _::_,_,_,_,ha=>by simp[Ty.at]at ha
theorem B4y(r p:List Sel):B1t r≠ .fld 0::p:=by
 intro h
 unfold B1t at h
 split at h
 ·simp at h
 ·simp at h
theorem B3y{r p:List Sel}{n:Nat}(h:B1t r= .fld (n+1)::p):r= .fld n::p:=by
 unfold B1t at h
 split at h
 ·simp only[List.cons.injEq,Sel.fld.injEq,Nat.add_right_cancel_iff]at h; rw[h.1,h.2]
 ·simp at h
theorem A0t.place:∀(s:DS) (q:List Sel→List Sel) (L:List Nat) (cs:List Value) (x:s.ty.den) (p:List Sel) (off:Nat) (t:Ty) (d:DS) (y:d.ty.den),s.ty.at p=some (off,t)→s.get x p=some ⟨d,y⟩→A0t w M sk s q L cs x→
  d.ty=t∧∃L1 L2 L3 c1 c c2,L=L1++(L2++L3)∧cs=c1++(c++c2)∧c1.length=off∧A0t w M sk d (fun r=>q (p++r)) L2 c y∧
   ∀(w':World) (M':Nat→Prop) (sk':List Sel→Option Value) (L':List Nat) (c':List Value) (y':d.ty.den),(∀ g∈L1++L3,w'.heap[g]? =w.heap[g]?)→(∀ g∈L1++L3,M g→M' g)→(∀ r,(∀ r',r≠p++r')→sk' (q r)=sk (q r))→
    A0t w' M' sk' d (fun r=>q (p++r)) L' c' y'→∃x',s.set x p d y'=some x'∧A0t w' M' sk' s q (L1++(L'++L3)) (c1++(c'++c2)) x'
 |s,q,L,cs,x,[],off,t,d,y,ha,hg,h=>by
  rw[DS.get_nil]at hg
  simp only[Option.some.injEq,Sigma.mk.injEq]at hg
  obtain⟨e,hy⟩:=hg
  subst e
  have hy':=eq_of_heq hy
  subst hy'
  rw[Ty.at_nil]at ha
  simp only[Option.some.injEq,Prod.mk.injEq]at ha
  refine⟨ha.2,[],L,[],[],cs,[],by simp,by simp,by simpa using ha.1,h,fun w' M' sk' L' c' y' _ _ _ h'=>⟨y',DS.set_nil _ _ _,by simpa using h'⟩⟩
 | .pl t0,q,L,cs,x,r::p,off,t,d,y,ha,hg,⟨h1,h2,h3⟩=>by
  have hg':((getP t0 x (r::p)).map fun z=>(⟨.pl z.1,z.2⟩:(d:DS)×d.ty.den))=some ⟨d,y⟩:=by
   cases r with
   |fld n=>cases n<;>exact hg
   |idx k=>exact hg
  obtain⟨z,g1,c1,c,c2,g2,g3,g4,g5⟩:=A2E t0 x (r::p) cs off t ha h3
  rw[g1]at hg'
  simp only[Option.map_some,Option.some.injEq,Sigma.mk.injEq]at hg'
  obtain⟨e,hy⟩:=hg'
  subst e
  have hy':=eq_of_heq hy
  subst hy'
  have hn:=A5d t0 _ off t h2 ha
  refine⟨rfl,[],[],L,c1,c,c2,by simp,g2,g3,⟨rfl,hn,g4⟩,fun w' M' sk' L' c' y' hw hM hsk h'=> ?_⟩
  obtain⟨k1,k2,k3⟩:=h'
  subst k1
  obtain⟨x',m1,m2⟩:=g5 c' y' (A0S t hn c' y' k3)
  refine⟨x',by
   cases r with
   |fld n=>cases n<;>exact m1
   |idx k=>exact m1,?_⟩
  exact⟨by simpa using h1,h2,A0S t0 h2 _ x' m2⟩
 | .sl E s,q,L,cs,x,r::p,off,t,d,y,ha,hg,h=>by cases r<;>simp[DS.ty,Ty.at]at ha
 | .pr a b,q,L,cs,x,.fld 0::p,off,t,d,y,ha,hg,⟨L1,L2,c1,c2,h0,h1,h2,h3⟩=>by
  simp only[DS.ty,Ty.at]at ha
  simp only[DS.get]at hg
  obtain⟨e,B1,B2,B3,d1,dc,d2,k1,k2,k3,k4,k5⟩:=A0t.place a _ L1 c1 x.1 p off t d y ha hg h2
  subst h0; subst k1; subst k2
  refine⟨e,B1,B2,B3++L2,d1,dc,d2++c2,by simp,by rw[h1]; simp,k3,k4,fun w' M' sk' L' c' y' hw hM hsk h'=> ?_⟩
  obtain⟨z',m1,m2⟩:=k5 w' M' sk' L' c' y' (fun g hg=>hw g (by simp only[List.mem_append]at hg ⊢; rcases hg with h|h<;>simp[h])) (fun g hg=>hM g (by simp only[List.mem_append]at hg ⊢; rcases hg with h|h<;>simp[h])) (fun r hr=>hsk _ (fun r' hr'=>hr r' (by simpa using hr'))) h'
  refine⟨(z',x.2),by simp only[DS.set,m1,Option.map_some],B1++(L'++B3),L2,d1++(c'++d2),c2,by simp,by simp,m2,?_⟩
  exact A0t.sk_congr b _ L2 c2 x.2 (fun r=>hsk _ (fun r' hr'=>B4y _ _ hr')) (h3.go b _ L2 c2 x.2 (fun g hg=>hw g (by simp[hg])) (fun g hg=>hM g (by simp[hg])))
 | .pr a b,q,L,cs,x,.fld (n+1)::p,off,t,d,y,ha,hg,⟨L1,L2,c1,c2,h0,h1,h2,h3⟩=>by
  simp only[DS.ty,Ty.at]at ha
  simp only[DS.get]at hg
  cases hq:b.ty.at (.fld n::p)with
  |none=>simp[hq]at ha
  |some zz=>
   simp only[hq,Option.map_some,Option.some.injEq,Prod.mk.injEq]at ha
   obtain⟨e,B1,B2,B3,d1,dc,d2,k1,k2,k3,k4,k5⟩:=A0t.place b _ L2 c2 x.2 (.fld n::p) zz.1 zz.2 d y hq hg h3
   have hl1:=A0t.length a _ L1 c1 x.1 h2
   subst h0; subst k1; subst k2
   refine⟨e.trans ha.2,L1++B1,B2,B3,c1++d1,dc,d2,by simp,by rw[h1]; simp,by simp[hl1,k3]; exact ha.1,k4,fun w' M' sk' L' c' y' hw hM hsk h'=> ?_⟩
   obtain⟨z',m1,m2⟩:=k5 w' M' sk' L' c' y' (fun g hg=>hw g (by simp only[List.mem_append]at hg ⊢; rcases hg with h|h<;>simp[h])) (fun g hg=>hM g (by simp only[List.mem_append]at hg ⊢; rcases hg with h|h<;>simp[h])) (fun r hr=>hsk _ (fun r' hr'=>hr r' (B3y hr'))) h'
   refine⟨(x.1,z'),by simp only[DS.set,m1,Option.map_some],L1,B1++(L'++B3),c1,d1++(c'++d2),by simp,by simp,?_,m2⟩
   exact A0t.sk_congr a _ L1 c1 x.1 (fun r=>hsk _ (fun r' hr'=>by simp at hr')) (h2.go a _ L1 c1 x.1 (fun g hg=>hw g (by simp[hg])) (fun g hg=>hM g (by simp[hg])))
 | .pr _ _,q,L,cs,x,.idx _::p,off,t,d,y,ha,hg,h=>by simp[DS.get]at hg
theorem A6G{E:TypeId}{s:DS}{xs:List s.ty.den}{L:List Nat}{v:Value}(h:A0t w M sk (.sl E s) id L [v] xs){k:Nat}{r:List Sel}{o2:Nat}{t:Ty}{d:DS}{y:d.ty.den}
  (hk:∀a n c,sk []=some (.slice a n c)→k<n) (ha:s.ty.at r=some (o2,t)) (hy:(DS.sl E s).get xs (.idx k::r)=some ⟨d,y⟩):
  d.ty=t∧sk []=some v∧k<xs.length∧∃ds d1 c d2 L1 L2 L3,A0E w M E s.ty.size v xs.length ds∧ds=d1++(c++d2)∧d1.length=k*s.ty.size+o2∧L=v.ownBlock.toList++(L1++(L2++L3))∧A0t w M sk d (fun q=> .idx k::(r++q)) L2 c y∧
   ∀(w':World) (sk':List Sel→Option Value) (L':List Nat) (c':List Value) (y':d.ty.den),(∀ b∈L1++L3,w'.heap[b]? =w.heap[b]?)→(∀ q,(∀ q',q≠ .idx k::(r++q'))→sk' q=sk q)→
    A0E w' M E s.ty.size v xs.length (d1++(c'++d2))→A0t w' M sk' d (fun q=> .idx k::(r++q)) L' c' y'→∃xs',(DS.sl E s).set xs (.idx k::r) d y'=some xs'∧A0t w' M sk' (.sl E s) id (v.ownBlock.toList++(L1++(L'++L3))) [v] xs':=by
 obtain⟨v',ds,L',h1,h2,h3,h4,h5⟩:=h
 simp only[List.cons.injEq,and_true]at h1
 subst h1
 simp only[DS.get]at hy
 have hk:k<xs.length:=by
  have h2':sk []=some v:=h2
  rcases h4.2 with⟨z1,z2⟩|⟨g,cap,cur,z1,_⟩
  ·rw [z1]at h2'; have:=hk _ _ _ h2'; omega
  ·rw [z1]at h2'; exact hk _ _ _ h2'
 have hz:xs[k]? =some (List.getD xs k s.ty.zero):=by simp[hk]
 ·generalize hzz:List.getD xs k s.ty.zero=z at hy hz
  obtain⟨A1,A2,A3,c1,c,c2,g1,g2,g3,g4,g5⟩:=A3H (fun k L c x hx=>A0t.length s _ L c x hx) k z h5 hz
  rw[Nat.zero_add]at g4 g5
  obtain⟨e,B1,B2,B3,e1,ec,e2,k1,k2,k3,k4,k5⟩:=A0t.place s _ A2 c z r o2 t d y ha hy g4
  subst g1; subst k1; subst h3; subst k2
  refine⟨e,h2,hk,ds,c1++e1,ec,e2++c2,A1++B1,B2,B3++A3,h4,by rw[g2]; simp,by simp[g3,k3],by simp,k4,fun w' sk' L' c' y' hw hsk hown h'=> ?_⟩
  obtain⟨z',m1,m2⟩:=k5 w' M sk' L' c' y' (fun g hg=>hw g (by simp only[List.mem_append]at hg ⊢; rcases hg with h|h<;>simp[h])) (fun _ _ h=>h) (fun r' hr'=>hsk _ (fun q' hq'=>hr' q' (by simpa using hq'))) h'
  refine⟨xs.set k z',by simp only[DS.set,hzz,m1,Option.map_some],v,(c1++e1)++(c'++(e2++c2)),A1++((B1++(L'++B3))++A3),rfl,(hsk [] (fun q' hq'=>by cases hq')).trans h2,by simp,by rw[List.length_set]; exact hown,?_⟩
  have e4:(c1++e1)++(c'++(e2++c2))=c1++((e1++(c'++e2))++c2):=by simp
  rw[e4]
  refine g5 _ _ _ z' (fun j L c x hj hL hx=> ?_) m2
  refine A0t.sk_congr s _ L c x (fun r'=>hsk _ (fun q' hq'=> ?_)) (hx.go s _ L c x (fun g hg=>hw g (by have:=hL g hg; simp only[List.mem_append]at this ⊢; rcases this with h|h<;>simp[h])) (fun _ _ h=>h))
  simp only[id,List.cons.injEq,Sel.idx.injEq]at hq'
  omega
end Go.Ai
/- Kinds against the program's types; loads,stores,comparisons. -/
namespace Go.Ai
open Go.RowKit
def _root_.Go.Program.hasSize(P:Program)(T:TypeId)(n:Nat):Prop:=(P.info? T).map (·.size)=some n
def A0u(P:Program):Ty→(TypeId→Prop)×(Nat→List Field→Prop)
 | .int k=>(fun T=>P.underlying T=some (.int k)∧P.hasSize T 1,fun _ _=>False)
 | .bool=>(fun T=>P.underlying T=some .bool∧P.hasSize T 1,fun _ _=>False)
 | .str=>(fun T=>P.underlying T=some .string∧P.hasSize T 1,fun _ _=>False)
 | .slice e=>(fun T=>(∃ E,P.underlying T=some (.slice E)∧(A0u P e).1 E)∧P.hasSize T 1,fun _ _=>False)
 | .arr n e=>(fun T=>(∃ E,P.underlying T=some (.array n E)∧(A0u P e).1 E)∧P.hasSize T (n*e.size),fun _ _=>False)
 | .unit=>(fun T=>(∃ fs,P.underlying T=some (.struct fs)∧fs.toList=[])∧P.hasSize T 0∧P.stoodInHeld T=false,fun _ fs=>fs=[])
 | .pair a b => (fun T => (∃ fs, P.underlying T = some (.struct fs) ∧ ∃ f r, fs.toList = f :: r ∧ f.offset = 0 ∧ f.name ≠ "_" ∧ (A0u P a).1 f.type ∧ (A0u P b).2 a.size r) ∧ P.hasSize T (a.size + b.size) ∧ P.stoodInHeld T = false,
   fun off fs => ∃ f r, fs = f :: r ∧ f.offset = off ∧ f.name ≠ "_" ∧ (A0u P a).1 f.type ∧ (A0u P b).2 (off + a.size) r)
 | .ref _=>(fun _=>False,fun _ _=>False)
 | .fnc _=>(fun _=>False,fun _ _=>False)
 | .opt _=>(fun T=>((∃ E,P.underlying T=some (.pointer E))∨(∃ a b c,P.underlying T=some (.func a b c))∨∃a b,P.underlying T=some (.map a b))∧P.hasSize T 1,fun _ _=>False)
variable {P:Program} {w:World} {X:Nat→Prop} {θ:Nat→Option Own}
theorem A0u.size:(t:Ty)→(T:TypeId)→(A0u P t).1 T→P.hasSize T t.size
 | .int _,_,h=>h.2
 | .bool,_,h=>h.2
 | .str,_,h=>h.2
 | .slice _,_,h=>h.2
 | .arr _ _,_,h=>h.2
 | .unit,_,h=>h.2.1
 | .pair _ _,_,h=>h.2.1
 | .opt _,_,h=>h.2
 | .ref _,_,h=>h.elim
 | .fnc _,_,h=>h.elim
theorem A0u.isAgg{t:Ty}{T:TypeId}(h:(A0u P t).1 T)(w:World):(Go.isAgg T).run P w= .ok t.isAgg w:=by
 have key:∀d,P.underlying T=some d→(Go.isAgg T).run P w= .ok (match d with| .struct _| .array _ _=>true|_=>false) w:=by
  intro d hd
  unfold Go.isAgg
  rw[Sem.run_bind,run_underlying hd w]
  simp only[Result.andThen_ok]
  cases d<;>rfl
 cases t with
 |int k=>rw[key _ h.1]; rfl
 |bool=>rw[key _ h.1]; rfl
 |str=>rw[key _ h.1]; rfl
 |slice e=>obtain⟨⟨E,h1,_⟩,_⟩:=h; rw[key _ h1]; rfl
 |arr n e=>obtain⟨⟨E,h1,_⟩,_⟩:=h; rw[key _ h1]; rfl
 |unit=>obtain⟨⟨fs,h1,_⟩,_⟩:=h; rw[key _ h1]; rfl
 |pair a b=>obtain⟨⟨fs,h1,_⟩,_⟩:=h; rw[key _ h1]; rfl
 |ref e=>exact h.elim
 |fnc e=>exact h.elim
 |opt e=>
  rcases h.1 with⟨E,h1⟩|⟨a,b,c,h1⟩|⟨a,b,h1⟩<;>rw[key _ h1]<;>rfl
theorem A0u.row{t:Ty}{T:TypeId}(h:(A0u P t).1 T)(ha:t.isAgg=true):∃d,P.underlying T=some d∧d.isRow=true:=by
 cases t<;>simp[Ty.isAgg]at ha
 ·obtain ⟨⟨E,h1,_⟩,_⟩:=h; exact⟨_,h1,rfl⟩
 ·obtain ⟨⟨E,h1,_⟩,_⟩:=h; exact⟨_,h1,rfl⟩
 ·obtain ⟨⟨E,h1,_⟩,_⟩:=h; exact⟨_,h1,rfl⟩
theorem A1K{t:Ty}{T:TypeId}(h:(A0u P t).1 T){b o:Nat}{cs:List Value}(hr:w.rangeAt b o cs)(hl:cs.length=t.size):
  ∃v,(Instr.loadAt T (.pointer (some ⟨b,o,none⟩))).run P w= .ok v w∧A0i t.isAgg v cs:=by
 cases ha:t.isAgg with
 |true=>
  obtain⟨d,h1,h2⟩:=A0u.row h ha
  exact⟨_,run_loadAt_mid w b o T cs d hr h1 h2 (by rw[hl]; exact A0u.size t T h),rfl⟩
 |false=>
  have h1:=Ty.size_one ha
  rw[h1]at hl
  match cs,hl with
  | [v],_=>
   refine⟨v,?_,rfl⟩
   have hc:w.cell? ⟨b,o,none⟩=some v:=by simpa using hr 0 v rfl
   have:=A0u.isAgg h w
   rw[ha]at this
   simp[Instr.loadAt,Instr.sureAddr,loadVar,this,hc]
theorem A4m{tv:TV}{t:Ty}(h:tv.fits t=true):tv.isAgg=t.isAgg:=by
 cases tv<;>cases t<;>simp_all[TV.fits,TV.isAgg,Ty.isAgg]
theorem B2J{agg:Bool}{v:Value}{cs:List Value}(h:A0i agg v cs):v.cells.toList=cs∨(agg=false∧cs=[v]):=by
 unfold A0i at h
 cases agg with
 |true=>simp only[if_true]at h; subst h; exact .inl (by simp[Value.cells])
 |false=>simp only[Bool.false_eq_true,if_false]at h; exact .inr ⟨rfl,h⟩
theorem A1x{agg:Bool}{v:Value}{cs:List Value}(h:A0i agg v cs)(h1:∀u∈cs,u.oneCell'=true):v.cells.toList=cs:=by
 rcases B2J h with h|⟨_,h⟩
 ·exact h
 ·subst h
  have:=h1 v (by simp)
  cases v<;>simp_all[Value.cells,Value.oneCell']
theorem RV.one:(tv:TV)→(cs:List Value)→RV w X θ false tv cs→∀v∈cs,v.oneCell'=true
 | .pv s x,cs,hr=>Rep.one s cs x hr
 | .pr a b,cs,⟨c1,c2,h0,h1,h2⟩=>by
  intro v hv
  rw[h0,List.mem_append]at hv
  rcases hv with hv|hv
  ·exact RV.one a c1 h1 v hv
  ·exact RV.one b c2 h2 v hv
 | .ptr i r p,cs,⟨o,b,off,s,_,_,_,_,h⟩=>by rw[h]; simp[Value.oneCell']
 | .fn f c,cs,⟨vs,h,_⟩=>by rw[h]; simp[Value.oneCell']
 | .sl i e,cs,⟨v,_,h,h1⟩=>by rw[h]; simpa using h1
 | .inn i p e,cs,⟨_,_,v,_,_,h,h1⟩=>by rw[h]; simpa using h1
 | .vw ..,cs,hr=>by obtain⟨o,v,_,h1,h⟩:=hr; rw[h]; simpa using Own.vw_one h1
 | .clp e xs,cs,⟨a,len,ds,h,_⟩=>by rw[h]; simp[Value.oneCell']
 | .nilsl,cs,h=>by have h':_=_:=h; rw[h']; simp[Value.oneCell']
 | .bad,cs,⟨v,h,h1⟩=>by rw[h]; simpa using h1
 | .tup _,_,hr=>by simp[RV]at hr
 | .und,_,hr=>by simp[RV]at hr
 | .dead,_,hr=>by simp[RV]at hr
theorem A2a{t:Ty}{T:TypeId}(h:(A0u P t).1 T){b o:Nat}{cs:List Value}{v:Value}(ht:w.there b o cs.length)(hl:cs.length=t.size)(hv:v.cells.toList=cs)(h1:∀u∈cs,u.oneCell'=true):
  (Instr.storeAt T (.pointer (some ⟨b,o,none⟩)) v).run P w= .ok () (w.setCells b o cs):=by
 have hsz:=A0u.size t T h
 unfold Program.hasSize at hsz
 have hcs:v.cells.size=cs.length:=by rw[← hv]; simp
 have:=run_storeCells_cells (P:=P) b o cs 0 w (fun j hj=>by simpa using(ht j hj).1) (fun j hj=>by simpa using(ht j hj).2) h1
 cases hq:P.info? T with
 |none=>simp[hq]at hsz
 |some i=>
  have hs:i.size=t.size:=by simpa[hq]using hsz
  simp only[Nat.add_zero]at this
  simp[Instr.storeAt,Instr.sureAddr,storeVar,sizeOf,typeInfo,hq,hs,hcs,hl,hv,this]
def Ty.height:Ty→Nat
 | .arr _ e=>e.height+1
 | .pair a b=>max (a.height+1) b.height
 |_=>0
theorem A7z{α:Type}(f:α→α→Bool):∀(x y:List α),eqd.go f x y=true↔(x.length=y.length∧∀(i:Nat) (a b:α),x[i]? =some a→y[i]? =some b→f a b=true)
 | [],[]=>by simp[eqd.go]
 | [],_::_=>by simp[eqd.go]
 |_::_,[]=>by simp[eqd.go]
 |a::x,b::y=>by
  simp only[eqd.go,Bool.and_eq_true,A7z f x y,List.length_cons,Nat.add_right_cancel_iff]
  constructor
  ·rintro ⟨h1,h2,h3⟩
   refine⟨h2,fun i c d hc hd=> ?_⟩
   cases i with
   |zero=>simp at hc hd; subst hc; subst hd; exact h1
   |succ i=>exact h3 i c d (by simpa using hc) (by simpa using hd)
  ·rintro ⟨h1,h2⟩
   exact⟨h2 0 a b rfl rfl,h1,fun i c d hc hd=>h2 (i+1) c d (by simpa using hc) (by simpa using hd)⟩
theorem A9N:(t:Ty)→t.hasRef=false→(x y:t.den)→(eqd t x y=true↔x=y)
 | .int _,_,x,y=>by simp[eqd]
 | .bool,_,x,y=>by simp[eqd]
 | .str,_,x,y=>by simp[eqd]
 | .unit,_,x,y=>by simp[eqd]
 | .fnc _,_,x,y=>by simp[eqd]
 | .arr n e,h,x,y=>by
  have he:e.hasRef=false:=by simpa[Ty.hasRef]using h
  have ih:=A9N e he
  simp only[eqd,A7z]
  constructor
  ·rintro ⟨h1,h2⟩
   apply List.ext_getElem?
   intro i
   cases hx:x[i]? with
   |none=>have:=List.getElem?_eq_none_iff.1 hx; rw[List.getElem?_eq_none (by omega)]
   |some a=>
    have hlt:=(List.getElem?_eq_some_iff.1 hx).1
    have hy:y[i]? =some y[i]:=List.getElem?_eq_getElem (by omega)
    rw[hy,(ih _ _).1 (h2 i a _ hx hy)]
  ·rintro rfl
   exact⟨rfl,fun i a b ha hb=>by rw[ha]at hb; injection hb with hb; subst hb; exact(ih a a).2 rfl⟩
 | .pair a b,h,x,y=>by
  simp only[Ty.hasRef,Bool.or_eq_false_iff]at h
  simp only[eqd,Bool.and_eq_true,A9N a h.1,A9N b h.2]
  exact⟨fun ⟨h1,h2⟩=>Prod.ext h1 h2,fun h=>by subst h; exact⟨rfl,rfl⟩⟩
end Go.Ai
/- '==' of plain values. -/
namespace Go.Ai
open Go.RowKit
variable {P:Program} {w:World} {X:Nat→Prop}
theorem A1o{t:Ty}{T:TypeId}(h:(A0u P t).1 T){cs c1 c c2:List Value}(h0:cs=c1++(c++c2))(hl:c.length=t.size):
  ∃v,(part T cs.toArray c1.length).run P w= .ok v w∧A0i t.isAgg v c:=by
 have hsz:=A0u.size t T h
 unfold Program.hasSize at hsz
 have hagg:=A0u.isAgg h w
 cases hq:P.info? T with
 |none=>simp[hq]at hsz
 |some i=>
  have hs:i.size=t.size:=by simpa[hq]using hsz
  cases ha:t.isAgg with
  |true=>
   rw[ha]at hagg
   refine⟨.agg c.toArray,?_,rfl⟩
   simp only[part,Sem.run_bind,hagg,Result.andThen_ok,if_true,sizeOf,typeInfo,run_program,hq,Sem.run_pure,hs]
   congr 2
   apply Array.ext'
   subst h0
   simp[List.extract,hl.symm]
  |false=>
   rw[ha]at hagg
   have h1:=Ty.size_one ha
   rw[h1]at hl
   match c,hl with
   | [v],_=>
    refine⟨v,?_,rfl⟩
    have:cs.toArray[c1.length]? =some v:=by subst h0; simp
    simp[part,hagg,this]
theorem A6n{α:Type}{R:List Value→α→Prop}{n:Nat}(hl:∀c x,R c x→c.length=n){xs:List α}{cs:List Value}(k:Nat)(x:α)(hc:A0l R cs xs)(hk:xs[k]? =some x):
  ∃c1 c c2,cs=c1++(c++c2)∧c1.length=k*n∧R c x:=by
 have hlt:=(List.getElem?_eq_some_iff.1 hk).1
 obtain⟨c1,c,c2,h1,h2,h3,_⟩:=A1C hl x k hc hlt
 refine⟨c1,c,c2,h1,h2,?_⟩
 have:xs.getD k x=x:=by simp[List.getD,hk]
 rwa [this]at h3
theorem A5S{e:Ty}{E:TypeId}(hE:(A0u P e).1 E){d:Nat}(ih:∀(x y:e.den) (cs ds:List Value) (v u:Value),Rep w X e cs x→Rep w X e ds y→A0i e.isAgg v cs→A0i e.isAgg u ds→(Op.equalIn d E v u).run P w= .ok (eqd e x y) w)
  {xs ys:List e.den} {cs ds:List Value} (hc:A0l (Rep w X e) cs xs) (hd:A0l (Rep w X e) ds ys):∀(m k:Nat),xs.length=k+m→ys.length=k+m→
   (Op.eqItems d E (P.cellsOf E) cs.toArray ds.toArray (List.range' k m)).run P w= .ok (eqd.go (eqd e) (xs.drop k) (ys.drop k)) w
 |0,k,h1,h2=>by
  rw[List.drop_of_length_le (by omega),List.drop_of_length_le (by omega)]
  simp[Op.eqItems,eqd.go]
 |m+1,k,h1,h2=>by
  have hx:xs[k]? =some xs[k]:=List.getElem?_eq_getElem (by omega)
  have hy:ys[k]? =some ys[k]:=List.getElem?_eq_getElem (by omega)
  have hcell:P.cellsOf E=e.size:=by
   have:=A0u.size e E hE
   unfold Program.hasSize at this
   simp[Program.cellsOf,this]
  obtain⟨c1,c,c2,p1,p2,p3⟩:=A6n (fun c x hx=>Rep.length e c x hx) k _ hc hx
  obtain⟨d1,dd,d2,q1,q2,q3⟩:=A6n (fun c x hx=>Rep.length e c x hx) k _ hd hy
  obtain⟨v,r1,r2⟩:=A1o (w:=w) hE p1 (Rep.length e c _ p3)
  obtain⟨u,s1,s2⟩:=A1o (w:=w) hE q1 (Rep.length e dd _ q3)
  rw[p2]at r1
  rw[q2]at s1
  have hcmp:=ih _ _ c dd v u p3 q3 r2 s2
  have hrest:=A5S hE ih hc hd m (k+1) (by omega) (by omega)
  rw[List.range'_succ]
  simp only[Op.eqItems,Sem.run_bind,hcell,r1,s1,hcmp,Result.andThen_ok]
  rw[List.drop_eq_getElem_cons (by omega:k<xs.length),List.drop_eq_getElem_cons (by omega:k<ys.length)]
  simp only[eqd.go]
  rw[hcell]at hrest
  cases hb:eqd e xs[k] ys[k]with
  |false=>simp
  |true=>simpa using hrest
theorem A5n{d:Nat}(P:Program)(w:World)(X:Nat→Prop):∀(t:Ty),t.height≤d→t.hasRef=false→
  (∀ (s:Ty),s.height<t.height∨s.height<d→s.hasRef=false→∀(T:TypeId),(A0u P s).1 T→∀(x y:s.den) (cs ds:List Value) (v u:Value),Rep w X s cs x→Rep w X s ds y→A0i s.isAgg v cs→A0i s.isAgg u ds→s.height<d→(Op.equalIn d T v u).run P w= .ok (eqd s x y) w)→
  ∀(off:Nat) (fs:List Field) (x y:t.den) (c0 d0 cs ds:List Value),(A0u P t).2 off fs→c0.length=off→d0.length=off→Rep w X t cs x→Rep w X t ds y→
   (Op.eqFields d (c0++cs).toArray (d0++ds).toArray fs).run P w= .ok (eqd t x y) w
 | .unit,_,_,_,off,fs,x,y,c0,d0,cs,ds,hf,_,_,_,_=>by
  have:fs=[]:=hf
  subst this
  simp[Op.eqFields,eqd]
 | .pair a b,hh,hnr,ih,off,fs,x,y,c0,d0,cs,ds,hf,hc0,hd0,hx,hy=>by
  obtain⟨f,r,rfl,ho,hn,ha,hb⟩:=hf
  obtain⟨c1,c2,e0,e1,e2⟩:=hx
  obtain⟨d1,d2,g0,g1,g2⟩:=hy
  simp only[Ty.hasRef,Bool.or_eq_false_iff]at hnr
  simp only[Ty.height]at hh
  have hla:=Rep.length a c1 _ e1
  have hlb:=Rep.length a d1 _ g1
  obtain⟨v,r1,r2⟩:=A1o (w:=w) ha (cs:=c0++cs) (c1:=c0) (c:=c1) (c2:=c2) (by rw[e0]) hla
  obtain⟨u,s1,s2⟩:=A1o (w:=w) ha (cs:=d0++ds) (c1:=d0) (c:=d1) (c2:=d2) (by rw[g0]) hlb
  rw[hc0,←ho]at r1
  rw[hd0,←ho]at s1
  have hcmp:=ih a (.inr (by omega)) hnr.1 f.type ha _ _ c1 d1 v u e1 g1 r2 s2 (by omega)
  have hrest:=A5n P w X b (by omega) hnr.2 (fun s hs=>ih s (by rcases hs with hs|hs; exact .inr (by omega); exact .inr hs)) (off+a.size) r x.2 y.2 (c0++c1) (d0++d1) c2 d2 hb (by simp[hc0,hla]) (by simp[hd0,hlb]) e2 g2
  rw[List.append_assoc,List.append_assoc,←e0,←g0]at hrest
  rw[Op.eqFields]
  simp only[if_pos hn,Sem.run_bind,r1,s1,hcmp,Result.andThen_ok,eqd]
  cases hb:eqd a x.1 y.1 with
  |false=>simp
  |true=>simpa using hrest
 | .int _,_,_,_,_,_,_,_,_,_,_,_,hf,_,_,_,_=>hf.elim
 | .bool,_,_,_,_,_,_,_,_,_,_,_,hf,_,_,_,_=>hf.elim
 | .str,_,_,_,_,_,_,_,_,_,_,_,hf,_,_,_,_=>hf.elim
 | .slice _,_,_,_,_,_,_,_,_,_,_,_,hf,_,_,_,_=>hf.elim
 | .arr _ _,_,_,_,_,_,_,_,_,_,_,_,hf,_,_,_,_=>hf.elim
 | .ref _,_,_,_,_,_,_,_,_,_,_,_,hf,_,_,_,_=>hf.elim
 | .opt _,_,_,_,_,_,_,_,_,_,_,_,hf,_,_,_,_=>hf.elim
 | .fnc _,_,_,_,_,_,_,_,_,_,_,_,hf,_,_,_,_=>hf.elim
theorem A2c{s t:ByteArray}(h:A0B s=A0B t):s=t:=by
 unfold A0B at h
 have key:∀(l m:List UInt8),(l.map fun b=>(b.toNat:Int))=(m.map fun b=>(b.toNat:Int))→l=m:=by
  intro l
  induction l with
  |nil=>intro m h; cases m<;>simp_all
  |cons a l ih=>
   intro m h
   cases m with
   |nil=>simp at h
   |cons b m=>
    simp only[List.map_cons,List.cons.injEq]at h
    have hab:a=b:=UInt8.toNat_inj.1 (by have:=h.1; omega)
    rw[ih m h.2,hab]
 have:=key _ _ h
 obtain⟨⟨s⟩⟩:=s
 obtain⟨⟨t⟩⟩:=t
 simp at this
 simp[this]
theorem A4a(P:Program)(w:World)(X:Nat→Prop):∀(d:Nat) (t:Ty),t.height<d→t.hasRef=false→∀(T:TypeId),(A0u P t).1 T→∀(x y:t.den) (cs ds:List Value) (v u:Value),Rep w X t cs x→Rep w X t ds y→A0i t.isAgg v cs→A0i t.isAgg u ds→
  (Op.equalIn d T v u).run P w= .ok (eqd t x y) w:=by
 intro d
 induction d with
 |zero=>intro t h; omega
 |succ d ih=>
  intro t hh hnr T hT x y cs ds v u hx hy hv hu
  cases t with
  |int k=>
   obtain⟨h1,_⟩:=hx
   obtain⟨h2,_⟩:=hy
   have hv':v= .int k x:=by simpa[A0i,Ty.isAgg,h1,eq_comm]using hv
   have hu':u= .int k y:=by simpa[A0i,Ty.isAgg,h2,eq_comm]using hu
   rw[hv',hu',run_equalIn_int w d T k k x y hT.1]
   have:(x == y)=decide (x=y):=by rw[Bool.eq_iff_iff]; simp
   simp[eqd,this]
  |bool=>
   have h1:cs=_:=hx
   have h2:ds=_:=hy
   have hv':v= .bool x:=by simpa[A0i,Ty.isAgg,h1,eq_comm]using hv
   have hu':u= .bool y:=by simpa[A0i,Ty.isAgg,h2,eq_comm]using hu
   rw[hv',hu',run_equalIn_bool' w d T x y hT.1]
   simp[eqd]
   cases x<;>cases y<;>rfl
  |str=>
   obtain⟨s,h1,hs,_⟩:=hx
   obtain⟨r,h2,hr,_⟩:=hy
   have hv':v= .string s:=by simpa[A0i,Ty.isAgg,h1,eq_comm]using hv
   have hu':u= .string r:=by simpa[A0i,Ty.isAgg,h2,eq_comm]using hu
   have he:(s.toList == r.toList)=decide (x=y):=by
    rw[ByteArray.toList_eq,ByteArray.toList_eq]
    by_cases e:s=r
    ·subst e
     have:x=y:=by rw[hs,hr]
     simp[this]
    ·have h1:x≠y:=fun h=>e (A2c (by rw[← hs,←hr,h]))
     have h2:s.data.toList≠r.data.toList:=fun h=>h1 (by rw[hs,hr]; unfold A0B; rw[h])
     rw[decide_eq_false h1]
     simpa using h2
   rw[hv',hu',run_equalIn_string w d T s r hT.1,he]
   rfl
  |slice e=>simp[Ty.hasRef]at hnr
  |ref e=>simp[Ty.hasRef]at hnr
  |opt e=>simp[Ty.hasRef]at hnr
  |fnc e=>exact hT.elim
  |arr n e=>
   obtain⟨⟨E,h1,hE⟩,_⟩:=hT
   obtain⟨l1,c1⟩:=hx
   obtain⟨l2,c2⟩:=hy
   have hv':v= .agg cs.toArray:=by simpa[A0i,Ty.isAgg]using hv
   have hu':u= .agg ds.toArray:=by simpa[A0i,Ty.isAgg]using hu
   have hsz:=A0u.size e E hE
   unfold Program.hasSize at hsz
   cases hq:P.info? E with
   |none=>simp[hq]at hsz
   |some i=>
    simp only[Ty.height]at hh
    rw[hv',hu',run_equalIn_array w d cs.toArray ds.toArray h1 hq,List.range_eq_range']
    have:=A5S (P:=P) (w:=w) (X:=X) hE (d:=d) (fun x y cs ds v u hx hy hv hu=>ih e (by omega) (by simpa[Ty.hasRef]using hnr) E hE x y cs ds v u hx hy hv hu) c1 c2 n 0 (by omega) (by omega)
    simpa[eqd]using this
  |unit=>
   obtain⟨⟨fs,h1,h2⟩,_,h3⟩:=hT
   have hv':v= .agg cs.toArray:=by simpa[A0i,Ty.isAgg]using hv
   have hu':u= .agg ds.toArray:=by simpa[A0i,Ty.isAgg]using hu
   have hf:P.fieldsOf T=fs:=by simp[Program.fieldsOf,h1]
   rw[hv',hu',run_equalIn_struct (P:=P) w d T _ _ (by rw[hf]; exact h1) h3,hf,h2]
   simp[Op.eqFields,eqd]
  |pair a b=>
   obtain⟨⟨fs,h1,f,r,h2,ho,hn,ha,hb⟩,_,h3⟩:=hT
   have hv':v= .agg cs.toArray:=by simpa[A0i,Ty.isAgg]using hv
   have hu':u= .agg ds.toArray:=by simpa[A0i,Ty.isAgg]using hu
   have hf:P.fieldsOf T=fs:=by simp[Program.fieldsOf,h1]
   rw[hv',hu',run_equalIn_struct (P:=P) w d T _ _ (by rw[hf]; exact h1) h3,hf,h2]
   have:=A5n (d:=d) P w X (.pair a b) (by omega) hnr (fun s _ hs T hT x y cs ds v u hx hy hv hu hlt=>ih s hlt hs T hT x y cs ds v u hx hy hv hu) 0 (f::r) x y [] [] cs ds ⟨f,r,rfl,ho,hn,ha,by simpa using hb⟩ rfl rfl hx hy
   simpa using this
end Go.Ai
/- Operations that hand back a value and leave memory as it was. -/
namespace Go.Ai
open Go.RowKit
structure A1F (P:Program) (cx:Cx):Prop where
 ty:∀T s,cx.ty T=some s→(A0u P s).1 T
 eqg:∀T s,cx.ty T=some s→s.hasRef=false→P.eqGuardType P.depth T=false
 high:∀T s,cx.ty T=some s→s.height<10000
variable {P:Program} {cx:Cx} {w:World} {X:Nat→Prop} {θ:Nat→Option Own} {h:A0m} {base:Nat→Nat→Prop} {ρ:Operand→TV} {a:Act} {R:Type} {r:R} {K:TV→Option R}
def A1h(P:Program)(w:World)(X:Nat→Prop)(θ:Nat→Option Own)(a:Act)(op:Op)(tv:TV):Prop:=
 ∃v,(∀ o:Oper,o.op=op→(execOp a.eval o).run P w= .ok (.value v) w)∧A0g w X θ tv v
theorem A0a{c:Bool}{x:Option R}{r:R}(h:cond c x none=some r):c=true∧x=some r:=by cases c; cases h; exact⟨rfl,h⟩
theorem A3T{c:Bool}{x:Option R}{r:R}(h:cond c none x=some r):c=false∧x=some r:=by cases c; exact⟨rfl,h⟩; cases h
theorem A1t{k:IntKind}{n:Int}{v:Value}(h:A0g w X θ (.pv (.int k) n) v):v= .int k n∧k.has n:=by
 obtain⟨cs,h1,h2,h3⟩:=h
 subst h2
 exact⟨by simpa[A0i,TV.isAgg,Ty.isAgg,eq_comm]using h1,h3⟩
theorem A2x{b:Bool}{v:Value}(h:A0g w X θ (.pv .bool b) v):v= .bool b:=by
 obtain⟨cs,h1,h2⟩:=h
 have h2':cs=_:=h2
 subst h2'
 simpa[A0i,TV.isAgg,Ty.isAgg,eq_comm]using h1
theorem A4b{xs:List Int}{v:Value}(h:A0g w X θ (.pv .str xs) v):∃s,v= .string s∧xs=A0B s∧s.size≤maxLen:=by
 obtain⟨cs,h1,s,h2,h3⟩:=h
 subst h2
 exact⟨s,by simpa[A0i,TV.isAgg,Ty.isAgg,eq_comm]using h1,h3⟩
theorem A1E{k:IntKind}{n:Int}(h:k.has n):A0g w X θ (.pv (.int k) n) (.int k n):=⟨_,rfl,rfl,h⟩
theorem A1l{b:Bool}:A0g w X θ (.pv .bool b) (.bool b):=⟨_,rfl,rfl⟩
theorem A1J(k:IntKind)(n:Int):k.has (k.wrap n):=by
 unfold IntKind.has IntKind.wrap IntKind.min IntKind.max
 cases k<;>simp[IntKind.bits,IntKind.signed]<;>(try split)<;>omega
theorem A2k{tv:TV}{v:Value}(ht:∀c,tv≠ .tup c)(hd:tv≠ .dead)(hu:tv≠ .und)(h:A0g w X θ tv v):∃cs,A0i tv.isAgg v cs∧RV w X θ false tv cs:=by
 cases tv<;>first|exact h|exact absurd rfl hd|exact absurd rfl hu|exact absurd rfl (ht _)
theorem A3M{tv:TV}{v:Value}{cs:List Value}(h1:A0i tv.isAgg v cs)(h2:RV w X θ false tv cs):A0g w X θ tv v:=by
 cases tv<;>first|exact⟨cs,h1,h2⟩|(simp [RV]at h2)
theorem A3A{i:Nat}{t:Ty}{p:List Sel}{v:Value}(h:A0g w X θ (.ptr i t p) v):∃o b off s,θ i=some o∧o.base=some b∧t.rat p=some (off,s)∧o.okp p∧v= .pointer (some ⟨b,off,none⟩):=by
 obtain⟨cs,h1,o,b,off,s,h2,h3,h4,h5,h6⟩:=h
 subst h6
 exact⟨o,b,off,s,h2,h3,h4,h5,by simpa[A0i,TV.isAgg,eq_comm]using h1⟩
theorem A6b{t:Ty}{x:t.den}{v:Value}(h:A0g w X θ (.pv (.ref t) x) v):∃b o ds,v= .pointer (some ⟨b,o,none⟩)∧Rep w X t ds x∧w.rangeAt b o ds∧(ds≠ []→¬X b):=by
 obtain⟨cs,h1,b,o,ds,h2,h3⟩:=h
 subst h2
 exact⟨b,o,ds,by simpa[A0i,TV.isAgg,Ty.isAgg,eq_comm]using h1,h3⟩
theorem A9X{t:Ty}{x:t.den}{b o:Nat}{ds:List Value}(h1:Rep w X t ds x)(h2:w.rangeAt b o ds)(h3:ds≠ []→¬X b):A0g w X θ (.pv (.ref t) x) (.pointer (some ⟨b,o,none⟩)):=⟨_,rfl,b,o,ds,rfl,h1,h2,h3⟩
theorem B3h(hρ:∀x,A0g w X θ (ρ x) (a.eval x)){x:Operand}(hp:A0p cx h ρ (.move x) K=some r):∃tv,K tv=some r∧A1h P w X θ a (.move x) tv:=
 ⟨ρ x,hp,a.eval x,fun o ho=>by simp[execOp,ho],hρ x⟩
theorem B0T(hρ:∀x,A0g w X θ (ρ x) (a.eval x)){x:Operand}(hp:A0p cx h ρ (.assign x) K=some r):∃tv,K tv=some r∧A1h P w X θ a (.assign x) tv:=
 ⟨ρ x,hp,a.eval x,fun o ho=>by simp[execOp,ho],hρ x⟩
theorem B3i(hρ:∀x,A0g w X θ (ρ x) (a.eval x)){c x y:Operand}(hp:A0p cx h ρ (.pick c x y) K=some r):∃tv,K tv=some r∧A1h P w X θ a (.pick c x y) tv:=by
 simp only[A0p]at hp
 have hc:=hρ c
 split at hp
 ·rename_i t ht
  rw[ht]at hc
  have hv:=A2x hc
  cases t with
  |true=>exact⟨ρ x,hp,a.eval x,fun o ho=>by simp[execOp,ho,hv,asBool],hρ x⟩
  |false=>exact⟨ρ y,hp,a.eval y,fun o ho=>by simp[execOp,ho,hv,asBool],hρ y⟩
 ·cases hp
theorem Ty.sub_of_at:(t:Ty)→(p:List Sel)→(off:Nat)→(s:Ty)→t.at p=some (off,s)→t.sub p=some s:=by
 intro t
 induction t with
 |pair a b iha ihb=>
  intro p off s h
  cases p with
  |nil=>rw[Ty.at_nil]at h; simp only[Option.some.injEq,Prod.mk.injEq]at h; rw[← h.2]; rfl
  |cons q p=>
   cases q with
   |idx k=>simp[Ty.at]at h
   |fld n=>
    cases n with
    |zero=>simp only[Ty.at]at h; exact iha p off s h
    |succ n=>
     simp only[Ty.at]at h
     cases hq:b.at (.fld n::p)with
     |none=>simp[hq]at h
     |some q=>
      obtain⟨o2,s2⟩:=q
      simp only[hq,Option.map_some,Option.some.injEq,Prod.mk.injEq]at h
      rw[← h.2]
      exact ihb _ o2 s2 hq
 |arr n e ih=>
  intro p off s h
  cases p with
  |nil=>rw[Ty.at_nil]at h; simp only[Option.some.injEq,Prod.mk.injEq]at h; rw[← h.2]; rfl
  |cons q p=>
   cases q with
   |fld n=>simp[Ty.at]at h
   |idx k=>
    simp only[Ty.at]at h
    split at h
    ·cases hq:e.at p with
     |none=>simp[hq]at h
     |some q=>
      obtain⟨o2,s2⟩:=q
      simp only[hq,Option.map_some,Option.some.injEq,Prod.mk.injEq]at h
      rw[← h.2]
      exact ih p o2 s2 hq
    ·cases h
 |_=>
  intro p off s h
  cases p with
  |nil=>rw[Ty.at_nil]at h; simp only[Option.some.injEq,Prod.mk.injEq]at h; rw[← h.2]; rfl
  |cons q p=>simp[Ty.at]at h
theorem A3c{t:Ty}{p:List Sel}{off:Nat}{s:Ty}(h:t.rat p=some (off,s)):t.rsub p=some s:=by
 cases t with
 |slice e=>
  cases p with
  |nil=>exact Ty.sub_of_at _ _ off s h
  |cons q p=>
   cases q with
   |fld n=>exact Ty.sub_of_at _ _ off s h
   |idx k=>
    simp only[Ty.rat]at h
    cases hq:e.at p with
    |none=>simp[hq]at h
    |some q=>
     obtain⟨o2,s2⟩:=q
     simp only[hq,Option.map_some,Option.some.injEq,Prod.mk.injEq]at h
     rw[← h.2]
     exact Ty.sub_of_at e p o2 s2 hq
 |_=>exact Ty.sub_of_at _ _ off s h
theorem A1M{b:Nat}{C:Array Value}{E:TypeId}(h:w.heap[b]? =some (.cells C E (0,0))){c1 c c2:List Value}(hc:C.toList=c1++(c++c2)):w.rangeAt b c1.length c:=by
 intro j v hv
 have hlt:=(List.getElem?_eq_some_iff.1 hv).1
 have:C[c1.length+j]? =some v:=by
  rw[← Array.getElem?_toList,hc,List.getElem?_append_right (by omega),List.getElem?_append_left (by omega)]
  rw[show c1.length+j-c1.length=j by omega]; exact hv
 simp[World.cell?,h,this]
theorem A3S{c u:TV}{t:Ty}{p:List Sel}{q:Nat×Ty}(hf:c.fits t=true)(hg:c.getP p=some u)(h:t.rat p=some q):t.at p=some q:=by
 cases t with
 |slice e=>
  cases p with
  |nil=>exact h
  |cons s p=>
   exfalso
   cases c with
   |pv s2 x=>
    have:s2= .slice e:=by simpa[TV.fits]using hf
    subst this
    simp[TV.getP,Ai.getP]at hg
   |pr a b=>simp[TV.fits]at hf
   |_=>simp[TV.getP]at hg
 |_=>exact h
theorem A8E{M:Nat→Prop}{E:TypeId}{e:Ty}{v:Value}{xs:List e.den}{ds:List Value}(ho:A0E w M E e.size v xs.length ds)(hc:A0l (Rep w X e) ds xs){g k:Nat}(hg:v.ownBlock=some g)(hk:k<xs.length)
  {q:List Sel} {o2:Nat} {s:Ty} (ha:e.at q=some (o2,s)):∃y,Ai.getP e (xs.getD k e.zero) q=some ⟨s,y⟩∧∃c,w.rangeAt g (k*e.size+o2) c∧c.length=s.size∧Rep w X s c y:=by
 obtain⟨c1,c,c2,h1,h2,h3,h4⟩:=A1C (fun c x hx=>Rep.length e c x hx) e.zero k hc hk
 obtain⟨y,g1,d1,d,d2,g2,g3,g4,g5⟩:=A2E e _ q c o2 s ha h3
 refine⟨y,g1,d,?_,Rep.length s d y g4,g4⟩
 have hcell:=A0E.cells ho hg
 intro j u hu
 have hlt:=(List.getElem?_eq_some_iff.1 hu).1
 have:ds[k*e.size+o2+j]? =some u:=by
  rw[h1,g2,List.getElem?_append_right (by omega),List.getElem?_append_left (by simp; omega),List.getElem?_append_right (by omega),List.getElem?_append_left (by omega)]
  rw[show k*e.size+o2+j-c1.length-d1.length=j by omega]; exact hu
 have:=hcell _ _ this
 simpa[Addr.add_mid]using this
theorem A6Y{M:Nat→Prop}{E:TypeId}{size n:Nat}{v:Value}{ds d1 c d2:List Value}(ho:A0E w M E size v n ds)(hd:ds=d1++(c++d2)){g:Nat}(hg:v.ownBlock=some g):w.rangeAt g d1.length c:=by
 intro j u hu
 have hlt:=(List.getElem?_eq_some_iff.1 hu).1
 have:ds[d1.length+j]? =some u:=by
  rw[hd,List.getElem?_append_right (by omega),List.getElem?_append_left (by omega),show d1.length+j-d1.length=j by omega]; exact hu
 have:=A0E.cells ho hg _ _ this
 simpa[Addr.add_mid]using this
theorem B0j{sk:List Sel→Option Value}{L:List Nat}{s:Ty}{p:List Sel}{b off:Nat}{u:Ty}(q2:(Own.tre sk L).base=some b)(q3:(Ty.slice s).rat p=some (off,u))(q4:(Own.tre sk L).okp p):
  ∃k r o2,p= .idx k::r∧s.at r=some (o2,u)∧off=k*s.size+o2∧(∀ a n c,sk []=some (.slice a n c)→k<n)∧∃v,sk []=some v∧v.ownBlock=some b:=by
 cases p with
 |nil=>simp[Own.okp]at q4
 |cons q r=>
  cases q with
  |fld n=>simp[Own.okp]at q4
  |idx k=>
   simp only[Ty.rat]at q3
   cases hq:s.at r with
   |none=>simp[hq]at q3
   |some qq=>
    simp only[hq,Option.map_some,Option.some.injEq,Prod.mk.injEq]at q3
    obtain⟨h1,h2⟩:=q3
    simp only[Own.base,Option.bind_eq_some_iff]at q2
    obtain⟨v,k1,k2⟩:=q2
    refine⟨k,r,qq.1,rfl,by rw[hq,←h2],h1.symm,fun a n c hs=> ?_,v,k1,k2⟩
    obtain⟨a',n',c',e1,e2⟩:=q4
    rw[hs]at e1; injection e1 with e1; injection e1 with _ e1 _
    rw[e1]; exact e2
theorem A6W(hC:A1F P cx)(hh:A1e w X θ base h){T:TypeId}{t:Ty}(hT:cx.ty T=some t){tv:TV}{v:Value}(hv:A0g w X θ tv v)(hp:A1j h t tv K=some r):
  ∃u y,K u=some r∧(Instr.loadAt T v).run P w= .ok y w∧A0g w X θ u y:=by
 have hty:=hC.ty T t hT
 unfold A1j at hp
 split at hp
 ·rename_i s x
  obtain⟨h1,h2⟩:=A0a hp
  have:s=t:=by simpa using h1
  subst this
  obtain⟨b,o,ds,rfl,hr,hra,_⟩:=A6b hv
  obtain⟨y,k1,k2⟩:=A1K hty hra (Rep.length s ds x hr)
  exact⟨_,y,h2,k1,ds,k2,hr⟩
 ·rename_i i rt p
  obtain⟨o,b,off,s,q1,q2,q3,q4,rfl⟩:=A3A hv
  split at hp
  ·rename_i rr c hg
   obtain⟨h1,h2⟩:=A0a hp
   simp only[Bool.and_eq_true,decide_eq_true_eq]at h1
   obtain⟨rfl,hsub⟩:=h1
   obtain⟨b',C,E,e1,e2,e3,e4,e5⟩:=hh.blk i _ hg
   rw[e1]at q1; injection q1 with q1; subst q1
   simp only[Own.base,Option.some.injEq]at q2; subst q2
   split at h2
   ·rename_i u hu
    have hat:=A3S e5 hu q3
    have hst:s=t:=by
     have:rr.rsub p=some s:=A3c q3
     rw[this]at hsub; injection hsub
    subst hst
    obtain⟨k1,c1,cc,c2,k2,k3,k4,k5⟩:=A4z c rr p C.toList off s u hat e5 hu e4
    have hra:w.rangeAt b' off cc:=by
     have:=A1M e3 (c1:=c1) (c:=cc) (c2:=c2) k2
     rwa [k3]at this
    obtain⟨y,m1,m2⟩:=A1K hty hra k4
    exact⟨u,y,h2,m1,A3M (by rw[A4m k1]; exact m2) k5⟩
   ·cases h2
  ·rename_i E e xs hg
   obtain⟨h1,h2⟩:=A0a hp
   simp only[Bool.and_eq_true,decide_eq_true_eq]at h1
   obtain⟨hrt,hsub⟩:=h1
   subst hrt
   obtain⟨vv,ds,e1,e2,e3⟩:=hh.blk i _ hg
   rw[e1]at q1; injection q1 with q1; subst q1
   split at h2
   ·rename_i k q
    have hk:k<xs.length:=by
     rcases e2.2 with⟨hn,hz⟩|⟨g,cap,cur,hn,_⟩
     ·rw [hn]at q4; simp only[Own.okp]at q4; omega
     ·rw [hn]at q4; simpa[Own.okp]using q4
    simp only[Ty.rat]at q3
    cases hq:e.at q with
    |none=>simp[hq]at q3
    |some qq=>
     obtain⟨o2,s2⟩:=qq
     simp only[hq,Option.map_some,Option.some.injEq,Prod.mk.injEq]at q3
     obtain⟨rfl,rfl⟩:=q3
     have hst:s2=t:=by
      have:e.sub q=some s2:=Ty.sub_of_at e q o2 s2 hq
      simp only[Ty.rsub]at hsub
      rw[this]at hsub; injection hsub
     subst hst
     obtain⟨y,k1,c,k2,k3,k4⟩:=A8E e2 e3 (g:=b) q2 hk hq
     split at h2
     ·rename_i u hu
      rw[k1]at hu; injection hu with hu; subst hu
      obtain⟨z,m1,m2⟩:=A1K hty k2 k3
      exact⟨_,z,h2,m1,c,m2,k4⟩
     ·cases h2
   ·cases h2
  ·rename_i E s0 xs hg
   obtain⟨h1,h2⟩:=A0a hp
   simp only[decide_eq_true_eq]at h1
   subst h1
   obtain⟨sk,L,vv,e1,e2,e3⟩:=hh.blk i _ hg
   rw[e1]at q1; injection q1 with q1; subst q1
   obtain⟨k,r0,o2,rfl,ha,rfl,hkn,v0,hv0,hb0⟩:=B0j q2 q3 q4
   have fin:∀(d:DS) (y:d.ty.den),(DS.sl E s0).get xs (.idx k::r0)=some ⟨d,y⟩→d.ty=s∧∃c L2,w.rangeAt b (k*s0.ty.size+o2) c∧A0t w (base i) sk d (fun q=> .idx k::(r0++q)) L2 c y:=by
    intro d y hy
    obtain⟨m1,m2,m3,ds,d1,c,d2,L1,L2,L3,m4,m5,m6,m7,m8,_⟩:=A6G e3 hkn ha hy
    rw[m2]at hv0; injection hv0 with hv0; subst hv0
    have:=A6Y m4 m5 hb0
    rw[m6]at this
    exact⟨m1,c,L2,this,m8⟩
   split at h2
   ·rename_i u y hy
    obtain⟨h3,h4⟩:=A0a h2
    have hut:u=t:=by simpa using h3
    subst hut
    obtain⟨m1,c,L2,m2,m3,m4,m5⟩:=fin _ _ hy
    obtain⟨z,n1,n2⟩:=A1K hty m2 (Rep.length u c y m5)
    exact⟨_,z,h4,n1,c,n2,A0S u m4 c y m5⟩
   ·rename_i E' d y hy
    obtain⟨h3,h4⟩:=A0a h2
    have hut:Ty.slice d.ty=t:=by simpa using h3
    subst hut
    obtain⟨m1,c,L2,m2,hd⟩:=fin _ _ hy
    have m3:=hd
    obtain⟨u,ds,L',n1,n2,n3,n4,n5⟩:=hd
    obtain⟨z,k1,k2⟩:=A1K hty m2 (by rw[n1]; rfl)
    refine⟨_,z,h4,k1,c,k2,sk,L,u,e1,?_,n1,A6B n4⟩
    simpa using n2
   ·cases h2
  ·cases hp
  ·cases hp
 ·cases hp
theorem B3g(hC:A1F P cx)(hh:A1e w X θ base h)(hρ:∀x,A0g w X θ (ρ x) (a.eval x)){T:TypeId}{x:Operand}(hp:A0p cx h ρ (.load T x) K=some r):∃tv,K tv=some r∧A1h P w X θ a (.load T x) tv:=by
 simp only[A0p]at hp
 split at hp
 ·rename_i t hT
  obtain⟨u,y,h1,h2,h3⟩:=A6W hC hh hT (hρ x) hp
  exact⟨u,h1,y,fun o ho=>by simp[execOp,ho,h2],h3⟩
 ·cases hp
theorem A8z(hρ:∀x,A0g w X θ (ρ x) (a.eval x)){x:Operand}(hp:A0p cx h ρ (.nilCheck x) K=some r):∃tv,K tv=some r∧A1h P w X θ a (.nilCheck x) tv:=by
 simp only[A0p]at hp
 have hx:=hρ x
 split at hp
 ·rename_i i t p he
  rw[he]at hx
  obtain⟨o,b,off,s,_,_,_,_,hv⟩:=A3A hx
  exact⟨_,hp,a.eval x,fun o ho=>by simp[execOp,ho,hv],hx⟩
 ·rename_i e y he
  rw[he]at hx
  obtain⟨b,o,ds,hv,_⟩:=A6b hx
  exact⟨_,hp,a.eval x,fun o ho=>by simp[execOp,ho,hv],hx⟩
 ·rename_i f c he
  rw[he]at hx
  obtain⟨cs,h1,vs,h2,h3⟩:=hx
  have hv:a.eval x= .func (.func f) #[] vs.toArray:=by subst h2; simpa[A0i,TV.isAgg,eq_comm]using h1
  exact⟨_,hp,a.eval x,fun o ho=>by simp[execOp,ho,hv],cs,h1,vs,h2,h3⟩
 ·rename_i e y he
  rw[he]at hx
  obtain⟨cs,h1,b,o,ds,h2,h3⟩:=hx
  have hv:a.eval x= .pointer (some ⟨b,o,none⟩):=by subst h2; simpa[A0i,TV.isAgg,Ty.isAgg,eq_comm]using h1
  exact⟨_,hp,a.eval x,fun o ho=>by simp[execOp,ho,hv],by rw[hv]; exact⟨_,rfl,b,o,ds,rfl,h3⟩⟩
 ·cases hp
end Go.Ai
/- Operations that hand back a value and leave memory as it was: arithmetic,tests. -/
namespace Go.Ai
open Go.RowKit
variable {P:Program} {cx:Cx} {w:World} {X:Nat→Prop} {θ:Nat→Option Own} {h:A0m} {base:Nat→Nat→Prop} {ρ:Operand→TV} {a:Act} {R:Type} {r:R} {K:TV→Option R}
def B2a(P:Program)(w:World)(X:Nat→Prop)(θ:Nat→Option Own)(op:BinOp)(T:TypeId)(u v:Value)(tv:TV):Prop:=
 ∃y,(∀ x z:Operand,(eqGuard op T x z u v).run P w= .ok () w)∧(binOp op T u v).run P w= .ok y w∧A0g w X θ tv y
theorem B4E{k:IntKind}{x:Int}(h:k.has x)(n:Nat):k.has (x.fdiv (2 ^ n)):=by
 have hp:(0:Int)<2 ^ n:=Int.pow_pos (by decide)
 rw[Int.fdiv_eq_ediv_of_nonneg _ (Int.le_of_lt hp)]
 have key:∀lo hi:Int,lo≤0→0≤hi→lo≤x→x≤hi→lo≤x / 2 ^ n∧x / 2 ^ n≤hi:=by
  intro lo hi h1 h2 h3 h4
  generalize (2:Int) ^ n=q at hp
  constructor
  ·rw [Int.le_ediv_iff_mul_le hp]
   have:lo*q≤lo*1:=Int.mul_le_mul_of_nonpos_left h1 (by omega)
   omega
  ·by_cases hx:0≤x
   ·have:x / q≤x:=Int.ediv_le_self _ hx
    omega
   ·have:x / q<0:=Int.ediv_neg_of_neg_of_pos (by omega) hp
    omega
 unfold IntKind.has at*
 refine key _ _ ?_ ?_ h.1 h.2
 ·cases k<;>simp[IntKind.min,IntKind.signed,IntKind.bits]
 ·cases k<;>simp[IntKind.max,IntKind.signed,IntKind.bits]
theorem B3H{k:IntKind}{x y:Int}(h:k.has x):k.has (x.tmod y):=by
 have key:∀lo hi:Int,lo≤0→0≤hi→lo≤x→x≤hi→lo≤x.tmod y∧x.tmod y≤hi:=by
  intro lo hi h1 h2 h3 h4
  have hn:(x.tmod y).natAbs≤x.natAbs:=by rw[Int.natAbs_tmod]; exact Nat.mod_le _ _
  by_cases hx:0≤x
  ·have g1:0≤x.tmod y:=Int.tmod_nonneg _ hx
   omega
  ·have hx':0≤ -x:=by omega
   have e:x.tmod y= -((-x).tmod y):=by rw[Int.neg_tmod]; omega
   have g1:0≤(-x).tmod y:=Int.tmod_nonneg _ hx'
   omega
 unfold IntKind.has at*
 refine key _ _ ?_ ?_ h.1 h.2
 ·cases k<;>simp[IntKind.min,IntKind.signed,IntKind.bits]
 ·cases k<;>simp[IntKind.max,IntKind.signed,IntKind.bits]
theorem B4v{op:BinOp}{T:TypeId}{xt:Option Ty}{k k':IntKind}{x y:Int}(hx:k.has x)(hy:k'.has y)(hp:A7e xt op (.pv (.int k) x) (.pv (.int k') y) K=some r):
  ∃tv,K tv=some r∧B2a P w X θ op T (.int k x) (.int k' y) tv:=by
 have hg:∀o:BinOp,∀c d:Operand,(eqGuard o T c d (.int k x) (.int k' y)).run P w= .ok () w:=by intro o c d; cases o<;>simp[eqGuard]
 unfold A7e at hp
 cases op
 case shl=>
  obtain⟨h1,h2⟩:=A3T hp
  have h1':¬y<0:=by simpa using h1
  exact⟨_,h2,_,hg _,by simp[binOp,Op.shift,h1',B5G],A1E (A1J _ _)⟩
 case shr=>
  obtain⟨h1,h2⟩:=A3T hp
  have h1':¬y<0:=by simpa using h1
  exact⟨_,h2,_,hg _,by simp[binOp,Op.shift,h1',B5H],A1E (B4E hx _)⟩
 all_goals
  obtain⟨h1,h2⟩:=A0a hp
  have hk:k=k':=by simpa using h1
  subst hk
 case add=>exact⟨_,h2,_,hg _,by simp[binOp,Op.intArith],A1E (A1J _ _)⟩
 case sub=>exact⟨_,h2,_,hg _,by simp[binOp,Op.intArith],A1E (A1J _ _)⟩
 case mul=>exact⟨_,h2,_,hg _,by simp[binOp,Op.intArith],A1E (A1J _ _)⟩
 case quo=>
  obtain⟨h3,h4⟩:=A3T h2
  have h3':¬y=0:=by simpa using h3
  exact⟨_,h4,_,hg _,by simp[binOp,Op.intDiv,h3'],A1E (A1J _ _)⟩
 case rem=>
  obtain⟨h3,h4⟩:=A3T h2
  have h3':¬y=0:=by simpa using h3
  exact⟨_,h4,_,hg _,by simp[binOp,Op.intDiv,h3'],A1E (B3H hx)⟩
 case and=>exact⟨_,h2,_,hg _,by simp[binOp,Op.intBits,A6l],A1E (by simp only[A6l]; exact A1J _ _)⟩
 case or=>exact⟨_,h2,_,hg _,by simp[binOp,Op.intBits,A6l],A1E (by simp only[A6l]; exact A1J _ _)⟩
 case xor=>exact⟨_,h2,_,hg _,by simp[binOp,Op.intBits,A6l],A1E (by simp only[A6l]; exact A1J _ _)⟩
 case andNot=>exact⟨_,h2,_,hg _,by simp[binOp,Op.intBits,A6l],A1E (by simp only[A6l]; exact A1J _ _)⟩
 case eql=>exact⟨_,h2,_,hg _,by simp[binOp,Op.intCmp]; rw[Bool.eq_iff_iff]; simp,A1l⟩
 case neq=>exact⟨_,h2,_,hg _,by simp[binOp,Op.intCmp]; rw[Bool.eq_iff_iff]; simp,A1l⟩
 case lss=>exact⟨_,h2,_,hg _,by simp[binOp,Op.intCmp],A1l⟩
 case leq=>exact⟨_,h2,_,hg _,by simp[binOp,Op.intCmp],A1l⟩
 case gtr=>exact⟨_,h2,_,hg _,by simp[binOp,Op.intCmp],A1l⟩
 case geq=>exact⟨_,h2,_,hg _,by simp[binOp,Op.intCmp],A1l⟩
theorem B3W:∀(s t:List UInt8),Op.bytesLess s t=ltI (s.map fun b=>(b.toNat:Int)) (t.map fun b=>(b.toNat:Int))
 |s,[]=>by cases s<;>rfl
 | [],_::_=>rfl
 |a::s,b::t=>by
  simp only[Op.bytesLess,List.map_cons,ltI,B3W s t]
  congr 1
  ·rw [Bool.eq_iff_iff]; simp[UInt8.lt_iff_toNat_lt]
  ·congr 1
   rw[Bool.eq_iff_iff]
   simp only[beq_iff_eq,decide_eq_true_eq]
   exact⟨fun h=>by rw[h],fun h=>UInt8.toNat_inj.1 (by omega)⟩
theorem B0i{s t:ByteArray}:(s.toList == t.toList)=decide (A0B s=A0B t):=by
 rw[ByteArray.toList_eq,ByteArray.toList_eq,Bool.eq_iff_iff]
 simp only[beq_iff_eq,decide_eq_true_eq]
 exact⟨fun h=>by unfold A0B; rw[h],fun h=>by rw[A2c h]⟩
theorem A8s(s t:ByteArray):A0B (s++t)=A0B s++A0B t:=by
 unfold A0B
 rw[← List.map_append]
 congr 1
theorem A2f(s:ByteArray):(A0B s).length=s.size:=by simp[A0B]
theorem B4w{op:BinOp}{T:TypeId}{xt:Option Ty}{s t:ByteArray}(hs:s.size≤maxLen)(ht:t.size≤maxLen)(hp:A7e xt op (.pv .str (A0B s)) (.pv .str (A0B t)) K=some r):
  ∃tv,K tv=some r∧B2a P w X θ op T (.string s) (.string t) tv:=by
 have hg:∀o:BinOp,∀c d:Operand,(eqGuard o T c d (.string s) (.string t)).run P w= .ok () w:=by intro o c d; cases o<;>simp[eqGuard]
 have hlt:Op.bytesLess s.toList t.toList=ltI (A0B s) (A0B t):=by rw[ByteArray.toList_eq,ByteArray.toList_eq]; exact B3W _ _
 unfold A7e at hp
 cases op
 case add=>
  obtain⟨h1,h2⟩:=A0a hp
  simp only[decide_eq_true_eq,A2f]at h1
  have hn:¬(((s.size+t.size:Nat):Int)>IntKind.i64.max):=by simp[IntKind.max,IntKind.signed,IntKind.bits]; omega
  refine⟨_,h2,.string (s++t),hg _,?_,[.string (s++t)],rfl,s++t,rfl,(A8s s t).symm,?_⟩
  ·simp only[binOp,Op.stringOp,if_neg hn]; rfl
  ·unfold maxLen; simp only[ByteArray.size_append]; omega
 case eql=>exact⟨_,hp,_,hg _,by simp only[binOp,Op.stringOp,B0i]; rfl,A1l⟩
 case neq=>exact⟨_,hp,_,hg _,by simp only[binOp,Op.stringOp,B0i]; rfl,A1l⟩
 case lss=>exact⟨_,hp,_,hg _,by simp only[binOp,Op.stringOp,hlt]; rfl,A1l⟩
 case leq=>exact⟨_,hp,_,hg _,by simp only[binOp,Op.stringOp,hlt,B0i]; rfl,A1l⟩
 case gtr=>exact⟨_,hp,_,hg _,by simp only[binOp,Op.stringOp,hlt,B0i]; rfl,A1l⟩
 case geq=>exact⟨_,hp,_,hg _,by simp only[binOp,Op.stringOp,hlt]; rfl,A1l⟩
 all_goals simp at hp
theorem A8G(hC:A1F P cx){op:BinOp}{T:TypeId}{s:Ty}{x y:s.den}{u v:Value}(hu:A0g w X θ (.pv s x) u)(hv:A0g w X θ (.pv s y) v)(hs:s.hasRef=false)(hT:cx.ty T=some s)
  (hni:∀k,s≠ .int k) (hns:s≠ .str) (ho:op= .eql∨op= .neq):
  B2a P w X θ op T u v (.pv .bool (if op= .eql then eqd s x y else !eqd s x y)):=by
 obtain⟨cs,h1,h2⟩:=hu
 obtain⟨ds,h3,h4⟩:=hv
 have he:=A4a P w X Op.maxDepth s (by have:=hC.high T s hT; simpa[Op.maxDepth]using this) hs T (hC.ty T s hT) x y cs ds u v h2 h4 h1 h3
 have hgt:=hC.eqg T s hT hs
 have key:(∀ c d:Operand,∀o,(eqGuard o T c d u v).run P w= .ok () w)∧(binOp .eql T u v).run P w= .ok (.bool (eqd s x y)) w∧(binOp .neq T u v).run P w= .ok (.bool (!eqd s x y)) w:=by
  cases s with
  |int k=>exact absurd rfl (hni k)
  |str=>exact absurd rfl hns
  |slice e=>simp[Ty.hasRef]at hs
  |ref e=>simp[Ty.hasRef]at hs
  |opt e=>simp[Ty.hasRef]at hs
  |fnc e=>exact(hC.ty T _ hT).elim
  |bool=>
   have hu':=A2x (w:=w) (X:=X) (θ:=θ) ⟨cs,h1,h2⟩
   have hv':=A2x (w:=w) (X:=X) (θ:=θ) ⟨ds,h3,h4⟩
   subst hu'; subst hv'
   refine⟨fun c d o=>by cases o<;>simp[eqGuard],?_,?_⟩<;>simp[binOp,Op.equal,he]
  |arr n e=>
   have hu':u= .agg cs.toArray:=by simpa[A0i,TV.isAgg,Ty.isAgg]using h1
   have hv':v= .agg ds.toArray:=by simpa[A0i,TV.isAgg,Ty.isAgg]using h3
   subst hu'; subst hv'
   refine⟨fun c d o=>run_eqGuard_agg w o T c d _ _ hgt,?_,?_⟩<;>simp[binOp,Op.equal,he]
  |unit=>
   have hu':u= .agg cs.toArray:=by simpa[A0i,TV.isAgg,Ty.isAgg]using h1
   have hv':v= .agg ds.toArray:=by simpa[A0i,TV.isAgg,Ty.isAgg]using h3
   subst hu'; subst hv'
   refine⟨fun c d o=>run_eqGuard_agg w o T c d _ _ hgt,?_,?_⟩<;>simp[binOp,Op.equal,he]
  |pair a b=>
   have hu':u= .agg cs.toArray:=by simpa[A0i,TV.isAgg,Ty.isAgg]using h1
   have hv':v= .agg ds.toArray:=by simpa[A0i,TV.isAgg,Ty.isAgg]using h3
   subst hu'; subst hv'
   refine⟨fun c d o=>run_eqGuard_agg w o T c d _ _ hgt,?_,?_⟩<;>simp[binOp,Op.equal,he]
 rcases ho with rfl|rfl
 ·exact ⟨_,fun c d=>key.1 c d _,key.2.1,by simp; exact A1l⟩
 ·exact ⟨_,fun c d=>key.1 c d _,key.2.2,by simp; exact A1l⟩
theorem B1q{xt:Option Ty}{op:BinOp}{s t:Ty}{m:s.den}{n:t.den}(h1:∀k k',¬(s= .int k∧t= .int k'))(h2:¬(s= .str∧t= .str)):
  A7e xt op (.pv s m) (.pv t n) K=if h:t=s then cond (s.hasRef|| !decide (xt=some s)) none (match op with
   | .eql=>K (.pv .bool (eqd s m (h▸n)))
   | .neq=>K (.pv .bool (!eqd s m (h▸n)))
   |_=>none)else none:=by
 cases s<;>cases t<;>first
  |rfl
  |exact absurd ⟨rfl,rfl⟩ (h1 _ _)
  |exact absurd ⟨rfl,rfl⟩ h2
theorem B1L(hC:A1F P cx)(hρ:∀x,A0g w X θ (ρ x) (a.eval x)){op:BinOp}{T U:TypeId}{x y:Operand}(hp:A0p cx h ρ (.binOp op T x y U) K=some r):∃tv,K tv=some r∧A1h P w X θ a (.binOp op T x y U) tv:=by
 have key:∃tv,K tv=some r∧B2a P w X θ op T (a.eval x) (a.eval y) tv:=by
  have hp':A7e (cx.ty T) op (ρ x) (ρ y) K=some r:=hp
  have hx:=hρ x
  have hy:=hρ y
  generalize ρ x=u at*
  generalize ρ y=v at*
  generalize a.eval x=uv at*
  generalize a.eval y=vv at*
  cases u with
  |pv s m=>
   cases v with
   |pv t n=>
    by_cases h1:∃k k',s= .int k∧t= .int k'
    ·obtain ⟨k,k',rfl,rfl⟩:=h1
     obtain⟨rfl,g1⟩:=A1t hx
     obtain⟨rfl,g2⟩:=A1t hy
     exact B4v g1 g2 hp'
    ·by_cases h2:s= .str∧t= .str
     ·obtain ⟨rfl,rfl⟩:=h2
      obtain⟨s1,rfl,rfl,g1⟩:=A4b hx
      obtain⟨s2,rfl,rfl,g2⟩:=A4b hy
      exact B4w g1 g2 hp'
     ·have h3:∃(e:t=s),cond (s.hasRef|| !decide (cx.ty T=some s)) none (match op with
        | .eql=>K (.pv .bool (eqd s m (e▸n)))
        | .neq=>K (.pv .bool (!eqd s m (e▸n)))
        |_=>none)=some r:=by
       rw[B1q (fun k k' h=>h1 ⟨k,k',h⟩) h2]at hp'
       split at hp'
       ·rename_i e; exact⟨e,hp'⟩
       ·cases hp'
      obtain⟨e,h4⟩:=h3
      subst e
      obtain⟨h5,h6⟩:=A3T h4
      simp only[Bool.or_eq_false_iff,Bool.not_eq_false',decide_eq_true_eq]at h5
      have hni:∀k,t≠ .int k:=fun k hk=>h1 ⟨k,k,hk,hk⟩
      have hns:t≠ .str:=fun hk=>h2 ⟨hk,hk⟩
      cases op<;>simp only[reduceCtorEq]at h6<;>try (cases h6; done)
      ·have:=A8G hC hx hy h5.1 h5.2 hni hns (op:= .eql) (.inl rfl); exact⟨_,h6,by simpa using this⟩
      ·have:=A8G hC hx hy h5.1 h5.2 hni hns (op:= .neq) (.inr rfl); exact⟨_,h6,by simpa using this⟩
   |_=>simp[A7e]at hp'
  |_=>simp[A7e]at hp'
 obtain⟨tv,h1,y',h2,h3,h4⟩:=key
 exact⟨tv,h1,y',fun o ho=>by simp[execOp,ho,h2,h3],h4⟩
end Go.Ai
/- Operations that hand back a value and leave memory as it was: places,parts,lengths. -/
namespace Go.Ai
open Go.RowKit
variable {P:Program} {cx:Cx} {w:World} {X:Nat→Prop} {θ:Nat→Option Own} {h:A0m} {base:Nat→Nat→Prop} {ρ:Operand→TV} {a:Act} {R:Type} {r:R} {K:TV→Option R}
theorem B3j(hρ:∀x,A0g w X θ (ρ x) (a.eval x)){op:UnOp}{T:TypeId}{x:Operand}(hp:A0p cx h ρ (.unOp op T x) K=some r):∃tv,K tv=some r∧A1h P w X θ a (.unOp op T x) tv:=by
 have hp':unK op (ρ x) K=some r:=hp
 have hx:=hρ x
 unfold unK at hp'
 split at hp'
 ·rename_i b he
  rw[he]at hx
  have hv:=A2x hx
  exact⟨_,hp',.bool (!b),fun o ho=>by simp[execOp,ho,hv,Op.unary],A1l⟩
 ·rename_i k n he
  rw[he]at hx
  obtain⟨hv,_⟩:=A1t hx
  exact⟨_,hp',.int k (k.wrap (0-n)),fun o ho=>by simp[execOp,ho,hv,Op.unary,Op.intArith],A1E (A1J _ _)⟩
 ·rename_i k n he
  rw[he]at hx
  obtain⟨hv,_⟩:=A1t hx
  refine⟨_,hp',.int k (A6l .xor k (if k.signed then -1 else k.max) n),fun o ho=> ?_,A1E (by simp only[A6l]; exact A1J _ _)⟩
  simp only[execOp,ho,hv,Op.unary,Op.intBits,A6l]
  rfl
 ·cases hp'
theorem A1Q{α:Type}{R:List Value→α→Prop}{n:Nat}(hl:∀c x,R c x→c.length=n):∀{xs:List α} {cs} (l k:Nat),A0l R cs xs→l≤k→k≤xs.length→A0l R ((cs.drop (l*n)).take ((k-l)*n)) (A3F xs l k)
 |xs,cs,0,0,hc,_,_=>by simp[A3F,A0l]
 | [],cs,l,k,hc,h1,h2=>by
  have:cs=[]:=hc
  have hk:k=0:=by simpa using h2
  subst hk; subst this
  simp[A3F,A0l]
 |x::xs,cs,0,k+1,⟨c1,c2,he,hr,hc⟩,_,h2=>by
  have ih:=A1Q hl (xs:=xs) 0 k hc (Nat.zero_le _) (by simpa using h2)
  have h1:=hl c1 x hr
  refine⟨c1,c2.take (k*n),?_,hr,by simpa[A3F]using ih⟩
  subst he
  simp only[Nat.zero_mul,List.drop_zero,Nat.sub_zero,Nat.add_mul,Nat.one_mul]
  rw[List.take_append,List.take_of_length_le (by omega)]
  congr 2
  omega
 |x::xs,cs,l+1,k,⟨c1,c2,he,hr,hc⟩,h1,h2=>by
  have ih:=A1Q hl (xs:=xs) l (k-1) hc (by omega) (by simp at h2; omega)
  have h3:=hl c1 x hr
  have e1:k-(l+1)=k-1-l:=by omega
  subst he
  rw[e1,show(l+1)*n=c1.length+l*n by rw[h3,Nat.add_mul]; omega,List.drop_append]
  simp only[Nat.le_add_right,List.drop_of_length_le,List.nil_append,Nat.add_sub_cancel_left]
  rw[show A3F (x::xs) (l+1) k=A3F xs l (k-1) by simp[A3F,e1]]
  exact ih
theorem A3b{b o:Nat}{ds:List Value}(h:w.rangeAt b o ds)(i m:Nat):w.rangeAt b (o+i) ((ds.drop i).take m):=by
 intro j v hv
 rw[List.getElem?_take]at hv
 split at hv
 ·rw [List.getElem?_drop]at hv
  have:=h (i+j) v hv
  rwa [show o+i+j=o+(i+j) by omega]
 ·cases hv
theorem A4v{i:Nat}{rt:Ty}{p:List Sel}{e:Ty}{lo hi:Nat}{v:Value}(h:A0g w X θ (.vw i rt p e lo hi) v):∃o,θ i=some o∧o.vw rt p e lo hi v:=by
 obtain⟨cs,h1,o,v',h2,h3,h4⟩:=h
 subst h4
 have:v=v':=by simpa[A0i,TV.isAgg,eq_comm]using h1
 subst this
 exact⟨o,h2,h3⟩
theorem A8m(hh:A1e w X θ base h){i:Nat}{rt:Ty}{p:List Sel}{e:Ty}{lo hi:Nat}{v:Value}{xs:List e.den}{o:Own}(ho:θ i=some o)(hv:o.vw rt p e lo hi v)(hx:A7b h i rt p e lo hi=some xs):
  ∃ad len cap ds,v= .slice ad len cap∧len=xs.length∧len≤cap∧cap≤maxLen∧A0l (Rep w X e) ds xs∧(ds=[]∨∃b q,ad=some ⟨b,q,none⟩∧w.rangeAt b q ds∧A0e θ i b)∧hi-lo=xs.length:=by
 obtain⟨hle,ad,cap,rfl,hc1,hc2,hm⟩:=hv
 unfold A7b at hx
 split at hx
 ·rename_i t c hg
  obtain⟨ht,hx2⟩:=A0a hx
  clear hx
  have ht:t=rt:=by simpa using ht
  subst ht
  split at hx2
  ·rename_i n ee ys hu
   split at hx2
   ·rename_i q; subst q
    injection hx2 with hx2; subst hx2
    obtain⟨b,C,E,e1,e2,e3,e4,e5⟩:=hh.blk i _ hg
    rw[e1]at ho; injection ho with ho; subst ho
    obtain⟨off,n',hat,hn,had⟩:=hm
    obtain⟨k1,c1,cc,c2,k2,k3,k4,k5⟩:=A4z c t p C.toList off _ _ (A3S e5 hu hat) e5 hu e4
    have hnn:n=n':=by simp[TV.fits]at k1; exact k1
    subst hnn
    obtain⟨hl,hch⟩:=k5
    have hcc:=A1Q (fun c x hx=>Rep.length _ c x hx) lo hi hch hle (by omega)
    refine⟨ad,_,cap,_,rfl,?_,hc1,hc2,hcc,?_,?_⟩
    ·simp [A3F,List.length_take,List.length_drop]; omega
    ·by_cases hnil:(cc.drop (lo*Ty.size ee)).take ((hi-lo)*Ty.size ee)=[]
     ·exact .inl hnil
     ·rcases had with had|had
      ·exact absurd (by rw[had]; simp) hnil
      ·refine .inr ⟨b,_,had,?_,by simp[A0e,e1,Own.has]⟩
       have:=A1M e3 (c1:=c1) (c:=cc) (c2:=c2) k2
       rw[k3]at this
       exact A3b this _ _
    ·simp [A3F,List.length_take,List.length_drop]; omega
   ·cases hx2
  ·cases hx2
 ·rename_i E ee ys hg
  split at hx
  ·obtain ⟨ht,hx2⟩:=A0a hx
   clear hx
   split at hx2
   ·rename_i q; subst q
    injection hx2 with hx2; subst hx2
    obtain⟨vv,ds,g1,g2,g3⟩:=hh.blk i _ hg
    rw[g1]at ho; injection ho with ho; subst ho
    obtain⟨_,_,ad0,len,cap0,hu,hlen,had⟩:=hm
    subst hu
    have hlys:len=ys.length:=by
     rcases g2.2 with⟨k1,k2⟩|⟨g,cap1,cur,k1,_⟩
     ·injection k1 with _ k1 _; omega
     ·injection k1 with _ k1 _
    subst hlys
    have hcc:=A1Q (fun c x hx=>Rep.length _ c x hx) lo hi g3 hle hlen
    refine⟨ad,_,cap,_,rfl,?_,hc1,hc2,hcc,?_,?_⟩
    ·simp [A3F,List.length_take,List.length_drop]; omega
    ·by_cases hnil:(ds.drop (lo*Ty.size ee)).take ((hi-lo)*Ty.size ee)=[]
     ·exact .inl hnil
     ·rcases had with had|⟨g,q1,q2⟩
      ·exact absurd (by rw[had]; simp) hnil
      ·subst q1
       refine .inr ⟨g,_,q2,?_,by simp[A0e,g1,Own.has,Value.ownBlock]⟩
       have hra:w.rangeAt g 0 ds:=by
        intro j u hj
        have:=A0E.cells g2 (g:=g) rfl j u hj
        simpa[Addr.add_mid]using this
       simpa using A3b hra (lo*Ty.size ee) ((hi-lo)*Ty.size ee)
    ·simp [A3F,List.length_take,List.length_drop]; omega
   ·cases hx2
  ·cases hx
 ·cases hx
theorem A7k(hh:A1e w X θ base h){i:Nat}{p:List Sel}{e e':Ty}{xs:List e.den}{cs:List Value}{X':Nat→Prop}(hp:A7I h i p e=some xs)(hX:∀b,A0e θ i b→¬X' b)(hv:RV w X θ false (.inn i p e') cs):Rep w X' (.slice e) cs xs:=by
 unfold A7I at hp
 split at hp
 ·rename_i E s ys hg
  split at hp
  ·rename_i q
   obtain⟨sk,L,v0,g1,g2,g3⟩:=hh.blk i _ hg
   obtain⟨sk2,L2,v,k1,k2,k3,k4⟩:=hv
   rw[g1]at k1; injection k1 with k1; injection k1 with k1 k1'; subst k1; subst k1'
   have hu:v0=v:=by
    obtain⟨v',_,_,m1,m2,_⟩:=g3
    simp only[List.cons.injEq,and_true]at m1
    subst m1
    have m2':sk []=some v0:=m2
    rw[k2]at m2'; injection m2' with m2'; exact m2'.symm
   subst hu
   subst k3
   have hr:=A0t.rep (X:=X') (.sl E s) _ L [v0] ys (fun b hb=>hX b (by simpa[A0e,g1,Own.has]using hb)) g3
   subst q
   injection hp with hp; subst hp
   exact hr
  ·cases hp
 ·cases hp
theorem A1q(hh:A1e w X θ base h){e:Ty}{tv:TV}{v:Value}{xs:List e.den}(hc:A0Y h e tv=some xs)(hv:A0g w X θ tv v):
  ∃ad len cap ds,v= .slice ad len cap∧len=xs.length∧len≤cap∧len≤maxLen∧A0l (Rep w X e) ds xs∧(ds=[]∨∃b o,ad=some ⟨b,o,none⟩∧w.rangeAt b o ds):=by
 unfold A0Y at hc
 split at hc
 ·rename_i s ys
  split at hc
  ·rename_i q; subst q
   injection hc with hc; subst hc
   obtain⟨cs,h1,ad,len,cap,ds,h2,h3,h4,h5,h6,h7⟩:=hv
   subst h2
   refine⟨ad,len,cap,ds,by simpa[A0i,TV.isAgg,Ty.isAgg,eq_comm]using h1,h3,h4,by omega,h6,?_⟩
   rcases h7 with h7|⟨b,o,g1,g2,_⟩
   ·exact .inl h7
   ·exact .inr ⟨b,o,g1,g2⟩
  ·cases hc
 ·rename_i i s
  split at hc
  ·rename_i E e2 ys hg
   split at hc
   ·rename_i q; subst q
    split at hc
    ·injection hc with hc; subst hc
     obtain⟨cs,h1,vv,h2,h3,h4⟩:=hv
     subst h3
     have hvv:v=vv:=by simpa[A0i,TV.isAgg,eq_comm]using h1
     subst hvv
     obtain⟨v',ds,g1,g2,g3⟩:=hh.blk i _ hg
     rw[g1]at h2; injection h2 with h2; injection h2 with h2; subst h2
     rcases g2.2 with⟨k1,k2⟩|⟨g,cap,cur,k1,k2,k3,k4,k5,k6,k7⟩
     ·subst k1
      have hn:ys=[]:=List.eq_nil_of_length_eq_zero k2
      subst hn
      have hds:ds=[]:=g3
      exact⟨none,0,0,[],rfl,rfl,Nat.le_refl _,Nat.zero_le _,rfl,.inl rfl⟩
     ·subst k1
      refine⟨_,_,cap,ds,rfl,rfl,k4,by omega,g3,.inr ⟨g,0,rfl,?_⟩⟩
      intro j u hu
      have:=A0E.cells g2 (g:=g) rfl j u hu
      simpa[Addr.add_mid]using this
    ·cases hc
   ·cases hc
  ·cases hc
 ·rename_i s ys
  split at hc
  ·rename_i q; subst q
   injection hc with hc; subst hc
   obtain⟨cs,h1,ad,len,ds,h2,h3,h4,h5,h6⟩:=hv
   subst h2
   refine⟨ad,len,len,ds,by simpa[A0i,TV.isAgg,eq_comm]using h1,h3,Nat.le_refl _,h4,h5,?_⟩
   rcases h6 with h6|⟨b,o,g1,g2,_⟩
   ·exact .inl h6
   ·exact .inr ⟨b,o,g1,g2⟩
  ·cases hc
 ·rename_i i rt p s lo hi
  split at hc
  ·rename_i q; subst q
   obtain⟨o,h1,h2⟩:=A4v hv
   obtain⟨ad,len,cap,ds,k1,k2,k3,k4,k5,k6,_⟩:=A8m hh h1 h2 hc
   refine⟨ad,len,cap,ds,k1,k2,k3,by omega,k5,?_⟩
   rcases k6 with k6|⟨b,q,k6,k7,_⟩
   ·exact .inl k6
   ·exact .inr ⟨b,q,k6,k7⟩
  ·cases hc
 ·rename_i i p s
  split at hc
  ·rename_i q
   obtain⟨q1,q2⟩:=q
   obtain⟨cs,h1,h2⟩:=hv
   obtain⟨ad,len,cap,ds,k1,k2,k3,k4,k5,k6⟩:=A7k (X':=fun _=>False) hh hc (fun _ _ h=>h) h2
   subst k1
   refine⟨ad,len,cap,ds,by simpa[A0i,TV.isAgg,eq_comm]using h1,k2,k3,by omega,A0o (fun c x hx=>A0S e q2 c x hx) k5,?_⟩
   rcases k6 with k6|⟨b,o,g1,g2,_⟩
   ·exact .inl k6
   ·exact .inr ⟨b,o,g1,g2⟩
  ·cases hc
 ·injection hc with hc; subst hc
  obtain⟨cs,h1,h2⟩:=hv
  have h2':cs=_:=h2
  subst h2'
  exact⟨none,0,0,[],by simpa[A0i,TV.isAgg,eq_comm]using h1,rfl,Nat.le_refl _,Nat.zero_le _,rfl,.inl rfl⟩
 ·cases hc
theorem B0s(s:ByteArray)(b:UInt8):A0B (s.push b)=A0B s++[(b.toNat:Int)]:=by
 unfold A0B
 simp[ByteArray.push]
theorem A6J:∀(ns:List Int) (s:ByteArray),(∀ x∈ns,0≤x∧x<256)→A0B (ns.foldl (fun r n=>r.push (UInt8.ofNat n.toNat)) s)=A0B s++ns
 | [],s,_=>by simp
 |n::ns,s,h=>by
  rw[List.foldl_cons,A6J ns _ (fun x hx=>h x (List.mem_cons_of_mem _ hx)),B0s]
  have hn:=h n (by simp)
  have:((UInt8.ofNat n.toNat).toNat:Int)=n:=by
   simp only[UInt8.toNat_ofNat']
   omega
  rw[this]
  simp
theorem A8N{w:World}{X:Nat→Prop}:∀{xs:List Int} {ds:List Value},A0l (Rep w X (.int .u8)) ds xs→ds=xs.map (Value.int .u8)∧∀x∈xs,0≤x∧x<256
 | [],ds,h=>by have:ds=[]:=h; subst this; simp
 |x::xs,ds,⟨c1,c2,h0,h1,h2⟩=>by
  obtain⟨k1,k2⟩:=A8N h2
  obtain⟨g1,g2⟩:=h1
  subst g1; subst h0; subst k1
  refine⟨rfl,fun y hy=> ?_⟩
  rcases List.mem_cons.1 hy with hy|hy
  ·subst hy
   simp[IntKind.has,IntKind.min,IntKind.max,IntKind.signed,IntKind.bits]at g2
   omega
  ·exact k2 y hy
theorem B0b(hC:A1F P cx)(hh:A1e w X θ base h)(hρ:∀x,A0g w X θ (ρ x) (a.eval x)){S D:TypeId}{x:Operand}(hp:A0p cx h ρ (.convert S D x) K=some r):∃tv,K tv=some r∧A1h P w X θ a (.convert S D x) tv:=by
 simp only[A0p]at hp
 have hx:=hρ x
 split at hp
 ·rename_i k0 k k1 n hS hD he
  rw[he]at hx
  obtain⟨hv,_⟩:=A1t hx
  have h1:=(hC.ty S _ hS).1
  have h2:=(hC.ty D _ hD).1
  exact⟨_,hp,.int k (k.wrap n),fun o ho=>by simp[execOp,ho,hv,convert,run_underlying h1,run_underlying h2,Conv.intToInt],A1E (A1J _ _)⟩
 ·rename_i n hS hD he
  rw[he]at hx
  obtain⟨s,hv,hn,hl⟩:=A4b hx
  have h1:=(hC.ty S _ hS).1
  have h2:=(hC.ty D _ hD).1
  exact⟨_,hp,.string s,fun o ho=>by simp[execOp,ho,hv,convert,run_underlying h1,run_underlying h2],[.string s],rfl,s,rfl,hn,hl⟩
 ·rename_i hS hD
  split at hp
  ·rename_i xs hc
   obtain⟨ad,len,cap,ds,hv,g1,g2,g3,g4,g5⟩:=A1q hh hc hx
   obtain⟨k1,k2⟩:=A8N g4
   have h1:=(hC.ty S _ hS).1
   have h2:=(hC.ty D _ hD).1
   obtain⟨e,e1,e2⟩:=h1
   have e2':=e2.1
   have hlen:(xs:List Int).length≤maxLen:=by omega
   have hsz:∀s:ByteArray,A0B s=xs→s.size≤maxLen:=fun s hs=>by
    have:(A0B s).length=s.size:=by unfold A0B; rw[List.length_map]; rfl
    rw[← this,hs]; exact hlen
   have hb:=A6J xs ByteArray.empty k2
   have hb':A0B (xs.foldl (fun r n=>r.push (UInt8.ofNat n.toNat)) ByteArray.empty)=xs:=by rw[hb]; rfl
   refine⟨_,hp,.string (xs.foldl (fun r n=>r.push (UInt8.ofNat n.toNat)) ByteArray.empty),fun o ho=> ?_,[.string _],rfl,_,rfl,hb'.symm,hsz _ hb'⟩
   have hrun:(Conv.bytesToString (.slice ad len cap)).run P w= .ok (.string (xs.foldl (fun r n=>r.push (UInt8.ofNat n.toNat)) ByteArray.empty)) w:=by
    cases ad with
    |none=>
     have hxs:xs=[]:=by
      rcases g5 with g5|⟨b,o,q,_⟩
      ·rw [k1]at g5; simpa using g5
      ·cases q
     subst hxs
     rfl
    |some A=>
     refine run_bytesToString w A len cap xs ?_
     rw[g1,←k1]
     have hl:(xs:List Int).length=ds.length:=by rw[k1]; simp
     rw[hl]
     refine run_loadCells_list w A ds fun j v hjv=> ?_
     rcases g5 with g5|⟨b,o,q,hra⟩
     ·subst g5; simp at hjv
     ·injection q with q; subst q
      have:=hra j v hjv
      simpa[Addr.add_mid]using this
   have hcv:(convert S D (a.eval x)).run P w= .ok (.string (xs.foldl (fun r n=>r.push (UInt8.ofNat n.toNat)) ByteArray.empty)) w:=by
    rw[hv]
    exact(run_convert_bytes_string w S D e ad len cap e1 e2' h2).trans hrun
   simp[execOp,ho,hcv]
  ·cases hp
 ·cases hp
theorem A5h{k:IntKind}{m:Int}{y:Nat}(h:0≤m∧m≤(y:Int))(code:BoundsCode):(Instr.sliceBound (.int k m) y code).run P w= .ok m.toNat w:=by
 simp[Instr.sliceBound,asIntOf,h]
theorem A7r(s:ByteArray)(l k:Nat):A0B (s.extract l k)=A3F (A0B s) l k:=by
 unfold A0B A3F
 rw[← List.map_drop,←List.map_take]
 congr 1
 simp[ByteArray.data_extract,List.extract]
theorem A2C{n:Nat}{lo hi:Option TV}{lv hv:Option Value}{K:Nat→Nat→Option R}(hlo:match lo,lv with|some t,some v=>A0g w X θ t v|none,none=>True|_,_=>False)(hhi:match hi,hv with|some t,some v=>A0g w X θ t v|none,none=>True|_,_=>False)
  (hp:A0V n lo hi K=some r):∃l k,K l k=some r∧l≤k∧k≤n∧∀(isS:Bool) (cap:Nat),n≤cap→(isS=false→cap=n)→(Instr.sliceBounds isS n cap lv hv none).run P w= .ok (l,k,cap) w:=by
 unfold A0V at hp
 have num:∀{t:TV} {v:Value} {K':Int→Option R},A0g w X θ t v→A4p t K'=some r→∃k m,v= .int k m∧K' m=some r:=by
  intro t v K' ht hk
  unfold A4p at hk
  split at hk
  ·obtain ⟨h1,_⟩:=A1t ht; exact⟨_,_,h1,hk⟩
  ·cases hk
 cases hi with
 |some t=>
  cases hv with
  |none=>exact hhi.elim
  |some v=>
   obtain⟨k,m,rfl,h1⟩:=num hhi hp
   obtain⟨h2,h3⟩:=A0a h1
   simp only[Bool.and_eq_true,decide_eq_true_eq]at h2
   cases lo with
   |some u=>
    cases lv with
    |none=>exact hlo.elim
    |some lv=>
     obtain⟨k2,m2,rfl,h4⟩:=num hlo h3
     obtain⟨h5,h6⟩:=A0a h4
     simp only[Bool.and_eq_true,decide_eq_true_eq]at h5
     refine⟨_,_,h6,by omega,by omega,fun isS cap hc hcs=> ?_⟩
     have e1:0≤m∧m≤(cap:Int):=by omega
     have e2:0≤m2∧m2≤(m.toNat:Int):=by omega
     simp[Instr.sliceBounds,A5h e1,A5h e2]
   |none=>
    cases lv with
    |some _=>exact hlo.elim
    |none=>
     refine⟨_,_,h3,by omega,by omega,fun isS cap hc hcs=> ?_⟩
     have e1:0≤m∧m≤(cap:Int):=by omega
     simp[Instr.sliceBounds,A5h e1]
 |none=>
  cases hv with
  |some _=>exact hhi.elim
  |none=>
   cases lo with
   |some u=>
    cases lv with
    |none=>exact hlo.elim
    |some lv=>
     obtain⟨k2,m2,rfl,h4⟩:=num hlo hp
     obtain⟨h5,h6⟩:=A0a h4
     simp only[Bool.and_eq_true,decide_eq_true_eq]at h5
     refine⟨_,_,h6,by omega,Nat.le_refl _,fun isS cap hc hcs=> ?_⟩
     have e2:0≤m2∧m2≤(n:Int):=by omega
     simp[Instr.sliceBounds,A5h e2]
   |none=>
    cases lv with
    |some _=>exact hlo.elim
    |none=>exact⟨_,_,hp,by omega,Nat.le_refl _,fun isS cap hc hcs=>by simp[Instr.sliceBounds]⟩
theorem B1P(hC:A1F P cx)(hh:A1e w X θ base h)(hρ:∀x,A0g w X θ (ρ x) (a.eval x)){T:TypeId}{x:Operand}{lo hi mx:Option Operand}(hp:A0p cx h ρ (.slice T x lo hi mx) K=some r):∃tv,K tv=some r∧A1h P w X θ a (.slice T x lo hi mx) tv:=by
 cases mx with
 |some m=>simp[A0p]at hp
 |none=>
  simp only[A0p]at hp
  have hx:=hρ x
  have opt:∀q:Option Operand,match A4U ρ q,q.map a.eval with|some t,some v=>A0g w X θ t v|none,none=>True|_,_=>False:=by intro q; cases q with|none=>trivial|some q=>exact hρ q
  split at hp
  ·rename_i i rt p he
   rw[he]at hx
   obtain⟨o,b,off,s0,q1,q2,q3,q4,hv⟩:=A3A hx
   split at hp
   ·rename_i t0 c0 n e hg hsub
    obtain⟨hT,hb⟩:=A0a hp
    simp only[Bool.and_eq_true,decide_eq_true_eq]at hT
    obtain⟨hT,hn⟩:=hT
    have hn:=Nat.le_of_ble_eq_true hn
    obtain⟨b',C,E,e1,e2,e3,e4,e5⟩:=hh.blk i _ hg
    rw[e1]at q1; injection q1 with q1; subst q1
    simp only[Own.base,Option.some.injEq]at q2; subst q2
    have hs0:s0= .arr n e:=by rw[A3c q3]at hsub; injection hsub
    subst hs0
    obtain⟨l,k,h1,h2,h3,h4⟩:=A2C (P:=P) (opt lo) (opt hi) hb
    obtain⟨⟨E2,hu,hE⟩,_⟩:=hC.ty T _ hT
    have hsz:=A0u.size e E2 hE
    unfold Program.hasSize at hsz
    cases hq:P.info? E2 with
    |none=>simp[hq]at hsz
    |some inf=>
     have hi':inf.size=e.size:=by simpa[hq]using hsz
     have hb4:=h4 false n (Nat.le_refl _) (fun _=>rfl)
     refine⟨_,h1,.slice (some (if n=l then(⟨b',off,none⟩:Addr)else(⟨b',off,none⟩:Addr).add (l*e.size))) (k-l) (n-l),fun o ho=> ?_,[_],rfl,_,_,e1,⟨h2,_,_,rfl,by omega,by unfold maxLen; omega,off,n,q3,h3,?_⟩,rfl⟩
     ·simp [execOp,ho,hv,Instr.sliceAt,run_underlying hu,Instr.sureAddr,hb4,sizeOf,typeInfo,hq,hi']
     ·by_cases hnl:n=l
      ·exact .inl (by omega)
      ·rw [if_neg hnl]; exact .inr (by rw[Addr.add_mid])
   ·cases hp
  ·rename_i i e he
   rw[he]at hx
   split at hp
   ·rename_i E0 s xs hg
    obtain⟨hT,hb⟩:=A0a hp
    simp only[Bool.and_eq_true,decide_eq_true_eq]at hT
    obtain⟨rfl,hT⟩:=hT
    obtain⟨cs,g1,vv,g2,g3,g4⟩:=hx
    subst g3
    have hv:a.eval x=vv:=by simpa[A0i,TV.isAgg,eq_comm]using g1
    obtain⟨v',ds,k1,k2,k3⟩:=hh.blk i _ hg
    rw[k1]at g2; injection g2 with g2; injection g2 with g2; subst g2
    obtain⟨l,k,h1,h2,h3,h4⟩:=A2C (P:=P) (opt lo) (opt hi) hb
    obtain⟨⟨E2,hu,hE⟩,_⟩:=hC.ty T _ hT
    have hsz:=A0u.size s E2 hE
    unfold Program.hasSize at hsz
    cases hq:P.info? E2 with
    |none=>simp[hq]at hsz
    |some inf=>
     have hi':inf.size=s.size:=by simpa[hq]using hsz
     rcases k2.2 with⟨m1,m2⟩|⟨g,cap,cur,m1,m2,m3,m4,m5,_⟩
     ·subst m1
      rw[m2]at h3
      have hb4:=h4 true 0 (by omega) (by simp)
      rw[m2]at hb4
      refine⟨_,h1,.slice none (k-l) (0-l),fun o ho=> ?_,[_],rfl,_,_,k1,⟨h2,_,_,rfl,by omega,by omega,rfl,rfl,none,0,0,rfl,h3,.inl (by omega),fun _=>⟨rfl,by omega⟩⟩,rfl⟩
      simp[execOp,ho,hv,Instr.sliceAt,Instr.slice,run_underlying hu,hb4,sizeOf,typeInfo,hq,hi']
     ·subst m1
      have hb4:=h4 true cap m4 (by simp)
      refine⟨_,h1,.slice (if cap=l then some ⟨g,0,none⟩else(some (⟨g,0,none⟩:Addr)).map (·.add (l*s.size))) (k-l) (cap-l),fun o ho=> ?_,[_],rfl,_,_,k1,⟨h2,_,_,rfl,by omega,by omega,rfl,rfl,some ⟨g,0,none⟩,xs.length,cap,rfl,h3,?_⟩,rfl⟩
      ·simp [execOp,ho,hv,Instr.sliceAt,Instr.slice,run_underlying hu,hb4,sizeOf,typeInfo,hq,hi']
      ·refine ⟨?_,fun hl0=>⟨by rw[hl0]; split<;>simp[Addr.add_mid],by omega⟩⟩
       by_cases hnl:cap=l
       ·exact .inl (by omega)
       ·rw [if_neg hnl]; exact .inr ⟨g,rfl,by simp[Addr.add_mid]⟩
   ·cases hp
  ·rename_i i rt p e lo0 hi0 he
   rw[he]at hx
   obtain⟨hT,hb⟩:=A0a hp
   have hT:cx.ty T=some (.slice e):=by simpa using hT
   obtain⟨o,q1,q2,ad,cap,hv,q3,q4,q5⟩:=A4v hx
   obtain⟨l,k,h1,h2,h3,h4⟩:=A2C (P:=P) (opt lo) (opt hi) hb
   obtain⟨⟨E2,hu,hE⟩,_⟩:=hC.ty T _ hT
   have hsz:=A0u.size e E2 hE
   unfold Program.hasSize at hsz
   cases hq:P.info? E2 with
   |none=>simp[hq]at hsz
   |some inf=>
    have hi':inf.size=e.size:=by simpa[hq]using hsz
    have hb4:=h4 true cap q3 (by simp)
    have hlen:lo0+k-(lo0+l)=k-l:=by omega
    refine⟨_,h1,.slice (if cap=l then ad else ad.map (·.add (l*e.size))) (k-l) (cap-l),fun o ho=> ?_,[_],rfl,o,_,q1,⟨by omega,_,_,by rw[hlen],by omega,by omega,?_⟩,rfl⟩
    ·simp [execOp,ho,hv,Instr.sliceAt,Instr.slice,run_underlying hu,hb4,sizeOf,typeInfo,hq,hi']
    ·have hadd:∀(g o:Nat),(⟨g,o+lo0*e.size,none⟩:Addr).add (l*e.size)=⟨g,o+(lo0+l)*e.size,none⟩:=by intro g o; rw[Addr.add_mid,Nat.add_mul]; congr 1; omega
     cases o with
     |var b=>
      obtain⟨off,n,m1,m2,m3⟩:=q5
      refine⟨off,n,m1,by omega,?_⟩
      by_cases hkl:k=l
      ·exact .inl (by omega)
      ·have hne:cap≠l:=by omega
       rw[if_neg hne]
       rcases m3 with m3|m3
       ·exact .inl (by omega)
       ·exact .inr (by rw[m3]; simp[hadd])
     |tre sk L=>exact q5.elim
     |arr u=>
      obtain⟨m1,m2,ad0,len,cap0,m3,m4,m5,m7⟩:=q5
      refine⟨m1,m2,ad0,len,cap0,m3,by omega,?_,fun hl0=> ?_⟩
      ·by_cases hkl:k=l
       ·exact .inl (by omega)
       ·have hne:cap≠l:=by omega
        rw[if_neg hne]
        rcases m5 with m5|⟨g,m5,m6⟩
        ·exact .inl (by omega)
        ·refine .inr ⟨g,m5,?_⟩
         have:=hadd g 0
         simp only[Nat.zero_add]at this
         rw[m6]; simp[this]
      ·obtain ⟨m8,m9⟩:=m7 (by omega)
       have hl:l=0:=by omega
       subst hl
       refine⟨?_,by omega⟩
       rw[← m8]
       split
       ·rfl
       ·cases ad with
        |none=>rfl
        |some ad=>simp[Addr.add]
  ·rename_i xs he
   rw[he]at hx
   obtain⟨hT,hb⟩:=A0a hp
   have hT':cx.ty T=some .str:=by simpa using hT
   obtain⟨s,hv,hn,hl⟩:=A4b hx
   subst hn
   rw[A2f]at hb
   obtain⟨l,k,h1,h2,h3,h4⟩:=A2C (P:=P) (opt lo) (opt hi) hb
   have hu:=(hC.ty T _ hT').1
   refine⟨_,h1,.string (s.extract l k),fun o ho=> ?_,[.string (s.extract l k)],rfl,s.extract l k,rfl,?_,?_⟩
   ·have:=h4 false s.size (Nat.le_refl _) (fun _=>rfl)
    simp[execOp,ho,hv,Instr.sliceAt,Instr.slice,run_underlying hu,this]
   ·exact (A7r s l k).symm
   ·have:(s.extract l k).size≤s.size:=by simp[ByteArray.size_extract]; omega
    omega
  ·rename_i e xs he
   rw[he]at hx
   obtain⟨hT,hb⟩:=A0a hp
   have hT':cx.ty T=some (.slice e):=by simpa using hT
   obtain⟨cs,g1,ad,len,cap,ds,g2,g3,g4,g5,g6,g7⟩:=hx
   subst g2
   have hv:a.eval x= .slice ad len cap:=by simpa[A0i,TV.isAgg,Ty.isAgg,eq_comm]using g1
   obtain⟨l,k,h1,h2,h3,h4⟩:=A2C (P:=P) (opt lo) (opt hi) hb
   obtain⟨⟨E,hu,hE⟩,_⟩:=hC.ty T _ hT'
   have hsz:=A0u.size e E hE
   unfold Program.hasSize at hsz
   cases hq:P.info? E with
   |none=>simp[hq]at hsz
   |some i=>
    have hi:i.size=e.size:=by simpa[hq]using hsz
    have hb4:=h4 true cap (by omega) (by simp)
    rw[← g3]at hb4
    refine⟨_,h1,.slice (if cap=l then ad else ad.map (·.add (l*e.size))) (k-l) (cap-l),fun o ho=> ?_,?_⟩
    ·simp [execOp,ho,hv,Instr.sliceAt,Instr.slice,run_underlying hu,hb4,sizeOf,typeInfo,hq,hi]
    ·have hcc:=A1Q (fun c x hx=>Rep.length e c x hx) l k g6 h2 h3
     refine⟨_,rfl,_,_,_,(ds.drop (l*e.size)).take ((k-l)*e.size),rfl,?_,by omega,by omega,hcc,?_⟩
     ·simp [A3F,List.length_take,List.length_drop]; omega
     ·by_cases hnil:(ds.drop (l*e.size)).take ((k-l)*e.size)=[]
      ·exact .inl hnil
      ·rcases g7 with g7|⟨b,o,q1,q2,q3⟩
       ·exact .inl (by rw[g7]; simp)
       ·refine .inr ⟨b,o+l*e.size,?_,A3b q2 _ _,q3⟩
        have hne:cap≠l:=by
         intro hc
         apply hnil
         have:k-l=0:=by omega
         rw[this]; simp
        rw[if_neg hne,q1]
        simp[Addr.add_mid]
  ·cases hp
end Go.Ai
/- Operations that hand back a value and leave memory as it was: addresses of parts,tuples,functions. -/
namespace Go.Ai
open Go.RowKit
variable {P:Program} {cx:Cx} {w:World} {X:Nat→Prop} {θ:Nat→Option Own} {h:A0m} {base:Nat→Nat→Prop} {ρ:Operand→TV} {a:Act} {R:Type} {r:R} {K:TV→Option R}
theorem B2S:(t:Ty)→(off:Nat)→(fs:List Field)→(f:Nat)→(o2:Nat)→(q:Ty)→(A0u P t).2 off fs→t.at [.fld f]=some (o2,q)→
  ∃fd,fs[f]? =some fd∧fd.offset=off+o2∧(A0u P q).1 fd.type:=by
 intro t
 induction t with
 |pair a b iha ihb=>
  intro off fs f o2 q hf ha
  obtain⟨fd,r,rfl,ho,hn,h1,h2⟩:=hf
  cases f with
  |zero=>
   simp only[Ty.at,Ty.at_nil,Option.some.injEq,Prod.mk.injEq]at ha
   obtain⟨rfl,rfl⟩:=ha
   exact⟨fd,rfl,by simpa using ho,h1⟩
  |succ f=>
   simp only[Ty.at]at ha
   cases hq:b.at [.fld f]with
   |none=>simp[hq]at ha
   |some z=>
    obtain⟨o3,q3⟩:=z
    simp only[hq,Option.map_some,Option.some.injEq,Prod.mk.injEq]at ha
    obtain⟨rfl,rfl⟩:=ha
    obtain⟨g,g1,g2,g3⟩:=ihb (off+a.size) r f o3 q3 h2 hq
    exact⟨g,by simpa using g1,by omega,g3⟩
 |_=>intro off fs f o2 q hf ha; simp[Ty.at]at ha
theorem A4w{s:Ty}{T:TypeId}(hT:(A0u P s).1 T){f o2:Nat}{q:Ty}(ha:s.at [.fld f]=some (o2,q)):
  ∃fs:Array Field,P.underlying T=some (.struct fs)∧∃fd,fs[f]? =some fd∧fd.offset=o2∧(A0u P q).1 fd.type:=by
 cases s with
 |pair a b=>
  obtain⟨⟨fs,h1,fd,r,h2,ho,hn,h3,h4⟩,_⟩:=hT
  have h5:(A0u P (.pair a b)).2 0 fs.toList:=⟨fd,r,h2,ho,hn,h3,by simpa using h4⟩
  obtain⟨g,g1,g2,g3⟩:=B2S _ 0 fs.toList f o2 q h5 ha
  exact⟨fs,h1,g,by rw[← Array.getElem?_toList]; exact g1,by omega,g3⟩
 |_=>simp[Ty.at]at ha
theorem A8F:(t:Ty)→(p q:List Sel)→(o1 o2:Nat)→(s u:Ty)→t.at p=some (o1,s)→s.at q=some (o2,u)→t.at (p++q)=some (o1+o2,u):=by
 intro t
 induction t with
 |pair a b iha ihb=>
  intro p q o1 o2 s u h1 h2
  cases p with
  |nil=>rw[Ty.at_nil]at h1; simp only[Option.some.injEq,Prod.mk.injEq]at h1; obtain⟨rfl,rfl⟩:=h1; simpa using h2
  |cons x p=>
   cases x with
   |idx k=>simp[Ty.at]at h1
   |fld n=>
    cases n with
    |zero=>simp only[Ty.at,List.cons_append]at h1 ⊢; exact iha p q o1 o2 s u h1 h2
    |succ n=>
     simp only[Ty.at,List.cons_append]at h1⊢
     cases hq:b.at (.fld n::p)with
     |none=>simp[hq]at h1
     |some z=>
      obtain⟨o3,s3⟩:=z
      simp only[hq,Option.map_some,Option.some.injEq,Prod.mk.injEq]at h1
      obtain⟨rfl,rfl⟩:=h1
      have:=ihb (.fld n::p) q o3 o2 s3 u hq h2
      rw[List.cons_append]at this
      rw[this]; simp; omega
 |arr n e ih=>
  intro p q o1 o2 s u h1 h2
  cases p with
  |nil=>rw[Ty.at_nil]at h1; simp only[Option.some.injEq,Prod.mk.injEq]at h1; obtain⟨rfl,rfl⟩:=h1; simpa using h2
  |cons x p=>
   cases x with
   |fld n=>simp[Ty.at]at h1
   |idx k=>
    simp only[Ty.at,List.cons_append]at h1⊢
    split at h1
    ·rename_i hk
     rw[if_pos hk]
     cases hq:e.at p with
     |none=>simp[hq]at h1
     |some z=>
      obtain⟨o3,s3⟩:=z
      simp only[hq,Option.map_some,Option.some.injEq,Prod.mk.injEq]at h1
      obtain⟨rfl,rfl⟩:=h1
      rw[ih p q o3 o2 s3 u hq h2]; simp; omega
    ·cases h1
 |_=>
  intro p q o1 o2 s u h1 h2
  cases p with
  |nil=>rw[Ty.at_nil]at h1; simp only[Option.some.injEq,Prod.mk.injEq]at h1; obtain⟨rfl,rfl⟩:=h1; simpa using h2
  |cons x p=>simp[Ty.at]at h1
theorem A5H{t:Ty}{p q:List Sel}{o1 o2:Nat}{s u:Ty}(hq:q≠ [])(h1:t.rat p=some (o1,s))(h2:s.at q=some (o2,u)):t.rat (p++q)=some (o1+o2,u):=by
 cases t with
 |slice e=>
  cases p with
  |nil=>
   have h1':(Ty.slice e).at []=some (o1,s):=h1
   rw[Ty.at_nil]at h1'
   simp only[Option.some.injEq,Prod.mk.injEq]at h1'
   obtain⟨_,rfl⟩:=h1'
   cases q with
   |nil=>exact absurd rfl hq
   |cons x q=>simp[Ty.at]at h2
  |cons x p=>
   cases x with
   |fld n=>simp[Ty.rat,Ty.at]at h1
   |idx k=>
    simp only[Ty.rat,List.cons_append]at h1⊢
    cases hz:e.at p with
    |none=>simp[hz]at h1
    |some z=>
     obtain⟨o3,s3⟩:=z
     simp only[hz,Option.map_some,Option.some.injEq,Prod.mk.injEq]at h1
     obtain⟨rfl,rfl⟩:=h1
     rw[A8F e p q o3 o2 s3 u hz h2]; simp; omega
 |_=>exact A8F _ p q o1 o2 s u h1 h2
theorem A5F{o:Own}{p:List Sel}(q:List Sel)(h:o.okp p):o.okp (p++q):=by
 cases o with
 |var b=>trivial
 |arr v=>
  cases v with
  |slice b n c=>cases p with
   |nil=>simp[Own.okp]at h
   |cons x p=>cases x<;>simp[Own.okp]at h ⊢; exact h
  |_=>simp[Own.okp]at h
 |tre sk L=>cases p with
  |nil=>simp[Own.okp]at h
  |cons x p=>cases x<;>simp[Own.okp]at h ⊢; exact h
theorem B0A:(s:Ty)→(y:s.den)→(f:Nat)→(q:(u:Ty)×u.den)→Ai.getP s y [.fld f]=some q→∃o2,s.at [.fld f]=some (o2,q.1):=by
 intro s
 induction s with
 |pair a b iha ihb=>
  intro y f q h
  cases f with
  |zero=>
   have:Ai.getP a y.1 []=some q:=h
   have h2:Ai.getP a y.1 []=some ⟨a,y.1⟩:=by cases a<;>rfl
   rw[h2]at this; injection this with this; subst this
   exact⟨0,by simp[Ty.at,Ty.at_nil]⟩
  |succ f=>
   have:Ai.getP b y.2 [.fld f]=some q:=h
   obtain⟨o2,ho⟩:=ihb y.2 f q this
   exact⟨a.size+o2,by simp[Ty.at,ho]⟩
 |_=>intro y f q h; simp[Ai.getP]at h
theorem A7a{T:TypeId}{fs:Array Field}{fd:Field}{f b o:Nat}{q:Ty}(hu:P.underlying T=some (.struct fs))(hf:fs[f]? =some fd)(hq:(A0u P q).1 fd.type)(hs:q.size≠0):
  (Instr.fieldAt T (.pointer (some ⟨b,o,none⟩)) f).run P w= .ok (.pointer (some ⟨b,o+fd.offset,none⟩)) w:=by
 have hsz:=A0u.size q _ hq
 unfold Program.hasSize at hsz
 cases hi:P.info? fd.type with
 |none=>simp[hi]at hsz
 |some i=>
  have:i.size=q.size:=by simpa[hi]using hsz
  simp[Instr.fieldAt,run_underlying hu,hf,Instr.sureAddr,fieldPlace,sizeOf,typeInfo,hi,this,hs,Addr.add_mid]
theorem A7W(hC:A1F P cx)(hρ:∀x,A0g w X θ (ρ x) (a.eval x)){T:TypeId}{x:Operand}{f:Nat}(hp:A0p cx h ρ (.fieldAddr T x f) K=some r):∃tv,K tv=some r∧A1h P w X θ a (.fieldAddr T x f) tv:=by
 simp only[A0p]at hp
 have hx:=hρ x
 split at hp
 ·rename_i i t p he
  rw[he]at hx
  obtain⟨o,b,off,s0,q1,q2,q3,q4,hv⟩:=A3A hx
  split at hp
  ·rename_i s hT
   obtain⟨h1,h2⟩:=A0a hp
   have h1':t.rsub p=some s:=by simpa using h1
   have hs0:s0=s:=by rw[A3c q3]at h1'; injection h1'
   subst hs0
   split at h2
   ·rename_i q hq
    obtain⟨h3,h4⟩:=A0a h2
    have hne:q.2.size≠0:=by have:=Nat.le_of_ble_eq_true h3; omega
    obtain⟨o2,qt⟩:=q
    obtain⟨fs,u1,fd,u2,u3,u4⟩:=A4w (hC.ty T _ hT) hq
    refine⟨_,h4,.pointer (some ⟨b,off+o2,none⟩),fun op ho=> ?_,?_⟩
    ·have:=A7a (w:=w) (b:=b) (o:=off) u1 u2 u4 hne
     rw[u3]at this
     simp[execOp,ho,hv,this]
    ·exact ⟨_,rfl,o,b,off+o2,qt,q1,q2,A5H (by simp) q3 hq,A5F _ q4,rfl⟩
   ·cases h2
  ·cases hp
 ·rename_i s y he
  rw[he]at hx
  obtain⟨b,o,ds,hv,hr,hra,hX⟩:=A6b hx
  obtain⟨h1,h2⟩:=A0a hp
  have hT:cx.ty T=some s:=by simpa using h1
  split at h2
  ·rename_i q hq
   obtain⟨h3,h4⟩:=A0a h2
   have hne:q.1.size≠0:=by have:=Nat.le_of_ble_eq_true h3; omega
   obtain⟨o2,ha⟩:=B0A s y f q hq
   obtain⟨y',g1,c1,c,c2,g2,g3,g4,_⟩:=A2E s y [.fld f] ds o2 q.1 ha hr
   rw[hq]at g1
   have hy:q=⟨q.1,y'⟩:=by injection g1
   obtain⟨fs,u1,fd,u2,u3,u4⟩:=A4w (hC.ty T _ hT) ha
   refine⟨_,h4,.pointer (some ⟨b,o+o2,none⟩),fun op ho=> ?_,?_⟩
   ·have:=A7a (w:=w) (b:=b) (o:=o) u1 u2 u4 hne
    rw[u3]at this
    simp[execOp,ho,hv,this]
   ·rw [hy]
    have hl:=Rep.length q.1 c y' g4
    refine A9X (ds:=c) g4 ?_ (fun _=>hX ?_)
    ·intro j v hj
     have hlt:=(List.getElem?_eq_some_iff.1 hj).1
     have:=hra (o2+j) v (by rw[g2,List.getElem?_append_right (by omega),List.getElem?_append_left (by omega)]; rw[show o2+j-c1.length=j by omega]; exact hj)
     rwa [show o+o2+j=o+(o2+j) by omega]
    ·intro hd
     rw[hd]at g2
     have:=congrArg List.length g2
     simp at this
     omega
  ·cases h2
 ·cases hp
theorem A1W{i:Int}{n:Nat}{K:Nat→Option R}(hp:A6t i n K=some r):(0≤i∧i<(n:Int))∧K i.toNat=some r:=by
 obtain⟨h1,h2⟩:=A0a hp
 simp only[Bool.and_eq_true,decide_eq_true_eq]at h1
 exact⟨h1,h2⟩
theorem A9n{t:TV}{v:Value}{K:Int→Option R}(ht:A0g w X θ t v)(hp:A4p t K=some r):∃k m,v= .int k m∧K m=some r:=by
 unfold A4p at hp
 split at hp
 ·obtain ⟨h1,_⟩:=A1t ht; exact⟨_,_,h1,hp⟩
 ·cases hp
theorem B0y{e:Ty}{xs:List e.den}{ds:List Value}{b o:Nat}(hc:A0l (Rep w X e) ds xs)(hr:w.rangeAt b o ds){k:Nat}(hk:k<xs.length)(hX:ds≠ []→¬X b)(he:e.size≠0):
  A0g w X θ (.pv (.ref e) (xs.getD k e.zero)) (.pointer (some ⟨b,o+k*e.size,none⟩)):=by
 obtain⟨c1,c,c2,h1,h2,h3,_⟩:=A1C (fun c x hx=>Rep.length e c x hx) e.zero k hc hk
 have hl:=Rep.length e c _ h3
 refine A9X h3 ?_ (fun _=>hX ?_)
 ·intro j v hj
  have hlt:=(List.getElem?_eq_some_iff.1 hj).1
  have:=hr (k*e.size+j) v (by rw[h1,List.getElem?_append_right (by omega),List.getElem?_append_left (by omega)]; rw[show k*e.size+j-c1.length=j by omega]; exact hj)
  rwa [show o+k*e.size+j=o+(k*e.size+j) by omega]
 ·intro hd
  have:=congrArg List.length h1
  rw[hd]at this
  simp at this
  omega
theorem A1s{T E:TypeId}{e:Ty}{b o len cap:Nat}{kk:IntKind}{i:Int}(hu:P.underlying T=some (.slice E))(hE:(A0u P e).1 E)(hi:0≤i∧i<(len:Int)):
  (Instr.indexAt T (.slice (some ⟨b,o,none⟩) len cap) (.int kk i)).run P w= .ok (.pointer (some ⟨b,o+i.toNat*e.size,none⟩)) w:=by
 have hsz:=A0u.size e E hE
 unfold Program.hasSize at hsz
 cases hq:P.info? E with
 |none=>simp[hq]at hsz
 |some inf=>
  have:inf.size=e.size:=by simpa[hq]using hsz
  simp[Instr.indexAt,run_underlying hu,asIntOf,hi,sizeOf,typeInfo,hq,this,Addr.add_mid]
theorem A4V{T E:TypeId}{e:Ty}{b o n:Nat}{kk:IntKind}{i:Int}(hu:P.underlying T=some (.array n E))(hE:(A0u P e).1 E)(hi:0≤i∧i<(n:Int)):
  (Instr.indexAt T (.pointer (some ⟨b,o,none⟩)) (.int kk i)).run P w= .ok (.pointer (some ⟨b,o+i.toNat*e.size,none⟩)) w:=by
 have hsz:=A0u.size e E hE
 unfold Program.hasSize at hsz
 cases hq:P.info? E with
 |none=>simp[hq]at hsz
 |some inf=>
  have:inf.size=e.size:=by simpa[hq]using hsz
  simp[Instr.indexAt,run_underlying hu,asIntOf,hi,sizeOf,typeInfo,hq,this,Addr.add_mid,Instr.sureAddr]
theorem A7X(hC:A1F P cx)(hh:A1e w X θ base h)(hρ:∀x,A0g w X θ (ρ x) (a.eval x)){T:TypeId}{x ix:Operand}(hp:A0p cx h ρ (.indexAddr T x ix) K=some r):∃tv,K tv=some r∧A1h P w X θ a (.indexAddr T x ix) tv:=by
 simp only[A0p]at hp
 have hx:=hρ x
 obtain⟨kk,i,hiv,hp⟩:=A9n (hρ ix) hp
 split at hp
 ·rename_i e xs he
  rw[he]at hx
  obtain⟨h1,h2⟩:=A0a hp
  simp only[Bool.and_eq_true,decide_eq_true_eq]at h1
  have hne:e.size≠0:=by have:=Nat.le_of_ble_eq_true h1.2; omega
  obtain⟨h3,h4⟩:=A1W h2
  obtain⟨⟨E,hu,hE⟩,_⟩:=hC.ty T _ h1.1
  obtain⟨cs,g1,ad,len,cap,ds,g2,g3,g4,g5,g6,g7⟩:=hx
  subst g2
  have hv:a.eval x= .slice ad len cap:=by simpa[A0i,TV.isAgg,Ty.isAgg,eq_comm]using g1
  have hk:i.toNat<xs.length:=by omega
  rcases g7 with g7|⟨b,o,q1,q2,q3⟩
  ·subst g7
   have:=A0s (fun c x hx=>Rep.length e c x hx) g6
   have:xs.length*e.size=0:=by simpa using this.symm
   rcases Nat.mul_eq_zero.1 this with h|h
   ·omega
   ·exact absurd h hne
  ·subst q1
   refine⟨_,h4,_,fun op ho=> ?_,B0y g6 q2 hk (fun _=>q3) hne⟩
   have:=A1s (w:=w) (b:=b) (o:=o) (len:=len) (cap:=cap) (kk:=kk) hu hE (i:=i) (by omega)
   simp[execOp,ho,hv,hiv,this]
 ·rename_i e xs he
  rw[he]at hx
  obtain⟨h1,h2⟩:=A0a hp
  simp only[Bool.and_eq_true,decide_eq_true_eq]at h1
  have hne:e.size≠0:=by have:=Nat.le_of_ble_eq_true h1.2; omega
  obtain⟨h3,h4⟩:=A1W h2
  obtain⟨⟨E,hu,hE⟩,_⟩:=hC.ty T _ h1.1
  obtain⟨cs,g1,ad,len,ds,g2,g3,g5,g6,g7⟩:=hx
  subst g2
  have hv:a.eval x= .slice ad len len:=by simpa[A0i,TV.isAgg,eq_comm]using g1
  have hk:i.toNat<xs.length:=by omega
  rcases g7 with g7|⟨b,o,q1,q2,q3⟩
  ·subst g7
   have:=A0s (fun c x hx=>Rep.length e c x hx) g6
   have:xs.length*e.size=0:=by simpa using this.symm
   rcases Nat.mul_eq_zero.1 this with h|h
   ·omega
   ·exact absurd h hne
  ·subst q1
   refine⟨_,h4,_,fun op ho=> ?_,B0y g6 q2 hk (fun _=>q3) hne⟩
   have:=A1s (w:=w) (b:=b) (o:=o) (len:=len) (cap:=len) (kk:=kk) hu hE (i:=i) (by omega)
   simp[execOp,ho,hv,hiv,this]
 ·rename_i j e he
  rw[he]at hx
  split at hp
  ·rename_i E0 s xs hg
   obtain⟨h1,h2⟩:=A0a hp
   simp only[Bool.and_eq_true,decide_eq_true_eq]at h1
   obtain⟨⟨rfl,h1a⟩,h1b⟩:=h1
   have hne:s.size≠0:=by have:=Nat.le_of_ble_eq_true h1b; omega
   obtain⟨h3,h4⟩:=A1W h2
   obtain⟨⟨E,hu,hE⟩,_⟩:=hC.ty T _ h1a
   obtain⟨cs,g1,vv,g2,g3,g4⟩:=hx
   subst g3
   have hv:a.eval x=vv:=by simpa[A0i,TV.isAgg,eq_comm]using g1
   obtain⟨v',ds,k1,k2,k3⟩:=hh.blk j _ hg
   rw[k1]at g2; injection g2 with g2; injection g2 with g2; subst g2
   have hk:i.toNat<xs.length:=by omega
   rcases k2.2 with⟨z1,z2⟩|⟨g,cap,cur,z1,z2,z3,z4,z5,z6,z7⟩
   ·omega
   ·subst z1
    refine⟨_,h4,.pointer (some ⟨g,0+i.toNat*s.size,none⟩),fun op ho=> ?_,?_⟩
    ·have:=A1s (w:=w) (b:=g) (o:=0) (len:=xs.length) (cap:=cap) (kk:=kk) hu hE (i:=i) h3
     simp only[execOp,ho,hv,hiv,this,Sem.run_bind,Result.andThen_ok,Sem.run_pure]
    ·exact ⟨_,rfl,_,g,0+i.toNat*s.size,s,k1,rfl,by simp[Ty.rat,Ty.at_nil],hk,rfl⟩
  ·cases hp
 ·rename_i j e he
  rw[he]at hx
  split at hp
  ·rename_i E0 s xs hg
   obtain⟨h1,h2⟩:=A0a hp
   simp only[Bool.and_eq_true,decide_eq_true_eq]at h1
   obtain⟨⟨rfl,h1a⟩,h1b⟩:=h1
   have hne:s.ty.size≠0:=by have:=Nat.le_of_ble_eq_true h1b; omega
   obtain⟨h3,h4⟩:=A1W h2
   obtain⟨⟨E,hu,hE⟩,_⟩:=hC.ty T _ h1a
   obtain⟨cs,g1,sk,L,vv,g2,g2',g3,g4⟩:=hx
   subst g3
   have hv:a.eval x=vv:=by simpa[A0i,TV.isAgg,eq_comm]using g1
   obtain⟨sk',L',v0,k1,k2,v',ds,L2,m1,m3,m4,m5,m6⟩:=hh.blk j _ hg
   rw[k1]at g2; injection g2 with g2; injection g2 with g2 g2b; subst g2; subst g2b
   have hvv:v'=vv:=by have h0:sk' []=some v':=m3; rw[g2']at h0; injection h0 with h0; exact h0.symm
   subst hvv
   have hk:i.toNat<xs.length:=by omega
   rcases m5.2 with⟨z1,z2⟩|⟨g,cap,cur,z1,z2,z3,z4,z5,z6,z7⟩
   ·have:xs.length=0:=z2
    omega
   ·have z1':v'= .slice (some ⟨g,0,none⟩) xs.length cap:=z1
    subst z1'
    refine⟨_,h4,.pointer (some ⟨g,0+i.toNat*s.ty.size,none⟩),fun op ho=> ?_,?_⟩
    ·have:=A1s (w:=w) (b:=g) (o:=0) (len:=xs.length) (cap:=cap) (kk:=kk) hu hE (i:=i) h3
     simp only[execOp,ho,hv,hiv,this,Sem.run_bind,Result.andThen_ok,Sem.run_pure]
    ·refine ⟨_,rfl,_,g,0+i.toNat*s.ty.size,s.ty,k1,?_,by simp[Ty.rat,Ty.at_nil],⟨_,_,_,g2',hk⟩,rfl⟩
     simp[Own.base,g2',Value.ownBlock]
  ·cases hp
 ·rename_i j rt p e lo hi he
  rw[he]at hx
  obtain⟨h1,h2⟩:=A0a hp
  simp only[Bool.and_eq_true,decide_eq_true_eq]at h1
  have hne:e.size≠0:=by have:=Nat.le_of_ble_eq_true h1.2; omega
  obtain⟨h3,h4⟩:=A1W h2
  obtain⟨⟨E,hu,hE⟩,_⟩:=hC.ty T _ h1.1
  obtain⟨o,q1,q2,ad,cap,hv,q3,q4,q5⟩:=A4v hx
  have hlo:hi≠lo:=by omega
  cases o with
  |tre sk L=>exact q5.elim
  |var b=>
   obtain⟨off,n,m1,m2,m3⟩:=q5
   rcases m3 with m3|m3
   ·exact absurd m3 hlo
   ·subst m3
    refine⟨_,h4,.pointer (some ⟨b,off+lo*e.size+i.toNat*e.size,none⟩),fun op ho=> ?_,?_⟩
    ·have:=A1s (w:=w) (b:=b) (o:=off+lo*e.size) (len:=hi-lo) (cap:=cap) (kk:=kk) hu hE (i:=i) h3
     simp[execOp,ho,hv,hiv,this]
    ·have hk:lo+i.toNat<n:=by omega
     have hadd:off+lo*e.size+i.toNat*e.size=off+(lo+i.toNat)*e.size:=by rw[Nat.add_mul]; omega
     rw[hadd]
     exact⟨_,rfl,.var b,b,off+(lo+i.toNat)*e.size,e,q1,rfl,A5H (by simp) m1 (by simp[Ty.at,Ty.at_nil,hk]),A5F _ trivial,rfl⟩
  |arr u=>
   obtain⟨m1,m2,ad0,len,cap0,m3,m4,m5⟩:=q5
   rcases m5 with m5|⟨g,m5,m6⟩
   ·exact absurd m5 hlo
   ·subst m1; subst m2; subst m3; subst m5; subst m6
    refine⟨_,h4,.pointer (some ⟨g,lo*e.size+i.toNat*e.size,none⟩),fun op ho=> ?_,?_⟩
    ·have:=A1s (w:=w) (b:=g) (o:=lo*e.size) (len:=hi-lo) (cap:=cap) (kk:=kk) hu hE (i:=i) h3
     simp[execOp,ho,hv,hiv,this]
    ·have hk:lo+i.toNat<len:=by omega
     have hadd:lo*e.size+i.toNat*e.size=(lo+i.toNat)*e.size:=by rw[Nat.add_mul]
     rw[hadd]
     exact⟨_,rfl,_,g,(lo+i.toNat)*e.size,e,q1,rfl,by simp[Ty.rat,Ty.at_nil],hk,rfl⟩
 ·rename_i j t p he
  rw[he]at hx
  obtain⟨o,b,off,s0,q1,q2,q3,q4,hv⟩:=A3A hx
  split at hp
  ·rename_i n e hs
   obtain⟨h1,h2⟩:=A0a hp
   have hT:cx.ty T=some (.arr n e):=by simpa using h1
   obtain⟨h3,h4⟩:=A1W h2
   have hs0:s0= .arr n e:=by rw[A3c q3]at hs; injection hs
   subst hs0
   obtain⟨⟨E,hu,hE⟩,_⟩:=hC.ty T _ hT
   refine⟨_,h4,.pointer (some ⟨b,off+i.toNat*e.size,none⟩),fun op ho=> ?_,?_⟩
   ·have:=A4V (w:=w) (b:=b) (o:=off) (kk:=kk) hu hE (i:=i) h3
    simp[execOp,ho,hv,hiv,this]
   ·have hk:i.toNat<n:=by omega
    exact⟨_,rfl,o,b,off+i.toNat*e.size,e,q1,q2,A5H (by simp) q3 (by simp[Ty.at,Ty.at_nil,hk]),A5F _ q4,rfl⟩
  ·cases hp
 ·rename_i n e xs he
  rw[he]at hx
  obtain⟨h1,h2⟩:=A0a hp
  have hT:cx.ty T=some (.arr n e):=by simpa using h1
  obtain⟨h3,h4⟩:=A1W h2
  obtain⟨b,o,ds,hv,⟨hl,hc⟩,hra,hX⟩:=A6b hx
  obtain⟨⟨E,hu,hE⟩,_⟩:=hC.ty T _ hT
  have hk:i.toNat<xs.length:=by rw[hl]; omega
  have key:A0g w X θ (.pv (.ref e) (xs.getD i.toNat e.zero)) (.pointer (some ⟨b,o+i.toNat*e.size,none⟩)):=by
   obtain⟨c1,c,c2,h1,h2,h3,_⟩:=A1C (fun c x hx=>Rep.length e c x hx) e.zero i.toNat hc hk
   have hl:=Rep.length e c _ h3
   refine A9X h3 ?_ (fun hcn=>hX ?_)
   ·intro j v hj
    have hlt:=(List.getElem?_eq_some_iff.1 hj).1
    have:=hra (i.toNat*e.size+j) v (by rw[h1,List.getElem?_append_right (by omega),List.getElem?_append_left (by omega)]; rw[show i.toNat*e.size+j-c1.length=j by omega]; exact hj)
    rwa [show o+i.toNat*e.size+j=o+(i.toNat*e.size+j) by omega]
   ·intro hd
    have:=congrArg List.length h1
    rw[hd]at this
    have:c.length=0:=by simp only[List.length_nil,List.length_append]at this; omega
    exact hcn (List.eq_nil_of_length_eq_zero this)
  refine⟨_,h4,_,fun op ho=> ?_,key⟩
  have:=A4V (w:=w) (b:=b) (o:=o) (kk:=kk) hu hE (i:=i) h3
  simp[execOp,ho,hv,hiv,this]
 ·cases hp
end Go.Ai
/- Literals of structs and arrays. -/
namespace Go.Ai
open Go.RowKit
variable {P:Program} {cx:Cx} {w:World} {X:Nat→Prop} {θ:Nat→Option Own} {h:A0m} {base:Nat→Nat→Prop} {ρ:Operand→TV} {a:Act} {R:Type} {r:R} {K:TV→Option R}
def Ty.zcells:Ty→List Value
 | .int k=>[.int k 0]
 | .bool=>[.bool false]
 | .str=>[.string ⟨#[]⟩]
 | .slice _=>[.slice none 0 0]
 | .arr n e=>(List.replicate n e.zcells).flatten
 | .unit=>[]
 | .pair a b=>a.zcells++b.zcells
 | .ref _=>[.pointer none]
 | .fnc f=>[.func (.func f) #[] #[]]
 | .opt _=>[.pointer none]
def Ty.noRef:Ty→Bool
 | .ref _=>false
 | .fnc _=>false
 | .arr _ e=>e.noRef
 | .pair a b=>a.noRef&&b.noRef
 |_=>true
theorem A0u.noRef2:(t:Ty)→(∀ T,(A0u P t).1 T→t.noRef=true)∧(∀ off fs,(A0u P t).2 off fs→t.noRef=true):=by
 intro t
 induction t with
 |ref e ih=>exact⟨fun T h=>h.elim,fun off fs h=>h.elim⟩
 |fnc e=>exact⟨fun T h=>h.elim,fun off fs h=>h.elim⟩
 |arr n e ih=>exact⟨fun T ⟨⟨E,_,h⟩,_⟩=>ih.1 E h,fun off fs h=>h.elim⟩
 |pair a b iha ihb=>
  refine⟨fun T ⟨⟨fs,_,f,r,_,_,_,h1,h2⟩,_⟩=> ?_,fun off fs ⟨f,r,_,_,_,h1,h2⟩=> ?_⟩<;>simp[Ty.noRef,iha.1 _ h1,ihb.2 _ _ h2]
 |_=>exact⟨fun _ _=>rfl,fun _ _ _=>rfl⟩
theorem A0u.noRef(t:Ty)(T:TypeId)(h:(A0u P t).1 T):t.noRef=true:=(A0u.noRef2 t).1 T h
theorem A1d:(t:Ty)→t.noRef=true→Rep w X t t.zcells t.zero
 | .int k,_=>⟨rfl,by show IntKind.has k 0; cases k<;>simp[IntKind.has,IntKind.min,IntKind.max,IntKind.signed,IntKind.bits]⟩
 | .bool,_=>rfl
 | .str,_=>⟨⟨#[]⟩,rfl,rfl,Nat.zero_le _⟩
 | .slice e,_=>⟨none,0,0,[],rfl,rfl,Nat.le_refl _,Nat.zero_le _,rfl,.inl rfl⟩
 | .arr n e,h=>by
  refine⟨by simp[Ty.zero],?_⟩
  have:=A1d e (by simpa[Ty.noRef]using h)
  simp only[Ty.zcells,Ty.zero]
  induction n with
  |zero=>simp[A0l]
  |succ n ih=>rw[List.replicate_succ,List.replicate_succ,List.flatten_cons]; exact⟨_,_,rfl,this,ih h⟩
 | .unit,_=>rfl
 | .pair a b,h=>by
  simp only[Ty.noRef,Bool.and_eq_true]at h
  exact⟨_,_,rfl,A1d a h.1,A1d b h.2⟩
 | .ref _,h=>by simp[Ty.noRef]at h
 | .opt _,_=>rfl
theorem A4B:(t:Ty)→t.noRef=true→RV w X θ false (A3E t) t.zcells∧(A3E t).fits t=true
 | .pair a b,h=>by
  have h':=h
  simp only[Ty.noRef,Bool.and_eq_true]at h'
  obtain⟨a1,a2⟩:=A4B a h'.1
  obtain⟨b1,b2⟩:=A4B b h'.2
  simp only[A3E]
  split
  ·rename_i ta x tb y ea eb
   rw[ea]at a1 a2
   rw[eb]at b1 b2
   have e1:ta=a:=by simpa[TV.fits]using a2
   have e2:tb=b:=by simpa[TV.fits]using b2
   subst e1; subst e2
   exact⟨⟨_,_,rfl,a1,b1⟩,A2W _ _⟩
  ·exact ⟨⟨_,_,rfl,a1,b1⟩,by simp[TV.fits,a2,b2]⟩
 | .slice e,_=>⟨rfl,rfl⟩
 | .int k,h=>⟨A1d _ h,A2W _ _⟩
 | .bool,h=>⟨A1d .bool h,A2W _ _⟩
 | .str,h=>⟨A1d .str h,A2W _ _⟩
 | .arr n e,h=>⟨A1d (.arr n e) h,A2W _ _⟩
 | .unit,h=>⟨A1d .unit h,A2W _ _⟩
 | .ref e,h=>by simp[Ty.noRef]at h
 | .opt e,h=>⟨A1d (.opt e) h,A2W _ _⟩
def B4k:Value→Bool
 | .agg _=>false
 |_=>true
def B3u(P:Program)(T:TypeId)(q:TypeId×TypeId):Prop:=
 P.underlying T=some (.map q.1 q.2)∧(∃ i z,P.info? q.2=some i∧i.zero=some z∧B4k z=true)∧∃i,P.info? T=some i∧i.zero=some (.map none)
structure A2y (P:Program) (cx:Cx):Prop where
 elem:∀T e,cx.ty T=some (.slice e)→P.underlying T=some (.slice (cx.elem T))
 bytes:∀T s i,cx.ty T=some s→P.info? T=some i→i.bytes=cx.bytes T∨cx.zok T=false
 mp:∀T q,cx.mp T=some q→B3u P T q
structure A2z (P:Program) (cx:Cx):Prop where
 zero:∀T s,cx.ty T=some s→cx.zok T=true→∃i z,P.info? T=some i∧i.zero=some z∧z.cells.toList=s.zcells∧(∀ w:World,(zeroValue T).run P w= .ok z w)
theorem A5U(off:Nat):∀(vs:List Value) (k:Nat) (cs:Array Value),off+k+vs.length≤cs.size→
  ((vs.zipIdx k).foldl (fun cs (x:Value×Nat)=>cs.setIfInBounds (off+x.2) x.1) cs).toList=cs.toList.take (off+k)++(vs++cs.toList.drop (off+k+vs.length))
 | [],k,cs,h=>by simp
 |v::vs,k,cs,h=>by
  simp only[List.length_cons]at h
  rw[List.zipIdx_cons,List.foldl_cons,A5U off vs (k+1) _ (by simp; omega)]
  simp only[Array.toList_setIfInBounds]
  have hlt:off+k<cs.toList.length:=by simp; omega
  apply List.ext_getElem?
  intro i
  simp only[List.getElem?_append,List.getElem?_take,List.getElem?_drop,List.length_take,List.length_set,List.length_cons,List.getElem?_cons,List.getElem?_set]
  have e1:min (off+(k+1)) cs.toList.length=off+k+1:=by omega
  have e2:min (off+k) cs.toList.length=off+k:=by omega
  rw[e1,e2]
  by_cases h1:i<off+k
  ·have h2:i<off+k+1:=by omega
   have h3:off+k≠i:=by omega
   have h4:i<off+(k+1):=by omega
   simp[h1,h2,h3,h4]
  ·by_cases h2:i=off+k
   ·subst h2
    simp[hlt]; omega
   ·have h3:¬i<off+k+1:=by omega
    simp only[h1,h3,if_false]
    have h4:i-(off+k)=(i-(off+k+1))+1:=by omega
    rw[h4]
    by_cases h5:i-(off+k+1)<vs.length
    ·have h6:(i-(off+k+1))+1<vs.length+1:=by omega
     simp[h5]
    ·have h6:¬(i-(off+k+1))+1<vs.length+1:=by omega
     have h7:off+k≠off+(k+1)+vs.length+(i-(off+k+1)-vs.length):=by omega
     simp only[h5,h6,h7,if_false]
     simp
     congr 1
     omega
end Go.Ai
namespace Go.Ai
open Go.RowKit
variable {P:Program} {cx:Cx} {w:World} {X:Nat→Prop} {θ:Nat→Option Own} {h:A0m} {base:Nat→Nat→Prop} {ρ:Operand→TV} {a:Act} {R:Type} {r:R} {K:TV→Option R}
def A4E(w:World)(X:Nat→Prop)(θ:Nat→Option Own):List (Nat×TV)→List (Nat×Value)→Prop
 | [],[]=>True
 |(i,t)::r,(j,v)::q=>i=j∧A0g w X θ t v∧A4E w X θ r q
 |_,_=>False
theorem A5T{tv:TV}{t:Ty}{v:Value}(hf:tv.fits t=true)(h:A0g w X θ tv v):∃cs,A0i t.isAgg v cs∧RV w X θ false tv cs∧cs.length=t.size:=by
 have h1:∀c,tv≠ .tup c:=by rintro c rfl; simp[TV.fits]at hf
 have h2:tv≠ .dead:=by rintro rfl; simp[TV.fits]at hf
 have h3:tv≠ .und:=by rintro rfl; simp[TV.fits]at hf
 obtain⟨cs,g1,g2⟩:=A2k h1 h2 h3 h
 exact⟨cs,by rw[← A4m hf]; exact g1,g2,RV.length tv t cs hf g2⟩
theorem A4l{s:Ty}{isArr:Bool}{place:Nat→Option (Nat×Nat)}(hpl:∀i o2 q,s.at [if isArr then .idx i else .fld i]=some (o2,q)→place i=some (o2,q.size)):
  ∀(ps:List (Nat×TV)) (vs:List (Nat×Value)) (c u:TV) (cs:List Value),A4E w X θ ps vs→A5P s c isArr ps=some u→c.fits s=true→RV w X θ false c cs→
   ∃ds,Instr.fill place cs.toArray vs=some ds∧RV w X θ false u ds.toList∧u.fits s=true
 | [],[],c,u,cs,_,hb,hf,hc=>by
  simp only[A5P,Option.some.injEq]at hb
  subst hb
  exact⟨cs.toArray,rfl,by simpa using hc,hf⟩
 |(i,t)::ps,(j,v)::vs,c,u,cs,⟨hij,htv,hr⟩,hb,hf,hc=>by
  subst hij
  simp only[A5P]at hb
  split at hb
  ·rename_i q hq
   obtain⟨h1,h2⟩:=A0a hb
   split at h2
   ·rename_i c' hs
    obtain⟨o2,qt⟩:=q
    obtain⟨vc,g1,g2,g3⟩:=A5T h1 htv
    have hvc:=A1x g1 (RV.one t vc g2)
    have hle:=A6H.at_le s _ o2 qt hq
    have hl:=RV.length c s cs hf hc
    have hsplit:cs=cs.take o2++((cs.drop o2).take qt.size++cs.drop (o2+qt.size)):=by
     rw[← List.drop_drop,List.take_append_drop,List.take_append_drop]
    obtain⟨k1,k2⟩:=A6H c s _ cs o2 qt t c' vc hq hf hs hc h1 g2 _ _ _ hsplit (by simp; omega) (by simp; omega)
    have hfold:=A5U o2 v.cells.toList 0 cs.toArray (by rw[hvc,g3]; simp; omega)
    obtain⟨ds,m1,m2,m3⟩:=A4l hpl ps vs c' u _ hr h2 k1 k2
    refine⟨ds,?_,m2,m3⟩
    have hsz:v.cells.size=qt.size:=by rw[← g3,←hvc]; simp
    have hnot:¬(v.cells.size≠qt.size∨o2+v.cells.size>cs.toArray.size):=by simp[hsz]; omega
    rw[Instr.fill,hpl i o2 qt hq]
    simp only[Bool.or_eq_true,decide_eq_true_eq,hnot,if_false]
    rw[← m1]
    congr 1
    apply Array.ext'
    rw[← Array.foldl_toList,Array.toList_zipIdx]
    rw[show (cs.take o2++(vc++cs.drop (o2+qt.size))).toArray.toList=cs.take o2++(vc++cs.drop (o2+qt.size))from rfl]
    rw[hfold,hvc,g3]
    simp
   ·cases h2
  ·cases hb
 | [],_::_,_,_,_,h,_,_,_=>h.elim
 |_::_,[],_,_,_,h,_,_,_=>h.elim
theorem A5f(hρ:∀x,A0g w X θ (ρ x) (a.eval x)):∀ps:List (Nat×Operand),A4E w X θ (ps.map fun q=>(q.1,ρ q.2)) (ps.map fun q=>(q.1,a.eval q.2))
 | []=>trivial
 |(i,x)::r=>⟨rfl,hρ x,A5f hρ r⟩
theorem B3e{t:Ty}:∀(off:Nat) (fs:List Field),(A0u P t).2 off fs→∃pl,fs.mapM (fun f=>(P.info? f.type).map fun i=>(f.offset,i.size))=some pl∧∀i o2 q,t.at [.fld i]=some (o2,q)→pl[i]? =some (off+o2,q.size):=by
 induction t with
 |unit=>intro off fs h; have h':fs=[]:=h; subst h'; exact⟨[],rfl,fun i o2 q h=>by simp[Ty.at]at h⟩
 |pair a b iha ihb=>
  intro off fs ⟨f,r,he,ho,_,h1,h2⟩
  subst he
  obtain⟨pl,g1,g2⟩:=ihb (off+a.size) r h2
  have hsz:=A0u.size a _ h1
  unfold Program.hasSize at hsz
  cases hq:P.info? f.type with
  |none=>simp[hq]at hsz
  |some inf=>
   have hs:inf.size=a.size:=by simpa[hq]using hsz
   refine⟨(f.offset,inf.size)::pl,by simp[List.mapM_cons,hq,g1],fun i o2 q hi=> ?_⟩
   cases i with
   |zero=>
    simp only[Ty.at,Ty.at_nil,Option.some.injEq,Prod.mk.injEq]at hi
    obtain⟨rfl,rfl⟩:=hi
    simp[ho,hs]
   |succ i=>
    simp only[Ty.at]at hi
    cases hz:b.at [.fld i]with
    |none=>simp[hz]at hi
    |some z=>
     obtain⟨o3,q3⟩:=z
     simp only[hz,Option.map_some,Option.some.injEq,Prod.mk.injEq]at hi
     obtain⟨rfl,rfl⟩:=hi
     have:=g2 i o3 q3 hz
     simp[this]; omega
 |_=>intro off fs h; exact h.elim
theorem B1M(hC:A1F P cx)(hZ:A2z P cx)(hρ:∀x,A0g w X θ (ρ x) (a.eval x)){T:TypeId}{parts:Array (Nat×Operand)}(hp:A0p cx h ρ (.build T parts) K=some r):∃tv,K tv=some r∧A1h P w X θ a (.build T parts) tv:=by
 simp only[A0p]at hp
 split at hp
 ·rename_i s hT
  obtain⟨h1,h2⟩:=A0a hp
  simp only[Bool.and_eq_true]at h1
  split at h2
  ·rename_i u hb
   have hty:=hC.ty T s hT
   obtain⟨inf,z,z1,z2,z3,_⟩:=hZ.zero T s hT h1.1
   obtain⟨r1,r2⟩:=A4B (w:=w) (X:=X) (θ:=θ) s (A0u.noRef s T hty)
   have hrel:=A5f hρ parts.toList
   have hzc:s.zcells.toArray=z.cells:=by rw[← z3]
   have fin:∀ds:Array Value,P.built T (parts.toList.map fun q=>(q.1,a.eval q.2))=some ds→RV w X θ false u ds.toList→u.fits s=true→A1h P w X θ a (.build T parts) u:=by
    intro ds hd hrv hfit
    refine⟨.agg ds,fun o ho=> ?_,A3M (by rw[A4m hfit,h1.2]; simp[A0i]) hrv⟩
    have:=run_build (P:=P) w T (parts.map fun q=>(q.1,a.eval q.2)) ds (by simpa using hd)
    simp[execOp,ho,this]
   cases s with
   |arr n e=>
    obtain⟨⟨E,hu,hE⟩,_⟩:=hty
    have hsz:=A0u.size e E hE
    unfold Program.hasSize at hsz
    cases hq:P.info? E with
    |none=>simp[hq]at hsz
    |some ie=>
     have hs:ie.size=e.size:=by simpa[hq]using hsz
     obtain⟨ds,d1,d2,d3⟩:=A4l (isArr:=true) (place:=fun i=>some (i*ie.size,ie.size)) (fun i o2 q hi=>by
      simp only[if_true,Ty.at]at hi
      split at hi
      ·simp only[Ty.at_nil,Option.map_some,Option.some.injEq,Prod.mk.injEq]at hi
       obtain⟨rfl,rfl⟩:=hi
       simp[hs]
      ·cases hi) _ _ _ u _ hrel hb r2 r1
     exact⟨u,h2,fin ds (by simp only[Program.built,z1,hu,z2,hq]; rw[← hzc]; exact d1) d2 d3⟩
   |unit=>
    obtain⟨⟨fs,hu,hfs⟩,_⟩:=hty
    obtain⟨ds,d1,d2,d3⟩:=A4l (isArr:=false) (place:=fun i=>([]:List (Nat×Nat)).toArray[i]?) (fun i o2 q hi=>by simp[Ty.at]at hi) _ _ _ u _ hrel hb r2 r1
    exact⟨u,h2,fin ds (by simp only[Program.built,z1,hu,z2,hfs]; simp only[List.mapM_nil,Option.pure_def]; rw[← hzc]; exact d1) d2 d3⟩
   |pair p q=>
    obtain⟨⟨fs,hu,f,rr,hfs,ho,hn,k1,k2⟩,_⟩:=hty
    have hall:(A0u P (.pair p q)).2 0 fs.toList:=⟨f,rr,hfs,ho,hn,k1,by simpa using k2⟩
    obtain⟨pl,p1,p2⟩:=B3e 0 fs.toList hall
    obtain⟨ds,d1,d2,d3⟩:=A4l (isArr:=false) (place:=fun i=>pl.toArray[i]?) (fun i o2 q hi=>by
     have:=p2 i o2 q (by simpa using hi)
     simpa using this) _ _ _ u _ hrel hb r2 r1
    exact⟨u,h2,fin ds (by simp only[Program.built,z1,hu,z2,p1]; rw[← hzc]; exact d1) d2 d3⟩
   |_=>simp[Ty.isAgg]at h1
  ·cases h2
 ·cases hp
end Go.Ai

