import Derived.Test.YtkpacjofafjonabGreatEg
import Derived.Test.YtkpacjofafjonabGreatExactFetchAllFn3
/- What the plain functions compute, and that the law answers true. No conditions. -/
namespace Go.Ai.H
open Go.Ai.G Go.IntWalk
set_option synthInstance.maxSize 2000
set_option synthInstance.maxHeartbeats 400000
abbrev G5:Type:=List (List Int)
def inR(low a high:Int):Bool:=decide (low≤a)&&decide (a≤high)
theorem a7g{b a c:Int}:inR b a c=true↔b≤a∧a≤c:=by simp[inR]
theorem a9n(a b c:Int):v7 a b c=some (inR b a c):=by
 unfold v7 inR
 by_cases h:b≤a<;>simp[h]
theorem c4y(a b c:Int):M5 a b c=some (inR b a c):=by
 unfold M5 inR
 by_cases h:b≤a<;>simp[h]
theorem U1{n:Int}(h0: -9223372036854775808≤n)(h1:n≤9223372036854775807):IntKind.wrap .i64 n=n:=i64_in n ⟨h0,h1⟩
theorem d4q(n:Int):IntKind.wrap .u64 n=n % 18446744073709551616:=by simp[IntKind.wrap,IntKind.bits,IntKind.signed]
theorem c1y{n:Int}(h0:0≤n)(h1:n<18446744073709551616):IntKind.wrap .u64 n=n:=by rw[d4q]; omega
theorem d6O{n:Int}(h0:0≤n)(h1:n<4294967296):IntKind.wrap .u32 n=n:=by rw[IntKind.wrap_u32]; omega
theorem wu8{n:Int}(h0:0≤n)(h1:n<256):IntKind.wrap .u8 n=n:=by rw[IntKind.wrap_u8]; omega
theorem c1x(n:Int):0≤IntKind.wrap .u32 n∧IntKind.wrap .u32 n<4294967296:=by rw[IntKind.wrap_u32]; omega
theorem d4r(n:Int):0≤IntKind.wrap .u8 n∧IntKind.wrap .u8 n<256:=by rw[IntKind.wrap_u8]; omega
theorem D7{n:Nat}(h:n<18446744073709551616):n<FUEL:=by rw[B5I]; exact h
theorem A5{p:Prop} [Decidable p] (h:p):decide p=true:=decide_eq_true h
theorem B7{p:Prop} [Decidable p] (h:¬p):decide p=false:=decide_eq_false h
def a4Z{σ:Type}(f:Nat→σ→σ):Nat→Nat→σ→σ
 |0,_,s=>s
 |m+1,x,s=>a4Z f m (x+1) (f x s)
theorem b0Q{σ:Type}{f:Nat→σ→σ}{N:Nat}{I:Nat→σ→Prop}(inv:∀x s,x<N→I x s→I (x+1) (f x s)):∀m x s,x+m=N→I x s→I N (a4Z f m x s)
 |0,x,s,h,hi=>by
  have:x=N:=by omega
  subst this; exact hi
 |m+1,x,s,h,hi=>b0Q inv m (x+1) (f x s) (by omega) (inv x s (by omega) hi)
theorem W0{σ R:Type}(L:Nat→Nat→σ→Option R)(N:Nat)(f:Nat→σ→σ)(ke:σ→Option R)(I:Nat→σ→Prop)
  (step:∀n x s,x<N→I x s→L (n+1) x s=L n (x+1) (f x s)) (inv:∀x s,x<N→I x s→I (x+1) (f x s)) (stop:∀n s,I N s→L (n+1) N s=ke s):
  ∀m n x s,x+m=N→m<n→I x s→L n x s=ke (a4Z f m x s)
 |0,n,x,s,h,hn,hi=>by
  have:x=N:=by omega
  subst this
  obtain⟨k,rfl⟩:∃k,n=k+1:=⟨n-1,by omega⟩
  exact stop k s hi
 |m+1,n,x,s,h,hn,hi=>by
  obtain⟨k,rfl⟩:∃k,n=k+1:=⟨n-1,by omega⟩
  rw[step k x s (by omega) hi]
  exact W0 L N f ke I step inv stop m k (x+1) (f x s) (by omega) (by omega) (inv x s (by omega) hi)
theorem b2K(b:Nat)(n:Nat)(h:n<2 ^ b):(BitVec.ofInt b (n:Int)).toNat=n:=by
 rw[BitVec.toNat_ofInt]
 have h1:((n:Int) % ((2 ^ b:Nat):Int))=n:=Int.emod_eq_of_lt (by omega) (by exact_mod_cast h)
 rw[h1]; rfl
theorem c4N{k:IntKind}(hk:k= .u8∨k= .u32∨k= .u64){x y:Nat}(hx:x<2 ^ k.bits)(hy:y<2 ^ k.bits):
  A6l .or k x y=((x ||| y:Nat):Int)∧A6l .and k x y=((x &&& y:Nat):Int)∧A6l .xor k x y=((x ^^^ y:Nat):Int):=by
 have e1:=b2K k.bits x hx
 have e2:=b2K k.bits y hy
 have wr:∀n:Nat,n<2 ^ k.bits→k.wrap (n:Int)=n:=by
  intro n hn
  rcases hk with rfl|rfl|rfl
  ·exact wu8 (by omega) (by simp[IntKind.bits]at hn; omega)
  ·exact d6O (by omega) (by simp[IntKind.bits]at hn; omega)
  ·exact c1y (by omega) (by simp[IntKind.bits]at hn; omega)
 refine⟨?_,?_,?_⟩
 ·simp only[A6l,BitVec.toNat_or,e1,e2]; exact wr _ (Nat.or_lt_two_pow hx hy)
 ·simp only[A6l,BitVec.toNat_and,e1,e2]; exact wr _ (Nat.lt_of_le_of_lt Nat.and_le_left hx)
 ·simp only[A6l,BitVec.toNat_xor,e1,e2]; exact wr _ (Nat.xor_lt_two_pow hx hy)
theorem c1q{i b:Nat}(a:Nat)(h:b<2 ^ i):(b ||| a*2 ^ i)=b+a*2 ^ i:=by
 rw[Nat.or_comm,←Nat.shiftLeft_eq,←Nat.shiftLeft_add_eq_or_of_lt h]
 omega
noncomputable def d0K(x n:Int):Int:=A6l .or .u32 (B5G .u32 x n) (B5H .u32 x (IntKind.wrap .u64 (32-n)))
theorem f0g(x:Int):a1S x 7=some (d0K x 7):=rfl
theorem d9t(x:Int):a1S x 13=some (d0K x 13):=rfl
theorem f0j(x:Int):O9 x 7=some (d0K x 7):=rfl
theorem f0f(x:Int):O9 x 13=some (d0K x 13):=rfl
noncomputable def a5J(m:List Int)(r:Nat)(i:Nat)(s:List Int):List Int:=
 s.set i (IntKind.wrap .u32 ((A6l .xor .u32 (d0K (IntKind.wrap .u32 ((IntKind.wrap .u32 ((s.getD i 0)+(m.getD ((i+3*r) % 8) 0)))+(IntKind.wrap .u32 (2654435769*(IntKind.wrap .u32 (8*r+i+1:Int)))))) 7) (s.getD ((i+1) % 8) 0))+d0K (s.getD ((i+5) % 8) 0) 13))
noncomputable def a5S(m s:List Int):List Int:=a4Z (fun r s=>a4Z (a5J m r) 8 0 s) 12 0 s
noncomputable def b4A(a s:List Int):List Int:=a4Z (fun i s=>s.set i (A6l .xor .u32 (s.getD i 0) (a.getD i 0))) 8 0 s
theorem d6z(ke:List Int→Option (A2K H7))(a0 m:List Int)(r:Nat)(hr:r<12)(n:Nat)(s:List Int)(hn:8<n):X4 ke a0 m (r:Int) n 0 s=ke (a4Z (a5J m r) 8 0 s):=by
 refine W0 (fun n x s=>X4 ke a0 m (r:Int) n (x:Int) s) 8 (a5J m r) ke (fun _ _=>True) ?_ (fun _ _ _ _=>trivial) ?_ 8 n 0 s rfl hn trivial
 ·intro n x s hx _
  show a0Q (X4 ke a0 m (r:Int) n) ke a0 m (r:Int) (x:Int) s=_
  unfold a0Q
  have e1:(3:Int)*r=((3*r:Nat):Int):=by omega
  have e2:((x:Int)+((3*r:Nat):Int))=((x+3*r:Nat):Int):=by omega
  have e3:(x:Int)+1=((x+1:Nat):Int):=by omega
  have e5:(x:Int)+5=((x+5:Nat):Int):=by omega
  have e8:(8:Int)=((8:Nat):Int):=rfl
  have b1:(x+3*r) % 8<8:=Nat.mod_lt _ (by omega)
  have b2:(x+1) % 8<8:=Nat.mod_lt _ (by omega)
  have b3:(x+5) % 8<8:=Nat.mod_lt _ (by omega)
  rw[U1 (n:=(3:Int)*r) (by omega) (by omega),e1,e2,U1 (n:=((x+3*r:Nat):Int)) (by omega) (by omega),e3,e5,U1 (n:=((x+1:Nat):Int)) (by omega) (by omega),U1 (n:=((x+5:Nat):Int)) (by omega) (by omega),
   U1 (n:=(8:Int)*r) (by omega) (by omega),U1 (n:=(8:Int)*r+x) (by omega) (by omega),U1 (n:=(8:Int)*r+x+1) (by omega) (by omega)]
  rw[show Int.tmod ((x+3*r:Nat):Int) 8=(((x+3*r) % 8:Nat):Int)from rfl,show Int.tmod ((x+1:Nat):Int) 8=(((x+1) % 8:Nat):Int)from rfl,show Int.tmod ((x+5:Nat):Int) 8=(((x+5) % 8:Nat):Int)from rfl]
  simp only[f0j,f0f,B5u,Int.toNat_natCast]
  rw[A5 (p:=(x:Int)<8) (by omega),A5 (p:=(0:Int)≤x) (by omega),A5 (p:=(0:Int)≤(((x+3*r) % 8:Nat):Int)) (by omega),A5 (p:=(((x+3*r) % 8:Nat):Int)<8) (by omega),
   A5 (p:=(0:Int)≤(((x+1) % 8:Nat):Int)) (by omega),A5 (p:=(((x+1) % 8:Nat):Int)<8) (by omega),A5 (p:=(0:Int)≤(((x+5) % 8:Nat):Int)) (by omega),A5 (p:=(((x+5) % 8:Nat):Int)<8) (by omega)]
  rfl
 ·intro n s _; rfl
theorem d6y(ke:List Int→Option (A2K H7))(a0 m s:List Int):X3 ke a0 FUEL m 0 s=ke (a5S m s):=by
 refine W0 (fun n x s=>X3 ke a0 n m (x:Int) s) 12 (fun r s=>a4Z (a5J m r) 8 0 s) ke (fun _ _=>True) ?_ (fun _ _ _ _=>trivial) ?_ 12 FUEL 0 s rfl (D7 (by omega)) trivial
 ·intro n x s hx _
  show a3F (X3 ke a0 n) ke a0 m (x:Int) s=_
  unfold a3F
  rw[d6z _ a0 m x hx FUEL s (D7 (by omega)),A5 (p:=(x:Int)<12) (by omega),U1 (n:=(x:Int)+1) (by omega) (by omega)]
  rfl
 ·intro n s _; rfl
theorem d6A(ke:List Int→Option (A2K H7))(a0 s:List Int):X5 ke a0 FUEL s 0=ke (b4A a0 s):=by
 refine W0 (fun n x s=>X5 ke a0 n s (x:Int)) 8 (fun i s=>s.set i (A6l .xor .u32 (s.getD i 0) (a0.getD i 0))) ke (fun _ _=>True) ?_ (fun _ _ _ _=>trivial) ?_ 8 FUEL 0 s rfl (D7 (by omega)) trivial
 ·intro n x s hx _
  show a0R (X5 ke a0 n) ke a0 s (x:Int)=_
  unfold a0R
  rw[A5 (p:=(x:Int)<8) (by omega),A5 (p:=(0:Int)≤x) (by omega),U1 (n:=(x:Int)+1) (by omega) (by omega)]
  rfl
 ·intro n s _; rfl
theorem d6L(ke:List Int→Option (A2K J6))(a0 m:List Int)(r:Nat)(hr:r<12)(n:Nat)(s:List Int)(hn:8<n):t8 ke a0 m (r:Int) n 0 s=ke (a4Z (a5J m r) 8 0 s):=by
 refine W0 (fun n x s=>t8 ke a0 m (r:Int) n (x:Int) s) 8 (a5J m r) ke (fun _ _=>True) ?_ (fun _ _ _ _=>trivial) ?_ 8 n 0 s rfl hn trivial
 ·intro n x s hx _
  show a1Q (t8 ke a0 m (r:Int) n) ke a0 m (r:Int) (x:Int) s=_
  unfold a1Q
  have e1:(3:Int)*r=((3*r:Nat):Int):=by omega
  have e2:((x:Int)+((3*r:Nat):Int))=((x+3*r:Nat):Int):=by omega
  have e3:(x:Int)+1=((x+1:Nat):Int):=by omega
  have e5:(x:Int)+5=((x+5:Nat):Int):=by omega
  have b1:(x+3*r) % 8<8:=Nat.mod_lt _ (by omega)
  have b2:(x+1) % 8<8:=Nat.mod_lt _ (by omega)
  have b3:(x+5) % 8<8:=Nat.mod_lt _ (by omega)
  rw[U1 (n:=(3:Int)*r) (by omega) (by omega),e1,e2,U1 (n:=((x+3*r:Nat):Int)) (by omega) (by omega),e3,e5,U1 (n:=((x+1:Nat):Int)) (by omega) (by omega),U1 (n:=((x+5:Nat):Int)) (by omega) (by omega),
   U1 (n:=(8:Int)*r) (by omega) (by omega),U1 (n:=(8:Int)*r+x) (by omega) (by omega),U1 (n:=(8:Int)*r+x+1) (by omega) (by omega)]
  rw[show Int.tmod ((x+3*r:Nat):Int) 8=(((x+3*r) % 8:Nat):Int)from rfl,show Int.tmod ((x+1:Nat):Int) 8=(((x+1) % 8:Nat):Int)from rfl,show Int.tmod ((x+5:Nat):Int) 8=(((x+5) % 8:Nat):Int)from rfl]
  simp only[f0g,d9t,B5u,Int.toNat_natCast]
  rw[A5 (p:=(x:Int)<8) (by omega),A5 (p:=(0:Int)≤x) (by omega),A5 (p:=(0:Int)≤(((x+3*r) % 8:Nat):Int)) (by omega),A5 (p:=(((x+3*r) % 8:Nat):Int)<8) (by omega),
   A5 (p:=(0:Int)≤(((x+1) % 8:Nat):Int)) (by omega),A5 (p:=(((x+1) % 8:Nat):Int)<8) (by omega),A5 (p:=(0:Int)≤(((x+5) % 8:Nat):Int)) (by omega),A5 (p:=(((x+5) % 8:Nat):Int)<8) (by omega)]
  rfl
 ·intro n s _; rfl
theorem d6K(ke:List Int→Option (A2K J6))(a0 m s:List Int):t7 ke a0 FUEL m 0 s=ke (a5S m s):=by
 refine W0 (fun n x s=>t7 ke a0 n m (x:Int) s) 12 (fun r s=>a4Z (a5J m r) 8 0 s) ke (fun _ _=>True) ?_ (fun _ _ _ _=>trivial) ?_ 12 FUEL 0 s rfl (D7 (by omega)) trivial
 ·intro n x s hx _
  show a4u (t7 ke a0 n) ke a0 m (x:Int) s=_
  unfold a4u
  rw[d6L _ a0 m x hx FUEL s (D7 (by omega)),A5 (p:=(x:Int)<12) (by omega),U1 (n:=(x:Int)+1) (by omega) (by omega)]
  rfl
 ·intro n s _; rfl
theorem d6M(ke:List Int→Option (A2K J6))(a0 s:List Int):u5 ke a0 FUEL s 0=ke (b4A a0 s):=by
 refine W0 (fun n x s=>u5 ke a0 n s (x:Int)) 8 (fun i s=>s.set i (A6l .xor .u32 (s.getD i 0) (a0.getD i 0))) ke (fun _ _=>True) ?_ (fun _ _ _ _=>trivial) ?_ 8 FUEL 0 s rfl (D7 (by omega)) trivial
 ·intro n x s hx _
  show a1R (u5 ke a0 n) ke a0 s (x:Int)=_
  unfold a1R
  rw[A5 (p:=(x:Int)<8) (by omega),A5 (p:=(0:Int)≤x) (by omega),U1 (n:=(x:Int)+1) (by omega) (by omega)]
  rfl
 ·intro n s _; rfl
def R6(b:List Int):Prop:=∀x∈b,0≤x∧x<256
theorem a2U{b:List Int}(h:R6 b)(i:Nat):0≤b.getD i 0∧b.getD i 0<256:=by
 by_cases hi:i<b.length
 ·have:b.getD i 0=b[i]:=by simp[List.getD,hi]
  rw[this]; exact h _ (List.getElem_mem hi)
 ·simp [List.getD,List.getElem?_eq_none (Nat.not_lt.1 hi)]
def b0R(b:List Int)(i:Nat):Int:=b.getD (4*i) 0+256*b.getD (4*i+1) 0+65536*b.getD (4*i+2) 0+16777216*b.getD (4*i+3) 0
def c7b(b:List Int):List Int:=a4Z (fun i y=>y.set i (b0R b i)) 8 0 (List.replicate 8 0)
theorem or4{p q r s:Nat}(hp:p<256)(hq:q<256)(hr:r<256)(hs:s<256):p ||| q*256 ||| r*65536 ||| s*16777216=p+256*q+65536*r+16777216*s:=by
 have h1:=c1q (i:=8) q (b:=p) (by omega)
 have h2:=c1q (i:=16) r (b:=p+q*256) (by omega)
 have h3:=c1q (i:=24) s (b:=p+q*256+r*65536) (by omega)
 rw[show q*256=q*2 ^ 8 from rfl,h1,show r*65536=r*2 ^ 16 from rfl,show p+q*2 ^ 8=p+q*256 from rfl,h2,show s*16777216=s*2 ^ 24 from rfl,show p+q*256+r*2 ^ 16=p+q*256+r*65536 from rfl,h3]
 omega
theorem b0M{k:IntKind}{x n:Nat}(hn:n≤k.bits):B5G k x n=k.wrap ((x*2 ^ n:Nat):Int):=by
 unfold B5G
 rw[Int.toNat_natCast,Nat.min_eq_left hn]
 congr 1
theorem d6E{b:List Int}(hb:R6 b)(hl:b.length=4):a0w b=some (b.getD 0 0+256*b.getD 1 0+65536*b.getD 2 0+16777216*b.getD 3 0):=by
 match b,hl with
 | [p,q,r,s],_=>
  have hp:=hb p (by simp)
  have hq:=hb q (by simp)
  have hr:=hb r (by simp)
  have hs:=hb s (by simp)
  obtain⟨p,rfl⟩:=Int.eq_ofNat_of_zero_le hp.1
  obtain⟨q,rfl⟩:=Int.eq_ofNat_of_zero_le hq.1
  obtain⟨r,rfl⟩:=Int.eq_ofNat_of_zero_le hr.1
  obtain⟨s,rfl⟩:=Int.eq_ofNat_of_zero_le hs.1
  obtain⟨n,hn⟩:∃n,FUEL=n+5:=⟨FUEL-5,by rw[B5I]⟩
  unfold a0w
  rw[hn]
  simp only[Z4,a0A]
  have w:∀m:Nat,m<256→IntKind.wrap .u64 (m:Int)=m:=fun m hm=>c1y (by omega) (by omega)
  have i1:IntKind.wrap .i64 (8*0)=0:=rfl
  have i2:IntKind.wrap .i64 (0+1)=1:=rfl
  have i3:IntKind.wrap .i64 (8*1)=8:=rfl
  have i4:IntKind.wrap .i64 (1+1)=2:=rfl
  have i5:IntKind.wrap .i64 (8*2)=16:=rfl
  have i6:IntKind.wrap .i64 (2+1)=3:=rfl
  have i7:IntKind.wrap .i64 (8*3)=24:=rfl
  have i8:IntKind.wrap .i64 (3+1)=4:=rfl
  simp only[i1,i2,i3,i4,i5,i6,i7,i8,List.length_cons,List.length_nil]
  have s0:B5G .u64 (p:Int) 0=p:=by
   have:=b0M (k:= .u64) (x:=p) (n:=0) (by simp[IntKind.bits]); simp at this; rw[this]; exact w p (by omega)
  have s1:B5G .u64 (q:Int) 8=((q*256:Nat):Int):=by
   have:=b0M (k:= .u64) (x:=q) (n:=8) (by simp[IntKind.bits]); rw[show ((8:Nat):Int)=8 from rfl]at this; rw[this]; exact c1y (by omega) (by omega)
  have s2:B5G .u64 (r:Int) 16=((r*65536:Nat):Int):=by
   have:=b0M (k:= .u64) (x:=r) (n:=16) (by simp[IntKind.bits]); rw[show ((16:Nat):Int)=16 from rfl]at this; rw[this]; exact c1y (by omega) (by omega)
  have s3:B5G .u64 (s:Int) 24=((s*16777216:Nat):Int):=by
   have:=b0M (k:= .u64) (x:=s) (n:=24) (by simp[IntKind.bits]); rw[show ((24:Nat):Int)=24 from rfl]at this; rw[this]; exact c1y (by omega) (by omega)
  simp only[show Int.toNat 0=0 from rfl,show Int.toNat 1=1 from rfl,show Int.toNat 2=2 from rfl,show Int.toNat 3=3 from rfl,List.getD_cons_zero,List.getD_cons_succ,w p (by omega),w q (by omega),w r (by omega),w s (by omega),s0,s1,s2,s3]
  have o:=fun x y hx hy=>(c4N (k:= .u64) (.inr (.inr rfl)) (x:=x) (y:=y) hx hy).1
  have hb64:(2:Nat) ^ IntKind.u64.bits=18446744073709551616:=rfl
  rw[show (0:Int)=((0:Nat):Int)from rfl,o 0 p (by omega) (by omega),Nat.zero_or]
  have l1:p ||| q*256<2 ^ 64:=Nat.or_lt_two_pow (by omega) (by omega)
  rw[o p (q*256) (by omega) (by omega)]
  have l2:p ||| q*256 ||| r*65536<2 ^ 64:=Nat.or_lt_two_pow l1 (by omega)
  rw[o _ (r*65536) (by rw[hb64]; omega) (by omega),o _ (s*16777216) (by rw[hb64]; omega) (by omega),or4 (by omega) (by omega) (by omega) (by omega)]
  simp
theorem d4p{b:List Int}(hb:R6 b)(i:Nat):0≤b0R b i∧b0R b i<4294967296:=by
 have h0:=a2U hb (4*i)
 have h1:=a2U hb (4*i+1)
 have h2:=a2U hb (4*i+2)
 have h3:=a2U hb (4*i+3)
 unfold b0R; omega
theorem a9j{b:List Int}{l h j:Nat}(hj:j<h-l)(hh:h≤b.length):(A3F b l h).getD j 0=b.getD (l+j) 0:=by
 unfold A3F
 simp only[List.getD,List.getElem?_take,List.getElem?_drop]
 rw[if_pos (by omega)]
theorem b8Z{b:List Int}(hb:R6 b)(l h:Nat):R6 (A3F b l h):=fun x hx=>hb x (List.mem_of_mem_drop (List.mem_of_mem_take hx))
theorem a4C{α:Type}(b:List α){l h:Nat}(hh:h≤b.length):(A3F b l h).length=h-l:=by
 unfold A3F; simp; omega
theorem d6x(ke:List Int→Option (A2K H7))(a0 b:List Int)(hb:R6 b)(hl:b.length=32):X2 ke a0 b FUEL 0 (List.replicate 8 0)=ke (c7b b):=by
 refine W0 (fun n x s=>X2 ke a0 b n (x:Int) s) 8 (fun i y=>y.set i (b0R b i)) ke (fun _ _=>True) ?_ (fun _ _ _ _=>trivial) ?_ 8 FUEL 0 _ rfl (D7 (by omega)) trivial
 ·intro n x s hx _
  show a0P (X2 ke a0 b n) ke a0 b (x:Int) s=_
  unfold a0P
  have e4:(4:Int)*x=((4*x:Nat):Int):=by omega
  have e5:((4*x:Nat):Int)+4=((4*x+4:Nat):Int):=by omega
  rw[U1 (n:=(4:Int)*x) (by omega) (by omega),e4,e5,U1 (n:=((4*x+4:Nat):Int)) (by omega) (by omega),U1 (n:=(x:Int)+1) (by omega) (by omega)]
  simp only[Int.toNat_natCast]
  rw[d6E (b8Z hb _ _) (by rw[a4C _ (by omega)]; omega),a9j (by omega) (by omega),a9j (by omega) (by omega),a9j (by omega) (by omega),a9j (by omega) (by omega)]
  have hw:=d4p hb x
  unfold b0R at hw
  simp only[B5u,Nat.add_zero]
  rw[d6O hw.1 hw.2,A5 (p:=(x:Int)<8) (by omega),A5 (p:=(0:Int)≤x) (by omega),A5 (p:=(0:Int)≤((4*x+4:Nat):Int)) (by omega),A5 (p:=((4*x+4:Nat):Int)≤32) (by omega),A5 (p:=(0:Int)≤((4*x:Nat):Int)) (by omega),A5 (p:=((4*x:Nat):Int)≤((4*x+4:Nat):Int)) (by omega)]
  rfl
 ·intro n s _; rfl
theorem d3Y{α:Type}(s:List α)(i:Nat)(v d:α)(h:i<s.length):(s.set i v).getD i d=v:=by simp[List.getD,h]
theorem c8p{y c:Nat}(hy:y<16777216)(hc:c<256):A6l .or .u32 (B5G .u32 (y:Int) 8) (IntKind.wrap .u32 (c:Int))=((y*256+c:Nat):Int):=by
 have s1:B5G .u32 (y:Int) 8=((y*256:Nat):Int):=by
  have:=b0M (k:= .u32) (x:=y) (n:=8) (by simp[IntKind.bits]); rw[show ((8:Nat):Int)=8 from rfl]at this; rw[this]; exact d6O (by omega) (by omega)
 have hb32:(2:Nat) ^ IntKind.u32.bits=4294967296:=rfl
 rw[s1,d6O (by omega) (by omega),(c4N (k:= .u32) (.inr (.inl rfl)) (by omega) (by omega)).1,Nat.or_comm]
 have:=c1q (i:=8) y hc
 rw[show y*256=y*2 ^ 8 from rfl,this]
 congr 1; omega
theorem d6J(ke:List Int→Option (A2K J6))(a0 b:List Int)(hb:R6 b)(x:Nat)(hx:x<8)(y:List Int)(hy:y.length=8)(h0:y.getD x 0=0):a0F ke a0 b x FUEL 3 y=ke (y.set x (b0R b x)):=by
 obtain⟨n,hn⟩:∃n,FUEL=n+5:=⟨FUEL-5,by rw[B5I]⟩
 rw[hn]
 simp only[a0F,a3k]
 have e4:(4:Int)*x=((4*x:Nat):Int):=by omega
 have i3:IntKind.wrap .i64 ((3:Int)-1)=2:=rfl
 have i2:IntKind.wrap .i64 ((2:Int)-1)=1:=rfl
 have i1:IntKind.wrap .i64 ((1:Int)-1)=0:=rfl
 have i0:IntKind.wrap .i64 ((0:Int)-1)= -1:=rfl
 simp only[i3,i2,i1,i0]
 rw[U1 (n:=(4:Int)*x) (by omega) (by omega),e4,show((4*x:Nat):Int)+3=((4*x+3:Nat):Int)from by omega,show((4*x:Nat):Int)+2=((4*x+2:Nat):Int)from by omega,show((4*x:Nat):Int)+1=((4*x+1:Nat):Int)from by omega,show((4*x:Nat):Int)+0=((4*x:Nat):Int)from by omega]
 rw[U1 (n:=((4*x+3:Nat):Int)) (by omega) (by omega),U1 (n:=((4*x+2:Nat):Int)) (by omega) (by omega),U1 (n:=((4*x+1:Nat):Int)) (by omega) (by omega),U1 (n:=((4*x:Nat):Int)) (by omega) (by omega)]
 simp only[Int.toNat_natCast]
 have g0:=a2U hb (4*x)
 have g1:=a2U hb (4*x+1)
 have g2:=a2U hb (4*x+2)
 have g3:=a2U hb (4*x+3)
 unfold b0R
 generalize b.getD (4*x) 0=p at*
 generalize b.getD (4*x+1) 0=q at*
 generalize b.getD (4*x+2) 0=r at*
 generalize b.getD (4*x+3) 0=s at*
 obtain⟨p,rfl⟩:=Int.eq_ofNat_of_zero_le g0.1
 obtain⟨q,rfl⟩:=Int.eq_ofNat_of_zero_le g1.1
 obtain⟨r,rfl⟩:=Int.eq_ofNat_of_zero_le g2.1
 obtain⟨s,rfl⟩:=Int.eq_ofNat_of_zero_le g3.1
 have k0:A6l .or .u32 (B5G .u32 0 8) (IntKind.wrap .u32 (s:Int))=((s:Nat):Int):=by
  have:=c8p (y:=0) (c:=s) (by omega) (by omega); simpa using this
 have k1:=c8p (y:=s) (c:=r) (by omega) (by omega)
 have k2:=c8p (y:=s*256+r) (c:=q) (by omega) (by omega)
 have k3:=c8p (y:=(s*256+r)*256+q) (c:=p) (by omega) (by omega)
 simp only[h0,k0,k1,k2,k3,d3Y _ _ _ _ (show x<y.length by omega),List.set_set]
 rw[A5 (p:=(x:Int)<8) (by omega),A5 (p:=(0:Int)≤x) (by omega),A5 (p:=((4*x+3:Nat):Int)<32) (by omega),A5 (p:=((4*x+2:Nat):Int)<32) (by omega),A5 (p:=((4*x+1:Nat):Int)<32) (by omega),A5 (p:=((4*x:Nat):Int)<32) (by omega),
  A5 (p:=(0:Int)≤((4*x+3:Nat):Int)) (by omega),A5 (p:=(0:Int)≤((4*x+2:Nat):Int)) (by omega),A5 (p:=(0:Int)≤((4*x+1:Nat):Int)) (by omega),A5 (p:=(0:Int)≤((4*x:Nat):Int)) (by omega)]
 simp
 congr 2
 omega
theorem c6Q(n j:Nat):(List.replicate n (0:Int)).getD j 0=0:=by
 simp only[List.getD,List.getElem?_replicate]
 split<;>rfl
theorem getD_set_ne{α:Type}(s:List α){i j:Nat}(v d:α)(h:i≠j):(s.set i v).getD j d=s.getD j d:=by simp[List.getD,h]
theorem d6I(ke:List Int→Option (A2K J6))(a0 b:List Int)(hb:R6 b):t6 ke a0 b FUEL 0 (List.replicate 8 0)=ke (c7b b):=by
 refine W0 (fun n x s=>t6 ke a0 b n (x:Int) s) 8 (fun i y=>y.set i (b0R b i)) ke (fun x y=>y.length=8∧∀j,x≤j→y.getD j 0=0) ?_ ?_ ?_ 8 FUEL 0 _ rfl (D7 (by omega)) ⟨by simp,fun j _=> ?_⟩
 ·intro n x s hx ⟨h1,h2⟩
  show a4t (t6 ke a0 b n) ke a0 b (x:Int) s=_
  unfold a4t
  rw[d6J _ a0 b hb x hx s h1 (h2 x (Nat.le_refl _)),A5 (p:=(x:Int)<8) (by omega),U1 (n:=(x:Int)+1) (by omega) (by omega)]
  rfl
 ·intro x s hx ⟨h1,h2⟩
  exact⟨by simp[h1],fun j hj=>by rw[getD_set_ne _ _ _ (by omega)]; exact h2 j (by omega)⟩
 ·intro n s _; rfl
 ·exact c6Q 8 j
noncomputable def c1o(a b:List Int):List Int:=b4A a (a5S (c7b b) a)
theorem c4q(a b:List Int)(hb:R6 b)(hl:b.length=32):a2u a b=some (c1o a b):=by
 unfold a2u
 rw[d6x _ a b hb hl,d6y,d6A]; rfl
theorem c4H(a b:List Int)(hb:R6 b):a3A a b=some (c1o a b):=by
 unfold a3A
 rw[d6I _ a b hb,d6K,d6M]; rfl
def a7n(s:List Int):Prop:=s.length=8∧∀x∈s,0≤x∧x<4294967296
theorem a4E{α:Type}{f:Nat→List α→List α}(h:∀i s,(f i s).length=s.length):∀m x s,(a4Z f m x s).length=s.length
 |0,_,_=>rfl
 |m+1,x,s=>by rw[a4Z,a4E h m,h]
theorem c4E(a b:List Int):(c1o a b).length=a.length:=by
 unfold c1o b4A a5S
 rw[a4E (fun i s=>by simp),a4E (fun r s=>a4E (fun i s=>by simp[a5J]) _ _ _)]
theorem c1w(op:BinOp)(x y:Int):0≤A6l op .u32 x y∧A6l op .u32 x y<4294967296:=by
 unfold A6l
 cases op<;>first|exact c1x _|(simp)
theorem c6P{s:List Int}(hs:∀x∈s,0≤x∧x<4294967296)(i:Nat):0≤s.getD i 0∧s.getD i 0<4294967296:=by
 by_cases hi:i<s.length
 ·have:s.getD i 0=s[i]:=by simp[List.getD,hi]
  rw[this]; exact hs _ (List.getElem_mem hi)
 ·simp [List.getD,List.getElem?_eq_none (Nat.not_lt.1 hi)]
theorem c6W{s:List Int}{P:Int→Prop}(hs:∀x∈s,P x){i:Nat}{v:Int}(hv:P v):∀x∈s.set i v,P x:=by
 intro x hx
 rcases List.mem_or_eq_of_mem_set hx with h|h
 ·exact hs x h
 ·rw [h]; exact hv
theorem a5T{σ:Type}{f:Nat→σ→σ}{P:σ→Prop}(h:∀i s,P s→P (f i s)):∀m x s,P s→P (a4Z f m x s)
 |0,_,_,hs=>hs
 |m+1,x,s,hs=>a5T h m (x+1) _ (h x s hs)
theorem d6G{a:List Int}(b:List Int)(ha:a7n a):a7n (c1o a b):=by
 refine⟨by rw[c4E]; exact ha.1,?_⟩
 unfold c1o b4A a5S
 refine a5T (P:=fun s:List Int=>∀x∈s,0≤x∧x<4294967296) (fun i s hs=>c6W hs (c1w _ _ _)) _ _ _ ?_
 refine a5T (P:=fun s:List Int=>∀x∈s,0≤x∧x<4294967296) (fun r s hs=> ?_) _ _ _ ha.2
 exact a5T (P:=fun s:List Int=>∀x∈s,0≤x∧x<4294967296) (fun i s hs=>c6W hs (c1x _)) _ _ _ hs
def b2o(tag:Int):List Int:=a4Z (fun i s=>s.set i (IntKind.wrap .u32 ((IntKind.wrap .u32 (16777619*(IntKind.wrap .u32 (i+1:Int))))+(IntKind.wrap .u32 tag)))) 8 0 (List.replicate 8 0)
theorem b6K(t:Int):a1r t=some (b2o t):=by
 unfold a1r
 refine W0 (fun n x s=>Y3 (fun G9=>some G9) t n (x:Int) s) 8 _ _ (fun _ _=>True) ?_ (fun _ _ _ _=>trivial) ?_ 8 FUEL 0 _ rfl (D7 (by omega)) trivial
 ·intro n x s hx _
  show w8 (Y3 (fun G9=>some G9) t n) (fun G9=>some G9) t (x:Int) s=_
  unfold w8
  rw[A5 (p:=(x:Int)<8) (by omega),A5 (p:=(0:Int)≤x) (by omega),U1 (n:=(x:Int)+1) (by omega) (by omega)]
  rfl
 ·intro n s _; rfl
theorem b6S(t:Int):a2C t=some (b2o t):=by
 unfold a2C
 refine W0 (fun n x s=>u6 (fun G9=>some G9) t n (x:Int) s) 8 _ _ (fun _ _=>True) ?_ (fun _ _ _ _=>trivial) ?_ 8 FUEL 0 _ rfl (D7 (by omega)) trivial
 ·intro n x s hx _
  show a0Y (u6 (fun G9=>some G9) t n) (fun G9=>some G9) t (x:Int) s=_
  unfold a0Y
  rw[A5 (p:=(x:Int)<8) (by omega),A5 (p:=(0:Int)≤x) (by omega),U1 (n:=(x:Int)+1) (by omega) (by omega)]
  rfl
 ·intro n s _; rfl
theorem d0M(t:Int):a7n (b2o t):=by
 refine⟨by unfold b2o; rw[a4E (fun i s=>by simp)]; simp,?_⟩
 unfold b2o
 refine a5T (P:=fun s:List Int=>∀x∈s,0≤x∧x<4294967296) (fun i s hs=>c6W hs (c1x _)) _ _ _ ?_
 intro x hx
 have:=List.eq_of_mem_replicate hx
 subst this; omega
theorem a5U{α:Type}(xs:List α)(d:α):∀m x (z:List α),x+m=xs.length→z.length=xs.length→(∀ j,j<x→z[j]? =xs[j]?)→a4Z (fun i z=>z.set i (xs.getD i d)) m x z=xs
 |0,x,z,hx,hl,hz=>by
  have:x=xs.length:=by omega
  subst this
  apply List.ext_getElem?
  intro j
  by_cases hj:j<xs.length
  ·exact hz j hj
  ·simp only[a4Z]
   rw[List.getElem?_eq_none (by omega),List.getElem?_eq_none (by omega)]
 |m+1,x,z,hx,hl,hz=>by
  refine a5U xs d m (x+1) _ (by omega) (by simpa using hl) fun j hj=> ?_
  rw[List.getElem?_set]
  split
  ·rename_i e; subst e
   rw[if_pos (by omega)]
   simp[List.getD,List.getElem?_eq_getElem (show x<xs.length by omega)]
  ·exact hz j (by omega)
theorem c7a(xs:List Int)(h:xs.length≤140737488355328):a3f xs=some xs:=by
 unfold a3f
 rw[A5 (p:=(0:Int)≤(xs.length:Int)) (by omega),A5 (p:=(xs.length:Int)*1≤140737488355328) (by omega),A5 (p:=(xs.length:Int)≤9223372036854775807) (by omega)]
 have:=W0 (fun n x s=>g8 (fun z70=>some z70) xs n (x:Int) s) xs.length (fun i z=>z.set i (xs.getD i 0)) (fun z=>some z) (fun _ z=>z.length=xs.length) ?_ (fun x s _ h=>by simpa using h) ?_ xs.length FUEL 0 (List.replicate xs.length 0) (by omega) (D7 (by omega)) (by simp)
 ·rw [a5U xs 0 _ 0 _ (by omega) (by simp) (fun j hj=>by omega)]at this
  exact this
 ·intro n x s hx hs
  show g9 (g8 (fun z70=>some z70) xs n) (fun z70=>some z70) xs (x:Int) s=_
  unfold g9
  rw[A5 (p:=(x:Int)<(xs.length:Int)) (by omega),A5 (p:=(0:Int)≤(x:Int)) (by omega),A5 (p:=(x:Int)<(s.length:Int)) (by omega),U1 (n:=(x:Int)+1) (by omega) (by omega)]
  rfl
 ·intro n s hs
  show g9 (g8 (fun z70=>some z70) xs n) (fun z70=>some z70) xs (xs.length:Int) s=_
  unfold g9
  rw[B7 (p:=(xs.length:Int)<(xs.length:Int)) (by omega)]
  rfl
theorem b9e(xs:List Int)(h:xs.length≤140737488355328):a3d xs xs=some true:=by
 unfold a3d
 simp only[decide_true,Bool.not_true,cond]
 refine W0 (fun n x (_:Unit)=>a8 (some false) (some true) xs xs n (x:Int)) xs.length (fun _ s=>s) (fun _=>some true) (fun _ _=>True) ?_ (fun _ _ _ _=>trivial) ?_ xs.length FUEL 0 () (by omega) (D7 (by omega)) trivial
 ·intro n x s hx hs
  show c8 (a8 (some false) (some true) xs xs n) (some false) (some true) xs xs (x:Int)=_
  unfold c8
  rw[A5 (p:=(x:Int)<(xs.length:Int)) (by omega),A5 (p:=(0:Int)≤(x:Int)) (by omega),U1 (n:=(x:Int)+1) (by omega) (by omega)]
  simp
 ·intro n s hs
  show c8 (a8 (some false) (some true) xs xs n) (some false) (some true) xs xs (xs.length:Int)=_
  unfold c8
  rw[B7 (p:=(xs.length:Int)<(xs.length:Int)) (by omega)]
  rfl
theorem d9p{x:Int}(h:IntKind.has .u8 x):0≤x∧x<256:=by
 obtain⟨h1,h2⟩:=h
 simp[IntKind.min,IntKind.max,IntKind.signed,IntKind.bits]at h1 h2
 omega
theorem I6{α:Type}{xs:List α}{i:Nat}(d:α)(h:i<xs.length):xs.getD i d∈xs:=by
 have:xs.getD i d=xs[i]:=by simp[List.getD,h]
 rw[this]; exact List.getElem_mem h
def b8W(f:Nat→Bool):Nat→Nat→Bool
 |0,_=>false
 |m+1,x=>f x||b8W f m (x+1)
theorem b7a{α:Type}(q:α→Bool)(xs:List α)(d:α):∀m x,x+m=xs.length→b8W (fun i=>q (xs.getD i d)) m x=(xs.drop x).any q
 |0,x,h=>by rw[List.drop_of_length_le (by omega)]; rfl
 |m+1,x,h=>by
  rw[b8W,b7a q xs d m (x+1) (by omega),List.drop_eq_getElem_cons (show x<xs.length by omega),List.any_cons]
  simp[List.getD,List.getElem?_eq_getElem (show x<xs.length by omega)]
theorem b4y{R:Type}(L:Nat→Nat→Option R)(N:Nat)(p:Nat→Bool)(kr ke:Option R)
  (step:∀n x,x<N→L (n+1) x=cond (p x) kr (L n (x+1))) (stop:∀n,L (n+1) N=ke):
  ∀m n x,x+m=N→m<n→L n x=cond (b8W p m x) kr ke
 |0,n,x,h,hn=>by
  have:x=N:=by omega
  subst this
  obtain⟨k,rfl⟩:∃k,n=k+1:=⟨n-1,by omega⟩
  rw[stop]; rfl
 |m+1,n,x,h,hn=>by
  obtain⟨k,rfl⟩:∃k,n=k+1:=⟨n-1,by omega⟩
  rw[step k x (by omega),b8W,b4y L N p kr ke step stop m k (x+1) (by omega) (by omega)]
  cases p x<;>rfl
theorem b8M{R α:Type}(L:Nat→Nat→Option R)(xs:List α)(d:α)(q:α→Bool)(kr ke:Option R)(hl:xs.length<18446744073709551616)
  (step:∀n x,x<xs.length→L (n+1) x=cond (q (xs.getD x d)) kr (L n (x+1))) (stop:∀n,L (n+1) xs.length=ke):L FUEL 0=cond (xs.any q) kr ke:=by
 have:=b4y L xs.length (fun i=>q (xs.getD i d)) kr ke step stop xs.length FUEL 0 (by omega) (D7 hl)
 rw[this,b7a q xs d _ 0 (by omega),List.drop_zero]
theorem b2M{α:Type}(L:Nat→Nat→List α→Option (List α))(xs:List α)(d:α)(hl:xs.length<18446744073709551616)
  (step:∀n x z,x<xs.length→z.length=xs.length→L (n+1) x z=L n (x+1) (z.set x (xs.getD x d))) (stop:∀n z,L (n+1) xs.length z=some z):L FUEL 0 (List.replicate xs.length d)=some xs:=by
 have:=W0 L xs.length (fun i z=>z.set i (xs.getD i d)) (fun z=>some z) (fun _ z=>z.length=xs.length) step (fun x s _ h=>by simpa using h) (fun n s _=>stop n s) xs.length FUEL 0 (List.replicate xs.length d) (by omega) (D7 hl) (by simp)
 rw[a5U xs d _ 0 _ (by omega) (by simp) (fun j hj=>by omega)]at this
 exact this
theorem d7z{α:Type} [DecidableEq α] (L:Nat→Nat→Option Bool)(xs ys:List α)(d:α)(hl:xs.length<18446744073709551616)(he:xs.length=ys.length)
  (step:∀n x,x<xs.length→L (n+1) x=cond (!(decide (xs.getD x d=ys.getD x d))) (some false) (L n (x+1))) (stop:∀n,L (n+1) xs.length=some true):L FUEL 0=some (decide (xs=ys)):=by
 rw[b4y L xs.length (fun x=> !(decide (xs.getD x d=ys.getD x d))) (some false) (some true) step stop xs.length FUEL 0 (by omega) (D7 hl)]
 have key:∀m x,x+m=xs.length→(b8W (fun x=> !(decide (xs.getD x d=ys.getD x d))) m x=false↔xs.drop x=ys.drop x):=by
  intro m
  induction m with
  |zero=>intro x h; rw[List.drop_of_length_le (by omega),List.drop_of_length_le (by omega)]; simp[b8W]
  |succ m ih=>
   intro x h
   rw[b8W,Bool.or_eq_false_iff,ih (x+1) (by omega),List.drop_eq_getElem_cons (show x<xs.length by omega),List.drop_eq_getElem_cons (show x<ys.length by omega)]
   have g1:xs.getD x d=xs[x]'(by omega):=by simp[List.getD,List.getElem?_eq_getElem (show x<xs.length by omega)]
   have g2:ys.getD x d=ys[x]'(by omega):=by simp[List.getD,List.getElem?_eq_getElem (show x<ys.length by omega)]
   rw[g1,g2]
   simp only[Bool.not_eq_false',decide_eq_true_eq,List.cons.injEq]
 have k0:=key xs.length 0 (by omega)
 simp only[List.drop_zero]at k0
 cases ha:b8W (fun x=> !(decide (xs.getD x d=ys.getD x d))) xs.length 0 with
 |true=>
  have:¬xs=ys:=fun e=>by rw[k0.2 e]at ha; cases ha
  simp[this]
 |false=>simp[k0.1 ha]
abbrev b0S:=List Int×List Int×Unit
def a2E(e:b0S):Bool:=inR 1 e.1.length 24&&decide ((e.2.1.length:Int)≤64)
theorem b0i(e:b0S):a0c e=some (a2E e):=by
 unfold a0c a4A a2E
 simp only[a9n,B5u]
 cases inR 1 e.1.length 24<;>rfl
theorem b2L{xs:List Int}(h:∀x∈xs,Ty.ok (.int .u8) x):R6 xs:=fun x hx=>d9p (h x hx)
theorem c4z(xs ys:List Int)(h:xs.length≤140737488355328):a2B xs ys=some (decide (xs=ys)):=by
 unfold a2B
 by_cases he:xs.length=ys.length
 ·rw [A5 (p:=(xs.length:Int)=(ys.length:Int)) (by omega)]
  refine d7z (fun n x=>X9 (some false) (some true) xs ys n (x:Int)) xs ys 0 (by omega) he (fun n x hx=> ?_) (fun n=> ?_)
  ·show Y0 (X9 (some false) (some true) xs ys n) (some false) (some true) xs ys (x:Int)=_
   unfold Y0
   simp only[Int.toNat_natCast]
   rw[A5 (p:=(x:Int)<(xs.length:Int)) (by omega),A5 (p:=(x:Int)<(ys.length:Int)) (by omega),A5 (p:=(0:Int)≤(x:Int)) (by omega),U1 (n:=(x:Int)+1) (by omega) (by omega)]
   rfl
  ·show Y0 (X9 (some false) (some true) xs ys n) (some false) (some true) xs ys (xs.length:Int)=_
   unfold Y0
   rw[B7 (p:=(xs.length:Int)<(xs.length:Int)) (by omega)]
   rfl
 ·rw [B7 (p:=(xs.length:Int)=(ys.length:Int)) (by omega),B7 (p:=xs=ys) (fun h=>he (by rw[h]))]
  rfl
def a4K{α:Type}(g:Int→α)(k:Int)(N:Nat):List α:=(List.range N).map fun(i:Nat)=>g (k+(i:Int))
theorem a5N{α:Type}(g:Int→α)(k:Int)(N:Nat):(a4K g k N).length=N:=by simp[a4K]
theorem c4C{α:Type}(g:Int→α)(k:Int)(N:Nat)(d:α)(i:Nat)(h:i<N):(a4K g k N).getD i d=g (k+(i:Int)):=by
 unfold a4K
 simp[List.getD,h]
theorem d0F{R α:Type}(L:Nat→Nat→Int→List α→Option R)(N:Nat)(k0:Int)(g:Int→α)(ke:Int→List α→Option R)(hN:N<18446744073709551616)
  (step:∀n x k z,x<N→z.length=N→k=k0+(x:Int)→L (n+1) x k z=L n (x+1) (k+1) (z.set x (g k)))
  (stop:∀n k z,z.length=N→L (n+1) N k z=ke k z) (z:List α) (hz:z.length=N):L FUEL 0 k0 z=ke (k0+(N:Int)) (a4K g k0 N):=by
 have key:∀m n x k z,x+m=N→m<n→k=k0+(x:Int)→z.length=N→(∀ j,j<x→z[j]? =some (g (k0+(j:Int))))→L n x k z=ke (k0+(N:Int)) (a4K g k0 N):=by
  intro m
  induction m with
  |zero=>
   intro n x k z h hn hk hz hj
   have:x=N:=by omega
   subst this
   obtain⟨q,rfl⟩:∃q,n=q+1:=⟨n-1,by omega⟩
   rw[stop q k z hz,hk]
   congr 1
   apply List.ext_getElem?
   intro j
   by_cases hjx:j<x
   ·rw [hj j hjx]; simp[a4K,hjx]
   ·rw [List.getElem?_eq_none (by omega),List.getElem?_eq_none (by rw[a5N]; omega)]
  |succ m ih=>
   intro n x k z h hn hk hz hj
   obtain⟨q,rfl⟩:∃q,n=q+1:=⟨n-1,by omega⟩
   rw[step q x k z (by omega) hz hk]
   refine ih q (x+1) (k+1) (z.set x (g k)) (by omega) (by omega) (by omega) (by simpa using hz) fun j hjx=> ?_
   rw[List.getElem?_set]
   by_cases e:x=j
   ·subst e
    rw[if_pos rfl,if_pos (by omega),hk]
   ·rw [if_neg e]; exact hj j (by omega)
 exact key N FUEL 0 k0 z (by omega) (D7 hN) (by simp) hz (fun j hj=>by omega)
theorem d0C{R:Type}(L:Nat→Nat→Int→Option R)(N:Nat)(k0:Int)(ke:Int→Option R)(hN:N<18446744073709551616)
  (step:∀n x k,x<N→k=k0+(x:Int)→L (n+1) x k=L n (x+1) (k+1)) (stop:∀n k,L (n+1) N k=ke k):L FUEL 0 k0=ke (k0+(N:Int)):=by
 have key:∀m n x k,x+m=N→m<n→k=k0+(x:Int)→L n x k=ke (k0+(N:Int)):=by
  intro m
  induction m with
  |zero=>
   intro n x k h hn hk
   have:x=N:=by omega
   subst this
   obtain⟨q,rfl⟩:∃q,n=q+1:=⟨n-1,by omega⟩
   rw[stop,hk]
  |succ m ih=>
   intro n x k h hn hk
   obtain⟨q,rfl⟩:∃q,n=q+1:=⟨n-1,by omega⟩
   rw[step q x k (by omega) hk]
   exact ih q (x+1) (k+1) (by omega) (by omega) (by omega)
 exact key N FUEL 0 k0 (by omega) (D7 hN) (by simp)
theorem a8v{α:Type}(l:List α)(y:α)(r:List α)(d:α):(l++y::r).getD l.length d=y:=by simp[List.getD]
theorem b2H{α:Type}(l:List α)(y v:α)(r:List α):(l++y::r).set l.length v=l++v::r:=by
 rw[List.set_append_right _ _ (by omega)]; simp
def a3m{α:Type}(mk:α→Int→α)(sz:α→Nat):List α→Int→List α
 | [],_=>[]
 |y::r,k=>mk y k::a3m mk sz r (k+(sz y:Int))
def I7{α:Type}(sz:α→Nat):List α→Nat
 | []=>0
 |y::r=>sz y+I7 sz r
theorem a4Y{α:Type}(mk:α→Int→α)(sz:α→Nat):∀(l:List α) (k:Int),(a3m mk sz l k).length=l.length
 | [],_=>rfl
 |y::r,k=>by simp[a3m,a4Y mk sz r]
theorem b8N{R α:Type}(L:Nat→Nat→Int→List α→Option R)(mk:α→Int→α)(sz:α→Nat)(ke:Int→List α→Option R)(zs:List α)(hN:zs.length<18446744073709551616)(k0:Int)
  (step:∀n (l:List α) y r k,l.length+r.length+1=zs.length→y∈zs→k0≤k→k+(sz y:Int)≤k0+(I7 sz zs:Int)→L (n+1) l.length k (l++y::r)=L n (l.length+1) (k+(sz y:Int)) (l++mk y k::r))
  (stop:∀n k z,z.length=zs.length→L (n+1) zs.length k z=ke k z):L FUEL 0 k0 zs=ke (k0+(I7 sz zs:Int)) (a3m mk sz zs k0):=by
 have key:∀(r l:List α) n k,l.length+r.length=zs.length→(∀ y∈r,y∈zs)→r.length<n→k0≤k→k+(I7 sz r:Int)=k0+(I7 sz zs:Int)→L n l.length k (l++r)=ke (k0+(I7 sz zs:Int)) (l++a3m mk sz r k):=by
  intro r
  induction r with
  |nil=>
   intro l n k h _ hn _ hk
   obtain⟨q,rfl⟩:∃q,n=q+1:=⟨n-1,by omega⟩
   have:l.length=zs.length:=by simpa using h
   rw[this,stop q k _ (by simpa using h),a3m]
   congr 1
   simpa[I7]using hk
  |cons y r ih=>
   intro l n k h hm hn hk hs
   obtain⟨q,rfl⟩:∃q,n=q+1:=⟨n-1,by omega⟩
   simp only[I7,List.length_cons]at hs h hn
   rw[step q l y r k (by omega) (hm y (by simp)) hk (by omega)]
   have:=ih (l++[mk y k]) q (k+(sz y:Int)) (by simp; omega) (fun z hz=>hm z (by simp[hz])) (by omega) (by omega) (by omega)
   simp only[List.length_append,List.length_cons,List.length_nil,List.append_assoc,List.cons_append,List.nil_append]at this
   rw[a3m]; exact this
 exact key zs [] FUEL k0 (by simp) (fun y hy=>hy) (D7 hN) (by omega) rfl
theorem d0B{R α:Type}(L:Nat→Nat→Int→Option R)(mk:α→Int→α)(sz:α→Nat)(ke:Int→Option R)(zs:List α)(hN:zs.length<18446744073709551616)(k0:Int)
  (step:∀n (l:List α) y r k,a3m mk sz zs k0=l++mk y k::r→l.length<zs.length→y∈zs→k0≤k→k+(sz y:Int)≤k0+(I7 sz zs:Int)→L (n+1) l.length k=L n (l.length+1) (k+(sz y:Int)))
  (stop:∀n k,L (n+1) zs.length k=ke k):L FUEL 0 k0=ke (k0+(I7 sz zs:Int)):=by
 have key:∀(r l:List α) n k,a3m mk sz zs k0=l++a3m mk sz r k→(∀ y∈r,y∈zs)→r.length<n→k0≤k→k+(I7 sz r:Int)=k0+(I7 sz zs:Int)→L n l.length k=ke (k0+(I7 sz zs:Int)):=by
  intro r
  induction r with
  |nil=>
   intro l n k h _ hn _ hk
   obtain⟨q,rfl⟩:∃q,n=q+1:=⟨n-1,by omega⟩
   have hl:l.length=zs.length:=by
    have:=congrArg List.length h
    simp only[a4Y,List.length_append,List.length_nil]at this
    simpa[a3m]using this.symm
   rw[hl,stop]
   congr 1
   simpa[I7]using hk
  |cons y r ih=>
   intro l n k h hm hn hk hs
   obtain⟨q,rfl⟩:∃q,n=q+1:=⟨n-1,by omega⟩
   simp only[I7,List.length_cons]at hs hn
   have hl:l.length<zs.length:=by
    have:=congrArg List.length h
    simp only[a4Y,List.length_append,List.length_cons]at this
    omega
   rw[step q l y _ k h hl (hm y (by simp)) hk (by omega)]
   have:=ih (l++[mk y k]) q (k+(sz y:Int)) (by rw[h]; simp[a3m]) (fun z hz=>hm z (by simp[hz])) (by omega) (by omega) (by omega)
   simpa using this
 exact key zs [] FUEL k0 (by simp) (fun y hy=>hy) (D7 hN) (by omega) rfl
theorem b8S{R α:Type}(L:Nat→Nat→Option R)(zs:List α)(d:α)(ke:Option R)(hN:zs.length<18446744073709551616)
  (step:∀n x,x<zs.length→zs.getD x d∈zs→L (n+1) x=L n (x+1)) (stop:∀n,L (n+1) zs.length=ke):L FUEL 0=ke:=by
 have:=W0 (fun n x (_:Unit)=>L n x) zs.length (fun _ s=>s) (fun _=>ke) (fun _ _=>True) (fun n x s hx _=>step n x hx (I6 d hx)) (fun _ _ _ _=>trivial) (fun n s _=>stop n) zs.length FUEL 0 () (by omega) (D7 hN) trivial
 exact this
abbrev mkB(l:List Int)(k:Int):List Int:=a4K (fun k=>IntKind.wrap .u8 k) k l.length
theorem c1m(xs:List Int)(k:Int)(h0:0≤k)(h:k+(xs.length:Int)≤4611686018427387904):a1H xs k=some (mkB xs k,k+(xs.length:Int)):=by
 unfold a1H
 refine d0F (fun n x k z=>V1 (fun x1 z7=>some (z7,x1)) n k (x:Int) z) xs.length k (fun k=>IntKind.wrap .u8 k) (fun k z=>some (z,k)) (by omega) (fun n x k' z hx hz hk=> ?_) (fun n k z hz=> ?_) xs rfl
 ·show V2 (V1 (fun x1 z7=>some (z7,x1)) n) (fun x1 z7=>some (z7,x1)) k' (x:Int) z=_
  unfold V2
  simp only[Int.toNat_natCast]
  rw[hz,A5 (p:=(x:Int)<(xs.length:Int)) (by omega),A5 (p:=(0:Int)≤(x:Int)) (by omega),U1 (n:=(x:Int)+1) (by omega) (by omega),U1 (n:=k'+1) (by omega) (by omega)]
  rfl
 ·show V2 (V1 (fun x1 z7=>some (z7,x1)) n) (fun x1 z7=>some (z7,x1)) k (xs.length:Int) z=_
  unfold V2
  rw[hz,B7 (p:=(xs.length:Int)<(xs.length:Int)) (by omega)]
  rfl
theorem c1g(xs:List Int)(k:Int)(h0:0≤k)(h:k+(xs.length:Int)≤4611686018427387904):a1G (mkB xs k) k=some (k+(xs.length:Int)):=by
 unfold a1G
 have hl:=a5N (fun k:Int=>IntKind.wrap .u8 k) k xs.length
 refine d0C (fun n x k'=>U9 (some (-1)) (fun x1=>some x1) (mkB xs k) n k' (x:Int)) xs.length k (fun k=>some k) (by omega) (fun n x k' hx hk=> ?_) (fun n k'=> ?_)
 ·show V0 (U9 (some (-1)) (fun x1=>some x1) (mkB xs k) n) (some (-1)) (fun x1=>some x1) (mkB xs k) k' (x:Int)=_
  unfold V0
  simp only[Int.toNat_natCast]
  simp only[mkB,c4C _ _ _ _ _ hx,hk,decide_true]
  rw[hl,A5 (p:=(x:Int)<(xs.length:Int)) (by omega),A5 (p:=(0:Int)≤(x:Int)) (by omega),U1 (n:=(x:Int)+1) (by omega) (by omega),U1 (n:=k+(x:Int)+1) (by omega) (by omega)]
  rfl
 ·show V0 (U9 (some (-1)) (fun x1=>some x1) (mkB xs k) n) (some (-1)) (fun x1=>some x1) (mkB xs k) k' (xs.length:Int)=_
  unfold V0
  simp only[mkB]
  rw[hl,B7 (p:=(xs.length:Int)<(xs.length:Int)) (by omega)]
  rfl
theorem a1X(ds:G5)(x:Nat)(h:x<ds.length):(ds.take (x+1)).flatten=(ds.take x).flatten++ds.getD x []:=by
 rw[List.take_add_one,List.flatten_append]
 simp[List.getD,List.getElem?_eq_getElem h]
theorem b0P(ds:G5)(x:Nat):(ds.take x).flatten.length≤ds.flatten.length:=by
 conv=>rhs; rw[← List.take_append_drop x ds]
 rw[List.flatten_append,List.length_append]
 omega
theorem c8s(ds:G5)(hl:ds.length≤1073741824)(h:ds.flatten.length≤1073741824):U6 ds=some ds.flatten:=by
 unfold U6
 let ke:Int→Option (A2K G3):=fun x3=>(A1w (W6 [] x3) fun(b1:(List Int))=>(E9 (fun H6=>(some H6)) ds FUEL b1 (0:Int)))
 have step0:∀n x (s:Int),x<ds.length→s=((ds.take x).flatten.length:Int)→F8 ke ds (n+1) s (x:Int)=F8 ke ds n (s+((ds.getD x []).length:Int)) ((x+1:Nat):Int):=by
  intro n x s hx hs
  have h1:=b0P ds (x+1)
  rw[a1X ds x hx,List.length_append]at h1
  show I1 (F8 ke ds n) ke ds s (x:Int)=_
  unfold I1
  have e1:=U1 (n:=s+((ds.getD x []).length:Int)) (by omega) (by omega)
  simp only[Int.toNat_natCast,e1]
  rw[U1 (n:=(x:Int)+1) (by omega) (by omega),A5 (p:=(x:Int)<(ds.length:Int)) (by omega),A5 (p:=(0:Int)≤(x:Int)) (by omega),B7 (p:=s+((ds.getD x []).length:Int)<0) (by omega)]
  rfl
 have key0:=W0 (fun n x (s:Int)=>F8 ke ds n s (x:Int)) ds.length (fun x s=>s+((ds.getD x []).length:Int)) ke (fun x s=>s=((ds.take x).flatten.length:Int)) step0
  (fun x s hx hs=>by rw[a1X ds x hx,List.length_append]; omega) (fun n s _=>by
   show I1 (F8 ke ds n) ke ds s (ds.length:Int)=_
   unfold I1
   rw[B7 (p:=(ds.length:Int)<(ds.length:Int)) (by omega)]
   rfl) ds.length FUEL 0 0 (by omega) (D7 (by omega)) (by simp)
 have inv0:=b0Q (f:=fun x (s:Int)=>s+((ds.getD x []).length:Int)) (N:=ds.length) (I:=fun x s=>s=((ds.take x).flatten.length:Int)) (fun x s hx hs=>by rw[a1X ds x hx,List.length_append]; omega) ds.length 0 0 (by omega) (by simp)
 rw[inv0,List.take_length]at key0
 refine Eq.trans key0 ?_
 simp only[ke]
 have hg:W6 [] (ds.flatten.length:Int)=some []:=by
  unfold W6
  rw[A5 (p:=(0:Int)≤(ds.flatten.length:Int)) (by omega),A5 (p:=(((([]:List Int).length:Int)+(ds.flatten.length:Int))*((1:Nat):Int)≤140737488355328)) (by simp only[List.length_nil]; omega),A5 (p:=((([]:List Int).length:Int)+(ds.flatten.length:Int)≤4611686018427387904)) (by simp only[List.length_nil]; omega)]
  rfl
 rw[hg,B5u]
 have step1:∀n x (z:List Int),x<ds.length→z=(ds.take x).flatten→E9 (fun H6=>(some H6)) ds (n+1) z (x:Int)=E9 (fun H6=>(some H6)) ds n (z++ds.getD x []) ((x+1:Nat):Int):=by
  intro n x z hx hz
  have h1:=b0P ds (x+1)
  rw[a1X ds x hx,List.length_append]at h1
  show I2 (E9 (fun H6=>(some H6)) ds n) (fun H6=>(some H6)) ds z (x:Int)=_
  unfold I2
  simp only[Int.toNat_natCast]
  rw[U1 (n:=(x:Int)+1) (by omega) (by omega),A5 (p:=(x:Int)<(ds.length:Int)) (by omega),A5 (p:=(0:Int)≤(x:Int)) (by omega),A5 (p:=(z.length+(ds.getD x []).length)*1≤140737488355328) (by rw[hz]; omega),A5 (p:=z.length+(ds.getD x []).length≤9223372036854775807) (by rw[hz]; omega)]
  rfl
 have key1:=W0 (fun n x (z:List Int)=>E9 (fun H6=>(some H6)) ds n z (x:Int)) ds.length (fun x z=>z++ds.getD x []) (fun z=>some z) (fun x z=>z=(ds.take x).flatten) step1
  (fun x z hx hz=>by rw[a1X ds x hx,hz]) (fun n z _=>by
   show I2 (E9 (fun H6=>(some H6)) ds n) (fun H6=>(some H6)) ds z (ds.length:Int)=_
   unfold I2
   rw[B7 (p:=(ds.length:Int)<(ds.length:Int)) (by omega)]
   rfl) ds.length FUEL 0 [] (by omega) (D7 (by omega)) (by simp)
 have inv1:=b0Q (f:=fun x (z:List Int)=>z++ds.getD x []) (N:=ds.length) (I:=fun x z=>z=(ds.take x).flatten) (fun x z hx hz=>by rw[a1X ds x hx,hz]) ds.length 0 [] (by omega) (by simp)
 rw[inv1,List.take_length]at key1
 exact key1
theorem b2p{α:Type}(g:Nat→α):∀(m x:Nat) (z:List α),a4Z (fun x z=>z++[g x]) m x z=z++(List.range' x m).map g
 |0,x,z=>by simp[a4Z]
 |m+1,x,z=>by rw[a4Z,b2p g m (x+1)]; simp[List.range'_succ]
noncomputable def leB(v:Int)(k:Nat):List Int:=(List.range' 0 k).map fun i=>IntKind.wrap .u8 (B5H .u64 v ((8*i:Nat):Int))
theorem a5v(v:Int)(k:Nat):(leB v k).length=k:=by simp[leB]
theorem a7p(z:List Int)(v:Int)(k:Nat)(hk:k≤8)(hz:z.length≤1073741824):L6 z v (k:Int)=some (z++leB v k):=by
 unfold L6
 have key:=W0 (fun n x (s:List Int)=>O0 (fun L4=>some L4) v (k:Int) n (x:Int) s) k (fun x s=>s++[IntKind.wrap .u8 (B5H .u64 v ((8*x:Nat):Int))]) (fun z=>some z) (fun x s=>s.length=z.length+x) (fun n x s hx hs=>by
  show O1 (O0 (fun L4=>some L4) v (k:Int) n) (fun L4=>some L4) v (k:Int) (x:Int) s=_
  unfold O1
  have e1:IntKind.wrap .i64 ((8:Int)*(x:Int))=((8*x:Nat):Int):=by rw[U1 (by omega) (by omega)]; omega
  simp only[e1]
  rw[A5 (p:=(x:Int)<(k:Int)) (by omega),B7 (p:=((8*x:Nat):Int)<0) (by omega),A5 (p:=(s.length+1)*1≤140737488355328) (by omega),A5 (p:=s.length+1≤9223372036854775807) (by omega),U1 (n:=(x:Int)+1) (by omega) (by omega)]
  rfl) (fun x s _ hs=>by simp[hs]; omega) (fun n s _=>by
  show O1 (O0 (fun L4=>some L4) v (k:Int) n) (fun L4=>some L4) v (k:Int) (k:Int) s=_
  unfold O1
  rw[B7 (p:=(k:Int)<(k:Int)) (by omega)]
  rfl) k FUEL 0 z (by omega) (D7 (by omega)) (by simp)
 rw[b2p]at key
 exact key
def a8z(n:Nat):Nat:=(56-n % 32) % 32
theorem b4C{R:Type}(L:Nat→List Int→Option R)(ke:List Int→Option R)(b B:Nat)(step:∀n z,z.length≤B→(b+z.length) % 32≠24→L (n+1) z=L n (z++[0]))(stop:∀n z,z.length≤B→(b+z.length) % 32=24→L (n+1) z=ke z):
  ∀m n z,m<n→z.length+m≤B→a8z (b+z.length)=m→L n z=ke (z++List.replicate m 0)
 |0,n,z,hn,hB,hm=>by
  obtain⟨q,rfl⟩:∃q,n=q+1:=⟨n-1,by omega⟩
  rw[stop q z (by omega) (by unfold a8z at hm; omega)]
  simp
 |m+1,n,z,hn,hB,hm=>by
  obtain⟨q,rfl⟩:∃q,n=q+1:=⟨n-1,by omega⟩
  rw[step q z (by omega) (by unfold a8z at hm; omega),b4C L ke b B step stop m q (z++[0]) (by omega) (by simp; omega) (by simp only[List.length_append,List.length_cons,List.length_nil]; unfold a8z at hm ⊢; omega)]
  congr 1
  simp[List.replicate_succ]
noncomputable def a5K(n:Nat):List Int:=[128]++List.replicate (a8z (n+1)) 0++leB (n:Int) 8
theorem c1v(n:Nat):Int.tmod (n:Int) 32=((n % 32:Nat):Int):=rfl
theorem c6V(n:Nat)(hn:n≤1073741824):a3b (n:Int)=some (a5K n):=by
 unfold a3b
 let ke:List Int→Option (A2K a0j):=fun B9=>(A1w (L6 B9 (IntKind.wrap .u64 (n:Int)) (8:Int)) fun(b3:(List Int))=>(some b3))
 have hp:a8z (n+1)<32:=by unfold a8z; omega
 have key:=b4C (fun f z=>Z5 ke (n:Int) f z) ke n 64 (fun f z hz h=>by
  show Z6 (Z5 ke (n:Int) f) ke (n:Int) z=_
  unfold Z6 H8
  have e1:Int.tmod (IntKind.wrap .i64 ((n:Int)+(z.length:Int))) 32=(((n+z.length) % 32:Nat):Int):=by
   rw[U1 (by omega) (by omega),←Int.natCast_add,c1v]
  simp only[B5u,e1]
  rw[B7 (p:=(((n+z.length) % 32:Nat):Int)=24) (by omega),A5 (p:=(z.length+1)*1≤140737488355328) (by omega),A5 (p:=z.length+1≤9223372036854775807) (by omega)]
  rfl) (fun f z hz h=>by
  show Z6 (Z5 ke (n:Int) f) ke (n:Int) z=_
  unfold Z6 H8
  have e1:Int.tmod (IntKind.wrap .i64 ((n:Int)+(z.length:Int))) 32=(((n+z.length) % 32:Nat):Int):=by
   rw[U1 (by omega) (by omega),←Int.natCast_add,c1v]
  simp only[B5u,e1]
  rw[A5 (p:=(((n+z.length) % 32:Nat):Int)=24) (by omega)]
  rfl) (a8z (n+1)) FUEL [128] (D7 (by omega)) (by simp; omega) rfl
 refine Eq.trans key ?_
 simp only[ke]
 have h8:=a7p ([128]++List.replicate (a8z (n+1)) 0) (n:Int) 8 (by omega) (by simp; omega)
 rw[c1y (n:=(n:Int)) (by omega) (by omega)]
 have h8':L6 ([128]++List.replicate (a8z (n+1)) 0) (n:Int) (8:Int)=_:=h8
 rw[h8',B5u]
 rfl
theorem d0I(n:Nat)(hn:n≤1073741824)(z:List Int)(hz:z.length≤2147483648):P1 (fun B4=>some B4) FUEL z (n:Int) 0=some (z++leB (n:Int) 8):=by
 have hdiv:∀x,n / 256 ^ x≤n:=fun x=>Nat.div_le_self _ _
 have key:=W0 (fun f x (s:List Int×Nat)=>P1 (fun B4=>some B4) f s.1 (s.2:Int) (x:Int)) 8 (fun x s=>(s.1++[IntKind.wrap .u8 ((s.2 % 256:Nat):Int)],s.2 / 256)) (fun s=>some s.1) (fun x s=>s.2≤n∧s.1.length=z.length+x) (fun f x s hx hs=>by
  obtain⟨hs,hs2⟩:=hs
  show a0x (P1 (fun B4=>some B4) f) (fun B4=>some B4) s.1 (s.2:Int) (x:Int)=_
  unfold a0x
  have e1:Int.tmod (s.2:Int) 256=((s.2 % 256:Nat):Int):=rfl
  have e2:IntKind.wrap .i64 (Int.tdiv (s.2:Int) 256)=((s.2 / 256:Nat):Int):=by
   have:Int.tdiv (s.2:Int) 256=((s.2 / 256:Nat):Int):=rfl
   rw[this,U1 (by omega) (by omega)]
  simp only[e1,e2]
  rw[A5 (p:=(x:Int)<8) (by omega),A5 (p:=(s.1.length+1)*1≤140737488355328) (by omega),A5 (p:=s.1.length+1≤9223372036854775807) (by omega),U1 (n:=(x:Int)+1) (by omega) (by omega)]
  rfl) (fun x s _ hs=>⟨Nat.le_trans (Nat.div_le_self _ _) hs.1,by simp[hs.2]; omega⟩) (fun f s _=>rfl) 8 FUEL 0 (z,n) (by omega) (D7 (by omega)) ⟨Nat.le_refl _,by simp⟩
 refine Eq.trans key ?_
 have hb:∀i:Nat,i<8→IntKind.wrap .u8 (((n / 256 ^ i) % 256:Nat):Int)=IntKind.wrap .u8 (B5H .u64 (n:Int) ((8*i:Nat):Int)):=by
  intro i hi
  unfold B5H
  have e1:min ((8*i:Nat):Int).toNat (IntKind.u64).bits=8*i:=by simp[IntKind.bits]; omega
  rw[e1]
  have e2:(256:Nat) ^ i=2 ^ (8*i):=by rw[Nat.pow_mul]
  rw[e2]
  have hpow:((2:Int) ^ (8*i))=((2 ^ (8*i):Nat):Int):=by simp
  have e3:(n:Int).fdiv ((2:Int) ^ (8*i))=((n / 2 ^ (8*i):Nat):Int):=by
   rw[hpow]; exact(Int.ofNat_fdiv n _).symm
  rw[e3,IntKind.wrap_u8,IntKind.wrap_u8]
  omega
 have hu:(a4Z (fun x (s:List Int×Nat)=>(s.1++[IntKind.wrap .u8 ((s.2 % 256:Nat):Int)],s.2 / 256)) 8 0 (z,n)).1=z++leB (n:Int) 8:=by
  simp only[a4Z,leB,List.range'_succ,List.range'_zero,List.map_cons,List.map_nil,List.append_assoc,List.cons_append,List.nil_append,Nat.zero_add,Nat.reduceAdd]
  simp only[← hb 0 (by omega),←hb 1 (by omega),←hb 2 (by omega),←hb 3 (by omega),←hb 4 (by omega),←hb 5 (by omega),←hb 6 (by omega),←hb 7 (by omega)]
  simp only[Nat.div_div_eq_div_mul,Nat.reducePow,Nat.reduceMul,Nat.div_one]
 rw[hu]
theorem b4E(d:List Int)(n:Nat)(hn:n=d.length)(hd:d.length≤1073741824):a0G d (n:Int)=some (d++a5K n):=by
 subst hn
 unfold a0G
 let ke:List Int→Option (A2K R1):=fun B4=>(P1 (fun B4=>(some B4)) FUEL B4 (d.length:Int) (0:Int))
 have hp:a8z (d.length+1)<32:=by unfold a8z; omega
 rw[A5 (p:=(0+d.length)*1≤140737488355328) (by omega),A5 (p:=0+d.length≤9223372036854775807) (by omega),A5 (p:=((([]:List Int)++d).length+1)*1≤140737488355328) (by simp; omega),A5 (p:=(([]:List Int)++d).length+1≤9223372036854775807) (by simp; omega)]
 have key:=b4C (fun f z=>V6 ke (d.length:Int) f z) ke 0 (d.length+64) (fun f z hz h=>by
  show V7 (V6 ke (d.length:Int) f) ke (d.length:Int) z=_
  unfold V7
  simp only[c1v]
  rw[B7 (p:=((z.length % 32:Nat):Int)=24) (by omega),A5 (p:=(z.length+1)*1≤140737488355328) (by omega),A5 (p:=z.length+1≤9223372036854775807) (by omega)]
  rfl) (fun f z hz h=>by
  show V7 (V6 ke (d.length:Int) f) ke (d.length:Int) z=_
  unfold V7
  simp only[c1v]
  rw[A5 (p:=((z.length % 32:Nat):Int)=24) (by omega)]
  rfl) (a8z (d.length+1)) FUEL (d++[128]) (D7 (by omega)) (by simp; omega) (by simp)
 refine Eq.trans key ?_
 simp only[ke]
 rw[d0I d.length hd _ (by simp; omega)]
 unfold a5K
 simp
def a7v(p:List Int)(i:Nat):List Int:=(p.drop (32*i)).take 32
def a7w(p:List Int):G5:=(List.range' 0 (p.length / 32)).map (a7v p)
theorem b2q{p:List Int}{i:Nat}(h:i<p.length / 32):(a7v p i).length=32:=by
 unfold a7v
 rw[List.length_take,List.length_drop]
 omega
theorem c7c{p:List Int}(hp:R6 p)(i:Nat):R6 (a7v p i):=fun x hx=>hp x (List.mem_of_mem_drop (List.mem_of_mem_take hx))
theorem c8t(p:List Int)(hl:p.length≤2147483648)(h32:p.length % 32=0):a3v p=some (a7w p,[]):=by
 unfold a3v
 have key:=W0 (fun n i (z:G5)=>p6 (fun x0 L5=>some (L5,x0)) n (p.drop (32*i)) z) (p.length / 32) (fun i z=>z++[a7v p i]) (fun z=>some (z,[])) (fun i z=>z.length=i) (fun n i z hi hz=>by
  show p7 (p6 (fun x0 L5=>some (L5,x0)) n) (fun x0 L5=>some (L5,x0)) (p.drop (32*i)) z=_
  unfold p7
  have hlen:(p.drop (32*i)).length=p.length-32*i:=List.length_drop
  rw[hlen,A5 (p:=(32:Int)≤((p.length-32*i:Nat):Int)) (by omega),A5 (p:=32≤p.length-32*i) (by omega),A5 (p:=(z.length+1)*32≤140737488355328) (by omega),A5 (p:=z.length+1≤9223372036854775807) (by omega)]
  have hc:A3F (p.drop (32*i)) 32 (p.length-32*i)=p.drop (32*(i+1)):=by
   unfold A3F
   rw[List.drop_drop,List.take_of_length_le (by rw[List.length_drop]; omega)]
   congr 1
  rw[hc]
  rfl) (fun i z _ hz=>by simp[hz]) (fun n z hz=>by
  show p7 (p6 (fun x0 L5=>some (L5,x0)) n) (fun x0 L5=>some (L5,x0)) (p.drop (32*(p.length / 32))) z=_
  unfold p7
  have hd:p.drop (32*(p.length / 32))=[]:=List.drop_of_length_le (by omega)
  rw[hd]
  rfl) (p.length / 32) FUEL 0 [] (by omega) (D7 (by omega)) rfl
 rw[b2p]at key
 exact key
noncomputable def c1n(s:List Int)(p:List Int):List Int:=a4Z (fun i s=>c1o s (a7v p i)) (p.length / 32) 0 s
theorem d4e(s p:List Int)(hp:R6 p)(hl:p.length≤2147483648):a3V s (a7w p)=some (c1n s p):=by
 unfold a3V
 have hn:(a7w p).length=p.length / 32:=by simp[a7w]
 have hg:∀i,i<p.length / 32→(a7w p).getD i (List.replicate 32 (0:Int))=a7v p i:=fun i hi=>by
  unfold a7w
  simp[List.getD,hi]
 have key:=W0 (fun n i (s:List Int)=>a0h (fun y20=>some y20) (a7w p) n (i:Int) s) (p.length / 32) (fun i s=>c1o s (a7v p i)) (fun s=>some s) (fun _ _=>True) (fun n i s hi _=>by
  show a0i (a0h (fun y20=>some y20) (a7w p) n) (fun y20=>some y20) (a7w p) (i:Int) s=_
  unfold a0i
  simp only[Int.toNat_natCast]
  rw[hg i hi,c4q s (a7v p i) (c7c hp i) (b2q hi),B5u,hn,A5 (p:=(i:Int)<((p.length / 32:Nat):Int)) (by omega),A5 (p:=(0:Int)≤(i:Int)) (by omega),U1 (n:=(i:Int)+1) (by omega) (by omega)]
  rfl) (fun _ _ _ _=>trivial) (fun n s _=>by
  show a0i (a0h (fun y20=>some y20) (a7w p) n) (fun y20=>some y20) (a7w p) ((p.length / 32:Nat):Int) s=_
  unfold a0i
  rw[hn,B7 (p:=((p.length / 32:Nat):Int)<((p.length / 32:Nat):Int)) (by omega)]
  rfl) (p.length / 32) FUEL 0 s (by omega) (D7 (by omega)) trivial
 exact key
theorem b6P(p:List Int)(i:Nat)(hi:32*i+32≤p.length)(hl:p.length≤2147483648):a2A p ((32*i:Nat):Int)=some (a7v p i):=by
 unfold a2A
 have hbl:(a7v p i).length=32:=b2q (by omega)
 have hg:∀x,x<32→(a7v p i).getD x 0=p.getD (32*i+x) 0:=fun x hx=>by
  unfold a7v
  simp only[List.getD,List.getElem?_take,hx,if_true,List.getElem?_drop]
 have key:=W0 (fun n x (y:List Int)=>s5 (fun G4=>some G4) p ((32*i:Nat):Int) n (x:Int) y) 32 (fun x y=>y.set x ((a7v p i).getD x 0)) (fun y=>some y) (fun _ _=>True) (fun n x y hx _=>by
  show a0W (s5 (fun G4=>some G4) p ((32*i:Nat):Int) n) (fun G4=>some G4) p ((32*i:Nat):Int) (x:Int) y=_
  unfold a0W
  have e1:IntKind.wrap .i64 (((32*i:Nat):Int)+(x:Int))=((32*i+x:Nat):Int):=by rw[U1 (by omega) (by omega)]; omega
  simp only[e1,Int.toNat_natCast]
  rw[hg x hx,A5 (p:=(x:Int)<32) (by omega),A5 (p:=(0:Int)≤((32*i+x:Nat):Int)) (by omega),A5 (p:=((32*i+x:Nat):Int)<(p.length:Int)) (by omega),A5 (p:=(0:Int)≤(x:Int)) (by omega),U1 (n:=(x:Int)+1) (by omega) (by omega)]
  rfl) (fun _ _ _ _=>trivial) (fun n y _=>rfl) 32 FUEL 0 (List.replicate 32 0) (by omega) (D7 (by omega)) trivial
 have hc:=a5U (a7v p i) 0 32 0 (List.replicate 32 0) (by omega) (by rw[hbl]; exact List.length_replicate) (fun j hj=>by omega)
 rw[hc]at key
 exact key
theorem b6V(ke:List Int→Option (A2K h9))(s p:List Int)(hp:R6 p)(hl:p.length≤2147483648)(h32:p.length % 32=0):Y8 ke FUEL p 0 s=ke (c1n s p):=by
 have key:=W0 (fun n i (s:List Int)=>Y8 ke n p ((32*i:Nat):Int) s) (p.length / 32) (fun i s=>c1o s (a7v p i)) ke (fun _ _=>True) (fun n i s hi _=>by
  show s7 (Y8 ke n) ke p ((32*i:Nat):Int) s=_
  unfold s7
  have e1:IntKind.wrap .i64 (((32*i:Nat):Int)+32)=((32*(i+1):Nat):Int):=by rw[U1 (by omega) (by omega)]; omega
  rw[e1,b6P p i (by omega) hl,B5u,c4H s (a7v p i) (c7c hp i),B5u,A5 (p:=((32*i:Nat):Int)<(p.length:Int)) (by omega)]
  rfl) (fun _ _ _ _=>trivial) (fun n s _=>by
  show s7 (Y8 ke n) ke p ((32*(p.length / 32):Nat):Int) s=_
  unfold s7
  rw[B7 (p:=((32*(p.length / 32):Nat):Int)<(p.length:Int)) (by omega)]
  rfl) (p.length / 32) FUEL 0 s (by omega) (D7 (by omega)) trivial
 exact key
noncomputable def b2i(s:List Int):List Int:=(List.range' 0 32).map fun j=>IntKind.wrap .u8 (B5H .u32 (s.getD (j / 4) 0) ((8*(j % 4):Nat):Int))
theorem a5H(s:List Int):(b2i s).length=32:=by simp[b2i]
theorem c4x(s:List Int)(j:Nat)(h:j<32):(b2i s)[j]? =some (IntKind.wrap .u8 (B5H .u32 (s.getD (j / 4) 0) ((8*(j % 4):Nat):Int))):=by
 unfold b2i
 simp[h]
theorem b6U(s:List Int):s8 (fun y90=>some y90) FUEL s 0 (List.replicate 32 0)=some (b2i s):=by
 have key:=W0 (fun n x (y:List Int)=>s8 (fun y90=>some y90) n s (x:Int) y) 32 (fun x y=>y.set x ((b2i s).getD x 0)) (fun y=>some y) (fun _ _=>True) (fun n x y hx _=>by
  show a1N (s8 (fun y90=>some y90) n) (fun y90=>some y90) s (x:Int) y=_
  unfold a1N
  have e1:IntKind.wrap .i64 (Int.tdiv (x:Int) 4)=((x / 4:Nat):Int):=by
   have:Int.tdiv (x:Int) 4=((x / 4:Nat):Int):=rfl
   rw[this,U1 (by omega) (by omega)]
  have e2:IntKind.wrap .u64 (IntKind.wrap .i64 ((8:Int)*(Int.tmod (x:Int) 4)))=((8*(x % 4):Nat):Int):=by
   have:Int.tmod (x:Int) 4=((x % 4:Nat):Int):=rfl
   rw[this,U1 (by omega) (by omega),c1y (by omega) (by omega)]; omega
  have hk:(b2i s).getD x 0=IntKind.wrap .u8 (B5H .u32 (s.getD (x / 4) 0) ((8*(x % 4):Nat):Int)):=by
   rw[List.getD,c4x s x hx]; rfl
  simp only[e1,e2,Int.toNat_natCast]
  rw[hk,A5 (p:=(x:Int)<32) (by omega),A5 (p:=(0:Int)≤((x / 4:Nat):Int)) (by omega),A5 (p:=((x / 4:Nat):Int)<8) (by omega),B7 (p:=((8*(x % 4):Nat):Int)<0) (by omega),A5 (p:=(0:Int)≤(x:Int)) (by omega),U1 (n:=(x:Int)+1) (by omega) (by omega)]
  rfl) (fun _ _ _ _=>trivial) (fun n y _=>rfl) 32 FUEL 0 (List.replicate 32 0) (by omega) (D7 (by omega)) trivial
 have hc:=a5U (b2i s) 0 32 0 (List.replicate 32 0) (by rw[a5H]) (by rw[a5H]; exact List.length_replicate) (fun j hj=>by omega)
 rw[hc]at key
 exact key
theorem d4m{α:Type}(xs ys:List α)(lo j:Nat)(h:lo+ys.length≤xs.length):(A6D xs lo ys)[j]? =if j<lo then xs[j]? else if j<lo+ys.length then ys[j-lo]? else xs[j]? :=by
 unfold A6D
 rw[List.getElem?_append,List.length_take,Nat.min_eq_left (by omega)]
 split
 ·rename_i h1; rw[List.getElem?_take]; simp[h1]
 ·rename_i h1
  rw[List.getElem?_append]
  split
  ·rename_i h2; rw[if_pos (by omega)]
  ·rename_i h2
   rw[if_neg (by omega),List.getElem?_drop]
   congr 1; omega
theorem A4W{α:Type}(xs ys:List α)(lo:Nat)(h:lo+ys.length≤xs.length):(A6D xs lo ys).length=xs.length:=by
 unfold A6D
 simp only[List.length_append,List.length_take,List.length_drop]
 omega
theorem d4l(v:Int)(k:Nat)(hk:k≤32):B5H .u64 v (k:Int)=B5H .u32 v (k:Int):=by
 unfold B5H
 congr 2
 simp[IntKind.bits]; omega
theorem d4b(s:List Int)(hs:a7n s):a3U s=some (b2i s):=by
 unfold a3U
 let f:Nat→List Int→List Int:=fun x y=>A6D y (4*x) (List.take (32-4*x) (leB (s.getD x 0) 4))
 let I:Nat→List Int→Prop:=fun x y=>y.length=32∧∀j,j<4*x→y[j]? =(b2i s)[j]?
 have hy:∀x,x<8→List.take (32-4*x) (leB (s.getD x 0) 4)=leB (s.getD x 0) 4:=fun x hx=>List.take_of_length_le (by rw[a5v]; omega)
 have inv:∀x y,x<8→I x y→I (x+1) (f x y):=by
  intro x y hx ⟨h1,h2⟩
  simp only[f,hy x hx]
  refine⟨by rw[A4W _ _ _ (by rw[a5v]; omega)]; exact h1,fun j hj=> ?_⟩
  rw[d4m _ _ _ _ (by rw[a5v]; omega),a5v]
  split
  ·rename_i h; exact h2 j h
  ·rename_i h
   rw[if_pos (by omega),c4x s j (by omega)]
   have e1:j / 4=x:=by omega
   have e2:j % 4=j-4*x:=by omega
   rw[e1,e2]
   unfold leB
   simp only[List.getElem?_map]
   rw[List.getElem?_range' (by omega)]
   simp only[Option.map_some,Nat.zero_add,Nat.one_mul,Option.some.injEq]
   rw[d4l _ _ (by omega)]
 have key:=W0 (fun n x (y:List Int)=>a1l (fun G9=>some G9) s n (x:Int) y) 8 f (fun y=>some y) I (fun n x y hx hI=>by
  show a2w (a1l (fun G9=>some G9) s n) (fun G9=>some G9) s (x:Int) y=_
  unfold a2w
  have e1:IntKind.wrap .i64 ((4:Int)*(x:Int))=((4*x:Nat):Int):=by rw[U1 (by omega) (by omega)]; omega
  have hb:=c6P hs.2 x
  have e2:IntKind.wrap .u64 (s.getD x 0)=s.getD x 0:=c1y hb.1 (by omega)
  have e3:L6 [] (s.getD x 0) 4=some (leB (s.getD x 0) 4):=a7p [] (s.getD x 0) 4 (by omega) (by simp)
  simp only[e1,Int.toNat_natCast,e2]
  rw[e3,B5u,A5 (p:=(x:Int)<8) (by omega),A5 (p:=(0:Int)≤(x:Int)) (by omega),A5 (p:=(0:Int)≤((4*x:Nat):Int)) (by omega),A5 (p:=((4*x:Nat):Int)≤32) (by omega),U1 (n:=(x:Int)+1) (by omega) (by omega)]
  rfl) inv (fun n y _=>rfl) 8 FUEL 0 (List.replicate 32 0) (by omega) (D7 (by omega)) ⟨by simp,fun j hj=>by omega⟩
 have hI:=b0Q inv 8 0 (List.replicate 32 0) (by omega) ⟨by simp,fun j hj=>by omega⟩
 have:a4Z f 8 0 (List.replicate 32 0)=b2i s:=by
  apply List.ext_getElem?
  intro j
  by_cases hj:j<32
  ·exact hI.2 j (by omega)
  ·rw [List.getElem?_eq_none (by rw[hI.1]; omega),List.getElem?_eq_none (by rw[a5H]; omega)]
 rw[this]at key
 exact key
noncomputable def b8I(t:Int)(d:List Int):List Int:=b2i (c1n (b2o t) (d++a5K d.length))
theorem d4n(n:Nat):R6 (a5K n):=by
 intro x hx
 unfold a5K at hx
 simp only[List.mem_append,List.mem_singleton,List.mem_replicate]at hx
 rcases hx with(rfl|⟨_,rfl⟩)|hx
 ·omega
 ·omega
 ·unfold leB at hx
  obtain⟨i,_,rfl⟩:=List.mem_map.1 hx
  exact d4r _
theorem a7o(n:Nat):(a5K n).length=1+a8z (n+1)+8:=by simp[a5K,a5v]; omega
theorem b8P(d:List Int):(d++a5K d.length).length % 32=0:=by
 rw[List.length_append,a7o]
 unfold a8z
 omega
theorem b8Q(d:List Int)(h:d.length≤1048576000):(d++a5K d.length).length≤2147483648:=by
 rw[List.length_append,a7o]
 unfold a8z
 omega
theorem b8R{d:List Int}(h:R6 d):R6 (d++a5K d.length):=fun x hx=>by
 rcases List.mem_append.1 hx with h1|h1
 ·exact h x h1
 ·exact d4n _ x h1
theorem d0H{s:List Int}(hs:a7n s)(p:List Int):a7n (c1n s p):=a5T (P:=a7n) (fun i s h=>d6G _ h) _ _ _ hs
theorem b0H(t:Int)(d:List Int)(hb:R6 d)(hl:d.length≤1048576000):a3N t d=some (b8I t d):=by
 unfold a3N H8
 have hcat: [d,a5K d.length].flatten=d++a5K d.length:=by simp
 have hle:=b8Q d hl
 rw[B5u,c6V d.length (by omega),B5u,c8s [d,a5K d.length] (by simp) (by rw[hcat,List.length_append,a7o]; unfold a8z; omega),B5u,hcat,c8t _ hle (b8P d),B5u,b6K,B5u,d4e _ _ (b8R hb) hle,B5u,d4b _ (d0H (d0M t) _)]
 rfl
theorem b0O(t:Int)(d:List Int)(hb:R6 d)(hl:d.length≤1048576000):a1P t d=some (b8I t d):=by
 unfold a1P a4B
 have hle:=b8Q d hl
 rw[b6S,B5u,b4E d d.length rfl (by omega),B5u,b6V _ _ _ (b8R hb) hle (b8P d),b6U]
 rfl
theorem c6S{R α:Type}(L:Nat→Nat→Int→List α→Option R)(N:Nat)(k0:Int)(g:Int→α)(ke:Int→List α→Option R)(hN:N<18446744073709551616)
  (step:∀n x k z,x<N→z.length=N→k=k0+(x:Int)→L (n+1) x k z=L n (x+1) (k+1) (z.set x (g k)))
  (stop:∀n z,z.length=N→L (n+1) N (k0+(N:Int)) z=ke (k0+(N:Int)) z) (z:List α) (hz:z.length=N):L FUEL 0 k0 z=ke (k0+(N:Int)) (a4K g k0 N):=by
 have key:∀m n x k z,x+m=N→m<n→k=k0+(x:Int)→z.length=N→(∀ j,j<x→z[j]? =some (g (k0+(j:Int))))→L n x k z=ke (k0+(N:Int)) (a4K g k0 N):=by
  intro m
  induction m with
  |zero=>
   intro n x k z h hn hk hz hj
   have:x=N:=by omega
   subst this
   obtain⟨q,rfl⟩:∃q,n=q+1:=⟨n-1,by omega⟩
   rw[hk,stop q z hz]
   congr 1
   apply List.ext_getElem?
   intro j
   by_cases hjx:j<x
   ·rw [hj j hjx]; simp[a4K,hjx]
   ·rw [List.getElem?_eq_none (by omega),List.getElem?_eq_none (by rw[a5N]; omega)]
  |succ m ih=>
   intro n x k z h hn hk hz hj
   obtain⟨q,rfl⟩:∃q,n=q+1:=⟨n-1,by omega⟩
   rw[step q x k z (by omega) hz hk]
   refine ih q (x+1) (k+1) (z.set x (g k)) (by omega) (by omega) (by omega) (by simpa using hz) fun j hjx=> ?_
   rw[List.getElem?_set]
   by_cases e:x=j
   ·subst e
    rw[if_pos rfl,if_pos (by omega),hk]
   ·rw [if_neg e]; exact hj j (by omega)
 exact key N FUEL 0 k0 z (by omega) (D7 hN) (by simp) hz (fun j hj=>by omega)
theorem c4O(a:List Int):a4a a a=some true:=by
 unfold a4a
 have key:=W0 (fun n x (_:Unit)=>a1m (some false) (some true) a a n (x:Int)) 32 (fun _ s=>s) (fun _=>some true) (fun _ _=>True) (fun n x s hx _=>by
  show a2x (a1m (some false) (some true) a a n) (some false) (some true) a a (x:Int)=_
  unfold a2x
  rw[A5 (p:=(x:Int)<32) (by omega),A5 (p:=(0:Int)≤(x:Int)) (by omega),U1 (n:=(x:Int)+1) (by omega) (by omega)]
  simp) (fun _ _ _ _=>trivial) (fun n s _=>rfl) 32 FUEL 0 () (by omega) (D7 (by omega)) trivial
 exact key
theorem b4z(a b:Int)(x y:List Int):ltI (a::x) (b::y)=true↔a<b∨(a=b∧ltI x y=true):=by simp[ltI]
theorem a9u(a:List Int):ltI a []=false:=by cases a<;>rfl
theorem a4r:∀a:List Int,ltI a a=false
 | []=>rfl
 |a::x=>by simp[ltI,a4r x]
theorem a1L:∀{a b c:List Int},ltI a b=true→ltI b c=true→ltI a c=true
 |a,b,[],_,h=>by rw[a9u]at h; cases h
 |a,[],c::z,h,_=>by rw[a9u]at h; cases h
 | [],b::y,c::z,_,_=>rfl
 |a::x,b::y,c::z,h1,h2=>by
  rw[b4z]at h1 h2⊢
  rcases h1 with h1|⟨h1,h1'⟩
  ·rcases h2 with h2|⟨h2,_⟩
   ·exact .inl (by omega)
   ·exact .inl (by omega)
  ·rcases h2 with h2|⟨h2,h2'⟩
   ·exact .inl (by omega)
   ·exact .inr ⟨by omega,a1L h1' h2'⟩
theorem a9k:∀(a b:List Int),ltI a b=true∨a=b∨ltI b a=true
 | [],[]=> .inr (.inl rfl)
 | [],_::_=> .inl rfl
 |_::_,[]=> .inr (.inr rfl)
 |a::x,b::y=>by
  rw[b4z,b4z]
  rcases Int.lt_trichotomy a b with h|h|h
  ·exact .inl (.inl h)
  ·rcases a9k x y with q|q|q
   ·exact .inl (.inr ⟨h,q⟩)
   ·exact .inr (.inl (by rw[h,q]))
   ·exact .inr (.inr (.inr ⟨h.symm,q⟩))
  ·exact .inr (.inr (.inl h))
theorem a5a{a b:List Int}(h:ltI a b=true):ltI b a=false:=by
 cases hb:ltI b a with
 |false=>rfl
 |true=>have:=a1L h hb; rw[a4r]at this; cases this
theorem b0j{a b:List Int}(h:ltI a b=true):a≠b:=fun e=>by rw[e,a4r]at h; cases h
theorem c1l{a b:List Int}(h:ltI b a=false)(hn:a≠b):ltI a b=true:=by
 rcases a9k a b with q|q|q
 ·exact q
 ·exact absurd q hn
 ·rw [h]at q; cases q
abbrev Inc(l:G5):Prop:=l.Pairwise fun a b=>ltI a b=true
theorem c8l:∀{l m:G5},Inc l→Inc m→(∀ x,x∈l↔x∈m)→l=m
 | [],[],_,_,_=>rfl
 | [],b::m,_,_,h=>by have:=(h b).2 (by simp); simp at this
 |a::l,[],_,_,h=>by have:=(h a).1 (by simp); simp at this
 |a::l,b::m,h1,h2,h=>by
  obtain⟨p1,p2⟩:=List.pairwise_cons.1 h1
  obtain⟨q1,q2⟩:=List.pairwise_cons.1 h2
  have hab:a=b:=by
   rcases List.mem_cons.1 ((h a).1 (by simp))with e|e
   ·exact e
   ·rcases List.mem_cons.1 ((h b).2 (by simp))with e2|e2
    ·exact e2.symm
    ·have:=a5a (p1 b e2); rw[q1 a e]at this; cases this
  subst hab
  congr 1
  refine c8l p2 q2 fun x=>⟨fun hx=> ?_,fun hx=> ?_⟩
  ·rcases List.mem_cons.1 ((h x).1 (List.mem_cons_of_mem _ hx))with e|e
   ·exact absurd e.symm (b0j (p1 x hx))
   ·exact e
  ·rcases List.mem_cons.1 ((h x).2 (List.mem_cons_of_mem _ hx))with e|e
   ·exact absurd e.symm (b0j (q1 x hx))
   ·exact e
theorem d9q{lo hi:Nat}(h:hi≤1073741824)(hl:lo≤hi):IntKind.wrap .i64 (B5H .u64 (IntKind.wrap .u64 (IntKind.wrap .i64 ((lo:Int)+(hi:Int)))) 1)=(((lo+hi) / 2:Nat):Int):=by
 rw[U1 (n:=(lo:Int)+(hi:Int)) (by omega) (by omega),c1y (by omega) (by omega)]
 have e:B5H .u64 ((lo:Int)+(hi:Int)) 1=((lo:Int)+(hi:Int)).fdiv 2:=rfl
 rw[e,Int.fdiv_eq_ediv_of_nonneg _ (by omega),U1 (by omega) (by omega)]
 omega
theorem b2n(e:b0S):a0s e=some (a2E e):=by
 unfold a0s a4f a2E
 simp only[c4y,B5u]
 cases inR 1 e.1.length 24<;>rfl
theorem a7i{a b c:List Int}(h1:ltI b a=false)(h2:ltI c b=false):ltI c a=false:=by
 cases h:ltI c a with
 |false=>rfl
 |true=>
  rcases a9k a b with q|q|q
  ·have:=a1L h q; rw[h2]at this; cases this
  ·rw [q,h2]at h; cases h
  ·rw [h1]at q; cases q
abbrev Asc(l:G5):Prop:=l.Pairwise fun a b=>ltI b a=false
def ddN(xs:G5):Nat→G5
 |0=>[]
 |k+1=>if 0<k∧xs.getD k []=xs.getD (k-1) []then ddN xs k else ddN xs k++[xs.getD k []]
theorem a5e(xs:G5):∀k,(ddN xs k).length≤k
 |0=>by simp[ddN]
 |k+1=>by
  have:=a5e xs k
  rw[ddN]
  split
  ·omega
  ·rw [List.length_append]; simp; omega
theorem n8{α:Type}{l:List α}{x d:α}(h:x∈l):∃i,i<l.length∧l.getD i d=x:=by
 obtain⟨i,hi⟩:=List.getElem?_of_mem h
 exact⟨i,(List.getElem?_eq_some_iff.1 hi).1,by simp[List.getD,hi]⟩
theorem b9c(xs:G5):∀k,k≤xs.length→∀y,(y∈ddN xs k↔∃i,i<k∧xs.getD i []=y)
 |0,_,y=>by simp[ddN]
 |k+1,h,y=>by
  have ih:=b9c xs k (by omega) y
  rw[ddN]
  split
  ·rename_i hc
   rw[ih]
   constructor
   ·rintro ⟨i,h1,h2⟩; exact⟨i,by omega,h2⟩
   ·rintro ⟨i,h1,h2⟩
    by_cases e:i=k
    ·exact ⟨k-1,by omega,by rw[← hc.2,←e,h2]⟩
    ·exact ⟨i,by omega,h2⟩
  ·rw [List.mem_append,ih,List.mem_singleton]
   constructor
   ·rintro (⟨i,h1,h2⟩|h2)
    ·exact ⟨i,by omega,h2⟩
    ·exact ⟨k,by omega,h2.symm⟩
   ·rintro ⟨i,h1,h2⟩
    by_cases e:i=k
    ·right; rw[← h2,e]
    ·left; exact⟨i,by omega,h2⟩
theorem b8Y{xs:G5}(h:Asc xs){i j:Nat}(hij:i<j)(hj:j<xs.length):ltI (xs.getD j []) (xs.getD i [])=false:=by
 have:=List.pairwise_iff_getElem.1 h i j (by omega) hj hij
 simpa[List.getD,List.getElem?_eq_getElem hj,List.getElem?_eq_getElem (show i<xs.length by omega)]using this
theorem b9b{xs:G5}(ha:Asc xs):∀k,k≤xs.length→Inc (ddN xs k)
 |0,_=>by simp[ddN]
 |k+1,h=>by
  have ih:=b9b ha k (by omega)
  rw[ddN]
  split
  ·exact ih
  ·rename_i hc
   refine List.pairwise_append.2 ⟨ih,by simp,fun y hy z hz=> ?_⟩
   rw[List.mem_singleton]at hz
   subst hz
   obtain⟨i,h1,h2⟩:=(b9c xs k (by omega) y).1 hy
   have hne:¬xs.getD k []=xs.getD (k-1) []:=fun e=>hc ⟨by omega,e⟩
   have hlt:ltI (xs.getD (k-1) []) (xs.getD k [])=true:=c1l (b8Y ha (by omega) (by omega)) (fun e=>hne e.symm)
   by_cases e:i=k-1
   ·rw [← h2,e]; exact hlt
   ·have hle:ltI (xs.getD (k-1) []) y=false:=by rw[← h2]; exact b8Y ha (by omega) (by omega)
    rcases a9k y (xs.getD (k-1) [])with q|q|q
    ·exact a1L q hlt
    ·rw [q]; exact hlt
    ·rw [hle]at q; cases q
theorem a5Q(xs:G5):∀k,k≤xs.length→(∀ i,0<i→i<k→¬xs.getD i []=xs.getD (i-1) [])→ddN xs k=xs.take k
 |0,_,_=>by simp[ddN]
 |k+1,h,hn=>by
  rw[ddN,if_neg (fun hc=>hn k hc.1 (by omega) hc.2),a5Q xs k (by omega) (fun i h1 h2=>hn i h1 (by omega)),List.take_add_one]
  simp[List.getD,List.getElem?_eq_getElem (show k<xs.length by omega)]
def a7s:List Int→List Int→Int
 | [],[]=>0
 | [],_::_=> -1
 |_::_,[]=>1
 |a::x,b::y=>if a<b then -1 else if b<a then 1 else a7s x y
theorem a3P:∀a b:List Int,decide (a7s a b<0)=ltI a b
 | [],[]=>rfl
 | [],_::_=>rfl
 |_::_,[]=>rfl
 |a::x,b::y=>by
  have ih:=a3P x y
  simp only[a7s,ltI]
  by_cases h1:a<b
  ·simp [h1]
  ·by_cases h2:b<a
   ·have:¬a=b:=by omega
    simp[h1,h2,this]
   ·have:a=b:=by omega
    subst this
    simp only[h1,h2,if_false]
    rw[ih]; simp
theorem c7d:∀a b:List Int,(a7s a b=0)↔a=b
 | [],[]=>by simp[a7s]
 | [],_::_=>by simp[a7s]
 |_::_,[]=>by simp[a7s]
 |a::x,b::y=>by
  have ih:=c7d x y
  simp only[a7s]
  by_cases h1:a<b
  ·simp [h1]; intro h; omega
  ·by_cases h2:b<a
   ·simp [h1,h2]; intro h; omega
   ·have:a=b:=by omega
    subst this
    simp[ih]
theorem d4t(a b:List Int):decide (0≤a7s a b)= !(ltI a b):=by
 rw[← a3P]
 by_cases h:a7s a b<0<;>simp[h]<;>omega
theorem d0V(u v:Int):a0J u v=some (if u<v then -1 else if v<u then 1 else 0):=by
 unfold a0J a1B
 by_cases h1:u<v
 ·simp [B5u,h1]
 ·by_cases h2:v<u<;>simp[B5u,h1,h2]
theorem a8E{l:List Int}{x:Nat}(h:x<l.length):l.drop x=l.getD x 0::l.drop (x+1):=by
 rw[List.drop_eq_getElem_cons h]
 simp[List.getD,List.getElem?_eq_getElem h]
theorem b0N(a b:List Int)(ha:a.length≤1073741824)(hb:b.length=a.length):S5 a b=some (a7s a b):=by
 unfold S5
 have key:∀(m fuel x:Nat),x+m=a.length→m<fuel→J8 (fun x4=>some x4) (cond (decide ((a.length:Int)<(b.length:Int))) (some (-1:Int)) (some (0:Int))) a b fuel (x:Int)=some (a7s (a.drop x) (b.drop x)):=by
  intro m
  induction m with
  |zero=>
   intro fuel x hx hf
   obtain⟨k,rfl⟩:∃k,fuel=k+1:=⟨fuel-1,by omega⟩
   show H5 _ _ _ a b (x:Int)=_
   unfold H5
   rw[B7 (p:=(x:Int)<(a.length:Int)) (by omega),B7 (p:=(a.length:Int)<(b.length:Int)) (by omega),List.drop_eq_nil_of_le (by omega),List.drop_eq_nil_of_le (by omega)]
   rfl
  |succ m ih=>
   intro fuel x hx hf
   obtain⟨k,rfl⟩:∃k,fuel=k+1:=⟨fuel-1,by omega⟩
   have h1:x<a.length:=by omega
   have h2:x<b.length:=by omega
   show H5 (J8 _ _ a b k) _ _ a b (x:Int)=_
   unfold H5
   rw[A5 (p:=(x:Int)<(a.length:Int)) (by omega),A5 (p:=(0:Int)≤(x:Int)) (by omega),B7 (p:=(b.length:Int)≤(x:Int)) (by omega),A5 (p:=(x:Int)<(b.length:Int)) (by omega),d0V,U1 (n:=(x:Int)+1) (by omega) (by omega)]
   simp only[Int.toNat_natCast,Bool.and_self,cond_true,cond_false,B5u]
   rw[a8E h1,a8E h2]
   simp only[a7s]
   have:=ih k (x+1) (by omega) (by omega)
   by_cases c1:a.getD x 0<b.getD x 0
   ·simp only[if_pos c1]; rfl
   ·by_cases c2:b.getD x 0<a.getD x 0
    ·simp only[if_neg c1,if_pos c2]; rfl
    ·simp only[if_neg c1,if_neg c2]
     exact this
 have:=key a.length FUEL 0 (by omega) (D7 (by omega))
 simpa using this
theorem c1D{l:List Int}{n:Nat}(h:l.length=n):A3F l 0 n=l:=by
 unfold A3F
 rw[List.drop_zero,Nat.sub_zero,List.take_of_length_le (by omega)]
theorem a0v{a b:List Int}(ha:a.length=32)(hb:b.length=32):F4 a b=some (a7s a b):=by
 unfold F4
 rw[c1D ha,c1D hb,b0N a b (by omega) (by omega)]
 rfl
theorem a4L{a b:List Int}(ha:a.length=32)(hb:b.length=32):R0 a b=some (a7s a b):=by
 unfold R0
 have key:∀(m fuel x:Nat),x+m=32→m<fuel→Y7 (fun x4=>some x4) (some (0:Int)) a b fuel (x:Int)=some (a7s (a.drop x) (b.drop x)):=by
  intro m
  induction m with
  |zero=>
   intro fuel x hx hf
   obtain⟨k,rfl⟩:∃k,fuel=k+1:=⟨fuel-1,by omega⟩
   show S8 _ _ _ a b (x:Int)=_
   unfold S8
   rw[B7 (p:=(x:Int)<(32:Int)) (by omega),List.drop_eq_nil_of_le (by omega),List.drop_eq_nil_of_le (by omega)]
   rfl
  |succ m ih=>
   intro fuel x hx hf
   obtain⟨k,rfl⟩:∃k,fuel=k+1:=⟨fuel-1,by omega⟩
   have h1:x<a.length:=by omega
   have h2:x<b.length:=by omega
   show S8 (Y7 _ _ a b k) _ _ a b (x:Int)=_
   unfold S8
   rw[A5 (p:=(x:Int)<(32:Int)) (by omega),A5 (p:=(0:Int)≤(x:Int)) (by omega),U1 (n:=(x:Int)+1) (by omega) (by omega)]
   simp only[Int.toNat_natCast,Bool.and_self,cond_true]
   rw[a8E h1,a8E h2]
   simp only[a7s]
   have:=ih k (x+1) (by omega) (by omega)
   by_cases c1:a.getD x 0<b.getD x 0
   ·have c0:¬a.getD x 0=b.getD x 0:=by omega
    rw[B7 c0,A5 c1,if_pos c1]; rfl
   ·by_cases c2:b.getD x 0<a.getD x 0
    ·have c0:¬a.getD x 0=b.getD x 0:=by omega
     rw[B7 c0,B7 c1,if_neg c1,if_pos c2]; rfl
    ·have c0:a.getD x 0=b.getD x 0:=by omega
     rw[A5 c0,if_neg c1,if_neg c2]
     exact this
 have:=key 32 FUEL 0 (by omega) (D7 (by omega))
 simpa using this
theorem b9a:B4t 32 .u8 (fun x y=>F4 x y):=by
 refine⟨fun x y=>a7s x.1 y.1,fun x y=>a0v x.2.1 y.2.1,⟨fun x=> ?_,fun x y z h1 h2=> ?_,fun x y z h1 h2=> ?_⟩,fun x y h1 h2=> ?_⟩
 ·simp only[Go.Proofs.ltOf,a3P,a4r]
 ·simp only[Go.Proofs.ltOf,a3P]at *; exact a1L h1 h2
 ·simp only[Go.Proofs.ltOf,a3P]at *; exact a7i h2 h1
 ·simp only[Go.Proofs.ltOf,a3P]at*
  rcases a9k x.1 y.1 with q|q|q
  ·rw [h1]at q; cases q
  ·exact Subtype.ext q
  ·rw [h2]at q; cases q
def L7(k:List Int):Prop:=k.length=32∧R6 k
noncomputable def a4T(ks:G5):G5:=ks.mergeSort (leO fun x y=>F4 x y)
theorem d4d{x y:List Int}(hx:L7 x)(hy:L7 y):leO (fun x y=>F4 x y) x y= !(ltI y x):=by
 show(match F4 y x with|some c=> !(decide (c<0))|none=>false)=_
 rw[a0v hy.1 hx.1]
 simp only[a3P]
theorem b8T{ks:G5}(y:List Int):y∈a4T ks↔y∈ks:=(List.mergeSort_perm _ _).mem_iff
theorem a7l(ks:G5):(a4T ks).length=ks.length:=by simp[a4T]
theorem a4V{z:G5}{i:Nat}(h:i<z.length):z.getD i (List.replicate 32 (0:Int))=z.getD i []:=by
 simp[List.getD,List.getElem?_eq_getElem h]
theorem eqK(a b:List Int):eqd (.arr 32 (.int .u8)) a b=decide (a=b):=by
 by_cases h:a=b
 ·rw [A5 h]; exact(A9N (.arr 32 (.int .u8)) rfl a b).2 h
 ·rw [B7 h]
  cases hb:eqd (.arr 32 (.int .u8)) a b with
  |false=>rfl
  |true=>exact absurd ((A9N (.arr 32 (.int .u8)) rfl a b).1 hb) h
theorem a7x(ke:Int→G5→Option G5)(xs:G5)(hl:xs.length≤1073741824)(base:Nat)(hb:base<xs.length)(h0:0<base):
  ∀(m fuel p x:Nat) (z:G5),1≤x→base+x+m=xs.length→m<fuel→z.length=xs.length→p=(ddN xs (base+x)).length→p+1≤base+x→z.take p=ddN xs (base+x)→(∀ i,base+x-1≤i→z.getD i []=xs.getD i [])→
  ∃z',C9 ke xs fuel (p:Int) (x:Int) z base=ke ((ddN xs xs.length).length:Int) z'∧z'.length=xs.length∧z'.take (ddN xs xs.length).length=ddN xs xs.length
 |0,fuel,p,x,z,hx,hm,hf,hz,hp,hpx,ht,hr=>by
  obtain⟨k,rfl⟩:∃k,fuel=k+1:=⟨fuel-1,by omega⟩
  have hN:base+x=xs.length:=by omega
  refine⟨z,?_,hz,?_⟩
  ·show F2 (C9 ke xs k) ke xs (p:Int) (x:Int) z base=_
   unfold F2
   rw[B7 (p:=(x:Int)<((xs.length-base:Nat):Int)) (by omega),hp,hN]
   rfl
  ·rw [← hN,←hp]; exact ht
 |m+1,fuel,p,x,z,hx,hm,hf,hz,hp,hpx,ht,hr=>by
  obtain⟨k,rfl⟩:∃k,fuel=k+1:=⟨fuel-1,by omega⟩
  have e1:IntKind.wrap .i64 ((x:Int)-1)=((x-1:Nat):Int):=by rw[U1 (by omega) (by omega)]; omega
  have g1:z.getD (base+x) []=xs.getD (base+x) []:=hr _ (by omega)
  have g2:z.getD (base+(x-1)) []=xs.getD (base+x-1) []:=by rw[show base+(x-1)=base+x-1 by omega]; exact hr _ (by omega)
  have run:C9 ke xs (k+1) (p:Int) (x:Int) z base=cond (!(decide (xs.getD (base+x) []=xs.getD (base+x-1) []))) (C9 ke xs k ((p+1:Nat):Int) ((x+1:Nat):Int) (z.set p (xs.getD (base+x) [])) base) (C9 ke xs k (p:Int) ((x+1:Nat):Int) z base):=by
   show F2 (C9 ke xs k) ke xs (p:Int) (x:Int) z base=_
   unfold F2
   rw[e1]
   simp only[Int.toNat_natCast]
   rw[a4V (z:=z) (i:=base+x) (by omega),a4V (z:=z) (i:=base+(x-1)) (by omega),g1,g2,eqK]
   rw[A5 (p:=(x:Int)<((xs.length-base:Nat):Int)) (by omega),A5 (p:=(0:Int)≤(x:Int)) (by omega),A5 (p:=(0:Int)≤((x-1:Nat):Int)) (by omega),A5 (p:=((x-1:Nat):Int)<((xs.length-base:Nat):Int)) (by omega),A5 (p:=(0:Int)≤(p:Int)) (by omega),A5 (p:=(p:Int)<(z.length:Int)) (by omega),U1 (n:=(x:Int)+1) (by omega) (by omega),U1 (n:=(p:Int)+1) (by omega) (by omega)]
   rfl
  rw[run]
  have hs:ddN xs (base+x+1)=if 0<base+x∧xs.getD (base+x) []=xs.getD (base+x-1) []then ddN xs (base+x)else ddN xs (base+x)++[xs.getD (base+x) []]:=rfl
  by_cases e:xs.getD (base+x) []=xs.getD (base+x-1) []
  ·rw [A5 e]
   rw[if_pos ⟨by omega,e⟩]at hs
   exact a7x ke xs hl base hb h0 m k p (x+1) z (by omega) (by omega) (by omega) hz (by rw[show base+(x+1)=base+x+1 by omega,hs]; exact hp) (by omega) (by rw[show base+(x+1)=base+x+1 by omega,hs]; exact ht) (fun i hi=>hr i (by omega))
  ·rw [B7 e]
   rw[if_neg (fun h=>e h.2)]at hs
   refine a7x ke xs hl base hb h0 m k (p+1) (x+1) (z.set p (xs.getD (base+x) [])) (by omega) (by omega) (by omega) (by simpa using hz) (by rw[show base+(x+1)=base+x+1 by omega,hs,List.length_append,←hp]; rfl) (by omega) ?_ (fun i hi=> ?_)
   ·rw [show base+(x+1)=base+x+1 by omega,hs,List.take_add_one,List.take_set_of_le (Nat.le_refl _),ht]
    congr 1
    rw[List.getElem?_set_self (by omega)]
    rfl
   ·have:=hr i (by omega)
    simpa[List.getD,List.getElem?_set_ne (show p≠i by omega)]using this
theorem c1C(xs:G5)(hl:xs.length≤1073741824):J5 xs=some (ddN xs xs.length):=by
 unfold J5
 by_cases h2:xs.length<2
 ·rw [A5 (p:=(xs.length:Int)<2) (by omega),a5Q xs xs.length (Nat.le_refl _) (fun i h1 h3=>by omega),List.take_length]; rfl
 ·rw [B7 (p:=(xs.length:Int)<2) (by omega)]
  let kr:Nat→G5→Option G5:=fun x2v z8=>some (List.take x2v z8)
  have key:∀(m fuel x:Nat),1≤x→x+m=xs.length→m<fuel→(∀ i,0<i→i<x→¬xs.getD i []=xs.getD (i-1) [])→F1 (some xs) kr xs fuel (x:Int)=some (ddN xs xs.length):=by
   intro m
   induction m with
   |zero=>
    intro fuel x hx hm hf hn
    obtain⟨k,rfl⟩:∃k,fuel=k+1:=⟨fuel-1,by omega⟩
    show H9 (F1 (some xs) kr xs k) (some xs) kr xs (x:Int)=_
    unfold H9
    rw[B7 (p:=(x:Int)<(xs.length:Int)) (by omega),a5Q xs xs.length (Nat.le_refl _) (fun i h1 h3=>hn i h1 (by omega)),List.take_length]
    rfl
   |succ m ih=>
    intro fuel x hx hm hf hn
    obtain⟨k,rfl⟩:∃k,fuel=k+1:=⟨fuel-1,by omega⟩
    have e1:IntKind.wrap .i64 ((x:Int)-1)=((x-1:Nat):Int):=by rw[U1 (by omega) (by omega)]; omega
    show H9 (F1 (some xs) kr xs k) (some xs) kr xs (x:Int)=_
    unfold H9
    rw[e1]
    simp only[Int.toNat_natCast]
    rw[a4V (z:=xs) (i:=x) (by omega),a4V (z:=xs) (i:=x-1) (by omega),eqK]
    rw[A5 (p:=(x:Int)<(xs.length:Int)) (by omega),A5 (p:=(0:Int)≤(x:Int)) (by omega),A5 (p:=(0:Int)≤((x-1:Nat):Int)) (by omega),A5 (p:=((x-1:Nat):Int)<(xs.length:Int)) (by omega),U1 (n:=(x:Int)+1) (by omega) (by omega),A5 (p:=(x:Int)≤(xs.length:Int)) (by omega)]
    simp only[Bool.and_self,cond_true]
    by_cases e:xs.getD x []=xs.getD (x-1) []
    ·rw [A5 e,cond_true]
     have hd:=a5Q xs x (by omega) hn
     have hd1:ddN xs (x+1)=ddN xs x:=by rw[ddN,if_pos ⟨by omega,e⟩]
     have hlen:(ddN xs (x+1)).length=x:=by rw[hd1,hd]; simp; omega
     obtain⟨z',r1,r2,r3⟩:=a7x (fun x3 z8=>(cond ((decide ((0:Int)≤x3))&&(decide (x3≤(z8.length:Int))))
      (cond ((decide ((0:Int)≤x3))&&(decide (x3≤((A6D z8 (x3.toNat) (List.take ((z8.length)-(x3.toNat)) (List.replicate ((z8.length)-(x3.toNat)) (List.replicate 32 (0:Int))))).length:Int))))
      (kr (x3.toNat) (A6D z8 (x3.toNat) (List.take ((z8.length)-(x3.toNat)) (List.replicate ((z8.length)-(x3.toNat)) (List.replicate 32 (0:Int))))))
      none)
      none)) xs hl x (by omega) (by omega) m FUEL x 1 xs (by omega) (by omega) (D7 (by omega)) rfl hlen.symm (by omega) (by rw[hd1,hd]) (fun i _=>rfl)
     refine Eq.trans r1 ?_
     have hD:=a5e xs xs.length
     have hsl:(A6D z' (ddN xs xs.length).length (List.take (z'.length-(ddN xs xs.length).length) (List.replicate (z'.length-(ddN xs xs.length).length) (List.replicate 32 (0:Int))))).length=z'.length:=A4W _ _ _ (by simp; omega)
     simp only[Int.toNat_natCast]
     rw[A5 (p:=(0:Int)≤((ddN xs xs.length).length:Int)) (by omega),A5 (p:=((ddN xs xs.length).length:Int)≤(z'.length:Int)) (by omega),A5 (p:=((ddN xs xs.length).length:Int)≤((A6D z' (ddN xs xs.length).length (List.take (z'.length-(ddN xs xs.length).length) (List.replicate (z'.length-(ddN xs xs.length).length) (List.replicate 32 (0:Int))))).length:Int)) (by omega)]
     simp only[Bool.and_self,cond_true,kr]
     congr 1
     unfold A6D
     rw[List.take_append_of_le_length (by simp; omega),List.take_take,Nat.min_self,r3]
    ·rw [B7 e,cond_false]
     exact ih k (x+1) (by omega) (by omega) (by omega) (fun i h1 h3=>by
      by_cases q:i=x
      ·rw [q]; exact e
      ·exact hn i h1 (by omega))
  exact key (xs.length-1) FUEL 1 (by omega) (by omega) (D7 (by omega)) (fun i h1 h3=>by omega)
theorem d0L{ks:G5}(h:∀k∈ks,L7 k):Asc (a4T ks):=by
 have e:a4T ks=ks.mergeSort (fun x y=> !(ltI y x)):=by
  unfold a4T
  have:=List.map_mergeSort (r:=leO fun x y=>F4 x y) (s:=fun x y=> !(ltI y x)) (f:=id) (l:=ks) (fun a ha b hb=>d4d (h a ha) (h b hb))
  simpa using this
 rw[e]
 have:=List.pairwise_mergeSort (le:=fun(x y:List Int)=> !(ltI y x)) (fun a b c h1 h2=>by
  simp only[Bool.not_eq_true']at h1 h2⊢
  exact a7i h1 h2) (fun a b=>by
  rcases a9k a b with h|h|h
  ·rw [a5a h]; rfl
  ·rw [h,a4r]; rfl
  ·rw [a5a h]; simp) ks
 exact this.imp fun {a b} h=>by simpa using h
theorem b4D{ks:G5}(h:∀k∈ks,L7 k)(ha:Asc ks):a4T ks=ks:=by
 unfold a4T
 refine List.mergeSort_of_pairwise ?_
 refine List.Pairwise.imp_of_mem (fun {a b} h1 h2 hab=> ?_) ha
 rw[d4d (h a h1) (h b h2),hab]; rfl
theorem b0l{α:Type}(zs:List α)(B:Nat)(hl:zs.length*B≤140737488355328)(h2:zs.length≤9223372036854775807):
  cond (List.isEmpty zs) (A7q (some []) (cond (decide ((0+zs.length)*B≤140737488355328)&&decide (0+zs.length≤9223372036854775807)) (some ([]++zs)) none)) (cond (decide ((0+zs.length)*B≤140737488355328)&&decide (0+zs.length≤9223372036854775807)) (some ([]++zs)) none)=some zs:=by
 rw[Nat.zero_add,A5 hl,A5 h2]
 cases zs with
 |nil=>exact B5a _
 |cons a l=>rfl
theorem a8w{ks:G5}(h:∀k∈ks,L7 k)(hl:ks.length≤1073741824):J2 ks=some (ddN (a4T ks) ks.length):=by
 unfold J2
 have e1:P8 ks=some ks:=b0l ks 32 (by omega) (by omega)
 have e2:W7 ks ()=some (a4T ks,()):=by
  unfold W7 B1S
  rw[if_pos ⟨b9a,by omega⟩]
  rfl
 rw[e1]
 simp only[B5u]
 rw[e2]
 simp only[B5u]
 rw[c1C _ (by rw[a7l]; exact hl),a7l]
 rfl
abbrev a1f:=Int×(List Int×Unit)
abbrev P7:Type:=List a1f
abbrev a3O:=P7×Unit
abbrev bD:a1f:=(0,([],()))
def J9(b:a1f):Prop:=R6 b.2.1∧b.2.1.length≤1048576
noncomputable def A6(b:a1f):List Int:=b8I b.1 b.2.1
theorem d3Z(t:Int)(d:List Int):L7 (b8I t d):=by
 refine⟨a5H _,fun x hx=> ?_⟩
 unfold b8I b2i at hx
 obtain⟨j,_,rfl⟩:=List.mem_map.1 hx
 exact d4r _
theorem a5c(b:a1f):L7 (A6 b):=d3Z _ _
theorem a4X(bs:P7):∀k∈bs.map A6,L7 k:=fun k hk=>by
 obtain⟨b,_,rfl⟩:=List.mem_map.1 hk
 exact a5c b
theorem b2t{b:a1f}(h:J9 b):a0g b=some (A6 b):=by
 unfold a0g
 have:=h.2
 rw[b0H b.1 b.2.1 h.1 (by omega)]
 rfl
theorem b2w{b:a1f}(h:J9 b):W8 b=some (A6 b):=by
 unfold W8
 have:=h.2
 rw[b0O b.1 b.2.1 h.1 (by omega)]
 rfl
theorem b2k{R α β:Type}(L:Nat→Nat→List β→Option R)(zs:List α)(g:α→β)(d:α)(ke:List β→Option R)(hN:zs.length<18446744073709551616)
  (step:∀n x z,x<zs.length→z.length=x→L (n+1) x z=L n (x+1) (z++[g (zs.getD x d)])) (stop:∀n z,z.length=zs.length→L (n+1) zs.length z=ke z):L FUEL 0 []=ke (zs.map g):=by
 have key:∀(m fuel x:Nat),x+m=zs.length→m<fuel→L fuel x ((zs.take x).map g)=ke (zs.map g):=by
  intro m
  induction m with
  |zero=>
   intro fuel x hx hf
   obtain⟨k,rfl⟩:∃k,fuel=k+1:=⟨fuel-1,by omega⟩
   have:x=zs.length:=by omega
   subst this
   rw[stop k _ (by simp),List.take_length]
  |succ m ih=>
   intro fuel x hx hf
   obtain⟨k,rfl⟩:∃k,fuel=k+1:=⟨fuel-1,by omega⟩
   have hlt:x<zs.length:=by omega
   have e:(zs.take (x+1)).map g=(zs.take x).map g++[g (zs.getD x d)]:=by
    rw[List.take_add_one,List.map_append]
    simp[List.getD,List.getElem?_eq_getElem hlt]
   rw[step k x _ hlt (by simp; omega),←ih k (x+1) (by omega) (by omega),e]
 have:=key zs.length FUEL 0 (by omega) (D7 hN)
 simpa using this
theorem d9o{bs:P7}(h:∀b∈bs,J9 b){x:Nat}(hx:x<bs.length):J9 (bs.getD x bD):=h _ (I6 bD hx)
theorem a7f(s:a3O)(hl:s.1.length≤1048576)(h:∀b∈s.1,J9 b):G8 s=some (s.1.map A6):=by
 unfold G8
 refine b2k (fun n x z=>R9 (fun B9=>some B9) s n (x:Int) z) s.1 A6 bD (fun z=>some z) (by omega) (fun n x z hx hz=> ?_) (fun n z hz=> ?_)
 ·show S0 (R9 (fun B9=>some B9) s n) (fun B9=>some B9) s (x:Int) z=_
  unfold S0
  simp only[Int.toNat_natCast]
  rw[A5 (p:=(x:Int)<(s.1.length:Int)) (by omega),A5 (p:=(0:Int)≤(x:Int)) (by omega),b2t (d9o h hx),U1 (n:=(x:Int)+1) (by omega) (by omega)]
  simp only[Bool.and_self,cond_true,B5u]
  rw[A5 (p:=(z.length+1)*32≤140737488355328) (by omega),A5 (p:=z.length+1≤9223372036854775807) (by omega)]
  rfl
 ·show S0 (R9 (fun B9=>some B9) s n) (fun B9=>some B9) s (s.1.length:Int) z=_
  unfold S0
  rw[B7 (p:=(s.1.length:Int)<(s.1.length:Int)) (by omega)]
  rfl
def a5P(bs:P7):Prop:=bs.length≤128∧(∀ b∈bs,b.2.1.length≤1024)∧Inc (bs.map A6)
noncomputable def a4R(bs:P7):Bool:= @decide (a5P bs) (Classical.propDecidable _)
theorem v6{bs:P7}:a4R bs=true↔a5P bs:=by unfold a4R; simp
def b8X(ks:G5):Nat→Bool
 |0=>true
 |i+1=> !(ltI (ks.getD (i+1) []) (ks.getD i []))&&b8X ks i
theorem c1z(ks:G5):∀n,b8X ks n=true↔∀i,i<n→ltI (ks.getD (i+1) []) (ks.getD i [])=false
 |0=>by simp[b8X]
 |n+1=>by
  rw[b8X,Bool.and_eq_true,c1z ks n,Bool.not_eq_true']
  constructor
  ·rintro ⟨h1,h2⟩ i hi
   by_cases e:i=n
   ·rw [e]; exact h1
   ·exact h2 i (by omega)
  ·intro h
   exact⟨h n (by omega),fun i hi=>h i (by omega)⟩
theorem c4M{ks:G5}(h:∀i,i+1<ks.length→ltI (ks.getD (i+1) []) (ks.getD i [])=false):Asc ks:=by
 have key:∀(j i:Nat),i<j→j<ks.length→ltI (ks.getD j []) (ks.getD i [])=false:=by
  intro j
  induction j with
  |zero=>intro i h1; omega
  |succ j ih=>
   intro i h1 h2
   by_cases e:i=j
   ·rw [e]; exact h j h2
   ·exact a7i (ih i (by omega) (by omega)) (h j h2)
 refine List.pairwise_iff_getElem.2 fun i j hi hj hij=> ?_
 have:=key j i hij hj
 simpa[List.getD,List.getElem?_eq_getElem hi,List.getElem?_eq_getElem hj]using this
theorem d6B{ks:G5}(h:Inc ks):Asc ks:=h.imp fun {a b} q=>a5a q
theorem a4W{ks:G5}(h:Inc ks){i j:Nat}(hij:i<j)(hj:j<ks.length):ltI (ks.getD i []) (ks.getD j [])=true:=by
 have:=List.pairwise_iff_getElem.1 h i j (by omega) hj hij
 simpa[List.getD,List.getElem?_eq_getElem hj,List.getElem?_eq_getElem (show i<ks.length by omega)]using this
theorem c1E{xs:G5}:∀k,(ddN xs k).length=k→∀i,0<i→i<k→¬xs.getD i []=xs.getD (i-1) []
 |0,_,i,_,h=>by omega
 |k+1,h,i,h0,hi=>by
  rw[ddN]at h
  split at h
  ·have:=a5e xs k; omega
  ·rename_i hc
   rw[List.length_append,List.length_singleton]at h
   by_cases e:i=k
   ·intro q; exact hc ⟨by omega,by rw[← e]; exact q⟩
   ·exact c1E k (by omega) i h0 (by omega)
theorem c6X{ks:G5}(h:∀k∈ks,L7 k):((ddN (a4T ks) ks.length).length=ks.length∧Asc ks)↔Inc ks:=by
 constructor
 ·rintro ⟨h1,h2⟩
  rw[b4D h h2]at h1
  have h3:=c1E ks.length h1
  have h4:=b9b h2 ks.length (Nat.le_refl _)
  rw[a5Q ks ks.length (Nat.le_refl _) h3,List.take_length]at h4
  exact h4
 ·intro hi
  have h2:=d6B hi
  refine⟨?_,h2⟩
  rw[b4D h h2,a5Q ks ks.length (Nat.le_refl _) (fun i h0 hl e=> ?_),List.take_length]
  have:=a4W hi (show i-1<i by omega) hl
  exact b0j this e.symm
theorem b8K(s:a3O)(ks zs:G5)(hk:∀k∈ks,L7 k)(hl:ks.length≤1048576)(kr ke:G5→G5→Option (A2K H0)):∀(i fuel:Nat),i<fuel→(i<ks.length∨i=0)→J1 kr ke s fuel (i:Int) ks zs=cond (b8X ks i) (ke ks zs) (kr ks zs)
 |0,fuel,hf,_=>by
  obtain⟨k,rfl⟩:∃k,fuel=k+1:=⟨fuel-1,by omega⟩
  show M3 (J1 kr ke s k) kr ke s ((0:Nat):Int) ks zs=_
  unfold M3
  rw[B7 (p:=(0:Int)<((0:Nat):Int)) (by omega)]
  rfl
 |i+1,fuel,hf,hi=>by
  obtain⟨k,rfl⟩:∃k,fuel=k+1:=⟨fuel-1,by omega⟩
  have hi':i+1<ks.length:=by omega
  show M3 (J1 kr ke s k) kr ke s ((i+1:Nat):Int) ks zs=_
  unfold M3
  have e1:IntKind.wrap .i64 (((i+1:Nat):Int)-1)=(i:Int):=by rw[U1 (by omega) (by omega)]; omega
  rw[e1]
  simp only[Int.toNat_natCast]
  have g1:L7 (ks.getD (i+1) []):=hk _ (I6 [] hi')
  have g2:L7 (ks.getD i []):=hk _ (I6 [] (by omega))
  rw[a4V (z:=ks) (i:=i+1) hi',a4V (z:=ks) (i:=i) (by omega),a0v g1.1 g2.1,A5 (p:=(0:Int)<((i+1:Nat):Int)) (by omega),A5 (p:=(0:Int)≤((i+1:Nat):Int)) (by omega),A5 (p:=((i+1:Nat):Int)<(ks.length:Int)) (by omega),A5 (p:=(0:Int)≤(i:Int)) (by omega),A5 (p:=(i:Int)<(ks.length:Int)) (by omega)]
  simp only[Bool.and_self,cond_true,B5u,a3P]
  rw[b8K s ks zs hk hl kr ke i k (by omega) (by omega),b8X]
  cases ltI (ks.getD (i+1) []) (ks.getD i [])<;>rfl
theorem a9t(s:a3O)(hl:s.1.length≤1048576)(h:∀b∈s.1,J9 b):N5 s=some (a4R s.1):=by
 unfold N5
 by_cases h128:s.1.length≤128
 ·rw [B7 (p:=(128:Int)<(s.1.length:Int)) (by omega),cond_false]
  rw[a7f s hl h]
  simp only[B5u]
  have hsort:=a8w (a4X s.1) (by rw[List.length_map]; omega)
  rw[hsort]
  simp only[B5u]
  let fin:Option (A2K H0):=cond (decide (((ddN (a4T (s.1.map A6)) (s.1.map A6).length).length:Int)=((s.1.map A6).length:Int)))
   (J1 (fun n0 C8=>some false) (fun n0 C8=>some true) s FUEL (IntKind.wrap .i64 (((s.1.map A6).length:Int)-(1:Int))) (s.1.map A6) (ddN (a4T (s.1.map A6)) (s.1.map A6).length)) (some false)
  have hfin:fin=some (decide (Inc (s.1.map A6))):=by
   show cond _ _ _=_
   by_cases hn:s.1=[]
   ·have hdn:decide (((ddN (a4T (s.1.map A6)) (s.1.map A6).length).length:Int)=((s.1.map A6).length:Int))=true:=by
     have:=a5e (a4T (s.1.map A6)) (s.1.map A6).length
     rw[hn]at this⊢
     exact A5 (by simp[ddN])
    rw[hdn,cond_true]
    have e0:IntKind.wrap .i64 (((s.1.map A6).length:Int)-(1:Int))= -1:=by rw[hn]; exact U1 (n:= -1) (by omega) (by omega)
    rw[e0]
    obtain⟨k,hk⟩:∃k,FUEL=k+1:=⟨FUEL-1,by have:=D7 (n:=4) (by omega); omega⟩
    rw[hk]
    show M3 _ _ _ s (-1) _ _=_
    unfold M3
    rw[B7 (p:=(0:Int)< -1) (by omega)]
    simp[hn]
   ·have hpos:0<s.1.length:=by
     cases hq:s.1 with
     |nil=>exact absurd hq hn
     |cons a l=>simp
    have e0:IntKind.wrap .i64 (((s.1.map A6).length:Int)-(1:Int))=((s.1.length-1:Nat):Int):=by
     rw[List.length_map,U1 (by omega) (by omega)]; omega
    rw[e0,b8K s _ _ (a4X s.1) (by rw[List.length_map]; exact hl) _ _ (s.1.length-1) FUEL (D7 (by omega)) (by rw[List.length_map]; omega)]
    have hasc:b8X (s.1.map A6) (s.1.length-1)=true↔Asc (s.1.map A6):=by
     rw[c1z]
     constructor
     ·intro q; exact c4M fun i hi=>q i (by rw[List.length_map]at hi; omega)
     ·intro q i hi; exact b8Y q (by omega) (by rw[List.length_map]; omega)
    have hs:=c6X (a4X s.1)
    by_cases hi:Inc (s.1.map A6)
    ·obtain ⟨q1,q2⟩:=hs.2 hi
     rw[A5 hi,A5 (by rw[q1]),hasc.2 q2]
     rfl
    ·rw [B7 hi]
     by_cases q1:(ddN (a4T (s.1.map A6)) (s.1.map A6).length).length=(s.1.map A6).length
     ·have q2:b8X (s.1.map A6) (s.1.length-1)=false:=by
       cases hq:b8X (s.1.map A6) (s.1.length-1)with
       |false=>rfl
       |true=>exact absurd (hs.1 ⟨q1,hasc.1 hq⟩) hi
      rw[A5 (by rw[q1]),q2]
      rfl
     ·rw [B7 (fun q=>q1 (by omega))]
      rfl
  have hloop:=b8M (fun n x=>S1 (fun x4=>cond (decide ((0:Int)≤x4)) (some false) fin) fin s n (x:Int)) s.1 bD (fun b=> !(decide (b.2.1.length≤1024))) (some false) fin (by omega) (fun n x hx=> ?_) (fun n=> ?_)
  ·refine Eq.trans hloop ?_
   rw[hfin]
   by_cases hb:∀b∈s.1,b.2.1.length≤1024
   ·have:(s.1.any fun b=> !(decide (b.2.1.length≤1024)))=false:=by
     rw[List.any_eq_false]; intro b hbm; simp[hb b hbm]
    rw[this,cond_false]
    congr 1
    by_cases hi:Inc (s.1.map A6)
    ·rw [A5 hi]; exact(v6.2 ⟨h128,hb,hi⟩).symm
    ·rw [B7 hi]
     cases hv:a4R s.1 with
     |false=>rfl
     |true=>exact absurd (v6.1 hv).2.2 hi
   ·have:(s.1.any fun b=> !(decide (b.2.1.length≤1024)))=true:=by
     rw[List.any_eq_true]
     simp only[Classical.not_forall]at hb
     obtain⟨b,hbm,hb⟩:=hb
     exact⟨b,hbm,by simp; omega⟩
    rw[this,cond_true]
    congr 1
    cases hv:a4R s.1 with
    |false=>rfl
    |true=>exact absurd (v6.1 hv).2.1 hb
  ·show S2 (S1 _ _ s n) _ _ s (x:Int)=_
   unfold S2 a1A a3j
   simp only[Int.toNat_natCast,B5u]
   rw[A5 (p:=(x:Int)<(s.1.length:Int)) (by omega),A5 (p:=(0:Int)≤(x:Int)) (by omega),U1 (n:=(x:Int)+1) (by omega) (by omega)]
   simp only[Bool.and_self,cond_true]
   by_cases hb:(s.1.getD x bD).2.1.length≤1024
   ·rw [A5 (p:=((s.1.getD x bD).2.1.length:Int)≤1024) (by omega),A5 hb]; rfl
   ·rw [B7 (p:=((s.1.getD x bD).2.1.length:Int)≤1024) (by omega),B7 hb]; rfl
  ·show S2 (S1 _ _ s n) _ _ s (s.1.length:Int)=_
   unfold S2
   rw[B7 (p:=(s.1.length:Int)<(s.1.length:Int)) (by omega)]
   rfl
 ·rw [A5 (p:=(128:Int)<(s.1.length:Int)) (by omega),cond_true]
  congr 1
  cases hv:a4R s.1 with
  |false=>rfl
  |true=>exact absurd (v6.1 hv).1 h128
def a4S(bs:P7):Prop:=(∀ b∈bs,b.2.1.length≤1024)∧Inc (bs.map A6)
theorem c1k(bs:P7){x:Nat}(hx:x<bs.length):(bs.map A6).getD x []=A6 (bs.getD x bD):=by
 simp[List.getD,List.getElem?_eq_getElem hx]
theorem d4g{R:Type}(L:Nat→Nat→P7→G5→Option R)(bs:P7)(r:Option R)(ke:P7→G5→Option R)(hl:bs.length≤1048576)
  (step:∀n x z1 z2,x<bs.length→z1=bs.take x→z2=(bs.take x).map A6→L (n+1) x z1 z2=cond (!(decide ((bs.getD x bD).2.1.length≤1024))) r (cond (decide (0<x)&& !(ltI (z2.getD (x-1) []) (A6 (bs.getD x bD)))) r (L n (x+1) (z1++[bs.getD x bD]) (z2++[A6 (bs.getD x bD)]))))
  (stop:∀n z1 z2,L (n+1) bs.length z1 z2=ke z1 z2):(a4S bs→L FUEL 0 [] []=ke bs (bs.map A6))∧(¬ a4S bs→L FUEL 0 [] []=r):=by
 have key:∀(m fuel x:Nat),x+m=bs.length→m<fuel→(∀ i,i<x→(bs.getD i bD).2.1.length≤1024)→(∀ i,i+1<x→ltI (A6 (bs.getD i bD)) (A6 (bs.getD (i+1) bD))=true)→
   (a4S bs→L fuel x (bs.take x) ((bs.take x).map A6)=ke bs (bs.map A6))∧(¬ a4S bs→L fuel x (bs.take x) ((bs.take x).map A6)=r):=by
  intro m
  induction m with
  |zero=>
   intro fuel x hx hf h1 h2
   obtain⟨k,rfl⟩:∃k,fuel=k+1:=⟨fuel-1,by omega⟩
   have:x=bs.length:=by omega
   subst this
   rw[stop,List.take_length]
   refine⟨fun _=>rfl,fun hn=>absurd ⟨fun b hb=> ?_,?_⟩ hn⟩
   ·obtain ⟨i,hi,e⟩:=n8 (d:=bD) hb
    rw[← e]; exact h1 i hi
   ·have hadj:∀(j i:Nat),i<j→j<bs.length→ltI (A6 (bs.getD i bD)) (A6 (bs.getD j bD))=true:=by
     intro j
     induction j with
     |zero=>intro i hij; omega
     |succ j ih=>
      intro i hij hj
      by_cases e:i=j
      ·rw [e]; exact h2 j hj
      ·exact a1L (ih i (by omega) (by omega)) (h2 j hj)
    refine List.pairwise_iff_getElem.2 fun i j hi hj hij=> ?_
    rw[List.length_map]at hi hj
    have:=hadj j i hij hj
    simpa[List.getD,List.getElem?_eq_getElem hi,List.getElem?_eq_getElem hj]using this
  |succ m ih=>
   intro fuel x hx hf h1 h2
   obtain⟨k,rfl⟩:∃k,fuel=k+1:=⟨fuel-1,by omega⟩
   have hlt:x<bs.length:=by omega
   have t1:bs.take (x+1)=bs.take x++[bs.getD x bD]:=by
    rw[List.take_add_one]; simp[List.getD,List.getElem?_eq_getElem hlt]
   have t2:(bs.take (x+1)).map A6=(bs.take x).map A6++[A6 (bs.getD x bD)]:=by rw[t1,List.map_append]; rfl
   rw[step k x _ _ hlt rfl rfl]
   by_cases hd:(bs.getD x bD).2.1.length≤1024
   ·rw [A5 hd]
    simp only[Bool.not_true,cond_false]
    have next:(0<x→ltI (A6 (bs.getD (x-1) bD)) (A6 (bs.getD x bD))=true)→(a4S bs→L k (x+1) (bs.take x++[bs.getD x bD]) ((bs.take x).map A6++[A6 (bs.getD x bD)])=ke bs (bs.map A6))∧(¬ a4S bs→L k (x+1) (bs.take x++[bs.getD x bD]) ((bs.take x).map A6++[A6 (bs.getD x bD)])=r):=by
     intro hk
     rw[← t1,←t2]
     refine ih k (x+1) (by omega) (by omega) (fun i hi=> ?_) (fun i hi=> ?_)
     ·by_cases e:i=x
      ·rw [e]; exact hd
      ·exact h1 i (by omega)
     ·by_cases e:i+1=x
      ·subst e; exact hk (by omega)
      ·exact h2 i (by omega)
    by_cases h0:0<x
    ·have hg:((bs.take x).map A6).getD (x-1) []=A6 (bs.getD (x-1) bD):=by
      rw[c1k (bs.take x) (by simp; omega)]
      congr 1
      simp[List.getD,List.getElem?_take_of_lt (show x-1<x by omega)]
     rw[hg,A5 h0]
     cases hk:ltI (A6 (bs.getD (x-1) bD)) (A6 (bs.getD x bD))with
     |true=>exact next fun _=>hk
     |false=>
      refine⟨fun ho=> ?_,fun _=>rfl⟩
      have:=a4W ho.2 (show x-1<x by omega) (by rw[List.length_map]; exact hlt)
      rw[c1k bs hlt,c1k bs (by omega),hk]at this
      cases this
    ·rw [B7 h0]
     exact next fun q=>absurd q h0
   ·rw [B7 hd]
    exact⟨fun ho=>absurd (ho.1 _ (I6 bD hlt)) hd,fun _=>rfl⟩
 have:=key bs.length FUEL 0 (by omega) (D7 (by omega)) (fun i hi=>by omega) (fun i hi=>by omega)
 simpa using this
noncomputable def b4B{R:Type}(rec:Int→P7→G5→Option R)(kr ke:P7→G5→Option R)(bs:P7)(x5:Int)(z1:P7)(z2:G5):Option R:=
 (cond (decide (x5<(bs.length:Int)))
 (cond ((decide ((0:Int)≤x5))&&(decide (x5<(bs.length:Int))))
 (A1w (a1V (bs.getD (x5.toNat) ((0:Int),([],())))) fun(b3:Bool)=>(cond (!b3)
 (kr z1 z2)
 (cond ((decide ((0:Int)≤x5))&&(decide (x5<(bs.length:Int))))
 (A1w (W8 (bs.getD (x5.toNat) ((0:Int),([],())))) fun(b4:(List Int))=>(cond (decide ((0:Int)<x5))
 (cond ((decide ((0:Int)≤(IntKind.wrap .i64 (x5-(1:Int)))))&&(decide ((IntKind.wrap .i64 (x5-(1:Int)))<(z2.length:Int))))
 (A1w (R0 (z2.getD ((IntKind.wrap .i64 (x5-(1:Int))).toNat) (List.replicate 32 (0:Int))) b4) fun(b5:Int)=>(cond (decide ((0:Int)≤b5))
 (kr z1 z2)
 (cond ((decide ((0:Int)≤x5))&&(decide (x5<(bs.length:Int))))
 (cond (decide ((z1.length+1)*32≤140737488355328)&&decide (z1.length+1≤9223372036854775807))
 (cond (decide ((z2.length+1)*32≤140737488355328)&&decide (z2.length+1≤9223372036854775807))
 (rec (IntKind.wrap .i64 (x5+(1:Int))) (z1++[(bs.getD (x5.toNat) ((0:Int),([],())))]) (z2++[b4]))
 none)
 none)
 none)))
 none)
 (cond ((decide ((0:Int)≤x5))&&(decide (x5<(bs.length:Int))))
 (cond (decide ((z1.length+1)*32≤140737488355328)&&decide (z1.length+1≤9223372036854775807))
 (cond (decide ((z2.length+1)*32≤140737488355328)&&decide (z2.length+1≤9223372036854775807))
 (rec (IntKind.wrap .i64 (x5+(1:Int))) (z1++[(bs.getD (x5.toNat) ((0:Int),([],())))]) (z2++[b4]))
 none)
 none)
 none)))
 none)))
 none)
 (ke z1 z2))
theorem b0L{R:Type}(L:Nat→Int→P7→G5→Option R)(bs:P7)(r:Option R)(kr ke:P7→G5→Option R)(hl:bs.length≤1048576)(h:∀b∈bs,J9 b)(hkr:∀z1 z2,kr z1 z2=r)
  (step:∀n x z1 z2,L (n+1) x z1 z2=b4B (L n) kr ke bs x z1 z2):(a4S bs→L FUEL 0 [] []=ke bs (bs.map A6))∧(¬ a4S bs→L FUEL 0 [] []=r):=by
 refine d4g (fun n x z1 z2=>L n (x:Int) z1 z2) bs r ke hl (fun n x z1 z2 hx h1 h2=> ?_) (fun n z1 z2=> ?_)
 ·rw [step]
  have l1:z1.length=x:=by rw[h1]; simp; omega
  have l2:z2.length=x:=by rw[h2]; simp; omega
  have hk2:∀k∈z2,L7 k:=by rw[h2]; exact a4X _
  unfold b4B a1V
  have hbo:=d9o h hx
  simp only[Int.toNat_natCast,B5u,hkr]
  rw[b2w hbo,A5 (p:=(x:Int)<(bs.length:Int)) (by omega),A5 (p:=(0:Int)≤(x:Int)) (by omega),U1 (n:=(x:Int)+1) (by omega) (by omega),l1,l2,A5 (p:=(x+1)*32≤140737488355328) (by omega),A5 (p:=x+1≤9223372036854775807) (by omega)]
  simp only[Bool.and_self,cond_true,B5u]
  by_cases hd:(bs.getD x bD).2.1.length≤1024
  ·rw [A5 hd,A5 (p:=((bs.getD x bD).2.1.length:Int)≤1024) (by omega)]
   simp only[Bool.not_true,cond_false]
   by_cases hx0:0<x
   ·have e1:IntKind.wrap .i64 ((x:Int)-1)=((x-1:Nat):Int):=by rw[U1 (by omega) (by omega)]; omega
    rw[e1,A5 (p:=(0:Int)<(x:Int)) (by omega),A5 (p:=(0:Int)≤((x-1:Nat):Int)) (by omega),A5 (p:=((x-1:Nat):Int)<(x:Int)) (by omega),A5 hx0]
    simp only[Int.toNat_natCast,Bool.and_self,cond_true,Bool.true_and]
    rw[a4V (z:=z2) (i:=x-1) (by omega),a4L (hk2 _ (I6 [] (by omega))).1 (a5c _).1,B5u,d4t]
    rfl
   ·rw [B7 (p:=(0:Int)<(x:Int)) (by omega),B7 hx0]
    rfl
  ·rw [B7 hd,B7 (p:=((bs.getD x bD).2.1.length:Int)≤1024) (by omega)]
   rfl
 ·rw [step]
  unfold b4B
  rw[B7 (p:=(bs.length:Int)<(bs.length:Int)) (by omega)]
  rfl
theorem a5L{bs:P7}(h:bs.length≤128):(a4R bs=true↔a4S bs):=by
 rw[v6]; exact⟨fun q=>q.2,fun q=>⟨h,q⟩⟩
def A6t(ks:G5)(t:List Int):Option Nat:=ks.findIdx? fun k=>decide (k=t)
theorem a3M{ks:G5}{t:List Int}:A6t ks t=none↔t∉ks:=by
 unfold A6t
 rw[List.findIdx?_eq_none_iff]
 simp only[decide_eq_false_iff_not]
 exact⟨fun h hm=>h t hm rfl,fun h k hk e=>h (e▸hk)⟩
theorem b8J{ks:G5}{t:List Int}{i:Nat}(hi:Inc ks)(hl:i<ks.length)(hg:ks.getD i []=t):A6t ks t=some i:=by
 unfold A6t
 rw[List.findIdx?_eq_some_iff_getElem]
 refine⟨hl,?_,fun j hj=> ?_⟩
 ·simpa [List.getD,List.getElem?_eq_getElem hl]using hg
 ·have:=a4W hi hj hl
  rw[hg]at this
  have hne:=b0j this
  have hj2:j<ks.length:=by omega
  simp only[Bool.not_eq_true,decide_eq_false_iff_not]
  simpa[List.getD,List.getElem?_eq_getElem hj2]using hne
theorem a5R{ks:G5}{t:List Int}{i:Nat}(h:A6t ks t=some i):i<ks.length∧ks.getD i []=t:=by
 unfold A6t at h
 obtain⟨h1,h2,_⟩:=List.findIdx?_eq_some_iff_getElem.1 h
 refine⟨h1,?_⟩
 simpa[List.getD,List.getElem?_eq_getElem h1]using h2
theorem a7m(bs:P7)(ks:G5)(u:Unit)(t:List Int)(hl:ks.length≤1048576):N9 (bs,ks,u) t=some (match A6t ks t with|some i=>(i:Int)|none=> -1):=by
 unfold N9
 have key:∀(m fuel x:Nat),x+m=ks.length→m<fuel→(∀ i,i<x→ks.getD i []≠t)→N3 (fun x4=>some x4) (some (-1:Int)) (bs,ks,u) t fuel (x:Int)=some (match A6t ks t with|some i=>(i:Int)|none=> -1):=by
  intro m
  induction m with
  |zero=>
   intro fuel x hx hf hn
   obtain⟨k,rfl⟩:∃k,fuel=k+1:=⟨fuel-1,by omega⟩
   show N4 (N3 _ _ _ t k) _ _ (bs,ks,u) t (x:Int)=_
   unfold N4
   rw[B7 (p:=(x:Int)<(ks.length:Int)) (by omega)]
   have:A6t ks t=none:=a3M.2 fun hm=>by
    obtain⟨i,hi,e⟩:=n8 (d:=[]) hm
    exact hn i (by omega) e
   rw[this]; rfl
  |succ m ih=>
   intro fuel x hx hf hn
   obtain⟨k,rfl⟩:∃k,fuel=k+1:=⟨fuel-1,by omega⟩
   show N4 (N3 _ _ _ t k) _ _ (bs,ks,u) t (x:Int)=_
   unfold N4
   simp only[Int.toNat_natCast]
   rw[a4V (z:=ks) (i:=x) (by omega),eqK,A5 (p:=(x:Int)<(ks.length:Int)) (by omega),A5 (p:=(0:Int)≤(x:Int)) (by omega),U1 (n:=(x:Int)+1) (by omega) (by omega)]
   simp only[Bool.and_self,cond_true]
   by_cases e:ks.getD x []=t
   ·have:A6t ks t=some x:=by
     unfold A6t
     have hxl:x<ks.length:=by omega
     rw[List.findIdx?_eq_some_iff_getElem]
     refine⟨hxl,by simpa[List.getD,List.getElem?_eq_getElem hxl]using e,fun j hj=> ?_⟩
     have:=hn j hj
     have hj2:j<ks.length:=by omega
     simp only[Bool.not_eq_true,decide_eq_false_iff_not]
     simpa[List.getD,List.getElem?_eq_getElem hj2]using this
    rw[A5 e,this]; rfl
   ·rw [B7 e]
    exact ih k (x+1) (by omega) (by omega) (fun i hi=>by
     by_cases q:i=x
     ·rw [q]; exact e
     ·exact hn i (by omega))
 exact key ks.length FUEL 0 (by omega) (D7 (by omega)) (fun i hi=>by omega)
theorem b2J{ke:Int→Option (A2K C0)}(l:G5)(n:List Int)(hk:∀k∈l,L7 k)(hn:L7 n)(hl:l.length≤1073741824)(hs:Inc l):∀(m fuel lo hi:Nat),hi-lo≤m→m<fuel→lo≤hi→hi≤l.length→(∀ i,i<lo→ltI (l.getD i []) n=true)→(∀ i,hi≤i→i<l.length→ltI (l.getD i []) n=false)→
  ∃p:Nat,A8 ke l n fuel (lo:Int) (hi:Int)=ke (p:Int)∧p≤l.length∧(∀ i,i<p→ltI (l.getD i []) n=true)∧(∀ i,p≤i→i<l.length→ltI (l.getD i []) n=false)
 |0,fuel,lo,hi,h1,h2,h3,h4,h5,h6=>by
  obtain⟨k,rfl⟩:∃k,fuel=k+1:=⟨fuel-1,by omega⟩
  have:lo=hi:=by omega
  subst this
  refine⟨lo,?_,h4,h5,h6⟩
  show B6 (A8 ke l n k) ke l n (lo:Int) (lo:Int)=_
  unfold B6
  rw[B7 (p:=(lo:Int)<(lo:Int)) (by omega)]
  rfl
 |m+1,fuel,lo,hi,h1,h2,h3,h4,h5,h6=>by
  obtain⟨k,rfl⟩:∃k,fuel=k+1:=⟨fuel-1,by omega⟩
  by_cases hlt:lo<hi
  ·have hmid:=d9q (lo:=lo) (hi:=hi) (by omega) h3
   have hM:(lo+hi) / 2<hi:=by omega
   have hM2:lo≤(lo+hi) / 2:=by omega
   generalize (lo+hi) / 2=M at hmid hM hM2
   have run:A8 ke l n (k+1) (lo:Int) (hi:Int)=cond (ltI (l.getD M []) n) (A8 ke l n k ((M+1:Nat):Int) (hi:Int)) (A8 ke l n k (lo:Int) (M:Int)):=by
    show B6 (A8 ke l n k) ke l n (lo:Int) (hi:Int)=_
    unfold B6
    simp only[hmid,Int.toNat_natCast]
    rw[a4V (z:=l) (i:=M) (by omega),a0v (hk _ (I6 [] (by omega))).1 hn.1,A5 (p:=(lo:Int)<(hi:Int)) (by omega),A5 (p:=(0:Int)≤(M:Int)) (by omega),A5 (p:=(M:Int)<(l.length:Int)) (by omega),U1 (n:=(M:Int)+1) (by omega) (by omega)]
    simp only[Bool.and_self,cond_true,B5u,a3P]
    rfl
   rw[run]
   cases hc:ltI (l.getD M []) n with
   |true=>
    rw[cond_true]
    refine b2J l n hk hn hl hs m k (M+1) hi (by omega) (by omega) (by omega) h4 (fun i hi'=> ?_) h6
    by_cases e:i=M
    ·rw [e]; exact hc
    ·exact a1L (a4W hs (show i<M by omega) (by omega)) hc
   |false=>
    rw[cond_false]
    refine b2J l n hk hn hl hs m k lo M (by omega) (by omega) hM2 (by omega) h5 (fun i hi1 hi2=> ?_)
    by_cases e:i=M
    ·rw [e]; exact hc
    ·cases hq:ltI (l.getD i []) n with
     |false=>rfl
     |true=>
      have:=a1L (a4W hs (show M<i by omega) hi2) hq
      rw[hc]at this; cases this
  ·have:lo=hi:=by omega
   subst this
   refine⟨lo,?_,h4,h5,h6⟩
   show B6 (A8 ke l n k) ke l n (lo:Int) (lo:Int)=_
   unfold B6
   rw[B7 (p:=(lo:Int)<(lo:Int)) (by omega)]
   rfl
theorem a7k(ks:G5)(bs:P7)(u:Unit)(t:List Int)(hk:∀k∈ks,L7 k)(ht:L7 t)(hl:ks.length≤1073741824)(hs:Inc ks):
  (∃ i:Nat,Y5 (ks,bs,u) t=some ((i:Int),true)∧i<ks.length∧ks.getD i []=t∧A6t ks t=some i)∨
  (∃ i:Nat,Y5 (ks,bs,u) t=some ((i:Int),false)∧i≤ks.length∧A6t ks t=none∧(∀ j,j<i→ltI (ks.getD j []) t=true)∧(∀ j,i≤j→j<ks.length→ltI t (ks.getD j [])=true)):=by
 unfold Y5 F9
 let ke:Int→Option (A2K C0):=fun x9=>(cond (decide (x9<(ks.length:Int)))
  (cond ((decide ((0:Int)≤x9))&&(decide (x9<(ks.length:Int))))
  (A1w (F4 (ks.getD (x9.toNat) (List.replicate 32 (0:Int))) t) fun(b3:Int)=>(some (x9,(decide (b3=(0:Int))))))
  none)
  (some (x9,false)))
 obtain⟨p,h1,h2,h3,h4⟩:=b2J (ke:=ke) ks t hk ht hl hs ks.length FUEL 0 ks.length (by omega) (D7 (by omega)) (by omega) (Nat.le_refl _) (fun i hi=>by omega) (fun i hi1 hi2=>by omega)
 have h1:A8 ke ks t FUEL (0:Int) (ks.length:Int)=ke (p:Int):=h1
 by_cases hp:p<ks.length
 ·have hkk:ke (p:Int)=some ((p:Int),decide (ks.getD p []=t)):=by
   simp only[ke,Int.toNat_natCast]
   rw[a4V hp,a0v (hk _ (I6 [] hp)).1 ht.1,A5 (p:=(p:Int)<(ks.length:Int)) (by omega),A5 (p:=(0:Int)≤(p:Int)) (by omega)]
   simp only[Bool.and_self,cond_true,B5u,c7d]
  by_cases e:ks.getD p []=t
  ·refine .inl ⟨p,?_,hp,e,b8J hs hp e⟩
   show A1w (A8 ke ks t FUEL (0:Int) (ks.length:Int)) _=_
   rw[h1,hkk,A5 e]; rfl
  ·have hgt:∀j,p≤j→j<ks.length→ltI t (ks.getD j [])=true:=by
    intro j h5 h6
    have h7:=c1l (h4 p (Nat.le_refl _) hp) (Ne.symm e)
    by_cases q:j=p
    ·rw [q]; exact h7
    ·exact a1L h7 (a4W hs (show p<j by omega) h6)
   refine .inr ⟨p,?_,h2,a3M.2 fun hm=> ?_,h3,hgt⟩
   ·show A1w (A8 ke ks t FUEL (0:Int) (ks.length:Int)) _=_
    rw[h1,hkk,B7 e]; rfl
   ·obtain ⟨i,hi,eg⟩:=n8 (d:=[]) hm
    rcases Nat.lt_or_ge i p with q|q
    ·exact b0j (h3 i q) eg
    ·exact b0j (hgt i q hi) eg.symm
 ·have hkk:ke (p:Int)=some ((p:Int),false):=by
   simp only[ke]
   rw[B7 (p:=(p:Int)<(ks.length:Int)) (by omega)]
   rfl
  refine .inr ⟨p,?_,h2,a3M.2 fun hm=> ?_,h3,fun j h5 h6=>by omega⟩
  ·show A1w (A8 ke ks t FUEL (0:Int) (ks.length:Int)) _=_
   rw[h1,hkk]; rfl
  ·obtain ⟨i,hi,eg⟩:=n8 (d:=[]) hm
   exact b0j (h3 i (by omega)) eg
def b2y(ks:G5)(bs:P7)(t:List Int):Option a1f:=(A6t ks t).map fun i=>bs.getD i bD
theorem b2v(ks:G5)(bs:P7)(u:Unit)(t:List Int)(hk:∀k∈ks,L7 k)(ht:L7 t)(hl:ks.length≤1073741824)(hs:Inc ks)(hb:bs.length=ks.length):
  a0k (ks,bs,u) t=some (match b2y ks bs t with|some b=>(b,true)|none=>(bD,false)):=by
 unfold a0k b2y
 rcases a7k ks bs u t hk ht hl hs with⟨i,e1,e2,e3,e4⟩|⟨i,e1,e2,e4,_,_⟩<;>rw[e1,e4]<;>simp only[B5u,Option.map,Int.toNat_natCast,Bool.not_true,Bool.not_false,cond]
 rw[A5 (p:=(0:Int)≤(i:Int)) (by omega),A5 (p:=(i:Int)<(bs.length:Int)) (by omega)]
 rfl
theorem d9s{α:Type}(L:Nat→Int→Nat→Option Int)(xs:List α)(d:α)(sz:α→Nat)(B:Int)(hB:B<9223372036854775808)(hl:xs.length<18446744073709551616)(c:α→Int→Option Int)
  (hc:∀x∈xs,∀left,0≤left→left≤B→c x left=some (if left-(sz x:Int)<0 then -1 else left-(sz x:Int)))
  (step:∀n left x,x<xs.length→L (n+1) left x=A1w (c (xs.getD x d) left) fun b=>cond (decide (b<0)) (some (-1)) (L n b (x+1))) (stop:∀n left,L (n+1) left xs.length=some left):
  ∀left,0≤left→left≤B→L FUEL left 0=some (if left-(I7 sz xs:Int)<0 then -1 else left-(I7 sz xs:Int)):=by
 have key:∀m n x left,x+m=xs.length→m<n→0≤left→left≤B→L n left x=some (if left-(I7 sz (xs.drop x):Int)<0 then -1 else left-(I7 sz (xs.drop x):Int)):=by
  intro m
  induction m with
  |zero=>
   intro n x left h hn h0 h1
   have:x=xs.length:=by omega
   subst this
   obtain⟨k,rfl⟩:∃k,n=k+1:=⟨n-1,by omega⟩
   have e0:I7 sz ([]:List α)=0:=rfl
   rw[stop k left,List.drop_length,e0,if_neg (by omega)]
   simp
  |succ m ih=>
   intro n x left h hn h0 h1
   obtain⟨k,rfl⟩:∃k,n=k+1:=⟨n-1,by omega⟩
   have hx:x<xs.length:=by omega
   have hg:xs.getD x d=xs[x]:=by simp[List.getD,List.getElem?_eq_getElem hx]
   rw[step k left x hx,hc _ (I6 d hx) left h0 h1,B5u,List.drop_eq_getElem_cons hx,hg]
   have e1:I7 sz (xs[x]::xs.drop (x+1))=sz xs[x]+I7 sz (xs.drop (x+1)):=rfl
   rw[e1]
   by_cases hv:left-(sz xs[x]:Int)<0
   ·rw [if_pos hv,A5 (show (-1:Int)<0 by omega),if_pos (by omega)]
    rfl
   ·rw [if_neg hv,B7 hv,cond_false,ih k (x+1) _ (by omega) (by omega) (by omega) (by omega)]
    congr 1
    have e:left-(sz xs[x]:Int)-(I7 sz (xs.drop (x+1)):Int)=left-((sz xs[x]+I7 sz (xs.drop (x+1)):Nat):Int):=by omega
    rw[e]
 intro left h0 h1
 have:=key xs.length FUEL 0 left (by omega) (D7 hl) h0 h1
 rwa [List.drop_zero]at this
abbrev szD(b:a1f):Nat:=b.2.1.length
abbrev a0z(b:a1f):Nat:=1+b.2.1.length
theorem d7v(bs:P7):I7 a0z bs=bs.length+I7 szD bs:=by
 induction bs with
 |nil=>rfl
 |cons b bs ih=>simp only[I7,List.length_cons,ih,a0z,szD]; omega
theorem d0N(b:a1f)(left:Int)(h0:0≤left)(h1:left≤1048576)(hl:b.2.1.length≤9223372036854775807):a2I b left=some (if left-(szD b:Int)<0 then -1 else left-(szD b:Int)):=by
 unfold a2I a4c
 rw[U1 (n:=left-(b.2.1.length:Int)) (by omega) (by omega)]
 simp only[szD]
 by_cases h:left-(b.2.1.length:Int)<0
 ·rw [A5 h,if_pos h]; rfl
 ·rw [B7 h,if_neg h]
  simp only[cond,B5u]
  rw[B7 h]
theorem c6Y(bs:P7)(left:Int)(h0:0≤left)(h1:left≤1048576)(hn:bs.length≤9223372036854775807)(hl:∀b∈bs,b.2.1.length≤9223372036854775807):a3e bs left=some (if left-(I7 a0z bs:Int)<0 then -1 else left-(I7 a0z bs:Int)):=by
 unfold a3e
 rw[U1 (n:=left-(bs.length:Int)) (by omega) (by omega),d7v]
 by_cases h:left-(bs.length:Int)<0
 ·rw [A5 h,if_pos (by omega)]; rfl
 ·rw [B7 h,cond_false]
  have:=d9s (fun n left x=>f8 (some (-1)) (fun x1=>some x1) bs n left (x:Int)) bs bD szD 1048576 (by omega) (by omega) a2I (fun b hb left h2 h3=>d0N b left h2 h3 (hl b hb)) (fun n left x hx=>by
   show f9 (f8 (some (-1)) (fun x1=>some x1) bs n) (some (-1)) (fun x1=>some x1) bs left (x:Int)=_
   unfold f9
   rw[A5 (p:=(x:Int)<(bs.length:Int)) (by omega),A5 (p:=(0:Int)≤(x:Int)) (by omega),U1 (n:=(x:Int)+1) (by omega) (by omega)]
   rfl) (fun n left=>by
   show f9 (f8 (some (-1)) (fun x1=>some x1) bs n) (some (-1)) (fun x1=>some x1) bs left (bs.length:Int)=_
   unfold f9
   rw[B7 (p:=(bs.length:Int)<(bs.length:Int)) (by omega)]
   rfl) (left-(bs.length:Int)) (by omega) (by omega)
  refine Eq.trans this ?_
  congr 1
  have e:left-(bs.length:Int)-(I7 szD bs:Int)=left-((bs.length+I7 szD bs:Nat):Int):=by omega
  rw[e]
theorem b4H(s:a3O)(left:Int)(h0:0≤left)(h1:left≤1048576)(hn:s.1.length≤9223372036854775807)(hl:∀b∈s.1,b.2.1.length≤9223372036854775807):a1I s left=some (if left-(I7 a0z s.1:Int)<0 then -1 else left-(I7 a0z s.1:Int)):=by
 unfold a1I
 rw[c6Y s.1 left h0 h1 hn hl,B5u]
 by_cases h:left-(I7 a0z s.1:Int)<0
 ·rw [if_pos h]; rfl
 ·rw [if_neg h,B7 h]; rfl
theorem d9r{α:Type}{sz:α→Nat}{xs:List α}{x:α}(h:x∈xs):sz x≤I7 sz xs:=by
 induction xs with
 |nil=>simp at h
 |cons y ys ih=>
  rw[I7]
  rcases List.mem_cons.1 h with h|h
  ·subst h; omega
  ·have:=ih h; omega
theorem c1A{bs:P7}{B:Nat}(h:I7 a0z bs≤B):bs.length≤B∧∀b∈bs,b.2.1.length≤B:=
 ⟨by rw[d7v]at h; omega,fun b hb=>by have:=d9r (sz:=a0z) hb; simp only[a0z]at this; omega⟩
theorem d0Q(b:a1f)(h:b.2.1.length≤140737488355328):a3z b=some b:=by
 unfold a3z
 rw[c7a _ h]; rfl
theorem c6Z(bs:P7)(hn:bs.length≤1048576)(h:∀b∈bs,b.2.1.length≤1048576):a1J bs=some bs:=by
 unfold a1J
 rw[A5 (p:=(0:Int)≤(bs.length:Int)) (by omega),A5 (p:=(bs.length:Int)*32≤140737488355328) (by omega),A5 (p:=(bs.length:Int)≤9223372036854775807) (by omega)]
 simp only[Bool.and_self,cond_true,Int.toNat_natCast]
 refine b2M (fun n x z=>V3 (fun z70=>some z70) bs n (x:Int) z) bs bD (by omega) (fun n x z hx hz=> ?_) (fun n z=> ?_)
 ·show V4 (V3 (fun z70=>some z70) bs n) (fun z70=>some z70) bs (x:Int) z=_
  unfold V4
  have:=h _ (I6 bD hx)
  simp only[Int.toNat_natCast]
  rw[d0Q _ (show (bs.getD x bD).2.1.length≤_ by omega),B5u,A5 (p:=(x:Int)<(bs.length:Int)) (by omega),A5 (p:=(0:Int)≤(x:Int)) (by omega),A5 (p:=(x:Int)<(z.length:Int)) (by omega),U1 (n:=(x:Int)+1) (by omega) (by omega)]
  rfl
 ·show V4 (V3 (fun z70=>some z70) bs n) (fun z70=>some z70) bs (bs.length:Int) z=_
  unfold V4
  rw[B7 (p:=(bs.length:Int)<(bs.length:Int)) (by omega)]
  rfl
theorem b4J(s:a3O)(hn:s.1.length≤1048576)(h:∀b∈s.1,b.2.1.length≤1048576):L8 s=some s:=by
 unfold L8
 rw[c6Z s.1 hn h]; rfl
theorem d0R(a:List Int)(h:a.length=32):a4d a=some a:=by
 unfold a4d
 have:=b2M (fun n x y=>a0p (fun G9=>some G9) a n (x:Int) y) a 0 (by omega) (fun n x z hx hz=>by
  show a0q (a0p (fun G9=>some G9) a n) (fun G9=>some G9) a (x:Int) z=_
  unfold a0q
  rw[A5 (p:=(x:Int)<32) (by omega),A5 (p:=(0:Int)≤(x:Int)) (by omega),U1 (n:=(x:Int)+1) (by omega) (by omega)]
  rfl) (fun n z=>by
  show a0q (a0p (fun G9=>some G9) a n) (fun G9=>some G9) a (a.length:Int) z=_
  unfold a0q
  rw[B7 (p:=(a.length:Int)<32) (by omega)]
  rfl)
 rw[h]at this
 exact this
theorem d0S(ks:G5)(hn:ks.length≤1048576)(h:∀k∈ks,k.length=32):a0C ks=some ks:=by
 unfold a0C
 rw[A5 (p:=(0:Int)≤(ks.length:Int)) (by omega),A5 (p:=(ks.length:Int)*32≤140737488355328) (by omega),A5 (p:=(ks.length:Int)≤9223372036854775807) (by omega)]
 simp only[Bool.and_self,cond_true,Int.toNat_natCast]
 refine b2M (fun n x z=>r7 (fun z70=>some z70) ks n (x:Int) z) ks (List.replicate 32 0) (by omega) (fun n x z hx hz=> ?_) (fun n z=> ?_)
 ·show r8 (r7 (fun z70=>some z70) ks n) (fun z70=>some z70) ks (x:Int) z=_
  unfold r8
  simp only[Int.toNat_natCast]
  rw[d0R _ (h _ (I6 _ hx)),B5u,A5 (p:=(x:Int)<(ks.length:Int)) (by omega),A5 (p:=(0:Int)≤(x:Int)) (by omega),A5 (p:=(x:Int)<(z.length:Int)) (by omega),U1 (n:=(x:Int)+1) (by omega) (by omega)]
  rfl
 ·show r8 (r7 (fun z70=>some z70) ks n) (fun z70=>some z70) ks (ks.length:Int) z=_
  unfold r8
  rw[B7 (p:=(ks.length:Int)<(ks.length:Int)) (by omega)]
  rfl
theorem c1F(b:a1f)(h:b.2.1.length≤140737488355328):a3w b b=some true:=by
 unfold a3w
 rw[b9e _ h,B5u]
 simp only[decide_true,Bool.not_true,cond]
theorem b9d(bs:P7)(hn:bs.length≤1048576)(h:∀b∈bs,b.2.1.length≤1048576):a3c bs bs=some true:=by
 unfold a3c
 rw[A5 rfl]
 refine b8S (fun n x=>Z9 (some false) (some true) bs bs n (x:Int)) bs bD (some true) (by omega) (fun n x hx hm=> ?_) (fun n=> ?_)
 ·show a7 (Z9 (some false) (some true) bs bs n) (some false) (some true) bs bs (x:Int)=_
  unfold a7
  have:=h _ hm
  simp only[Int.toNat_natCast]
  rw[c1F _ (show (bs.getD x bD).2.1.length≤_ by omega),B5u,A5 (p:=(x:Int)<(bs.length:Int)) (by omega),A5 (p:=(0:Int)≤(x:Int)) (by omega),U1 (n:=(x:Int)+1) (by omega) (by omega)]
  rfl
 ·show a7 (Z9 (some false) (some true) bs bs n) (some false) (some true) bs bs (bs.length:Int)=_
  unfold a7
  rw[B7 (p:=(bs.length:Int)<(bs.length:Int)) (by omega)]
  rfl
theorem a5W(s:a3O)(hn:s.1.length≤1048576)(h:∀b∈s.1,b.2.1.length≤1048576):c9 (s.1,()) (s.1,())=some true:=by
 unfold c9
 rw[b9d s.1 hn h]; rfl
theorem c1G(zs:G5)(hl:zs.length≤1073741824):a3x zs zs=some true:=by
 unfold a3x
 rw[A5 rfl]
 refine b8S (fun n x=>q8 (some false) (some true) zs zs n (x:Int)) zs (List.replicate 32 0) (some true) (by omega) (fun n x hx hm=> ?_) (fun n=> ?_)
 ·show q9 (q8 (some false) (some true) zs zs n) (some false) (some true) zs zs (x:Int)=_
  unfold q9
  rw[c4O,B5u,A5 (p:=(x:Int)<(zs.length:Int)) (by omega),A5 (p:=(0:Int)≤(x:Int)) (by omega),U1 (n:=(x:Int)+1) (by omega) (by omega)]
  rfl
 ·show q9 (q8 (some false) (some true) zs zs n) (some false) (some true) zs zs (zs.length:Int)=_
  unfold q9
  rw[B7 (p:=(zs.length:Int)<(zs.length:Int)) (by omega)]
  rfl
noncomputable def b0k(b:a1f)(k:Int):a1f:=(IntKind.wrap .u8 k,(mkB b.2.1 (k+1),b.2.2))
theorem a7j(zs:P7)(k:Int)(h0:0≤k)(hl:zs.length≤1073741824)(h:k+(I7 a0z zs:Int)≤1099511627776):X6 zs k=some (a3m b0k a0z zs k,k+(I7 a0z zs:Int)):=by
 unfold X6
 refine b8N (fun n x k z=>P4 (fun x1 z7=>some (z7,x1)) n k (x:Int) z) b0k a0z (fun k z=>some (z,k)) zs (by omega) k (fun n l y r k' hlen hy hk hk2=> ?_) (fun n k z hz=> ?_)
 ·show P5 (P4 (fun x1 z7=>some (z7,x1)) n) (fun x1 z7=>some (z7,x1)) k' (l.length:Int) (l++y::r)=_
  unfold P5
  have hll:∀w:a1f,(l++w::r).length=zs.length:=fun w=>by simp; omega
  have hk2':k'+(1+(y.2.1.length:Int))≤k+(I7 a0z zs:Int):=by simp only[a0z]at hk2; omega
  simp only[Int.toNat_natCast,a8v,b2H,hll]
  rw[U1 (n:=k'+1) (by omega) (by omega),c1m y.2.1 (k'+1) (by omega) (by omega),B5u,A5 (p:=(l.length:Int)<(zs.length:Int)) (by omega),A5 (p:=(0:Int)≤(l.length:Int)) (by omega),A5 (p:=l.length<zs.length) (by omega),U1 (n:=(l.length:Int)+1) (by omega) (by omega)]
  simp only[Bool.and_self,cond_true]
  have e:k'+1+(y.2.1.length:Int)=k'+((a0z y:Nat):Int):=by simp only[a0z]; omega
  rw[e]
  rfl
 ·show P5 (P4 (fun x1 z7=>some (z7,x1)) n) (fun x1 z7=>some (z7,x1)) k (zs.length:Int) z=_
  unfold P5
  rw[hz,B7 (p:=(zs.length:Int)<(zs.length:Int)) (by omega)]
  rfl
theorem c1f(zs:P7)(k:Int)(h0:0≤k)(hl:zs.length≤1073741824)(h:k+(I7 a0z zs:Int)≤1099511627776):a1F (a3m b0k a0z zs k) k=some (k+(I7 a0z zs:Int)):=by
 unfold a1F
 have hm:=a4Y b0k a0z zs k
 refine d0B (fun n x k'=>U7 (some (-1)) (fun x1=>some x1) (a3m b0k a0z zs k) n k' (x:Int)) b0k a0z (fun k=>some k) zs (by omega) k (fun n l y r k' heq hlt hy hk hk2=> ?_) (fun n k'=> ?_)
 ·show U8 (U7 (some (-1)) (fun x1=>some x1) (a3m b0k a0z zs k) n) (some (-1)) (fun x1=>some x1) (a3m b0k a0z zs k) k' (l.length:Int)=_
  unfold U8
  have hg:(a3m b0k a0z zs k).getD l.length bD=b0k y k':=by rw[heq]; exact a8v _ _ _ _
  have hk2':k'+(1+(y.2.1.length:Int))≤k+(I7 a0z zs:Int):=by simp only[a0z]at hk2; omega
  simp only[Int.toNat_natCast,hg,hm]
  have e1:(b0k y k').1=IntKind.wrap .u8 k':=rfl
  have e2:(b0k y k').2.1=mkB y.2.1 (k'+1):=rfl
  rw[e1,e2,U1 (n:=k'+1) (by omega) (by omega),c1g y.2.1 (k'+1) (by omega) (by omega),B5u,A5 (p:=(l.length:Int)<(zs.length:Int)) (by omega),A5 (p:=(0:Int)≤(l.length:Int)) (by omega),U1 (n:=(l.length:Int)+1) (by omega) (by omega),B7 (p:=k'+1+(y.2.1.length:Int)<0) (by omega),A5 rfl]
  have e:k'+1+(y.2.1.length:Int)=k'+((a0z y:Nat):Int):=by simp only[a0z]; omega
  rw[e]
  rfl
 ·show U8 (U7 (some (-1)) (fun x1=>some x1) (a3m b0k a0z zs k) n) (some (-1)) (fun x1=>some x1) (a3m b0k a0z zs k) k' (zs.length:Int)=_
  unfold U8
  rw[hm,B7 (p:=(zs.length:Int)<(zs.length:Int)) (by omega)]
  rfl
noncomputable def f0e(y:List Int)(k:Int):List Int:=a4K (fun k=>IntKind.wrap .u8 k) k 32
abbrev c1u(_:List Int):Nat:=32
theorem d6N(zs:G5):I7 c1u zs=32*zs.length:=by
 induction zs with
 |nil=>rfl
 |cons z zs ih=>rw[I7,ih,List.length_cons]; simp only[c1u]; omega
theorem c4B(zs:G5)(k:Int)(h0:0≤k)(h32:∀p∈zs,p.length=32)(hl:zs.length≤1073741824)(h:k+(I7 c1u zs:Int)≤1099511627776):a2y zs k=some (a3m f0e c1u zs k,k+(I7 c1u zs:Int)):=by
 unfold a2y
 refine b8N (fun n x k z=>O5 (fun x1 z7=>some (z7,x1)) n k (x:Int) z) f0e c1u (fun k z=>some (z,k)) zs (by omega) k (fun n l y r k' hlen hy hk hk2=> ?_) (fun n k z hz=> ?_)
 ·show a0T (O5 (fun x1 z7=>some (z7,x1)) n) (fun x1 z7=>some (z7,x1)) k' (l.length:Int) (l++y::r)=_
  unfold a0T
  have hk2':k'+32≤k+(I7 c1u zs:Int):=by simpa[c1u]using hk2
  have hll:∀w:List Int,(l++w::r).length=zs.length:=fun w=>by simp; omega
  rw[hll y,A5 (p:=(l.length:Int)<(zs.length:Int)) (by omega),U1 (n:=(l.length:Int)+1) (by omega) (by omega)]
  simp only[cond]
  have key:=c6S (fun f x k'' w=>a0U (fun x1 z7=>O5 (fun x1 z7=>some (z7,x1)) n x1 ((l.length:Int)+(1:Int)) z7) (l.length:Int) f k'' (x:Int) (l++w::r)) 32 k' (fun k=>IntKind.wrap .u8 k) (fun k'' w=>O5 (fun x1 z7=>some (z7,x1)) n k'' ((l.length:Int)+1) (l++w::r)) (by omega) (fun f x k'' w hx hw hkk=>by
   show X7 _ _ (l.length:Int) k'' (x:Int) (l++w::r)=_
   unfold X7
   simp only[Int.toNat_natCast,a8v,b2H,hll]
   rw[A5 (p:=(x:Int)<32) (by omega),A5 (p:=(0:Int)≤(l.length:Int)) (by omega),A5 (p:=(l.length:Int)<(zs.length:Int)) (by omega),A5 (p:=(0:Int)≤(x:Int)) (by omega),U1 (n:=(x:Int)+1) (by omega) (by omega),U1 (n:=k''+1) (by omega) (by omega)]
   rfl) (fun f w hw=>by
   show X7 _ _ (l.length:Int) (k'+((32:Nat):Int)) ((32:Nat):Int) (l++w::r)=_
   unfold X7
   rw[B7 (p:=((32:Nat):Int)<32) (by omega)]
   rfl) y (h32 y hy)
  exact key
 ·show a0T (O5 (fun x1 z7=>some (z7,x1)) n) (fun x1 z7=>some (z7,x1)) k (zs.length:Int) z=_
  unfold a0T
  rw[hz,B7 (p:=(zs.length:Int)<(zs.length:Int)) (by omega)]
  rfl
def a4F(ks:G5)(bs:P7):G5→Int→P7
 | [],_=>[]
 |w::ws,B=>match b2y ks bs w with
  |none=>a4F ks bs ws B
  |some b=>if B-(b.2.1.length:Int)<0 then []else b::a4F ks bs ws (B-(b.2.1.length:Int))
theorem b0G{ks:G5}{bs:P7}{t:List Int}{b:a1f}(hb:bs.length=ks.length)(h:b2y ks bs t=some b):b∈bs:=by
 unfold b2y at h
 obtain⟨i,h1,h2⟩:=Option.map_eq_some_iff.1 h
 rw[← h2]
 exact I6 bD (by rw[hb]; exact(a5R h1).1)
theorem b2I{ks:G5}{bs:P7}(hb:bs.length=ks.length):∀(ws:G5) (B:Int),(a4F ks bs ws B).length≤ws.length∧∀b∈a4F ks bs ws B,b∈bs
 | [],B=>by simp[a4F]
 |w::ws,B=>by
  rw[a4F]
  cases hg:b2y ks bs w with
  |none=>
   obtain⟨h1,h2⟩:=b2I hb ws B
   exact⟨by simp only[List.length_cons]; omega,h2⟩
  |some b=>
   simp only
   split
   ·simp
   ·obtain ⟨h1,h2⟩:=b2I hb ws (B-(b.2.1.length:Int))
    refine⟨by simp only[List.length_cons]; omega,fun c hc=> ?_⟩
    rcases List.mem_cons.1 hc with hc|hc
    ·rw [hc]; exact b0G hb hg
    ·exact h2 c hc
theorem b7b(b:a1f)(h:b.2.1.length≤1048576):o6 b=some b:=by
 unfold o6
 have:v8 b.2.1=some b.2.1:=b0l b.2.1 1 (by omega) (by omega)
 rw[this]; rfl
theorem b4w(b:a1f)(h:b.2.1.length≤1048576):a1W b=some b:=by
 unfold a1W
 rw[Nat.zero_add,A5 (p:=b.2.1.length*1≤140737488355328) (by omega),A5 (p:=b.2.1.length≤9223372036854775807) (by omega)]
 rfl
theorem c4v(B:Int):a1k B=some (inR 0 B 1000000):=by
 unfold a1k
 rw[a9n]; rfl
abbrev d0U:Ty:= .pair (.int .u8) (.pair (.slice (.int .u8)) .unit)
abbrev d9v:Ty:= .arr 32 (.int .u8)
theorem c1B{bs:P7}(h:∀b∈bs,Ty.ok d0U b)(hl:∀b∈bs,b.2.1.length≤1048576):∀b∈bs,J9 b:=fun b hb=>⟨b2L (h b hb).2.1.2,hl b hb⟩
theorem d4c{ks:G5}(h:∀k∈ks,Ty.ok d9v k):∀k∈ks,L7 k:=fun k hk=>⟨(h k hk).1,b2L (h k hk).2⟩
theorem b8U{α:Type}{sz:α→Nat}{C:Nat}:∀{xs:List α},(∀ x∈xs,sz x≤C)→I7 sz xs≤xs.length*C
 | [],_=>by simp[I7]
 |x::xs,h=>by
  have h1:=h x (by simp)
  have h2:=b8U (xs:=xs) (fun y hy=>h y (by simp[hy]))
  rw[I7,List.length_cons,Nat.add_mul]; omega
abbrev a7u:=List Int×List Int×b0S×Unit
abbrev z32:List Int:=List.replicate 32 0
abbrev f0h:a7u:=(z32,z32,([],[],()),())
def a1t(d:List Int):Nat:=(d.getD 64 0).toNat
def a8y(d:List Int):b0S:=(A3F d 65 (65+a1t d),A3F d (65+a1t d) d.length,())
def c1p(d:List Int):a7u:=(d.take 32,(d.drop 32).take 32,a8y d,())
def a4D(d:List Int):Option a7u:=if(65≤d.length∧65+a1t d≤d.length)∧a2E (a8y d)=true then some (c1p d)else none
theorem c4F{d:List Int}(hb:R6 d)(h:64<d.length):d.getD 64 0=(a1t d:Int)∧a1t d<256∧IntKind.wrap .i64 (65+IntKind.wrap .i64 (d.getD 64 0))=((65+a1t d:Nat):Int):=by
 obtain⟨h1,h2⟩:=hb _ (I6 0 h)
 have e:d.getD 64 0=(a1t d:Int):=by unfold a1t; omega
 have h3:a1t d<256:=by omega
 refine⟨e,h3,?_⟩
 rw[e,U1 (n:=(a1t d:Int)) (by omega) (by omega),U1 (by omega) (by omega)]
 omega
theorem c1i(d:List Int)(hb:R6 d)(hl:d.length≤1048576):o8 d=some (match a4D d with|some n=>(n,0)|none=>(f0h,5)):=by
 unfold o8 a4D
 by_cases h1:d.length<65
 ·rw [A5 (p:=(d.length:Int)<65) (by omega),if_neg (by omega)]; rfl
 ·obtain ⟨e1,e2,e3⟩:=c4F hb (by omega)
  simp only[e3,Int.toNat_natCast]
  rw[B7 (p:=(d.length:Int)<65) (by omega),A5 (p:=(64:Int)<(d.length:Int)) (by omega)]
  by_cases h2:d.length<65+a1t d
  ·rw [A5 (p:=(d.length:Int)<((65+a1t d:Nat):Int)) (by omega),if_neg (by omega)]; rfl
  ·have hc:(A3F d 32 d.length).take 32=(d.drop 32).take 32:=by
    unfold A3F; rw[List.take_take]; congr 1; omega
   rw[B7 (p:=(d.length:Int)<((65+a1t d:Nat):Int)) (by omega),hc,a4C d (Nat.le_refl _),A5 (p:=32≤d.length) (by omega),A5 (p:=(32:Int)≤(d.length:Int)) (by omega),A5 (p:=32≤d.length-32) (by omega),A5 (p:=(0:Int)≤((65+a1t d:Nat):Int)) (by omega),A5 (p:=((65+a1t d:Nat):Int)≤(d.length:Int)) (by omega),A5 (p:=(65:Int)≤((65+a1t d:Nat):Int)) (by omega)]
   have ev:a0c (A3F d 65 (65+a1t d),A3F d (65+a1t d) d.length,())=some (a2E (a8y d)):=b0i (a8y d)
   simp only[cond_true,cond_false,Bool.and_self]
   rw[ev,B5u]
   cases hg:a2E (a8y d)with
   |false=>rw[if_neg (by simp)]; rfl
   |true=>rw[if_pos ⟨by omega,rfl⟩]; rfl
theorem d0J(ke:a7u→Option (A2K a0t))(d:List Int)(hd:64≤d.length)(r:b0S×Unit):∀(m n x:Nat) (z1 z2:List Int),x+m=32→m<n→z1.length=32→z2.length=32→(∀ j:Nat,j<x→z1[j]? =d[j]?)→(∀ j:Nat,j<x→z2[j]? =d[32+j]?)→j7 ke d n (x:Int) (z1,(z2,r))=ke (d.take 32,(d.drop 32).take 32,r):=by
 intro m
 induction m with
 |zero=>
  intro n x z1 z2 hx hn h1 h2 k1 k2
  obtain⟨q,rfl⟩:∃q,n=q+1:=⟨n-1,by omega⟩
  have:x=32:=by omega
  subst this
  show j8 (j7 ke d q) ke d ((32:Nat):Int) (z1,(z2,r))=_
  unfold j8
  rw[B7 (p:=((32:Nat):Int)<32) (by omega),cond_false]
  have e1:z1=d.take 32:=by
   apply List.ext_getElem?
   intro j
   by_cases hj:j<32
   ·rw [k1 j hj,List.getElem?_take_of_lt hj]
   ·rw [List.getElem?_eq_none (by omega),List.getElem?_eq_none (by simp; omega)]
  have e2:z2=(d.drop 32).take 32:=by
   apply List.ext_getElem?
   intro j
   by_cases hj:j<32
   ·rw [k2 j hj,List.getElem?_take_of_lt hj,List.getElem?_drop]
   ·rw [List.getElem?_eq_none (by omega),List.getElem?_eq_none (by simp; omega)]
  rw[e1,e2]
 |succ m ih=>
  intro n x z1 z2 hx hn h1 h2 k1 k2
  obtain⟨q,rfl⟩:∃q,n=q+1:=⟨n-1,by omega⟩
  show j8 (j7 ke d q) ke d (x:Int) (z1,(z2,r))=_
  unfold j8
  have e:IntKind.wrap .i64 ((32:Int)+(x:Int))=((32+x:Nat):Int):=by rw[U1 (by omega) (by omega)]; omega
  simp only[e,Int.toNat_natCast]
  rw[A5 (p:=(x:Int)<32) (by omega),A5 (p:=(0:Int)≤(x:Int)) (by omega),A5 (p:=(x:Int)<(d.length:Int)) (by omega),A5 (p:=(0:Int)≤((32+x:Nat):Int)) (by omega),A5 (p:=((32+x:Nat):Int)<(d.length:Int)) (by omega),U1 (n:=(x:Int)+1) (by omega) (by omega)]
  refine ih q (x+1) _ _ (by omega) (by omega) (by simpa using h1) (by simpa using h2) (fun j hj=> ?_) (fun j hj=> ?_)
  ·rw [List.getElem?_set]
   by_cases e:x=j
   ·subst e; rw[if_pos rfl,if_pos (by omega),List.getElem?_eq_getElem (by omega)]; simp[List.getD,List.getElem?_eq_getElem (show x<d.length by omega)]
   ·rw [if_neg e]; exact k1 j (by omega)
  ·rw [List.getElem?_set]
   by_cases e:x=j
   ·subst e; rw[if_pos rfl,if_pos (by omega),List.getElem?_eq_getElem (by omega)]; simp[List.getD,List.getElem?_eq_getElem (show 32+x<d.length by omega)]
   ·rw [if_neg e]; exact k2 j (by omega)
theorem c1s(d:List Int)(hb:R6 d)(hl:d.length≤1048576):∃m,a3h d=some (m,(a4D d).isSome)∧∀n,a4D d=some n→m=n:=by
 unfold a3h
 have hlen:∀n,a4D d=some n→66≤d.length∧d.length≤153∧65+a1t d≤d.length:=by
  intro n hn
  unfold a4D at hn
  split at hn
  ·rename_i q
   obtain⟨⟨q1,q2⟩,q3⟩:=q
   have c1:(a8y d).1.length=65+a1t d-65:=a4C d q2
   have c2:(a8y d).2.1.length=d.length-(65+a1t d):=a4C d (Nat.le_refl _)
   obtain⟨q4,q5⟩:=Bool.and_eq_true_iff.1 q3
   have q4:=a7g.1 q4
   have q5:=of_decide_eq_true q5
   omega
  ·cases hn
 by_cases h1:d.length<66
 ·rw [A5 (p:=(d.length:Int)<66) (by omega)]
  cases hr:a4D d with
  |none=>exact⟨_,rfl,by simp⟩
  |some n=>have:=hlen n hr; omega
 ·by_cases h2:153<d.length
  ·rw [B7 (p:=(d.length:Int)<66) (by omega),A5 (p:=(153:Int)<(d.length:Int)) (by omega)]
   cases hr:a4D d with
   |none=>exact⟨_,rfl,by simp⟩
   |some n=>have:=hlen n hr; omega
  ·obtain ⟨e1,e2,e3⟩:=c4F hb (by omega)
   simp only[e3,Int.toNat_natCast]
   rw[B7 (p:=(d.length:Int)<66) (by omega),B7 (p:=(153:Int)<(d.length:Int)) (by omega),A5 (p:=(64:Int)<(d.length:Int)) (by omega)]
   by_cases h3:d.length<65+a1t d
   ·rw [A5 (p:=(d.length:Int)<((65+a1t d:Nat):Int)) (by omega)]
    cases hr:a4D d with
    |none=>exact⟨_,rfl,by simp⟩
    |some n=>have:=hlen n hr; omega
   ·have ev:a0s (A3F d 65 (65+a1t d),A3F d (65+a1t d) d.length,())=some (a2E (a8y d)):=b2n (a8y d)
    rw[B7 (p:=(d.length:Int)<((65+a1t d:Nat):Int)) (by omega),A5 (p:=(0:Int)≤((65+a1t d:Nat):Int)) (by omega),A5 (p:=((65+a1t d:Nat):Int)≤(d.length:Int)) (by omega),A5 (p:=(65:Int)≤((65+a1t d:Nat):Int)) (by omega)]
    simp only[cond_true,cond_false,Bool.and_self,ev,B5u]
    refine⟨c1p d,?_,fun n hn=> ?_⟩
    ·refine Eq.trans (d0J _ d (by omega) ((([]:List Int),([]:List Int),()),()) 32 FUEL 0 z32 z32 (by omega) (D7 (by omega)) (by simp[z32]) (by simp[z32]) (fun j hj=>by omega) (fun j hj=>by omega)) ?_
     have eg:(a4D d).isSome=a2E (a8y d):=by
      unfold a4D
      cases hg:a2E (a8y d)with
      |false=>rw[if_neg (by simp)]; rfl
      |true=>rw[if_pos ⟨by omega,rfl⟩]; rfl
     rw[eg]; rfl
    ·unfold a4D at hn
     split at hn
     ·injection hn
     ·cases hn
theorem d4k{d:List Int}{n:a7u}(hb:R6 d)(h:a4D d=some n):L7 n.1∧L7 n.2.1:=by
 unfold a4D at h
 split at h
 ·rename_i q
  obtain⟨⟨q1,_⟩,_⟩:=q
  injection h with h; subst h
  exact⟨⟨by simp[c1p]; omega,fun x hx=>hb x (List.mem_of_mem_take hx)⟩,⟨by simp[c1p]; omega,fun x hx=>hb x (List.mem_of_mem_drop (List.mem_of_mem_take hx))⟩⟩
 ·cases h
noncomputable abbrev c4w:List Int:=b8I 5 []
theorem b6Q:n9=some c4w:=by
 unfold n9
 rw[b0O 5 [] (by intro x hx; simp at hx) (by simp)]; rfl
theorem b6I:o7=some c4w:=by
 unfold o7
 rw[b0H 5 [] (by intro x hx; simp at hx) (by simp)]; rfl
def a1z(d:List Int):Nat→G5
 |0=>[]
 |n+1=>d.take 32::a1z (d.drop 32) n
theorem a3Y:∀(n:Nat) (d:List Int),(a1z d n).length=n
 |0,_=>rfl
 |n+1,d=>by rw[a1z,List.length_cons,a3Y n]
theorem b4v:∀(n:Nat) (d:List Int) (m:Nat),32*n≤m→a1z (d.take m) n=a1z d n
 |0,_,_,_=>rfl
 |n+1,d,m,h=>by
  rw[a1z,a1z,List.take_take,List.drop_take,b4v n _ _ (by omega),show min 32 m=32 by omega]
theorem b4u:∀(n:Nat) (d:List Int),a1z d (n+1)=a1z d n++[(d.drop (32*n)).take 32]
 |0,d=>by simp[a1z]
 |n+1,d=>by
  rw[a1z,b4u n (d.drop 32),a1z,List.drop_drop,List.cons_append,show 32+32*n=32*(n+1) by omega]
theorem b0J:∀(n:Nat) (d:List Int),R6 d→32*n≤d.length→∀k∈a1z d n,L7 k
 |0,_,_,_,k,hk=>by simp[a1z]at hk
 |n+1,d,hb,hl,k,hk=>by
  rw[a1z]at hk
  rcases List.mem_cons.1 hk with hk|hk
  ·rw [hk]; exact⟨by simp; omega,fun x hx=>hb x (List.mem_of_mem_take hx)⟩
  ·exact b0J n (d.drop 32) (fun x hx=>hb x (List.mem_of_mem_drop hx)) (by simp; omega) k hk
theorem b2j(d:List Int)(hl:d.length≤1048576):Z1 d=some (a1z d (d.length / 32)):=by
 unfold Z1
 have key:∀(m fuel:Nat) (x:List Int) (out:G5),x.length / 32=m→m<fuel→x.length≤1048576→out.length+m≤1048576→p8 (fun B9=>(some B9)) fuel x out=some (out++a1z x m):=by
  intro m
  induction m with
  |zero=>
   intro fuel x out hm hf hx ho
   obtain⟨k,rfl⟩:∃k,fuel=k+1:=⟨fuel-1,by omega⟩
   show p9 (p8 _ k) _ x out=_
   unfold p9
   rw[B7 (p:=(32:Int)≤(x.length:Int)) (by omega)]
   simp[a1z]
  |succ m ih=>
   intro fuel x out hm hf hx ho
   obtain⟨k,rfl⟩:∃k,fuel=k+1:=⟨fuel-1,by omega⟩
   show p9 (p8 _ k) _ x out=_
   unfold p9
   have hc:A3F x 32 x.length=x.drop 32:=by
    unfold A3F; rw[List.take_of_length_le (by simp)]
   rw[A5 (p:=(32:Int)≤(x.length:Int)) (by omega),A5 (p:=32≤x.length) (by omega),A5 (p:=(out.length+1)*32≤140737488355328) (by omega),A5 (p:=out.length+1≤9223372036854775807) (by omega),hc]
   simp only[Bool.and_self,cond_true]
   refine Eq.trans (ih k (x.drop 32) (out++[x.take 32]) (by simp; omega) (by omega) (by simp; omega) (by simp; omega)) ?_
   rw[a1z,List.append_assoc]; rfl
 have:=key (d.length / 32) FUEL d [] rfl (D7 (by omega)) hl (by simp; omega)
 simpa using this
theorem c4G(ke:List Int→Option (A2K a0u))(d:List Int)(fr cnt x8:Int)(z:G5)(at':Nat)(h0:IntKind.wrap .i64 (fr+IntKind.wrap .i64 (32*x8))=(at':Int))(hd:at'+32≤d.length)(hl:d.length≤1048576):∀(m n x:Nat) (y:List Int),x+m=32→m<n→y.length=32→(∀ j:Nat,j<x→y[j]? =d[at'+j]?)→l0 ke d fr cnt x8 z n (x:Int) y=ke ((d.drop at').take 32):=by
 intro m
 induction m with
 |zero=>
  intro n x y hx hn h1 k1
  obtain⟨q,rfl⟩:∃q,n=q+1:=⟨n-1,by omega⟩
  have:x=32:=by omega
  subst this
  show l4 (l0 ke d fr cnt x8 z q) ke d fr cnt x8 z ((32:Nat):Int) y=_
  unfold l4
  rw[B7 (p:=((32:Nat):Int)<32) (by omega),cond_false]
  congr 1
  apply List.ext_getElem?
  intro j
  by_cases hj:j<32
  ·rw [k1 j hj,List.getElem?_take_of_lt hj,List.getElem?_drop]
  ·rw [List.getElem?_eq_none (by omega),List.getElem?_eq_none (by simp; omega)]
 |succ m ih=>
  intro n x y hx hn h1 k1
  obtain⟨q,rfl⟩:∃q,n=q+1:=⟨n-1,by omega⟩
  show l4 (l0 ke d fr cnt x8 z q) ke d fr cnt x8 z (x:Int) y=_
  unfold l4
  have e:IntKind.wrap .i64 ((at':Int)+(x:Int))=((at'+x:Nat):Int):=by rw[U1 (by omega) (by omega)]; omega
  simp only[h0,e,Int.toNat_natCast]
  rw[A5 (p:=(x:Int)<32) (by omega),A5 (p:=(0:Int)≤(x:Int)) (by omega),A5 (p:=(0:Int)≤((at'+x:Nat):Int)) (by omega),A5 (p:=((at'+x:Nat):Int)<(d.length:Int)) (by omega),U1 (n:=(x:Int)+1) (by omega) (by omega)]
  refine ih q (x+1) _ (by omega) (by omega) (by simpa using h1) (fun j hj=> ?_)
  rw[List.getElem?_set]
  by_cases e:x=j
  ·subst e; rw[if_pos rfl,if_pos (by omega),List.getElem?_eq_getElem (by omega)]; simp[List.getD,List.getElem?_eq_getElem (show at'+x<d.length by omega)]
  ·rw [if_neg e]; exact k1 j (by omega)
theorem a8B(d:List Int)(fr cnt:Nat)(h:fr+32*cnt≤d.length)(hl:d.length≤1048576):W9 d (fr:Int) (cnt:Int)=some (a1z (d.drop fr) cnt):=by
 unfold W9
 have key:∀(m fuel x:Nat),x+m=cnt→m<fuel→j9 (fun A9=>(some A9)) d (fr:Int) (cnt:Int) fuel (x:Int) (a1z (d.drop fr) x)=some (a1z (d.drop fr) cnt):=by
  intro m
  induction m with
  |zero=>
   intro fuel x hx hf
   obtain⟨k,rfl⟩:∃k,fuel=k+1:=⟨fuel-1,by omega⟩
   have:x=cnt:=by omega
   subst this
   show a1v (j9 _ d _ _ k) _ d _ _ (x:Int) _=_
   unfold a1v
   rw[B7 (p:=(x:Int)<(x:Int)) (by omega)]; rfl
  |succ m ih=>
   intro fuel x hx hf
   obtain⟨k,rfl⟩:∃k,fuel=k+1:=⟨fuel-1,by omega⟩
   show a1v (j9 _ d _ _ k) _ d _ _ (x:Int) _=_
   unfold a1v
   rw[A5 (p:=(x:Int)<(cnt:Int)) (by omega),cond_true]
   have hk:=a3Y x (d.drop fr)
   refine Eq.trans (c4G _ d (fr:Int) (cnt:Int) (x:Int) (a1z (d.drop fr) x) (fr+32*x) (by rw[U1 (n:=32*(x:Int)) (by omega) (by omega),U1 (by omega) (by omega)]; omega) (by omega) hl 32 FUEL 0 z32 (by omega) (D7 (by omega)) (by simp[z32]) (fun j hj=>by omega)) ?_
   show cond _ _ _=_
   rw[hk,A5 (p:=(x+1)*32≤140737488355328) (by omega),A5 (p:=x+1≤9223372036854775807) (by omega),U1 (n:=(x:Int)+1) (by omega) (by omega)]
   simp only[Bool.and_self,cond_true]
   have e:(d.drop (fr+32*x)).take 32=((d.drop fr).drop (32*x)).take 32:=by rw[List.drop_drop]
   rw[e,←b4u]
   exact ih k (x+1) (by omega) (by omega)
 exact key cnt FUEL 0 (by omega) (D7 (by omega))
noncomputable def a0B(b:a1f):G5:=
 if b.1=2 then(if b.2.1.length=64 then a1z b.2.1 2 else [])
 else if b.1=5 then(match a4D b.2.1 with
  |none=>[]
  |some n=>if n.1=c4w then(if n.2.1=c4w then []else [n.2.1])else(if n.2.1=c4w then [n.1]else [n.1,n.2.1]))
 else if b.1=6 then(if b.2.1.length % 32=0 then a1z b.2.1 (b.2.1.length / 32)else [])
 else if b.1=7 then(if 0<b.2.1.length∧1+32*(b.2.1.getD 0 0).toNat≤b.2.1.length then a1z (b.2.1.drop 1) (b.2.1.getD 0 0).toNat else [])
 else []
theorem c4n{d:List Int}(hb:R6 d)(h:0<d.length):d.getD 0 0=((d.getD 0 0).toNat:Int)∧(d.getD 0 0).toNat<256:=by
 obtain⟨h1,h2⟩:=hb _ (I6 0 h)
 omega
theorem b6R{b:a1f}(hb:J9 b):a2D b=some (a0B b):=by
 obtain⟨h1,h2⟩:=hb
 unfold a2D a0B
 by_cases c2:b.1=2
 ·rw [A5 c2,if_pos c2]
  by_cases c:b.2.1.length=64
  ·have:=a8B b.2.1 0 2 (by omega) h2
   rw[A5 (p:=(b.2.1.length:Int)=64) (by omega),if_pos c]
   show A1w (W9 b.2.1 ((0:Nat):Int) ((2:Nat):Int)) _=_
   rw[this]; rfl
  ·rw [B7 (p:=(b.2.1.length:Int)=64) (by omega),if_neg c]; rfl
 ·rw [B7 c2,if_neg c2]
  by_cases c5:b.1=5
  ·rw [A5 c5,if_pos c5]
   obtain⟨m,e1,e2⟩:=c1s b.2.1 h1 h2
   rw[e1]
   simp only[cond_true,cond_false,B5u,b6Q,eqK]
   cases hr:a4D b.2.1 with
   |none=>rfl
   |some n=>
    have:=e2 n hr
    subst this
    by_cases q1:m.1=c4w<;>by_cases q2:m.2.1=c4w<;>simp[q1,q2]
  ·rw [B7 c5,if_neg c5]
   by_cases c6:b.1=6
   ·rw [A5 c6,if_pos c6]
    have em:Int.tmod (b.2.1.length:Int) 32=((b.2.1.length % 32:Nat):Int):=by rw[Int.tmod_eq_emod_of_nonneg (by omega)]; omega
    have ed:Int.tdiv (b.2.1.length:Int) 32=((b.2.1.length / 32:Nat):Int):=by rw[Int.tdiv_eq_ediv_of_nonneg (by omega)]; omega
    rw[em,ed,U1 (n:=((b.2.1.length / 32:Nat):Int)) (by omega) (by omega)]
    by_cases c:b.2.1.length % 32=0
    ·have:=a8B b.2.1 0 (b.2.1.length / 32) (by omega) h2
     rw[A5 (p:=((b.2.1.length % 32:Nat):Int)=0) (by omega),if_pos c]
     show A1w (W9 b.2.1 ((0:Nat):Int) _) _=_
     rw[this]; rfl
    ·rw [B7 (p:=((b.2.1.length % 32:Nat):Int)=0) (by omega),if_neg c]; rfl
   ·rw [B7 c6,if_neg c6]
    by_cases c7:b.1=7
    ·rw [A5 c7,if_pos c7]
     by_cases c0:0<b.2.1.length
     ·obtain ⟨f1,f2⟩:=c4n h1 c0
      have e3:IntKind.wrap .i64 ((1:Int)+IntKind.wrap .i64 (32*IntKind.wrap .i64 (b.2.1.getD 0 0)))=((1+32*(b.2.1.getD 0 0).toNat:Nat):Int):=by
       rw[U1 (n:=b.2.1.getD 0 0) (by omega) (by omega),U1 (n:=32*b.2.1.getD 0 0) (by omega) (by omega),U1 (by omega) (by omega)]; omega
      rw[A5 (p:=(0:Int)<(b.2.1.length:Int)) (by omega),e3]
      by_cases c:1+32*(b.2.1.getD 0 0).toNat≤b.2.1.length
      ·have:=a8B b.2.1 1 (b.2.1.getD 0 0).toNat (by omega) h2
       rw[A5 (p:=((1+32*(b.2.1.getD 0 0).toNat:Nat):Int)≤(b.2.1.length:Int)) (by omega),if_pos ⟨c0,c⟩,U1 (n:=b.2.1.getD 0 0) (by omega) (by omega),f1]
       simp only[cond_true]
       show A1w (W9 b.2.1 ((1:Nat):Int) _) _=_
       rw[this]; rfl
      ·rw [B7 (p:=((1+32*(b.2.1.getD 0 0).toNat:Nat):Int)≤(b.2.1.length:Int)) (by omega),if_neg (fun q=>c q.2)]; rfl
     ·rw [B7 (p:=(0:Int)<(b.2.1.length:Int)) (by omega),if_neg (fun q=>c0 q.1)]; rfl
    ·rw [B7 c7,if_neg c7]; rfl
theorem d0W(ke:Int→a7u→List Int→G5→Option (A2K I0))(b:a1f)(n:a7u)(l r E:List Int):∀F:Nat,2≤F→
  J0 ke b F (0:Int) (1:Int) n E [l,r]=(if r=E then ke 0 n E [l,r]else ke 1 n E [r,r])∧J0 ke b F (1:Int) (2:Int) n E [l,r]=ke 1 n E [l,r]:=by
 intro F hF
 obtain⟨q,rfl⟩:∃q,F=q+2:=⟨F-2,by omega⟩
 have w1:IntKind.wrap .i64 ((0:Int)+1)=1:=U1 (by omega) (by omega)
 have w2:IntKind.wrap .i64 ((1:Int)+1)=2:=U1 (by omega) (by omega)
 have stop:∀(q:Nat) (x:Int) (u v:List Int),J0 ke b (q+1) x (2:Int) n E [u,v]=ke x n E [u,v]:=fun q x u v=>by
  show R7 (J0 ke b q) ke b x (2:Int) n E [u,v]=_
  unfold R7
  rfl
 refine⟨?_,stop (q+1) 1 l r⟩
 show R7 (J0 ke b (q+1)) ke b (0:Int) (1:Int) n E [l,r]=_
 unfold R7
 rw[eqK,w1,w2]
 have hg:([l,r]:G5).getD (Int.toNat 1) (List.replicate 32 (0:Int))=r:=rfl
 have hs:([l,r]:G5).set (Int.toNat 0) r=[r,r]:=rfl
 rw[hg,hs,stop q 0 l r,stop q 1 r r]
 by_cases h:r=E
 ·rw [A5 h,if_pos h]; rfl
 ·rw [B7 h,if_neg h]; rfl
theorem d7y(kr:a7u→List Int→G5→Int→Option (A2K I0))(ke:a7u→List Int→G5→Option (A2K I0))(b:a1f)(n:a7u)(l r E:List Int):∀F:Nat,3≤F→
  L9 kr ke b F n E [l,r] (0:Int)=(if l=E then kr n E [l,r] 0 else if r=E then kr n E [l,r] 1 else ke n E [l,r]):=by
 intro F hF
 obtain⟨q,rfl⟩:∃q,F=q+3:=⟨F-3,by omega⟩
 have w1:IntKind.wrap .i64 ((0:Int)+1)=1:=U1 (by omega) (by omega)
 have w2:IntKind.wrap .i64 ((1:Int)+1)=2:=U1 (by omega) (by omega)
 show M1 (L9 kr ke b (q+2)) kr ke b n E [l,r] (0:Int)=_
 unfold M1
 have g0:([l,r]:G5).getD (Int.toNat 0) (List.replicate 32 (0:Int))=l:=rfl
 have g1:([l,r]:G5).getD (Int.toNat 1) (List.replicate 32 (0:Int))=r:=rfl
 rw[eqK,g0,w1]
 by_cases h:l=E
 ·rw [A5 h,if_pos h]; rfl
 ·rw [B7 h,if_neg h]
  show M1 (L9 kr ke b (q+1)) kr ke b n E [l,r] (1:Int)=_
  unfold M1
  rw[eqK,g1,w2]
  by_cases h2:r=E
  ·rw [A5 h2,if_pos h2]; rfl
  ·rw [B7 h2,if_neg h2]
   show M1 (L9 kr ke b q) kr ke b n E [l,r] (2:Int)=_
   unfold M1
   rfl
theorem d4u(b:a1f)(n:a7u)(l r E:List Int):L9 (fun X0 y60 G2 x4=>(cond (decide (x4=(-1:Int)))
   (some G2)
   (J0 (fun x5 X0 y60 G2=>(cond ((decide ((0:Int)≤x5))&&(decide (x5≤(G2.length:Int))))
   (cond ((decide ((0:Int)≤x5))&&(decide (x5≤((A6D G2 (x5.toNat) (List.take ((G2.length)-(x5.toNat)) (List.replicate ((G2.length)-(x5.toNat)) (List.replicate 32 (0:Int))))).length:Int))))
   (some (List.take (x5.toNat) (A6D G2 (x5.toNat) (List.take ((G2.length)-(x5.toNat)) (List.replicate ((G2.length)-(x5.toNat)) (List.replicate 32 (0:Int)))))))
   none)
   none)) b FUEL x4 (IntKind.wrap .i64 (x4+(1:Int))) X0 y60 G2))) (fun X0 y60 G2=>(some G2)) b FUEL n E [l,r] (0:Int)=some (if l=E then(if r=E then []else [r])else(if r=E then [l]else [l,r])):=by
 have w1:IntKind.wrap .i64 ((0:Int)+1)=1:=U1 (by omega) (by omega)
 have w2:IntKind.wrap .i64 ((1:Int)+1)=2:=U1 (by omega) (by omega)
 have hF:3≤FUEL:=Nat.le_of_lt (D7 (by omega))
 refine Eq.trans (d7y _ _ b n l r E FUEL hF) ?_
 by_cases h:l=E
 ·rw [if_pos h,if_pos h]
  show cond (decide ((0:Int)= -1)) _ _=_
  rw[B7 (show ¬(0:Int)= -1 by omega),cond_false,w1]
  refine Eq.trans (d0W _ b n l r E FUEL (by omega)).1 ?_
  by_cases h2:r=E
  ·rw [if_pos h2,if_pos h2]; rfl
  ·rw [if_neg h2,if_neg h2]; rfl
 ·rw [if_neg h,if_neg h]
  by_cases h2:r=E
  ·rw [if_pos h2,if_pos h2]
   show cond (decide ((1:Int)= -1)) _ _=_
   rw[B7 (show ¬(1:Int)= -1 by omega),cond_false,w2]
   exact(d0W _ b n l r E FUEL (by omega)).2
  ·rw [if_neg h2,if_neg h2]
theorem b6J{b:a1f}(hb:J9 b):a0a b=some (a0B b):=by
 obtain⟨h1,h2⟩:=hb
 unfold a0a a0B
 by_cases c2:b.1=2
 ·rw [A5 c2,if_pos c2]
  by_cases c:b.2.1.length=64
  ·rw [A5 (p:=(b.2.1.length:Int)=64) (by omega),if_pos c,b2j _ h2,c]; rfl
  ·rw [B7 (p:=(b.2.1.length:Int)=64) (by omega),if_neg c]; rfl
 ·rw [B7 c2,if_neg c2]
  by_cases c5:b.1=5
  ·rw [A5 c5,if_pos c5,c1i b.2.1 h1 h2]
   simp only[cond_true,cond_false,B5u,b6I]
   cases hr:a4D b.2.1 with
   |none=>rfl
   |some n=>
    simp only[decide_true,cond_true]
    exact d4u b n n.1 n.2.1 c4w
  ·rw [B7 c5,if_neg c5]
   by_cases c6:b.1=6
   ·rw [A5 c6,if_pos c6]
    have em:Int.tmod (b.2.1.length:Int) 32=((b.2.1.length % 32:Nat):Int):=by rw[Int.tmod_eq_emod_of_nonneg (by omega)]; omega
    rw[em]
    by_cases c:b.2.1.length % 32=0
    ·rw [A5 (p:=((b.2.1.length % 32:Nat):Int)=0) (by omega),if_pos c,b2j _ h2]; rfl
    ·rw [B7 (p:=((b.2.1.length % 32:Nat):Int)=0) (by omega),if_neg c]; rfl
   ·rw [B7 c6,if_neg c6]
    by_cases c7:b.1=7
    ·rw [A5 c7,if_pos c7]
     by_cases c0:0<b.2.1.length
     ·obtain ⟨f1,f2⟩:=c4n h1 c0
      have e3:IntKind.wrap .i64 ((1:Int)+IntKind.wrap .i64 (32*IntKind.wrap .i64 (b.2.1.getD 0 0)))=((1+32*(b.2.1.getD 0 0).toNat:Nat):Int):=by
       rw[U1 (n:=b.2.1.getD 0 0) (by omega) (by omega),U1 (n:=32*b.2.1.getD 0 0) (by omega) (by omega),U1 (by omega) (by omega)]; omega
      simp only[e3,Int.toNat_natCast]
      rw[A5 (p:=(0:Int)<(b.2.1.length:Int)) (by omega)]
      by_cases c:1+32*(b.2.1.getD 0 0).toNat≤b.2.1.length
      ·have hcl:(A3F b.2.1 1 (1+32*(b.2.1.getD 0 0).toNat)).length=32*(b.2.1.getD 0 0).toNat:=by rw[a4C _ c]; omega
       have hk:a1z (A3F b.2.1 1 (1+32*(b.2.1.getD 0 0).toNat)) (b.2.1.getD 0 0).toNat=a1z (b.2.1.drop 1) (b.2.1.getD 0 0).toNat:=by
        unfold A3F; exact b4v _ _ _ (by omega)
       rw[A5 (p:=((1+32*(b.2.1.getD 0 0).toNat:Nat):Int)≤(b.2.1.length:Int)) (by omega),if_pos ⟨c0,c⟩,A5 (p:=(0:Int)≤((1+32*(b.2.1.getD 0 0).toNat:Nat):Int)) (by omega),A5 (p:=(1:Int)≤((1+32*(b.2.1.getD 0 0).toNat:Nat):Int)) (by omega),b2j (A3F b.2.1 1 (1+32*(b.2.1.getD 0 0).toNat)) (by rw[hcl]; omega),hcl,Nat.mul_div_cancel_left _ (by omega:0<32),hk]
       rfl
      ·rw [B7 (p:=((1+32*(b.2.1.getD 0 0).toNat:Nat):Int)≤(b.2.1.length:Int)) (by omega),if_neg (fun q=>c q.2)]; rfl
     ·rw [B7 (p:=(0:Int)<(b.2.1.length:Int)) (by omega),if_neg (fun q=>c0 q.1)]; rfl
    ·rw [B7 c7,if_neg c7]; rfl
theorem b4x{b:a1f}(hb:J9 b):(∀ k∈a0B b,L7 k)∧(a0B b).length≤b.2.1.length+2:=by
 obtain⟨h1,h2⟩:=hb
 unfold a0B
 split
 ·split
  ·rename_i c; exact⟨b0J 2 _ h1 (by omega),by rw[a3Y]; omega⟩
  ·simp
 ·split
  ·split
   ·simp
   ·rename_i n hr
    obtain⟨k1,k2⟩:=d4k h1 hr
    split<;>split<;>simp[k1,k2]
  ·split
   ·split
    ·exact ⟨b0J _ _ h1 (by omega),by rw[a3Y]; omega⟩
    ·simp
   ·split
    ·split
     ·rename_i c; exact⟨b0J _ _ (fun x hx=>h1 x (List.mem_of_mem_drop hx)) (by rw[List.length_drop]; omega),by rw[a3Y]; omega⟩
     ·simp
    ·simp
abbrev b2x:Type:=List (List Int×Bool)
theorem b8L(x y:List Int):∀M:b2x,(A7N (.arr 32 (.int .u8)) .bool (A8c (.arr 32 (.int .u8)) .bool M x true) y).getD false=(decide (x=y)||(A7N (.arr 32 (.int .u8)) .bool M y).getD false)
 | []=>by
  show(cond (eqd (.arr 32 (.int .u8)) y x) (some true) none:Option Bool).getD false=_
  rw[eqK]
  by_cases h:y=x
  ·rw [A5 h,A5 h.symm]; rfl
  ·rw [B7 h,B7 (fun q=>h q.symm)]; rfl
 |q::M=>by
  show(A7N (.arr 32 (.int .u8)) .bool (cond (eqd (.arr 32 (.int .u8)) x q.1) ((x,true)::M) (q::A8c (.arr 32 (.int .u8)) .bool M x true)) y).getD false=(decide (x=y)||(cond (eqd (.arr 32 (.int .u8)) y q.1) (some q.2) (A7N (.arr 32 (.int .u8)) .bool M y):Option Bool).getD false)
  rw[eqK,eqK]
  by_cases h:x=q.1
  ·rw [A5 h,cond_true]
   show(cond (eqd (.arr 32 (.int .u8)) y x) (some true) (A7N (.arr 32 (.int .u8)) .bool M y):Option Bool).getD false=_
   rw[eqK]
   by_cases h2:y=x
   ·rw [A5 h2,A5 h2.symm]; rfl
   ·rw [B7 h2,B7 (fun q=>h2 q.symm),←h,B7 h2]; rfl
  ·rw [B7 h,cond_false]
   show(cond (eqd (.arr 32 (.int .u8)) y q.1) (some q.2) (A7N (.arr 32 (.int .u8)) .bool (A8c (.arr 32 (.int .u8)) .bool M x true) y):Option Bool).getD false=_
   rw[eqK]
   by_cases h2:y=q.1
   ·rw [A5 h2,B7 (fun e:x=y=>h (e.trans h2))]; rfl
   ·rw [B7 h2,cond_false,cond_false]; exact b8L x y M
theorem b0K{α:Type} [DecidableEq α]:∀{l m:List α},l.Nodup→(∀ x∈l,x∈m)→l.length≤m.length
 | [],_,_,_=>Nat.zero_le _
 |a::l,m,h,hm=>by
  obtain⟨h1,h2⟩:=List.nodup_cons.1 h
  have ha:=hm a (by simp)
  have:=b0K (l:=l) (m:=m.erase a) h2 (fun x hx=>(List.mem_erase_of_ne (fun e:x=a=>h1 (by rw[← e]; exact hx))).2 (hm x (by simp[hx])))
  rw[List.length_erase_of_mem ha]at this
  have hp:=List.length_pos_of_mem ha
  simp only[List.length_cons]; omega
def a5I(out:G5)(k:List Int):G5:=if k∈out then out else out++[k]
def a4i(out l:G5):G5:=l.foldl a5I out
theorem d0G{out:G5}{k y:List Int}:y∈a5I out k↔y∈out∨y=k:=by
 unfold a5I; split
 ·rename_i h; exact⟨.inl,fun q=>q.elim id (fun e=>e▸h)⟩
 ·simp
theorem a4s:∀{l out:G5} {y:List Int},y∈a4i out l↔y∈out∨y∈l
 | [],_,_=>by simp[a4i]
 |k::l,out,y=>by
  show y∈a4i (a5I out k) l↔_
  rw[a4s,d0G]; simp[or_assoc]
theorem c4D{out:G5}{k:List Int}(h:out.Nodup):(a5I out k).Nodup:=by
 unfold a5I; split
 ·exact h
 ·rename_i hk
  rw[List.nodup_append]
  refine⟨h,by simp,fun a ha b hb e=> ?_⟩
  simp only[List.mem_singleton]at hb
  subst hb; exact hk (e▸ha)
theorem a8x:∀{l out:G5},out.Nodup→(a4i out l).Nodup
 | [],_,h=>h
 |k::l,out,h=>a8x (l:=l) (c4D h)
theorem b8O:∀(l out:G5),∃r,a4i out l=out++r
 | [],out=>⟨[],by simp[a4i]⟩
 |k::l,out=>by
  obtain⟨r,h⟩:=b8O l (a5I out k)
  show ∃r,a4i (a5I out k) l=out++r
  rw[h]
  unfold a5I; split
  ·exact ⟨r,rfl⟩
  ·exact ⟨[k]++r,by rw[List.append_assoc]⟩
theorem c6T(out l:G5){x:Nat}(h:x<l.length):a4i out (l.drop x)=a4i (a5I out (l.getD x [])) (l.drop (x+1)):=by
 rw[List.drop_eq_getElem_cons h,show l.getD x []=l[x] by simp[List.getD,List.getElem?_eq_getElem h]]
 rfl
def b6O(out:G5)(M:b2x):Prop:=∀y,(A7N (.arr 32 (.int .u8)) .bool M y).getD false=decide (y∈out)
theorem d6F{out:G5}{M:b2x}(h:b6O out M){k:List Int}(hk:k∉out):b6O (out++[k]) (A8c (.arr 32 (.int .u8)) .bool M k true):=fun y=>by
 rw[b8L,h y]
 by_cases e:k=y
 ·subst e; simp
 ·rw [B7 e]; simp[Ne.symm e]
theorem a9l{R:Type}(L:Nat→Nat→G5→b2x→Option R)(zs:G5)(ke:G5→b2x→Option R)(hzl:zs.length≤1048576)
  (step:∀n x z M,x<zs.length→z.length≤4194304→L (n+1) x z M=(cond (!((A7N (.arr 32 (.int .u8)) .bool M (zs.getD x [])).getD false)) (L n (x+1) (z++[zs.getD x []]) (A8c (.arr 32 (.int .u8)) .bool M (zs.getD x []) true)) (L n (x+1) z M)))
  (stop:∀n z M,L (n+1) zs.length z M=ke z M):
  ∀(m n x:Nat) (z:G5) (M:b2x),x+m=zs.length→m<n→z.length+m≤4194304→b6O z M→∃M',b6O (a4i z (zs.drop x)) M'∧L n x z M=ke (a4i z (zs.drop x)) M'
 |0,n,x,z,M,hx,hn,hz,hM=>by
  obtain⟨q,rfl⟩:∃q,n=q+1:=⟨n-1,by omega⟩
  have:x=zs.length:=by omega
  subst this
  rw[List.drop_length]
  exact⟨M,hM,stop q z M⟩
 |m+1,n,x,z,M,hx,hn,hz,hM=>by
  obtain⟨q,rfl⟩:∃q,n=q+1:=⟨n-1,by omega⟩
  rw[step q x z M (by omega) (by omega),hM,c6T z zs (by omega)]
  by_cases e:zs.getD x []∈z
  ·rw [A5 e,show a5I z (zs.getD x [])=z by unfold a5I; rw[if_pos e]]
   exact a9l L zs ke hzl step stop m q (x+1) z M (by omega) (by omega) (by omega) hM
  ·rw [B7 e,show a5I z (zs.getD x [])=z++[zs.getD x []] by unfold a5I; rw[if_neg e]]
   exact a9l L zs ke hzl step stop m q (x+1) _ _ (by omega) (by omega) (by simp; omega) (d6F hM e)
noncomputable def a5M(ks:G5)(bs:P7)(t:List Int):G5:=match b2y ks bs t with
 |some b=>a0B b
 |none=>[]
inductive Rch (ks:G5) (bs:P7) (roots:G5):List Int→Prop where
 |root {k:List Int}:k∈roots→Rch ks bs roots k
 |link {p k:List Int}:Rch ks bs roots p→k∈a5M ks bs p→Rch ks bs roots k
noncomputable def a5b(bs:P7)(roots:G5):G5:=roots++bs.flatMap a0B
theorem c6R{ks:G5}{bs:P7}(roots:G5)(hb:bs.length=ks.length){p k:List Int}(h:k∈a5M ks bs p):k∈a5b bs roots:=by
 unfold a5M at h
 split at h
 ·rename_i b hg
  exact List.mem_append_right _ (List.mem_flatMap.2 ⟨b,b0G hb hg,h⟩)
 ·simp at h
theorem c4L{bs:P7}{roots:G5}(hr:∀k∈roots,L7 k)(h:∀b∈bs,J9 b):∀k∈a5b bs roots,L7 k:=by
 intro k hk
 rcases List.mem_append.1 hk with hk|hk
 ·exact hr k hk
 ·obtain ⟨b,h1,h2⟩:=List.mem_flatMap.1 hk
  exact(b4x (h b h1)).1 k h2
theorem d4s{bs:P7}(roots:G5)(h:∀b∈bs,J9 b)(hd:∀b∈bs,b.2.1.length≤1024):(a5b bs roots).length≤roots.length+bs.length*1026:=by
 unfold a5b
 rw[List.length_append]
 have:∀l:P7,(∀ b∈l,b∈bs)→(l.flatMap a0B).length≤l.length*1026:=by
  intro l
  induction l with
  |nil=>intro _; simp
  |cons b l ih=>
   intro hl
   have h1:=ih fun x hx=>hl x (by simp[hx])
   have h2:=(b4x (h b (hl b (by simp)))).2
   have h3:=hd b (hl b (by simp))
   rw[List.flatMap_cons,List.length_append,List.length_cons,Nat.add_mul]
   omega
 have:=this bs fun _ h=>h
 omega
theorem d4j(ke:G5→b2x→Option (A2K M7))(a0:G5×P7×Unit)(i:Int)(ls:G5)(hl:ls.length≤1048576)(hls:∀k∈ls,k.length=32)(z:G5)(M:b2x)(hz:z.length+ls.length≤4194304)(hM:b6O z M):
  ∃M',b6O (a4i z ls) M'∧N8 ke a0 i FUEL (ls.length:Int) ls (0:Int) z M=ke (a4i z ls) M':=by
 have:=a9l (fun n x z M=>N8 ke a0 i n (ls.length:Int) ls (x:Int) z M) ls ke hl (fun n x z M hx hz=> ?_) (fun n z M=> ?_) ls.length FUEL 0 z M (by omega) (D7 (by omega)) (by omega) hM
 ·simpa using this
 ·show S4 (N8 ke a0 i n) ke a0 i (ls.length:Int) ls (x:Int) z M=_
  unfold S4
  simp only[Int.toNat_natCast]
  rw[a4V hx,A5 (p:=(x:Int)<(ls.length:Int)) (by omega),A5 (p:=(0:Int)≤(x:Int)) (by omega),A5 (p:=(z.length+1)*32≤140737488355328) (by omega),A5 (p:=z.length+1≤9223372036854775807) (by omega),U1 (n:=(x:Int)+1) (by omega) (by omega)]
  rfl
 ·show S4 (N8 ke a0 i n) ke a0 i (ls.length:Int) ls (ls.length:Int) z M=_
  unfold S4
  rw[B7 (p:=(ls.length:Int)<(ls.length:Int)) (by omega)]; rfl
theorem d4h(ke:G5→b2x→Option (A2K M7))(a0:G5×P7×Unit)(ls:G5)(hl:ls.length≤1048576)(z:G5)(M:b2x)(hz:z.length+ls.length≤4194304)(hM:b6O z M):
  ∃M',b6O (a4i z ls) M'∧N7 ke a0 ls FUEL (0:Int) z M=ke (a4i z ls) M':=by
 have:=a9l (fun n x z M=>N7 ke a0 ls n (x:Int) z M) ls ke hl (fun n x z M hx hz=> ?_) (fun n z M=> ?_) ls.length FUEL 0 z M (by omega) (D7 (by omega)) (by omega) hM
 ·simpa using this
 ·show S3 (N7 ke a0 ls n) ke a0 ls (x:Int) z M=_
  unfold S3
  simp only[Int.toNat_natCast]
  rw[a4V hx,A5 (p:=(x:Int)<(ls.length:Int)) (by omega),A5 (p:=(0:Int)≤(x:Int)) (by omega),A5 (p:=(z.length+1)*32≤140737488355328) (by omega),A5 (p:=z.length+1≤9223372036854775807) (by omega),U1 (n:=(x:Int)+1) (by omega) (by omega)]
  rfl
 ·show S3 (N7 ke a0 ls n) ke a0 ls (ls.length:Int) z M=_
  unfold S3
  rw[B7 (p:=(ls.length:Int)<(ls.length:Int)) (by omega)]; rfl
structure d0T (ks:G5) (bs:P7) (roots out:G5) (i:Nat):Prop where
 le:i≤out.length
 nd:out.Nodup
 is:∀k∈out,Rch ks bs roots k
 has:∀k∈roots,k∈out
 closed:∀j,j<i→∀k∈a5M ks bs (out.getD j []),k∈out
theorem a9m{ks:G5}{bs:P7}{roots:G5}(hb:bs.length=ks.length){k:List Int}(h:Rch ks bs roots k):k∈a5b bs roots:=by
 cases h with
 |root h=>exact List.mem_append_left _ h
 |link _ h=>exact c6R roots hb h
theorem d4i(ks:G5)(bs:P7)(u:Unit)(roots:G5)(hk:∀k∈ks,L7 k)(hl:ks.length≤1048576)(hi:Inc ks)(hb:bs.length=ks.length)(h:∀b∈bs,J9 b)(hd:∀b∈bs,b.2.1.length≤1024)(hr:∀k∈roots,L7 k)(hU:(a5b bs roots).length≤1048576):
  ∀(m n i:Nat) (out:G5) (M:b2x),(a5b bs roots).length=i+m→m<n→b6O out M→d0T ks bs roots out i→∃out',H4 (fun z=>some z) (ks,bs,u) n out M (i:Int)=some out'∧d0T ks bs roots out' out'.length:=by
 intro m
 induction m with
 |zero=>
  intro n i out M hm hn hM I
  obtain⟨q,rfl⟩:∃q,n=q+1:=⟨n-1,by omega⟩
  have h1:=b0K I.nd (fun k hk=>a9m hb (I.is k hk))
  have h2:=I.le
  refine⟨out,?_,by rw[show out.length=i by omega]; exact I⟩
  show w9 (H4 _ _ q) _ _ out M (i:Int)=_
  unfold w9
  rw[B7 (p:=(i:Int)<(out.length:Int)) (by omega)]; rfl
 |succ m ih=>
  intro n i out M hm hn hM I
  obtain⟨q,rfl⟩:∃q,n=q+1:=⟨n-1,by omega⟩
  have h1:=b0K I.nd (fun k hk=>a9m hb (I.is k hk))
  show ∃out',w9 (H4 _ _ q) _ _ out M (i:Int)=some out'∧_
  unfold w9
  by_cases hlt:i<out.length
  ·have hmem:=I6 ([]:List Int) hlt
   have hok:=c4L hr h _ (a9m hb (I.is _ hmem))
   simp only[Int.toNat_natCast]
   rw[a4V hlt,A5 (p:=(i:Int)<(out.length:Int)) (by omega),A5 (p:=(0:Int)≤(i:Int)) (by omega),b2v ks bs u _ hk hok (by omega) hi hb]
   simp only[Bool.and_self,cond_true,U1 (n:=(i:Int)+1) (by omega) (by omega)]
   have next:∀(out2:G5) (M2:b2x),b6O out2 M2→d0T ks bs roots out2 (i+1)→∃out',H4 (fun z=>some z) (ks,bs,u) q out2 M2 ((i:Int)+1)=some out'∧d0T ks bs roots out' out'.length:=fun out2 M2 h1 h2=>ih q (i+1) out2 M2 (by omega) (by omega) h1 h2
   cases hg:b2y ks bs (out.getD i [])with
   |none=>
    simp only[B5u,cond_false]
    refine next out M hM ⟨by omega,I.nd,I.is,I.has,fun j hj k hkl=> ?_⟩
    by_cases e:j<i
    ·exact I.closed j e k hkl
    ·have:j=i:=by omega
     subst this
     unfold a5M at hkl; rw[hg]at hkl; simp at hkl
   |some b=>
    have hbm:=b0G hb hg
    have hlk:a5M ks bs (out.getD i [])=a0B b:=by unfold a5M; rw[hg]
    obtain⟨l1,l2⟩:=b4x (h b hbm)
    have l3:=hd b hbm
    simp only[B5u,cond_true,b6J (h b hbm)]
    obtain⟨M',e1,e2⟩:=d4j (fun G1 C8=>H4 (fun z=>some z) (ks,bs,u) q G1 C8 ((i:Int)+1)) (ks,bs,u) (i:Int) (a0B b) (by omega) (fun k hk=>(l1 k hk).1) out M (by omega) hM
    have hx:∃out',H4 (fun z=>some z) (ks,bs,u) q (a4i out (a0B b)) M' ((i:Int)+1)=some out'∧d0T ks bs roots out' out'.length:=by
     obtain⟨r,hr2⟩:=b8O (a0B b) out
     refine next _ M' e1 ⟨by rw[hr2,List.length_append]; omega,a8x I.nd,fun k hk=> ?_,fun k hk=>a4s.2 (.inl (I.has k hk)),fun j hj k hkl=> ?_⟩
     ·rcases a4s.1 hk with hk|hk
      ·exact I.is k hk
      ·exact .link (I.is _ hmem) (by rw[hlk]; exact hk)
     ·have hg2:(a4i out (a0B b)).getD j []=out.getD j []:=by
       rw[hr2]; simp only[List.getD]; rw[List.getElem?_append_left (by omega)]
      rw[hg2]at hkl
      by_cases e:j<i
      ·exact a4s.2 (.inl (I.closed j e k hkl))
      ·have:j=i:=by omega
       subst this
       rw[hlk]at hkl
       exact a4s.2 (.inr hkl)
    obtain⟨out',z1,z2⟩:=hx
    exact⟨out',e2.trans z1,z2⟩
  ·have h2:=I.le
   refine⟨out,?_,by rw[show out.length=i by omega]; exact I⟩
   rw[B7 (p:=(i:Int)<(out.length:Int)) (by omega)]; rfl
theorem b6L(ks:G5)(bs:P7)(u:Unit)(roots:G5)(hk:∀k∈ks,L7 k)(hl:ks.length≤1048576)(hi:Inc ks)(hb:bs.length=ks.length)(h:∀b∈bs,J9 b)(hd:∀b∈bs,b.2.1.length≤1024)(hr:∀k∈roots,L7 k)(hU:(a5b bs roots).length≤1048576):
  ∃out,a0d (ks,bs,u) roots=some out∧out.length≤1048576∧∀k,k∈out↔Rch ks bs roots k:=by
 have hrl:roots.length≤1048576:=by unfold a5b at hU; rw[List.length_append]at hU; omega
 unfold a0d
 obtain⟨M',e1,e2⟩:=d4h (fun G1 C8=>H4 (fun G1=>some G1) (ks,bs,u) FUEL G1 C8 (0:Int)) (ks,bs,u) roots hrl [] [] (by simp; omega) (fun y=>rfl)
 obtain⟨out,z1,z2⟩:=d4i ks bs u roots hk hl hi hb h hd hr hU (a5b bs roots).length FUEL 0 (a4i [] roots) M' (by omega) (D7 (by omega)) e1
  ⟨Nat.zero_le _,a8x List.nodup_nil,fun k hk=>by
   rcases a4s.1 hk with hk|hk
   ·simp at hk
   ·exact .root hk,fun k hk=>a4s.2 (.inr hk),fun j hj=>by omega⟩
 refine⟨out,e2.trans z1,Nat.le_trans (b0K z2.nd fun k hk=>a9m hb (z2.is k hk)) hU,fun k=>⟨z2.is k,fun hk=> ?_⟩⟩
 induction hk with
 |root h=>exact z2.has _ h
 |link _ h ih=>
  obtain⟨j,hj,eg⟩:=n8 (d:=[]) ih
  exact z2.closed j hj _ (by rw[eg]; exact h)
theorem b2N{R α:Type}(L:Nat→Nat→Nat→List α→Option R)(p:α→Bool)(d:α)(Q:α→Prop)(ke:Nat→List α→Option R)(N:Nat)
  (step:∀n i j z,j<N→i<j→z.length=N→Q (z.getD j d)→L (n+1) i j z=cond (!(p (z.getD j d))) (L n (i+1) (j+1) (z.set i (z.getD j d))) (L n i (j+1) z))
  (stop:∀n i z,i<N→z.length=N→L (n+1) i N z=ke i z):
  ∀(m n i j:Nat) (z:List α),j+m=N→m<n→z.length=N→i<j→(∀ y∈z,Q y)→∃z',L n i j z=ke (i+((z.drop j).filter fun y=> !(p y)).length) z'∧z'.length=N∧z'.take (i+((z.drop j).filter fun y=> !(p y)).length)=z.take i++(z.drop j).filter (fun y=> !(p y))∧i+((z.drop j).filter fun y=> !(p y)).length≤N
 |0,n,i,j,z,hj,hn,hz,hi,hQ=>by
  obtain⟨q,rfl⟩:∃q,n=q+1:=⟨n-1,by omega⟩
  have:j=N:=by omega
  subst this
  refine⟨z,?_,hz,?_,?_⟩
  ·rw [stop q i z hi hz,List.drop_eq_nil_of_le (by omega)]; rfl
  ·rw [List.drop_eq_nil_of_le (by omega)]; simp
  ·rw [List.drop_eq_nil_of_le (by omega)]; simp; omega
 |m+1,n,i,j,z,hj,hn,hz,hi,hQ=>by
  obtain⟨q,rfl⟩:∃q,n=q+1:=⟨n-1,by omega⟩
  have hlt:j<z.length:=by omega
  have hd:z.drop j=z.getD j d::z.drop (j+1):=by
   rw[List.drop_eq_getElem_cons hlt]; simp[List.getD,List.getElem?_eq_getElem hlt]
  have hmem:=I6 d hlt
  rw[step q i j z (by omega) hi hz (hQ _ hmem),hd,List.filter_cons]
  cases hp:p (z.getD j d)with
  |true=>
   simp only[Bool.not_true,cond_false,Bool.false_eq_true,if_false]
   exact b2N L p d Q ke N step stop m q i (j+1) z (by omega) (by omega) hz (by omega) hQ
  |false=>
   simp only[Bool.not_false,cond_true,if_true,List.length_cons]
   obtain⟨z',e1,e2,e3,e4⟩:=b2N L p d Q ke N step stop m q (i+1) (j+1) (z.set i (z.getD j d)) (by omega) (by omega) (by simpa using hz) (by omega) (fun y hy=>by
    rcases List.mem_or_eq_of_mem_set hy with h|h
    ·exact hQ y h
    ·rw [h]; exact hQ _ hmem)
   have hds:(z.set i (z.getD j d)).drop (j+1)=z.drop (j+1):=List.drop_set_of_lt (by omega)
   rw[hds]at e1 e3 e4
   have ht:(z.set i (z.getD j d)).take (i+1)=z.take i++[z.getD j d]:=by
    rw[List.take_add_one,List.take_set,List.set_eq_of_length_le (by rw[List.length_take]; omega),List.getElem?_set]
    simp; omega
   refine⟨z',?_,e2,?_,by omega⟩
   ·rw [e1]; congr 1; omega
   ·rw [show i+((z.drop (j+1)).filter (fun y=> !(p y))).length.succ=i+1+((z.drop (j+1)).filter (fun y=> !(p y))).length by omega,e3,ht,List.append_assoc]; rfl
theorem d0P{α:Type}(z ys:List α)(i:Nat)(h:i≤z.length):(A6D z i ys).take i=z.take i:=by
 unfold A6D
 rw[List.take_append_of_le_length (by rw[List.length_take]; omega),List.take_take,Nat.min_self]
theorem b0F{α:Type}(p:α→Bool):∀(zs:List α) (x:Nat) (d:α),x<zs.length→(∀ i,i<x→p (zs.getD i d)=false)→p (zs.getD x d)=true→zs.filter (fun y=> !(p y))=zs.take x++(zs.drop (x+1)).filter (fun y=> !(p y))
 | [],x,d,h,_,_=>by simp at h
 |z::zs,0,d,h,h0,h1=>by
  have h1:p z=true:=by simpa[List.getD]using h1
  simp[List.filter_cons,h1]
 |z::zs,x+1,d,h,h0,h1=>by
  have hz:p z=false:=by simpa[List.getD]using h0 0 (by omega)
  have:=b0F p zs x d (by simpa using h) (fun i hi=>by simpa[List.getD]using h0 (i+1) (by omega)) (by simpa[List.getD]using h1)
  simp[List.filter_cons,hz,this]
theorem a8A(ks:G5)(bs:P7)(u:Unit)(t:List Int)(hk:∀k∈ks,L7 k)(ht:L7 t)(hl:ks.length≤1073741824)(hs:Inc ks):a0l (ks,bs,u) t=some (decide (t∈ks)):=by
 unfold a0l
 rcases a7k ks bs u t hk ht hl hs with⟨i,e1,e2,e3,e4⟩|⟨i,e1,e2,e4,_⟩
 ·rw [e1,B5u,A5 (by rw[← e3]; exact I6 [] e2)]
 ·rw [e1,B5u,B7 (a3M.1 e4)]
theorem b2h{ks:G5}(h:∀k∈ks,L7 k)(hl:ks.length≤1073741824):∃out,J2 ks=some out∧Inc out∧(∀ y,y∈out↔y∈ks)∧out.length≤ks.length:=by
 have hlen:=a7l ks
 refine⟨_,a8w h hl,b9b (d0L h) _ (by omega),fun y=> ?_,a5e _ _⟩
 rw[b9c _ _ (by omega)]
 constructor
 ·rintro ⟨i,hi,rfl⟩
  exact(b8T _).1 (I6 [] (by omega))
 ·intro hy
  obtain⟨i,hi,e⟩:=n8 (d:=[]) ((b8T y).2 hy)
  exact⟨i,by omega,e⟩
def b2u(ks:G5)(bs:P7)(roots:G5)(there:Bool)(out:G5):Prop:=Inc out∧∀k,k∈out↔(Rch ks bs roots k∧decide (k∈ks)=there)
theorem d0E{ks:G5}{bs:P7}{roots:G5}{there:Bool}{a b:G5}(h1:b2u ks bs roots there a)(h2:b2u ks bs roots there b):a=b:=
 c8l h1.1 h2.1 fun x=>(h1.2 x).trans (h2.2 x).symm
theorem b2B(ks:G5)(bs:P7)(u:Unit)(roots:G5)(there:Bool)(hk:∀k∈ks,L7 k)(hl:ks.length≤1048576)(hi:Inc ks)(hb:bs.length=ks.length)(h:∀b∈bs,J9 b)(hd:∀b∈bs,b.2.1.length≤1024)(hr:∀k∈roots,L7 k)(hU:(a5b bs roots).length≤1048576):
  ∃out,l8 (ks,bs,u) roots there=some out∧b2u ks bs roots there out:=by
 obtain⟨out,e1,e2,e3⟩:=b6L ks bs u roots hk hl hi hb h hd hr hU
 have hok:∀k∈out,L7 k:=fun k hm=>c4L hr h k (a9m hb ((e3 k).1 hm))
 unfold l8
 rw[e1,B5u]
 let p:List Int→Bool:=fun k=> !(decide (decide (k∈ks)=there))
 have hp:∀k,(!(p k))=decide (decide (k∈ks)=there):=fun k=>by simp only[p,Bool.not_not]
 have fin:∀zs:G5,zs=out.filter (fun y=> !(p y))→∃res,J2 zs=some res∧b2u ks bs roots there res:=by
  intro zs hz
  have hm:∀y,y∈zs↔y∈out∧decide (y∈ks)=there:=fun y=>by
   rw[hz,List.mem_filter,hp,decide_eq_true_eq]
  have hzl:zs.length≤out.length:=by rw[hz]; exact List.length_filter_le _ _
  obtain⟨res,r1,r2,r3,_⟩:=b2h (ks:=zs) (fun k hk=>hok k ((hm k).1 hk).1) (by omega)
  exact⟨res,r1,r2,fun k=>by rw[r3,hm,e3]⟩
 have key:∀(m n x:Nat) (kr:G5→Int→Option (A2K G6)) (ke:G5→Option (A2K G6)),x+m=out.length→m<n→(∀ i,i<x→p (out.getD i [])=false)→
   (M4 kr ke (ks,bs,u) there n (out.length:Int) out (x:Int)=ke out∧∀i,i<out.length→p (out.getD i [])=false)∨
   ∃i,i<out.length∧(∀ j,j<i→p (out.getD j [])=false)∧p (out.getD i [])=true∧M4 kr ke (ks,bs,u) there n (out.length:Int) out (x:Int)=kr out (i:Int):=by
  intro m
  induction m with
  |zero=>
   intro n x kr ke hx hn hf
   obtain⟨q,rfl⟩:∃q,n=q+1:=⟨n-1,by omega⟩
   refine .inl ⟨?_,fun i hi=>hf i (by omega)⟩
   show O2 _ _ _ _ _ (out.length:Int) out (x:Int)=_
   unfold O2
   rw[B7 (p:=(x:Int)<(out.length:Int)) (by omega)]; rfl
  |succ m ih=>
   intro n x kr ke hx hn hf
   obtain⟨q,rfl⟩:∃q,n=q+1:=⟨n-1,by omega⟩
   have hlt:x<out.length:=by omega
   have hs:M4 kr ke (ks,bs,u) there (q+1) (out.length:Int) out (x:Int)=cond (p (out.getD x [])) (kr out (x:Int)) (M4 kr ke (ks,bs,u) there q (out.length:Int) out ((x+1:Nat):Int)):=by
    show O2 _ _ _ _ _ (out.length:Int) out (x:Int)=_
    unfold O2
    simp only[Int.toNat_natCast]
    rw[a4V hlt,A5 (p:=(x:Int)<(out.length:Int)) (by omega),A5 (p:=(0:Int)≤(x:Int)) (by omega),a8A ks bs u _ hk (hok _ (I6 [] hlt)) (by omega) hi,B5u,U1 (n:=(x:Int)+1) (by omega) (by omega)]
    rfl
   rw[hs]
   cases hpx:p (out.getD x [])with
   |true=>exact .inr ⟨x,hlt,hf,hpx,rfl⟩
   |false=>
    rw[cond_false]
    exact ih q (x+1) kr ke (by omega) (by omega) (fun i hi=>by
     by_cases e:i=x
     ·rw [e]; exact hpx
     ·exact hf i (by omega))
 rcases key out.length FUEL 0 _ _ (by omega) (D7 (by omega)) (fun i hi=>by omega)with⟨z1,z2⟩|⟨i,z1,z2,z3,z4⟩
 ·obtain ⟨res,r1,r2⟩:=fin out (by
   symm; rw[List.filter_eq_self]
   intro a ha
   obtain⟨i,hi,e⟩:=n8 (d:=[]) ha
   rw[← e,z2 i hi]; rfl)
  refine⟨res,?_,r2⟩
  refine Eq.trans z1 ?_
  rw[r1]; rfl
 ·have hN:(out.drop (i+1)).length+(i+1)=out.length:=by rw[List.length_drop]; omega
  let ke2:Int→G5→Option (A2K G6):=fun x5 n7=>(cond ((decide ((0:Int)≤x5))&&(decide (x5≤(n7.length:Int))))
   (cond ((decide ((0:Int)≤x5))&&(decide (x5≤((A6D n7 (x5.toNat) (List.take ((n7.length)-(x5.toNat)) (List.replicate ((n7.length)-(x5.toNat)) (List.replicate 32 (0:Int))))).length:Int))))
   (A1w (J2 (List.take (x5.toNat) (A6D n7 (x5.toNat) (List.take ((n7.length)-(x5.toNat)) (List.replicate ((n7.length)-(x5.toNat)) (List.replicate 32 (0:Int))))))) fun(b7:G5)=>(some b7))
   none)
   none)
  obtain⟨z',f1,f2,f3,f4⟩:=b2N (fun n a b z=>Z7 ke2 (ks,bs,u) there n (a:Int) (b:Int) z) p [] L7 (fun a z=>ke2 (a:Int) z) out.length (fun n a b z hb2 hab hz hq=>by
   show O3 _ _ _ _ (a:Int) (b:Int) z=_
   unfold O3
   simp only[Int.toNat_natCast]
   rw[a4V (by omega),hz,A5 (p:=(b:Int)<(out.length:Int)) (by omega),A5 (p:=(0:Int)≤(b:Int)) (by omega),A5 (p:=(0:Int)≤(a:Int)) (by omega),A5 (p:=(a:Int)<(out.length:Int)) (by omega),a8A ks bs u _ hk hq (by omega) hi,B5u,U1 (n:=(a:Int)+1) (by omega) (by omega),U1 (n:=(b:Int)+1) (by omega) (by omega)]
   rfl) (fun n a z ha hz=>by
   show O3 _ _ _ _ (a:Int) (out.length:Int) z=_
   unfold O3
   rw[hz,B7 (p:=(out.length:Int)<(out.length:Int)) (by omega)]; rfl) (out.drop (i+1)).length FUEL i (i+1) out (by omega) (D7 (by omega)) rfl (by omega) hok
  obtain⟨w,hw⟩:∃w,w=i+((out.drop (i+1)).filter fun y=> !(p y)).length:=⟨_,rfl⟩
  rw[← hw]at f1 f3 f4
  have hf:=b0F p out i [] z1 z2 z3
  obtain⟨res,r1,r2⟩:=fin (z'.take w) (by rw[f3,hf])
  refine⟨res,?_,r2⟩
  refine Eq.trans z4 ?_
  show cond (decide ((i:Int)= -1)) _ _=_
  rw[B7 (show ¬(i:Int)= -1 by omega),cond_false,U1 (n:=(i:Int)+1) (by omega) (by omega)]
  refine Eq.trans f1 ?_
  show ke2 (w:Int) z'=some res
  have hlen:(A6D z' w (List.take (z'.length-w) (List.replicate (z'.length-w) (List.replicate 32 (0:Int))))).length=out.length:=by
   unfold A6D; simp; omega
  have e:((w:Int)).toNat=w:=Int.toNat_natCast w
  show cond (decide (0≤(w:Int))&&decide ((w:Int)≤(z'.length:Int))) (cond (decide (0≤(w:Int))&&decide ((w:Int)≤((A6D z' ((w:Int).toNat) (List.take (z'.length-(w:Int).toNat) (List.replicate (z'.length-(w:Int).toNat) (List.replicate 32 (0:Int))))).length:Int))) _ none) none=_
  rw[A5 (p:=(0:Int)≤(w:Int)) (by omega),A5 (p:=(w:Int)≤(z'.length:Int)) (by omega),A5 (p:=(w:Int)≤((A6D z' ((w:Int).toNat) (List.take (z'.length-(w:Int).toNat) (List.replicate (z'.length-(w:Int).toNat) (List.replicate 32 (0:Int))))).length:Int)) (by rw[e,hlen]; omega),e,d0P _ _ _ (by omega),r1]
  rfl
theorem a8C(zs:G5)(k:List Int)(hl:zs.length≤1048576):w7 zs k=some (decide (k∈zs)):=by
 unfold w7
 have:=b8M (fun n x=>a1O (some true) (some false) zs k n (x:Int)) zs [] (fun y=>decide (y=k)) (some true) (some false) (by omega) (fun n x hx=>by
  show s9 _ _ _ zs k (x:Int)=_
  unfold s9
  simp only[Int.toNat_natCast]
  rw[a4V hx,eqK,A5 (p:=(x:Int)<(zs.length:Int)) (by omega),A5 (p:=(0:Int)≤(x:Int)) (by omega),U1 (n:=(x:Int)+1) (by omega) (by omega)]
  rfl) (fun n=>by
  show s9 _ _ _ zs k (zs.length:Int)=_
  unfold s9
  rw[B7 (p:=(zs.length:Int)<(zs.length:Int)) (by omega)]; rfl)
 refine Eq.trans this ?_
 have e:(zs.any fun y=>decide (y=k))=decide (k∈zs):=by
  by_cases h:k∈zs
  ·rw [A5 h,List.any_eq_true]; exact⟨k,h,by simp⟩
  ·rw [B7 h,List.any_eq_false]; intro y hy; simp only[decide_eq_true_eq]; exact fun e=>h (e▸hy)
 rw[e]
 cases decide (k∈zs)<;>rfl
noncomputable def unf:List Bool→P7→Nat
 |f::fs,b::bs=>(if f=true then 0 else(a0B b).length)+unf fs bs
 |_,_=>0
theorem c8r:∀(fs:List Bool) (bs:P7) (i:Nat),i<fs.length→i<bs.length→fs.getD i false=false→unf (fs.set i true) bs+(a0B (bs.getD i bD)).length=unf fs bs
 | [],_,i,h,_,_=>by simp at h
 |_::_,[],i,_,h,_=>by simp at h
 |f::fs,b::bs,0,_,_,h=>by
  have h:f=false:=by simpa[List.getD]using h
  subst h
  simp[unf,List.getD]; omega
 |f::fs,b::bs,i+1,h1,h2,h=>by
  have:=c8r fs bs i (by simpa using h1) (by simpa using h2) (by simpa[List.getD]using h)
  have e:(b::bs).getD (i+1) bD=bs.getD i bD:=by simp[List.getD]
  rw[List.set_cons_succ,unf,unf,e]; omega
theorem c4J:∀(bs:P7),unf (List.replicate bs.length false) bs=(bs.flatMap a0B).length
 | []=>rfl
 |b::bs=>by
  rw[List.length_cons,List.replicate_succ,unf,c4J bs,List.flatMap_cons,List.length_append]
  simp
structure d9u (ks:G5) (bs:P7) (roots:G5) (i:Nat) (found:List Bool) (missing list:G5):Prop where
 le:i≤list.length
 flen:found.length=ks.length
 mlen:missing.length≤i
 cost:list.length+unf found bs=(a5b bs roots).length
 is:∀k∈list,Rch ks bs roots k
 has:∀k∈roots,k∈list
 fnd:∀j,j<ks.length→found.getD j false=true→Rch ks bs roots (ks.getD j [])∧∀k∈a0B (bs.getD j bD),k∈list
 miss:∀k∈missing,Rch ks bs roots k∧k∉ks
 seen:∀j,j<i→(∀ x,A6t ks (list.getD j [])=some x→found.getD x false=true)∧(list.getD j []∉ks→list.getD j []∈missing)
theorem c4A{ks:G5}{bs:P7}{t:List Int}{x:Nat}(h:A6t ks t=some x):a5M ks bs t=a0B (bs.getD x bD):=by
 unfold a5M b2y; rw[h]; rfl
theorem b6X(ks:G5)(bs:P7)(u:Unit)(roots:G5)(hl:ks.length≤1048576)(hi:Inc ks)(hb:bs.length=ks.length)(h:∀b∈bs,J9 b)(hU:(a5b bs roots).length≤1048576)(ke:List Bool→G5→Option (A2K O7)):
  ∀(m n i:Nat) (found:List Bool) (missing list:G5),(a5b bs roots).length=i+m→m<n→d9u ks bs roots i found missing list→
   ∃f' m' l',M8 ke (bs,ks,u) n (i:Int) found missing list=ke f' m'∧d9u ks bs roots l'.length f' m' l':=by
 intro m
 induction m with
 |zero=>
  intro n i found missing list hm hn I
  obtain⟨q,rfl⟩:∃q,n=q+1:=⟨n-1,by omega⟩
  have h1:=I.le
  have h2:=I.cost
  refine⟨found,missing,list,?_,by rw[show list.length=i by omega]; exact I⟩
  show H2 _ _ _ (i:Int) found missing list=_
  unfold H2
  rw[B7 (p:=(i:Int)<(list.length:Int)) (by omega)]; rfl
 |succ m ih=>
  intro n i found missing list hm hn I
  obtain⟨q,rfl⟩:∃q,n=q+1:=⟨n-1,by omega⟩
  have h1:=I.le
  have h2:=I.cost
  have h3:=I.mlen
  by_cases hlt:i<list.length
  ·have hmem:=I6 ([]:List Int) hlt
   have body:M8 ke (bs,ks,u) (q+1) (i:Int) found missing list=H2 (M8 ke (bs,ks,u) q) ke (bs,ks,u) (i:Int) found missing list:=rfl
   rw[body]
   unfold H2
   simp only[Int.toNat_natCast]
   rw[a4V hlt,A5 (p:=(i:Int)<(list.length:Int)) (by omega),A5 (p:=(0:Int)≤(i:Int)) (by omega),a7m bs ks u _ hl]
   simp only[Bool.and_self,cond_true,B5u,U1 (n:=(i:Int)+1) (by omega) (by omega)]
   cases hx:A6t ks (list.getD i [])with
   |none=>
    have hnot:=a3M.1 hx
    rw[A5 (show (-1:Int)<0 by omega),a8C missing _ (by omega)]
    simp only[cond_true,B5u]
    by_cases hin:list.getD i []∈missing
    ·rw [A5 hin]
     refine ih q (i+1) found missing list (by omega) (by omega) ⟨by omega,I.flen,by omega,I.cost,I.is,I.has,I.fnd,I.miss,fun j hj=> ?_⟩
     by_cases e:j<i
     ·exact I.seen j e
     ·have:j=i:=by omega
      subst this
      exact⟨fun x hx2=>(by rw[hx]at hx2; cases hx2),fun _=>hin⟩
    ·rw [B7 hin,A5 (p:=(missing.length+1)*32≤140737488355328) (by omega),A5 (p:=missing.length+1≤9223372036854775807) (by omega)]
     refine ih q (i+1) found (missing++[list.getD i []]) list (by omega) (by omega) ⟨by omega,I.flen,by simp; omega,I.cost,I.is,I.has,I.fnd,fun k hk=> ?_,fun j hj=> ?_⟩
     ·rcases List.mem_append.1 hk with hk|hk
      ·exact I.miss k hk
      ·simp only[List.mem_singleton]at hk; subst hk; exact⟨I.is _ hmem,hnot⟩
     ·by_cases e:j<i
      ·obtain ⟨s1,s2⟩:=I.seen j e
       exact⟨s1,fun hn=>List.mem_append_left _ (s2 hn)⟩
      ·have:j=i:=by omega
       subst this
       exact⟨fun x hx2=>(by rw[hx]at hx2; cases hx2),fun _=>by simp⟩
   |some x=>
    obtain⟨x1,x2⟩:=a5R hx
    have hfl:=I.flen
    simp only[Int.toNat_natCast]
    rw[B7 (show ¬(x:Int)<0 by omega),A5 (p:=(0:Int)≤(x:Int)) (by omega),A5 (p:=(x:Int)<(found.length:Int)) (by omega),A5 (p:=(x:Int)<(bs.length:Int)) (by omega)]
    simp only[cond_false,Bool.and_self,cond_true]
    have hlk:=c4A (bs:=bs) hx
    cases hf:found.getD x false with
    |true=>
     refine ih q (i+1) found missing list (by omega) (by omega) ⟨by omega,I.flen,by omega,I.cost,I.is,I.has,I.fnd,I.miss,fun j hj=> ?_⟩
     by_cases e:j<i
     ·exact I.seen j e
     ·have:j=i:=by omega
      subst this
      exact⟨fun y hy=>(by rw[hx]at hy; injection hy with hy; subst hy; exact hf),fun hn=>absurd (by rw[← x2]; exact I6 [] x1) hn⟩
    |false=>
     have hbo:=d9o h (x:=x) (by omega)
     have hc:=c8r found bs x (by omega) (by omega) hf
     have hbx:bs.getD x ((0:Int),([],()))=bs.getD x bD:=rfl
     simp only[Bool.not_false,cond_true,hbx,b6R hbo,B5u]
     rw[A5 (p:=(list.length+(a0B (bs.getD x bD)).length)*32≤140737488355328) (by omega),A5 (p:=list.length+(a0B (bs.getD x bD)).length≤9223372036854775807) (by omega)]
     have A0I:∀y,y<ks.length→(found.set x true).getD y false=(if y=x then true else found.getD y false):=fun y hy=>by
      simp only[List.getD]
      rw[List.getElem?_set]
      by_cases e:x=y
      ·subst e; rw[if_pos rfl,if_pos (by omega),if_pos rfl]; rfl
      ·rw [if_neg e,if_neg (Ne.symm e)]
     have hap:∀j,j<list.length→(list++a0B (bs.getD x bD)).getD j []=list.getD j []:=fun j hj=>by simp only[List.getD]; rw[List.getElem?_append_left hj]
     refine ih q (i+1) (found.set x true) missing (list++a0B (bs.getD x bD)) (by omega) (by omega) ⟨by rw[List.length_append]; omega,by simpa using I.flen,by omega,by rw[List.length_append]; omega,fun k hk=> ?_,fun k hk=>List.mem_append_left _ (I.has k hk),fun j hj hjt=> ?_,I.miss,fun j hj=> ?_⟩
     ·rcases List.mem_append.1 hk with hk|hk
      ·exact I.is k hk
      ·exact .link (I.is _ hmem) (by rw[hlk]; exact hk)
     ·rw [A0I j hj]at hjt
      by_cases e:j=x
      ·subst e
       exact⟨by rw[x2]; exact I.is _ hmem,fun k hk=>List.mem_append_right _ hk⟩
      ·rw [if_neg e]at hjt
       obtain⟨g1,g2⟩:=I.fnd j hj hjt
       exact⟨g1,fun k hk=>List.mem_append_left _ (g2 k hk)⟩
     ·rw [hap j (by omega)]
      by_cases e:j<i
      ·obtain ⟨s1,s2⟩:=I.seen j e
       refine⟨fun y hy=> ?_,s2⟩
       rw[A0I y (a5R hy).1]
       split
       ·rfl
       ·exact s1 y hy
      ·have:j=i:=by omega
       subst this
       refine⟨fun y hy=> ?_,fun hn=>absurd (by rw[← x2]; exact I6 [] x1) hn⟩
       rw[hx]at hy; injection hy with hy; subst hy
       rw[A0I _ x1,if_pos rfl]
  ·refine ⟨found,missing,list,?_,by rw[show list.length=i by omega]; exact I⟩
   show H2 _ _ _ (i:Int) found missing list=_
   unfold H2
   rw[B7 (p:=(i:Int)<(list.length:Int)) (by omega)]; rfl
theorem b6W(ks:G5)(bs:P7)(u:Unit)(roots:G5)(hl:ks.length≤1048576)(hi:Inc ks)(hb:bs.length=ks.length)(h:∀b∈bs,J9 b)(hU:(a5b bs roots).length≤1048576):
  ∃found missing,W4 (bs,ks,u) roots=some (found,missing)∧found.length=ks.length∧missing.length≤1048576∧(∀ i,i<ks.length→(found.getD i false=true↔Rch ks bs roots (ks.getD i [])))∧∀k,k∈missing↔(Rch ks bs roots k∧k∉ks):=by
 have hrl:roots.length≤1048576:=by unfold a5b at hU; rw[List.length_append]at hU; omega
 unfold W4
 have hr0:∀j:Nat,(List.replicate ks.length false).getD j false=false:=fun j=>by
  simp only[List.getD,List.getElem?_replicate]
  split<;>rfl
 obtain⟨f',m',l',e1,I⟩:=b6X ks bs u roots hl hi hb h hU (fun C8 A9=>(some (C8,A9))) (a5b bs roots).length FUEL 0 (List.replicate ks.length false) [] roots (by omega) (D7 (by omega))
  ⟨Nat.zero_le _,by simp,by simp,by rw[← hb,c4J]; unfold a5b; rw[List.length_append],fun k hk=> .root hk,fun k hk=>hk,fun j hj hjt=>(by rw[hr0]at hjt; cases hjt),fun k hk=>(by simp at hk),fun j hj=>by omega⟩
 have closed:∀k,Rch ks bs roots k→k∈l':=fun k hk=>by
  induction hk with
  |root h=>exact I.has _ h
  |link hp h ih=>
   rename_i p k
   obtain⟨j,hj,eg⟩:=n8 (d:=[]) ih
   obtain⟨s1,_⟩:=I.seen j hj
   rw[eg]at s1
   cases hx:A6t ks p with
   |none=>unfold a5M b2y at h; rw[hx]at h; simp at h
   |some x=>
    rw[c4A hx]at h
    exact(I.fnd x (a5R hx).1 (s1 x hx)).2 _ h
 refine⟨f',m',?_,I.flen,?_,fun i hi2=>⟨fun hf=>(I.fnd i hi2 hf).1,fun hR=> ?_⟩,fun k=>⟨I.miss k,fun⟨hR,hn⟩=> ?_⟩⟩
 ·simp only[Int.toNat_natCast,List.nil_append]
  rw[A5 (p:=(0:Int)≤(ks.length:Int)) (by omega),A5 (p:=(ks.length:Int)*1≤140737488355328) (by omega),A5 (p:=(ks.length:Int)≤9223372036854775807) (by omega),A5 (p:=(0+roots.length)*32≤140737488355328) (by omega),A5 (p:=0+roots.length≤9223372036854775807) (by omega)]
  exact e1
 ·have h1:=I.mlen
  have h2:=I.cost
  omega
 ·obtain ⟨j,hj,eg⟩:=n8 (d:=[]) (closed _ hR)
  obtain⟨s1,_⟩:=I.seen j hj
  rw[eg]at s1
  exact s1 i (b8J hi hi2 rfl)
 ·obtain ⟨j,hj,eg⟩:=n8 (d:=[]) (closed _ hR)
  obtain⟨_,s2⟩:=I.seen j hj
  rw[eg]at s2
  exact s2 hn
theorem a9v{y:List Int}(h:L7 y):a2K y (List.replicate 32 (0:Int))=some y:=by
 unfold a2K
 have key:∀(m n x:Nat),x+m=32→m<n→a1T (fun y20=>(some y20)) (List.replicate 32 (0:Int)) n (x:Int) y=some y:=by
  intro m
  induction m with
  |zero=>
   intro n x hx hn
   obtain⟨q,rfl⟩:∃q,n=q+1:=⟨n-1,by omega⟩
   show u7 _ _ _ (x:Int) y=_
   unfold u7
   rw[B7 (p:=(x:Int)<32) (by omega)]; rfl
  |succ m ih=>
   intro n x hx hn
   obtain⟨q,rfl⟩:∃q,n=q+1:=⟨n-1,by omega⟩
   have hlt:x<y.length:=by rw[h.1]; omega
   have hz:(List.replicate 32 (0:Int)).getD x 0=0:=by simp only[List.getD,List.getElem?_replicate]; split<;>rfl
   obtain⟨b1,b2⟩:=h.2 _ (I6 0 hlt)
   obtain⟨v,hv⟩:∃v:Nat,y.getD x 0=(v:Int):=⟨(y.getD x 0).toNat,by omega⟩
   have hx0:A6l .xor .u8 (y.getD x 0) 0=y.getD x 0:=by
    have:=(c4N (k:= .u8) (.inl rfl) (x:=v) (y:=0) (by simp[IntKind.bits]; omega) (by simp[IntKind.bits])).2.2
    rw[hv]; simpa using this
   have A0I:y.set x (y.getD x 0)=y:=by
    rw[show y.getD x 0=y[x] by simp[List.getD,List.getElem?_eq_getElem hlt]]; exact List.set_getElem_self hlt
   show u7 _ _ _ (x:Int) y=_
   unfold u7
   simp only[Int.toNat_natCast]
   rw[hz,hx0,A0I,A5 (p:=(x:Int)<32) (by omega),A5 (p:=(0:Int)≤(x:Int)) (by omega),U1 (n:=(x:Int)+1) (by omega) (by omega)]
   exact ih q (x+1) (by omega) (by omega)
 exact key 32 FUEL 0 (by omega) (D7 (by omega))
theorem d6H(ke:G5→Option (A2K a0r))(a0:G5)(x6:Int)(x:List Int)(hx:L7 x):∀(m n:Nat) (A B:G5),A.length=m→m<n→(A++B).length≤1048576→(∀ k∈A++B,L7 k)→Inc (A++B)→x∉A++B→(∀ b∈B,ltI x b=true)→
  ∃z,j0 ke a0 (List.replicate 32 (0:Int)) x6 n (A.length:Int) (A++x::B)=ke z∧Inc z∧z.length=(A++B).length+1∧∀y,y∈z↔(y=x∨y∈A++B):=by
 intro m
 induction m with
 |zero=>
  intro n A B hA hn hlen hok hinc hnot hB
  obtain⟨q,rfl⟩:∃q,n=q+1:=⟨n-1,by omega⟩
  have:A=[]:=List.length_eq_zero_iff.1 hA
  subst this
  refine⟨x::B,?_,List.pairwise_cons.2 ⟨hB,by simpa using hinc⟩,by simp,fun y=>by simp⟩
  show j6 _ _ _ _ _ (0:Int) ([]++x::B)=_
  unfold j6
  rfl
 |succ m ih=>
  intro n A B hA hn hlen hok hinc hnot hB
  obtain⟨q,rfl⟩:∃q,n=q+1:=⟨n-1,by omega⟩
  have hne:A≠ []:=fun e=>by rw[e]at hA; simp at hA
  obtain⟨A',a,rfl⟩:∃A' a,A=A'++[a]:=⟨A.dropLast,A.getLast hne,(List.dropLast_concat_getLast hne).symm⟩
  have hA':A'.length=m:=by simpa using hA
  have ha:L7 a:=hok a (by simp)
  have hax:x≠a:=fun e=>hnot (by simp[e])
  have e1:(A'++[a]++x::B)=A'++a::(x::B):=by simp
  have l1:(A'++[a]).length=m+1:=hA
  have g1:(A'++[a]++x::B).getD (m+1) (List.replicate 32 (0:Int))=x:=by rw[← l1]; exact a8v _ _ _ _
  have g0:(A'++[a]++x::B).getD m (List.replicate 32 (0:Int))=a:=by rw[e1,←hA']; exact a8v _ _ _ _
  have s1:(A'++[a]++x::B).set (m+1) a=A'++a::a::B:=by
   rw[← l1,b2H]; simp
  have s2:(A'++a::a::B).set m x=A'++x::(a::B):=by rw[← hA']; exact b2H _ _ _ _
  have hzl:(A'++[a]++x::B).length=m+2+B.length:=by simp; omega
  have hzl2:(A'++a::a::B).length=m+2+B.length:=by simp; omega
  have hml:m+1+B.length≤1048576:=by rw[List.length_append,l1]at hlen; exact hlen
  have body:j0 ke a0 (List.replicate 32 (0:Int)) x6 (q+1) ((A'++[a]).length:Int) (A'++[a]++x::B)=cond (ltI x a) (j0 ke a0 (List.replicate 32 (0:Int)) x6 q (A'.length:Int) (A'++x::(a::B))) (ke (A'++[a]++x::B)):=by
   show j6 _ _ _ _ _ ((A'++[a]).length:Int) (A'++[a]++x::B)=_
   unfold j6
   have ew:IntKind.wrap .i64 (((A'++[a]).length:Int)-1)=(m:Int):=by rw[U1 (by omega) (by omega)]; omega
   have et:(((A'++[a]).length:Int)).toNat=m+1:=by omega
   simp only[ew,et,Int.toNat_natCast,g1,g0,s1,s2,a9v hx,a9v ha,B5u,a4L hx.1 ha.1,a3P,hzl,hzl2]
   rw[A5 (p:=(0:Int)<((A'++[a]).length:Int)) (by omega),A5 (p:=(0:Int)≤((A'++[a]).length:Int)) (by omega),A5 (p:=((A'++[a]).length:Int)<((m+2+B.length:Nat):Int)) (by omega),A5 (p:=(0:Int)≤(m:Int)) (by omega),A5 (p:=(m:Int)<((m+2+B.length:Nat):Int)) (by omega),hA']
   rfl
  rw[body]
  have hinc2:Inc (A'++(a::B)):=by simpa using hinc
  cases hlt:ltI x a with
  |true=>
   obtain⟨z,z1,z2,z3,z4⟩:=ih q A' (a::B) hA' (by omega) (by simp at hlen ⊢; omega) (fun k hk=>hok k (by simpa using hk)) hinc2 (fun hm=>hnot (by simpa using hm)) (fun b hb=>by
    rcases List.mem_cons.1 hb with hb|hb
    ·rw [hb]; exact hlt
    ·exact hB b hb)
   refine⟨z,z1,z2,by rw[z3]; simp,fun y=> ?_⟩
   rw[z4 y]; simp
  |false=>
   have hgt:ltI a x=true:=c1l hlt (Ne.symm hax)
   rw[cond_false]
   refine⟨_,rfl,?_,by simp; omega,fun y=>by simp only[List.mem_append,List.mem_cons]; constructor<;>(intro h; rcases h with h|h|h<;>simp_all)⟩
   have hp:=List.pairwise_append.1 hinc
   refine List.pairwise_append.2 ⟨hp.1,List.pairwise_cons.2 ⟨hB,hp.2.1⟩,fun u hu v hv=> ?_⟩
   rcases List.mem_cons.1 hv with hv|hv
   ·subst hv
    rcases List.mem_append.1 hu with hu|hu
    ·exact a1L ((List.pairwise_append.1 hp.1).2.2 u hu a (by simp)) hgt
    ·simp only[List.mem_singleton]at hu; subst hu; exact hgt
   ·exact hp.2.2 u hu v hv
theorem b4F(zs:G5)(hok:∀k∈zs,L7 k)(hl:zs.length≤1048576):∃out,a3g zs (List.replicate 32 (0:Int))=some out∧Inc out∧(∀ y,y∈out↔y∈zs)∧out.length≤zs.length:=by
 unfold a3g
 have key:∀(m n x:Nat) (out:G5),x+m=zs.length→m<n→Inc out→(∀ y,y∈out↔y∈zs.take x)→out.length≤x→∃out',i9 (fun B4=>(some B4)) zs (List.replicate 32 (0:Int)) n (x:Int) out=some out'∧Inc out'∧(∀ y,y∈out'↔y∈zs)∧out'.length≤zs.length:=by
  intro m
  induction m with
  |zero=>
   intro n x out hx hn hi hm hol
   obtain⟨q,rfl⟩:∃q,n=q+1:=⟨n-1,by omega⟩
   refine⟨out,?_,hi,fun y=>by rw[hm,List.take_of_length_le (by omega)],by omega⟩
   show a1u _ _ _ _ (x:Int) out=_
   unfold a1u
   rw[B7 (p:=(x:Int)<(zs.length:Int)) (by omega)]; rfl
  |succ m ih=>
   intro n x out hx hn hi hm hol
   obtain⟨q,rfl⟩:∃q,n=q+1:=⟨n-1,by omega⟩
   have hlt:x<zs.length:=by omega
   have htk:∀y,y∈zs.take (x+1)↔(y∈zs.take x∨y=zs.getD x []):=fun y=>by
    rw[List.take_add_one,List.getElem?_eq_getElem hlt,show zs.getD x []=zs[x] by simp[List.getD,List.getElem?_eq_getElem hlt]]
    simp only[Option.toList_some,List.mem_append,List.mem_singleton]
   have hko:=hok _ (I6 [] hlt)
   show ∃out',a1u (i9 _ _ _ q) _ _ _ (x:Int) out=some out'∧_
   unfold a1u
   simp only[Int.toNat_natCast]
   rw[a4V hlt,A5 (p:=(x:Int)<(zs.length:Int)) (by omega),A5 (p:=(0:Int)≤(x:Int)) (by omega),a8C out _ (by omega)]
   simp only[Bool.and_self,cond_true,B5u,U1 (n:=(x:Int)+1) (by omega) (by omega)]
   by_cases hin:zs.getD x []∈out
   ·rw [A5 hin,cond_true]
    refine ih q (x+1) out (by omega) (by omega) hi (fun y=> ?_) (by omega)
    rw[htk,←hm]
    exact⟨.inl,fun h=>h.elim id fun e=>e▸hin⟩
   ·rw [B7 hin,cond_false,A5 (p:=(out.length+1)*32≤140737488355328) (by omega),A5 (p:=out.length+1≤9223372036854775807) (by omega)]
    have ew:IntKind.wrap .i64 (((out++[zs.getD x []]).length:Int)-1)=(out.length:Int):=by rw[List.length_append,List.length_singleton,U1 (by omega) (by omega)]; omega
    rw[ew]
    obtain⟨z,z1,z2,z3,z4⟩:=d6H (fun B4=>i9 (fun B4=>(some B4)) zs (List.replicate 32 (0:Int)) q ((x:Int)+1) B4) zs (x:Int) (zs.getD x []) hko out.length FUEL out [] rfl (D7 (by omega)) (by simp; omega) (fun k hk=>hok k (List.mem_of_mem_take ((hm k).1 (by simpa using hk)))) (by simpa using hi) (by simpa using hin) (by simp)
    obtain⟨out',f1,f2⟩:=ih q (x+1) z (by omega) (by omega) z2 (fun y=>by rw[z4 y,htk,←hm]; simp[or_comm]) (by rw[z3]; simp; omega)
    exact⟨out',z1.trans f1,f2⟩
 exact key zs.length FUEL 0 [] (by omega) (D7 (by omega)) (by simp) (fun y=>by simp) (by simp)
noncomputable def a5w(ks:G5)(bs:P7)(roots:G5)(there:Bool):G5:= @dite _ (∃ out,b2u ks bs roots there out) (Classical.propDecidable _) (fun h=>Classical.choose h) fun _=>[]
theorem c8o{ks:G5}{bs:P7}{roots:G5}{there:Bool}{out:G5}(h:b2u ks bs roots there out):a5w ks bs roots there=out:=by
 have hex:∃out,b2u ks bs roots there out:=⟨out,h⟩
 unfold a5w
 rw[dif_pos hex]
 exact d0E (Classical.choose_spec hex) h
theorem a7r(ks:G5)(bs:P7)(u:Unit)(roots:G5)(hl:ks.length≤1048576)(hi:Inc ks)(hb:bs.length=ks.length)(h:∀b∈bs,J9 b)(hr:∀k∈roots,L7 k)(hU:(a5b bs roots).length≤1048576):
  ∃found missing,W4 (bs,ks,u) roots=some (found,missing)∧a0y missing=some (a5w ks bs roots false)∧(a5w ks bs roots false).length≤1048576∧∀k∈a5w ks bs roots false,L7 k:=by
 obtain⟨found,missing,e1,e2,e3,e4,e5⟩:=b6W ks bs u roots hl hi hb h hU
 have hok:∀k∈missing,L7 k:=fun k hk=>c4L hr h k (a9m hb ((e5 k).1 hk).1)
 obtain⟨out,s1,s2,s3,s4⟩:=b4F missing hok e3
 have hR:b2u ks bs roots false out:=⟨s2,fun k=>by rw[s3,e5]; simp⟩
 rw[c8o hR]
 refine⟨found,missing,e1,?_,by omega,fun k hk=>hok k ((s3 k).1 hk)⟩
 unfold a0y
 rw[s1]; rfl
theorem c4r(ks:G5)(bs:P7)(u:Unit)(roots:G5)(there:Bool)(hk:∀k∈ks,L7 k)(hl:ks.length≤1048576)(hi:Inc ks)(hb:bs.length=ks.length)(h:∀b∈bs,J9 b)(hd:∀b∈bs,b.2.1.length≤1024)(hr:∀k∈roots,L7 k)(hU:(a5b bs roots).length≤1048576):
  l8 (ks,bs,u) roots there=some (a5w ks bs roots there):=by
 obtain⟨out,e1,e2⟩:=b2B ks bs u roots there hk hl hi hb h hd hr hU
 rw[e1,c8o e2]
noncomputable def U5(ks:G5)(bs:P7)(roots:G5)(most:Int):G5:=(a5w ks bs roots false).take most.toNat
theorem b6Y(ks:G5)(bs:P7)(u:Unit)(roots:G5)(most:Int)(h1:1≤most)(hl:ks.length≤1048576)(hi:Inc ks)(hb:bs.length=ks.length)(h:∀b∈bs,J9 b)(hr:∀k∈roots,L7 k)(hU:(a5b bs roots).length≤1048576):
  a1o (bs,ks,u) roots most=some (U5 ks bs roots most):=by
 obtain⟨found,missing,e1,e2,e3,_⟩:=a7r ks bs u roots hl hi hb h hr hU
 unfold a1o U5
 rw[e1]
 simp only[B5u,e2]
 by_cases hm:most<((a5w ks bs roots false).length:Int)
 ·have hc:A3F (a5w ks bs roots false) 0 most.toNat=(a5w ks bs roots false).take most.toNat:=by simp[A3F]
  have hlen:((a5w ks bs roots false).take most.toNat).length≤1048576:=by rw[List.length_take]; omega
  rw[A5 hm,A5 (p:=(0:Int)≤most) (by omega),A5 (p:=most≤((a5w ks bs roots false).length:Int)) (by omega),hc,A5 (p:=(0+((a5w ks bs roots false).take most.toNat).length)*32≤140737488355328) (by omega),A5 (p:=0+((a5w ks bs roots false).take most.toNat).length≤9223372036854775807) (by omega)]
  rfl
 ·rw [B7 hm,A5 (p:=(0+(a5w ks bs roots false).length)*32≤140737488355328) (by omega),A5 (p:=0+(a5w ks bs roots false).length≤9223372036854775807) (by omega),List.take_of_length_le (by omega)]
  rfl
end Go.Ai.H
