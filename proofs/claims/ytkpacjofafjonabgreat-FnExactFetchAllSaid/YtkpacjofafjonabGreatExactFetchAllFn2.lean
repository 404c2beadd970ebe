/- Printed: plain functions,and that the Go functions do what they say. No conditions. -/
import Derived.Test.YtkpacjofafjonabGreatExactFetchAllFn1
namespace Go.Ai.G
noncomputable section
open Go.Proofs
open Go.Ai
set_option linter.unusedVariables false
set_option linter.unusedSimpArgs false
set_option maxRecDepth 100000
def d3g(k:Nat):Cx:=y7 [] [(97,c8i)] [(99,c8k)] [(98,c8j)] [] k [] false
theorem d3h(k:Nat):A9E D8 (d3g k):=C4 ⟨d0w,C5⟩ ⟨d0z,C5⟩ ⟨d0x,C5⟩ C5
abbrev a5m:List Sh:=[.own 32 (.arr 32 k0B)]
abbrev Q38:Type:=Option (A2K a5m)
def J2(a0:B5):Q38:=
 (A1w (P8 a0) fun(b1:B5)=>(A1w (W7 b1 ()) fun(b2:T10)=>(A1w (J5 b2.1) fun(b3:B5)=>(some b3))))
theorem d5X(a0:B5):fnK (d3g FUEL) 8 54 d7f a5m [.pv K22 a0]=J2 a0:=by kernel_rfl
def c0D:Con:={ps:=K18,sh:=a5m,raw:=fun x=>J2 x.1}
theorem b8i:A8C D8 54 c0D:=B5n (d3h FUEL) (depth:=8) d8G fun x y h=>(d5X x.1).trans h
def a9F:Cut:={keep:=[0,1,7,8],stk:=[[],[1,8]],ids:=[10],own:=[],outs:=[(0,[4],[10]),(1,[],[10])]}
def a6K:Cut:={keep:=[0,1,5],stk:=[[21]],ids:=[140],own:=[],outs:=[(0,[4],[]),(1,[],[])]}
def D0(k:Nat):Cx:=y7 [(51,c3p),(55,b8j),(96,c4i)] [(52,c7R),(53,c0A),(54,c0D),(56,c0E)] [] [] [(170011005100070096,[(0,a9F)]),(1700230055,[(0,a6K)])] k [] false
theorem d2k(k:Nat):A9E D8 (D0 k):=C4 ⟨c9R,b8h,b8i,b2c,C5⟩ C5 C5 ⟨d8D,d8H,d9k,C5⟩
abbrev H0:List Sh:=[.pl .bool]
abbrev Q16:Type:=Option (A2K H0)
def c2G(a0:T4)(x8:Int):St:={env:=(.pv K12 a0.1:: .fn 52 (.pv .unit ())::(dd 5 (.pv E8 (a0.1.length:Int):: .pv E8 x8::(dd 10 [])))),stk:=[(dd 9 []),(.dead:: .ptr 10 K4 []::(dd 6 (.pv .bool false::(dd 16 []))))],heap:=[(10,.var K4 (.pv K4 a0))]}
def b0o(a0:T4)(x4:Int):St:={env:=(dd 4 (.pv E8 x4::(dd 14 []))),stk:=[(dd 9 []),(.dead:: .ptr 10 K4 []::(dd 6 (.pv .bool false::(dd 16 []))))],heap:=[(10,.var K4 (.pv K4 a0))]}
def a8P(a0:T4):St:={env:=(dd 19 []),stk:=[(dd 9 []),(.dead:: .ptr 10 K4 []::(dd 6 (.pv .bool false::(dd 16 []))))],heap:=[(10,.var K4 (.pv K4 a0))]}
def b3z(a0:T4)(x5:Int)(n0:B5)(C8:B5):St:={env:=(.sl 140 D9:: .fn 56 (.pv .unit ())::(dd 3 (.pv E8 x5::(dd 19 [])))),stk:=[(dd 21 (.pv .bool true::(dd 3 [])))],heap:=[(10,.var K4 (.pv K4 a0)),(140,.arr 32 D9 n0),(160,.arr 32 D9 C8)]}
def b0q(a0:T4)(n0:B5)(C8:B5):St:={env:=(dd 4 (.pv .bool false::(dd 20 []))),stk:=[(dd 21 (.pv .bool true::(dd 3 [])))],heap:=[(10,.var K4 (.pv K4 a0)),(140,.arr 32 D9 n0),(160,.arr 32 D9 C8)]}
def a8Q(a0:T4)(n0:B5)(C8:B5):St:={env:=(dd 25 []),stk:=[(dd 21 (.pv .bool true::(dd 3 [])))],heap:=[(10,.var K4 (.pv K4 a0)),(140,.arr 32 D9 n0),(160,.arr 32 D9 C8)]}
def M3(rec:Int→B5→B5→Q16)(kr:B5→B5→Q16)(ke0:B5→B5→Q16)(a0:T4)(x5:Int)(n0:B5)(C8:B5):Q16:=
 (cond (decide ((0:Int)<x5))
 (cond ((decide ((0:Int)≤x5))&&(decide (x5<(n0.length:Int))))
 (cond ((decide ((0:Int)≤(IntKind.wrap .i64 (x5-(1:Int)))))&&(decide ((IntKind.wrap .i64 (x5-(1:Int)))<(n0.length:Int))))
 (A1w (F4 (n0.getD (x5.toNat) (List.replicate 32 (0:Int))) (n0.getD ((IntKind.wrap .i64 (x5-(1:Int))).toNat) (List.replicate 32 (0:Int)))) fun(b7:Int)=>(cond (decide (b7<(0:Int)))
 (kr n0 C8)
 (rec (IntKind.wrap .i64 (x5-(1:Int))) n0 C8)))
 none)
 none)
 (ke0 n0 C8))
def J1(kr:B5→B5→Q16)(ke0:B5→B5→Q16)(a0:T4):Nat→Int→B5→B5→Q16
 |0=>fun _ _ _=>none
 |n+1=>M3 (J1 kr ke0 a0 n) kr ke0 a0
def S2(rec:Int→Q16)(kr:Int→Q16)(ke0:Q16)(a0:T4)(x8:Int):Q16:=
 (cond (decide (x8<(a0.1.length:Int)))
 (cond ((decide ((0:Int)≤x8))&&(decide (x8<(a0.1.length:Int))))
 (A1w (a1A (a0.1.getD (x8.toNat) ((0:Int),([],())))) fun(b2:Bool)=>(cond b2
 (kr x8)
 (rec (IntKind.wrap .i64 (x8+(1:Int))))))
 none)
 (ke0))
def S1(kr:Int→Q16)(ke0:Q16)(a0:T4):Nat→Int→Q16
 |0=>fun _=>none
 |n+1=>S2 (S1 kr ke0 a0 n) kr ke0 a0
def N5(a0:T4):Q16:=
 (cond (decide ((128:Int)<(a0.1.length:Int)))
 (some false)
 (S1 (fun x4=>(cond (decide ((0:Int)≤x4))
 (some false)
 (A1w (G8 a0) fun(b3:B5)=>(A1w (J2 b3) fun(b4:B5)=>(cond (decide ((b4.length:Int)=(b3.length:Int)))
 (J1 (fun n0 C8=>(some false)) (fun n0 C8=>(some true)) a0 FUEL (IntKind.wrap .i64 ((b3.length:Int)-(1:Int))) b3 b4)
 (some false)))))) (A1w (G8 a0) fun(b5:B5)=>(A1w (J2 b5) fun(b6:B5)=>(cond (decide ((b6.length:Int)=(b5.length:Int)))
 (J1 (fun n0 C8=>(some false)) (fun n0 C8=>(some true)) a0 FUEL (IntKind.wrap .i64 ((b5.length:Int)-(1:Int))) b5 b6)
 (some false)))) a0 FUEL (0:Int)))
def b3x(k:Nat)(K:Ex→St→Q16)(n:Nat)(a0:T4)(x5:Int)(n0:B5)(C8:B5):Q16:=A9j (D0 k) 1 (A0Z (D0 k) (A7s (D0 k) 7) 1 1700230055 (sub b2s [1,0,1,0,0])) a6K K n (b3z a0 x5 n0 C8)
theorem b3y(k:Nat)(a0:T4)(n0:B5)(C8:B5):((B4x 0 (B5Q (A0Z (D0 k) (A7s (D0 k) 7) 1 1700230055 (sub b2s [1,1])) (B4P (D0 k) b8j (some 23) 0 (B5J (D0 k) (A7s (D0 k) 8) 0 17 false (B5P (sub a4h [1,1,1,0])) 8 (B5Q (A0Z (D0 k) (A7s (D0 k) 8) 0 17 (sub a4h [1,1,1,1])) (B4C (D0 k) a9r H0)))))) .ret (b0q a0 n0 C8):Q16)=
 ((some false):Q16):=by kernel_rfl
theorem b0p(k:Nat)(a0:T4)(n0:B5)(C8:B5):((B4x 0 (B5Q (A0Z (D0 k) (A7s (D0 k) 7) 1 1700230055 (sub b2s [1,1])) (B4P (D0 k) b8j (some 23) 0 (B5J (D0 k) (A7s (D0 k) 8) 0 17 false (B5P (sub a4h [1,1,1,0])) 8 (B5Q (A0Z (D0 k) (A7s (D0 k) 8) 0 17 (sub a4h [1,1,1,1])) (B4C (D0 k) a9r H0)))))) (.exit 0) (a8Q a0 n0 C8):Q16)=
 ((some true):Q16):=by kernel_rfl
theorem b9T(k:Nat)(K:Ex→St→Q16)(n:Nat)(a0:T4)(x5:Int)(n0:B5)(C8:B5):(b3x k K (n+1) a0 x5 n0 C8:Q16)=M3 ((fun x5 n0 C8=>b3x k K n a0 x5 n0 C8)) (fun n0 C8=>K .ret (b0q a0 n0 C8)) (fun n0 C8=>K (.exit 0) (a8Q a0 n0 C8)) a0 x5 n0 C8:=by kernel_rfl
theorem b2r(K:Ex→St→Q16)(a0:T4):∀(n:Nat) (x5:Int) (n0:B5) (C8:B5),(b3x FUEL K n a0 x5 n0 C8:Q16)=J1 (fun n0 C8=>K .ret (b0q a0 n0 C8)) (fun n0 C8=>K (.exit 0) (a8Q a0 n0 C8)) a0 n x5 n0 C8:=by
 intro n
 induction n with
 |zero=>intros; rfl
 |succ n ih=>
  intro x5 n0 C8
  exact(b9T FUEL K n a0 x5 n0 C8).trans (congrArg (fun f=>M3 f (fun n0 C8=>K .ret (b0q a0 n0 C8)) (fun n0 C8=>K (.exit 0) (a8Q a0 n0 C8)) a0 x5 n0 C8) (funext fun x5=>funext fun n0=>funext fun C8=>ih x5 n0 C8))
def b3w(k:Nat)(K:Ex→St→Q16)(n:Nat)(a0:T4)(x8:Int):Q16:=A9j (D0 k) 2 (A0Z (D0 k) (A7s (D0 k) 6) 2 170011005100070096 (sub b8G [1,0,1,0,0])) a9F K n (c2G a0 x8)
theorem c6f(k:Nat)(a0:T4)(x4:Int):((B4x 0 (B5Q (A0Z (D0 k) (A7s (D0 k) 6) 2 170011005100070096 (sub b8G [1,1])) (B4P (D0 k) c4i (some 7) 1 (B5J (D0 k) (A7s (D0 k) 7) 1 1700110051 false (B5P (sub b3T [1,0])) 2 (B5Q (A0Z (D0 k) (A7s (D0 k) 7) 1 1700110051 (sub b3T [1,1])) (B4P (D0 k) c3p (some 11) 0 (B5J (D0 k) (A7s (D0 k) 8) 0 17 false (B5P (sub a4h [1,0,0])) 7 (B5Q (A0Z (D0 k) (A7s (D0 k) 8) 0 17 (sub a4h [1,0,1])) (B5Q (A0Z (D0 k) (A7s (D0 k) 8) 0 17 (sub a4h [1,1])) (B4C (D0 k) a9r H0)))))))))) .ret (b0o a0 x4):Q16)=
 ((cond (decide ((0:Int)≤x4))
 (some false)
 (A1w (G8 a0) fun(b3:B5)=>(A1w (J2 b3) fun(b4:B5)=>(cond (decide ((b4.length:Int)=(b3.length:Int)))
 (A9j (D0 k) 1 (A0Z (D0 k) (A7s (D0 k) 7) 1 1700230055 (sub b2s [1,0,1,0,0])) a6K (B4x 0 (B5Q (A0Z (D0 k) (A7s (D0 k) 7) 1 1700230055 (sub b2s [1,1])) (B4P (D0 k) b8j (some 23) 0 (B5J (D0 k) (A7s (D0 k) 8) 0 17 false (B5P (sub a4h [1,1,1,0])) 8 (B5Q (A0Z (D0 k) (A7s (D0 k) 8) 0 17 (sub a4h [1,1,1,1])) (B4C (D0 k) a9r H0)))))) k (b3z a0 (IntKind.wrap .i64 ((b3.length:Int)-(1:Int))) b3 b4))
 (some false))))):Q16):=by kernel_rfl
theorem b9R(k:Nat)(a0:T4):((B4x 0 (B5Q (A0Z (D0 k) (A7s (D0 k) 6) 2 170011005100070096 (sub b8G [1,1])) (B4P (D0 k) c4i (some 7) 1 (B5J (D0 k) (A7s (D0 k) 7) 1 1700110051 false (B5P (sub b3T [1,0])) 2 (B5Q (A0Z (D0 k) (A7s (D0 k) 7) 1 1700110051 (sub b3T [1,1])) (B4P (D0 k) c3p (some 11) 0 (B5J (D0 k) (A7s (D0 k) 8) 0 17 false (B5P (sub a4h [1,0,0])) 7 (B5Q (A0Z (D0 k) (A7s (D0 k) 8) 0 17 (sub a4h [1,0,1])) (B5Q (A0Z (D0 k) (A7s (D0 k) 8) 0 17 (sub a4h [1,1])) (B4C (D0 k) a9r H0)))))))))) (.exit 0) (a8P a0):Q16)=
 ((A1w (G8 a0) fun(b5:B5)=>(A1w (J2 b5) fun(b6:B5)=>(cond (decide ((b6.length:Int)=(b5.length:Int)))
 (A9j (D0 k) 1 (A0Z (D0 k) (A7s (D0 k) 7) 1 1700230055 (sub b2s [1,0,1,0,0])) a6K (B4x 0 (B5Q (A0Z (D0 k) (A7s (D0 k) 7) 1 1700230055 (sub b2s [1,1])) (B4P (D0 k) b8j (some 23) 0 (B5J (D0 k) (A7s (D0 k) 8) 0 17 false (B5P (sub a4h [1,1,1,0])) 8 (B5Q (A0Z (D0 k) (A7s (D0 k) 8) 0 17 (sub a4h [1,1,1,1])) (B4C (D0 k) a9r H0)))))) k (b3z a0 (IntKind.wrap .i64 ((b5.length:Int)-(1:Int))) b5 b6))
 (some false)))):Q16):=by kernel_rfl
theorem b9S(k:Nat)(K:Ex→St→Q16)(n:Nat)(a0:T4)(x8:Int):(b3w k K (n+1) a0 x8:Q16)=S2 ((fun x8=>b3w k K n a0 x8)) (fun x4=>K .ret (b0o a0 x4)) (K (.exit 0) (a8P a0)) a0 x8:=by kernel_rfl
theorem c2F(K:Ex→St→Q16)(a0:T4):∀(n:Nat) (x8:Int),(b3w FUEL K n a0 x8:Q16)=S1 (fun x4=>K .ret (b0o a0 x4)) (K (.exit 0) (a8P a0)) a0 n x8:=by
 intro n
 induction n with
 |zero=>intros; rfl
 |succ n ih=>
  intro x8
  exact(b9S FUEL K n a0 x8).trans (congrArg (fun f=>S2 f (fun x4=>K .ret (b0o a0 x4)) (K (.exit 0) (a8P a0)) a0 x8) (funext fun x8=>ih x8))
theorem c9o(k:Nat)(a0:T4):fnK (D0 k) 8 17 a9r H0 [.pv K4 a0]=
 ((cond (decide ((128:Int)<(a0.1.length:Int)))
 (some false)
 (A9j (D0 k) 2 (A0Z (D0 k) (A7s (D0 k) 6) 2 170011005100070096 (sub b8G [1,0,1,0,0])) a9F (B4x 0 (B5Q (A0Z (D0 k) (A7s (D0 k) 6) 2 170011005100070096 (sub b8G [1,1])) (B4P (D0 k) c4i (some 7) 1 (B5J (D0 k) (A7s (D0 k) 7) 1 1700110051 false (B5P (sub b3T [1,0])) 2 (B5Q (A0Z (D0 k) (A7s (D0 k) 7) 1 1700110051 (sub b3T [1,1])) (B4P (D0 k) c3p (some 11) 0 (B5J (D0 k) (A7s (D0 k) 8) 0 17 false (B5P (sub a4h [1,0,0])) 7 (B5Q (A0Z (D0 k) (A7s (D0 k) 8) 0 17 (sub a4h [1,0,1])) (B5Q (A0Z (D0 k) (A7s (D0 k) 8) 0 17 (sub a4h [1,1])) (B4C (D0 k) a9r H0)))))))))) k (c2G a0 (0:Int)))):Q16):=by kernel_rfl
theorem d5t(a0:T4):fnK (D0 FUEL) 8 17 a9r H0 [.pv K4 a0]=N5 a0:=
 (c9o FUEL a0).trans (B5U (rfl) ((c2F _ a0 FUEL (0:Int)).trans (B5V (fun e0 e1=>S1 e0 e1 a0 FUEL (0:Int)) (funext fun x4=>(c6f FUEL a0 x4).trans (B5U (rfl) (B5S (fun b3=>B5S (fun b4=>B5U ((b2r _ a0 FUEL (IntKind.wrap .i64 ((b3.length:Int)-(1:Int))) b3 b4).trans (B5V (fun e0 e1=>J1 e0 e1 a0 FUEL (IntKind.wrap .i64 ((b3.length:Int)-(1:Int))) b3 b4) (funext fun n0=>funext fun C8=>(b3y FUEL a0 n0 C8).trans (rfl)) (funext fun n0=>funext fun C8=>(b0p FUEL a0 n0 C8).trans (rfl)))) (rfl)))))) ((b9R FUEL a0).trans (B5S (fun b5=>B5S (fun b6=>B5U ((b2r _ a0 FUEL (IntKind.wrap .i64 ((b5.length:Int)-(1:Int))) b5 b6).trans (B5V (fun e0 e1=>J1 e0 e1 a0 FUEL (IntKind.wrap .i64 ((b5.length:Int)-(1:Int))) b5 b6) (funext fun n0=>funext fun C8=>(b3y FUEL a0 n0 C8).trans (rfl)) (funext fun n0=>funext fun C8=>(b0p FUEL a0 n0 C8).trans (rfl)))) (rfl))))))))
def c7y:Con:={ps:=K3,sh:=H0,raw:=fun x=>N5 x.1}
theorem c9n:A8C D8 17 c7y:=B5n (d2k FUEL) (depth:=8) d8a fun x y h=>(d5t x.1).trans h
def d3H(k:Nat):Cx:=y7 [] [] [] [] [] k [] false
theorem d3I(k:Nat):A9E D8 (d3H k):=C4 C5 C5 C5 C5
abbrev W5:List Sh:=[.own 29 o4]
abbrev Q65:Type:=Option (A2K W5)
def D5(a0:T6):Q65:=
 (cond (List.isEmpty a0) (A7q (some []) (cond (decide ((0+a0.length)*32≤140737488355328)&&decide (0+a0.length≤9223372036854775807))
 (some ([]++a0))
 none)) (cond (decide ((0+a0.length)*32≤140737488355328)&&decide (0+a0.length≤9223372036854775807))
 (some ([]++a0))
 none))
theorem d6o(a0:T6):fnK (d3H FUEL) 8 89 d7o W5 [.pv K12 a0]=D5 a0:=by kernel_rfl
def c8e:Con:={ps:=K4,sh:=W5,raw:=fun x=>D5 x.1}
theorem d0r:A8C D8 89 c8e:=B5n (d3I FUEL) (depth:=8) d9d fun x y h=>(d6o x.1).trans h
def d3z(k:Nat):Cx:=y7 [] [] [] [] [] k [] false
theorem d3A(k:Nat):A9E D8 (d3z k):=C4 C5 C5 C5 C5
abbrev a5n:List Sh:=[.pl .bool]
abbrev Q39:Type:=Option (A2K a5n)
def v7(a0:Int)(a1:Int)(a2:Int):Q39:=
 (cond (decide (a1≤a0))
 (some (decide (a0≤a2)))
 (some false))
theorem d6i(a0:Int)(a1:Int)(a2:Int):fnK (d3z FUEL) 8 70 d7m a5n [.pv E8 a0,.pv E8 a1,.pv E8 a2]=v7 a0 a1 a2:=by kernel_rfl
def b0z:Con:={ps:=K9,sh:=a5n,raw:=fun x=>v7 x.1 x.2.1 x.2.2.1}
theorem a9c:A8C D8 70 b0z:=B5n (d3A FUEL) (depth:=8) d8U fun x y h=>(d6i x.1 x.2.1 x.2.2.1).trans h
def d3v(k:Nat):Cx:=y7 [] [(70,b0z)] [] [] [] k [] false
theorem d3w(k:Nat):A9E D8 (d3v k):=C4 ⟨a9c,C5⟩ C5 C5 C5
abbrev a5k:List Sh:=[.pl .bool]
abbrev Q21:Type:=Option (A2K a5k)
def a2F(a0:Int):Q21:=
 (A1w (v7 a0 (1:Int) (256:Int)) fun(b1:Bool)=>(some b1))
theorem d6g(a0:Int):fnK (d3v FUEL) 8 68 d7k a5k [.pv E8 a0]=a2F a0:=by kernel_rfl
def c7X:Con:={ps:=K24,sh:=a5k,raw:=fun x=>a2F x.1}
theorem d0e:A8C D8 68 c7X:=B5n (d3w FUEL) (depth:=8) d8S fun x y h=>(d6g x.1).trans h
def d3x(k:Nat):Cx:=y7 [] [(70,b0z)] [] [] [] k [] false
theorem d3y(k:Nat):A9E D8 (d3x k):=C4 ⟨a9c,C5⟩ C5 C5 C5
abbrev a4o:List Sh:=[.pl .bool]
abbrev Q20:Type:=Option (A2K a4o)
def a1k(a0:Int):Q20:=
 (A1w (v7 a0 (0:Int) (1000000:Int)) fun(b1:Bool)=>(some b1))
theorem d6h(a0:Int):fnK (d3x FUEL) 8 69 d7l a4o [.pv E8 a0]=a1k a0:=by kernel_rfl
def c7Y:Con:={ps:=K24,sh:=a4o,raw:=fun x=>a1k x.1}
theorem d0f:A8C D8 69 c7Y:=B5n (d3y FUEL) (depth:=8) d8T fun x y h=>(d6h x.1).trans h
def a7I:Cut:={keep:=[0,2,4,8,9,10],stk:=[],ids:=[40],own:=[],outs:=[(1,[0,2,4,8,9],[40])]}
def a2f(k:Nat):Cx:=y7 [] [(56,c0E)] [] [] [(127,[(0,a7I)])] k [] false
theorem c8M(k:Nat):A9E D8 (a2f k):=C4 ⟨b2c,C5⟩ C5 C5 C5
abbrev C0:List Sh:=[.pl (.int .i64),.pl .bool]
abbrev Q63:Type:=Option (A2K C0)
def b7k(a0:B5)(a1:A7)(x9:Int)(E4:Int):St:={env:=(.pv K22 a0:: .dead:: .fn 56 (.pv .unit ()):: .dead:: .ptr 40 D9 []::(dd 3 (.pv E8 (a0.length:Int):: .pv E8 x9:: .pv E8 E4::(dd 38 [])))),stk:=[],heap:=[(40,.var D9 (.pv D9 a1))]}
def a6g(a0:B5)(a1:A7)(x9:Int):St:={env:=(.pv K22 a0:: .dead:: .fn 56 (.pv .unit ()):: .dead:: .ptr 40 D9 []::(dd 3 (.pv E8 (a0.length:Int):: .pv E8 x9::(dd 39 [])))),stk:=[],heap:=[(40,.var D9 (.pv D9 a1))]}
def B6(rec:Int→Int→Q63)(ke0:Int→Q63)(a0:B5)(a1:A7)(x9:Int)(E4:Int):Q63:=
 (cond (decide (x9<E4))
 (cond ((decide ((0:Int)≤(IntKind.wrap .i64 (B5H .u64 (IntKind.wrap .u64 (IntKind.wrap .i64 (x9+E4))) (1:Int)))))&&(decide ((IntKind.wrap .i64 (B5H .u64 (IntKind.wrap .u64 (IntKind.wrap .i64 (x9+E4))) (1:Int)))<(a0.length:Int))))
 (A1w (F4 (a0.getD ((IntKind.wrap .i64 (B5H .u64 (IntKind.wrap .u64 (IntKind.wrap .i64 (x9+E4))) (1:Int))).toNat) (List.replicate 32 (0:Int))) a1) fun(b2:Int)=>(cond (decide (b2<(0:Int)))
 (rec (IntKind.wrap .i64 ((IntKind.wrap .i64 (B5H .u64 (IntKind.wrap .u64 (IntKind.wrap .i64 (x9+E4))) (1:Int)))+(1:Int))) E4)
 (rec x9 (IntKind.wrap .i64 (B5H .u64 (IntKind.wrap .u64 (IntKind.wrap .i64 (x9+E4))) (1:Int))))))
 none)
 (ke0 x9))
def A8(ke0:Int→Q63)(a0:B5)(a1:A7):Nat→Int→Int→Q63
 |0=>fun _ _=>none
 |n+1=>B6 (A8 ke0 a0 a1 n) ke0 a0 a1
def F9(a0:B5)(a1:A7)(a2:Unit):Q63:=
 (A8 (fun x9=>(cond (decide (x9<(a0.length:Int)))
 (cond ((decide ((0:Int)≤x9))&&(decide (x9<(a0.length:Int))))
 (A1w (F4 (a0.getD (x9.toNat) (List.replicate 32 (0:Int))) a1) fun(b3:Int)=>(some (x9,(decide (b3=(0:Int))))))
 none)
 (some (x9,false)))) a0 a1 FUEL (0:Int) (a0.length:Int))
def b1k(k:Nat)(K:Ex→St→Q63)(n:Nat)(a0:B5)(a1:A7)(x9:Int)(E4:Int):Q63:=A9j (a2f k) 0 (A0Z (a2f k) (A7s (a2f k) 8) 0 127 (sub b2W [1,1,1,0,0,0])) a7I K n (b7k a0 a1 x9 E4)
theorem b5a(k:Nat)(a0:B5)(a1:A7)(x9:Int):((B4x 0 (B5Q (A0Z (a2f k) (A7s (a2f k) 8) 0 127 (sub b2W [1,1,1,1])) (B4C (a2f k) b2X C0))) (.exit 0) (a6g a0 a1 x9):Q63)=
 ((cond (decide (x9<(a0.length:Int)))
 (cond ((decide ((0:Int)≤x9))&&(decide (x9<(a0.length:Int))))
 (A1w (F4 (a0.getD (x9.toNat) (List.replicate 32 (0:Int))) a1) fun(b3:Int)=>(some (x9,(decide (b3=(0:Int))))))
 none)
 (some (x9,false))):Q63):=by kernel_rfl
theorem b5b(k:Nat)(K:Ex→St→Q63)(n:Nat)(a0:B5)(a1:A7)(x9:Int)(E4:Int):(b1k k K (n+1) a0 a1 x9 E4:Q63)=B6 ((fun x9 E4=>b1k k K n a0 a1 x9 E4)) (fun x9=>K (.exit 0) (a6g a0 a1 x9)) a0 a1 x9 E4:=by kernel_rfl
theorem b9n(K:Ex→St→Q63)(a0:B5)(a1:A7):∀(n:Nat) (x9:Int) (E4:Int),(b1k FUEL K n a0 a1 x9 E4:Q63)=A8 (fun x9=>K (.exit 0) (a6g a0 a1 x9)) a0 a1 n x9 E4:=by
 intro n
 induction n with
 |zero=>intros; rfl
 |succ n ih=>
  intro x9 E4
  exact(b5b FUEL K n a0 a1 x9 E4).trans (congrArg (fun f=>B6 f (fun x9=>K (.exit 0) (a6g a0 a1 x9)) a0 a1 x9 E4) (funext fun x9=>funext fun E4=>ih x9 E4))
theorem c5l(k:Nat)(a0:B5)(a1:A7)(a2:Unit):fnK (a2f k) 8 127 b2X C0 [.pv K22 a0,.pv D9 a1,.fn 56 (.pv .unit ())]=
 ((A9j (a2f k) 0 (A0Z (a2f k) (A7s (a2f k) 8) 0 127 (sub b2W [1,1,1,0,0,0])) a7I (B4x 0 (B5Q (A0Z (a2f k) (A7s (a2f k) 8) 0 127 (sub b2W [1,1,1,1])) (B4C (a2f k) b2X C0))) k (b7k a0 a1 (0:Int) (a0.length:Int))):Q63):=by kernel_rfl
theorem d1A(a0:B5)(a1:A7)(a2:Unit):fnK (a2f FUEL) 8 127 b2X C0 [.pv K22 a0,.pv D9 a1,.fn 56 (.pv .unit ())]=F9 a0 a1 a2:=
 (c5l FUEL a0 a1 a2).trans ((b9n _ a0 a1 FUEL (0:Int) (a0.length:Int)).trans (congrArg (fun e0=>A8 e0 a0 a1 FUEL (0:Int) (a0.length:Int)) (funext fun x9=>(b5a FUEL a0 a1 x9).trans (rfl))))
def c2b:Con:={ps:=(.pair K22 (.pair (.arr 32 k0B) (.pair (.fnc 56) .unit))),sh:=C0,raw:=fun x=>F9 x.1 x.2.1 x.2.2.1}
theorem c5k:A8C D8 127 c2b:=B5n (c8M FUEL) (depth:=8) d4P fun x y h=>(d1A x.1 x.2.1 x.2.2.1).trans h
def d3M(k:Nat):Cx:=y7 [] [(127,c2b)] [] [] [] k [] false
theorem d3N(k:Nat):A9E D8 (d3M k):=C4 ⟨c5k,C5⟩ C5 C5 C5
abbrev a3W:List Sh:=[.pl (.int .i64),.pl .bool]
abbrev Q29:Type:=Option (A2K a3W)
def Y5(a0:T2)(a1:A7):Q29:=
 (A1w (F9 a0.1 a1 ()) fun(b1:T18)=>(some (b1.1,b1.2)))
theorem d6r(a0:T2)(a1:A7):fnK (d3M FUEL) 8 93 d7r a3W [.pv (.ref K1) a0,.pv D9 a1]=Y5 a0 a1:=by kernel_rfl
def b2E:Con:={ps:=(.pair (.ref K1) K19),sh:=a3W,raw:=fun x=>Y5 x.1 x.2.1}
theorem b2d:A8C D8 93 b2E:=B5n (d3N FUEL) (depth:=8) d9h fun x y h=>(d6r x.1 x.2.1).trans h
def d2V(k:Nat):Cx:=y7 [] [(93,b2E)] [] [] [] k [] false
theorem d2W(k:Nat):A9E D8 (d2V k):=C4 ⟨b2d,C5⟩ C5 C5 C5
abbrev a4p:List Sh:=[.pl o4,.pl .bool]
abbrev Q30:Type:=Option (A2K a4p)
def a0k(a0:T2)(a1:A7):Q30:=
 (A1w (Y5 a0 a1) fun(b1:T18)=>(cond (!b1.2)
 (some (((0:Int),([],())),false))
 (cond ((decide ((0:Int)≤b1.1))&&(decide (b1.1<(a0.2.1.length:Int))))
 (some ((a0.2.1.getD (b1.1.toNat) ((0:Int),([],()))),true))
 none)))
theorem d5R(a0:T2)(a1:A7):fnK (d2V FUEL) 8 45 d7a a4p [.pv (.ref K1) a0,.pv D9 a1]=a0k a0 a1:=by kernel_rfl
def c0w:Con:={ps:=(.pair (.ref K1) K19),sh:=a4p,raw:=fun x=>a0k x.1 x.2.1}
theorem b8d:A8C D8 45 c0w:=B5n (d2W FUEL) (depth:=8) d8z fun x y h=>(d5R x.1 x.2.1).trans h
def a8q:Cut:={keep:=[0,3],stk:=[],ids:=[90030],own:=[(3,90030,43)],outs:=[(1,[3],[90030])]}
def a2s(k:Nat):Cx:=y7 [] [] [] [] [(192,[(0,a8q)])] k [] false
theorem c9u(k:Nat):A9E D8 (a2s k):=C4 C5 C5 C5 C5
abbrev a1E:List Sh:=[.own 32 (.arr 32 k0B)]
abbrev Q24:Type:=Option (A2K a1E)
def b7X(x0:A7)(B9:B5):St:={env:=(.pv K26 x0:: .dead:: .dead:: .sl 90030 D9::(dd 13 [])),stk:=[],heap:=[(90030,.arr 32 D9 B9)]}
def a6U(B9:B5):St:={env:=(dd 3 (.sl 90030 D9::(dd 13 []))),stk:=[],heap:=[(90030,.arr 32 D9 B9)]}
def p9(rec:A7→B5→Q24)(ke0:B5→Q24)(x0:A7)(B9:B5):Q24:=
 (cond (decide ((32:Int)≤(x0.length:Int)))
 (cond (decide (32≤x0.length))
 (cond (decide ((B9.length+1)*32≤140737488355328)&&decide (B9.length+1≤9223372036854775807))
 (cond (decide ((32:Int)≤(x0.length:Int)))
 (rec (A3F x0 32 (x0.length)) (B9++[(x0.take 32)]))
 none)
 none)
 none)
 (ke0 B9))
def p8(ke0:B5→Q24):Nat→A7→B5→Q24
 |0=>fun _ _=>none
 |n+1=>p9 (p8 ke0 n) ke0
def Z1(a0:A7):Q24:=
 (p8 (fun B9=>(some B9)) FUEL a0 [])
def b1Z(k:Nat)(K:Ex→St→Q24)(n:Nat)(x0:A7)(B9:B5):Q24:=A9j (a2s k) 0 (A0Z (a2s k) (A7s (a2s k) 8) 0 192 (sub b3E [1,1,0,0,0])) a8q K n (b7X x0 B9)
theorem b6A(k:Nat)(B9:B5):((B4x 0 (B5Q (A0Z (a2s k) (A7s (a2s k) 8) 0 192 (sub b3E [1,1,1])) (B4C (a2s k) b3F a1E))) (.exit 0) (a6U B9):Q24)=
 ((some B9):Q24):=by kernel_rfl
theorem b6B(k:Nat)(K:Ex→St→Q24)(n:Nat)(x0:A7)(B9:B5):(b1Z k K (n+1) x0 B9:Q24)=p9 ((fun x0 B9=>b1Z k K n x0 B9)) (fun B9=>K (.exit 0) (a6U B9)) x0 B9:=by kernel_rfl
theorem c0d(K:Ex→St→Q24):∀(n:Nat) (x0:A7) (B9:B5),(b1Z FUEL K n x0 B9:Q24)=p8 (fun B9=>K (.exit 0) (a6U B9)) n x0 B9:=by
 intro n
 induction n with
 |zero=>intros; rfl
 |succ n ih=>
  intro x0 B9
  exact(b6B FUEL K n x0 B9).trans (congrArg (fun f=>p9 f (fun B9=>K (.exit 0) (a6U B9)) x0 B9) (funext fun x0=>funext fun B9=>ih x0 B9))
theorem c6q(k:Nat)(a0:A7):fnK (a2s k) 8 192 b3F a1E [.pv K26 a0]=
 ((A9j (a2s k) 0 (A0Z (a2s k) (A7s (a2s k) 8) 0 192 (sub b3E [1,1,0,0,0])) a8q (B4x 0 (B5Q (A0Z (a2s k) (A7s (a2s k) 8) 0 192 (sub b3E [1,1,1])) (B4C (a2s k) b3F a1E))) k (b7X a0 [])):Q24):=by kernel_rfl
theorem d2r(a0:A7):fnK (a2s FUEL) 8 192 b3F a1E [.pv K26 a0]=Z1 a0:=
 (c6q FUEL a0).trans ((c0d _ FUEL a0 []).trans (congrArg (fun e0=>p8 e0 FUEL a0 []) (funext fun B9=>(b6A FUEL B9).trans (rfl))))
def c2M:Con:={ps:=K20,sh:=a1E,raw:=fun x=>Z1 x.1}
theorem c6p:A8C D8 192 c2M:=B5n (c9u FUEL) (depth:=8) d5z fun x y h=>(d2r x.1).trans h
def c7E(k:Nat):Cx:=y7 [] [(70,b0z)] [] [] [] k [] false
theorem c9z(k:Nat):A9E D8 (c7E k):=C4 ⟨a9c,C5⟩ C5 C5 C5
abbrev a5l:List Sh:=[.pl .bool]
abbrev Q22:Type:=Option (A2K a5l)
def a4A(a0:List Int):Q22:=
 (A1w (v7 (a0.length:Int) (1:Int) (24:Int)) fun(b1:Bool)=>(some b1))
theorem d2C(a0:List Int):fnK (c7E FUEL) 8 201 d2B a5l [.pv .str a0]=a4A a0:=by kernel_rfl
def c2R:Con:={ps:=K27,sh:=a5l,raw:=fun x=>a4A x.1}
theorem c6v:A8C D8 201 c2R:=B5n (c9z FUEL) (depth:=8) d5F fun x y h=>(d2C x.1).trans h
def c7D(k:Nat):Cx:=y7 [] [(201,c2R)] [] [] [] k [] false
theorem c9y(k:Nat):A9E D8 (c7D k):=C4 ⟨c6v,C5⟩ C5 C5 C5
abbrev a3G:List Sh:=[.pl .bool]
abbrev Q14:Type:=Option (A2K a3G)
def a0c(a0:T7):Q14:=
 (A1w (a4A a0.1) fun(b1:Bool)=>(cond b1
 (some (decide ((a0.2.1.length:Int)≤(64:Int))))
 (some false)))
theorem d2A(a0:T7):fnK (c7D FUEL) 8 200 d2z a3G [.pv K21 a0]=a0c a0:=by kernel_rfl
def c2Q:Con:={ps:=K17,sh:=a3G,raw:=fun x=>a0c x.1}
theorem c6u:A8C D8 200 c2Q:=B5n (c9y FUEL) (depth:=8) d5E fun x y h=>(d2A x.1).trans h
def c7A(k:Nat):Cx:=y7 [] [(200,c2Q)] [] [] [] k [] false
theorem c9v(k:Nat):A9E D8 (c7A k):=C4 ⟨c6u,C5⟩ C5 C5 C5
abbrev a3r:List Sh:=[.pl K2,.pl (.int .i64)]
abbrev Q9:Type:=Option (A2K a3r)
def o8(a0:A7):Q9:=
 (cond (decide ((a0.length:Int)<(65:Int)))
 (some (((List.replicate 32 (0:Int)),((List.replicate 32 (0:Int)),(([],([],())),()))),(5:Int)))
 (cond (decide ((64:Int)<(a0.length:Int)))
 (cond (decide ((a0.length:Int)<(IntKind.wrap .i64 ((65:Int)+(IntKind.wrap .i64 (a0.getD 64 (0:Int)))))))
 (some (((List.replicate 32 (0:Int)),((List.replicate 32 (0:Int)),(([],([],())),()))),(5:Int)))
 (cond (decide ((64:Int)<(a0.length:Int)))
 (cond (decide (32≤a0.length))
 (cond (decide ((32:Int)≤(a0.length:Int)))
 (cond (decide (32≤(A3F a0 32 (a0.length)).length))
 (cond ((decide ((0:Int)≤(IntKind.wrap .i64 ((65:Int)+(IntKind.wrap .i64 (a0.getD 64 (0:Int)))))))&&(decide ((IntKind.wrap .i64 ((65:Int)+(IntKind.wrap .i64 (a0.getD 64 (0:Int)))))≤(a0.length:Int))))
 (cond (decide ((65:Int)≤(IntKind.wrap .i64 ((65:Int)+(IntKind.wrap .i64 (a0.getD 64 (0:Int)))))))
 (cond ((decide ((0:Int)≤(IntKind.wrap .i64 ((65:Int)+(IntKind.wrap .i64 (a0.getD 64 (0:Int)))))))&&(decide ((IntKind.wrap .i64 ((65:Int)+(IntKind.wrap .i64 (a0.getD 64 (0:Int)))))≤(a0.length:Int))))
 (A1w (a0c ((A3F a0 65 ((IntKind.wrap .i64 ((65:Int)+(IntKind.wrap .i64 (a0.getD 64 (0:Int))))).toNat)),((A3F a0 ((IntKind.wrap .i64 ((65:Int)+(IntKind.wrap .i64 (a0.getD 64 (0:Int))))).toNat) (a0.length)),()))) fun(b1:Bool)=>(cond (!b1)
 (some (((List.replicate 32 (0:Int)),((List.replicate 32 (0:Int)),(([],([],())),()))),(5:Int)))
 (some (((a0.take 32),(((A3F a0 32 (a0.length)).take 32),(((A3F a0 65 ((IntKind.wrap .i64 ((65:Int)+(IntKind.wrap .i64 (a0.getD 64 (0:Int))))).toNat)),((A3F a0 ((IntKind.wrap .i64 ((65:Int)+(IntKind.wrap .i64 (a0.getD 64 (0:Int))))).toNat) (a0.length)),())),()))),(0:Int)))))
 none)
 none)
 none)
 none)
 none)
 none)
 none))
 none))
theorem d2t(a0:A7):fnK (c7A FUEL) 8 193 d2s a3r [.pv K26 a0]=o8 a0:=by kernel_rfl
def c2N:Con:={ps:=K20,sh:=a3r,raw:=fun x=>o8 x.1}
theorem c6r:A8C D8 193 c2N:=B5n (c9v FUEL) (depth:=8) d5A fun x y h=>(d2t x.1).trans h
def c7B(k:Nat):Cx:=y7 [] [(95,c0Z)] [] [] [] k [] false
theorem c9w(k:Nat):A9E D8 (c7B k):=C4 ⟨b8F,C5⟩ C5 C5 C5
abbrev a3q:List Sh:=[.pl (.arr 32 k0B)]
abbrev Q6:Type:=Option (A2K a3q)
def o7:Q6:=
 (A1w (a3N (5:Int) []) fun(b1:A7)=>(some b1))
theorem d2v:fnK (c7B FUEL) 8 194 d2u a3q []=o7:=by kernel_rfl
def c2O:Con:={ps:= .unit,sh:=a3q,raw:=fun x=>o7}
theorem c6s:A8C D8 194 c2O:=B5n (c9w FUEL) (depth:=8) d5B fun x y h=>(d2v).trans h
def a8h:Cut:={keep:=[0,1,7,8],stk:=[[0,1],[]],ids:=[60,340],own:=[],outs:=[(0,[4],[60,340]),(1,[],[60,340])]}
def a8i:Cut:={keep:=[0,1,5,6],stk:=[[]],ids:=[60,340],own:=[],outs:=[(1,[0,5],[340])]}
def C7(k:Nat):Cx:=y7 [(141,a4k),(175,a6H),(195,d2w)] [(192,c2M),(193,c2N),(194,c2O)] [] [] [(1770036014100100175,[(0,a8h)]),(17700360141,[(0,a8i)])] k [] false
theorem c9l(k:Nat):A9E D8 (C7 k):=C4 ⟨c6p,c6r,c6s,C5⟩ C5 C5 ⟨c7s,c7w,d5C,C5⟩
abbrev I0:List Sh:=[.own 32 (.arr 32 k0B)]
abbrev Q5:Type:=Option (A2K I0)
def b7M(a0:T9)(X0:T0)(y60:A7)(G2:B5)(x8:Int):St:={env:=(.sl 340 D9:: .fn 195 (.pr (.ptr 60 D9 []) (.pv .unit ()))::(dd 5 (.pv E8 (2:Int):: .pv E8 x8::(dd 10 [])))),stk:=[(.sl 340 D9:: .fn 195 (.pr (.ptr 60 D9 []) (.pv .unit ()))::(dd 40 [])),(dd 71 [])],heap:=[(10,.var o4 (.pv o4 a0)),(40,.var K2 (.pv K2 X0)),(60,.var D9 (.pv D9 y60)),(340,.arr 32 D9 G2)]}
def a8O(a0:T9)(X0:T0)(y60:A7)(G2:B5)(x4:Int):St:={env:=(dd 4 (.pv E8 x4::(dd 14 []))),stk:=[(.sl 340 D9:: .fn 195 (.pr (.ptr 60 D9 []) (.pv .unit ()))::(dd 40 [])),(dd 71 [])],heap:=[(10,.var o4 (.pv o4 a0)),(40,.var K2 (.pv K2 X0)),(60,.var D9 (.pv D9 y60)),(340,.arr 32 D9 G2)]}
def a6I(a0:T9)(X0:T0)(y60:A7)(G2:B5):St:={env:=(dd 19 []),stk:=[(.sl 340 D9:: .fn 195 (.pr (.ptr 60 D9 []) (.pv .unit ()))::(dd 40 [])),(dd 71 [])],heap:=[(10,.var o4 (.pv o4 a0)),(40,.var K2 (.pv K2 X0)),(60,.var D9 (.pv D9 y60)),(340,.arr 32 D9 G2)]}
def b7N(a0:T9)(x5:Int)(x6:Int)(X0:T0)(y60:A7)(G2:B5):St:={env:=(.sl 340 D9:: .fn 195 (.pr (.ptr 60 D9 []) (.pv .unit ()))::(dd 3 (.pv E8 x5:: .pv E8 x6::(dd 35 [])))),stk:=[(dd 71 [])],heap:=[(10,.var o4 (.pv o4 a0)),(40,.var K2 (.pv K2 X0)),(60,.var D9 (.pv D9 y60)),(340,.arr 32 D9 G2)]}
def a6J(a0:T9)(x5:Int)(X0:T0)(y60:A7)(G2:B5):St:={env:=(.sl 340 D9::(dd 4 (.pv E8 x5::(dd 36 [])))),stk:=[(dd 71 [])],heap:=[(10,.var o4 (.pv o4 a0)),(40,.var K2 (.pv K2 X0)),(60,.var D9 (.pv D9 y60)),(340,.arr 32 D9 G2)]}
def R7(rec:Int→Int→T0→A7→B5→Q5)(ke0:Int→T0→A7→B5→Q5)(a0:T9)(x5:Int)(x6:Int)(X0:T0)(y60:A7)(G2:B5):Q5:=
 (cond (decide (x6<(G2.length:Int)))
 (cond ((decide ((0:Int)≤x6))&&(decide (x6<(G2.length:Int))))
 (cond (!(eqd (.arr 32 k0B) (G2.getD (x6.toNat) (List.replicate 32 (0:Int))) y60))
 (cond ((decide ((0:Int)≤x5))&&(decide (x5<(G2.length:Int))))
 (rec (IntKind.wrap .i64 (x5+(1:Int))) (IntKind.wrap .i64 (x6+(1:Int))) X0 y60 (G2.set (x5.toNat) (G2.getD (x6.toNat) (List.replicate 32 (0:Int)))))
 none)
 (rec x5 (IntKind.wrap .i64 (x6+(1:Int))) X0 y60 G2))
 none)
 (ke0 x5 X0 y60 G2))
def J0(ke0:Int→T0→A7→B5→Q5)(a0:T9):Nat→Int→Int→T0→A7→B5→Q5
 |0=>fun _ _ _ _ _=>none
 |n+1=>R7 (J0 ke0 a0 n) ke0 a0
def M1(rec:T0→A7→B5→Int→Q5)(kr:T0→A7→B5→Int→Q5)(ke0:T0→A7→B5→Q5)(a0:T9)(X0:T0)(y60:A7)(G2:B5)(x8:Int):Q5:=
 (cond (decide (x8<(2:Int)))
 (cond ((decide ((0:Int)≤x8))&&(decide (x8<(G2.length:Int))))
 (cond (eqd (.arr 32 k0B) (G2.getD (x8.toNat) (List.replicate 32 (0:Int))) y60)
 (kr X0 y60 G2 x8)
 (rec X0 y60 G2 (IntKind.wrap .i64 (x8+(1:Int)))))
 none)
 (ke0 X0 y60 G2))
def L9(kr:T0→A7→B5→Int→Q5)(ke0:T0→A7→B5→Q5)(a0:T9):Nat→T0→A7→B5→Int→Q5
 |0=>fun _ _ _ _=>none
 |n+1=>M1 (L9 kr ke0 a0 n) kr ke0 a0
def a0a(a0:T9):Q5:=
 (cond (decide (a0.1=(2:Int)))
 (cond (decide ((a0.2.1.length:Int)=(64:Int)))
 (A1w (Z1 a0.2.1) fun(b1:B5)=>(some b1))
 (some []))
 (cond (decide (a0.1=(5:Int)))
 (A1w (o8 a0.2.1) fun(b2:(T0×Int))=>(cond (decide (b2.2=(0:Int)))
 (A1w (o7) fun(b3:A7)=>(L9 (fun X0 y60 G2 x4=>(cond (decide (x4=(-1:Int)))
 (some G2)
 (J0 (fun x5 X0 y60 G2=>(cond ((decide ((0:Int)≤x5))&&(decide (x5≤(G2.length:Int))))
 (cond ((decide ((0:Int)≤x5))&&(decide (x5≤((A6D G2 (x5.toNat) (List.take ((G2.length)-(x5.toNat)) (List.replicate ((G2.length)-(x5.toNat)) (List.replicate 32 (0:Int))))).length:Int))))
 (some (List.take (x5.toNat) (A6D G2 (x5.toNat) (List.take ((G2.length)-(x5.toNat)) (List.replicate ((G2.length)-(x5.toNat)) (List.replicate 32 (0:Int)))))))
 none)
 none)) a0 FUEL x4 (IntKind.wrap .i64 (x4+(1:Int))) X0 y60 G2))) (fun X0 y60 G2=>(some G2)) a0 FUEL b2.1 b3 [b2.1.1,b2.1.2.1] (0:Int)))
 (some [])))
 (cond (decide (a0.1=(6:Int)))
 (cond (decide ((Int.tmod (a0.2.1.length:Int) (32:Int))=(0:Int)))
 (A1w (Z1 a0.2.1) fun(b4:B5)=>(some b4))
 (some []))
 (cond (decide (a0.1=(7:Int)))
 (cond (decide ((0:Int)<(a0.2.1.length:Int)))
 (cond (decide ((0:Int)<(a0.2.1.length:Int)))
 (cond (decide ((IntKind.wrap .i64 ((1:Int)+(IntKind.wrap .i64 ((32:Int)*(IntKind.wrap .i64 (a0.2.1.getD 0 (0:Int)))))))≤(a0.2.1.length:Int)))
 (cond (decide ((0:Int)<(a0.2.1.length:Int)))
 (cond ((decide ((0:Int)≤(IntKind.wrap .i64 ((1:Int)+(IntKind.wrap .i64 ((32:Int)*(IntKind.wrap .i64 (a0.2.1.getD 0 (0:Int)))))))))&&(decide ((IntKind.wrap .i64 ((1:Int)+(IntKind.wrap .i64 ((32:Int)*(IntKind.wrap .i64 (a0.2.1.getD 0 (0:Int)))))))≤(a0.2.1.length:Int))))
 (cond (decide ((1:Int)≤(IntKind.wrap .i64 ((1:Int)+(IntKind.wrap .i64 ((32:Int)*(IntKind.wrap .i64 (a0.2.1.getD 0 (0:Int)))))))))
 (A1w (Z1 (A3F a0.2.1 1 ((IntKind.wrap .i64 ((1:Int)+(IntKind.wrap .i64 ((32:Int)*(IntKind.wrap .i64 (a0.2.1.getD 0 (0:Int))))))).toNat))) fun(b5:B5)=>(some b5))
 none)
 none)
 none)
 (some []))
 none)
 (some []))
 (some [])))))
def b1P(k:Nat)(K:Ex→St→Q5)(n:Nat)(a0:T9)(x5:Int)(x6:Int)(X0:T0)(y60:A7)(G2:B5):Q5:=A9j (C7 k) 1 (A0Z (C7 k) (A7s (C7 k) 7) 1 17700360141 (sub a1w [1,1,1,0,1,0,0])) a8i K n (b7N a0 x5 x6 X0 y60 G2)
theorem b6g(k:Nat)(a0:T9)(x5:Int)(X0:T0)(y60:A7)(G2:B5):((B4x 0 (B5Q (A0Z (C7 k) (A7s (C7 k) 7) 1 17700360141 (sub a1w [1,1,1,1])) (B4P (C7 k) a4k (some 36) 0 (B5J (C7 k) (A7s (C7 k) 8) 0 177 false (B5P (sub a3o [1,0,1,1,0,1,1,1,0,1,1,0,1,0])) 6 (B5Q (A0Z (C7 k) (A7s (C7 k) 8) 0 177 (sub a3o [1,0,1,1,0,1,1,1,0,1,1,0,1,1])) (B4x 0 (B5Q (A0Z (C7 k) (A7s (C7 k) 8) 0 177 (sub a3o [1,1])) (B4C (C7 k) a8g I0)))))))) (.exit 0) (a6J a0 x5 X0 y60 G2):Q5)=
 ((cond ((decide ((0:Int)≤x5))&&(decide (x5≤(G2.length:Int))))
 (cond ((decide ((0:Int)≤x5))&&(decide (x5≤((A6D G2 (x5.toNat) (List.take ((G2.length)-(x5.toNat)) (List.replicate ((G2.length)-(x5.toNat)) (List.replicate 32 (0:Int))))).length:Int))))
 (some (List.take (x5.toNat) (A6D G2 (x5.toNat) (List.take ((G2.length)-(x5.toNat)) (List.replicate ((G2.length)-(x5.toNat)) (List.replicate 32 (0:Int)))))))
 none)
 none):Q5):=by kernel_rfl
theorem b6h(k:Nat)(K:Ex→St→Q5)(n:Nat)(a0:T9)(x5:Int)(x6:Int)(X0:T0)(y60:A7)(G2:B5):(b1P k K (n+1) a0 x5 x6 X0 y60 G2:Q5)=R7 ((fun x5 x6 X0 y60 G2=>b1P k K n a0 x5 x6 X0 y60 G2)) (fun x5 X0 y60 G2=>K (.exit 0) (a6J a0 x5 X0 y60 G2)) a0 x5 x6 X0 y60 G2:=by kernel_rfl
theorem b9Q(K:Ex→St→Q5)(a0:T9):∀(n:Nat) (x5:Int) (x6:Int) (X0:T0) (y60:A7) (G2:B5),(b1P FUEL K n a0 x5 x6 X0 y60 G2:Q5)=J0 (fun x5 X0 y60 G2=>K (.exit 0) (a6J a0 x5 X0 y60 G2)) a0 n x5 x6 X0 y60 G2:=by
 intro n
 induction n with
 |zero=>intros; rfl
 |succ n ih=>
  intro x5 x6 X0 y60 G2
  exact(b6h FUEL K n a0 x5 x6 X0 y60 G2).trans (congrArg (fun f=>R7 f (fun x5 X0 y60 G2=>K (.exit 0) (a6J a0 x5 X0 y60 G2)) a0 x5 x6 X0 y60 G2) (funext fun x5=>funext fun x6=>funext fun X0=>funext fun y60=>funext fun G2=>ih x5 x6 X0 y60 G2))
def b1O(k:Nat)(K:Ex→St→Q5)(n:Nat)(a0:T9)(X0:T0)(y60:A7)(G2:B5)(x8:Int):Q5:=A9j (C7 k) 2 (A0Z (C7 k) (A7s (C7 k) 6) 2 1770036014100100175 (sub a5g [1,0,1,0,0])) a8h K n (b7M a0 X0 y60 G2 x8)
theorem c2D(k:Nat)(a0:T9)(X0:T0)(y60:A7)(G2:B5)(x4:Int):((B4x 0 (B5Q (A0Z (C7 k) (A7s (C7 k) 6) 2 1770036014100100175 (sub a5g [1,1])) (B4P (C7 k) a6H (some 10) 1 (B5J (C7 k) (A7s (C7 k) 7) 1 17700360141 false (B5P (sub a1w [1,0])) 2 (B5Q (A0Z (C7 k) (A7s (C7 k) 7) 1 17700360141 (sub a1w [1,1])) (B4P (C7 k) a4k (some 36) 0 (B5J (C7 k) (A7s (C7 k) 8) 0 177 false (B5P (sub a3o [1,0,1,1,0,1,1,1,0,1,1,0,1,0])) 6 (B5Q (A0Z (C7 k) (A7s (C7 k) 8) 0 177 (sub a3o [1,0,1,1,0,1,1,1,0,1,1,0,1,1])) (B4x 0 (B5Q (A0Z (C7 k) (A7s (C7 k) 8) 0 177 (sub a3o [1,1])) (B4C (C7 k) a8g I0))))))))))) .ret (a8O a0 X0 y60 G2 x4):Q5)=
 ((cond (decide (x4=(-1:Int)))
 (some G2)
 (A9j (C7 k) 1 (A0Z (C7 k) (A7s (C7 k) 7) 1 17700360141 (sub a1w [1,1,1,0,1,0,0])) a8i (B4x 0 (B5Q (A0Z (C7 k) (A7s (C7 k) 7) 1 17700360141 (sub a1w [1,1,1,1])) (B4P (C7 k) a4k (some 36) 0 (B5J (C7 k) (A7s (C7 k) 8) 0 177 false (B5P (sub a3o [1,0,1,1,0,1,1,1,0,1,1,0,1,0])) 6 (B5Q (A0Z (C7 k) (A7s (C7 k) 8) 0 177 (sub a3o [1,0,1,1,0,1,1,1,0,1,1,0,1,1])) (B4x 0 (B5Q (A0Z (C7 k) (A7s (C7 k) 8) 0 177 (sub a3o [1,1])) (B4C (C7 k) a8g I0)))))))) k (b7N a0 x4 (IntKind.wrap .i64 (x4+(1:Int))) X0 y60 G2))):Q5):=by kernel_rfl
theorem b6e(k:Nat)(a0:T9)(X0:T0)(y60:A7)(G2:B5):((B4x 0 (B5Q (A0Z (C7 k) (A7s (C7 k) 6) 2 1770036014100100175 (sub a5g [1,1])) (B4P (C7 k) a6H (some 10) 1 (B5J (C7 k) (A7s (C7 k) 7) 1 17700360141 false (B5P (sub a1w [1,0])) 2 (B5Q (A0Z (C7 k) (A7s (C7 k) 7) 1 17700360141 (sub a1w [1,1])) (B4P (C7 k) a4k (some 36) 0 (B5J (C7 k) (A7s (C7 k) 8) 0 177 false (B5P (sub a3o [1,0,1,1,0,1,1,1,0,1,1,0,1,0])) 6 (B5Q (A0Z (C7 k) (A7s (C7 k) 8) 0 177 (sub a3o [1,0,1,1,0,1,1,1,0,1,1,0,1,1])) (B4x 0 (B5Q (A0Z (C7 k) (A7s (C7 k) 8) 0 177 (sub a3o [1,1])) (B4C (C7 k) a8g I0))))))))))) (.exit 0) (a6I a0 X0 y60 G2):Q5)=
 ((some G2):Q5):=by kernel_rfl
theorem b6f(k:Nat)(K:Ex→St→Q5)(n:Nat)(a0:T9)(X0:T0)(y60:A7)(G2:B5)(x8:Int):(b1O k K (n+1) a0 X0 y60 G2 x8:Q5)=M1 ((fun X0 y60 G2 x8=>b1O k K n a0 X0 y60 G2 x8)) (fun X0 y60 G2 x4=>K .ret (a8O a0 X0 y60 G2 x4)) (fun X0 y60 G2=>K (.exit 0) (a6I a0 X0 y60 G2)) a0 X0 y60 G2 x8:=by kernel_rfl
theorem b9P(K:Ex→St→Q5)(a0:T9):∀(n:Nat) (X0:T0) (y60:A7) (G2:B5) (x8:Int),(b1O FUEL K n a0 X0 y60 G2 x8:Q5)=L9 (fun X0 y60 G2 x4=>K .ret (a8O a0 X0 y60 G2 x4)) (fun X0 y60 G2=>K (.exit 0) (a6I a0 X0 y60 G2)) a0 n X0 y60 G2 x8:=by
 intro n
 induction n with
 |zero=>intros; rfl
 |succ n ih=>
  intro X0 y60 G2 x8
  exact(b6f FUEL K n a0 X0 y60 G2 x8).trans (congrArg (fun f=>M1 f (fun X0 y60 G2 x4=>K .ret (a8O a0 X0 y60 G2 x4)) (fun X0 y60 G2=>K (.exit 0) (a6I a0 X0 y60 G2)) a0 X0 y60 G2 x8) (funext fun X0=>funext fun y60=>funext fun G2=>funext fun x8=>ih X0 y60 G2 x8))
theorem c6d(k:Nat)(a0:T9):fnK (C7 k) 8 177 a8g I0 [.pv o4 a0]=
 ((cond (decide (a0.1=(2:Int)))
 (cond (decide ((a0.2.1.length:Int)=(64:Int)))
 (A1w (Z1 a0.2.1) fun(b1:B5)=>(some b1))
 (some []))
 (cond (decide (a0.1=(5:Int)))
 (A1w (o8 a0.2.1) fun(b2:(T0×Int))=>(cond (decide (b2.2=(0:Int)))
 (A1w (o7) fun(b3:A7)=>(A9j (C7 k) 2 (A0Z (C7 k) (A7s (C7 k) 6) 2 1770036014100100175 (sub a5g [1,0,1,0,0])) a8h (B4x 0 (B5Q (A0Z (C7 k) (A7s (C7 k) 6) 2 1770036014100100175 (sub a5g [1,1])) (B4P (C7 k) a6H (some 10) 1 (B5J (C7 k) (A7s (C7 k) 7) 1 17700360141 false (B5P (sub a1w [1,0])) 2 (B5Q (A0Z (C7 k) (A7s (C7 k) 7) 1 17700360141 (sub a1w [1,1])) (B4P (C7 k) a4k (some 36) 0 (B5J (C7 k) (A7s (C7 k) 8) 0 177 false (B5P (sub a3o [1,0,1,1,0,1,1,1,0,1,1,0,1,0])) 6 (B5Q (A0Z (C7 k) (A7s (C7 k) 8) 0 177 (sub a3o [1,0,1,1,0,1,1,1,0,1,1,0,1,1])) (B4x 0 (B5Q (A0Z (C7 k) (A7s (C7 k) 8) 0 177 (sub a3o [1,1])) (B4C (C7 k) a8g I0))))))))))) k (b7M a0 b2.1 b3 [b2.1.1,b2.1.2.1] (0:Int))))
 (some [])))
 (cond (decide (a0.1=(6:Int)))
 (cond (decide ((Int.tmod (a0.2.1.length:Int) (32:Int))=(0:Int)))
 (A1w (Z1 a0.2.1) fun(b4:B5)=>(some b4))
 (some []))
 (cond (decide (a0.1=(7:Int)))
 (cond (decide ((0:Int)<(a0.2.1.length:Int)))
 (cond (decide ((0:Int)<(a0.2.1.length:Int)))
 (cond (decide ((IntKind.wrap .i64 ((1:Int)+(IntKind.wrap .i64 ((32:Int)*(IntKind.wrap .i64 (a0.2.1.getD 0 (0:Int)))))))≤(a0.2.1.length:Int)))
 (cond (decide ((0:Int)<(a0.2.1.length:Int)))
 (cond ((decide ((0:Int)≤(IntKind.wrap .i64 ((1:Int)+(IntKind.wrap .i64 ((32:Int)*(IntKind.wrap .i64 (a0.2.1.getD 0 (0:Int)))))))))&&(decide ((IntKind.wrap .i64 ((1:Int)+(IntKind.wrap .i64 ((32:Int)*(IntKind.wrap .i64 (a0.2.1.getD 0 (0:Int)))))))≤(a0.2.1.length:Int))))
 (cond (decide ((1:Int)≤(IntKind.wrap .i64 ((1:Int)+(IntKind.wrap .i64 ((32:Int)*(IntKind.wrap .i64 (a0.2.1.getD 0 (0:Int)))))))))
 (A1w (Z1 (A3F a0.2.1 1 ((IntKind.wrap .i64 ((1:Int)+(IntKind.wrap .i64 ((32:Int)*(IntKind.wrap .i64 (a0.2.1.getD 0 (0:Int))))))).toNat))) fun(b5:B5)=>(some b5))
 none)
 none)
 none)
 (some []))
 none)
 (some []))
 (some []))))):Q5):=by kernel_rfl
theorem d2h(a0:T9):fnK (C7 FUEL) 8 177 a8g I0 [.pv o4 a0]=a0a a0:=
 (c6d FUEL a0).trans (B5U (rfl) (B5U (B5S (fun b2=>B5U (B5S (fun b3=>(b9P _ a0 FUEL b2.1 b3 [b2.1.1,b2.1.2.1] (0:Int)).trans (B5V (fun e0 e1=>L9 e0 e1 a0 FUEL b2.1 b3 [b2.1.1,b2.1.2.1] (0:Int)) (funext fun X0=>funext fun y60=>funext fun G2=>funext fun x4=>(c2D FUEL a0 X0 y60 G2 x4).trans (B5U (rfl) ((b9Q _ a0 FUEL x4 (IntKind.wrap .i64 (x4+(1:Int))) X0 y60 G2).trans (congrArg (fun e0=>J0 e0 a0 FUEL x4 (IntKind.wrap .i64 (x4+(1:Int))) X0 y60 G2) (funext fun x5=>funext fun X0=>funext fun y60=>funext fun G2=>(b6g FUEL a0 x5 X0 y60 G2).trans (rfl)))))) (funext fun X0=>funext fun y60=>funext fun G2=>(b6e FUEL a0 X0 y60 G2).trans (rfl))))) (rfl))) (rfl)))
def c2C:Con:={ps:=K8,sh:=I0,raw:=fun x=>a0a x.1}
theorem c6c:A8C D8 177 c2C:=B5n (c9l FUEL) (depth:=8) d5r fun x y h=>(d2h x.1).trans h
def a7S:Cut:={keep:=[0,5,7,18,19,20],stk:=[],ids:=[50,60,150,160],own:=[],outs:=[(1,[0,5,7],[50,60,150,160])]}
def a1q:Cut:={keep:=[0,5,7,10],stk:=[],ids:=[50,60,150,160],own:=[],outs:=[(3,[5],[50,150])]}
def a7T:Cut:={keep:=[0,5,7,10,45,46,47],stk:=[],ids:=[50,60,150,160,450],own:=[],outs:=[(5,[0,5,7,10],[50,60,150,160])]}
def F7(k:Nat):Cx:=y7 [(176,d2g)] [(45,c0w),(177,c2C)] [] [] [(142,[(0,a7S),(2,a1q),(4,a7T)])] k [] false
theorem c8Y(k:Nat):A9E D8 (F7 k):=C4 ⟨b8d,c6c,C5⟩ C5 C5 ⟨d5q,C5⟩
abbrev M7:List Sh:=[.own 32 (.arr 32 k0B)]
abbrev Q32:Type:=Option (A2K M7)
def b7v(a0:T2)(a1:B5)(x20:Int)(G1:B5)(C8:T11):St:={env:=(.pv (.ref K1) a0::(dd 4 (.ptr 50 K22 []:: .dead:: .fn 176 (.pr (.ptr 60 (.opt .unit) []) (.pr (.ptr 50 K22 []) (.pv .unit ())))::(dd 10 (.pv K22 a1:: .pv E8 (a1.length:Int):: .pv E8 x20::(dd 35 [])))))),stk:=[],heap:=[(50,.var K22 (.sl 150 D9)),(60,.var (.opt .unit) (.inn 160 [.fld 0] .bool)),(150,.arr 32 D9 G1),(160,.map (.arr 32 k0B) .bool C8)]}
def a6r(a0:T2)(G1:B5)(C8:T11):St:={env:=(.pv (.ref K1) a0::(dd 4 (.ptr 50 K22 []:: .dead:: .fn 176 (.pr (.ptr 60 (.opt .unit) []) (.pr (.ptr 50 K22 []) (.pv .unit ())))::(dd 48 [])))),stk:=[],heap:=[(50,.var K22 (.sl 150 D9)),(60,.var (.opt .unit) (.inn 160 [.fld 0] .bool)),(150,.arr 32 D9 G1),(160,.map (.arr 32 k0B) .bool C8)]}
def a8L(a0:T2)(G1:B5)(C8:T11)(E4:Int):St:={env:=(.pv (.ref K1) a0::(dd 4 (.ptr 50 K22 []:: .dead:: .fn 176 (.pr (.ptr 60 (.opt .unit) []) (.pr (.ptr 50 K22 []) (.pv .unit ()))):: .dead:: .dead:: .pv E8 E4::(dd 45 [])))),stk:=[],heap:=[(50,.var K22 (.sl 150 D9)),(60,.var (.opt .unit) (.inn 160 [.fld 0] .bool)),(150,.arr 32 D9 G1),(160,.map (.arr 32 k0B) .bool C8)]}
def a9B(G1:B5):St:={env:=(dd 5 (.ptr 50 K22 []::(dd 50 []))),stk:=[],heap:=[(50,.var K22 (.sl 150 D9)),(150,.arr 32 D9 G1)]}
def b7x(a0:T2)(E4:Int)(x46:Int)(a5y:B5)(x47:Int)(G1:B5)(C8:T11):St:={env:=(.pv (.ref K1) a0::(dd 4 (.ptr 50 K22 []:: .dead:: .fn 176 (.pr (.ptr 60 (.opt .unit) []) (.pr (.ptr 50 K22 []) (.pv .unit ()))):: .dead:: .dead:: .pv E8 E4::(dd 34 (.sl 450 D9:: .pv E8 x46:: .pv E8 x47::(dd 8 [])))))),stk:=[],heap:=[(50,.var K22 (.sl 150 D9)),(60,.var (.opt .unit) (.inn 160 [.fld 0] .bool)),(150,.arr 32 D9 G1),(160,.map (.arr 32 k0B) .bool C8),(450,.arr 32 D9 a5y)]}
def a6s(a0:T2)(E4:Int)(G1:B5)(C8:T11):St:={env:=(.pv (.ref K1) a0::(dd 4 (.ptr 50 K22 []:: .dead:: .fn 176 (.pr (.ptr 60 (.opt .unit) []) (.pr (.ptr 50 K22 []) (.pv .unit ()))):: .dead:: .dead:: .pv E8 E4::(dd 45 [])))),stk:=[],heap:=[(50,.var K22 (.sl 150 D9)),(60,.var (.opt .unit) (.inn 160 [.fld 0] .bool)),(150,.arr 32 D9 G1),(160,.map (.arr 32 k0B) .bool C8)]}
def S4(rec:Int→B5→Int→B5→T11→Q32)(ke4:B5→T11→Q32)(a0:T2)(E4:Int)(x46:Int)(a5y:B5)(x47:Int)(G1:B5)(C8:T11):Q32:=
 (cond (decide (x47<x46))
 (cond ((decide ((0:Int)≤x47))&&(decide (x47<(a5y.length:Int))))
 (cond (!((A7N (.arr 32 k0B) .bool C8 (a5y.getD (x47.toNat) (List.replicate 32 (0:Int)))).getD false))
 (cond (decide ((G1.length+1)*32≤140737488355328)&&decide (G1.length+1≤9223372036854775807))
 (rec x46 a5y (IntKind.wrap .i64 (x47+(1:Int))) (G1++[(a5y.getD (x47.toNat) (List.replicate 32 (0:Int)))]) (A8c (.arr 32 k0B) .bool C8 (a5y.getD (x47.toNat) (List.replicate 32 (0:Int))) true))
 none)
 (rec x46 a5y (IntKind.wrap .i64 (x47+(1:Int))) G1 C8))
 none)
 (ke4 G1 C8))
def N8(ke4:B5→T11→Q32)(a0:T2)(E4:Int):Nat→Int→B5→Int→B5→T11→Q32
 |0=>fun _ _ _ _ _=>none
 |n+1=>S4 (N8 ke4 a0 E4 n) ke4 a0 E4
def w9(rec:B5→T11→Int→Q32)(ke2:B5→Q32)(a0:T2)(G1:B5)(C8:T11)(E4:Int):Q32:=
 (cond (decide (E4<(G1.length:Int)))
 (cond ((decide ((0:Int)≤E4))&&(decide (E4<(G1.length:Int))))
 (A1w (a0k a0 (G1.getD (E4.toNat) (List.replicate 32 (0:Int)))) fun(b3:(T9×Bool))=>(cond b3.2
 (A1w (a0a b3.1) fun(b4:B5)=>(N8 (fun G1 C8=>(rec G1 C8 (IntKind.wrap .i64 (E4+(1:Int))))) a0 E4 FUEL (b4.length:Int) b4 (0:Int) G1 C8))
 (rec G1 C8 (IntKind.wrap .i64 (E4+(1:Int))))))
 none)
 (ke2 G1))
def H4(ke2:B5→Q32)(a0:T2):Nat→B5→T11→Int→Q32
 |0=>fun _ _ _=>none
 |n+1=>w9 (H4 ke2 a0 n) ke2 a0
def S3(rec:Int→B5→T11→Q32)(ke0:B5→T11→Q32)(a0:T2)(a1:B5)(x20:Int)(G1:B5)(C8:T11):Q32:=
 (cond (decide (x20<(a1.length:Int)))
 (cond ((decide ((0:Int)≤x20))&&(decide (x20<(a1.length:Int))))
 (cond (!((A7N (.arr 32 k0B) .bool C8 (a1.getD (x20.toNat) (List.replicate 32 (0:Int)))).getD false))
 (cond (decide ((G1.length+1)*32≤140737488355328)&&decide (G1.length+1≤9223372036854775807))
 (rec (IntKind.wrap .i64 (x20+(1:Int))) (G1++[(a1.getD (x20.toNat) (List.replicate 32 (0:Int)))]) (A8c (.arr 32 k0B) .bool C8 (a1.getD (x20.toNat) (List.replicate 32 (0:Int))) true))
 none)
 (rec (IntKind.wrap .i64 (x20+(1:Int))) G1 C8))
 none)
 (ke0 G1 C8))
def N7(ke0:B5→T11→Q32)(a0:T2)(a1:B5):Nat→Int→B5→T11→Q32
 |0=>fun _ _ _=>none
 |n+1=>S3 (N7 ke0 a0 a1 n) ke0 a0 a1
def a0d(a0:T2)(a1:B5):Q32:=
 (N7 (fun G1 C8=>(H4 (fun G1=>(some G1)) a0 FUEL G1 C8 (0:Int))) a0 a1 FUEL (0:Int) [] [])
def b1v(k:Nat)(K:Ex→St→Q32)(n:Nat)(a0:T2)(E4:Int)(x46:Int)(a5y:B5)(x47:Int)(G1:B5)(C8:T11):Q32:=A9j (F7 k) 0 (A0Z (F7 k) (A7s (F7 k) 8) 0 142 (sub a2V [1,1,1,1,0,1,0,0,1,0,0,1,1,0,1,0,0])) a7T K n (b7x a0 E4 x46 a5y x47 G1 C8)
theorem b5A(k:Nat)(K:Ex→St→Q32)(n:Nat)(a0:T2)(E4:Int)(G1:B5)(C8:T11):((B4x 4 (B4x 3 (B5Q (A0Z (F7 k) (A7s (F7 k) 8) 0 142 (sub a2V [1,1,1,1,0,1,0,0,1,1])) (B2m (F7 k) 0 a1q (A9j (F7 k) 0 (A0Z (F7 k) (A7s (F7 k) 8) 0 142 (sub a2V [1,1,1,1,0,1,0,0])) a1q K n) K)))) (.exit 4) (a6s a0 E4 G1 C8):Q32)=
 ((A9j (F7 k) 0 (A0Z (F7 k) (A7s (F7 k) 8) 0 142 (sub a2V [1,1,1,1,0,1,0,0])) a1q K n (a8L a0 G1 C8 (IntKind.wrap .i64 (E4+(1:Int))))):Q32):=by kernel_rfl
theorem b5B(k:Nat)(K:Ex→St→Q32)(n:Nat)(a0:T2)(E4:Int)(x46:Int)(a5y:B5)(x47:Int)(G1:B5)(C8:T11):(b1v k K (n+1) a0 E4 x46 a5y x47 G1 C8:Q32)=S4 ((fun x46 a5y x47 G1 C8=>b1v k K n a0 E4 x46 a5y x47 G1 C8)) (fun G1 C8=>K (.exit 4) (a6s a0 E4 G1 C8)) a0 E4 x46 a5y x47 G1 C8:=by kernel_rfl
theorem b9A(K:Ex→St→Q32)(a0:T2)(E4:Int):∀(n:Nat) (x46:Int) (a5y:B5) (x47:Int) (G1:B5) (C8:T11),(b1v FUEL K n a0 E4 x46 a5y x47 G1 C8:Q32)=N8 (fun G1 C8=>K (.exit 4) (a6s a0 E4 G1 C8)) a0 E4 n x46 a5y x47 G1 C8:=by
 intro n
 induction n with
 |zero=>intros; rfl
 |succ n ih=>
  intro x46 a5y x47 G1 C8
  exact(b5B FUEL K n a0 E4 x46 a5y x47 G1 C8).trans (congrArg (fun f=>S4 f (fun G1 C8=>K (.exit 4) (a6s a0 E4 G1 C8)) a0 E4 x46 a5y x47 G1 C8) (funext fun x46=>funext fun a5y=>funext fun x47=>funext fun G1=>funext fun C8=>ih x46 a5y x47 G1 C8))
def b7w(k:Nat)(K:Ex→St→Q32)(n:Nat)(a0:T2)(G1:B5)(C8:T11)(E4:Int):Q32:=A9j (F7 k) 0 (A0Z (F7 k) (A7s (F7 k) 8) 0 142 (sub a2V [1,1,1,1,0,1,0,0])) a1q K n (a8L a0 G1 C8 E4)
theorem b5z(k:Nat)(K:Ex→St→Q32)(n:Nat)(a0:T2)(G1:B5)(C8:T11)(E4:Int):(b7w k K (n+1) a0 G1 C8 E4:Q32)=
 ((cond (decide (E4<(G1.length:Int)))
 (cond ((decide ((0:Int)≤E4))&&(decide (E4<(G1.length:Int))))
 (A1w (a0k a0 (G1.getD (E4.toNat) (List.replicate 32 (0:Int)))) fun(b3:(T9×Bool))=>(cond b3.2
 (A1w (a0a b3.1) fun(b4:B5)=>(A9j (F7 k) 0 (A0Z (F7 k) (A7s (F7 k) 8) 0 142 (sub a2V [1,1,1,1,0,1,0,0,1,0,0,1,1,0,1,0,0])) a7T (B4x 4 (B4x 3 (B5Q (A0Z (F7 k) (A7s (F7 k) 8) 0 142 (sub a2V [1,1,1,1,0,1,0,0,1,1])) (B2m (F7 k) 0 a1q (A9j (F7 k) 0 (A0Z (F7 k) (A7s (F7 k) 8) 0 142 (sub a2V [1,1,1,1,0,1,0,0])) a1q K n) K)))) k (b7x a0 E4 (b4.length:Int) b4 (0:Int) G1 C8)))
 (A9j (F7 k) 0 (A0Z (F7 k) (A7s (F7 k) 8) 0 142 (sub a2V [1,1,1,1,0,1,0,0])) a1q K n (a8L a0 G1 C8 (IntKind.wrap .i64 (E4+(1:Int)))))))
 none)
 (K (.exit 2) (a9B G1))):Q32):=by kernel_rfl
theorem b5y(k:Nat)(G1:B5):((B4x 2 (B5Q (A0Z (F7 k) (A7s (F7 k) 8) 0 142 (sub a2V [1,1,1,1,1])) (B4C (F7 k) a9A M7))) (.exit 2) (a9B G1):Q32)=
 ((some G1):Q32):=by kernel_rfl
theorem b9z(K:Ex→St→Q32)(a0:T2):∀(n:Nat) (G1:B5) (C8:T11) (E4:Int),(b7w FUEL K n a0 G1 C8 E4:Q32)=H4 (fun G1=>K (.exit 2) (a9B G1)) a0 n G1 C8 E4:=by
 intro n
 induction n with
 |zero=>intros; rfl
 |succ n ih=>
  intro G1 C8 E4
  exact(b5z FUEL K n a0 G1 C8 E4).trans (B5U (B5U (B5S (fun b3=>B5U (B5S (fun b4=>(b9A _ a0 E4 FUEL (b4.length:Int) b4 (0:Int) G1 C8).trans (congrArg (fun e0=>N8 e0 a0 E4 FUEL (b4.length:Int) b4 (0:Int) G1 C8) (funext fun G1=>funext fun C8=>(b5A FUEL K n a0 E4 G1 C8).trans (ih G1 C8 (IntKind.wrap .i64 (E4+(1:Int)))))))) (ih G1 C8 (IntKind.wrap .i64 (E4+(1:Int)))))) (rfl)) (rfl))
def b1u(k:Nat)(K:Ex→St→Q32)(n:Nat)(a0:T2)(a1:B5)(x20:Int)(G1:B5)(C8:T11):Q32:=A9j (F7 k) 0 (A0Z (F7 k) (A7s (F7 k) 8) 0 142 (sub a2V [1,1,1,0,1,0,0])) a7S K n (b7v a0 a1 x20 G1 C8)
theorem b5w(k:Nat)(a0:T2)(G1:B5)(C8:T11):((B4x 0 (B5Q (A0Z (F7 k) (A7s (F7 k) 8) 0 142 (sub a2V [1,1,1,1])) (B4C (F7 k) a9A M7))) (.exit 0) (a6r a0 G1 C8):Q32)=
 ((A9j (F7 k) 0 (A0Z (F7 k) (A7s (F7 k) 8) 0 142 (sub a2V [1,1,1,1,0,1,0,0])) a1q (B4x 2 (B5Q (A0Z (F7 k) (A7s (F7 k) 8) 0 142 (sub a2V [1,1,1,1,1])) (B4C (F7 k) a9A M7))) k (a8L a0 G1 C8 (0:Int))):Q32):=by kernel_rfl
theorem b5x(k:Nat)(K:Ex→St→Q32)(n:Nat)(a0:T2)(a1:B5)(x20:Int)(G1:B5)(C8:T11):(b1u k K (n+1) a0 a1 x20 G1 C8:Q32)=S3 ((fun x20 G1 C8=>b1u k K n a0 a1 x20 G1 C8)) (fun G1 C8=>K (.exit 0) (a6r a0 G1 C8)) a0 a1 x20 G1 C8:=by kernel_rfl
theorem b9y(K:Ex→St→Q32)(a0:T2)(a1:B5):∀(n:Nat) (x20:Int) (G1:B5) (C8:T11),(b1u FUEL K n a0 a1 x20 G1 C8:Q32)=N7 (fun G1 C8=>K (.exit 0) (a6r a0 G1 C8)) a0 a1 n x20 G1 C8:=by
 intro n
 induction n with
 |zero=>intros; rfl
 |succ n ih=>
  intro x20 G1 C8
  exact(b5x FUEL K n a0 a1 x20 G1 C8).trans (congrArg (fun f=>S3 f (fun G1 C8=>K (.exit 0) (a6r a0 G1 C8)) a0 a1 x20 G1 C8) (funext fun x20=>funext fun G1=>funext fun C8=>ih x20 G1 C8))
theorem c5G(k:Nat)(a0:T2)(a1:B5):fnK (F7 k) 8 142 a9A M7 [.pv (.ref K1) a0,.pv K22 a1]=
 ((A9j (F7 k) 0 (A0Z (F7 k) (A7s (F7 k) 8) 0 142 (sub a2V [1,1,1,0,1,0,0])) a7S (B4x 0 (B5Q (A0Z (F7 k) (A7s (F7 k) 8) 0 142 (sub a2V [1,1,1,1])) (B4C (F7 k) a9A M7))) k (b7v a0 a1 (0:Int) [] [])):Q32):=by kernel_rfl
theorem d1P(a0:T2)(a1:B5):fnK (F7 FUEL) 8 142 a9A M7 [.pv (.ref K1) a0,.pv K22 a1]=a0d a0 a1:=
 (c5G FUEL a0 a1).trans ((b9y _ a0 a1 FUEL (0:Int) [] []).trans (congrArg (fun e0=>N7 e0 a0 a1 FUEL (0:Int) [] []) (funext fun G1=>funext fun C8=>(b5w FUEL a0 G1 C8).trans ((b9z _ a0 FUEL G1 C8 (0:Int)).trans (congrArg (fun e0=>H4 e0 a0 FUEL G1 C8 (0:Int)) (funext fun G1=>(b5y FUEL G1).trans (rfl)))))))
def c2n:Con:={ps:=(.pair (.ref K1) K18),sh:=M7,raw:=fun x=>a0d x.1 x.2.1}
theorem c5F:A8C D8 142 c2n:=B5n (c8Y FUEL) (depth:=8) d5b fun x y h=>(d1P x.1 x.2.1).trans h
def d3b(k:Nat):Cx:=y7 [] [(93,b2E)] [] [] [] k [] false
theorem d3c(k:Nat):A9E D8 (d3b k):=C4 ⟨b2d,C5⟩ C5 C5 C5
abbrev a4q:List Sh:=[.pl .bool]
abbrev Q31:Type:=Option (A2K a4q)
def a0l(a0:T2)(a1:A7):Q31:=
 (A1w (Y5 a0 a1) fun(b1:T18)=>(some b1.2))
theorem d5U(a0:T2)(a1:A7):fnK (d3b FUEL) 8 48 d7d a4q [.pv (.ref K1) a0,.pv D9 a1]=a0l a0 a1:=by kernel_rfl
def c0z:Con:={ps:=(.pair (.ref K1) K19),sh:=a4q,raw:=fun x=>a0l x.1 x.2.1}
theorem b8g:A8C D8 48 c0z:=B5n (d3c FUEL) (depth:=8) d8C fun x y h=>(d5U x.1 x.2.1).trans h
def a7D:Cut:={keep:=[0,1,7,8],stk:=[[0,1],[]],ids:=[30,50,90],own:=[],outs:=[(0,[4],[30,50,90]),(1,[],[30,50,90])]}
def a7E:Cut:={keep:=[0,1,5,6],stk:=[[]],ids:=[30,50,90],own:=[],outs:=[(1,[0,5],[90])]}
def D2(k:Nat):Cx:=y7 [(141,a4k),(143,d1Q),(175,a6H)] [(48,c0z),(54,c0D),(142,c2n)] [] [] [(1090011014100100175,[(0,a7D)]),(10900110141,[(0,a7E)])] k [] false
theorem c8D(k:Nat):A9E D8 (D2 k):=C4 ⟨b8g,b8i,c5F,C5⟩ C5 C5 ⟨c7s,d5c,c7w,C5⟩
abbrev G6:List Sh:=[.own 32 (.arr 32 k0B)]
abbrev Q33:Type:=Option (A2K G6)
def b7g(a0:T2)(a2:Bool)(x7:Int)(n7:B5)(x8:Int):St:={env:=(.sl 90 D9:: .fn 143 (.pr (.ptr 30 (.opt K1) []) (.pr (.ptr 50 .bool []) (.pv .unit ())))::(dd 5 (.pv E8 x7:: .pv E8 x8::(dd 10 [])))),stk:=[(.sl 90 D9:: .fn 143 (.pr (.ptr 30 (.opt K1) []) (.pr (.ptr 50 .bool []) (.pv .unit ())))::(dd 40 [])),(dd 13 [])],heap:=[(30,.var (.opt K1) (.pv (.opt K1) (some a0))),(50,.var .bool (.pv .bool a2)),(90,.arr 32 D9 n7)]}
def a8I(a0:T2)(a2:Bool)(n7:B5)(x4:Int):St:={env:=(dd 4 (.pv E8 x4::(dd 14 []))),stk:=[(.sl 90 D9:: .fn 143 (.pr (.ptr 30 (.opt K1) []) (.pr (.ptr 50 .bool []) (.pv .unit ())))::(dd 40 [])),(dd 13 [])],heap:=[(30,.var (.opt K1) (.pv (.opt K1) (some a0))),(50,.var .bool (.pv .bool a2)),(90,.arr 32 D9 n7)]}
def a6b(a0:T2)(a2:Bool)(n7:B5):St:={env:=(dd 19 []),stk:=[(.sl 90 D9:: .fn 143 (.pr (.ptr 30 (.opt K1) []) (.pr (.ptr 50 .bool []) (.pv .unit ())))::(dd 40 [])),(dd 13 [])],heap:=[(30,.var (.opt K1) (.pv (.opt K1) (some a0))),(50,.var .bool (.pv .bool a2)),(90,.arr 32 D9 n7)]}
def b7h(a0:T2)(a2:Bool)(x5:Int)(x6:Int)(n7:B5):St:={env:=(.sl 90 D9:: .fn 143 (.pr (.ptr 30 (.opt K1) []) (.pr (.ptr 50 .bool []) (.pv .unit ())))::(dd 3 (.pv E8 x5:: .pv E8 x6::(dd 35 [])))),stk:=[(dd 13 [])],heap:=[(30,.var (.opt K1) (.pv (.opt K1) (some a0))),(50,.var .bool (.pv .bool a2)),(90,.arr 32 D9 n7)]}
def a6c(a0:T2)(a2:Bool)(x5:Int)(n7:B5):St:={env:=(.sl 90 D9::(dd 4 (.pv E8 x5::(dd 36 [])))),stk:=[(dd 13 [])],heap:=[(30,.var (.opt K1) (.pv (.opt K1) (some a0))),(50,.var .bool (.pv .bool a2)),(90,.arr 32 D9 n7)]}
def O3(rec:Int→Int→B5→Q33)(ke0:Int→B5→Q33)(a0:T2)(a2:Bool)(x5:Int)(x6:Int)(n7:B5):Q33:=
 (cond (decide (x6<(n7.length:Int)))
 (cond ((decide ((0:Int)≤x6))&&(decide (x6<(n7.length:Int))))
 (A1w (a0l a0 (n7.getD (x6.toNat) (List.replicate 32 (0:Int)))) fun(b6:Bool)=>(cond (!(!(decide (b6=a2))))
 (cond ((decide ((0:Int)≤x5))&&(decide (x5<(n7.length:Int))))
 (rec (IntKind.wrap .i64 (x5+(1:Int))) (IntKind.wrap .i64 (x6+(1:Int))) (n7.set (x5.toNat) (n7.getD (x6.toNat) (List.replicate 32 (0:Int)))))
 none)
 (rec x5 (IntKind.wrap .i64 (x6+(1:Int))) n7)))
 none)
 (ke0 x5 n7))
def Z7(ke0:Int→B5→Q33)(a0:T2)(a2:Bool):Nat→Int→Int→B5→Q33
 |0=>fun _ _ _=>none
 |n+1=>O3 (Z7 ke0 a0 a2 n) ke0 a0 a2
def O2(rec:Int→B5→Int→Q33)(kr:B5→Int→Q33)(ke0:B5→Q33)(a0:T2)(a2:Bool)(x7:Int)(n7:B5)(x8:Int):Q33:=
 (cond (decide (x8<x7))
 (cond ((decide ((0:Int)≤x8))&&(decide (x8<(n7.length:Int))))
 (A1w (a0l a0 (n7.getD (x8.toNat) (List.replicate 32 (0:Int)))) fun(b3:Bool)=>(cond (!(decide (b3=a2)))
 (kr n7 x8)
 (rec x7 n7 (IntKind.wrap .i64 (x8+(1:Int))))))
 none)
 (ke0 n7))
def M4(kr:B5→Int→Q33)(ke0:B5→Q33)(a0:T2)(a2:Bool):Nat→Int→B5→Int→Q33
 |0=>fun _ _ _=>none
 |n+1=>O2 (M4 kr ke0 a0 a2 n) kr ke0 a0 a2
def l8(a0:T2)(a1:B5)(a2:Bool):Q33:=
 (A1w (a0d a0 a1) fun(b1:B5)=>(M4 (fun n7 x4=>(cond (decide (x4=(-1:Int)))
 (A1w (J2 n7) fun(b4:B5)=>(some b4))
 (Z7 (fun x5 n7=>(cond ((decide ((0:Int)≤x5))&&(decide (x5≤(n7.length:Int))))
 (cond ((decide ((0:Int)≤x5))&&(decide (x5≤((A6D n7 (x5.toNat) (List.take ((n7.length)-(x5.toNat)) (List.replicate ((n7.length)-(x5.toNat)) (List.replicate 32 (0:Int))))).length:Int))))
 (A1w (J2 (List.take (x5.toNat) (A6D n7 (x5.toNat) (List.take ((n7.length)-(x5.toNat)) (List.replicate ((n7.length)-(x5.toNat)) (List.replicate 32 (0:Int))))))) fun(b7:B5)=>(some b7))
 none)
 none)) a0 a2 FUEL x4 (IntKind.wrap .i64 (x4+(1:Int))) n7))) (fun n7=>(A1w (J2 n7) fun(b5:B5)=>(some b5))) a0 a2 FUEL (b1.length:Int) b1 (0:Int)))
def b1f(k:Nat)(K:Ex→St→Q33)(n:Nat)(a0:T2)(a2:Bool)(x5:Int)(x6:Int)(n7:B5):Q33:=A9j (D2 k) 1 (A0Z (D2 k) (A7s (D2 k) 7) 1 10900110141 (sub a1w [1,1,1,0,1,0,0])) a7E K n (b7h a0 a2 x5 x6 n7)
theorem b4U(k:Nat)(a0:T2)(a2:Bool)(x5:Int)(n7:B5):((B4x 0 (B5Q (A0Z (D2 k) (A7s (D2 k) 7) 1 10900110141 (sub a1w [1,1,1,1])) (B4P (D2 k) a4k (some 11) 0 (B5J (D2 k) (A7s (D2 k) 8) 0 109 false (B5P (sub a5f [1,0])) 4 (B5Q (A0Z (D2 k) (A7s (D2 k) 8) 0 109 (sub a5f [1,1])) (B4C (D2 k) a7C G6)))))) (.exit 0) (a6c a0 a2 x5 n7):Q33)=
 ((cond ((decide ((0:Int)≤x5))&&(decide (x5≤(n7.length:Int))))
 (cond ((decide ((0:Int)≤x5))&&(decide (x5≤((A6D n7 (x5.toNat) (List.take ((n7.length)-(x5.toNat)) (List.replicate ((n7.length)-(x5.toNat)) (List.replicate 32 (0:Int))))).length:Int))))
 (A1w (J2 (List.take (x5.toNat) (A6D n7 (x5.toNat) (List.take ((n7.length)-(x5.toNat)) (List.replicate ((n7.length)-(x5.toNat)) (List.replicate 32 (0:Int))))))) fun(b7:B5)=>(some b7))
 none)
 none):Q33):=by kernel_rfl
theorem b4V(k:Nat)(K:Ex→St→Q33)(n:Nat)(a0:T2)(a2:Bool)(x5:Int)(x6:Int)(n7:B5):(b1f k K (n+1) a0 a2 x5 x6 n7:Q33)=O3 ((fun x5 x6 n7=>b1f k K n a0 a2 x5 x6 n7)) (fun x5 n7=>K (.exit 0) (a6c a0 a2 x5 n7)) a0 a2 x5 x6 n7:=by kernel_rfl
theorem b9k(K:Ex→St→Q33)(a0:T2)(a2:Bool):∀(n:Nat) (x5:Int) (x6:Int) (n7:B5),(b1f FUEL K n a0 a2 x5 x6 n7:Q33)=Z7 (fun x5 n7=>K (.exit 0) (a6c a0 a2 x5 n7)) a0 a2 n x5 x6 n7:=by
 intro n
 induction n with
 |zero=>intros; rfl
 |succ n ih=>
  intro x5 x6 n7
  exact(b4V FUEL K n a0 a2 x5 x6 n7).trans (congrArg (fun f=>O3 f (fun x5 n7=>K (.exit 0) (a6c a0 a2 x5 n7)) a0 a2 x5 x6 n7) (funext fun x5=>funext fun x6=>funext fun n7=>ih x5 x6 n7))
def b1e(k:Nat)(K:Ex→St→Q33)(n:Nat)(a0:T2)(a2:Bool)(x7:Int)(n7:B5)(x8:Int):Q33:=A9j (D2 k) 2 (A0Z (D2 k) (A7s (D2 k) 6) 2 1090011014100100175 (sub a5g [1,0,1,0,0])) a7D K n (b7g a0 a2 x7 n7 x8)
theorem c1S(k:Nat)(a0:T2)(a2:Bool)(n7:B5)(x4:Int):((B4x 0 (B5Q (A0Z (D2 k) (A7s (D2 k) 6) 2 1090011014100100175 (sub a5g [1,1])) (B4P (D2 k) a6H (some 10) 1 (B5J (D2 k) (A7s (D2 k) 7) 1 10900110141 false (B5P (sub a1w [1,0])) 2 (B5Q (A0Z (D2 k) (A7s (D2 k) 7) 1 10900110141 (sub a1w [1,1])) (B4P (D2 k) a4k (some 11) 0 (B5J (D2 k) (A7s (D2 k) 8) 0 109 false (B5P (sub a5f [1,0])) 4 (B5Q (A0Z (D2 k) (A7s (D2 k) 8) 0 109 (sub a5f [1,1])) (B4C (D2 k) a7C G6))))))))) .ret (a8I a0 a2 n7 x4):Q33)=
 ((cond (decide (x4=(-1:Int)))
 (A1w (J2 n7) fun(b4:B5)=>(some b4))
 (A9j (D2 k) 1 (A0Z (D2 k) (A7s (D2 k) 7) 1 10900110141 (sub a1w [1,1,1,0,1,0,0])) a7E (B4x 0 (B5Q (A0Z (D2 k) (A7s (D2 k) 7) 1 10900110141 (sub a1w [1,1,1,1])) (B4P (D2 k) a4k (some 11) 0 (B5J (D2 k) (A7s (D2 k) 8) 0 109 false (B5P (sub a5f [1,0])) 4 (B5Q (A0Z (D2 k) (A7s (D2 k) 8) 0 109 (sub a5f [1,1])) (B4C (D2 k) a7C G6)))))) k (b7h a0 a2 x4 (IntKind.wrap .i64 (x4+(1:Int))) n7))):Q33):=by kernel_rfl
theorem b4S(k:Nat)(a0:T2)(a2:Bool)(n7:B5):((B4x 0 (B5Q (A0Z (D2 k) (A7s (D2 k) 6) 2 1090011014100100175 (sub a5g [1,1])) (B4P (D2 k) a6H (some 10) 1 (B5J (D2 k) (A7s (D2 k) 7) 1 10900110141 false (B5P (sub a1w [1,0])) 2 (B5Q (A0Z (D2 k) (A7s (D2 k) 7) 1 10900110141 (sub a1w [1,1])) (B4P (D2 k) a4k (some 11) 0 (B5J (D2 k) (A7s (D2 k) 8) 0 109 false (B5P (sub a5f [1,0])) 4 (B5Q (A0Z (D2 k) (A7s (D2 k) 8) 0 109 (sub a5f [1,1])) (B4C (D2 k) a7C G6))))))))) (.exit 0) (a6b a0 a2 n7):Q33)=
 ((A1w (J2 n7) fun(b5:B5)=>(some b5)):Q33):=by kernel_rfl
theorem b4T(k:Nat)(K:Ex→St→Q33)(n:Nat)(a0:T2)(a2:Bool)(x7:Int)(n7:B5)(x8:Int):(b1e k K (n+1) a0 a2 x7 n7 x8:Q33)=O2 ((fun x7 n7 x8=>b1e k K n a0 a2 x7 n7 x8)) (fun n7 x4=>K .ret (a8I a0 a2 n7 x4)) (fun n7=>K (.exit 0) (a6b a0 a2 n7)) a0 a2 x7 n7 x8:=by kernel_rfl
theorem b9j(K:Ex→St→Q33)(a0:T2)(a2:Bool):∀(n:Nat) (x7:Int) (n7:B5) (x8:Int),(b1e FUEL K n a0 a2 x7 n7 x8:Q33)=M4 (fun n7 x4=>K .ret (a8I a0 a2 n7 x4)) (fun n7=>K (.exit 0) (a6b a0 a2 n7)) a0 a2 n x7 n7 x8:=by
 intro n
 induction n with
 |zero=>intros; rfl
 |succ n ih=>
  intro x7 n7 x8
  exact(b4T FUEL K n a0 a2 x7 n7 x8).trans (congrArg (fun f=>O2 f (fun n7 x4=>K .ret (a8I a0 a2 n7 x4)) (fun n7=>K (.exit 0) (a6b a0 a2 n7)) a0 a2 x7 n7 x8) (funext fun x7=>funext fun n7=>funext fun x8=>ih x7 n7 x8))
theorem c5a(k:Nat)(a0:T2)(a1:B5)(a2:Bool):fnK (D2 k) 8 109 a7C G6 [.pv (.ref K1) a0,.pv K22 a1,.pv .bool a2]=
 ((A1w (a0d a0 a1) fun(b1:B5)=>(A9j (D2 k) 2 (A0Z (D2 k) (A7s (D2 k) 6) 2 1090011014100100175 (sub a5g [1,0,1,0,0])) a7D (B4x 0 (B5Q (A0Z (D2 k) (A7s (D2 k) 6) 2 1090011014100100175 (sub a5g [1,1])) (B4P (D2 k) a6H (some 10) 1 (B5J (D2 k) (A7s (D2 k) 7) 1 10900110141 false (B5P (sub a1w [1,0])) 2 (B5Q (A0Z (D2 k) (A7s (D2 k) 7) 1 10900110141 (sub a1w [1,1])) (B4P (D2 k) a4k (some 11) 0 (B5J (D2 k) (A7s (D2 k) 8) 0 109 false (B5P (sub a5f [1,0])) 4 (B5Q (A0Z (D2 k) (A7s (D2 k) 8) 0 109 (sub a5f [1,1])) (B4C (D2 k) a7C G6))))))))) k (b7g a0 a2 (b1.length:Int) b1 (0:Int)))):Q33):=by kernel_rfl
theorem d1l(a0:T2)(a1:B5)(a2:Bool):fnK (D2 FUEL) 8 109 a7C G6 [.pv (.ref K1) a0,.pv K22 a1,.pv .bool a2]=l8 a0 a1 a2:=
 (c5a FUEL a0 a1 a2).trans (B5S (fun b1=>(b9j _ a0 a2 FUEL (b1.length:Int) b1 (0:Int)).trans (B5V (fun e0 e1=>M4 e0 e1 a0 a2 FUEL (b1.length:Int) b1 (0:Int)) (funext fun n7=>funext fun x4=>(c1S FUEL a0 a2 n7 x4).trans (B5U (rfl) ((b9k _ a0 a2 FUEL x4 (IntKind.wrap .i64 (x4+(1:Int))) n7).trans (congrArg (fun e0=>Z7 e0 a0 a2 FUEL x4 (IntKind.wrap .i64 (x4+(1:Int))) n7) (funext fun x5=>funext fun n7=>(b4U FUEL a0 a2 x5 n7).trans (rfl)))))) (funext fun n7=>(b4S FUEL a0 a2 n7).trans (rfl)))))
def c1R:Con:={ps:=(.pair (.ref K1) (.pair K22 (.pair .bool .unit))),sh:=G6,raw:=fun x=>l8 x.1 x.2.1 x.2.2.1}
theorem c4Z:A8C D8 109 c1R:=B5n (c8D FUEL) (depth:=8) d4E fun x y h=>(d1l x.1 x.2.1 x.2.2.1).trans h
def c7j(k:Nat):Cx:=y7 [] [] [] [] [] k [] false
theorem c8E(k:Nat):A9E D8 (c7j k):=C4 C5 C5 C5 C5
abbrev a2T:List Sh:=[.pl (.int .i64)]
abbrev Q37:Type:=Option (A2K a2T)
def a1s(a0:B5):Q37:=
 (some (a0.length:Int))
theorem d1n(a0:B5):fnK (c7j FUEL) 8 110 d1m a2T [.pv K22 a0]=a1s a0:=by kernel_rfl
def c1T:Con:={ps:=K18,sh:=a2T,raw:=fun x=>a1s x.1}
theorem c5b:A8C D8 110 c1T:=B5n (c8E FUEL) (depth:=8) d4F fun x y h=>(d1n x.1).trans h
def d3B(k:Nat):Cx:=y7 [] [(109,c1R),(110,c1T)] [] [] [] k [] false
theorem d3C(k:Nat):A9E D8 (d3B k):=C4 ⟨c4Z,c5b,C5⟩ C5 C5 C5
abbrev a3H:List Sh:=[.own 32 (.arr 32 k0B)]
abbrev Q35:Type:=Option (A2K a3H)
def a0e(a0:T2)(a1:B5)(a2:Int):Q35:=
 (A1w (l8 a0 a1 false) fun(b1:B5)=>(A1w (a1s b1) fun(b2:Int)=>(cond ((decide ((0:Int)≤(min a2 b2)))&&(decide ((min a2 b2)≤(b1.length:Int))))
 (some (List.take ((min a2 b2).toNat) b1))
 none)))
theorem d6j(a0:T2)(a1:B5)(a2:Int):fnK (d3B FUEL) 8 71 d7n a3H [.pv (.ref K1) a0,.pv K22 a1,.pv E8 a2]=a0e a0 a1 a2:=by kernel_rfl
def c7Z:Con:={ps:=(.pair (.ref K1) K10),sh:=a3H,raw:=fun x=>a0e x.1 x.2.1 x.2.2.1}
theorem d0g:A8C D8 71 c7Z:=B5n (d3C FUEL) (depth:=8) d8V fun x y h=>(d6j x.1 x.2.1 x.2.2.1).trans h
def d3O(k:Nat):Cx:=y7 [] [] [] [] [] k [] false
theorem d3P(k:Nat):A9E D8 (d3O k):=C4 C5 C5 C5 C5
abbrev a1j:List Sh:=[.own 5 (.int .u8)]
abbrev Q64:Type:=Option (A2K a1j)
def v8(a0:A7):Q64:=
 (cond (List.isEmpty a0) (A7q (some []) (cond (decide ((0+a0.length)*1≤140737488355328)&&decide (0+a0.length≤9223372036854775807))
 (some ([]++a0))
 none)) (cond (decide ((0+a0.length)*1≤140737488355328)&&decide (0+a0.length≤9223372036854775807))
 (some ([]++a0))
 none))
theorem d6s(a0:A7):fnK (d3O FUEL) 8 94 d7s a1j [.pv K26 a0]=v8 a0:=by kernel_rfl
def c8h:Con:={ps:=K20,sh:=a1j,raw:=fun x=>v8 x.1}
theorem d0v:A8C D8 94 c8h:=B5n (d3P FUEL) (depth:=8) d9i fun x y h=>(d6s x.1).trans h
def d2X(k:Nat):Cx:=y7 [] [(94,c8h)] [] [] [] k [] false
theorem d2Y(k:Nat):A9E D8 (d2X k):=C4 ⟨d0v,C5⟩ C5 C5 C5
abbrev a3p:List Sh:=[.pr (.pl (.int .u8)) (.pr (.own 5 (.int .u8)) (.pl .unit))]
abbrev Q3:Type:=Option (A2K a3p)
def o6(a0:T9):Q3:=
 (A1w (v8 a0.2.1) fun(b1:A7)=>(some (a0.1,(b1,()))))
theorem d5S(a0:T9):fnK (d2X FUEL) 8 46 d7b a3p [.pv o4 a0]=o6 a0:=by kernel_rfl
def c0x:Con:={ps:=K8,sh:=a3p,raw:=fun x=>o6 x.1}
theorem b8e:A8C D8 46 c0x:=B5n (d2Y FUEL) (depth:=8) d8A fun x y h=>(d5S x.1).trans h
def a7b:Cut:={keep:=[2,3,10,11,12],stk:=[],ids:=[20,30,80005],own:=[],outs:=[(1,[2,3],[20,30,80005])],fown:=[(30,[.fld 0],80005,24)]}
def a0N(k:Nat):Cx:=y7 [] [(46,c0x)] [] [] [(72,[(0,a7b)])] k dps false
theorem c6G(k:Nat):A9E D8 (a0N k):=C4 ⟨b8e,C5⟩ C5 C5 C5
abbrev Y6:List Sh:=[.pr (.tre 29 (.pr (.pl (.int .u8)) (.pr (.sl 5 (.pl (.int .u8))) (.pl .unit)))) (.pl .unit)]
abbrev Q34:Type:=Option (A2K Y6)
def b4h(a0:T2)(x12:Int)(E6:T6):St:={env:=(.dead:: .dead:: .ptr 20 K4 []:: .ptr 30 K4 []::(dd 6 (.pv K12 a0.2.1:: .pv E8 (a0.2.1.length:Int):: .pv E8 x12::(dd 12 [])))),stk:=[],heap:=[(20,.var K4 (.pr (.nilsl) (.pv .unit ()))),(30,.var K4 (.pr (.inn 80005 [] o4) (.pv .unit ()))),(80005,.tre 29 (.pr (.pl (.int .u8)) (.pr (.sl 5 (.pl (.int .u8))) (.pl .unit))) E6)]}
def a5F(E6:T6):St:={env:=(.dead:: .dead:: .ptr 20 K4 []:: .ptr 30 K4 []::(dd 21 [])),stk:=[],heap:=[(20,.var K4 (.pr (.nilsl) (.pv .unit ()))),(30,.var K4 (.pr (.inn 80005 [] o4) (.pv .unit ()))),(80005,.tre 29 (.pr (.pl (.int .u8)) (.pr (.sl 5 (.pl (.int .u8))) (.pl .unit))) E6)]}
def O4(rec:Int→T6→Q34)(ke0:T6→Q34)(a0:T2)(x12:Int)(E6:T6):Q34:=
 (cond (decide (x12<(a0.2.1.length:Int)))
 (cond ((decide ((0:Int)≤x12))&&(decide (x12<(a0.2.1.length:Int))))
 (A1w (o6 (a0.2.1.getD (x12.toNat) ((0:Int),([],())))) fun(b2:T9)=>(cond (decide ((E6.length+1)*32≤140737488355328)&&decide (E6.length+1≤9223372036854775807))
 (rec (IntKind.wrap .i64 (x12+(1:Int))) (E6++[(b2.1,(b2.2.1,()))]))
 none))
 none)
 (ke0 E6))
def Z8(ke0:T6→Q34)(a0:T2):Nat→Int→T6→Q34
 |0=>fun _ _=>none
 |n+1=>O4 (Z8 ke0 a0 n) ke0 a0
def l9(a0:T2):Q34:=
 (Z8 (fun E6=>(some (E6,()))) a0 FUEL (0:Int) [])
def a9Z(k:Nat)(K:Ex→St→Q34)(n:Nat)(a0:T2)(x12:Int)(E6:T6):Q34:=A9j (a0N k) 0 (A0Z (a0N k) (A7s (a0N k) 8) 0 72 (sub c3N [1,1,0,1,0,0])) a7b K n (b4h a0 x12 E6)
theorem b4f(k:Nat)(E6:T6):((B4x 0 (B5Q (A0Z (a0N k) (A7s (a0N k) 8) 0 72 (sub c3N [1,1,1])) (B4C (a0N k) c3Q Y6))) (.exit 0) (a5F E6):Q34)=
 ((some (E6,())):Q34):=by kernel_rfl
theorem b4g(k:Nat)(K:Ex→St→Q34)(n:Nat)(a0:T2)(x12:Int)(E6:T6):(a9Z k K (n+1) a0 x12 E6:Q34)=O4 ((fun x12 E6=>a9Z k K n a0 x12 E6)) (fun E6=>K (.exit 0) (a5F E6)) a0 x12 E6:=by kernel_rfl
theorem b6G(K:Ex→St→Q34)(a0:T2):∀(n:Nat) (x12:Int) (E6:T6),(a9Z FUEL K n a0 x12 E6:Q34)=Z8 (fun E6=>K (.exit 0) (a5F E6)) a0 n x12 E6:=by
 intro n
 induction n with
 |zero=>intros; rfl
 |succ n ih=>
  intro x12 E6
  exact(b4g FUEL K n a0 x12 E6).trans (congrArg (fun f=>O4 f (fun E6=>K (.exit 0) (a5F E6)) a0 x12 E6) (funext fun x12=>funext fun E6=>ih x12 E6))
theorem c3P(k:Nat)(a0:T2):fnK (a0N k) 8 72 c3Q Y6 [.pv (.ref K1) a0]=
 ((A9j (a0N k) 0 (A0Z (a0N k) (A7s (a0N k) 8) 0 72 (sub c3N [1,1,0,1,0,0])) a7b (B4x 0 (B5Q (A0Z (a0N k) (A7s (a0N k) 8) 0 72 (sub c3N [1,1,1])) (B4C (a0N k) c3Q Y6))) k (b4h a0 (0:Int) [])):Q34):=by kernel_rfl
theorem d0h(a0:T2):fnK (a0N FUEL) 8 72 c3Q Y6 [.pv (.ref K1) a0]=l9 a0:=
 (c3P FUEL a0).trans ((b6G _ a0 FUEL (0:Int) []).trans (congrArg (fun e0=>Z8 e0 a0 FUEL (0:Int) []) (funext fun E6=>(b4f FUEL E6).trans (rfl))))
def b8u:Con:={ps:=(.pair (.ref K1) .unit),sh:=Y6,raw:=fun x=>l9 x.1}
theorem c3O:A8C D8 72 b8u:=B5n (c6G FUEL) (depth:=8) d8W fun x y h=>(d0h x.1).trans h
def b0a:Cut:={keep:=[0,2,7,13,14,15],stk:=[],ids:=[90070],own:=[(7,90070,24)],outs:=[(1,[7],[90070])]}
def a3E(k:Nat):Cx:=y7 [] [(45,c0w),(46,c0x),(112,a7F)] [] [] [(74,[(0,b0a)])] k [] false
theorem d3D(k:Nat):A9E D8 (a3E k):=C4 ⟨b8d,b8e,a6d,C5⟩ C5 C5 C5
abbrev l7:List Sh:=[.own 29 o4]
abbrev Q28:Type:=Option (A2K l7)
def c3V(a0:T2)(a1:B5)(x2:Int)(x15:Int)(A9:T6):St:={env:=(.pv (.ref K1) a0:: .dead:: .pv E8 x2::(dd 4 (.sl 90070 o4::(dd 5 (.pv K22 a1:: .pv E8 (a1.length:Int):: .pv E8 x15::(dd 25 [])))))),stk:=[],heap:=[(90070,.arr 29 o4 A9)]}
def a9d(A9:T6):St:={env:=(dd 7 (.sl 90070 o4::(dd 33 []))),stk:=[],heap:=[(90070,.arr 29 o4 A9)]}
def P3(rec:Int→Int→T6→Q28)(ke0:T6→Q28)(a0:T2)(a1:B5)(x2:Int)(x15:Int)(A9:T6):Q28:=
 (cond (decide (x15<(a1.length:Int)))
 (cond ((decide ((0:Int)≤x15))&&(decide (x15<(a1.length:Int))))
 (A1w (a0k a0 (a1.getD (x15.toNat) (List.replicate 32 (0:Int)))) fun(b4:(T9×Bool))=>(cond (!b4.2)
 (rec x2 (IntKind.wrap .i64 (x15+(1:Int))) A9)
 (A1w (H8 b4.1.2.1) fun(b5:Int)=>(cond (decide ((IntKind.wrap .i64 (x2-b5))<(0:Int)))
 (ke0 A9)
 (A1w (o6 b4.1) fun(b6:T9)=>(cond (decide ((A9.length+1)*32≤140737488355328)&&decide (A9.length+1≤9223372036854775807))
 (rec (IntKind.wrap .i64 (x2-b5)) (IntKind.wrap .i64 (x15+(1:Int))) (A9++[(b6.1,(b6.2.1,()))]))
 none))))))
 none)
 (ke0 A9))
def P2(ke0:T6→Q28)(a0:T2)(a1:B5):Nat→Int→Int→T6→Q28
 |0=>fun _ _ _=>none
 |n+1=>P3 (P2 ke0 a0 a1 n) ke0 a0 a1
def q7(a0:T2)(a1:B5)(a2:Int):Q28:=
 (P2 (fun A9=>(some A9)) a0 a1 FUEL a2 (0:Int) [])
def b4i(k:Nat)(K:Ex→St→Q28)(n:Nat)(a0:T2)(a1:B5)(x2:Int)(x15:Int)(A9:T6):Q28:=A9j (a3E k) 0 (A0Z (a3E k) (A7s (a3E k) 8) 0 74 (sub c3S [1,1,0,1,0,0])) b0a K n (c3V a0 a1 x2 x15 A9)
theorem c0P(k:Nat)(A9:T6):((B4x 0 (B5Q (A0Z (a3E k) (A7s (a3E k) 8) 0 74 (sub c3S [1,1,1])) (B4C (a3E k) c3T l7))) (.exit 0) (a9d A9):Q28)=
 ((some A9):Q28):=by kernel_rfl
theorem c0Q(k:Nat)(K:Ex→St→Q28)(n:Nat)(a0:T2)(a1:B5)(x2:Int)(x15:Int)(A9:T6):(b4i k K (n+1) a0 a1 x2 x15 A9:Q28)=P3 ((fun x2 x15 A9=>b4i k K n a0 a1 x2 x15 A9)) (fun A9=>K (.exit 0) (a9d A9)) a0 a1 x2 x15 A9:=by kernel_rfl
theorem c3U(K:Ex→St→Q28)(a0:T2)(a1:B5):∀(n:Nat) (x2:Int) (x15:Int) (A9:T6),(b4i FUEL K n a0 a1 x2 x15 A9:Q28)=P2 (fun A9=>K (.exit 0) (a9d A9)) a0 a1 n x2 x15 A9:=by
 intro n
 induction n with
 |zero=>intros; rfl
 |succ n ih=>
  intro x2 x15 A9
  exact(c0Q FUEL K n a0 a1 x2 x15 A9).trans (congrArg (fun f=>P3 f (fun A9=>K (.exit 0) (a9d A9)) a0 a1 x2 x15 A9) (funext fun x2=>funext fun x15=>funext fun A9=>ih x2 x15 A9))
theorem d0j(k:Nat)(a0:T2)(a1:B5)(a2:Int):fnK (a3E k) 8 74 c3T l7 [.pv (.ref K1) a0,.pv K22 a1,.pv E8 a2]=
 ((A9j (a3E k) 0 (A0Z (a3E k) (A7s (a3E k) 8) 0 74 (sub c3S [1,1,0,1,0,0])) b0a (B4x 0 (B5Q (A0Z (a3E k) (A7s (a3E k) 8) 0 74 (sub c3S [1,1,1])) (B4C (a3E k) c3T l7))) k (c3V a0 a1 a2 (0:Int) [])):Q28):=by kernel_rfl
theorem d6k(a0:T2)(a1:B5)(a2:Int):fnK (a3E FUEL) 8 74 c3T l7 [.pv (.ref K1) a0,.pv K22 a1,.pv E8 a2]=q7 a0 a1 a2:=
 (d0j FUEL a0 a1 a2).trans ((c3U _ a0 a1 FUEL a2 (0:Int) []).trans (congrArg (fun e0=>P2 e0 a0 a1 FUEL a2 (0:Int) []) (funext fun A9=>(c0P FUEL A9).trans (rfl))))
def c8a:Con:={ps:=(.pair (.ref K1) K10),sh:=l7,raw:=fun x=>q7 x.1 x.2.1 x.2.2.1}
theorem d0i:A8C D8 74 c8a:=B5n (d3D FUEL) (depth:=8) d8Y fun x y h=>(d6k x.1 x.2.1 x.2.2.1).trans h
def a7U:Cut:={keep:=[0,3,7,8],stk:=[],ids:=[30],own:=[],outs:=[(0,[4],[]),(1,[],[])]}
def a1d(k:Nat):Cx:=y7 [] [] [] [] [(144,[(0,a7U)])] k [] false
theorem c8Z(k:Nat):A9E D8 (a1d k):=C4 C5 C5 C5 C5
abbrev G0:List Sh:=[.pl (.int .i64)]
abbrev Q70:Type:=Option (A2K G0)
def b7y(a0:B5)(a1:A7)(x8:Int):St:={env:=(.pv K22 a0:: .dead:: .dead:: .ptr 30 D9 []::(dd 3 (.pv E8 (a0.length:Int):: .pv E8 x8::(dd 10 [])))),stk:=[],heap:=[(30,.var D9 (.pv D9 a1))]}
def a8M(x4:Int):St:={env:=(dd 4 (.pv E8 x4::(dd 14 []))),stk:=[],heap:=[]}
def a6t:St:={env:=(dd 19 []),stk:=[],heap:=[]}
def F6(rec:Int→Q70)(kr:Int→Q70)(ke0:Q70)(a0:B5)(a1:A7)(x8:Int):Q70:=
 (cond (decide (x8<(a0.length:Int)))
 (cond ((decide ((0:Int)≤x8))&&(decide (x8<(a0.length:Int))))
 (cond (eqd (.arr 32 k0B) a1 (a0.getD (x8.toNat) (List.replicate 32 (0:Int))))
 (kr x8)
 (rec (IntKind.wrap .i64 (x8+(1:Int)))))
 none)
 (ke0))
def F5(kr:Int→Q70)(ke0:Q70)(a0:B5)(a1:A7):Nat→Int→Q70
 |0=>fun _=>none
 |n+1=>F6 (F5 kr ke0 a0 a1 n) kr ke0 a0 a1
def P9(a0:B5)(a1:A7):Q70:=
 (F5 (fun x4=>(some x4)) (some (-1:Int)) a0 a1 FUEL (0:Int))
def b1y(k:Nat)(K:Ex→St→Q70)(n:Nat)(a0:B5)(a1:A7)(x8:Int):Q70:=A9j (a1d k) 0 (A0Z (a1d k) (A7s (a1d k) 8) 0 144 (sub b1w [1,0,1,0,0])) a7U K n (b7y a0 a1 x8)
theorem c2p(k:Nat)(x4:Int):((B4x 0 (B5Q (A0Z (a1d k) (A7s (a1d k) 8) 0 144 (sub b1w [1,1])) (B4C (a1d k) b1x G0))) .ret (a8M x4):Q70)=
 ((some x4):Q70):=by kernel_rfl
theorem b5C(k:Nat):((B4x 0 (B5Q (A0Z (a1d k) (A7s (a1d k) 8) 0 144 (sub b1w [1,1])) (B4C (a1d k) b1x G0))) (.exit 0) (a6t):Q70)=
 ((some (-1:Int)):Q70):=by kernel_rfl
theorem b5D(k:Nat)(K:Ex→St→Q70)(n:Nat)(a0:B5)(a1:A7)(x8:Int):(b1y k K (n+1) a0 a1 x8:Q70)=F6 ((fun x8=>b1y k K n a0 a1 x8)) (fun x4=>K .ret (a8M x4)) (K (.exit 0) (a6t)) a0 a1 x8:=by kernel_rfl
theorem b9B(K:Ex→St→Q70)(a0:B5)(a1:A7):∀(n:Nat) (x8:Int),(b1y FUEL K n a0 a1 x8:Q70)=F5 (fun x4=>K .ret (a8M x4)) (K (.exit 0) (a6t)) a0 a1 n x8:=by
 intro n
 induction n with
 |zero=>intros; rfl
 |succ n ih=>
  intro x8
  exact(b5D FUEL K n a0 a1 x8).trans (congrArg (fun f=>F6 f (fun x4=>K .ret (a8M x4)) (K (.exit 0) (a6t)) a0 a1 x8) (funext fun x8=>ih x8))
theorem c5I(k:Nat)(a0:B5)(a1:A7):fnK (a1d k) 8 144 b1x G0 [.pv K22 a0,.pv D9 a1]=
 ((A9j (a1d k) 0 (A0Z (a1d k) (A7s (a1d k) 8) 0 144 (sub b1w [1,0,1,0,0])) a7U (B4x 0 (B5Q (A0Z (a1d k) (A7s (a1d k) 8) 0 144 (sub b1w [1,1])) (B4C (a1d k) b1x G0))) k (b7y a0 a1 (0:Int))):Q70):=by kernel_rfl
theorem d1R(a0:B5)(a1:A7):fnK (a1d FUEL) 8 144 b1x G0 [.pv K22 a0,.pv D9 a1]=P9 a0 a1:=
 (c5I FUEL a0 a1).trans ((b9B _ a0 a1 FUEL (0:Int)).trans (B5V (fun e0 e1=>F5 e0 e1 a0 a1 FUEL (0:Int)) (funext fun x4=>(c2p FUEL x4).trans (rfl)) ((b5C FUEL).trans (rfl))))
def c2o:Con:={ps:=K7,sh:=G0,raw:=fun x=>P9 x.1 x.2.1}
theorem c5H:A8C D8 144 c2o:=B5n (c8Z FUEL) (depth:=8) d5d fun x y h=>(d1R x.1 x.2.1).trans h
def c7k(k:Nat):Cx:=y7 [] [(144,c2o)] [] [] [] k [] false
theorem c8F(k:Nat):A9E D8 (c7k k):=C4 ⟨c5H,C5⟩ C5 C5 C5
abbrev V5:List Sh:=[.pl .bool]
abbrev Q69:Type:=Option (A2K V5)
def J3(a0:B5)(a1:A7):Q69:=
 (A1w (P9 a0 a1) fun(b1:Int)=>(some (decide ((0:Int)≤b1))))
theorem d1p(a0:B5)(a1:A7):fnK (c7k FUEL) 8 111 d1o V5 [.pv K22 a0,.pv D9 a1]=J3 a0 a1:=by kernel_rfl
def c1U:Con:={ps:=K7,sh:=V5,raw:=fun x=>J3 x.1 x.2.1}
theorem c5c:A8C D8 111 c1U:=B5n (c8F FUEL) (depth:=8) d4G fun x y h=>(d1p x.1 x.2.1).trans h
def c7e(k:Nat):Cx:=y7 [] [] [] [] [] k [] false
theorem c8v(k:Nat):A9E D8 (c7e k):=C4 C5 C5 C5 C5
abbrev a5d:List Sh:=[.pl .bool]
abbrev Q0:Type:=Option (A2K a5d)
def a4z(a0:A7)(a1:A7):Q0:=
 (some (decide (a0=a1)))
theorem d0Z(a0:A7)(a1:A7):fnK (c7e FUEL) 8 101 d0Y a5d [.pv K26 a0,.pv K26 a1]=a4z a0 a1:=by kernel_rfl
def c1K:Con:={ps:=K13,sh:=a5d,raw:=fun x=>a4z x.1 x.2.1}
theorem c4R:A8C D8 101 c1K:=B5n (c8v FUEL) (depth:=8) d4w fun x y h=>(d0Z x.1 x.2.1).trans h
def d3m(k:Nat):Cx:=y7 [] [(101,c1K)] [] [] [] k [] false
theorem d3n(k:Nat):A9E D8 (d3m k):=C4 ⟨c4R,C5⟩ C5 C5 C5
abbrev a4n:List Sh:=[.pl .bool]
abbrev Q10:Type:=Option (A2K a4n)
def a2v(a0:T9)(a1:T9):Q10:=
 (cond (decide (a0.1=a1.1))
 (A1w (a4z a0.2.1 a1.2.1) fun(b1:Bool)=>(some b1))
 (some false))
theorem d6a(a0:T9)(a1:T9):fnK (d3m FUEL) 8 58 d7h a4n [.pv o4 a0,.pv o4 a1]=a2v a0 a1:=by kernel_rfl
def c7S:Con:={ps:=(.pair o4 K8),sh:=a4n,raw:=fun x=>a2v x.1 x.2.1}
theorem c9U:A8C D8 58 c7S:=B5n (d3n FUEL) (depth:=8) d8J fun x y h=>(d6a x.1 x.2.1).trans h
def Z3:Cut:={keep:=[2,3,4,5,12,13,15,17,19],stk:=[],ids:=[120,130,190,260,262,310,311,312,80000],own:=[],outs:=[(0,[12,13,14],[120,130,740])],fown:=[(260,[.fld 0],80000,43)],fix:=[311,312,310]}
def a6X:Cut:={keep:=[0,1,9,10,17,18,19],stk:=[[2,3,4,5,12,13,15,17,19]],ids:=[120,130,190,260,262,880,180000],own:=[],outs:=[(0,[6,7,8],[120,130,190,260,262,180000]),(1,[9,10],[120,130,190,260,262,180000])],fown:=[(260,[.fld 0],180000,43)]}
def D6(k:Nat):Cx:=y7 [(38,d6X),(73,c3R),(90,d7p)] [(17,c7y),(47,c0y),(48,c0z),(53,c0A),(58,c7S),(68,c7X),(69,c7Y),(70,b0z),(71,c7Z),(72,b8u),(74,c8a),(89,c8e),(93,b2E),(111,c1U),(112,a7F)] [(124,c1Z),(125,c2a)] [] [(28,[(1,Z3)]),(2800890073,[(0,a6X)])] k dps false
theorem c6z(k:Nat):A9E D8 (D6 k):=C4 ⟨c9n,b8f,b8g,b8h,c9U,d0e,d0f,a9c,d0g,c3O,d0i,d0r,b2d,c5c,a6d,C5⟩ ⟨c5i,c5j,C5⟩ C5 ⟨d8u,d8X,d9e,C5⟩
abbrev J4:List Sh:=[.pr (.tre 29 (.pr (.pl (.int .u8)) (.pr (.sl 5 (.pl (.int .u8))) (.pl .unit)))) (.pl .unit),.pl K9,.pl (.int .i64)]
abbrev Q7:Type:=Option (A2K J4)
def a6W(a2:B5)(a3:Int)(a4:Int)(a5:Int)(R5:T2)(N2:T6)(O8:B5)(U0:T8):St:={env:=(.dead:: .dead:: .pv K22 a2:: .pv E8 a3:: .pv E8 a4:: .pv E8 a5::(dd 6 (.ptr 120 K4 []:: .ptr 130 K9 []:: .dead:: .ptr 260 K1 []:: .dead:: .pv (.ref K1) R5:: .dead:: .ptr 190 K9 []::(dd 96 [])))),stk:=[],heap:=[(120,.var K4 (.pr (.nilsl) (.pv .unit ()))),(130,.var K9 (.pv K9 ((0:Int),((0:Int),((0:Int),()))))),(190,.var K9 (.pv K9 U0)),(260,.var K1 (.pr (.sl 80000 D9) (.pr (.sl 262 o4) (.pv .unit ())))),(262,.arr 29 o4 N2),(80000,.arr 32 D9 O8)]}
def a9O(a4g:T8)(b6Z:T6):St:={env:=(dd 12 (.ptr 120 K4 []:: .ptr 130 K9 []:: .pv E8 (0:Int)::(dd 101 []))),stk:=[],heap:=[(120,.var K4 (.pr (.inn 740 [] o4) (.pv .unit ()))),(130,.var K9 (.pv K9 a4g)),(740,.tre 29 (.pr (.pl (.int .u8)) (.pr (.sl 5 (.pl (.int .u8))) (.pl .unit))) b6Z)]}
def R3(x14:Int):St:={env:=(dd 12 (.ptr 120 K4 []:: .ptr 130 K9 []:: .pv E8 x14::(dd 101 []))),stk:=[],heap:=[(120,.var K4 (.pr (.nilsl) (.pv .unit ()))),(130,.var K9 (.pv K9 ((0:Int),((0:Int),((0:Int),())))))]}
def b3P(a2:B5)(a3:Int)(a4:Int)(a5:Int)(R5:T2)(U0:T8)(x1:B5)(x18:Int)(W2:T6)(x9:Int)(E4:Int)(x19:Int)(N2:T6)(A0:B5):St:={env:=(.ptr 260 K1 []:: .pv K22 x1::(dd 7 (.pv E8 x9:: .pv E8 E4::(dd 6 (.sl 880 o4:: .pv E8 x18:: .pv E8 x19::(dd 33 [])))))),stk:=[(.dead:: .dead:: .pv K22 a2:: .pv E8 a3:: .pv E8 a4:: .pv E8 a5::(dd 6 (.ptr 120 K4 []:: .ptr 130 K9 []:: .dead:: .ptr 260 K1 []:: .dead:: .pv (.ref K1) R5:: .dead:: .ptr 190 K9 []::(dd 96 []))))],heap:=[(120,.var K4 (.pr (.nilsl) (.pv .unit ()))),(130,.var K9 (.pv K9 ((0:Int),((0:Int),((0:Int),()))))),(190,.var K9 (.pv K9 U0)),(260,.var K1 (.pr (.sl 180000 D9) (.pr (.sl 262 o4) (.pv .unit ())))),(262,.arr 29 o4 N2),(880,.arr 29 o4 W2),(180000,.arr 32 D9 A0)]}
def a6Y(a2:B5)(a3:Int)(a4:Int)(a5:Int)(R5:T2)(U0:T8)(W2:T6)(N2:T6)(A0:B5)(x8:Int):St:={env:=(dd 6 (.pv E8 (0:Int):: .pv E8 (0:Int):: .pv E8 x8::(dd 44 []))),stk:=[(.dead:: .dead:: .pv K22 a2:: .pv E8 a3:: .pv E8 a4:: .pv E8 a5::(dd 6 (.ptr 120 K4 []:: .ptr 130 K9 []:: .dead:: .ptr 260 K1 []:: .dead:: .pv (.ref K1) R5:: .dead:: .ptr 190 K9 []::(dd 96 []))))],heap:=[(120,.var K4 (.pr (.nilsl) (.pv .unit ()))),(130,.var K9 (.pv K9 ((0:Int),((0:Int),((0:Int),()))))),(190,.var K9 (.pv K9 U0)),(260,.var K1 (.pr (.sl 180000 D9) (.pr (.sl 262 o4) (.pv .unit ())))),(262,.arr 29 o4 N2),(880,.arr 29 o4 W2),(180000,.arr 32 D9 A0)]}
def a5C(a2:B5)(a3:Int)(a4:Int)(a5:Int)(R5:T2)(U0:T8)(W2:T6)(x9:Int)(E4:Int)(N2:T6)(A0:B5):St:={env:=(dd 9 (.pv E8 x9:: .pv E8 E4::(dd 42 []))),stk:=[(.dead:: .dead:: .pv K22 a2:: .pv E8 a3:: .pv E8 a4:: .pv E8 a5::(dd 6 (.ptr 120 K4 []:: .ptr 130 K9 []:: .dead:: .ptr 260 K1 []:: .dead:: .pv (.ref K1) R5:: .dead:: .ptr 190 K9 []::(dd 96 []))))],heap:=[(120,.var K4 (.pr (.nilsl) (.pv .unit ()))),(130,.var K9 (.pv K9 ((0:Int),((0:Int),((0:Int),()))))),(190,.var K9 (.pv K9 U0)),(260,.var K1 (.pr (.sl 180000 D9) (.pr (.sl 262 o4) (.pv .unit ())))),(262,.arr 29 o4 N2),(880,.arr 29 o4 W2),(180000,.arr 32 D9 A0)]}
def R8(rec:B5→Int→T6→Int→Int→Int→T6→B5→Q7)(kr:T6→T6→B5→Int→Q7)(ke0:T6→Int→Int→T6→B5→Q7)(a2:B5)(a3:Int)(a4:Int)(a5:Int)(R5:T2)(U0:T8)(x1:B5)(x18:Int)(W2:T6)(x9:Int)(E4:Int)(x19:Int)(N2:T6)(A0:B5):Q7:=
 (cond (decide (x19<x18))
 (cond ((decide ((0:Int)≤x19))&&(decide (x19<(W2.length:Int))))
 (A1w (a0g (W2.getD (x19.toNat) ((0:Int),([],())))) fun(b61:A7)=>(A1w (J3 x1 b61) fun(b62:Bool)=>(cond (!b62)
 (rec x1 x18 W2 x9 E4 (IntKind.wrap .i64 (x19+(1:Int))) N2 A0)
 (A1w (a0l (A0,(N2,())) b61) fun(b63:Bool)=>(A1w (a0g (W2.getD (x19.toNat) ((0:Int),([],())))) fun(b64:A7)=>(A1w (Y5 (A0,(N2,())) b64) fun(b65:T18)=>(cond b65.2
 (cond ((decide ((0:Int)≤b65.1))&&(decide (b65.1<(N2.length:Int))))
 (A1w (a2v (N2.getD (b65.1.toNat) ((0:Int),([],()))) (W2.getD (x19.toNat) ((0:Int),([],())))) fun(b66:Bool)=>(cond (!b66)
 (kr W2 N2 A0 (8:Int))
 (cond b65.2
 (cond (!b63)
 (A1w (H8 (((W2.getD (x19.toNat) ((0:Int),([],()))).2).1)) fun(b67:Int)=>(rec x1 x18 W2 (IntKind.wrap .i64 (x9+(1:Int))) (IntKind.wrap .i64 (E4+b67)) (IntKind.wrap .i64 (x19+(1:Int))) N2 A0))
 (rec x1 x18 W2 x9 E4 (IntKind.wrap .i64 (x19+(1:Int))) N2 A0))
 (cond (decide ((A0.length:Int)=(128:Int)))
 (kr W2 N2 A0 (3:Int))
 (A1w (O6 A0 b65.1 [b64]) fun(b68:B5)=>(A1w (N0 N2 b65.1 ([(W2.getD (x19.toNat) ((0:Int),([],())))])) fun(b69:T6)=>(cond (!b63)
 (A1w (H8 (((W2.getD (x19.toNat) ((0:Int),([],()))).2).1)) fun(b70:Int)=>(rec x1 x18 W2 (IntKind.wrap .i64 (x9+(1:Int))) (IntKind.wrap .i64 (E4+b70)) (IntKind.wrap .i64 (x19+(1:Int))) b69 b68))
 (rec x1 x18 W2 x9 E4 (IntKind.wrap .i64 (x19+(1:Int))) b69 b68))))))))
 none)
 (cond b65.2
 (cond (!b63)
 (A1w (H8 (((W2.getD (x19.toNat) ((0:Int),([],()))).2).1)) fun(b71:Int)=>(rec x1 x18 W2 (IntKind.wrap .i64 (x9+(1:Int))) (IntKind.wrap .i64 (E4+b71)) (IntKind.wrap .i64 (x19+(1:Int))) N2 A0))
 (rec x1 x18 W2 x9 E4 (IntKind.wrap .i64 (x19+(1:Int))) N2 A0))
 (cond (decide ((A0.length:Int)=(128:Int)))
 (kr W2 N2 A0 (3:Int))
 (A1w (O6 A0 b65.1 [b64]) fun(b72:B5)=>(A1w (N0 N2 b65.1 ([(W2.getD (x19.toNat) ((0:Int),([],())))])) fun(b73:T6)=>(cond (!b63)
 (A1w (H8 (((W2.getD (x19.toNat) ((0:Int),([],()))).2).1)) fun(b74:Int)=>(rec x1 x18 W2 (IntKind.wrap .i64 (x9+(1:Int))) (IntKind.wrap .i64 (E4+b74)) (IntKind.wrap .i64 (x19+(1:Int))) b73 b72))
 (rec x1 x18 W2 x9 E4 (IntKind.wrap .i64 (x19+(1:Int))) b73 b72)))))))))))))
 none)
 (ke0 W2 x9 E4 N2 A0))
def Y2(kr:T6→T6→B5→Int→Q7)(ke0:T6→Int→Int→T6→B5→Q7)(a2:B5)(a3:Int)(a4:Int)(a5:Int)(R5:T2)(U0:T8):Nat→B5→Int→T6→Int→Int→Int→T6→B5→Q7
 |0=>fun _ _ _ _ _ _ _ _=>none
 |n+1=>R8 (Y2 kr ke0 a2 a3 a4 a5 R5 U0 n) kr ke0 a2 a3 a4 a5 R5 U0
def a2Z(rec:T2→T6→B5→T8→Q7)(kr:T8→T6→Q7)(kr_v1:Int→Q7)(a2:B5)(a3:Int)(a4:Int)(a5:Int)(R5:T2)(N2:T6)(O8:B5)(U0:T8):Q7:=
 (A1w (a0e (O8,(N2,())) a2 a3) fun(b44:B5)=>(cond (decide ((b44.length:Int)=(0:Int)))
 (A1w (l9 (O8,(N2,()))) fun(b45:T4)=>(kr U0 b45.1))
 (cond (decide (U0.1=a5))
 (kr_v1 (7:Int))
 (A1w (q7 R5 b44 a4) fun(b46:T6)=>(Y2 (fun W2 N2 A0 x8=>(cond (decide (x8=(0:Int)))
 (kr_v1 (6:Int))
 (cond (!(decide (x8=(0:Int))))
 (kr_v1 x8)
 (rec R5 N2 A0 ((IntKind.wrap .i64 (U0.1+(1:Int))),((IntKind.wrap .i64 (U0.2.1+(0:Int))),((IntKind.wrap .i64 (U0.2.2.1+(0:Int))),()))))))) (fun W2 x9 E4 N2 A0=>(cond (decide (x9=(0:Int)))
 (kr_v1 (6:Int))
 (rec R5 N2 A0 ((IntKind.wrap .i64 (U0.1+(1:Int))),((IntKind.wrap .i64 (U0.2.1+x9)),((IntKind.wrap .i64 (U0.2.2.1+E4)),())))))) a2 a3 a4 a5 R5 U0 FUEL b44 (b46.length:Int) b46 (0:Int) (0:Int) (0:Int) N2 O8)))))
def N6(kr:T8→T6→Q7)(kr_v1:Int→Q7)(a2:B5)(a3:Int)(a4:Int)(a5:Int):Nat→T2→T6→B5→T8→Q7
 |0=>fun _ _ _ _=>none
 |n+1=>a2Z (N6 kr kr_v1 a2 a3 a4 a5 n) kr kr_v1 a2 a3 a4 a5
def a0b(a0:T4)(a1:T4)(a2:B5)(a3:Int)(a4:Int)(a5:Int):Q7:=
 (A1w (N5 a0) fun(b1:Bool)=>(cond (!b1)
 (A1w (N5 a1) fun(b2:Bool)=>(cond (!b2)
 (some (([],()),(((0:Int),((0:Int),((0:Int),()))),(1:Int))))
 (A1w (G8 a1) fun(b3:B5)=>(A1w (D5 a1.1) fun(b4:T6)=>(some (([],()),(((0:Int),((0:Int),((0:Int),()))),(1:Int))))))))
 (A1w (G8 a0) fun(b5:B5)=>(A1w (D5 a0.1) fun(b6:T6)=>(A1w (N5 a1) fun(b7:Bool)=>(cond (!b7)
 (some (([],()),(((0:Int),((0:Int),((0:Int),()))),(1:Int))))
 (A1w (G8 a1) fun(b8:B5)=>(A1w (D5 a1.1) fun(b9:T6)=>(cond (decide ((256:Int)<(a2.length:Int)))
 (some (([],()),(((0:Int),((0:Int),((0:Int),()))),(3:Int))))
 (A1w (a2F a3) fun(b10:Bool)=>(cond (!b10)
 (some (([],()),(((0:Int),((0:Int),((0:Int),()))),(2:Int))))
 (A1w (a1k a4) fun(b11:Bool)=>(cond (!b11)
 (some (([],()),(((0:Int),((0:Int),((0:Int),()))),(2:Int))))
 (A1w (v7 a5 (0:Int) (64:Int)) fun(b12:Bool)=>(cond (!b12)
 (some (([],()),(((0:Int),((0:Int),((0:Int),()))),(2:Int))))
 (N6 (fun a4g b6Z=>(some ((b6Z,()),(a4g,(0:Int))))) (fun x14=>(some (([],()),(((0:Int),((0:Int),((0:Int),()))),x14)))) a2 a3 a4 a5 FUEL (b8,(b9,())) b6 b5 ((0:Int),((0:Int),((0:Int),())))))))))))))))))))
def a9P(k:Nat)(K:Ex→St→Q7)(n:Nat)(a2:B5)(a3:Int)(a4:Int)(a5:Int)(R5:T2)(U0:T8)(x1:B5)(x18:Int)(W2:T6)(x9:Int)(E4:Int)(x19:Int)(N2:T6)(A0:B5):Q7:=A9j (D6 k) 1 (A0Z (D6 k) (A7s (D6 k) 7) 1 2800890073 (sub b8v [1,1,0,1,0,0])) a6X K n (b3P a2 a3 a4 a5 R5 U0 x1 x18 W2 x9 E4 x19 N2 A0)
theorem c0p(k:Nat)(K:Ex→St→Q7)(n:Nat)(a2:B5)(a3:Int)(a4:Int)(a5:Int)(R5:T2)(U0:T8)(W2:T6)(N2:T6)(A0:B5)(x8:Int):((B4x 0 (B5Q (A0Z (D6 k) (A7s (D6 k) 7) 1 2800890073 (sub b8v [1,1,1])) (B4P (D6 k) c3R (some 89) 0 (B5J (D6 k) (A7s (D6 k) 8) 0 28 false (B5P (sub a5B [1,1,1,1,1,0,0,0,1,1,1,0])) 6 (B5Q (A0Z (D6 k) (A7s (D6 k) 8) 0 28 (sub a5B [1,1,1,1,1,0,0,0,1,1,1,1])) (B4x 2 (B2m (D6 k) 0 Z3 (A9j (D6 k) 0 (A0Z (D6 k) (A7s (D6 k) 8) 0 28 (sub a5B [1,1,1,1,1,0,0])) Z3 K n) K))))))) .ret (a6Y a2 a3 a4 a5 R5 U0 W2 N2 A0 x8):Q7)=
 ((cond (decide (x8=(0:Int)))
 (K .ret (R3 (6:Int)))
 (cond (!(decide (x8=(0:Int))))
 (K .ret (R3 x8))
 (A9j (D6 k) 0 (A0Z (D6 k) (A7s (D6 k) 8) 0 28 (sub a5B [1,1,1,1,1,0,0])) Z3 K n (a6W a2 a3 a4 a5 R5 N2 A0 ((IntKind.wrap .i64 (U0.1+(1:Int))),((IntKind.wrap .i64 (U0.2.1+(0:Int))),((IntKind.wrap .i64 (U0.2.2.1+(0:Int))),()))))))):Q7):=by kernel_rfl
theorem b3N(k:Nat)(K:Ex→St→Q7)(n:Nat)(a2:B5)(a3:Int)(a4:Int)(a5:Int)(R5:T2)(U0:T8)(W2:T6)(x9:Int)(E4:Int)(N2:T6)(A0:B5):((B4x 0 (B5Q (A0Z (D6 k) (A7s (D6 k) 7) 1 2800890073 (sub b8v [1,1,1])) (B4P (D6 k) c3R (some 89) 0 (B5J (D6 k) (A7s (D6 k) 8) 0 28 false (B5P (sub a5B [1,1,1,1,1,0,0,0,1,1,1,0])) 6 (B5Q (A0Z (D6 k) (A7s (D6 k) 8) 0 28 (sub a5B [1,1,1,1,1,0,0,0,1,1,1,1])) (B4x 2 (B2m (D6 k) 0 Z3 (A9j (D6 k) 0 (A0Z (D6 k) (A7s (D6 k) 8) 0 28 (sub a5B [1,1,1,1,1,0,0])) Z3 K n) K))))))) (.exit 0) (a5C a2 a3 a4 a5 R5 U0 W2 x9 E4 N2 A0):Q7)=
 ((cond (decide (x9=(0:Int)))
 (K .ret (R3 (6:Int)))
 (A9j (D6 k) 0 (A0Z (D6 k) (A7s (D6 k) 8) 0 28 (sub a5B [1,1,1,1,1,0,0])) Z3 K n (a6W a2 a3 a4 a5 R5 N2 A0 ((IntKind.wrap .i64 (U0.1+(1:Int))),((IntKind.wrap .i64 (U0.2.1+x9)),((IntKind.wrap .i64 (U0.2.2.1+E4)),())))))):Q7):=by kernel_rfl
theorem b3O(k:Nat)(K:Ex→St→Q7)(n:Nat)(a2:B5)(a3:Int)(a4:Int)(a5:Int)(R5:T2)(U0:T8)(x1:B5)(x18:Int)(W2:T6)(x9:Int)(E4:Int)(x19:Int)(N2:T6)(A0:B5):(a9P k K (n+1) a2 a3 a4 a5 R5 U0 x1 x18 W2 x9 E4 x19 N2 A0:Q7)=R8 ((fun x1 x18 W2 x9 E4 x19 N2 A0=>a9P k K n a2 a3 a4 a5 R5 U0 x1 x18 W2 x9 E4 x19 N2 A0)) (fun W2 N2 A0 x8=>K .ret (a6Y a2 a3 a4 a5 R5 U0 W2 N2 A0 x8)) (fun W2 x9 E4 N2 A0=>K (.exit 0) (a5C a2 a3 a4 a5 R5 U0 W2 x9 E4 N2 A0)) a2 a3 a4 a5 R5 U0 x1 x18 W2 x9 E4 x19 N2 A0:=by kernel_rfl
theorem b6D(K:Ex→St→Q7)(a2:B5)(a3:Int)(a4:Int)(a5:Int)(R5:T2)(U0:T8):∀(n:Nat) (x1:B5) (x18:Int) (W2:T6) (x9:Int) (E4:Int) (x19:Int) (N2:T6) (A0:B5),(a9P FUEL K n a2 a3 a4 a5 R5 U0 x1 x18 W2 x9 E4 x19 N2 A0:Q7)=Y2 (fun W2 N2 A0 x8=>K .ret (a6Y a2 a3 a4 a5 R5 U0 W2 N2 A0 x8)) (fun W2 x9 E4 N2 A0=>K (.exit 0) (a5C a2 a3 a4 a5 R5 U0 W2 x9 E4 N2 A0)) a2 a3 a4 a5 R5 U0 n x1 x18 W2 x9 E4 x19 N2 A0:=by
 intro n
 induction n with
 |zero=>intros; rfl
 |succ n ih=>
  intro x1 x18 W2 x9 E4 x19 N2 A0
  exact(b3O FUEL K n a2 a3 a4 a5 R5 U0 x1 x18 W2 x9 E4 x19 N2 A0).trans (congrArg (fun f=>R8 f (fun W2 N2 A0 x8=>K .ret (a6Y a2 a3 a4 a5 R5 U0 W2 N2 A0 x8)) (fun W2 x9 E4 N2 A0=>K (.exit 0) (a5C a2 a3 a4 a5 R5 U0 W2 x9 E4 N2 A0)) a2 a3 a4 a5 R5 U0 x1 x18 W2 x9 E4 x19 N2 A0) (funext fun x1=>funext fun x18=>funext fun W2=>funext fun x9=>funext fun E4=>funext fun x19=>funext fun N2=>funext fun A0=>ih x1 x18 W2 x9 E4 x19 N2 A0))
def b3L(k:Nat)(K:Ex→St→Q7)(n:Nat)(a2:B5)(a3:Int)(a4:Int)(a5:Int)(R5:T2)(N2:T6)(O8:B5)(U0:T8):Q7:=A9j (D6 k) 0 (A0Z (D6 k) (A7s (D6 k) 8) 0 28 (sub a5B [1,1,1,1,1,0,0])) Z3 K n (a6W a2 a3 a4 a5 R5 N2 O8 U0)
theorem b3M(k:Nat)(K:Ex→St→Q7)(n:Nat)(a2:B5)(a3:Int)(a4:Int)(a5:Int)(R5:T2)(N2:T6)(O8:B5)(U0:T8):(b3L k K (n+1) a2 a3 a4 a5 R5 N2 O8 U0:Q7)=
 ((A1w (a0e (O8,(N2,())) a2 a3) fun(b44:B5)=>(cond (decide ((b44.length:Int)=(0:Int)))
 (A1w (l9 (O8,(N2,()))) fun(b45:T4)=>(K .ret (a9O U0 b45.1)))
 (cond (decide (U0.1=a5))
 (K .ret (R3 (7:Int)))
 (A1w (q7 R5 b44 a4) fun(b46:T6)=>(A9j (D6 k) 1 (A0Z (D6 k) (A7s (D6 k) 7) 1 2800890073 (sub b8v [1,1,0,1,0,0])) a6X (B4x 0 (B5Q (A0Z (D6 k) (A7s (D6 k) 7) 1 2800890073 (sub b8v [1,1,1])) (B4P (D6 k) c3R (some 89) 0 (B5J (D6 k) (A7s (D6 k) 8) 0 28 false (B5P (sub a5B [1,1,1,1,1,0,0,0,1,1,1,0])) 6 (B5Q (A0Z (D6 k) (A7s (D6 k) 8) 0 28 (sub a5B [1,1,1,1,1,0,0,0,1,1,1,1])) (B4x 2 (B2m (D6 k) 0 Z3 (A9j (D6 k) 0 (A0Z (D6 k) (A7s (D6 k) 8) 0 28 (sub a5B [1,1,1,1,1,0,0])) Z3 K n) K))))))) k (b3P a2 a3 a4 a5 R5 U0 b44 (b46.length:Int) b46 (0:Int) (0:Int) (0:Int) N2 O8)))))):Q7):=by kernel_rfl
theorem c0o(k:Nat)(a4g:T8)(b6Z:T6):((B4x 1 (B4C (D6 k) b8a J4)) .ret (a9O a4g b6Z):Q7)=
 ((some ((b6Z,()),(a4g,(0:Int)))):Q7):=by kernel_rfl
theorem a5z(k:Nat)(x14:Int):((B4x 1 (B4C (D6 k) b8a J4)) .ret (R3 x14):Q7)=
 ((some (([],()),(((0:Int),((0:Int),((0:Int),()))),x14))):Q7):=by kernel_rfl
theorem b6C(K:Ex→St→Q7)(a2:B5)(a3:Int)(a4:Int)(a5:Int):∀(n:Nat) (R5:T2) (N2:T6) (O8:B5) (U0:T8),(b3L FUEL K n a2 a3 a4 a5 R5 N2 O8 U0:Q7)=N6 (fun a4g b6Z=>K .ret (a9O a4g b6Z)) (fun x14=>K .ret (R3 x14)) a2 a3 a4 a5 n R5 N2 O8 U0:=by
 intro n
 induction n with
 |zero=>intros; rfl
 |succ n ih=>
  intro R5 N2 O8 U0
  exact(b3M FUEL K n a2 a3 a4 a5 R5 N2 O8 U0).trans (B5S (fun b44=>B5U (B5S (fun b45=>rfl)) (B5U (rfl) (B5S (fun b46=>(b6D _ a2 a3 a4 a5 R5 U0 FUEL b44 (b46.length:Int) b46 (0:Int) (0:Int) (0:Int) N2 O8).trans (B5V (fun e0 e1=>Y2 e0 e1 a2 a3 a4 a5 R5 U0 FUEL b44 (b46.length:Int) b46 (0:Int) (0:Int) (0:Int) N2 O8) (funext fun W2=>funext fun N2=>funext fun A0=>funext fun x8=>(c0p FUEL K n a2 a3 a4 a5 R5 U0 W2 N2 A0 x8).trans (B5U (rfl) (B5U (rfl) (ih R5 N2 A0 ((IntKind.wrap .i64 (U0.1+(1:Int))),((IntKind.wrap .i64 (U0.2.1+(0:Int))),((IntKind.wrap .i64 (U0.2.2.1+(0:Int))),()))))))) (funext fun W2=>funext fun x9=>funext fun E4=>funext fun N2=>funext fun A0=>(b3N FUEL K n a2 a3 a4 a5 R5 U0 W2 x9 E4 N2 A0).trans (B5U (rfl) (ih R5 N2 A0 ((IntKind.wrap .i64 (U0.1+(1:Int))),((IntKind.wrap .i64 (U0.2.1+x9)),((IntKind.wrap .i64 (U0.2.2.1+E4)),()))))))))))))
theorem c3g(k:Nat)(a0:T4)(a1:T4)(a2:B5)(a3:Int)(a4:Int)(a5:Int):fnK (D6 k) 8 28 b8a J4 [.pv K4 a0,.pv K4 a1,.pv K22 a2,.pv E8 a3,.pv E8 a4,.pv E8 a5]=
 ((A1w (N5 a0) fun(b1:Bool)=>(cond (!b1)
 (A1w (N5 a1) fun(b2:Bool)=>(cond (!b2)
 (some (([],()),(((0:Int),((0:Int),((0:Int),()))),(1:Int))))
 (A1w (G8 a1) fun(b3:B5)=>(A1w (D5 a1.1) fun(b4:T6)=>(some (([],()),(((0:Int),((0:Int),((0:Int),()))),(1:Int))))))))
 (A1w (G8 a0) fun(b5:B5)=>(A1w (D5 a0.1) fun(b6:T6)=>(A1w (N5 a1) fun(b7:Bool)=>(cond (!b7)
 (some (([],()),(((0:Int),((0:Int),((0:Int),()))),(1:Int))))
 (A1w (G8 a1) fun(b8:B5)=>(A1w (D5 a1.1) fun(b9:T6)=>(cond (decide ((256:Int)<(a2.length:Int)))
 (some (([],()),(((0:Int),((0:Int),((0:Int),()))),(3:Int))))
 (A1w (a2F a3) fun(b10:Bool)=>(cond (!b10)
 (some (([],()),(((0:Int),((0:Int),((0:Int),()))),(2:Int))))
 (A1w (a1k a4) fun(b11:Bool)=>(cond (!b11)
 (some (([],()),(((0:Int),((0:Int),((0:Int),()))),(2:Int))))
 (A1w (v7 a5 (0:Int) (64:Int)) fun(b12:Bool)=>(cond (!b12)
 (some (([],()),(((0:Int),((0:Int),((0:Int),()))),(2:Int))))
 (A9j (D6 k) 0 (A0Z (D6 k) (A7s (D6 k) 8) 0 28 (sub a5B [1,1,1,1,1,0,0])) Z3 (B4x 1 (B4C (D6 k) b8a J4)) k (a6W a2 a3 a4 a5 (b8,(b9,())) b6 b5 ((0:Int),((0:Int),((0:Int),())))))))))))))))))))):Q7):=by kernel_rfl
theorem c9H(a0:T4)(a1:T4)(a2:B5)(a3:Int)(a4:Int)(a5:Int):fnK (D6 FUEL) 8 28 b8a J4 [.pv K4 a0,.pv K4 a1,.pv K22 a2,.pv E8 a3,.pv E8 a4,.pv E8 a5]=a0b a0 a1 a2 a3 a4 a5:=
 (c3g FUEL a0 a1 a2 a3 a4 a5).trans (B5S (fun b1=>B5U (rfl) (B5S (fun b5=>B5S (fun b6=>B5S (fun b7=>B5U (rfl) (B5S (fun b8=>B5S (fun b9=>B5U (rfl) (B5S (fun b10=>B5U (rfl) (B5S (fun b11=>B5U (rfl) (B5S (fun b12=>B5U (rfl) ((b6C _ a2 a3 a4 a5 FUEL (b8,(b9,())) b6 b5 ((0:Int),((0:Int),((0:Int),())))).trans (B5V (fun e0 e1=>N6 e0 e1 a2 a3 a4 a5 FUEL (b8,(b9,())) b6 b5 ((0:Int),((0:Int),((0:Int),())))) (funext fun a4g=>funext fun b6Z=>(c0o FUEL a4g b6Z).trans (rfl)) (funext fun x14=>(a5z FUEL x14).trans (rfl)))))))))))))))))))
def b7Z:Con:={ps:=(.pair K4 (.pair K4 (.pair K22 K9))),sh:=J4,raw:=fun x=>a0b x.1 x.2.1 x.2.2.1 x.2.2.2.1 x.2.2.2.2.1 x.2.2.2.2.2.1}
theorem c3f:A8C D8 28 b7Z:=B5n (c6z FUEL) (depth:=8) d8n fun x y h=>(c9H x.1 x.2.1 x.2.2.1 x.2.2.2.1 x.2.2.2.2.1 x.2.2.2.2.2.1).trans h
def a7V:Cut:={keep:=[0,1,5],stk:=[],ids:=[],own:=[],outs:=[(0,[4],[]),(1,[],[])]}
def a1e(k:Nat):Cx:=y7 [] [] [] [] [(145,[(0,a7V)])] k [] false
theorem c9a(k:Nat):A9E D8 (a1e k):=C4 C5 C5 C5 C5
abbrev a0n:List Sh:=[.pl .bool]
abbrev Q43:Type:=Option (A2K a0n)
def b7z(a0:A7)(a1:A7)(x5:Int):St:={env:=(.pv K26 a0:: .pv K26 a1::(dd 3 (.pv E8 x5::(dd 20 [])))),stk:=[],heap:=[]}
def a8N:St:={env:=(dd 4 (.pv .bool false::(dd 21 []))),stk:=[],heap:=[]}
def a6u:St:={env:=(dd 26 []),stk:=[],heap:=[]}
def c8(rec:Int→Q43)(kr:Q43)(ke0:Q43)(a0:A7)(a1:A7)(x5:Int):Q43:=
 (cond (decide (x5<(a0.length:Int)))
 (cond ((decide ((0:Int)≤x5))&&(decide (x5<(a0.length:Int))))
 (cond ((decide ((0:Int)≤x5))&&(decide (x5<(a1.length:Int))))
 (cond (!(decide ((a0.getD (x5.toNat) (0:Int))=(a1.getD (x5.toNat) (0:Int)))))
 (kr)
 (rec (IntKind.wrap .i64 (x5+(1:Int)))))
 none)
 none)
 (ke0))
def a8(kr:Q43)(ke0:Q43)(a0:A7)(a1:A7):Nat→Int→Q43
 |0=>fun _=>none
 |n+1=>c8 (a8 kr ke0 a0 a1 n) kr ke0 a0 a1
def a3d(a0:A7)(a1:A7):Q43:=
 (cond (!(decide ((a0.length:Int)=(a1.length:Int))))
 (some false)
 (a8 (some false) (some true) a0 a1 FUEL (0:Int)))
def b1B(k:Nat)(K:Ex→St→Q43)(n:Nat)(a0:A7)(a1:A7)(x5:Int):Q43:=A9j (a1e k) 0 (A0Z (a1e k) (A7s (a1e k) 8) 0 145 (sub b1z [1,1,0,1,0,0])) a7V K n (b7z a0 a1 x5)
theorem c2r(k:Nat):((B4x 0 (B5Q (A0Z (a1e k) (A7s (a1e k) 8) 0 145 (sub b1z [1,1,1])) (B4C (a1e k) b1A a0n))) .ret (a8N):Q43)=
 ((some false):Q43):=by kernel_rfl
theorem b5E(k:Nat):((B4x 0 (B5Q (A0Z (a1e k) (A7s (a1e k) 8) 0 145 (sub b1z [1,1,1])) (B4C (a1e k) b1A a0n))) (.exit 0) (a6u):Q43)=
 ((some true):Q43):=by kernel_rfl
theorem b5F(k:Nat)(K:Ex→St→Q43)(n:Nat)(a0:A7)(a1:A7)(x5:Int):(b1B k K (n+1) a0 a1 x5:Q43)=c8 ((fun x5=>b1B k K n a0 a1 x5)) (K .ret (a8N)) (K (.exit 0) (a6u)) a0 a1 x5:=by kernel_rfl
theorem b9C(K:Ex→St→Q43)(a0:A7)(a1:A7):∀(n:Nat) (x5:Int),(b1B FUEL K n a0 a1 x5:Q43)=a8 (K .ret (a8N)) (K (.exit 0) (a6u)) a0 a1 n x5:=by
 intro n
 induction n with
 |zero=>intros; rfl
 |succ n ih=>
  intro x5
  exact(b5F FUEL K n a0 a1 x5).trans (congrArg (fun f=>c8 f (K .ret (a8N)) (K (.exit 0) (a6u)) a0 a1 x5) (funext fun x5=>ih x5))
theorem c5K(k:Nat)(a0:A7)(a1:A7):fnK (a1e k) 8 145 b1A a0n [.pv K26 a0,.pv K26 a1]=
 ((cond (!(decide ((a0.length:Int)=(a1.length:Int))))
 (some false)
 (A9j (a1e k) 0 (A0Z (a1e k) (A7s (a1e k) 8) 0 145 (sub b1z [1,1,0,1,0,0])) a7V (B4x 0 (B5Q (A0Z (a1e k) (A7s (a1e k) 8) 0 145 (sub b1z [1,1,1])) (B4C (a1e k) b1A a0n))) k (b7z a0 a1 (0:Int)))):Q43):=by kernel_rfl
theorem d1S(a0:A7)(a1:A7):fnK (a1e FUEL) 8 145 b1A a0n [.pv K26 a0,.pv K26 a1]=a3d a0 a1:=
 (c5K FUEL a0 a1).trans (B5U (rfl) ((b9C _ a0 a1 FUEL (0:Int)).trans (B5V (fun e0 e1=>a8 e0 e1 a0 a1 FUEL (0:Int)) ((c2r FUEL).trans (rfl)) ((b5E FUEL).trans (rfl)))))
def c2q:Con:={ps:=K13,sh:=a0n,raw:=fun x=>a3d x.1 x.2.1}
theorem c5J:A8C D8 145 c2q:=B5n (c9a FUEL) (depth:=8) d5e fun x y h=>(d1S x.1 x.2.1).trans h
def c7m(k:Nat):Cx:=y7 [] [(145,c2q)] [] [] [] k [] false
theorem c8H(k:Nat):A9E D8 (c7m k):=C4 ⟨c5J,C5⟩ C5 C5 C5
abbrev a5q:List Sh:=[.pl .bool]
abbrev Q42:Type:=Option (A2K a5q)
def a3w(a0:T9)(a1:T9):Q42:=
 (cond (!(decide (a0.1=a1.1)))
 (some false)
 (A1w (a3d a0.2.1 a1.2.1) fun(b1:Bool)=>(cond (!b1)
 (some false)
 (some true))))
theorem d1t(a0:T9)(a1:T9):fnK (c7m FUEL) 8 113 d1s a5q [.pv o4 a0,.pv o4 a1]=a3w a0 a1:=by kernel_rfl
def c1V:Con:={ps:=(.pair o4 K8),sh:=a5q,raw:=fun x=>a3w x.1 x.2.1}
theorem c5d:A8C D8 113 c1V:=B5n (c8H FUEL) (depth:=8) d4I fun x y h=>(d1t x.1 x.2.1).trans h
def b0b:Cut:={keep:=[0,1,5],stk:=[],ids:=[],own:=[],outs:=[(0,[4],[]),(1,[],[])]}
def a2P(k:Nat):Cx:=y7 [] [(113,c1V)] [] [] [(75,[(0,b0b)])] k [] false
theorem d3E(k:Nat):A9E D8 (a2P k):=C4 ⟨c5d,C5⟩ C5 C5 C5
abbrev a0m:List Sh:=[.pl .bool]
abbrev Q41:Type:=Option (A2K a0m)
def c3X(a0:T6)(a1:T6)(x5:Int):St:={env:=(.pv K12 a0:: .pv K12 a1::(dd 3 (.pv E8 x5::(dd 21 [])))),stk:=[],heap:=[]}
def b0A:St:={env:=(dd 4 (.pv .bool false::(dd 22 []))),stk:=[],heap:=[]}
def a9e:St:={env:=(dd 27 []),stk:=[],heap:=[]}
def a7(rec:Int→Q41)(kr:Q41)(ke0:Q41)(a0:T6)(a1:T6)(x5:Int):Q41:=
 (cond (decide (x5<(a0.length:Int)))
 (cond ((decide ((0:Int)≤x5))&&(decide (x5<(a0.length:Int))))
 (cond ((decide ((0:Int)≤x5))&&(decide (x5<(a1.length:Int))))
 (A1w (a3w (a0.getD (x5.toNat) ((0:Int),([],()))) (a1.getD (x5.toNat) ((0:Int),([],())))) fun(b2:Bool)=>(cond (!b2)
 (kr)
 (rec (IntKind.wrap .i64 (x5+(1:Int))))))
 none)
 none)
 (ke0))
def Z9(kr:Q41)(ke0:Q41)(a0:T6)(a1:T6):Nat→Int→Q41
 |0=>fun _=>none
 |n+1=>a7 (Z9 kr ke0 a0 a1 n) kr ke0 a0 a1
def a3c(a0:T6)(a1:T6):Q41:=
 (cond (!(decide ((a0.length:Int)=(a1.length:Int))))
 (some false)
 (Z9 (some false) (some true) a0 a1 FUEL (0:Int)))
def b4j(k:Nat)(K:Ex→St→Q41)(n:Nat)(a0:T6)(a1:T6)(x5:Int):Q41:=A9j (a2P k) 0 (A0Z (a2P k) (A7s (a2P k) 8) 0 75 (sub b8w [1,1,0,1,0,0])) b0b K n (c3X a0 a1 x5)
theorem c6H(k:Nat):((B4x 0 (B5Q (A0Z (a2P k) (A7s (a2P k) 8) 0 75 (sub b8w [1,1,1])) (B4C (a2P k) b8x a0m))) .ret (b0A):Q41)=
 ((some false):Q41):=by kernel_rfl
theorem c0R(k:Nat):((B4x 0 (B5Q (A0Z (a2P k) (A7s (a2P k) 8) 0 75 (sub b8w [1,1,1])) (B4C (a2P k) b8x a0m))) (.exit 0) (a9e):Q41)=
 ((some true):Q41):=by kernel_rfl
theorem c0S(k:Nat)(K:Ex→St→Q41)(n:Nat)(a0:T6)(a1:T6)(x5:Int):(b4j k K (n+1) a0 a1 x5:Q41)=a7 ((fun x5=>b4j k K n a0 a1 x5)) (K .ret (b0A)) (K (.exit 0) (a9e)) a0 a1 x5:=by kernel_rfl
theorem c3W(K:Ex→St→Q41)(a0:T6)(a1:T6):∀(n:Nat) (x5:Int),(b4j FUEL K n a0 a1 x5:Q41)=Z9 (K .ret (b0A)) (K (.exit 0) (a9e)) a0 a1 n x5:=by
 intro n
 induction n with
 |zero=>intros; rfl
 |succ n ih=>
  intro x5
  exact(c0S FUEL K n a0 a1 x5).trans (congrArg (fun f=>a7 f (K .ret (b0A)) (K (.exit 0) (a9e)) a0 a1 x5) (funext fun x5=>ih x5))
theorem d0l(k:Nat)(a0:T6)(a1:T6):fnK (a2P k) 8 75 b8x a0m [.pv K12 a0,.pv K12 a1]=
 ((cond (!(decide ((a0.length:Int)=(a1.length:Int))))
 (some false)
 (A9j (a2P k) 0 (A0Z (a2P k) (A7s (a2P k) 8) 0 75 (sub b8w [1,1,0,1,0,0])) b0b (B4x 0 (B5Q (A0Z (a2P k) (A7s (a2P k) 8) 0 75 (sub b8w [1,1,1])) (B4C (a2P k) b8x a0m))) k (c3X a0 a1 (0:Int)))):Q41):=by kernel_rfl
theorem d6l(a0:T6)(a1:T6):fnK (a2P FUEL) 8 75 b8x a0m [.pv K12 a0,.pv K12 a1]=a3c a0 a1:=
 (d0l FUEL a0 a1).trans (B5U (rfl) ((c3W _ a0 a1 FUEL (0:Int)).trans (B5V (fun e0 e1=>Z9 e0 e1 a0 a1 FUEL (0:Int)) ((c6H FUEL).trans (rfl)) ((c0R FUEL).trans (rfl)))))
def c8b:Con:={ps:=(.pair K12 K4),sh:=a0m,raw:=fun x=>a3c x.1 x.2.1}
theorem d0k:A8C D8 75 c8b:=B5n (d3E FUEL) (depth:=8) d8Z fun x y h=>(d6l x.1 x.2.1).trans h
def d2J(k:Nat):Cx:=y7 [] [(75,c8b)] [] [] [] k [] false
theorem d2K(k:Nat):A9E D8 (d2J k):=C4 ⟨d0k,C5⟩ C5 C5 C5
abbrev a4H:List Sh:=[.pl .bool]
abbrev Q46:Type:=Option (A2K a4H)
def c9(a0:T4)(a1:T4):Q46:=
 (A1w (a3c a0.1 a1.1) fun(b1:Bool)=>(cond (!b1)
 (some false)
 (some true)))
theorem d5K(a0:T4)(a1:T4):fnK (d2J FUEL) 8 29 d6T a4H [.pv K4 a0,.pv K4 a1]=c9 a0 a1:=by kernel_rfl
def c7J:Con:={ps:=(.pair K4 K3),sh:=a4H,raw:=fun x=>c9 x.1 x.2.1}
theorem c9I:A8C D8 29 c7J:=B5n (d2K FUEL) (depth:=8) d8o fun x y h=>(d5K x.1 x.2.1).trans h
def d2L(k:Nat):Cx:=y7 [] [] [] [] [] k [] false
theorem d2M(k:Nat):A9E D8 (d2L k):=C4 C5 C5 C5 C5
abbrev a5r:List Sh:=[.pl .bool]
abbrev Q47:Type:=Option (A2K a5r)
def a1y(a0:T8)(a1:T8):Q47:=
 (cond (!(decide (a0.1=a1.1)))
 (some false)
 (cond (!(decide (a0.2.1=a1.2.1)))
 (some false)
 (cond (!(decide (a0.2.2.1=a1.2.2.1)))
 (some false)
 (some true))))
theorem d5L(a0:T8)(a1:T8):fnK (d2L FUEL) 8 30 d6U a5r [.pv K9 a0,.pv K9 a1]=a1y a0 a1:=by kernel_rfl
def c7K:Con:={ps:=(.pair K9 (.pair K9 .unit)),sh:=a5r,raw:=fun x=>a1y x.1 x.2.1}
theorem c9J:A8C D8 30 c7K:=B5n (d2M FUEL) (depth:=8) d8p fun x y h=>(d5L x.1 x.2.1).trans h
def b0c:Cut:={keep:=[2,3,5],stk:=[],ids:=[20,30],own:=[],outs:=[(0,[4],[]),(1,[],[])]}
def a2Q(k:Nat):Cx:=y7 [] [] [] [] [(76,[(0,b0c)])] k [] false
theorem d3F(k:Nat):A9E D8 (a2Q k):=C4 C5 C5 C5 C5
abbrev a1x:List Sh:=[.pl .bool]
abbrev Q45:Type:=Option (A2K a1x)
def c3Z(a0:A7)(a1:A7)(x5:Int):St:={env:=(.dead:: .dead:: .ptr 20 D9 []:: .ptr 30 D9 []:: .dead:: .pv E8 x5::(dd 11 [])),stk:=[],heap:=[(20,.var D9 (.pv D9 a0)),(30,.var D9 (.pv D9 a1))]}
def b0B:St:={env:=(dd 4 (.pv .bool false::(dd 12 []))),stk:=[],heap:=[]}
def a9f:St:={env:=(dd 17 []),stk:=[],heap:=[]}
def a2x(rec:Int→Q45)(kr:Q45)(ke0:Q45)(a0:A7)(a1:A7)(x5:Int):Q45:=
 (cond (decide (x5<(32:Int)))
 (cond ((decide ((0:Int)≤x5))&&(decide (x5<(32:Int))))
 (cond ((decide ((0:Int)≤x5))&&(decide (x5<(32:Int))))
 (cond (!(decide ((a0.getD (x5.toNat) (0:Int))=(a1.getD (x5.toNat) (0:Int)))))
 (kr)
 (rec (IntKind.wrap .i64 (x5+(1:Int)))))
 none)
 none)
 (ke0))
def a1m(kr:Q45)(ke0:Q45)(a0:A7)(a1:A7):Nat→Int→Q45
 |0=>fun _=>none
 |n+1=>a2x (a1m kr ke0 a0 a1 n) kr ke0 a0 a1
def a4a(a0:A7)(a1:A7):Q45:=
 (a1m (some false) (some true) a0 a1 FUEL (0:Int))
def b4k(k:Nat)(K:Ex→St→Q45)(n:Nat)(a0:A7)(a1:A7)(x5:Int):Q45:=A9j (a2Q k) 0 (A0Z (a2Q k) (A7s (a2Q k) 8) 0 76 (sub b8y [1,0,1,0,0])) b0c K n (c3Z a0 a1 x5)
theorem c6I(k:Nat):((B4x 0 (B5Q (A0Z (a2Q k) (A7s (a2Q k) 8) 0 76 (sub b8y [1,1])) (B4C (a2Q k) b8z a1x))) .ret (b0B):Q45)=
 ((some false):Q45):=by kernel_rfl
theorem c0T(k:Nat):((B4x 0 (B5Q (A0Z (a2Q k) (A7s (a2Q k) 8) 0 76 (sub b8y [1,1])) (B4C (a2Q k) b8z a1x))) (.exit 0) (a9f):Q45)=
 ((some true):Q45):=by kernel_rfl
theorem c0U(k:Nat)(K:Ex→St→Q45)(n:Nat)(a0:A7)(a1:A7)(x5:Int):(b4k k K (n+1) a0 a1 x5:Q45)=a2x ((fun x5=>b4k k K n a0 a1 x5)) (K .ret (b0B)) (K (.exit 0) (a9f)) a0 a1 x5:=by kernel_rfl
theorem c3Y(K:Ex→St→Q45)(a0:A7)(a1:A7):∀(n:Nat) (x5:Int),(b4k FUEL K n a0 a1 x5:Q45)=a1m (K .ret (b0B)) (K (.exit 0) (a9f)) a0 a1 n x5:=by
 intro n
 induction n with
 |zero=>intros; rfl
 |succ n ih=>
  intro x5
  exact(c0U FUEL K n a0 a1 x5).trans (congrArg (fun f=>a2x f (K .ret (b0B)) (K (.exit 0) (a9f)) a0 a1 x5) (funext fun x5=>ih x5))
theorem d0n(k:Nat)(a0:A7)(a1:A7):fnK (a2Q k) 8 76 b8z a1x [.pv D9 a0,.pv D9 a1]=
 ((A9j (a2Q k) 0 (A0Z (a2Q k) (A7s (a2Q k) 8) 0 76 (sub b8y [1,0,1,0,0])) b0c (B4x 0 (B5Q (A0Z (a2Q k) (A7s (a2Q k) 8) 0 76 (sub b8y [1,1])) (B4C (a2Q k) b8z a1x))) k (c3Z a0 a1 (0:Int))):Q45):=by kernel_rfl
theorem d6m(a0:A7)(a1:A7):fnK (a2Q FUEL) 8 76 b8z a1x [.pv D9 a0,.pv D9 a1]=a4a a0 a1:=
 (d0n FUEL a0 a1).trans ((c3Y _ a0 a1 FUEL (0:Int)).trans (B5V (fun e0 e1=>a1m e0 e1 a0 a1 FUEL (0:Int)) ((c6I FUEL).trans (rfl)) ((c0T FUEL).trans (rfl))))
def c8c:Con:={ps:=K11,sh:=a1x,raw:=fun x=>a4a x.1 x.2.1}
theorem d0m:A8C D8 76 c8c:=B5n (d3F FUEL) (depth:=8) d9a fun x y h=>(d6m x.1 x.2.1).trans h
def a9Q:Cut:={keep:=[0,1,5],stk:=[],ids:=[],own:=[],outs:=[(0,[4],[]),(1,[],[])]}
def a2L(k:Nat):Cx:=y7 [] [(76,c8c)] [] [] [(31,[(0,a9Q)])] k [] false
theorem d2N(k:Nat):A9E D8 (a2L k):=C4 ⟨d0m,C5⟩ C5 C5 C5
abbrev a0S:List Sh:=[.pl .bool]
abbrev Q44:Type:=Option (A2K a0S)
def c3i(a0:B5)(a1:B5)(x5:Int):St:={env:=(.pv K22 a0:: .pv K22 a1::(dd 3 (.pv E8 x5::(dd 21 [])))),stk:=[],heap:=[]}
def b0v:St:={env:=(dd 4 (.pv .bool false::(dd 22 []))),stk:=[],heap:=[]}
def a8V:St:={env:=(dd 27 []),stk:=[],heap:=[]}
def q9(rec:Int→Q44)(kr:Q44)(ke0:Q44)(a0:B5)(a1:B5)(x5:Int):Q44:=
 (cond (decide (x5<(a0.length:Int)))
 (cond ((decide ((0:Int)≤x5))&&(decide (x5<(a0.length:Int))))
 (cond ((decide ((0:Int)≤x5))&&(decide (x5<(a1.length:Int))))
 (A1w (a4a (a0.getD (x5.toNat) (List.replicate 32 (0:Int))) (a1.getD (x5.toNat) (List.replicate 32 (0:Int)))) fun(b2:Bool)=>(cond (!b2)
 (kr)
 (rec (IntKind.wrap .i64 (x5+(1:Int))))))
 none)
 none)
 (ke0))
def q8(kr:Q44)(ke0:Q44)(a0:B5)(a1:B5):Nat→Int→Q44
 |0=>fun _=>none
 |n+1=>q9 (q8 kr ke0 a0 a1 n) kr ke0 a0 a1
def a3x(a0:B5)(a1:B5):Q44:=
 (cond (!(decide ((a0.length:Int)=(a1.length:Int))))
 (some false)
 (q8 (some false) (some true) a0 a1 FUEL (0:Int)))
def b3Q(k:Nat)(K:Ex→St→Q44)(n:Nat)(a0:B5)(a1:B5)(x5:Int):Q44:=A9j (a2L k) 0 (A0Z (a2L k) (A7s (a2L k) 8) 0 31 (sub b8b [1,1,0,1,0,0])) a9Q K n (c3i a0 a1 x5)
theorem c6A(k:Nat):((B4x 0 (B5Q (A0Z (a2L k) (A7s (a2L k) 8) 0 31 (sub b8b [1,1,1])) (B4C (a2L k) b8c a0S))) .ret (b0v):Q44)=
 ((some false):Q44):=by kernel_rfl
theorem c0q(k:Nat):((B4x 0 (B5Q (A0Z (a2L k) (A7s (a2L k) 8) 0 31 (sub b8b [1,1,1])) (B4C (a2L k) b8c a0S))) (.exit 0) (a8V):Q44)=
 ((some true):Q44):=by kernel_rfl
theorem c0r(k:Nat)(K:Ex→St→Q44)(n:Nat)(a0:B5)(a1:B5)(x5:Int):(b3Q k K (n+1) a0 a1 x5:Q44)=q9 ((fun x5=>b3Q k K n a0 a1 x5)) (K .ret (b0v)) (K (.exit 0) (a8V)) a0 a1 x5:=by kernel_rfl
theorem c3h(K:Ex→St→Q44)(a0:B5)(a1:B5):∀(n:Nat) (x5:Int),(b3Q FUEL K n a0 a1 x5:Q44)=q8 (K .ret (b0v)) (K (.exit 0) (a8V)) a0 a1 n x5:=by
 intro n
 induction n with
 |zero=>intros; rfl
 |succ n ih=>
  intro x5
  exact(c0r FUEL K n a0 a1 x5).trans (congrArg (fun f=>q9 f (K .ret (b0v)) (K (.exit 0) (a8V)) a0 a1 x5) (funext fun x5=>ih x5))
theorem c9L(k:Nat)(a0:B5)(a1:B5):fnK (a2L k) 8 31 b8c a0S [.pv K22 a0,.pv K22 a1]=
 ((cond (!(decide ((a0.length:Int)=(a1.length:Int))))
 (some false)
 (A9j (a2L k) 0 (A0Z (a2L k) (A7s (a2L k) 8) 0 31 (sub b8b [1,1,0,1,0,0])) a9Q (B4x 0 (B5Q (A0Z (a2L k) (A7s (a2L k) 8) 0 31 (sub b8b [1,1,1])) (B4C (a2L k) b8c a0S))) k (c3i a0 a1 (0:Int)))):Q44):=by kernel_rfl
theorem d5M(a0:B5)(a1:B5):fnK (a2L FUEL) 8 31 b8c a0S [.pv K22 a0,.pv K22 a1]=a3x a0 a1:=
 (c9L FUEL a0 a1).trans (B5U (rfl) ((c3h _ a0 a1 FUEL (0:Int)).trans (B5V (fun e0 e1=>q8 e0 e1 a0 a1 FUEL (0:Int)) ((c6A FUEL).trans (rfl)) ((c0q FUEL).trans (rfl)))))
def c7L:Con:={ps:=(.pair K22 K18),sh:=a0S,raw:=fun x=>a3x x.1 x.2.1}
theorem c9K:A8C D8 31 c7L:=B5n (d2N FUEL) (depth:=8) d8q fun x y h=>(d5M x.1 x.2.1).trans h
end
end Go.Ai.G
