/- Printed: plain functions,and that the Go functions do what they say. No conditions. -/
import Derived.Test.YtkpacjofafjonabGreatExactFetchAllTab
namespace Go.Ai.G
noncomputable section
open Go.Proofs
open Go.Ai
set_option linter.unusedVariables false
set_option linter.unusedSimpArgs false
set_option maxRecDepth 100000
def c7q(k:Nat):Cx:=y7 [] [] [] [] [] k [] false
theorem c8U(k:Nat):A9E D8 (c7q k):=C4 C5 C5 C5 C5
abbrev a4I:List Sh:=[.pl (.int .i64)]
abbrev Q53:Type:=Option (A2K a4I)
def a4c(a0:A7)(a1:Int):Q53:=
 (cond (decide ((IntKind.wrap .i64 (a1-(a0.length:Int)))<(0:Int)))
 (some (-1:Int))
 (some (IntKind.wrap .i64 (a1-(a0.length:Int)))))
theorem d1K(a0:A7)(a1:Int):fnK (c7q FUEL) 8 137 d1J a4I [.pv K26 a0,.pv E8 a1]=a4c a0 a1:=by kernel_rfl
def c2j:Con:={ps:=K14,sh:=a4I,raw:=fun x=>a4c x.1 x.2.1}
theorem c5z:A8C D8 137 c2j:=B5n (c8U FUEL) (depth:=8) d4X fun x y h=>(d1K x.1 x.2.1).trans h
def c7g(k:Nat):Cx:=y7 [] [(137,c2j)] [] [] [] k [] false
theorem c8x(k:Nat):A9E D8 (c7g k):=C4 ⟨c5z,C5⟩ C5 C5 C5
abbrev a5s:List Sh:=[.pl (.int .i64)]
abbrev Q52:Type:=Option (A2K a5s)
def a2I(a0:T9)(a1:Int):Q52:=
 (A1w (a4c a0.2.1 a1) fun(b1:Int)=>(cond (decide (b1<(0:Int)))
 (some (-1:Int))
 (some b1)))
theorem d1d(a0:T9)(a1:Int):fnK (c7g FUEL) 8 103 d1c a5s [.pv o4 a0,.pv E8 a1]=a2I a0 a1:=by kernel_rfl
def c1L:Con:={ps:=(.pair o4 K24),sh:=a5s,raw:=fun x=>a2I x.1 x.2.1}
theorem c4S:A8C D8 103 c1L:=B5n (c8x FUEL) (depth:=8) d4y fun x y h=>(d1d x.1 x.2.1).trans h
def a9V:Cut:={keep:=[0,1,5],stk:=[],ids:=[],own:=[],outs:=[(0,[4],[]),(1,[1],[])]}
def a2N(k:Nat):Cx:=y7 [] [(103,c1L)] [] [] [(61,[(0,a9V)])] k [] false
theorem d3o(k:Nat):A9E D8 (a2N k):=C4 ⟨c4S,C5⟩ C5 C5 C5
abbrev a0o:List Sh:=[.pl (.int .i64)]
abbrev Q51:Type:=Option (A2K a0o)
def c3B(a0:T6)(x1:Int)(x5:Int):St:={env:=(.pv K12 a0:: .pv E8 x1::(dd 3 (.pv E8 x5::(dd 21 [])))),stk:=[],heap:=[]}
def b0x:St:={env:=(dd 4 (.pv E8 (-1:Int)::(dd 22 []))),stk:=[],heap:=[]}
def a8Z(x1:Int):St:={env:=(.dead:: .pv E8 x1::(dd 25 [])),stk:=[],heap:=[]}
def f9(rec:Int→Int→Q51)(kr:Q51)(ke0:Int→Q51)(a0:T6)(x1:Int)(x5:Int):Q51:=
 (cond (decide (x5<(a0.length:Int)))
 (cond ((decide ((0:Int)≤x5))&&(decide (x5<(a0.length:Int))))
 (A1w (a2I (a0.getD (x5.toNat) ((0:Int),([],()))) x1) fun(b2:Int)=>(cond (decide (b2<(0:Int)))
 (kr)
 (rec b2 (IntKind.wrap .i64 (x5+(1:Int))))))
 none)
 (ke0 x1))
def f8(kr:Q51)(ke0:Int→Q51)(a0:T6):Nat→Int→Int→Q51
 |0=>fun _ _=>none
 |n+1=>f9 (f8 kr ke0 a0 n) kr ke0 a0
def a3e(a0:T6)(a1:Int):Q51:=
 (cond (decide ((IntKind.wrap .i64 (a1-(a0.length:Int)))<(0:Int)))
 (some (-1:Int))
 (f8 (some (-1:Int)) (fun x1=>(some x1)) a0 FUEL (IntKind.wrap .i64 (a1-(a0.length:Int))) (0:Int)))
def b3Z(k:Nat)(K:Ex→St→Q51)(n:Nat)(a0:T6)(x1:Int)(x5:Int):Q51:=A9j (a2N k) 0 (A0Z (a2N k) (A7s (a2N k) 8) 0 61 (sub b8o [1,1,1,0,1,0,0])) a9V K n (c3B a0 x1 x5)
theorem c6D(k:Nat):((B4x 0 (B5Q (A0Z (a2N k) (A7s (a2N k) 8) 0 61 (sub b8o [1,1,1,1])) (B4C (a2N k) b8p a0o))) .ret (b0x):Q51)=
 ((some (-1:Int)):Q51):=by kernel_rfl
theorem c0I(k:Nat)(x1:Int):((B4x 0 (B5Q (A0Z (a2N k) (A7s (a2N k) 8) 0 61 (sub b8o [1,1,1,1])) (B4C (a2N k) b8p a0o))) (.exit 0) (a8Z x1):Q51)=
 ((some x1):Q51):=by kernel_rfl
theorem c0J(k:Nat)(K:Ex→St→Q51)(n:Nat)(a0:T6)(x1:Int)(x5:Int):(b3Z k K (n+1) a0 x1 x5:Q51)=f9 ((fun x1 x5=>b3Z k K n a0 x1 x5)) (K .ret (b0x)) (fun x1=>K (.exit 0) (a8Z x1)) a0 x1 x5:=by kernel_rfl
theorem c3A(K:Ex→St→Q51)(a0:T6):∀(n:Nat) (x1:Int) (x5:Int),(b3Z FUEL K n a0 x1 x5:Q51)=f8 (K .ret (b0x)) (fun x1=>K (.exit 0) (a8Z x1)) a0 n x1 x5:=by
 intro n
 induction n with
 |zero=>intros; rfl
 |succ n ih=>
  intro x1 x5
  exact(c0J FUEL K n a0 x1 x5).trans (congrArg (fun f=>f9 f (K .ret (b0x)) (fun x1=>K (.exit 0) (a8Z x1)) a0 x1 x5) (funext fun x1=>funext fun x5=>ih x1 x5))
theorem c9X(k:Nat)(a0:T6)(a1:Int):fnK (a2N k) 8 61 b8p a0o [.pv K12 a0,.pv E8 a1]=
 ((cond (decide ((IntKind.wrap .i64 (a1-(a0.length:Int)))<(0:Int)))
 (some (-1:Int))
 (A9j (a2N k) 0 (A0Z (a2N k) (A7s (a2N k) 8) 0 61 (sub b8o [1,1,1,0,1,0,0])) a9V (B4x 0 (B5Q (A0Z (a2N k) (A7s (a2N k) 8) 0 61 (sub b8o [1,1,1,1])) (B4C (a2N k) b8p a0o))) k (c3B a0 (IntKind.wrap .i64 (a1-(a0.length:Int))) (0:Int)))):Q51):=by kernel_rfl
theorem d6b(a0:T6)(a1:Int):fnK (a2N FUEL) 8 61 b8p a0o [.pv K12 a0,.pv E8 a1]=a3e a0 a1:=
 (c9X FUEL a0 a1).trans (B5U (rfl) ((c3A _ a0 FUEL (IntKind.wrap .i64 (a1-(a0.length:Int))) (0:Int)).trans (B5V (fun e0 e1=>f8 e0 e1 a0 FUEL (IntKind.wrap .i64 (a1-(a0.length:Int))) (0:Int)) ((c6D FUEL).trans (rfl)) (funext fun x1=>(c0I FUEL x1).trans (rfl)))))
def c7T:Con:={ps:=(.pair K12 K24),sh:=a0o,raw:=fun x=>a3e x.1 x.2.1}
theorem c9W:A8C D8 61 c7T:=B5n (d3o FUEL) (depth:=8) d8L fun x y h=>(d6b x.1 x.2.1).trans h
def d2D(k:Nat):Cx:=y7 [] [(61,c7T)] [] [] [] k [] false
theorem d2E(k:Nat):A9E D8 (d2D k):=C4 ⟨c9W,C5⟩ C5 C5 C5
abbrev a4J:List Sh:=[.pl (.int .i64)]
abbrev Q55:Type:=Option (A2K a4J)
def a1I(a0:T4)(a1:Int):Q55:=
 (A1w (a3e a0.1 a1) fun(b1:Int)=>(cond (decide (b1<(0:Int)))
 (some (-1:Int))
 (some b1)))
theorem d5G(a0:T4)(a1:Int):fnK (d2D FUEL) 8 23 d6Q a4J [.pv K4 a0,.pv E8 a1]=a1I a0 a1:=by kernel_rfl
def c7F:Con:={ps:=(.pair K4 K24),sh:=a4J,raw:=fun x=>a1I x.1 x.2.1}
theorem c9A:A8C D8 23 c7F:=B5n (d2E FUEL) (depth:=8) d8i fun x y h=>(d5G x.1 x.2.1).trans h
def d2F(k:Nat):Cx:=y7 [] [] [] [] [] k [] false
theorem d2G(k:Nat):A9E D8 (d2F k):=C4 C5 C5 C5 C5
abbrev a5t:List Sh:=[.pl (.int .i64)]
abbrev Q54:Type:=Option (A2K a5t)
def a3y(a0:B5)(a1:Int):Q54:=
 (cond (decide ((IntKind.wrap .i64 (a1-(a0.length:Int)))<(0:Int)))
 (some (-1:Int))
 (some (IntKind.wrap .i64 (a1-(a0.length:Int)))))
theorem d5H(a0:B5)(a1:Int):fnK (d2F FUEL) 8 24 d6R a5t [.pv K22 a0,.pv E8 a1]=a3y a0 a1:=by kernel_rfl
def c7G:Con:={ps:=K10,sh:=a5t,raw:=fun x=>a3y x.1 x.2.1}
theorem c9B:A8C D8 24 c7G:=B5n (d2G FUEL) (depth:=8) d8j fun x y h=>(d5H x.1 x.2.1).trans h
def a7R:Cut:={keep:=[0,3,4],stk:=[],ids:=[70],own:=[],outs:=[(1,[3],[70])]}
def a2l(k:Nat):Cx:=y7 [] [] [] [] [(140,[(0,a7R)])] k [] false
theorem c8X(k:Nat):A9E D8 (a2l k):=C4 C5 C5 C5 C5
abbrev a1n:List Sh:=[.own 5 (.int .u8)]
abbrev Q58:Type:=Option (A2K a1n)
def b7u(a0:A7)(x4:Int)(z70:A7):St:={env:=(.pv K26 a0:: .dead:: .dead:: .sl 70 k0B:: .pv E8 x4::(dd 17 [])),stk:=[],heap:=[(70,.arr 5 k0B z70)]}
def a6q(z70:A7):St:={env:=(dd 3 (.sl 70 k0B::(dd 18 []))),stk:=[],heap:=[(70,.arr 5 k0B z70)]}
def g9(rec:Int→A7→Q58)(ke0:A7→Q58)(a0:A7)(x4:Int)(z70:A7):Q58:=
 (cond (decide (x4<(a0.length:Int)))
 (cond ((decide ((0:Int)≤x4))&&(decide (x4<(a0.length:Int))))
 (cond ((decide ((0:Int)≤x4))&&(decide (x4<(z70.length:Int))))
 (rec (IntKind.wrap .i64 (x4+(1:Int))) (z70.set (x4.toNat) (a0.getD (x4.toNat) (0:Int))))
 none)
 none)
 (ke0 z70))
def g8(ke0:A7→Q58)(a0:A7):Nat→Int→A7→Q58
 |0=>fun _ _=>none
 |n+1=>g9 (g8 ke0 a0 n) ke0 a0
def a3f(a0:A7):Q58:=
 (cond (((decide ((0:Int)≤(a0.length:Int)))&&(decide (((a0.length:Int)*(1:Int))≤(140737488355328:Int))))&&(decide ((a0.length:Int)≤(9223372036854775807:Int))))
 (g8 (fun z70=>(some z70)) a0 FUEL (0:Int) (List.replicate ((a0.length:Int).toNat) (0:Int)))
 none)
def b1t(k:Nat)(K:Ex→St→Q58)(n:Nat)(a0:A7)(x4:Int)(z70:A7):Q58:=A9j (a2l k) 0 (A0Z (a2l k) (A7s (a2l k) 8) 0 140 (sub b3j [1,1,0,1,0,0])) a7R K n (b7u a0 x4 z70)
theorem b5u(k:Nat)(z70:A7):((B4x 0 (B5Q (A0Z (a2l k) (A7s (a2l k) 8) 0 140 (sub b3j [1,1,1])) (B4C (a2l k) b3k a1n))) (.exit 0) (a6q z70):Q58)=
 ((some z70):Q58):=by kernel_rfl
theorem b5v(k:Nat)(K:Ex→St→Q58)(n:Nat)(a0:A7)(x4:Int)(z70:A7):(b1t k K (n+1) a0 x4 z70:Q58)=g9 ((fun x4 z70=>b1t k K n a0 x4 z70)) (fun z70=>K (.exit 0) (a6q z70)) a0 x4 z70:=by kernel_rfl
theorem b9x(K:Ex→St→Q58)(a0:A7):∀(n:Nat) (x4:Int) (z70:A7),(b1t FUEL K n a0 x4 z70:Q58)=g8 (fun z70=>K (.exit 0) (a6q z70)) a0 n x4 z70:=by
 intro n
 induction n with
 |zero=>intros; rfl
 |succ n ih=>
  intro x4 z70
  exact(b5v FUEL K n a0 x4 z70).trans (congrArg (fun f=>g9 f (fun z70=>K (.exit 0) (a6q z70)) a0 x4 z70) (funext fun x4=>funext fun z70=>ih x4 z70))
theorem c5E(k:Nat)(a0:A7):fnK (a2l k) 8 140 b3k a1n [.pv K26 a0]=
 ((cond (((decide ((0:Int)≤(a0.length:Int)))&&(decide (((a0.length:Int)*(1:Int))≤(140737488355328:Int))))&&(decide ((a0.length:Int)≤(9223372036854775807:Int))))
 (A9j (a2l k) 0 (A0Z (a2l k) (A7s (a2l k) 8) 0 140 (sub b3j [1,1,0,1,0,0])) a7R (B4x 0 (B5Q (A0Z (a2l k) (A7s (a2l k) 8) 0 140 (sub b3j [1,1,1])) (B4C (a2l k) b3k a1n))) k (b7u a0 (0:Int) (List.replicate ((a0.length:Int).toNat) (0:Int))))
 none):Q58):=by kernel_rfl
theorem d1O(a0:A7):fnK (a2l FUEL) 8 140 b3k a1n [.pv K26 a0]=a3f a0:=
 (c5E FUEL a0).trans (B5U ((b9x _ a0 FUEL (0:Int) (List.replicate ((a0.length:Int).toNat) (0:Int))).trans (congrArg (fun e0=>g8 e0 a0 FUEL (0:Int) (List.replicate ((a0.length:Int).toNat) (0:Int))) (funext fun z70=>(b5u FUEL z70).trans (rfl)))) (rfl))
def c2m:Con:={ps:=K20,sh:=a1n,raw:=fun x=>a3f x.1}
theorem c5D:A8C D8 140 c2m:=B5n (c8X FUEL) (depth:=8) d5a fun x y h=>(d1O x.1).trans h
def c7i(k:Nat):Cx:=y7 [] [(140,c2m)] [] [] [] k [] false
theorem c8C(k:Nat):A9E D8 (c7i k):=C4 ⟨c5D,C5⟩ C5 C5 C5
abbrev a5u:List Sh:=[.pr (.pl (.int .u8)) (.pr (.own 5 (.int .u8)) (.pl .unit))]
abbrev Q57:Type:=Option (A2K a5u)
def a3z(a0:T9):Q57:=
 (A1w (a3f a0.2.1) fun(b1:A7)=>(some (a0.1,(b1,()))))
theorem d1k(a0:T9):fnK (c7i FUEL) 8 108 d1j a5u [.pv o4 a0]=a3z a0:=by kernel_rfl
def c1Q:Con:={ps:=K8,sh:=a5u,raw:=fun x=>a3z x.1}
theorem c4Y:A8C D8 108 c1Q:=B5n (c8C FUEL) (depth:=8) d4D fun x y h=>(d1k x.1).trans h
def a7a:Cut:={keep:=[0,3,4],stk:=[],ids:=[70],own:=[],outs:=[(1,[3],[70])]}
def a0M(k:Nat):Cx:=y7 [] [(108,c1Q)] [] [] [(66,[(0,a7a)])] k dps false
theorem c6F(k:Nat):A9E D8 (a0M k):=C4 ⟨c4Y,C5⟩ C5 C5 C5
abbrev a0f:List Sh:=[.tre 29 (.pr (.pl (.int .u8)) (.pr (.sl 5 (.pl (.int .u8))) (.pl .unit)))]
abbrev Q56:Type:=Option (A2K a0f)
def b4d(a0:T6)(x4:Int)(z70:T6):St:={env:=(.pv K12 a0:: .dead:: .dead:: .inn 70 [] o4:: .pv E8 x4::(dd 18 [])),stk:=[],heap:=[(70,.tre 29 (.pr (.pl (.int .u8)) (.pr (.sl 5 (.pl (.int .u8))) (.pl .unit))) z70)]}
def a5E(z70:T6):St:={env:=(dd 3 (.inn 70 [] o4::(dd 19 []))),stk:=[],heap:=[(70,.tre 29 (.pr (.pl (.int .u8)) (.pr (.sl 5 (.pl (.int .u8))) (.pl .unit))) z70)]}
def V4(rec:Int→T6→Q56)(ke0:T6→Q56)(a0:T6)(x4:Int)(z70:T6):Q56:=
 (cond (decide (x4<(a0.length:Int)))
 (cond ((decide ((0:Int)≤x4))&&(decide (x4<(a0.length:Int))))
 (A1w (a3z (a0.getD (x4.toNat) ((0:Int),([],())))) fun(b2:T9)=>(cond ((decide ((0:Int)≤x4))&&(decide (x4<(z70.length:Int))))
 (rec (IntKind.wrap .i64 (x4+(1:Int))) (z70.set (x4.toNat) (b2.1,(b2.2.1,()))))
 none))
 none)
 (ke0 z70))
def V3(ke0:T6→Q56)(a0:T6):Nat→Int→T6→Q56
 |0=>fun _ _=>none
 |n+1=>V4 (V3 ke0 a0 n) ke0 a0
def a1J(a0:T6):Q56:=
 (cond (((decide ((0:Int)≤(a0.length:Int)))&&(decide (((a0.length:Int)*(32:Int))≤(140737488355328:Int))))&&(decide ((a0.length:Int)≤(9223372036854775807:Int))))
 (V3 (fun z70=>(some z70)) a0 FUEL (0:Int) (List.replicate ((a0.length:Int).toNat) ((0:Int),([],()))))
 none)
def a9X(k:Nat)(K:Ex→St→Q56)(n:Nat)(a0:T6)(x4:Int)(z70:T6):Q56:=A9j (a0M k) 0 (A0Z (a0M k) (A7s (a0M k) 8) 0 66 (sub c3F [1,1,0,1,0,0])) a7a K n (b4d a0 x4 z70)
theorem b4b(k:Nat)(z70:T6):((B4x 0 (B5Q (A0Z (a0M k) (A7s (a0M k) 8) 0 66 (sub c3F [1,1,1])) (B4C (a0M k) c3I a0f))) (.exit 0) (a5E z70):Q56)=
 ((some z70):Q56):=by kernel_rfl
theorem b4c(k:Nat)(K:Ex→St→Q56)(n:Nat)(a0:T6)(x4:Int)(z70:T6):(a9X k K (n+1) a0 x4 z70:Q56)=V4 ((fun x4 z70=>a9X k K n a0 x4 z70)) (fun z70=>K (.exit 0) (a5E z70)) a0 x4 z70:=by kernel_rfl
theorem b6F(K:Ex→St→Q56)(a0:T6):∀(n:Nat) (x4:Int) (z70:T6),(a9X FUEL K n a0 x4 z70:Q56)=V3 (fun z70=>K (.exit 0) (a5E z70)) a0 n x4 z70:=by
 intro n
 induction n with
 |zero=>intros; rfl
 |succ n ih=>
  intro x4 z70
  exact(b4c FUEL K n a0 x4 z70).trans (congrArg (fun f=>V4 f (fun z70=>K (.exit 0) (a5E z70)) a0 x4 z70) (funext fun x4=>funext fun z70=>ih x4 z70))
theorem c3H(k:Nat)(a0:T6):fnK (a0M k) 8 66 c3I a0f [.pv K12 a0]=
 ((cond (((decide ((0:Int)≤(a0.length:Int)))&&(decide (((a0.length:Int)*(32:Int))≤(140737488355328:Int))))&&(decide ((a0.length:Int)≤(9223372036854775807:Int))))
 (A9j (a0M k) 0 (A0Z (a0M k) (A7s (a0M k) 8) 0 66 (sub c3F [1,1,0,1,0,0])) a7a (B4x 0 (B5Q (A0Z (a0M k) (A7s (a0M k) 8) 0 66 (sub c3F [1,1,1])) (B4C (a0M k) c3I a0f))) k (b4d a0 (0:Int) (List.replicate ((a0.length:Int).toNat) ((0:Int),([],())))))
 none):Q56):=by kernel_rfl
theorem d0b(a0:T6):fnK (a0M FUEL) 8 66 c3I a0f [.pv K12 a0]=a1J a0:=
 (c3H FUEL a0).trans (B5U ((b6F _ a0 FUEL (0:Int) (List.replicate ((a0.length:Int).toNat) ((0:Int),([],())))).trans (congrArg (fun e0=>V3 e0 a0 FUEL (0:Int) (List.replicate ((a0.length:Int).toNat) ((0:Int),([],())))) (funext fun z70=>(b4b FUEL z70).trans (rfl)))) (rfl))
def b8t:Con:={ps:=K4,sh:=a0f,raw:=fun x=>a1J x.1}
theorem c3G:A8C D8 66 b8t:=B5n (c6F FUEL) (depth:=8) d8Q fun x y h=>(d0b x.1).trans h
def c3a(k:Nat):Cx:=y7 [] [(66,b8t)] [] [] [] k dps false
theorem c6y(k:Nat):A9E D8 (c3a k):=C4 ⟨c3G,C5⟩ C5 C5 C5
abbrev a4e:List Sh:=[.pr (.tre 29 (.pr (.pl (.int .u8)) (.pr (.sl 5 (.pl (.int .u8))) (.pl .unit)))) (.pl .unit)]
abbrev Q61:Type:=Option (A2K a4e)
def L8(a0:T4):Q61:=
 (A1w (a1J a0.1) fun(b1:T6)=>(some (b1,())))
theorem c9E(a0:T4):fnK (c3a FUEL) 8 26 d6S a4e [.pv K4 a0]=L8 a0:=by kernel_rfl
def b7Y:Con:={ps:=K3,sh:=a4e,raw:=fun x=>L8 x.1}
theorem c2Z:A8C D8 26 b7Y:=B5n (c6y FUEL) (depth:=8) d8l fun x y h=>(c9E x.1).trans h
def a9Y:Cut:={keep:=[1,2,3,4],stk:=[],ids:=[10,20,30],own:=[],outs:=[(1,[2,3],[20,30])]}
def a3D(k:Nat):Cx:=y7 [] [] [] [] [(67,[(0,a9Y)])] k [] false
theorem d3u(k:Nat):A9E D8 (a3D k):=C4 C5 C5 C5 C5
abbrev a2J:List Sh:=[.pl (.arr 32 k0B)]
abbrev Q60:Type:=Option (A2K a2J)
def c3M(a0:A7)(x4:Int)(G9:A7):St:={env:=(.dead:: .ptr 10 D9 []:: .ptr 20 D9 []:: .ptr 30 D9 []:: .pv E8 x4::(dd 10 [])),stk:=[],heap:=[(10,.var D9 (.pv D9 a0)),(20,.var D9 (.pv D9 (List.replicate 32 (0:Int)))),(30,.var D9 (.pv D9 G9))]}
def a9b(G9:A7):St:={env:=(.dead:: .dead:: .ptr 20 D9 []:: .ptr 30 D9 []::(dd 11 [])),stk:=[],heap:=[(20,.var D9 (.pv D9 (List.replicate 32 (0:Int)))),(30,.var D9 (.pv D9 G9))]}
def a0q(rec:Int→A7→Q60)(ke0:A7→Q60)(a0:A7)(x4:Int)(G9:A7):Q60:=
 (cond (decide (x4<(32:Int)))
 (cond ((decide ((0:Int)≤x4))&&(decide (x4<(32:Int))))
 (cond ((decide ((0:Int)≤x4))&&(decide (x4<(32:Int))))
 (rec (IntKind.wrap .i64 (x4+(1:Int))) (G9.set (x4.toNat) (a0.getD (x4.toNat) (0:Int))))
 none)
 none)
 (ke0 G9))
def a0p(ke0:A7→Q60)(a0:A7):Nat→Int→A7→Q60
 |0=>fun _ _=>none
 |n+1=>a0q (a0p ke0 a0 n) ke0 a0
def a4d(a0:A7):Q60:=
 (a0p (fun G9=>(some G9)) a0 FUEL (0:Int) (List.replicate 32 (0:Int)))
def b4e(k:Nat)(K:Ex→St→Q60)(n:Nat)(a0:A7)(x4:Int)(G9:A7):Q60:=A9j (a3D k) 0 (A0Z (a3D k) (A7s (a3D k) 8) 0 67 (sub c3J [1,1,0,1,0,0])) a9Y K n (c3M a0 x4 G9)
theorem c0N(k:Nat)(G9:A7):((B4x 0 (B5Q (A0Z (a3D k) (A7s (a3D k) 8) 0 67 (sub c3J [1,1,1])) (B4C (a3D k) c3K a2J))) (.exit 0) (a9b G9):Q60)=
 ((some G9):Q60):=by kernel_rfl
theorem c0O(k:Nat)(K:Ex→St→Q60)(n:Nat)(a0:A7)(x4:Int)(G9:A7):(b4e k K (n+1) a0 x4 G9:Q60)=a0q ((fun x4 G9=>b4e k K n a0 x4 G9)) (fun G9=>K (.exit 0) (a9b G9)) a0 x4 G9:=by kernel_rfl
theorem c3L(K:Ex→St→Q60)(a0:A7):∀(n:Nat) (x4:Int) (G9:A7),(b4e FUEL K n a0 x4 G9:Q60)=a0p (fun G9=>K (.exit 0) (a9b G9)) a0 n x4 G9:=by
 intro n
 induction n with
 |zero=>intros; rfl
 |succ n ih=>
  intro x4 G9
  exact(c0O FUEL K n a0 x4 G9).trans (congrArg (fun f=>a0q f (fun G9=>K (.exit 0) (a9b G9)) a0 x4 G9) (funext fun x4=>funext fun G9=>ih x4 G9))
theorem d0d(k:Nat)(a0:A7):fnK (a3D k) 8 67 c3K a2J [.pv D9 a0]=
 ((A9j (a3D k) 0 (A0Z (a3D k) (A7s (a3D k) 8) 0 67 (sub c3J [1,1,0,1,0,0])) a9Y (B4x 0 (B5Q (A0Z (a3D k) (A7s (a3D k) 8) 0 67 (sub c3J [1,1,1])) (B4C (a3D k) c3K a2J))) k (c3M a0 (0:Int) (List.replicate 32 (0:Int)))):Q60):=by kernel_rfl
theorem d6f(a0:A7):fnK (a3D FUEL) 8 67 c3K a2J [.pv D9 a0]=a4d a0:=
 (d0d FUEL a0).trans ((c3L _ a0 FUEL (0:Int) (List.replicate 32 (0:Int))).trans (congrArg (fun e0=>a0p e0 a0 FUEL (0:Int) (List.replicate 32 (0:Int))) (funext fun G9=>(c0N FUEL G9).trans (rfl))))
def c7W:Con:={ps:=K19,sh:=a2J,raw:=fun x=>a4d x.1}
theorem d0c:A8C D8 67 c7W:=B5n (d3u FUEL) (depth:=8) d8R fun x y h=>(d6f x.1).trans h
def a9N:Cut:={keep:=[0,3,4],stk:=[],ids:=[70],own:=[],outs:=[(1,[3],[70])]}
def a3B(k:Nat):Cx:=y7 [] [(67,c7W)] [] [] [(27,[(0,a9N)])] k [] false
theorem d2I(k:Nat):A9E D8 (a3B k):=C4 ⟨d0c,C5⟩ C5 C5 C5
abbrev a1K:List Sh:=[.own 32 (.arr 32 k0B)]
abbrev Q59:Type:=Option (A2K a1K)
def c3e(a0:B5)(x4:Int)(z70:B5):St:={env:=(.pv K22 a0:: .dead:: .dead:: .sl 70 D9:: .pv E8 x4::(dd 18 [])),stk:=[],heap:=[(70,.arr 32 D9 z70)]}
def a8U(z70:B5):St:={env:=(dd 3 (.sl 70 D9::(dd 19 []))),stk:=[],heap:=[(70,.arr 32 D9 z70)]}
def r8(rec:Int→B5→Q59)(ke0:B5→Q59)(a0:B5)(x4:Int)(z70:B5):Q59:=
 (cond (decide (x4<(a0.length:Int)))
 (cond ((decide ((0:Int)≤x4))&&(decide (x4<(a0.length:Int))))
 (A1w (a4d (a0.getD (x4.toNat) (List.replicate 32 (0:Int)))) fun(b2:A7)=>(cond ((decide ((0:Int)≤x4))&&(decide (x4<(z70.length:Int))))
 (rec (IntKind.wrap .i64 (x4+(1:Int))) (z70.set (x4.toNat) b2))
 none))
 none)
 (ke0 z70))
def r7(ke0:B5→Q59)(a0:B5):Nat→Int→B5→Q59
 |0=>fun _ _=>none
 |n+1=>r8 (r7 ke0 a0 n) ke0 a0
def a0C(a0:B5):Q59:=
 (cond (((decide ((0:Int)≤(a0.length:Int)))&&(decide (((a0.length:Int)*(32:Int))≤(140737488355328:Int))))&&(decide ((a0.length:Int)≤(9223372036854775807:Int))))
 (r7 (fun z70=>(some z70)) a0 FUEL (0:Int) (List.replicate ((a0.length:Int).toNat) (List.replicate 32 (0:Int))))
 none)
def b3K(k:Nat)(K:Ex→St→Q59)(n:Nat)(a0:B5)(x4:Int)(z70:B5):Q59:=A9j (a3B k) 0 (A0Z (a3B k) (A7s (a3B k) 8) 0 27 (sub c3b [1,1,0,1,0,0])) a9N K n (c3e a0 x4 z70)
theorem c0m(k:Nat)(z70:B5):((B4x 0 (B5Q (A0Z (a3B k) (A7s (a3B k) 8) 0 27 (sub c3b [1,1,1])) (B4C (a3B k) c3c a1K))) (.exit 0) (a8U z70):Q59)=
 ((some z70):Q59):=by kernel_rfl
theorem c0n(k:Nat)(K:Ex→St→Q59)(n:Nat)(a0:B5)(x4:Int)(z70:B5):(b3K k K (n+1) a0 x4 z70:Q59)=r8 ((fun x4 z70=>b3K k K n a0 x4 z70)) (fun z70=>K (.exit 0) (a8U z70)) a0 x4 z70:=by kernel_rfl
theorem c3d(K:Ex→St→Q59)(a0:B5):∀(n:Nat) (x4:Int) (z70:B5),(b3K FUEL K n a0 x4 z70:Q59)=r7 (fun z70=>K (.exit 0) (a8U z70)) a0 n x4 z70:=by
 intro n
 induction n with
 |zero=>intros; rfl
 |succ n ih=>
  intro x4 z70
  exact(c0n FUEL K n a0 x4 z70).trans (congrArg (fun f=>r8 f (fun z70=>K (.exit 0) (a8U z70)) a0 x4 z70) (funext fun x4=>funext fun z70=>ih x4 z70))
theorem c9G(k:Nat)(a0:B5):fnK (a3B k) 8 27 c3c a1K [.pv K22 a0]=
 ((cond (((decide ((0:Int)≤(a0.length:Int)))&&(decide (((a0.length:Int)*(32:Int))≤(140737488355328:Int))))&&(decide ((a0.length:Int)≤(9223372036854775807:Int))))
 (A9j (a3B k) 0 (A0Z (a3B k) (A7s (a3B k) 8) 0 27 (sub c3b [1,1,0,1,0,0])) a9N (B4x 0 (B5Q (A0Z (a3B k) (A7s (a3B k) 8) 0 27 (sub c3b [1,1,1])) (B4C (a3B k) c3c a1K))) k (c3e a0 (0:Int) (List.replicate ((a0.length:Int).toNat) (List.replicate 32 (0:Int)))))
 none):Q59):=by kernel_rfl
theorem d5J(a0:B5):fnK (a3B FUEL) 8 27 c3c a1K [.pv K22 a0]=a0C a0:=
 (c9G FUEL a0).trans (B5U ((c3d _ a0 FUEL (0:Int) (List.replicate ((a0.length:Int).toNat) (List.replicate 32 (0:Int)))).trans (congrArg (fun e0=>r7 e0 a0 FUEL (0:Int) (List.replicate ((a0.length:Int).toNat) (List.replicate 32 (0:Int)))) (funext fun z70=>(c0m FUEL z70).trans (rfl)))) (rfl))
def c7I:Con:={ps:=K18,sh:=a1K,raw:=fun x=>a0C x.1}
theorem c9F:A8C D8 27 c7I:=B5n (d2I FUEL) (depth:=8) d8m fun x y h=>(d5J x.1).trans h
def d2R(k:Nat):Cx:=y7 [] [] [] [] [] k [] false
theorem d2S(k:Nat):A9E D8 (d2R k):=C4 C5 C5 C5 C5
abbrev a4P:List Sh:=[.pl .bool]
abbrev Q90:Type:=Option (A2K a4P)
def a1V(a0:T9):Q90:=
 (some (decide ((a0.2.1.length:Int)≤(1024:Int))))
theorem d5P(a0:T9):fnK (d2R FUEL) 8 41 d6Y a4P [.pv (.ref o4) a0]=a1V a0:=by kernel_rfl
def c7O:Con:={ps:=K6,sh:=a4P,raw:=fun x=>a1V x.1}
theorem c9P:A8C D8 41 c7O:=B5n (d2S FUEL) (depth:=8) d8w fun x y h=>(d5P x.1).trans h
def a7Y:Cut:={keep:=[0,2,3,4],stk:=[],ids:=[20,30],own:=[],outs:=[(1,[2,3],[20,30])]}
def a2m(k:Nat):Cx:=y7 [] [] [] [] [(157,[(0,a7Y)])] k [] false
theorem c9e(k:Nat):A9E D8 (a2m k):=C4 C5 C5 C5 C5
abbrev a0H:List Sh:=[.pl (.arr 8 (.int .u32))]
abbrev Q82:Type:=Option (A2K a0H)
def b7C(a0:Int)(x4:Int)(G9:A7):St:={env:=(.pv k0B a0:: .dead:: .ptr 20 G7 []:: .ptr 30 G7 []:: .pv E8 x4::(dd 15 [])),stk:=[],heap:=[(20,.var G7 (.pv G7 (List.replicate 8 (0:Int)))),(30,.var G7 (.pv G7 G9))]}
def a6y(G9:A7):St:={env:=(.dead:: .dead:: .ptr 20 G7 []:: .ptr 30 G7 []::(dd 16 [])),stk:=[],heap:=[(20,.var G7 (.pv G7 (List.replicate 8 (0:Int)))),(30,.var G7 (.pv G7 G9))]}
def a0Y(rec:Int→A7→Q82)(ke0:A7→Q82)(a0:Int)(x4:Int)(G9:A7):Q82:=
 (cond (decide (x4<(8:Int)))
 (cond ((decide ((0:Int)≤x4))&&(decide (x4<(8:Int))))
 (rec (IntKind.wrap .i64 (x4+(1:Int))) (G9.set (x4.toNat) (IntKind.wrap .u32 ((IntKind.wrap .u32 ((16777619:Int)*(IntKind.wrap .u32 (IntKind.wrap .i64 (x4+(1:Int))))))+(IntKind.wrap .u32 a0)))))
 none)
 (ke0 G9))
def u6(ke0:A7→Q82)(a0:Int):Nat→Int→A7→Q82
 |0=>fun _ _=>none
 |n+1=>a0Y (u6 ke0 a0 n) ke0 a0
def a2C(a0:Int):Q82:=
 (u6 (fun G9=>(some G9)) a0 FUEL (0:Int) (List.replicate 8 (0:Int)))
def b1E(k:Nat)(K:Ex→St→Q82)(n:Nat)(a0:Int)(x4:Int)(G9:A7):Q82:=A9j (a2m k) 0 (A0Z (a2m k) (A7s (a2m k) 8) 0 157 (sub b3l [1,1,0,1,0,0])) a7Y K n (b7C a0 x4 G9)
theorem b5K(k:Nat)(G9:A7):((B4x 0 (B5Q (A0Z (a2m k) (A7s (a2m k) 8) 0 157 (sub b3l [1,1,1])) (B4C (a2m k) b3m a0H))) (.exit 0) (a6y G9):Q82)=
 ((some G9):Q82):=by kernel_rfl
theorem b5L(k:Nat)(K:Ex→St→Q82)(n:Nat)(a0:Int)(x4:Int)(G9:A7):(b1E k K (n+1) a0 x4 G9:Q82)=a0Y ((fun x4 G9=>b1E k K n a0 x4 G9)) (fun G9=>K (.exit 0) (a6y G9)) a0 x4 G9:=by kernel_rfl
theorem b9F(K:Ex→St→Q82)(a0:Int):∀(n:Nat) (x4:Int) (G9:A7),(b1E FUEL K n a0 x4 G9:Q82)=u6 (fun G9=>K (.exit 0) (a6y G9)) a0 n x4 G9:=by
 intro n
 induction n with
 |zero=>intros; rfl
 |succ n ih=>
  intro x4 G9
  exact(b5L FUEL K n a0 x4 G9).trans (congrArg (fun f=>a0Y f (fun G9=>K (.exit 0) (a6y G9)) a0 x4 G9) (funext fun x4=>funext fun G9=>ih x4 G9))
theorem c5Q(k:Nat)(a0:Int):fnK (a2m k) 8 157 b3m a0H [.pv k0B a0]=
 ((A9j (a2m k) 0 (A0Z (a2m k) (A7s (a2m k) 8) 0 157 (sub b3l [1,1,0,1,0,0])) a7Y (B4x 0 (B5Q (A0Z (a2m k) (A7s (a2m k) 8) 0 157 (sub b3l [1,1,1])) (B4C (a2m k) b3m a0H))) k (b7C a0 (0:Int) (List.replicate 8 (0:Int)))):Q82):=by kernel_rfl
theorem d1Y(a0:Int):fnK (a2m FUEL) 8 157 b3m a0H [.pv k0B a0]=a2C a0:=
 (c5Q FUEL a0).trans ((b9F _ a0 FUEL (0:Int) (List.replicate 8 (0:Int))).trans (congrArg (fun e0=>u6 e0 a0 FUEL (0:Int) (List.replicate 8 (0:Int))) (funext fun G9=>(b5K FUEL G9).trans (rfl))))
def c2v:Con:={ps:=K25,sh:=a0H,raw:=fun x=>a2C x.1}
theorem c5P:A8C D8 157 c2v:=B5n (c9e FUEL) (depth:=8) d5i fun x y h=>(d1Y x.1).trans h
def a8j:Cut:={keep:=[1,5],stk:=[],ids:=[90050],own:=[(5,90050,22)],outs:=[(1,[1,5],[90050])]}
def a8k:Cut:={keep:=[1,5,6],stk:=[],ids:=[90050],own:=[(5,90050,22)],outs:=[(3,[5],[90050])]}
def U4(k:Nat):Cx:=y7 [] [] [] [] [(182,[(0,a8j),(2,a8k)])] k [] false
theorem c9p(k:Nat):A9E D8 (U4 k):=C4 C5 C5 C5 C5
abbrev R1:List Sh:=[.own 5 (.int .u8)]
abbrev Q80:Type:=Option (A2K R1)
def b7O(a1:Int)(B4:A7):St:={env:=(.dead:: .pv E8 a1::(dd 3 (.sl 90050 k0B::(dd 26 [])))),stk:=[],heap:=[(90050,.arr 5 k0B B4)]}
def a6M(a1:Int)(B4:A7):St:={env:=(.dead:: .pv E8 a1::(dd 3 (.sl 90050 k0B::(dd 26 [])))),stk:=[],heap:=[(90050,.arr 5 k0B B4)]}
def b7P(B4:A7)(x1:Int)(x6:Int):St:={env:=(.dead:: .pv E8 x1::(dd 3 (.sl 90050 k0B:: .pv E8 x6::(dd 25 [])))),stk:=[],heap:=[(90050,.arr 5 k0B B4)]}
def a6N(B4:A7):St:={env:=(dd 5 (.sl 90050 k0B::(dd 26 []))),stk:=[],heap:=[(90050,.arr 5 k0B B4)]}
def a0x(rec:A7→Int→Int→Q80)(ke2:A7→Q80)(B4:A7)(x1:Int)(x6:Int):Q80:=
 (cond (decide (x6<(8:Int)))
 (cond (decide ((B4.length+1)*1≤140737488355328)&&decide (B4.length+1≤9223372036854775807))
 (rec (B4++[(IntKind.wrap .u8 (Int.tmod x1 (256:Int)))]) (IntKind.wrap .i64 (Int.tdiv x1 (256:Int))) (IntKind.wrap .i64 (x6+(1:Int))))
 none)
 (ke2 B4))
def P1(ke2:A7→Q80):Nat→A7→Int→Int→Q80
 |0=>fun _ _ _=>none
 |n+1=>a0x (P1 ke2 n) ke2
def V7(rec:A7→Q80)(ke0:A7→Q80)(a1:Int)(B4:A7):Q80:=
 (cond (!(decide ((Int.tmod (B4.length:Int) (32:Int))=(24:Int))))
 (cond (decide ((B4.length+1)*1≤140737488355328)&&decide (B4.length+1≤9223372036854775807))
 (rec (B4++[(0:Int)]))
 none)
 (ke0 B4))
def V6(ke0:A7→Q80)(a1:Int):Nat→A7→Q80
 |0=>fun _=>none
 |n+1=>V7 (V6 ke0 a1 n) ke0 a1
def a0G(a0:A7)(a1:Int):Q80:=
 (cond (decide ((0+a0.length)*1≤140737488355328)&&decide (0+a0.length≤9223372036854775807))
 (cond (decide ((([]++a0).length+1)*1≤140737488355328)&&decide (([]++a0).length+1≤9223372036854775807))
 (V6 (fun B4=>(P1 (fun B4=>(some B4)) FUEL B4 a1 (0:Int))) a1 FUEL (([]++a0)++[(128:Int)]))
 none)
 none)
def b1R(k:Nat)(K:Ex→St→Q80)(n:Nat)(B4:A7)(x1:Int)(x6:Int):Q80:=A9j (U4 k) 0 (A0Z (U4 k) (A7s (U4 k) 8) 0 182 (sub a6L [1,1,1,0,1,0,0])) a8k K n (b7P B4 x1 x6)
theorem b6k(k:Nat)(B4:A7):((B4x 2 (B5Q (A0Z (U4 k) (A7s (U4 k) 8) 0 182 (sub a6L [1,1,1,1])) (B4C (U4 k) a9G R1))) (.exit 2) (a6N B4):Q80)=
 ((some B4):Q80):=by kernel_rfl
theorem b6l(k:Nat)(K:Ex→St→Q80)(n:Nat)(B4:A7)(x1:Int)(x6:Int):(b1R k K (n+1) B4 x1 x6:Q80)=a0x ((fun B4 x1 x6=>b1R k K n B4 x1 x6)) (fun B4=>K (.exit 2) (a6N B4)) B4 x1 x6:=by kernel_rfl
theorem b9V(K:Ex→St→Q80):∀(n:Nat) (B4:A7) (x1:Int) (x6:Int),(b1R FUEL K n B4 x1 x6:Q80)=P1 (fun B4=>K (.exit 2) (a6N B4)) n B4 x1 x6:=by
 intro n
 induction n with
 |zero=>intros; rfl
 |succ n ih=>
  intro B4 x1 x6
  exact(b6l FUEL K n B4 x1 x6).trans (congrArg (fun f=>a0x f (fun B4=>K (.exit 2) (a6N B4)) B4 x1 x6) (funext fun B4=>funext fun x1=>funext fun x6=>ih B4 x1 x6))
def b1Q(k:Nat)(K:Ex→St→Q80)(n:Nat)(a1:Int)(B4:A7):Q80:=A9j (U4 k) 0 (A0Z (U4 k) (A7s (U4 k) 8) 0 182 (sub a6L [1,1,0,0,0])) a8j K n (b7O a1 B4)
theorem b6i(k:Nat)(a1:Int)(B4:A7):((B4x 0 (B5Q (A0Z (U4 k) (A7s (U4 k) 8) 0 182 (sub a6L [1,1,1])) (B4C (U4 k) a9G R1))) (.exit 0) (a6M a1 B4):Q80)=
 ((A9j (U4 k) 0 (A0Z (U4 k) (A7s (U4 k) 8) 0 182 (sub a6L [1,1,1,0,1,0,0])) a8k (B4x 2 (B5Q (A0Z (U4 k) (A7s (U4 k) 8) 0 182 (sub a6L [1,1,1,1])) (B4C (U4 k) a9G R1))) k (b7P B4 a1 (0:Int))):Q80):=by kernel_rfl
theorem b6j(k:Nat)(K:Ex→St→Q80)(n:Nat)(a1:Int)(B4:A7):(b1Q k K (n+1) a1 B4:Q80)=V7 ((fun B4=>b1Q k K n a1 B4)) (fun B4=>K (.exit 0) (a6M a1 B4)) a1 B4:=by kernel_rfl
theorem b9U(K:Ex→St→Q80)(a1:Int):∀(n:Nat) (B4:A7),(b1Q FUEL K n a1 B4:Q80)=V6 (fun B4=>K (.exit 0) (a6M a1 B4)) a1 n B4:=by
 intro n
 induction n with
 |zero=>intros; rfl
 |succ n ih=>
  intro B4
  exact(b6j FUEL K n a1 B4).trans (congrArg (fun f=>V7 f (fun B4=>K (.exit 0) (a6M a1 B4)) a1 B4) (funext fun B4=>ih B4))
theorem c6h(k:Nat)(a0:A7)(a1:Int):fnK (U4 k) 8 182 a9G R1 [.pv K26 a0,.pv E8 a1]=
 ((cond (decide ((0+a0.length)*1≤140737488355328)&&decide (0+a0.length≤9223372036854775807))
 (cond (decide ((([]++a0).length+1)*1≤140737488355328)&&decide (([]++a0).length+1≤9223372036854775807))
 (A9j (U4 k) 0 (A0Z (U4 k) (A7s (U4 k) 8) 0 182 (sub a6L [1,1,0,0,0])) a8j (B4x 0 (B5Q (A0Z (U4 k) (A7s (U4 k) 8) 0 182 (sub a6L [1,1,1])) (B4C (U4 k) a9G R1))) k (b7O a1 (([]++a0)++[(128:Int)])))
 none)
 none):Q80):=by kernel_rfl
theorem d2l(a0:A7)(a1:Int):fnK (U4 FUEL) 8 182 a9G R1 [.pv K26 a0,.pv E8 a1]=a0G a0 a1:=
 (c6h FUEL a0 a1).trans (B5U (B5U ((b9U _ a1 FUEL (([]++a0)++[(128:Int)])).trans (congrArg (fun e0=>V6 e0 a1 FUEL (([]++a0)++[(128:Int)])) (funext fun B4=>(b6i FUEL a1 B4).trans ((b9V _ FUEL B4 a1 (0:Int)).trans (congrArg (fun e0=>P1 e0 FUEL B4 a1 (0:Int)) (funext fun B4=>(b6k FUEL B4).trans (rfl))))))) (rfl)) (rfl))
def c2H:Con:={ps:=K14,sh:=R1,raw:=fun x=>a0G x.1 x.2.1}
theorem c6g:A8C D8 182 c2H:=B5n (c9p FUEL) (depth:=8) d5u fun x y h=>(d2l x.1 x.2.1).trans h
def a8o:Cut:={keep:=[0,1,4,5,6],stk:=[],ids:=[40,50],own:=[],outs:=[(1,[4,5],[40,50])]}
def a2q(k:Nat):Cx:=y7 [] [] [] [] [(184,[(0,a8o)])] k [] false
theorem c9r(k:Nat):A9E D8 (a2q k):=C4 C5 C5 C5 C5
abbrev a0E:List Sh:=[.pl (.arr 32 k0B)]
abbrev Q73:Type:=Option (A2K a0E)
def b7V(a0:A7)(a1:Int)(x6:Int)(G4:A7):St:={env:=(.pv K26 a0:: .pv E8 a1:: .dead:: .dead:: .ptr 40 D9 []:: .ptr 50 D9 []:: .pv E8 x6::(dd 14 [])),stk:=[],heap:=[(40,.var D9 (.pv D9 (List.replicate 32 (0:Int)))),(50,.var D9 (.pv D9 G4))]}
def a6S(G4:A7):St:={env:=(dd 4 (.ptr 40 D9 []:: .ptr 50 D9 []::(dd 15 []))),stk:=[],heap:=[(40,.var D9 (.pv D9 (List.replicate 32 (0:Int)))),(50,.var D9 (.pv D9 G4))]}
def a0W(rec:Int→A7→Q73)(ke0:A7→Q73)(a0:A7)(a1:Int)(x6:Int)(G4:A7):Q73:=
 (cond (decide (x6<(32:Int)))
 (cond ((decide ((0:Int)≤(IntKind.wrap .i64 (a1+x6))))&&(decide ((IntKind.wrap .i64 (a1+x6))<(a0.length:Int))))
 (cond ((decide ((0:Int)≤x6))&&(decide (x6<(32:Int))))
 (rec (IntKind.wrap .i64 (x6+(1:Int))) (G4.set (x6.toNat) (a0.getD ((IntKind.wrap .i64 (a1+x6)).toNat) (0:Int))))
 none)
 none)
 (ke0 G4))
def s5(ke0:A7→Q73)(a0:A7)(a1:Int):Nat→Int→A7→Q73
 |0=>fun _ _=>none
 |n+1=>a0W (s5 ke0 a0 a1 n) ke0 a0 a1
def a2A(a0:A7)(a1:Int):Q73:=
 (s5 (fun G4=>(some G4)) a0 a1 FUEL (0:Int) (List.replicate 32 (0:Int)))
def b1X(k:Nat)(K:Ex→St→Q73)(n:Nat)(a0:A7)(a1:Int)(x6:Int)(G4:A7):Q73:=A9j (a2q k) 0 (A0Z (a2q k) (A7s (a2q k) 8) 0 184 (sub b3A [1,1,0,1,0,0])) a8o K n (b7V a0 a1 x6 G4)
theorem b6w(k:Nat)(G4:A7):((B4x 0 (B5Q (A0Z (a2q k) (A7s (a2q k) 8) 0 184 (sub b3A [1,1,1])) (B4C (a2q k) b3B a0E))) (.exit 0) (a6S G4):Q73)=
 ((some G4):Q73):=by kernel_rfl
theorem b6x(k:Nat)(K:Ex→St→Q73)(n:Nat)(a0:A7)(a1:Int)(x6:Int)(G4:A7):(b1X k K (n+1) a0 a1 x6 G4:Q73)=a0W ((fun x6 G4=>b1X k K n a0 a1 x6 G4)) (fun G4=>K (.exit 0) (a6S G4)) a0 a1 x6 G4:=by kernel_rfl
theorem c0b(K:Ex→St→Q73)(a0:A7)(a1:Int):∀(n:Nat) (x6:Int) (G4:A7),(b1X FUEL K n a0 a1 x6 G4:Q73)=s5 (fun G4=>K (.exit 0) (a6S G4)) a0 a1 n x6 G4:=by
 intro n
 induction n with
 |zero=>intros; rfl
 |succ n ih=>
  intro x6 G4
  exact(b6x FUEL K n a0 a1 x6 G4).trans (congrArg (fun f=>a0W f (fun G4=>K (.exit 0) (a6S G4)) a0 a1 x6 G4) (funext fun x6=>funext fun G4=>ih x6 G4))
theorem c6l(k:Nat)(a0:A7)(a1:Int):fnK (a2q k) 8 184 b3B a0E [.pv K26 a0,.pv E8 a1]=
 ((A9j (a2q k) 0 (A0Z (a2q k) (A7s (a2q k) 8) 0 184 (sub b3A [1,1,0,1,0,0])) a8o (B4x 0 (B5Q (A0Z (a2q k) (A7s (a2q k) 8) 0 184 (sub b3A [1,1,1])) (B4C (a2q k) b3B a0E))) k (b7V a0 a1 (0:Int) (List.replicate 32 (0:Int)))):Q73):=by kernel_rfl
theorem d2n(a0:A7)(a1:Int):fnK (a2q FUEL) 8 184 b3B a0E [.pv K26 a0,.pv E8 a1]=a2A a0 a1:=
 (c6l FUEL a0 a1).trans ((c0b _ a0 a1 FUEL (0:Int) (List.replicate 32 (0:Int))).trans (congrArg (fun e0=>s5 e0 a0 a1 FUEL (0:Int) (List.replicate 32 (0:Int))) (funext fun G4=>(b6w FUEL G4).trans (rfl))))
def c2J:Con:={ps:=K14,sh:=a0E,raw:=fun x=>a2A x.1 x.2.1}
theorem c6k:A8C D8 184 c2J:=B5n (c9r FUEL) (depth:=8) d5w fun x y h=>(d2n x.1 x.2.1).trans h
def c7C(k:Nat):Cx:=y7 [] [] [] [] [] k [] false
theorem c9x(k:Nat):A9E D8 (c7C k):=C4 C5 C5 C5 C5
abbrev a4N:List Sh:=[.pl (.int .u32)]
abbrev Q83:Type:=Option (A2K a4N)
def a1S(a0:Int)(a1:Int):Q83:=
 (cond (decide (a1<(0:Int)))
 none
 (cond (decide ((IntKind.wrap .u64 ((32:Int)-a1))<(0:Int)))
 none
 (some (A6l .or .u32 (B5G .u32 a0 a1) (B5H .u32 a0 (IntKind.wrap .u64 ((32:Int)-a1)))))))
theorem d2y(a0:Int)(a1:Int):fnK (c7C FUEL) 8 198 d2x a4N [.pv (.int .u32) a0,.pv (.int .u64) a1]=a1S a0 a1:=by kernel_rfl
def c2P:Con:={ps:=(.pair (.int .u32) (.pair (.int .u64) .unit)),sh:=a4N,raw:=fun x=>a1S x.1 x.2.1}
theorem c6t:A8C D8 198 c2P:=B5n (c9x FUEL) (depth:=8) d5D fun x y h=>(d2y x.1 x.2.1).trans h
def a2b:Cut:={keep:=[2,3,4,5,6],stk:=[],ids:=[20,30,40,50],own:=[],outs:=[(1,[2,4,5],[20,40,50])]}
def a8l:Cut:={keep:=[2,3,4,5,6,7],stk:=[],ids:=[20,30,40,50],own:=[],outs:=[(3,[2,3,4,5,6],[20,30,40,50])]}
def a2c:Cut:={keep:=[2,4,5,8,9],stk:=[],ids:=[20,40,50,80],own:=[],outs:=[(5,[2,4,8],[20,40,80])]}
def a8m:Cut:={keep:=[2,4,5,8,9,10],stk:=[],ids:=[20,40,50,80],own:=[],outs:=[(7,[2,4,5,8,9],[20,40,50,80])]}
def a8n:Cut:={keep:=[2,4,8,13],stk:=[],ids:=[20,40,80],own:=[],outs:=[(9,[4,8],[40,80])]}
def C6(k:Nat):Cx:=y7 [] [(198,c2P)] [] [] [(183,[(0,a2b),(2,a8l),(4,a2c),(6,a8m),(8,a8n)])] k [] false
theorem c9q(k:Nat):A9E D8 (C6 k):=C4 ⟨c6t,C5⟩ C5 C5 C5
abbrev J6:List Sh:=[.pl (.arr 8 (.int .u32))]
abbrev Q79:Type:=Option (A2K J6)
def b1S(a0:A7)(a1:A7)(x6:Int)(G4:A7):St:={env:=(.dead:: .dead:: .ptr 20 G7 []:: .ptr 30 D9 []:: .ptr 40 G7 []:: .ptr 50 G7 []:: .pv E8 x6::(dd 89 [])),stk:=[],heap:=[(20,.var G7 (.pv G7 a0)),(30,.var D9 (.pv D9 a1)),(40,.var G7 (.pv G7 (List.replicate 8 (0:Int)))),(50,.var G7 (.pv G7 G4))]}
def a9H(a0:A7)(G4:A7):St:={env:=(.dead:: .dead:: .ptr 20 G7 []:: .dead:: .ptr 40 G7 []:: .ptr 50 G7 []::(dd 90 [])),stk:=[],heap:=[(20,.var G7 (.pv G7 a0)),(40,.var G7 (.pv G7 (List.replicate 8 (0:Int)))),(50,.var G7 (.pv G7 G4))]}
def b7R(a0:A7)(a1:A7)(x6:Int)(x7:Int)(G4:A7):St:={env:=(.dead:: .dead:: .ptr 20 G7 []:: .ptr 30 D9 []:: .ptr 40 G7 []:: .ptr 50 G7 []:: .pv E8 x6:: .pv E8 x7::(dd 88 [])),stk:=[],heap:=[(20,.var G7 (.pv G7 a0)),(30,.var D9 (.pv D9 a1)),(40,.var G7 (.pv G7 (List.replicate 8 (0:Int)))),(50,.var G7 (.pv G7 G4))]}
def a6P(a0:A7)(a1:A7)(x6:Int)(G4:A7):St:={env:=(.dead:: .dead:: .ptr 20 G7 []:: .ptr 30 D9 []:: .ptr 40 G7 []:: .ptr 50 G7 []:: .pv E8 x6::(dd 89 [])),stk:=[],heap:=[(20,.var G7 (.pv G7 a0)),(30,.var D9 (.pv D9 a1)),(40,.var G7 (.pv G7 (List.replicate 8 (0:Int)))),(50,.var G7 (.pv G7 G4))]}
def b1U(a0:A7)(G4:A7)(x9:Int)(y9:A7):St:={env:=(.dead:: .dead:: .ptr 20 G7 []:: .dead:: .ptr 40 G7 []:: .ptr 50 G7 []:: .dead:: .dead:: .ptr 80 G7 []:: .pv E8 x9::(dd 86 [])),stk:=[],heap:=[(20,.var G7 (.pv G7 a0)),(40,.var G7 (.pv G7 (List.replicate 8 (0:Int)))),(50,.var G7 (.pv G7 G4)),(80,.var G7 (.pv G7 y9))]}
def a9I(a0:A7)(y9:A7):St:={env:=(.dead:: .dead:: .ptr 20 G7 []:: .dead:: .ptr 40 G7 []::(dd 3 (.ptr 80 G7 []::(dd 87 [])))),stk:=[],heap:=[(20,.var G7 (.pv G7 a0)),(40,.var G7 (.pv G7 (List.replicate 8 (0:Int)))),(80,.var G7 (.pv G7 y9))]}
def b7T(a0:A7)(G4:A7)(x9:Int)(E4:Int)(y9:A7):St:={env:=(.dead:: .dead:: .ptr 20 G7 []:: .dead:: .ptr 40 G7 []:: .ptr 50 G7 []:: .dead:: .dead:: .ptr 80 G7 []:: .pv E8 x9:: .pv E8 E4::(dd 85 [])),stk:=[],heap:=[(20,.var G7 (.pv G7 a0)),(40,.var G7 (.pv G7 (List.replicate 8 (0:Int)))),(50,.var G7 (.pv G7 G4)),(80,.var G7 (.pv G7 y9))]}
def a6Q(a0:A7)(G4:A7)(x9:Int)(y9:A7):St:={env:=(.dead:: .dead:: .ptr 20 G7 []:: .dead:: .ptr 40 G7 []:: .ptr 50 G7 []:: .dead:: .dead:: .ptr 80 G7 []:: .pv E8 x9::(dd 86 [])),stk:=[],heap:=[(20,.var G7 (.pv G7 a0)),(40,.var G7 (.pv G7 (List.replicate 8 (0:Int)))),(50,.var G7 (.pv G7 G4)),(80,.var G7 (.pv G7 y9))]}
def b7U(a0:A7)(y9:A7)(x13:Int):St:={env:=(.dead:: .dead:: .ptr 20 G7 []:: .dead:: .ptr 40 G7 []::(dd 3 (.ptr 80 G7 []::(dd 4 (.pv E8 x13::(dd 82 [])))))),stk:=[],heap:=[(20,.var G7 (.pv G7 a0)),(40,.var G7 (.pv G7 (List.replicate 8 (0:Int)))),(80,.var G7 (.pv G7 y9))]}
def a6R(y9:A7):St:={env:=(dd 4 (.ptr 40 G7 []::(dd 3 (.ptr 80 G7 []::(dd 87 []))))),stk:=[],heap:=[(40,.var G7 (.pv G7 (List.replicate 8 (0:Int)))),(80,.var G7 (.pv G7 y9))]}
def a1R(rec:A7→Int→Q79)(ke8:A7→Q79)(a0:A7)(y9:A7)(x13:Int):Q79:=
 (cond (decide (x13<(8:Int)))
 (cond ((decide ((0:Int)≤x13))&&(decide (x13<(8:Int))))
 (cond ((decide ((0:Int)≤x13))&&(decide (x13<(8:Int))))
 (cond ((decide ((0:Int)≤x13))&&(decide (x13<(8:Int))))
 (rec (y9.set (x13.toNat) (A6l .xor .u32 (y9.getD (x13.toNat) (0:Int)) (a0.getD (x13.toNat) (0:Int)))) (IntKind.wrap .i64 (x13+(1:Int))))
 none)
 none)
 none)
 (ke8 y9))
def u5(ke8:A7→Q79)(a0:A7):Nat→A7→Int→Q79
 |0=>fun _ _=>none
 |n+1=>a1R (u5 ke8 a0 n) ke8 a0
def a1Q(rec:Int→A7→Q79)(ke6:A7→Q79)(a0:A7)(G4:A7)(x9:Int)(E4:Int)(y9:A7):Q79:=
 (cond (decide (E4<(8:Int)))
 (cond ((decide ((0:Int)≤E4))&&(decide (E4<(8:Int))))
 (cond ((decide ((0:Int)≤(Int.tmod (IntKind.wrap .i64 (E4+(IntKind.wrap .i64 ((3:Int)*x9)))) (8:Int))))&&(decide ((Int.tmod (IntKind.wrap .i64 (E4+(IntKind.wrap .i64 ((3:Int)*x9)))) (8:Int))<(8:Int))))
 (A1w (a1S (IntKind.wrap .u32 ((IntKind.wrap .u32 ((y9.getD (E4.toNat) (0:Int))+(G4.getD ((Int.tmod (IntKind.wrap .i64 (E4+(IntKind.wrap .i64 ((3:Int)*x9)))) (8:Int)).toNat) (0:Int))))+(IntKind.wrap .u32 ((2654435769:Int)*(IntKind.wrap .u32 (IntKind.wrap .i64 ((IntKind.wrap .i64 ((IntKind.wrap .i64 ((8:Int)*x9))+E4))+(1:Int)))))))) (7:Int)) fun(b7:Int)=>(cond ((decide ((0:Int)≤(Int.tmod (IntKind.wrap .i64 (E4+(1:Int))) (8:Int))))&&(decide ((Int.tmod (IntKind.wrap .i64 (E4+(1:Int))) (8:Int))<(8:Int))))
 (cond ((decide ((0:Int)≤(Int.tmod (IntKind.wrap .i64 (E4+(5:Int))) (8:Int))))&&(decide ((Int.tmod (IntKind.wrap .i64 (E4+(5:Int))) (8:Int))<(8:Int))))
 (A1w (a1S (y9.getD ((Int.tmod (IntKind.wrap .i64 (E4+(5:Int))) (8:Int)).toNat) (0:Int)) (13:Int)) fun(b8:Int)=>(cond ((decide ((0:Int)≤E4))&&(decide (E4<(8:Int))))
 (rec (IntKind.wrap .i64 (E4+(1:Int))) (y9.set (E4.toNat) (IntKind.wrap .u32 ((A6l .xor .u32 b7 (y9.getD ((Int.tmod (IntKind.wrap .i64 (E4+(1:Int))) (8:Int)).toNat) (0:Int)))+b8))))
 none))
 none)
 none))
 none)
 none)
 (ke6 y9))
def t8(ke6:A7→Q79)(a0:A7)(G4:A7)(x9:Int):Nat→Int→A7→Q79
 |0=>fun _ _=>none
 |n+1=>a1Q (t8 ke6 a0 G4 x9 n) ke6 a0 G4 x9
def a4u(rec:A7→Int→A7→Q79)(ke4:A7→Q79)(a0:A7)(G4:A7)(x9:Int)(y9:A7):Q79:=
 (cond (decide (x9<(12:Int)))
 (t8 (fun y9=>(rec G4 (IntKind.wrap .i64 (x9+(1:Int))) y9)) a0 G4 x9 FUEL (0:Int) y9)
 (ke4 y9))
def t7(ke4:A7→Q79)(a0:A7):Nat→A7→Int→A7→Q79
 |0=>fun _ _ _=>none
 |n+1=>a4u (t7 ke4 a0 n) ke4 a0
def a3k(rec:Int→A7→Q79)(ke2:A7→Q79)(a0:A7)(a1:A7)(x6:Int)(x7:Int)(G4:A7):Q79:=
 (cond (decide ((0:Int)≤x7))
 (cond ((decide ((0:Int)≤x6))&&(decide (x6<(8:Int))))
 (cond ((decide ((0:Int)≤(IntKind.wrap .i64 ((IntKind.wrap .i64 ((4:Int)*x6))+x7))))&&(decide ((IntKind.wrap .i64 ((IntKind.wrap .i64 ((4:Int)*x6))+x7))<(32:Int))))
 (cond ((decide ((0:Int)≤x6))&&(decide (x6<(8:Int))))
 (rec (IntKind.wrap .i64 (x7-(1:Int))) (G4.set (x6.toNat) (A6l .or .u32 (B5G .u32 (G4.getD (x6.toNat) (0:Int)) (8:Int)) (IntKind.wrap .u32 (a1.getD ((IntKind.wrap .i64 ((IntKind.wrap .i64 ((4:Int)*x6))+x7)).toNat) (0:Int))))))
 none)
 none)
 none)
 (ke2 G4))
def a0F(ke2:A7→Q79)(a0:A7)(a1:A7)(x6:Int):Nat→Int→A7→Q79
 |0=>fun _ _=>none
 |n+1=>a3k (a0F ke2 a0 a1 x6 n) ke2 a0 a1 x6
def a4t(rec:Int→A7→Q79)(ke0:A7→Q79)(a0:A7)(a1:A7)(x6:Int)(G4:A7):Q79:=
 (cond (decide (x6<(8:Int)))
 (a0F (fun G4=>(rec (IntKind.wrap .i64 (x6+(1:Int))) G4)) a0 a1 x6 FUEL (3:Int) G4)
 (ke0 G4))
def t6(ke0:A7→Q79)(a0:A7)(a1:A7):Nat→Int→A7→Q79
 |0=>fun _ _=>none
 |n+1=>a4t (t6 ke0 a0 a1 n) ke0 a0 a1
def a3A(a0:A7)(a1:A7):Q79:=
 (t6 (fun G4=>(t7 (fun y9=>(u5 (fun y9=>(some y9)) a0 FUEL y9 (0:Int))) a0 FUEL G4 (0:Int) a0)) a0 a1 FUEL (0:Int) (List.replicate 8 (0:Int)))
def b1W(k:Nat)(K:Ex→St→Q79)(n:Nat)(a0:A7)(y9:A7)(x13:Int):Q79:=A9j (C6 k) 0 (A0Z (C6 k) (A7s (C6 k) 8) 0 183 (sub o5 [1,1,1,1,1,0,1,0,0])) a8n K n (b7U a0 y9 x13)
theorem b6u(k:Nat)(y9:A7):((B4x 8 (B5Q (A0Z (C6 k) (A7s (C6 k) 8) 0 183 (sub o5 [1,1,1,1,1,1])) (B4C (C6 k) a6O J6))) (.exit 8) (a6R y9):Q79)=
 ((some y9):Q79):=by kernel_rfl
theorem b6v(k:Nat)(K:Ex→St→Q79)(n:Nat)(a0:A7)(y9:A7)(x13:Int):(b1W k K (n+1) a0 y9 x13:Q79)=a1R ((fun y9 x13=>b1W k K n a0 y9 x13)) (fun y9=>K (.exit 8) (a6R y9)) a0 y9 x13:=by kernel_rfl
theorem c0a(K:Ex→St→Q79)(a0:A7):∀(n:Nat) (y9:A7) (x13:Int),(b1W FUEL K n a0 y9 x13:Q79)=u5 (fun y9=>K (.exit 8) (a6R y9)) a0 n y9 x13:=by
 intro n
 induction n with
 |zero=>intros; rfl
 |succ n ih=>
  intro y9 x13
  exact(b6v FUEL K n a0 y9 x13).trans (congrArg (fun f=>a1R f (fun y9=>K (.exit 8) (a6R y9)) a0 y9 x13) (funext fun y9=>funext fun x13=>ih y9 x13))
def b1V(k:Nat)(K:Ex→St→Q79)(n:Nat)(a0:A7)(G4:A7)(x9:Int)(E4:Int)(y9:A7):Q79:=A9j (C6 k) 0 (A0Z (C6 k) (A7s (C6 k) 8) 0 183 (sub o5 [1,1,1,1,0,1,0,0,1,0,0,1,0,0])) a8m K n (b7T a0 G4 x9 E4 y9)
theorem b6s(k:Nat)(K:Ex→St→Q79)(n:Nat)(a0:A7)(G4:A7)(x9:Int)(y9:A7):((B4x 6 (B4x 5 (B5Q (A0Z (C6 k) (A7s (C6 k) 8) 0 183 (sub o5 [1,1,1,1,0,1,0,0,1,1])) (B2m (C6 k) 0 a2c (A9j (C6 k) 0 (A0Z (C6 k) (A7s (C6 k) 8) 0 183 (sub o5 [1,1,1,1,0,1,0,0])) a2c K n) K)))) (.exit 6) (a6Q a0 G4 x9 y9):Q79)=
 ((A9j (C6 k) 0 (A0Z (C6 k) (A7s (C6 k) 8) 0 183 (sub o5 [1,1,1,1,0,1,0,0])) a2c K n (b1U a0 G4 (IntKind.wrap .i64 (x9+(1:Int))) y9)):Q79):=by kernel_rfl
theorem b6t(k:Nat)(K:Ex→St→Q79)(n:Nat)(a0:A7)(G4:A7)(x9:Int)(E4:Int)(y9:A7):(b1V k K (n+1) a0 G4 x9 E4 y9:Q79)=a1Q ((fun E4 y9=>b1V k K n a0 G4 x9 E4 y9)) (fun y9=>K (.exit 6) (a6Q a0 G4 x9 y9)) a0 G4 x9 E4 y9:=by kernel_rfl
theorem b9Z(K:Ex→St→Q79)(a0:A7)(G4:A7)(x9:Int):∀(n:Nat) (E4:Int) (y9:A7),(b1V FUEL K n a0 G4 x9 E4 y9:Q79)=t8 (fun y9=>K (.exit 6) (a6Q a0 G4 x9 y9)) a0 G4 x9 n E4 y9:=by
 intro n
 induction n with
 |zero=>intros; rfl
 |succ n ih=>
  intro E4 y9
  exact(b6t FUEL K n a0 G4 x9 E4 y9).trans (congrArg (fun f=>a1Q f (fun y9=>K (.exit 6) (a6Q a0 G4 x9 y9)) a0 G4 x9 E4 y9) (funext fun E4=>funext fun y9=>ih E4 y9))
def b7S(k:Nat)(K:Ex→St→Q79)(n:Nat)(a0:A7)(G4:A7)(x9:Int)(y9:A7):Q79:=A9j (C6 k) 0 (A0Z (C6 k) (A7s (C6 k) 8) 0 183 (sub o5 [1,1,1,1,0,1,0,0])) a2c K n (b1U a0 G4 x9 y9)
theorem b6r(k:Nat)(K:Ex→St→Q79)(n:Nat)(a0:A7)(G4:A7)(x9:Int)(y9:A7):(b7S k K (n+1) a0 G4 x9 y9:Q79)=
 ((cond (decide (x9<(12:Int)))
 (A9j (C6 k) 0 (A0Z (C6 k) (A7s (C6 k) 8) 0 183 (sub o5 [1,1,1,1,0,1,0,0,1,0,0,1,0,0])) a8m (B4x 6 (B4x 5 (B5Q (A0Z (C6 k) (A7s (C6 k) 8) 0 183 (sub o5 [1,1,1,1,0,1,0,0,1,1])) (B2m (C6 k) 0 a2c (A9j (C6 k) 0 (A0Z (C6 k) (A7s (C6 k) 8) 0 183 (sub o5 [1,1,1,1,0,1,0,0])) a2c K n) K)))) k (b7T a0 G4 x9 (0:Int) y9))
 (K (.exit 4) (a9I a0 y9))):Q79):=by kernel_rfl
theorem b6q(k:Nat)(a0:A7)(y9:A7):((B4x 4 (B5Q (A0Z (C6 k) (A7s (C6 k) 8) 0 183 (sub o5 [1,1,1,1,1])) (B4C (C6 k) a6O J6))) (.exit 4) (a9I a0 y9):Q79)=
 ((A9j (C6 k) 0 (A0Z (C6 k) (A7s (C6 k) 8) 0 183 (sub o5 [1,1,1,1,1,0,1,0,0])) a8n (B4x 8 (B5Q (A0Z (C6 k) (A7s (C6 k) 8) 0 183 (sub o5 [1,1,1,1,1,1])) (B4C (C6 k) a6O J6))) k (b7U a0 y9 (0:Int))):Q79):=by kernel_rfl
theorem b9Y(K:Ex→St→Q79)(a0:A7):∀(n:Nat) (G4:A7) (x9:Int) (y9:A7),(b7S FUEL K n a0 G4 x9 y9:Q79)=t7 (fun y9=>K (.exit 4) (a9I a0 y9)) a0 n G4 x9 y9:=by
 intro n
 induction n with
 |zero=>intros; rfl
 |succ n ih=>
  intro G4 x9 y9
  exact(b6r FUEL K n a0 G4 x9 y9).trans (B5U ((b9Z _ a0 G4 x9 FUEL (0:Int) y9).trans (congrArg (fun e0=>t8 e0 a0 G4 x9 FUEL (0:Int) y9) (funext fun y9=>(b6s FUEL K n a0 G4 x9 y9).trans (ih G4 (IntKind.wrap .i64 (x9+(1:Int))) y9)))) (rfl))
def b1T(k:Nat)(K:Ex→St→Q79)(n:Nat)(a0:A7)(a1:A7)(x6:Int)(x7:Int)(G4:A7):Q79:=A9j (C6 k) 0 (A0Z (C6 k) (A7s (C6 k) 8) 0 183 (sub o5 [1,1,0,1,0,0,1,0,0,1,0,0])) a8l K n (b7R a0 a1 x6 x7 G4)
theorem b6o(k:Nat)(K:Ex→St→Q79)(n:Nat)(a0:A7)(a1:A7)(x6:Int)(G4:A7):((B4x 2 (B4x 1 (B5Q (A0Z (C6 k) (A7s (C6 k) 8) 0 183 (sub o5 [1,1,0,1,0,0,1,1])) (B2m (C6 k) 0 a2b (A9j (C6 k) 0 (A0Z (C6 k) (A7s (C6 k) 8) 0 183 (sub o5 [1,1,0,1,0,0])) a2b K n) K)))) (.exit 2) (a6P a0 a1 x6 G4):Q79)=
 ((A9j (C6 k) 0 (A0Z (C6 k) (A7s (C6 k) 8) 0 183 (sub o5 [1,1,0,1,0,0])) a2b K n (b1S a0 a1 (IntKind.wrap .i64 (x6+(1:Int))) G4)):Q79):=by kernel_rfl
theorem b6p(k:Nat)(K:Ex→St→Q79)(n:Nat)(a0:A7)(a1:A7)(x6:Int)(x7:Int)(G4:A7):(b1T k K (n+1) a0 a1 x6 x7 G4:Q79)=a3k ((fun x7 G4=>b1T k K n a0 a1 x6 x7 G4)) (fun G4=>K (.exit 2) (a6P a0 a1 x6 G4)) a0 a1 x6 x7 G4:=by kernel_rfl
theorem b9X(K:Ex→St→Q79)(a0:A7)(a1:A7)(x6:Int):∀(n:Nat) (x7:Int) (G4:A7),(b1T FUEL K n a0 a1 x6 x7 G4:Q79)=a0F (fun G4=>K (.exit 2) (a6P a0 a1 x6 G4)) a0 a1 x6 n x7 G4:=by
 intro n
 induction n with
 |zero=>intros; rfl
 |succ n ih=>
  intro x7 G4
  exact(b6p FUEL K n a0 a1 x6 x7 G4).trans (congrArg (fun f=>a3k f (fun G4=>K (.exit 2) (a6P a0 a1 x6 G4)) a0 a1 x6 x7 G4) (funext fun x7=>funext fun G4=>ih x7 G4))
def b7Q(k:Nat)(K:Ex→St→Q79)(n:Nat)(a0:A7)(a1:A7)(x6:Int)(G4:A7):Q79:=A9j (C6 k) 0 (A0Z (C6 k) (A7s (C6 k) 8) 0 183 (sub o5 [1,1,0,1,0,0])) a2b K n (b1S a0 a1 x6 G4)
theorem b6n(k:Nat)(K:Ex→St→Q79)(n:Nat)(a0:A7)(a1:A7)(x6:Int)(G4:A7):(b7Q k K (n+1) a0 a1 x6 G4:Q79)=
 ((cond (decide (x6<(8:Int)))
 (A9j (C6 k) 0 (A0Z (C6 k) (A7s (C6 k) 8) 0 183 (sub o5 [1,1,0,1,0,0,1,0,0,1,0,0])) a8l (B4x 2 (B4x 1 (B5Q (A0Z (C6 k) (A7s (C6 k) 8) 0 183 (sub o5 [1,1,0,1,0,0,1,1])) (B2m (C6 k) 0 a2b (A9j (C6 k) 0 (A0Z (C6 k) (A7s (C6 k) 8) 0 183 (sub o5 [1,1,0,1,0,0])) a2b K n) K)))) k (b7R a0 a1 x6 (3:Int) G4))
 (K (.exit 0) (a9H a0 G4))):Q79):=by kernel_rfl
theorem b6m(k:Nat)(a0:A7)(G4:A7):((B4x 0 (B5Q (A0Z (C6 k) (A7s (C6 k) 8) 0 183 (sub o5 [1,1,1])) (B4C (C6 k) a6O J6))) (.exit 0) (a9H a0 G4):Q79)=
 ((A9j (C6 k) 0 (A0Z (C6 k) (A7s (C6 k) 8) 0 183 (sub o5 [1,1,1,1,0,1,0,0])) a2c (B4x 4 (B5Q (A0Z (C6 k) (A7s (C6 k) 8) 0 183 (sub o5 [1,1,1,1,1])) (B4C (C6 k) a6O J6))) k (b1U a0 G4 (0:Int) a0)):Q79):=by kernel_rfl
theorem b9W(K:Ex→St→Q79)(a0:A7)(a1:A7):∀(n:Nat) (x6:Int) (G4:A7),(b7Q FUEL K n a0 a1 x6 G4:Q79)=t6 (fun G4=>K (.exit 0) (a9H a0 G4)) a0 a1 n x6 G4:=by
 intro n
 induction n with
 |zero=>intros; rfl
 |succ n ih=>
  intro x6 G4
  exact(b6n FUEL K n a0 a1 x6 G4).trans (B5U ((b9X _ a0 a1 x6 FUEL (3:Int) G4).trans (congrArg (fun e0=>a0F e0 a0 a1 x6 FUEL (3:Int) G4) (funext fun G4=>(b6o FUEL K n a0 a1 x6 G4).trans (ih (IntKind.wrap .i64 (x6+(1:Int))) G4)))) (rfl))
theorem c6j(k:Nat)(a0:A7)(a1:A7):fnK (C6 k) 8 183 a6O J6 [.pv G7 a0,.pv D9 a1]=
 ((A9j (C6 k) 0 (A0Z (C6 k) (A7s (C6 k) 8) 0 183 (sub o5 [1,1,0,1,0,0])) a2b (B4x 0 (B5Q (A0Z (C6 k) (A7s (C6 k) 8) 0 183 (sub o5 [1,1,1])) (B4C (C6 k) a6O J6))) k (b1S a0 a1 (0:Int) (List.replicate 8 (0:Int)))):Q79):=by kernel_rfl
theorem d2m(a0:A7)(a1:A7):fnK (C6 FUEL) 8 183 a6O J6 [.pv G7 a0,.pv D9 a1]=a3A a0 a1:=
 (c6j FUEL a0 a1).trans ((b9W _ a0 a1 FUEL (0:Int) (List.replicate 8 (0:Int))).trans (congrArg (fun e0=>t6 e0 a0 a1 FUEL (0:Int) (List.replicate 8 (0:Int))) (funext fun G4=>(b6m FUEL a0 G4).trans ((b9Y _ a0 FUEL G4 (0:Int) a0).trans (congrArg (fun e0=>t7 e0 a0 FUEL G4 (0:Int) a0) (funext fun y9=>(b6q FUEL a0 y9).trans ((c0a _ a0 FUEL y9 (0:Int)).trans (congrArg (fun e0=>u5 e0 a0 FUEL y9 (0:Int)) (funext fun y9=>(b6u FUEL y9).trans (rfl))))))))))
def c2I:Con:={ps:=(.pair (.arr 8 (.int .u32)) K19),sh:=J6,raw:=fun x=>a3A x.1 x.2.1}
theorem c6i:A8C D8 183 c2I:=B5n (c9q FUEL) (depth:=8) d5v fun x y h=>(d2m x.1 x.2.1).trans h
def a7W:Cut:={keep:=[3,6,7,8],stk:=[],ids:=[30,60,130],own:=[],outs:=[(1,[3,6],[30,60])]}
def a7X:Cut:={keep:=[3,6,9,10],stk:=[],ids:=[30,60,90],own:=[],outs:=[(3,[6,9],[60,90])]}
def U3(k:Nat):Cx:=y7 [] [(182,c2H),(183,c2I),(184,c2J)] [] [] [(156,[(0,a7W),(2,a7X)])] k [] false
theorem c9d(k:Nat):A9E D8 (U3 k):=C4 ⟨c6g,c6i,c6k,C5⟩ C5 C5 C5
abbrev h9:List Sh:=[.pl (.arr 32 k0B)]
abbrev Q76:Type:=Option (A2K h9)
def b7A(a5V:A7)(x8:Int)(G9:A7):St:={env:=(dd 3 (.ptr 30 G7 []:: .dead:: .dead:: .ptr 60 D9 []:: .sl 130 k0B:: .pv E8 x8::(dd 34 []))),stk:=[],heap:=[(30,.var G7 (.pv G7 G9)),(60,.var D9 (.pv D9 (List.replicate 32 (0:Int)))),(130,.arr 5 k0B a5V)]}
def a6w(G9:A7):St:={env:=(dd 3 (.ptr 30 G7 []:: .dead:: .dead:: .ptr 60 D9 []::(dd 36 []))),stk:=[],heap:=[(30,.var G7 (.pv G7 G9)),(60,.var D9 (.pv D9 (List.replicate 32 (0:Int))))]}
def b7B(G9:A7)(E4:Int)(y90:A7):St:={env:=(dd 3 (.ptr 30 G7 []:: .dead:: .dead:: .ptr 60 D9 []:: .dead:: .dead:: .ptr 90 D9 []:: .pv E8 E4::(dd 32 []))),stk:=[],heap:=[(30,.var G7 (.pv G7 G9)),(60,.var D9 (.pv D9 (List.replicate 32 (0:Int)))),(90,.var D9 (.pv D9 y90))]}
def a6x(y90:A7):St:={env:=(dd 6 (.ptr 60 D9 []:: .dead:: .dead:: .ptr 90 D9 []::(dd 33 []))),stk:=[],heap:=[(60,.var D9 (.pv D9 (List.replicate 32 (0:Int)))),(90,.var D9 (.pv D9 y90))]}
def a1N(rec:A7→Int→A7→Q76)(ke2:A7→Q76)(G9:A7)(E4:Int)(y90:A7):Q76:=
 (cond (decide (E4<(32:Int)))
 (cond ((decide ((0:Int)≤(IntKind.wrap .i64 (Int.tdiv E4 (4:Int)))))&&(decide ((IntKind.wrap .i64 (Int.tdiv E4 (4:Int)))<(8:Int))))
 (cond (decide ((IntKind.wrap .u64 (IntKind.wrap .i64 ((8:Int)*(Int.tmod E4 (4:Int)))))<(0:Int)))
 none
 (cond ((decide ((0:Int)≤E4))&&(decide (E4<(32:Int))))
 (rec G9 (IntKind.wrap .i64 (E4+(1:Int))) (y90.set (E4.toNat) (IntKind.wrap .u8 (B5H .u32 (G9.getD ((IntKind.wrap .i64 (Int.tdiv E4 (4:Int))).toNat) (0:Int)) (IntKind.wrap .u64 (IntKind.wrap .i64 ((8:Int)*(Int.tmod E4 (4:Int)))))))))
 none))
 none)
 (ke2 y90))
def s8(ke2:A7→Q76):Nat→A7→Int→A7→Q76
 |0=>fun _ _ _=>none
 |n+1=>a1N (s8 ke2 n) ke2
def s7(rec:A7→Int→A7→Q76)(ke0:A7→Q76)(a5V:A7)(x8:Int)(G9:A7):Q76:=
 (cond (decide (x8<(a5V.length:Int)))
 (A1w (a2A a5V x8) fun(b4:A7)=>(A1w (a3A G9 b4) fun(b5:A7)=>(rec a5V (IntKind.wrap .i64 (x8+(32:Int))) b5)))
 (ke0 G9))
def Y8(ke0:A7→Q76):Nat→A7→Int→A7→Q76
 |0=>fun _ _ _=>none
 |n+1=>s7 (Y8 ke0 n) ke0
def a4B(a0:A7)(a1:A7)(a2:Int):Q76:=
 (A1w (a0G a1 a2) fun(b1:A7)=>(Y8 (fun G9=>(s8 (fun y90=>(some y90)) FUEL G9 (0:Int) (List.replicate 32 (0:Int)))) FUEL b1 (0:Int) a0))
def b1D(k:Nat)(K:Ex→St→Q76)(n:Nat)(G9:A7)(E4:Int)(y90:A7):Q76:=A9j (U3 k) 0 (A0Z (U3 k) (A7s (U3 k) 8) 0 156 (sub a6v [1,1,1,1,0,1,0,0])) a7X K n (b7B G9 E4 y90)
theorem b5I(k:Nat)(y90:A7):((B4x 2 (B5Q (A0Z (U3 k) (A7s (U3 k) 8) 0 156 (sub a6v [1,1,1,1,1])) (B4C (U3 k) a9C h9))) (.exit 2) (a6x y90):Q76)=
 ((some y90):Q76):=by kernel_rfl
theorem b5J(k:Nat)(K:Ex→St→Q76)(n:Nat)(G9:A7)(E4:Int)(y90:A7):(b1D k K (n+1) G9 E4 y90:Q76)=a1N ((fun G9 E4 y90=>b1D k K n G9 E4 y90)) (fun y90=>K (.exit 2) (a6x y90)) G9 E4 y90:=by kernel_rfl
theorem b9E(K:Ex→St→Q76):∀(n:Nat) (G9:A7) (E4:Int) (y90:A7),(b1D FUEL K n G9 E4 y90:Q76)=s8 (fun y90=>K (.exit 2) (a6x y90)) n G9 E4 y90:=by
 intro n
 induction n with
 |zero=>intros; rfl
 |succ n ih=>
  intro G9 E4 y90
  exact(b5J FUEL K n G9 E4 y90).trans (congrArg (fun f=>a1N f (fun y90=>K (.exit 2) (a6x y90)) G9 E4 y90) (funext fun G9=>funext fun E4=>funext fun y90=>ih G9 E4 y90))
def b1C(k:Nat)(K:Ex→St→Q76)(n:Nat)(a5V:A7)(x8:Int)(G9:A7):Q76:=A9j (U3 k) 0 (A0Z (U3 k) (A7s (U3 k) 8) 0 156 (sub a6v [1,1,0,1,0,0])) a7W K n (b7A a5V x8 G9)
theorem b5G(k:Nat)(G9:A7):((B4x 0 (B5Q (A0Z (U3 k) (A7s (U3 k) 8) 0 156 (sub a6v [1,1,1])) (B4C (U3 k) a9C h9))) (.exit 0) (a6w G9):Q76)=
 ((A9j (U3 k) 0 (A0Z (U3 k) (A7s (U3 k) 8) 0 156 (sub a6v [1,1,1,1,0,1,0,0])) a7X (B4x 2 (B5Q (A0Z (U3 k) (A7s (U3 k) 8) 0 156 (sub a6v [1,1,1,1,1])) (B4C (U3 k) a9C h9))) k (b7B G9 (0:Int) (List.replicate 32 (0:Int)))):Q76):=by kernel_rfl
theorem b5H(k:Nat)(K:Ex→St→Q76)(n:Nat)(a5V:A7)(x8:Int)(G9:A7):(b1C k K (n+1) a5V x8 G9:Q76)=s7 ((fun a5V x8 G9=>b1C k K n a5V x8 G9)) (fun G9=>K (.exit 0) (a6w G9)) a5V x8 G9:=by kernel_rfl
theorem b9D(K:Ex→St→Q76):∀(n:Nat) (a5V:A7) (x8:Int) (G9:A7),(b1C FUEL K n a5V x8 G9:Q76)=Y8 (fun G9=>K (.exit 0) (a6w G9)) n a5V x8 G9:=by
 intro n
 induction n with
 |zero=>intros; rfl
 |succ n ih=>
  intro a5V x8 G9
  exact(b5H FUEL K n a5V x8 G9).trans (congrArg (fun f=>s7 f (fun G9=>K (.exit 0) (a6w G9)) a5V x8 G9) (funext fun a5V=>funext fun x8=>funext fun G9=>ih a5V x8 G9))
theorem c5O(k:Nat)(a0:A7)(a1:A7)(a2:Int):fnK (U3 k) 8 156 a9C h9 [.pv G7 a0,.pv K26 a1,.pv E8 a2]=
 ((A1w (a0G a1 a2) fun(b1:A7)=>(A9j (U3 k) 0 (A0Z (U3 k) (A7s (U3 k) 8) 0 156 (sub a6v [1,1,0,1,0,0])) a7W (B4x 0 (B5Q (A0Z (U3 k) (A7s (U3 k) 8) 0 156 (sub a6v [1,1,1])) (B4C (U3 k) a9C h9))) k (b7A b1 (0:Int) a0))):Q76):=by kernel_rfl
theorem d1X(a0:A7)(a1:A7)(a2:Int):fnK (U3 FUEL) 8 156 a9C h9 [.pv G7 a0,.pv K26 a1,.pv E8 a2]=a4B a0 a1 a2:=
 (c5O FUEL a0 a1 a2).trans (B5S (fun b1=>(b9D _ FUEL b1 (0:Int) a0).trans (congrArg (fun e0=>Y8 e0 FUEL b1 (0:Int) a0) (funext fun G9=>(b5G FUEL G9).trans ((b9E _ FUEL G9 (0:Int) (List.replicate 32 (0:Int))).trans (congrArg (fun e0=>s8 e0 FUEL G9 (0:Int) (List.replicate 32 (0:Int))) (funext fun y90=>(b5I FUEL y90).trans (rfl))))))))
def c2u:Con:={ps:=(.pair (.arr 8 (.int .u32)) K14),sh:=h9,raw:=fun x=>a4B x.1 x.2.1 x.2.2.1}
theorem c5N:A8C D8 156 c2u:=B5n (c9d FUEL) (depth:=8) d5h fun x y h=>(d1X x.1 x.2.1 x.2.2.1).trans h
def c7o(k:Nat):Cx:=y7 [] [(156,c2u),(157,c2v)] [] [] [] k [] false
theorem c8L(k:Nat):A9E D8 (c7o k):=C4 ⟨c5N,c5P,C5⟩ C5 C5 C5
abbrev a4M:List Sh:=[.pl (.arr 32 k0B)]
abbrev Q78:Type:=Option (A2K a4M)
def a1P(a0:Int)(a1:A7):Q78:=
 (A1w (a2C a0) fun(b1:A7)=>(A1w (a4B b1 a1 (a1.length:Int)) fun(b2:A7)=>(some b2)))
theorem d1z(a0:Int)(a1:A7):fnK (c7o FUEL) 8 126 d1y a4M [.pv k0B a0,.pv K26 a1]=a1P a0 a1:=by kernel_rfl
def b2U:Con:={ps:=o4,sh:=a4M,raw:=fun x=>a1P x.1 x.2.1}
theorem b2V:A8C D8 126 b2U:=B5n (c8L FUEL) (depth:=8) d4O fun x y h=>(d1z x.1 x.2.1).trans h
def d3J(k:Nat):Cx:=y7 [] [(126,b2U)] [] [] [] k [] false
theorem d3K(k:Nat):A9E D8 (d3J k):=C4 ⟨b2V,C5⟩ C5 C5 C5
abbrev a5x:List Sh:=[.pl (.arr 32 k0B)]
abbrev Q92:Type:=Option (A2K a5x)
def W8(a0:T9):Q92:=
 (A1w (a1P a0.1 a0.2.1) fun(b1:A7)=>(some b1))
theorem d6p(a0:T9):fnK (d3J FUEL) 8 91 d7q a5x [.pv (.ref o4) a0]=W8 a0:=by kernel_rfl
def c8f:Con:={ps:=K6,sh:=a5x,raw:=fun x=>W8 x.1}
theorem d0s:A8C D8 91 c8f:=B5n (d3K FUEL) (depth:=8) d9f fun x y h=>(d6p x.1).trans h
def a9T:Cut:={keep:=[2,3,5],stk:=[],ids:=[20,30],own:=[],outs:=[(0,[4],[]),(1,[],[])]}
def a2M(k:Nat):Cx:=y7 [] [] [] [] [(57,[(0,a9T)])] k [] false
theorem d3l(k:Nat):A9E D8 (a2M k):=C4 C5 C5 C5 C5
abbrev Y1:List Sh:=[.pl (.int .i64)]
abbrev Q75:Type:=Option (A2K Y1)
def c3v(a0:A7)(a1:A7)(x5:Int):St:={env:=(.dead:: .dead:: .ptr 20 D9 []:: .ptr 30 D9 []:: .dead:: .pv E8 x5::(dd 18 [])),stk:=[],heap:=[(20,.var D9 (.pv D9 a0)),(30,.var D9 (.pv D9 a1))]}
def b0w(x4:Int):St:={env:=(dd 4 (.pv E8 x4::(dd 19 []))),stk:=[],heap:=[]}
def a8Y:St:={env:=(dd 24 []),stk:=[],heap:=[]}
def S8(rec:Int→Q75)(kr:Int→Q75)(ke0:Q75)(a0:A7)(a1:A7)(x5:Int):Q75:=
 (cond (decide (x5<(32:Int)))
 (cond ((decide ((0:Int)≤x5))&&(decide (x5<(32:Int))))
 (cond ((decide ((0:Int)≤x5))&&(decide (x5<(32:Int))))
 (cond (!(decide ((a0.getD (x5.toNat) (0:Int))=(a1.getD (x5.toNat) (0:Int)))))
 (cond ((decide ((0:Int)≤x5))&&(decide (x5<(32:Int))))
 (cond ((decide ((0:Int)≤x5))&&(decide (x5<(32:Int))))
 (cond (decide ((a0.getD (x5.toNat) (0:Int))<(a1.getD (x5.toNat) (0:Int))))
 (kr (-1:Int))
 (kr (1:Int)))
 none)
 none)
 (rec (IntKind.wrap .i64 (x5+(1:Int)))))
 none)
 none)
 (ke0))
def Y7(kr:Int→Q75)(ke0:Q75)(a0:A7)(a1:A7):Nat→Int→Q75
 |0=>fun _=>none
 |n+1=>S8 (Y7 kr ke0 a0 a1 n) kr ke0 a0 a1
def R0(a0:A7)(a1:A7):Q75:=
 (Y7 (fun x4=>(some x4)) (some (0:Int)) a0 a1 FUEL (0:Int))
def b3V(k:Nat)(K:Ex→St→Q75)(n:Nat)(a0:A7)(a1:A7)(x5:Int):Q75:=A9j (a2M k) 0 (A0Z (a2M k) (A7s (a2M k) 8) 0 57 (sub b8k [1,0,1,0,0])) a9T K n (c3v a0 a1 x5)
theorem c6B(k:Nat)(x4:Int):((B4x 0 (B5Q (A0Z (a2M k) (A7s (a2M k) 8) 0 57 (sub b8k [1,1])) (B4C (a2M k) b8m Y1))) .ret (b0w x4):Q75)=
 ((some x4):Q75):=by kernel_rfl
theorem c0G(k:Nat):((B4x 0 (B5Q (A0Z (a2M k) (A7s (a2M k) 8) 0 57 (sub b8k [1,1])) (B4C (a2M k) b8m Y1))) (.exit 0) (a8Y):Q75)=
 ((some (0:Int)):Q75):=by kernel_rfl
theorem c0H(k:Nat)(K:Ex→St→Q75)(n:Nat)(a0:A7)(a1:A7)(x5:Int):(b3V k K (n+1) a0 a1 x5:Q75)=S8 ((fun x5=>b3V k K n a0 a1 x5)) (fun x4=>K .ret (b0w x4)) (K (.exit 0) (a8Y)) a0 a1 x5:=by kernel_rfl
theorem c3u(K:Ex→St→Q75)(a0:A7)(a1:A7):∀(n:Nat) (x5:Int),(b3V FUEL K n a0 a1 x5:Q75)=Y7 (fun x4=>K .ret (b0w x4)) (K (.exit 0) (a8Y)) a0 a1 n x5:=by
 intro n
 induction n with
 |zero=>intros; rfl
 |succ n ih=>
  intro x5
  exact(c0H FUEL K n a0 a1 x5).trans (congrArg (fun f=>S8 f (fun x4=>K .ret (b0w x4)) (K (.exit 0) (a8Y)) a0 a1 x5) (funext fun x5=>ih x5))
theorem c9T(k:Nat)(a0:A7)(a1:A7):fnK (a2M k) 8 57 b8m Y1 [.pv D9 a0,.pv D9 a1]=
 ((A9j (a2M k) 0 (A0Z (a2M k) (A7s (a2M k) 8) 0 57 (sub b8k [1,0,1,0,0])) a9T (B4x 0 (B5Q (A0Z (a2M k) (A7s (a2M k) 8) 0 57 (sub b8k [1,1])) (B4C (a2M k) b8m Y1))) k (c3v a0 a1 (0:Int))):Q75):=by kernel_rfl
theorem d5Z(a0:A7)(a1:A7):fnK (a2M FUEL) 8 57 b8m Y1 [.pv D9 a0,.pv D9 a1]=R0 a0 a1:=
 (c9T FUEL a0 a1).trans ((c3u _ a0 a1 FUEL (0:Int)).trans (B5V (fun e0 e1=>Y7 e0 e1 a0 a1 FUEL (0:Int)) (funext fun x4=>(c6B FUEL x4).trans (rfl)) ((c0G FUEL).trans (rfl))))
def c0F:Con:={ps:=K11,sh:=Y1,raw:=fun x=>R0 x.1 x.2.1}
theorem b8l:A8C D8 57 c0F:=B5n (d3l FUEL) (depth:=8) d8I fun x y h=>(d5Z x.1 x.2.1).trans h
def d3p(k:Nat):Cx:=y7 [] [] [] [] [] k [] false
theorem d3q(k:Nat):A9E D8 (d3p k):=C4 C5 C5 C5 C5
abbrev a5O:List Sh:=[.pl .bool]
abbrev Q72:Type:=Option (A2K a5O)
def M5(a0:Int)(a1:Int)(a2:Int):Q72:=
 (cond (decide (a1≤a0))
 (some (decide (a0≤a2)))
 (some false))
theorem d6c(a0:Int)(a1:Int)(a2:Int):fnK (d3p FUEL) 8 62 d7i a5O [.pv E8 a0,.pv E8 a1,.pv E8 a2]=M5 a0 a1 a2:=by kernel_rfl
def c0K:Con:={ps:=K9,sh:=a5O,raw:=fun x=>M5 x.1 x.2.1 x.2.2.1}
theorem b8q:A8C D8 62 c0K:=B5n (d3q FUEL) (depth:=8) d8M fun x y h=>(d6c x.1 x.2.1 x.2.2.1).trans h
def a7B:Cut:={keep:=[0,3,5],stk:=[],ids:=[30],own:=[],outs:=[(0,[4],[]),(1,[],[])]}
def a1b(k:Nat):Cx:=y7 [] [] [] [] [(107,[(0,a7B)])] k [] false
theorem c8B(k:Nat):A9E D8 (a1b k):=C4 C5 C5 C5 C5
abbrev P6:List Sh:=[.pl (.int .i64)]
abbrev Q96:Type:=Option (A2K P6)
def b7f(a0:T1)(a1:A7)(x5:Int):St:={env:=(.pv (.ref K0) a0:: .dead:: .dead:: .ptr 30 D9 []:: .dead:: .pv E8 x5::(dd 19 [])),stk:=[],heap:=[(30,.var D9 (.pv D9 a1))]}
def a8H(x4:Int):St:={env:=(dd 4 (.pv E8 x4::(dd 20 []))),stk:=[],heap:=[]}
def a6a:St:={env:=(dd 25 []),stk:=[],heap:=[]}
def N4(rec:Int→Q96)(kr:Int→Q96)(ke0:Q96)(a0:T1)(a1:A7)(x5:Int):Q96:=
 (cond (decide (x5<(a0.2.1.length:Int)))
 (cond ((decide ((0:Int)≤x5))&&(decide (x5<(a0.2.1.length:Int))))
 (cond (eqd (.arr 32 k0B) (a0.2.1.getD (x5.toNat) (List.replicate 32 (0:Int))) a1)
 (kr x5)
 (rec (IntKind.wrap .i64 (x5+(1:Int)))))
 none)
 (ke0))
def N3(kr:Int→Q96)(ke0:Q96)(a0:T1)(a1:A7):Nat→Int→Q96
 |0=>fun _=>none
 |n+1=>N4 (N3 kr ke0 a0 a1 n) kr ke0 a0 a1
def N9(a0:T1)(a1:A7):Q96:=
 (N3 (fun x4=>(some x4)) (some (-1:Int)) a0 a1 FUEL (0:Int))
def b1d(k:Nat)(K:Ex→St→Q96)(n:Nat)(a0:T1)(a1:A7)(x5:Int):Q96:=A9j (a1b k) 0 (A0Z (a1b k) (A7s (a1b k) 8) 0 107 (sub b1b [1,0,1,0,0])) a7B K n (b7f a0 a1 x5)
theorem c1P(k:Nat)(x4:Int):((B4x 0 (B5Q (A0Z (a1b k) (A7s (a1b k) 8) 0 107 (sub b1b [1,1])) (B4C (a1b k) b1c P6))) .ret (a8H x4):Q96)=
 ((some x4):Q96):=by kernel_rfl
theorem b4Q(k:Nat):((B4x 0 (B5Q (A0Z (a1b k) (A7s (a1b k) 8) 0 107 (sub b1b [1,1])) (B4C (a1b k) b1c P6))) (.exit 0) (a6a):Q96)=
 ((some (-1:Int)):Q96):=by kernel_rfl
theorem b4R(k:Nat)(K:Ex→St→Q96)(n:Nat)(a0:T1)(a1:A7)(x5:Int):(b1d k K (n+1) a0 a1 x5:Q96)=N4 ((fun x5=>b1d k K n a0 a1 x5)) (fun x4=>K .ret (a8H x4)) (K (.exit 0) (a6a)) a0 a1 x5:=by kernel_rfl
theorem b9i(K:Ex→St→Q96)(a0:T1)(a1:A7):∀(n:Nat) (x5:Int),(b1d FUEL K n a0 a1 x5:Q96)=N3 (fun x4=>K .ret (a8H x4)) (K (.exit 0) (a6a)) a0 a1 n x5:=by
 intro n
 induction n with
 |zero=>intros; rfl
 |succ n ih=>
  intro x5
  exact(b4R FUEL K n a0 a1 x5).trans (congrArg (fun f=>N4 f (fun x4=>K .ret (a8H x4)) (K (.exit 0) (a6a)) a0 a1 x5) (funext fun x5=>ih x5))
theorem c4X(k:Nat)(a0:T1)(a1:A7):fnK (a1b k) 8 107 b1c P6 [.pv (.ref K0) a0,.pv D9 a1]=
 ((A9j (a1b k) 0 (A0Z (a1b k) (A7s (a1b k) 8) 0 107 (sub b1b [1,0,1,0,0])) a7B (B4x 0 (B5Q (A0Z (a1b k) (A7s (a1b k) 8) 0 107 (sub b1b [1,1])) (B4C (a1b k) b1c P6))) k (b7f a0 a1 (0:Int))):Q96):=by kernel_rfl
theorem d1i(a0:T1)(a1:A7):fnK (a1b FUEL) 8 107 b1c P6 [.pv (.ref K0) a0,.pv D9 a1]=N9 a0 a1:=
 (c4X FUEL a0 a1).trans ((b9i _ a0 a1 FUEL (0:Int)).trans (B5V (fun e0 e1=>N3 e0 e1 a0 a1 FUEL (0:Int)) (funext fun x4=>(c1P FUEL x4).trans (rfl)) ((b4Q FUEL).trans (rfl))))
def b0n:Con:={ps:=(.pair (.ref K0) K19),sh:=P6,raw:=fun x=>N9 x.1 x.2.1}
theorem a9x:A8C D8 107 b0n:=B5n (c8B FUEL) (depth:=8) d4C fun x y h=>(d1i x.1 x.2.1).trans h
def a7A:Cut:={keep:=[0,3,5],stk:=[],ids:=[30],own:=[],outs:=[(0,[4],[]),(1,[],[])]}
def a1a(k:Nat):Cx:=y7 [] [] [] [] [(106,[(0,a7A)])] k [] false
theorem c8A(k:Nat):A9E D8 (a1a k):=C4 C5 C5 C5 C5
abbrev a0X:List Sh:=[.pl .bool]
abbrev Q77:Type:=Option (A2K a0X)
def b7e(a0:B5)(a1:A7)(x5:Int):St:={env:=(.pv K22 a0:: .dead:: .dead:: .ptr 30 D9 []:: .dead:: .pv E8 x5::(dd 12 [])),stk:=[],heap:=[(30,.var D9 (.pv D9 a1))]}
def a8G:St:={env:=(dd 4 (.pv .bool true::(dd 13 []))),stk:=[],heap:=[]}
def a5Z:St:={env:=(dd 18 []),stk:=[],heap:=[]}
def s9(rec:Int→Q77)(kr:Q77)(ke0:Q77)(a0:B5)(a1:A7)(x5:Int):Q77:=
 (cond (decide (x5<(a0.length:Int)))
 (cond ((decide ((0:Int)≤x5))&&(decide (x5<(a0.length:Int))))
 (cond (eqd (.arr 32 k0B) (a0.getD (x5.toNat) (List.replicate 32 (0:Int))) a1)
 (kr)
 (rec (IntKind.wrap .i64 (x5+(1:Int)))))
 none)
 (ke0))
def a1O(kr:Q77)(ke0:Q77)(a0:B5)(a1:A7):Nat→Int→Q77
 |0=>fun _=>none
 |n+1=>s9 (a1O kr ke0 a0 a1 n) kr ke0 a0 a1
def w7(a0:B5)(a1:A7):Q77:=
 (a1O (some true) (some false) a0 a1 FUEL (0:Int))
def b1a(k:Nat)(K:Ex→St→Q77)(n:Nat)(a0:B5)(a1:A7)(x5:Int):Q77:=A9j (a1a k) 0 (A0Z (a1a k) (A7s (a1a k) 8) 0 106 (sub b0Y [1,0,1,0,0])) a7A K n (b7e a0 a1 x5)
theorem c1O(k:Nat):((B4x 0 (B5Q (A0Z (a1a k) (A7s (a1a k) 8) 0 106 (sub b0Y [1,1])) (B4C (a1a k) b0Z a0X))) .ret (a8G):Q77)=
 ((some true):Q77):=by kernel_rfl
theorem b4O(k:Nat):((B4x 0 (B5Q (A0Z (a1a k) (A7s (a1a k) 8) 0 106 (sub b0Y [1,1])) (B4C (a1a k) b0Z a0X))) (.exit 0) (a5Z):Q77)=
 ((some false):Q77):=by kernel_rfl
theorem b4P(k:Nat)(K:Ex→St→Q77)(n:Nat)(a0:B5)(a1:A7)(x5:Int):(b1a k K (n+1) a0 a1 x5:Q77)=s9 ((fun x5=>b1a k K n a0 a1 x5)) (K .ret (a8G)) (K (.exit 0) (a5Z)) a0 a1 x5:=by kernel_rfl
theorem b9h(K:Ex→St→Q77)(a0:B5)(a1:A7):∀(n:Nat) (x5:Int),(b1a FUEL K n a0 a1 x5:Q77)=a1O (K .ret (a8G)) (K (.exit 0) (a5Z)) a0 a1 n x5:=by
 intro n
 induction n with
 |zero=>intros; rfl
 |succ n ih=>
  intro x5
  exact(b4P FUEL K n a0 a1 x5).trans (congrArg (fun f=>s9 f (K .ret (a8G)) (K (.exit 0) (a5Z)) a0 a1 x5) (funext fun x5=>ih x5))
theorem c4W(k:Nat)(a0:B5)(a1:A7):fnK (a1a k) 8 106 b0Z a0X [.pv K22 a0,.pv D9 a1]=
 ((A9j (a1a k) 0 (A0Z (a1a k) (A7s (a1a k) 8) 0 106 (sub b0Y [1,0,1,0,0])) a7A (B4x 0 (B5Q (A0Z (a1a k) (A7s (a1a k) 8) 0 106 (sub b0Y [1,1])) (B4C (a1a k) b0Z a0X))) k (b7e a0 a1 (0:Int))):Q77):=by kernel_rfl
theorem d1h(a0:B5)(a1:A7):fnK (a1a FUEL) 8 106 b0Z a0X [.pv K22 a0,.pv D9 a1]=w7 a0 a1:=
 (c4W FUEL a0 a1).trans ((b9h _ a0 a1 FUEL (0:Int)).trans (B5V (fun e0 e1=>a1O e0 e1 a0 a1 FUEL (0:Int)) ((c1O FUEL).trans (rfl)) ((b4O FUEL).trans (rfl))))
def b0m:Con:={ps:=K7,sh:=a0X,raw:=fun x=>w7 x.1 x.2.1}
theorem a9w:A8C D8 106 b0m:=B5n (c8A FUEL) (depth:=8) d4B fun x y h=>(d1h x.1 x.2.1).trans h
def a2a:Cut:={keep:=[0,1,2,7,8],stk:=[],ids:=[90070],own:=[(7,90070,43)],outs:=[(1,[7],[90070])]}
def a8d:Cut:={keep:=[0,1,2,7,8,9,10],stk:=[],ids:=[90,90070],own:=[],outs:=[(3,[0,1,2,7,8,9],[90,90070])]}
def I5(k:Nat):Cx:=y7 [] [] [] [] [(172,[(0,a2a),(2,a8d)])] k [] false
theorem c9i(k:Nat):A9E D8 (I5 k):=C4 C5 C5 C5 C5
abbrev a0u:List Sh:=[.own 32 (.arr 32 k0B)]
abbrev Q93:Type:=Option (A2K a0u)
def b1K(a0:A7)(a1:Int)(a2:Int)(x8:Int)(A9:B5):St:={env:=(.pv K26 a0:: .pv E8 a1:: .pv E8 a2::(dd 4 (.sl 90070 D9:: .pv E8 x8::(dd 29 [])))),stk:=[],heap:=[(90070,.arr 32 D9 A9)]}
def a9E(A9:B5):St:={env:=(dd 7 (.sl 90070 D9::(dd 30 []))),stk:=[],heap:=[(90070,.arr 32 D9 A9)]}
def b7J(a0:A7)(a1:Int)(a2:Int)(x8:Int)(A9:B5)(E4:Int)(y90:A7):St:={env:=(.pv K26 a0:: .pv E8 a1:: .pv E8 a2::(dd 4 (.sl 90070 D9:: .pv E8 x8:: .ptr 90 D9 []:: .pv E8 E4::(dd 27 [])))),stk:=[],heap:=[(90,.var D9 (.pv D9 y90)),(90070,.arr 32 D9 A9)]}
def a6E(a0:A7)(a1:Int)(a2:Int)(x8:Int)(A9:B5)(y90:A7):St:={env:=(.pv K26 a0:: .pv E8 a1:: .pv E8 a2::(dd 4 (.sl 90070 D9:: .pv E8 x8:: .ptr 90 D9 []::(dd 28 [])))),stk:=[],heap:=[(90,.var D9 (.pv D9 y90)),(90070,.arr 32 D9 A9)]}
def l4(rec:Int→A7→Q93)(ke2:A7→Q93)(a0:A7)(a1:Int)(a2:Int)(x8:Int)(A9:B5)(E4:Int)(y90:A7):Q93:=
 (cond (decide (E4<(32:Int)))
 (cond ((decide ((0:Int)≤(IntKind.wrap .i64 ((IntKind.wrap .i64 (a1+(IntKind.wrap .i64 ((32:Int)*x8))))+E4))))&&(decide ((IntKind.wrap .i64 ((IntKind.wrap .i64 (a1+(IntKind.wrap .i64 ((32:Int)*x8))))+E4))<(a0.length:Int))))
 (cond ((decide ((0:Int)≤E4))&&(decide (E4<(32:Int))))
 (rec (IntKind.wrap .i64 (E4+(1:Int))) (y90.set (E4.toNat) (a0.getD ((IntKind.wrap .i64 ((IntKind.wrap .i64 (a1+(IntKind.wrap .i64 ((32:Int)*x8))))+E4)).toNat) (0:Int))))
 none)
 none)
 (ke2 y90))
def l0(ke2:A7→Q93)(a0:A7)(a1:Int)(a2:Int)(x8:Int)(A9:B5):Nat→Int→A7→Q93
 |0=>fun _ _=>none
 |n+1=>l4 (l0 ke2 a0 a1 a2 x8 A9 n) ke2 a0 a1 a2 x8 A9
def a1v(rec:Int→B5→Q93)(ke0:B5→Q93)(a0:A7)(a1:Int)(a2:Int)(x8:Int)(A9:B5):Q93:=
 (cond (decide (x8<a2))
 (l0 (fun y90=>(cond (decide ((A9.length+1)*32≤140737488355328)&&decide (A9.length+1≤9223372036854775807))
 (rec (IntKind.wrap .i64 (x8+(1:Int))) (A9++[y90]))
 none)) a0 a1 a2 x8 A9 FUEL (0:Int) (List.replicate 32 (0:Int)))
 (ke0 A9))
def j9(ke0:B5→Q93)(a0:A7)(a1:Int)(a2:Int):Nat→Int→B5→Q93
 |0=>fun _ _=>none
 |n+1=>a1v (j9 ke0 a0 a1 a2 n) ke0 a0 a1 a2
def W9(a0:A7)(a1:Int)(a2:Int):Q93:=
 (j9 (fun A9=>(some A9)) a0 a1 a2 FUEL (0:Int) [])
def b1L(k:Nat)(K:Ex→St→Q93)(n:Nat)(a0:A7)(a1:Int)(a2:Int)(x8:Int)(A9:B5)(E4:Int)(y90:A7):Q93:=A9j (I5 k) 0 (A0Z (I5 k) (A7s (I5 k) 8) 0 172 (sub a3R [1,1,0,1,0,0,1,0,0,1,0,1,0,0])) a8d K n (b7J a0 a1 a2 x8 A9 E4 y90)
theorem b5Y(k:Nat)(K:Ex→St→Q93)(n:Nat)(a0:A7)(a1:Int)(a2:Int)(x8:Int)(A9:B5)(y90:A7):((B4x 2 (B5Q (A0Z (I5 k) (A7s (I5 k) 8) 0 172 (sub a3R [1,1,0,1,0,0,1,0,0,1,1])) (B4x 1 (B5Q (A0Z (I5 k) (A7s (I5 k) 8) 0 172 (sub a3R [1,1,0,1,0,0,1,1])) (B2m (I5 k) 0 a2a (A9j (I5 k) 0 (A0Z (I5 k) (A7s (I5 k) 8) 0 172 (sub a3R [1,1,0,1,0,0])) a2a K n) K))))) (.exit 2) (a6E a0 a1 a2 x8 A9 y90):Q93)=
 ((cond (decide ((A9.length+1)*32≤140737488355328)&&decide (A9.length+1≤9223372036854775807))
 (A9j (I5 k) 0 (A0Z (I5 k) (A7s (I5 k) 8) 0 172 (sub a3R [1,1,0,1,0,0])) a2a K n (b1K a0 a1 a2 (IntKind.wrap .i64 (x8+(1:Int))) (A9++[y90])))
 none):Q93):=by kernel_rfl
theorem b5Z(k:Nat)(K:Ex→St→Q93)(n:Nat)(a0:A7)(a1:Int)(a2:Int)(x8:Int)(A9:B5)(E4:Int)(y90:A7):(b1L k K (n+1) a0 a1 a2 x8 A9 E4 y90:Q93)=l4 ((fun E4 y90=>b1L k K n a0 a1 a2 x8 A9 E4 y90)) (fun y90=>K (.exit 2) (a6E a0 a1 a2 x8 A9 y90)) a0 a1 a2 x8 A9 E4 y90:=by kernel_rfl
theorem b9M(K:Ex→St→Q93)(a0:A7)(a1:Int)(a2:Int)(x8:Int)(A9:B5):∀(n:Nat) (E4:Int) (y90:A7),(b1L FUEL K n a0 a1 a2 x8 A9 E4 y90:Q93)=l0 (fun y90=>K (.exit 2) (a6E a0 a1 a2 x8 A9 y90)) a0 a1 a2 x8 A9 n E4 y90:=by
 intro n
 induction n with
 |zero=>intros; rfl
 |succ n ih=>
  intro E4 y90
  exact(b5Z FUEL K n a0 a1 a2 x8 A9 E4 y90).trans (congrArg (fun f=>l4 f (fun y90=>K (.exit 2) (a6E a0 a1 a2 x8 A9 y90)) a0 a1 a2 x8 A9 E4 y90) (funext fun E4=>funext fun y90=>ih E4 y90))
def b7I(k:Nat)(K:Ex→St→Q93)(n:Nat)(a0:A7)(a1:Int)(a2:Int)(x8:Int)(A9:B5):Q93:=A9j (I5 k) 0 (A0Z (I5 k) (A7s (I5 k) 8) 0 172 (sub a3R [1,1,0,1,0,0])) a2a K n (b1K a0 a1 a2 x8 A9)
theorem b5X(k:Nat)(K:Ex→St→Q93)(n:Nat)(a0:A7)(a1:Int)(a2:Int)(x8:Int)(A9:B5):(b7I k K (n+1) a0 a1 a2 x8 A9:Q93)=
 ((cond (decide (x8<a2))
 (A9j (I5 k) 0 (A0Z (I5 k) (A7s (I5 k) 8) 0 172 (sub a3R [1,1,0,1,0,0,1,0,0,1,0,1,0,0])) a8d (B4x 2 (B5Q (A0Z (I5 k) (A7s (I5 k) 8) 0 172 (sub a3R [1,1,0,1,0,0,1,0,0,1,1])) (B4x 1 (B5Q (A0Z (I5 k) (A7s (I5 k) 8) 0 172 (sub a3R [1,1,0,1,0,0,1,1])) (B2m (I5 k) 0 a2a (A9j (I5 k) 0 (A0Z (I5 k) (A7s (I5 k) 8) 0 172 (sub a3R [1,1,0,1,0,0])) a2a K n) K))))) k (b7J a0 a1 a2 x8 A9 (0:Int) (List.replicate 32 (0:Int))))
 (K (.exit 0) (a9E A9))):Q93):=by kernel_rfl
theorem b5W(k:Nat)(A9:B5):((B4x 0 (B5Q (A0Z (I5 k) (A7s (I5 k) 8) 0 172 (sub a3R [1,1,1])) (B4C (I5 k) b3r a0u))) (.exit 0) (a9E A9):Q93)=
 ((some A9):Q93):=by kernel_rfl
theorem b9L(K:Ex→St→Q93)(a0:A7)(a1:Int)(a2:Int):∀(n:Nat) (x8:Int) (A9:B5),(b7I FUEL K n a0 a1 a2 x8 A9:Q93)=j9 (fun A9=>K (.exit 0) (a9E A9)) a0 a1 a2 n x8 A9:=by
 intro n
 induction n with
 |zero=>intros; rfl
 |succ n ih=>
  intro x8 A9
  exact(b5X FUEL K n a0 a1 a2 x8 A9).trans (B5U ((b9M _ a0 a1 a2 x8 A9 FUEL (0:Int) (List.replicate 32 (0:Int))).trans (congrArg (fun e0=>l0 e0 a0 a1 a2 x8 A9 FUEL (0:Int) (List.replicate 32 (0:Int))) (funext fun y90=>(b5Y FUEL K n a0 a1 a2 x8 A9 y90).trans (B5U (ih (IntKind.wrap .i64 (x8+(1:Int))) (A9++[y90])) (rfl))))) (rfl))
theorem c5X(k:Nat)(a0:A7)(a1:Int)(a2:Int):fnK (I5 k) 8 172 b3r a0u [.pv K26 a0,.pv E8 a1,.pv E8 a2]=
 ((A9j (I5 k) 0 (A0Z (I5 k) (A7s (I5 k) 8) 0 172 (sub a3R [1,1,0,1,0,0])) a2a (B4x 0 (B5Q (A0Z (I5 k) (A7s (I5 k) 8) 0 172 (sub a3R [1,1,1])) (B4C (I5 k) b3r a0u))) k (b1K a0 a1 a2 (0:Int) [])):Q93):=by kernel_rfl
theorem d2d(a0:A7)(a1:Int)(a2:Int):fnK (I5 FUEL) 8 172 b3r a0u [.pv K26 a0,.pv E8 a1,.pv E8 a2]=W9 a0 a1 a2:=
 (c5X FUEL a0 a1 a2).trans ((b9L _ a0 a1 a2 FUEL (0:Int) []).trans (congrArg (fun e0=>j9 e0 a0 a1 a2 FUEL (0:Int) []) (funext fun A9=>(b5W FUEL A9).trans (rfl))))
def c2z:Con:={ps:=(.pair K26 K16),sh:=a0u,raw:=fun x=>W9 x.1 x.2.1 x.2.2.1}
theorem c5W:A8C D8 172 c2z:=B5n (c9i FUEL) (depth:=8) d5n fun x y h=>(d2d x.1 x.2.1 x.2.2.1).trans h
def c7x(k:Nat):Cx:=y7 [] [(62,c0K)] [] [] [] k [] false
theorem c9m(k:Nat):A9E D8 (c7x k):=C4 ⟨b8q,C5⟩ C5 C5 C5
abbrev a4O:List Sh:=[.pl .bool]
abbrev Q87:Type:=Option (A2K a4O)
def a4f(a0:List Int):Q87:=
 (A1w (M5 (a0.length:Int) (1:Int) (24:Int)) fun(b1:Bool)=>(some b1))
theorem d2j(a0:List Int):fnK (c7x FUEL) 8 178 d2i a4O [.pv .str a0]=a4f a0:=by kernel_rfl
def c2E:Con:={ps:=K27,sh:=a4O,raw:=fun x=>a4f x.1}
theorem c6e:A8C D8 178 c2E:=B5n (c9m FUEL) (depth:=8) d5s fun x y h=>(d2j x.1).trans h
def c7t(k:Nat):Cx:=y7 [] [(178,c2E)] [] [] [] k [] false
theorem c9b(k:Nat):A9E D8 (c7t k):=C4 ⟨c6e,C5⟩ C5 C5 C5
abbrev a4w:List Sh:=[.pl .bool]
abbrev Q86:Type:=Option (A2K a4w)
def a0s(a0:T7):Q86:=
 (A1w (a4f a0.1) fun(b1:Bool)=>(cond b1
 (some (decide ((a0.2.1.length:Int)≤(64:Int))))
 (some false)))
theorem d1U(a0:T7):fnK (c7t FUEL) 8 146 d1T a4w [.pv (.ref K21) a0]=a0s a0:=by kernel_rfl
def c2s:Con:={ps:=(.pair (.ref K21) .unit),sh:=a4w,raw:=fun x=>a0s x.1}
theorem c5L:A8C D8 146 c2s:=B5n (c9b FUEL) (depth:=8) d5f fun x y h=>(d1U x.1).trans h
def a8e:Cut:={keep:=[0,2,4,5,6],stk:=[],ids:=[20,40],own:=[],outs:=[(1,[0,2,4,5],[20,40])]}
def a2o(k:Nat):Cx:=y7 [] [(146,c2s)] [] [] [(173,[(0,a8e)])] k [] false
theorem c9j(k:Nat):A9E D8 (a2o k):=C4 ⟨c5L,C5⟩ C5 C5 C5
abbrev a0t:List Sh:=[.pl K2,.pl .bool]
abbrev Q88:Type:=Option (A2K a0t)
def b7K(a0:A7)(x6:Int)(X0:T0):St:={env:=(.pv K26 a0:: .dead:: .ptr 20 K2 []:: .dead:: .ptr 40 K2 []:: .pv E8 (IntKind.wrap .i64 (a0.getD 64 (0:Int))):: .pv E8 x6::(dd 54 [])),stk:=[],heap:=[(20,.var K2 (.pv K2 ((List.replicate 32 (0:Int)),((List.replicate 32 (0:Int)),(([],([],())),()))))),(40,.var K2 (.pv K2 X0))]}
def a6F(a0:A7)(X0:T0):St:={env:=(.pv K26 a0:: .dead:: .ptr 20 K2 []:: .dead:: .ptr 40 K2 []:: .pv E8 (IntKind.wrap .i64 (a0.getD 64 (0:Int)))::(dd 55 [])),stk:=[],heap:=[(20,.var K2 (.pv K2 ((List.replicate 32 (0:Int)),((List.replicate 32 (0:Int)),(([],([],())),()))))),(40,.var K2 (.pv K2 X0))]}
def j8(rec:Int→T0→Q88)(ke0:T0→Q88)(a0:A7)(x6:Int)(X0:T0):Q88:=
 (cond (decide (x6<(32:Int)))
 (cond ((decide ((0:Int)≤x6))&&(decide (x6<(a0.length:Int))))
 (cond ((decide ((0:Int)≤x6))&&(decide (x6<(32:Int))))
 (cond ((decide ((0:Int)≤(IntKind.wrap .i64 ((32:Int)+x6))))&&(decide ((IntKind.wrap .i64 ((32:Int)+x6))<(a0.length:Int))))
 (cond ((decide ((0:Int)≤x6))&&(decide (x6<(32:Int))))
 (rec (IntKind.wrap .i64 (x6+(1:Int))) ((X0.1.set (x6.toNat) (a0.getD (x6.toNat) (0:Int))),((X0.2.1.set (x6.toNat) (a0.getD ((IntKind.wrap .i64 ((32:Int)+x6)).toNat) (0:Int))),X0.2.2)))
 none)
 none)
 none)
 none)
 (ke0 X0))
def j7(ke0:T0→Q88)(a0:A7):Nat→Int→T0→Q88
 |0=>fun _ _=>none
 |n+1=>j8 (j7 ke0 a0 n) ke0 a0
def a3h(a0:A7):Q88:=
 (cond (decide ((a0.length:Int)<(66:Int)))
 (some (((List.replicate 32 (0:Int)),((List.replicate 32 (0:Int)),(([],([],())),()))),false))
 (cond (decide ((153:Int)<(a0.length:Int)))
 (some (((List.replicate 32 (0:Int)),((List.replicate 32 (0:Int)),(([],([],())),()))),false))
 (cond (decide ((64:Int)<(a0.length:Int)))
 (cond (decide ((a0.length:Int)<(IntKind.wrap .i64 ((65:Int)+(IntKind.wrap .i64 (a0.getD 64 (0:Int)))))))
 (some (((List.replicate 32 (0:Int)),((List.replicate 32 (0:Int)),(([],([],())),()))),false))
 (j7 (fun X0=>(cond ((decide ((0:Int)≤(IntKind.wrap .i64 ((65:Int)+(IntKind.wrap .i64 (a0.getD 64 (0:Int)))))))&&(decide ((IntKind.wrap .i64 ((65:Int)+(IntKind.wrap .i64 (a0.getD 64 (0:Int)))))≤(a0.length:Int))))
 (cond (decide ((65:Int)≤(IntKind.wrap .i64 ((65:Int)+(IntKind.wrap .i64 (a0.getD 64 (0:Int)))))))
 (cond ((decide ((0:Int)≤(IntKind.wrap .i64 ((65:Int)+(IntKind.wrap .i64 (a0.getD 64 (0:Int)))))))&&(decide ((IntKind.wrap .i64 ((65:Int)+(IntKind.wrap .i64 (a0.getD 64 (0:Int)))))≤(a0.length:Int))))
 (A1w (a0s ((A3F a0 65 ((IntKind.wrap .i64 ((65:Int)+(IntKind.wrap .i64 (a0.getD 64 (0:Int))))).toNat)),((A3F a0 ((IntKind.wrap .i64 ((65:Int)+(IntKind.wrap .i64 (a0.getD 64 (0:Int))))).toNat) (a0.length)),()))) fun(b1:Bool)=>(some ((X0.1,(X0.2.1,(((A3F a0 65 ((IntKind.wrap .i64 ((65:Int)+(IntKind.wrap .i64 (a0.getD 64 (0:Int))))).toNat)),((A3F a0 ((IntKind.wrap .i64 ((65:Int)+(IntKind.wrap .i64 (a0.getD 64 (0:Int))))).toNat) (a0.length)),())),X0.2.2.2))),b1)))
 none)
 none)
 none)) a0 FUEL (0:Int) ((List.replicate 32 (0:Int)),((List.replicate 32 (0:Int)),(([],([],())),())))))
 none)))
def b1M(k:Nat)(K:Ex→St→Q88)(n:Nat)(a0:A7)(x6:Int)(X0:T0):Q88:=A9j (a2o k) 0 (A0Z (a2o k) (A7s (a2o k) 8) 0 173 (sub b3s [1,1,1,1,1,0,1,0,0])) a8e K n (b7K a0 x6 X0)
theorem b6a(k:Nat)(a0:A7)(X0:T0):((B4x 0 (B5Q (A0Z (a2o k) (A7s (a2o k) 8) 0 173 (sub b3s [1,1,1,1,1,1])) (B4C (a2o k) b3t a0t))) (.exit 0) (a6F a0 X0):Q88)=
 ((cond ((decide ((0:Int)≤(IntKind.wrap .i64 ((65:Int)+(IntKind.wrap .i64 (a0.getD 64 (0:Int)))))))&&(decide ((IntKind.wrap .i64 ((65:Int)+(IntKind.wrap .i64 (a0.getD 64 (0:Int)))))≤(a0.length:Int))))
 (cond (decide ((65:Int)≤(IntKind.wrap .i64 ((65:Int)+(IntKind.wrap .i64 (a0.getD 64 (0:Int)))))))
 (cond ((decide ((0:Int)≤(IntKind.wrap .i64 ((65:Int)+(IntKind.wrap .i64 (a0.getD 64 (0:Int)))))))&&(decide ((IntKind.wrap .i64 ((65:Int)+(IntKind.wrap .i64 (a0.getD 64 (0:Int)))))≤(a0.length:Int))))
 (A1w (a0s ((A3F a0 65 ((IntKind.wrap .i64 ((65:Int)+(IntKind.wrap .i64 (a0.getD 64 (0:Int))))).toNat)),((A3F a0 ((IntKind.wrap .i64 ((65:Int)+(IntKind.wrap .i64 (a0.getD 64 (0:Int))))).toNat) (a0.length)),()))) fun(b1:Bool)=>(some ((X0.1,(X0.2.1,(((A3F a0 65 ((IntKind.wrap .i64 ((65:Int)+(IntKind.wrap .i64 (a0.getD 64 (0:Int))))).toNat)),((A3F a0 ((IntKind.wrap .i64 ((65:Int)+(IntKind.wrap .i64 (a0.getD 64 (0:Int))))).toNat) (a0.length)),())),X0.2.2.2))),b1)))
 none)
 none)
 none):Q88):=by kernel_rfl
theorem b6b(k:Nat)(K:Ex→St→Q88)(n:Nat)(a0:A7)(x6:Int)(X0:T0):(b1M k K (n+1) a0 x6 X0:Q88)=j8 ((fun x6 X0=>b1M k K n a0 x6 X0)) (fun X0=>K (.exit 0) (a6F a0 X0)) a0 x6 X0:=by kernel_rfl
theorem b9N(K:Ex→St→Q88)(a0:A7):∀(n:Nat) (x6:Int) (X0:T0),(b1M FUEL K n a0 x6 X0:Q88)=j7 (fun X0=>K (.exit 0) (a6F a0 X0)) a0 n x6 X0:=by
 intro n
 induction n with
 |zero=>intros; rfl
 |succ n ih=>
  intro x6 X0
  exact(b6b FUEL K n a0 x6 X0).trans (congrArg (fun f=>j8 f (fun X0=>K (.exit 0) (a6F a0 X0)) a0 x6 X0) (funext fun x6=>funext fun X0=>ih x6 X0))
theorem c5Z(k:Nat)(a0:A7):fnK (a2o k) 8 173 b3t a0t [.pv K26 a0]=
 ((cond (decide ((a0.length:Int)<(66:Int)))
 (some (((List.replicate 32 (0:Int)),((List.replicate 32 (0:Int)),(([],([],())),()))),false))
 (cond (decide ((153:Int)<(a0.length:Int)))
 (some (((List.replicate 32 (0:Int)),((List.replicate 32 (0:Int)),(([],([],())),()))),false))
 (cond (decide ((64:Int)<(a0.length:Int)))
 (cond (decide ((a0.length:Int)<(IntKind.wrap .i64 ((65:Int)+(IntKind.wrap .i64 (a0.getD 64 (0:Int)))))))
 (some (((List.replicate 32 (0:Int)),((List.replicate 32 (0:Int)),(([],([],())),()))),false))
 (A9j (a2o k) 0 (A0Z (a2o k) (A7s (a2o k) 8) 0 173 (sub b3s [1,1,1,1,1,0,1,0,0])) a8e (B4x 0 (B5Q (A0Z (a2o k) (A7s (a2o k) 8) 0 173 (sub b3s [1,1,1,1,1,1])) (B4C (a2o k) b3t a0t))) k (b7K a0 (0:Int) ((List.replicate 32 (0:Int)),((List.replicate 32 (0:Int)),(([],([],())),()))))))
 none))):Q88):=by kernel_rfl
theorem d2e(a0:A7):fnK (a2o FUEL) 8 173 b3t a0t [.pv K26 a0]=a3h a0:=
 (c5Z FUEL a0).trans (B5U (rfl) (B5U (rfl) (B5U (B5U (rfl) ((b9N _ a0 FUEL (0:Int) ((List.replicate 32 (0:Int)),((List.replicate 32 (0:Int)),(([],([],())),())))).trans (congrArg (fun e0=>j7 e0 a0 FUEL (0:Int) ((List.replicate 32 (0:Int)),((List.replicate 32 (0:Int)),(([],([],())),())))) (funext fun X0=>(b6a FUEL a0 X0).trans (rfl))))) (rfl))))
def c2A:Con:={ps:=K20,sh:=a0t,raw:=fun x=>a3h x.1}
theorem c5Y:A8C D8 173 c2A:=B5n (c9j FUEL) (depth:=8) d5o fun x y h=>(d2e x.1).trans h
def c7u(k:Nat):Cx:=y7 [] [(126,b2U)] [] [] [] k [] false
theorem c9c(k:Nat):A9E D8 (c7u k):=C4 ⟨b2V,C5⟩ C5 C5 C5
abbrev a4v:List Sh:=[.pl (.arr 32 k0B)]
abbrev Q85:Type:=Option (A2K a4v)
def n9:Q85:=
 (A1w (a1P (5:Int) []) fun(b1:A7)=>(some b1))
theorem d1W:fnK (c7u FUEL) 8 147 d1V a4v []=n9:=by kernel_rfl
def c2t:Con:={ps:= .unit,sh:=a4v,raw:=fun x=>n9}
theorem c5M:A8C D8 147 c2t:=B5n (c9c FUEL) (depth:=8) d5g fun x y h=>(d1W).trans h
def c7r(k:Nat):Cx:=y7 [] [(147,c2t),(172,c2z),(173,c2A)] [] [] [] k [] false
theorem c8V(k:Nat):A9E D8 (c7r k):=C4 ⟨c5M,c5W,c5Y,C5⟩ C5 C5 C5
abbrev a4x:List Sh:=[.own 32 (.arr 32 k0B)]
abbrev Q94:Type:=Option (A2K a4x)
def a2D(a0:T9):Q94:=
 (cond (decide (a0.1=(2:Int)))
 (cond (decide ((a0.2.1.length:Int)=(64:Int)))
 (A1w (W9 a0.2.1 (0:Int) (2:Int)) fun(b1:B5)=>(some b1))
 (some []))
 (cond (decide (a0.1=(5:Int)))
 (A1w (a3h a0.2.1) fun(b2:(T0×Bool))=>(cond b2.2
 (A1w (n9) fun(b3:A7)=>(cond (!(eqd (.arr 32 k0B) b2.1.1 b3))
 (cond b2.2
 (A1w (n9) fun(b4:A7)=>(cond (!(eqd (.arr 32 k0B) b2.1.2.1 b4))
 (some [b2.1.1,b2.1.2.1])
 (some [b2.1.1])))
 (some [b2.1.1]))
 (cond b2.2
 (A1w (n9) fun(b5:A7)=>(cond (!(eqd (.arr 32 k0B) b2.1.2.1 b5))
 (some [b2.1.2.1])
 (some [])))
 (some []))))
 (cond b2.2
 (A1w (n9) fun(b6:A7)=>(cond (!(eqd (.arr 32 k0B) b2.1.2.1 b6))
 (some [b2.1.2.1])
 (some [])))
 (some []))))
 (cond (decide (a0.1=(6:Int)))
 (cond (decide ((Int.tmod (a0.2.1.length:Int) (32:Int))=(0:Int)))
 (A1w (W9 a0.2.1 (0:Int) (IntKind.wrap .i64 (Int.tdiv (a0.2.1.length:Int) (32:Int)))) fun(b7:B5)=>(some b7))
 (some []))
 (cond (decide (a0.1=(7:Int)))
 (cond (decide ((0:Int)<(a0.2.1.length:Int)))
 (cond (decide ((0:Int)<(a0.2.1.length:Int)))
 (cond (decide ((IntKind.wrap .i64 ((1:Int)+(IntKind.wrap .i64 ((32:Int)*(IntKind.wrap .i64 (a0.2.1.getD 0 (0:Int)))))))≤(a0.2.1.length:Int)))
 (cond (decide ((0:Int)<(a0.2.1.length:Int)))
 (A1w (W9 a0.2.1 (1:Int) (IntKind.wrap .i64 (a0.2.1.getD 0 (0:Int)))) fun(b8:B5)=>(some b8))
 none)
 (some []))
 none)
 (some []))
 (some [])))))
theorem d1M(a0:T9):fnK (c7r FUEL) 8 138 d1L a4x [.pv (.ref o4) a0]=a2D a0:=by kernel_rfl
def c2k:Con:={ps:=K6,sh:=a4x,raw:=fun x=>a2D x.1}
theorem c5A:A8C D8 138 c2k:=B5n (c8V FUEL) (depth:=8) d4Y fun x y h=>(d1M x.1).trans h
def a7z:Cut:={keep:=[0,6,7,8,9],stk:=[],ids:=[160,90070,90080],own:=[(7,90070,43),(8,90080,43)],outs:=[(1,[6,7],[160,90070])]}
def a2d(k:Nat):Cx:=y7 [] [(106,b0m),(107,b0n),(138,c2k)] [] [] [(104,[(0,a7z)])] k [] false
theorem c8y(k:Nat):A9E D8 (a2d k):=C4 ⟨a9w,a9x,c5A,C5⟩ C5 C5 C5
abbrev O7:List Sh:=[.own 4 .bool,.own 32 (.arr 32 k0B)]
abbrev Q97:Type:=Option (A2K O7)
def b7d(a0:T1)(x9:Int)(C8:(List Bool))(A9:B5)(Z0:B5):St:={env:=(.pv (.ref K0) a0::(dd 5 (.sl 160 .bool:: .sl 90070 D9:: .sl 90080 D9:: .pv E8 x9::(dd 58 [])))),stk:=[],heap:=[(160,.arr 4 .bool C8),(90070,.arr 32 D9 A9),(90080,.arr 32 D9 Z0)]}
def a5Y(C8:(List Bool))(A9:B5):St:={env:=(dd 6 (.sl 160 .bool:: .sl 90070 D9::(dd 60 []))),stk:=[],heap:=[(160,.arr 4 .bool C8),(90070,.arr 32 D9 A9)]}
def H2(rec:Int→(List Bool)→B5→B5→Q97)(ke0:(List Bool)→B5→Q97)(a0:T1)(x9:Int)(C8:(List Bool))(A9:B5)(Z0:B5):Q97:=
 (cond (decide (x9<(Z0.length:Int)))
 (cond ((decide ((0:Int)≤x9))&&(decide (x9<(Z0.length:Int))))
 (A1w (N9 a0 (Z0.getD (x9.toNat) (List.replicate 32 (0:Int)))) fun(b4:Int)=>(cond (decide (b4<(0:Int)))
 (cond ((decide ((0:Int)≤x9))&&(decide (x9<(Z0.length:Int))))
 (A1w (w7 A9 (Z0.getD (x9.toNat) (List.replicate 32 (0:Int)))) fun(b5:Bool)=>(cond (!b5)
 (cond ((decide ((0:Int)≤x9))&&(decide (x9<(Z0.length:Int))))
 (cond (decide ((A9.length+1)*32≤140737488355328)&&decide (A9.length+1≤9223372036854775807))
 (rec (IntKind.wrap .i64 (x9+(1:Int))) C8 (A9++[(Z0.getD (x9.toNat) (List.replicate 32 (0:Int)))]) Z0)
 none)
 none)
 (rec (IntKind.wrap .i64 (x9+(1:Int))) C8 A9 Z0)))
 none)
 (cond ((decide ((0:Int)≤b4))&&(decide (b4<(C8.length:Int))))
 (cond (!(C8.getD (b4.toNat) false))
 (cond ((decide ((0:Int)≤b4))&&(decide (b4<(C8.length:Int))))
 (cond ((decide ((0:Int)≤b4))&&(decide (b4<(a0.1.length:Int))))
 (A1w (a2D (a0.1.getD (b4.toNat) ((0:Int),([],())))) fun(b6:B5)=>(cond (decide ((Z0.length+b6.length)*32≤140737488355328)&&decide (Z0.length+b6.length≤9223372036854775807))
 (rec (IntKind.wrap .i64 (x9+(1:Int))) (C8.set (b4.toNat) true) A9 (Z0++b6))
 none))
 none)
 none)
 (rec (IntKind.wrap .i64 (x9+(1:Int))) C8 A9 Z0))
 none)))
 none)
 (ke0 C8 A9))
def M8(ke0:(List Bool)→B5→Q97)(a0:T1):Nat→Int→(List Bool)→B5→B5→Q97
 |0=>fun _ _ _ _=>none
 |n+1=>H2 (M8 ke0 a0 n) ke0 a0
def W4(a0:T1)(a1:B5):Q97:=
 (cond (((decide ((0:Int)≤(a0.2.1.length:Int)))&&(decide (((a0.2.1.length:Int)*(1:Int))≤(140737488355328:Int))))&&(decide ((a0.2.1.length:Int)≤(9223372036854775807:Int))))
 (cond (decide ((0+a1.length)*32≤140737488355328)&&decide (0+a1.length≤9223372036854775807))
 (M8 (fun C8 A9=>(some (C8,A9))) a0 FUEL (0:Int) (List.replicate ((a0.2.1.length:Int).toNat) false) [] ([]++a1))
 none)
 none)
def b0X(k:Nat)(K:Ex→St→Q97)(n:Nat)(a0:T1)(x9:Int)(C8:(List Bool))(A9:B5)(Z0:B5):Q97:=A9j (a2d k) 0 (A0Z (a2d k) (A7s (a2d k) 8) 0 104 (sub b2Q [1,1,1,1,0,1,0,0])) a7z K n (b7d a0 x9 C8 A9 Z0)
theorem b4M(k:Nat)(C8:(List Bool))(A9:B5):((B4x 0 (B5Q (A0Z (a2d k) (A7s (a2d k) 8) 0 104 (sub b2Q [1,1,1,1,1])) (B4C (a2d k) b2R O7))) (.exit 0) (a5Y C8 A9):Q97)=
 ((some (C8,A9)):Q97):=by kernel_rfl
theorem b4N(k:Nat)(K:Ex→St→Q97)(n:Nat)(a0:T1)(x9:Int)(C8:(List Bool))(A9:B5)(Z0:B5):(b0X k K (n+1) a0 x9 C8 A9 Z0:Q97)=H2 ((fun x9 C8 A9 Z0=>b0X k K n a0 x9 C8 A9 Z0)) (fun C8 A9=>K (.exit 0) (a5Y C8 A9)) a0 x9 C8 A9 Z0:=by kernel_rfl
theorem b9g(K:Ex→St→Q97)(a0:T1):∀(n:Nat) (x9:Int) (C8:(List Bool)) (A9:B5) (Z0:B5),(b0X FUEL K n a0 x9 C8 A9 Z0:Q97)=M8 (fun C8 A9=>K (.exit 0) (a5Y C8 A9)) a0 n x9 C8 A9 Z0:=by
 intro n
 induction n with
 |zero=>intros; rfl
 |succ n ih=>
  intro x9 C8 A9 Z0
  exact(b4N FUEL K n a0 x9 C8 A9 Z0).trans (congrArg (fun f=>H2 f (fun C8 A9=>K (.exit 0) (a5Y C8 A9)) a0 x9 C8 A9 Z0) (funext fun x9=>funext fun C8=>funext fun A9=>funext fun Z0=>ih x9 C8 A9 Z0))
theorem c4U(k:Nat)(a0:T1)(a1:B5):fnK (a2d k) 8 104 b2R O7 [.pv (.ref K0) a0,.pv K22 a1]=
 ((cond (((decide ((0:Int)≤(a0.2.1.length:Int)))&&(decide (((a0.2.1.length:Int)*(1:Int))≤(140737488355328:Int))))&&(decide ((a0.2.1.length:Int)≤(9223372036854775807:Int))))
 (cond (decide ((0+a1.length)*32≤140737488355328)&&decide (0+a1.length≤9223372036854775807))
 (A9j (a2d k) 0 (A0Z (a2d k) (A7s (a2d k) 8) 0 104 (sub b2Q [1,1,1,1,0,1,0,0])) a7z (B4x 0 (B5Q (A0Z (a2d k) (A7s (a2d k) 8) 0 104 (sub b2Q [1,1,1,1,1])) (B4C (a2d k) b2R O7))) k (b7d a0 (0:Int) (List.replicate ((a0.2.1.length:Int).toNat) false) [] ([]++a1)))
 none)
 none):Q97):=by kernel_rfl
theorem d1e(a0:T1)(a1:B5):fnK (a2d FUEL) 8 104 b2R O7 [.pv (.ref K0) a0,.pv K22 a1]=W4 a0 a1:=
 (c4U FUEL a0 a1).trans (B5U (B5U ((b9g _ a0 FUEL (0:Int) (List.replicate ((a0.2.1.length:Int).toNat) false) [] ([]++a1)).trans (congrArg (fun e0=>M8 e0 a0 FUEL (0:Int) (List.replicate ((a0.2.1.length:Int).toNat) false) [] ([]++a1)) (funext fun C8=>funext fun A9=>(b4M FUEL C8 A9).trans (rfl)))) (rfl)) (rfl))
def c1M:Con:={ps:=(.pair (.ref K0) K18),sh:=O7,raw:=fun x=>W4 x.1 x.2.1}
theorem c4T:A8C D8 104 c1M:=B5n (c8y FUEL) (depth:=8) d4z fun x y h=>(d1e x.1 x.2.1).trans h
def a8f:Cut:={keep:=[2,3,4,5],stk:=[],ids:=[20,30,40],own:=[],outs:=[(1,[2,4],[20,40])]}
def a2p(k:Nat):Cx:=y7 [] [] [] [] [(174,[(0,a8f)])] k [] false
theorem c9k(k:Nat):A9E D8 (a2p k):=C4 C5 C5 C5 C5
abbrev a1U:List Sh:=[.pl (.arr 32 k0B)]
abbrev Q84:Type:=Option (A2K a1U)
def b7L(a1:A7)(x5:Int)(y20:A7):St:={env:=(.dead:: .dead:: .ptr 20 D9 []:: .ptr 30 D9 []:: .ptr 40 D9 []:: .pv E8 x5::(dd 13 [])),stk:=[],heap:=[(20,.var D9 (.pv D9 y20)),(30,.var D9 (.pv D9 a1)),(40,.var D9 (.pv D9 (List.replicate 32 (0:Int))))]}
def a6G(y20:A7):St:={env:=(.dead:: .dead:: .ptr 20 D9 []:: .dead:: .ptr 40 D9 []::(dd 14 [])),stk:=[],heap:=[(20,.var D9 (.pv D9 y20)),(40,.var D9 (.pv D9 (List.replicate 32 (0:Int))))]}
def u7(rec:Int→A7→Q84)(ke0:A7→Q84)(a1:A7)(x5:Int)(y20:A7):Q84:=
 (cond (decide (x5<(32:Int)))
 (cond ((decide ((0:Int)≤x5))&&(decide (x5<(32:Int))))
 (cond ((decide ((0:Int)≤x5))&&(decide (x5<(32:Int))))
 (cond ((decide ((0:Int)≤x5))&&(decide (x5<(32:Int))))
 (rec (IntKind.wrap .i64 (x5+(1:Int))) (y20.set (x5.toNat) (A6l .xor .u8 (y20.getD (x5.toNat) (0:Int)) (a1.getD (x5.toNat) (0:Int)))))
 none)
 none)
 none)
 (ke0 y20))
def a1T(ke0:A7→Q84)(a1:A7):Nat→Int→A7→Q84
 |0=>fun _ _=>none
 |n+1=>u7 (a1T ke0 a1 n) ke0 a1
def a2K(a0:A7)(a1:A7):Q84:=
 (a1T (fun y20=>(some y20)) a1 FUEL (0:Int) a0)
def b1N(k:Nat)(K:Ex→St→Q84)(n:Nat)(a1:A7)(x5:Int)(y20:A7):Q84:=A9j (a2p k) 0 (A0Z (a2p k) (A7s (a2p k) 8) 0 174 (sub b3u [1,0,1,0,0])) a8f K n (b7L a1 x5 y20)
theorem b6c(k:Nat)(y20:A7):((B4x 0 (B5Q (A0Z (a2p k) (A7s (a2p k) 8) 0 174 (sub b3u [1,1])) (B4C (a2p k) b3v a1U))) (.exit 0) (a6G y20):Q84)=
 ((some y20):Q84):=by kernel_rfl
theorem b6d(k:Nat)(K:Ex→St→Q84)(n:Nat)(a1:A7)(x5:Int)(y20:A7):(b1N k K (n+1) a1 x5 y20:Q84)=u7 ((fun x5 y20=>b1N k K n a1 x5 y20)) (fun y20=>K (.exit 0) (a6G y20)) a1 x5 y20:=by kernel_rfl
theorem b9O(K:Ex→St→Q84)(a1:A7):∀(n:Nat) (x5:Int) (y20:A7),(b1N FUEL K n a1 x5 y20:Q84)=a1T (fun y20=>K (.exit 0) (a6G y20)) a1 n x5 y20:=by
 intro n
 induction n with
 |zero=>intros; rfl
 |succ n ih=>
  intro x5 y20
  exact(b6d FUEL K n a1 x5 y20).trans (congrArg (fun f=>u7 f (fun y20=>K (.exit 0) (a6G y20)) a1 x5 y20) (funext fun x5=>funext fun y20=>ih x5 y20))
theorem c6b(k:Nat)(a0:A7)(a1:A7):fnK (a2p k) 8 174 b3v a1U [.pv D9 a0,.pv D9 a1]=
 ((A9j (a2p k) 0 (A0Z (a2p k) (A7s (a2p k) 8) 0 174 (sub b3u [1,0,1,0,0])) a8f (B4x 0 (B5Q (A0Z (a2p k) (A7s (a2p k) 8) 0 174 (sub b3u [1,1])) (B4C (a2p k) b3v a1U))) k (b7L a1 (0:Int) a0)):Q84):=by kernel_rfl
theorem d2f(a0:A7)(a1:A7):fnK (a2p FUEL) 8 174 b3v a1U [.pv D9 a0,.pv D9 a1]=a2K a0 a1:=
 (c6b FUEL a0 a1).trans ((b9O _ a1 FUEL (0:Int) a0).trans (congrArg (fun e0=>a1T e0 a1 FUEL (0:Int) a0) (funext fun y20=>(b6c FUEL y20).trans (rfl))))
def c2B:Con:={ps:=K11,sh:=a1U,raw:=fun x=>a2K x.1 x.2.1}
theorem c6a:A8C D8 174 c2B:=B5n (c9k FUEL) (depth:=8) d5p fun x y h=>(d2f x.1 x.2.1).trans h
def a1p:Cut:={keep:=[0,3,5,6],stk:=[],ids:=[30,90050],own:=[(5,90050,43)],outs:=[(1,[5],[90050])]}
def a7Q:Cut:={keep:=[0,3,5,6,7],stk:=[],ids:=[30,90050],own:=[],outs:=[(3,[0,3,5,6],[30,90050])]}
def I8(k:Nat):Cx:=y7 [] [(57,c0F),(106,b0m),(174,c2B)] [] [] [(139,[(0,a1p),(2,a7Q)])] k [] false
theorem c8W(k:Nat):A9E D8 (I8 k):=C4 ⟨b8l,a9w,c6a,C5⟩ C5 C5 C5
abbrev a0r:List Sh:=[.own 32 (.arr 32 k0B)]
abbrev Q81:Type:=Option (A2K a0r)
def a8K(a0:B5)(a1:A7)(x6:Int)(B4:B5):St:={env:=(.pv K22 a0:: .dead:: .dead:: .ptr 30 D9 []:: .dead:: .sl 90050 D9:: .pv E8 x6::(dd 64 [])),stk:=[],heap:=[(30,.var D9 (.pv D9 a1)),(90050,.arr 32 D9 B4)]}
def a9z(B4:B5):St:={env:=(dd 5 (.sl 90050 D9::(dd 65 []))),stk:=[],heap:=[(90050,.arr 32 D9 B4)]}
def b7t(a0:B5)(a1:A7)(x6:Int)(x7:Int)(B4:B5):St:={env:=(.pv K22 a0:: .dead:: .dead:: .ptr 30 D9 []:: .dead:: .sl 90050 D9:: .pv E8 x6:: .pv E8 x7::(dd 63 [])),stk:=[],heap:=[(30,.var D9 (.pv D9 a1)),(90050,.arr 32 D9 B4)]}
def a6p(a0:B5)(a1:A7)(x6:Int)(B4:B5):St:={env:=(.pv K22 a0:: .dead:: .dead:: .ptr 30 D9 []:: .dead:: .sl 90050 D9:: .pv E8 x6::(dd 64 [])),stk:=[],heap:=[(30,.var D9 (.pv D9 a1)),(90050,.arr 32 D9 B4)]}
def j6(rec:Int→B5→Q81)(ke2:B5→Q81)(a0:B5)(a1:A7)(x6:Int)(x7:Int)(B4:B5):Q81:=
 (cond (decide ((0:Int)<x7))
 (cond ((decide ((0:Int)≤x7))&&(decide (x7<(B4.length:Int))))
 (A1w (a2K (B4.getD (x7.toNat) (List.replicate 32 (0:Int))) a1) fun(b8:A7)=>(cond ((decide ((0:Int)≤(IntKind.wrap .i64 (x7-(1:Int)))))&&(decide ((IntKind.wrap .i64 (x7-(1:Int)))<(B4.length:Int))))
 (A1w (a2K (B4.getD ((IntKind.wrap .i64 (x7-(1:Int))).toNat) (List.replicate 32 (0:Int))) a1) fun(b9:A7)=>(A1w (R0 b8 b9) fun(b10:Int)=>(cond (decide (b10<(0:Int)))
 (cond ((decide ((0:Int)≤x7))&&(decide (x7<(B4.length:Int))))
 (cond ((decide ((0:Int)≤(IntKind.wrap .i64 (x7-(1:Int)))))&&(decide ((IntKind.wrap .i64 (x7-(1:Int)))<(B4.length:Int))))
 (cond ((decide ((0:Int)≤x7))&&(decide (x7<(B4.length:Int))))
 (cond ((decide ((0:Int)≤(IntKind.wrap .i64 (x7-(1:Int)))))&&(decide ((IntKind.wrap .i64 (x7-(1:Int)))<((B4.set (x7.toNat) (B4.getD ((IntKind.wrap .i64 (x7-(1:Int))).toNat) (List.replicate 32 (0:Int)))).length:Int))))
 (rec (IntKind.wrap .i64 (x7-(1:Int))) ((B4.set (x7.toNat) (B4.getD ((IntKind.wrap .i64 (x7-(1:Int))).toNat) (List.replicate 32 (0:Int)))).set ((IntKind.wrap .i64 (x7-(1:Int))).toNat) (B4.getD (x7.toNat) (List.replicate 32 (0:Int)))))
 none)
 none)
 none)
 none)
 (ke2 B4))))
 none))
 none)
 (ke2 B4))
def j0(ke2:B5→Q81)(a0:B5)(a1:A7)(x6:Int):Nat→Int→B5→Q81
 |0=>fun _ _=>none
 |n+1=>j6 (j0 ke2 a0 a1 x6 n) ke2 a0 a1 x6
def a1u(rec:Int→B5→Q81)(ke0:B5→Q81)(a0:B5)(a1:A7)(x6:Int)(B4:B5):Q81:=
 (cond (decide (x6<(a0.length:Int)))
 (cond ((decide ((0:Int)≤x6))&&(decide (x6<(a0.length:Int))))
 (A1w (w7 B4 (a0.getD (x6.toNat) (List.replicate 32 (0:Int)))) fun(b2:Bool)=>(cond b2
 (rec (IntKind.wrap .i64 (x6+(1:Int))) B4)
 (cond ((decide ((0:Int)≤x6))&&(decide (x6<(a0.length:Int))))
 (cond (decide ((B4.length+1)*32≤140737488355328)&&decide (B4.length+1≤9223372036854775807))
 (j0 (fun B4=>(rec (IntKind.wrap .i64 (x6+(1:Int))) B4)) a0 a1 x6 FUEL (IntKind.wrap .i64 (((B4++[(a0.getD (x6.toNat) (List.replicate 32 (0:Int)))]).length:Int)-(1:Int))) (B4++[(a0.getD (x6.toNat) (List.replicate 32 (0:Int)))]))
 none)
 none)))
 none)
 (ke0 B4))
def i9(ke0:B5→Q81)(a0:B5)(a1:A7):Nat→Int→B5→Q81
 |0=>fun _ _=>none
 |n+1=>a1u (i9 ke0 a0 a1 n) ke0 a0 a1
def a3g(a0:B5)(a1:A7):Q81:=
 (i9 (fun B4=>(some B4)) a0 a1 FUEL (0:Int) [])
def b1s(k:Nat)(K:Ex→St→Q81)(n:Nat)(a0:B5)(a1:A7)(x6:Int)(x7:Int)(B4:B5):Q81:=A9j (I8 k) 0 (A0Z (I8 k) (A7s (I8 k) 8) 0 139 (sub a4j [1,1,0,1,0,0,1,0,0,1,1,1,0,0])) a7Q K n (b7t a0 a1 x6 x7 B4)
theorem b5s(k:Nat)(K:Ex→St→Q81)(n:Nat)(a0:B5)(a1:A7)(x6:Int)(B4:B5):((B4x 2 (B4x 1 (B5Q (A0Z (I8 k) (A7s (I8 k) 8) 0 139 (sub a4j [1,1,0,1,0,0,1,1])) (B2m (I8 k) 0 a1p (A9j (I8 k) 0 (A0Z (I8 k) (A7s (I8 k) 8) 0 139 (sub a4j [1,1,0,1,0,0])) a1p K n) K)))) (.exit 2) (a6p a0 a1 x6 B4):Q81)=
 ((A9j (I8 k) 0 (A0Z (I8 k) (A7s (I8 k) 8) 0 139 (sub a4j [1,1,0,1,0,0])) a1p K n (a8K a0 a1 (IntKind.wrap .i64 (x6+(1:Int))) B4)):Q81):=by kernel_rfl
theorem b5t(k:Nat)(K:Ex→St→Q81)(n:Nat)(a0:B5)(a1:A7)(x6:Int)(x7:Int)(B4:B5):(b1s k K (n+1) a0 a1 x6 x7 B4:Q81)=j6 ((fun x7 B4=>b1s k K n a0 a1 x6 x7 B4)) (fun B4=>K (.exit 2) (a6p a0 a1 x6 B4)) a0 a1 x6 x7 B4:=by kernel_rfl
theorem b9w(K:Ex→St→Q81)(a0:B5)(a1:A7)(x6:Int):∀(n:Nat) (x7:Int) (B4:B5),(b1s FUEL K n a0 a1 x6 x7 B4:Q81)=j0 (fun B4=>K (.exit 2) (a6p a0 a1 x6 B4)) a0 a1 x6 n x7 B4:=by
 intro n
 induction n with
 |zero=>intros; rfl
 |succ n ih=>
  intro x7 B4
  exact(b5t FUEL K n a0 a1 x6 x7 B4).trans (congrArg (fun f=>j6 f (fun B4=>K (.exit 2) (a6p a0 a1 x6 B4)) a0 a1 x6 x7 B4) (funext fun x7=>funext fun B4=>ih x7 B4))
def b7s(k:Nat)(K:Ex→St→Q81)(n:Nat)(a0:B5)(a1:A7)(x6:Int)(B4:B5):Q81:=A9j (I8 k) 0 (A0Z (I8 k) (A7s (I8 k) 8) 0 139 (sub a4j [1,1,0,1,0,0])) a1p K n (a8K a0 a1 x6 B4)
theorem b5r(k:Nat)(K:Ex→St→Q81)(n:Nat)(a0:B5)(a1:A7)(x6:Int)(B4:B5):(b7s k K (n+1) a0 a1 x6 B4:Q81)=
 ((cond (decide (x6<(a0.length:Int)))
 (cond ((decide ((0:Int)≤x6))&&(decide (x6<(a0.length:Int))))
 (A1w (w7 B4 (a0.getD (x6.toNat) (List.replicate 32 (0:Int)))) fun(b2:Bool)=>(cond b2
 (A9j (I8 k) 0 (A0Z (I8 k) (A7s (I8 k) 8) 0 139 (sub a4j [1,1,0,1,0,0])) a1p K n (a8K a0 a1 (IntKind.wrap .i64 (x6+(1:Int))) B4))
 (cond ((decide ((0:Int)≤x6))&&(decide (x6<(a0.length:Int))))
 (cond (decide ((B4.length+1)*32≤140737488355328)&&decide (B4.length+1≤9223372036854775807))
 (A9j (I8 k) 0 (A0Z (I8 k) (A7s (I8 k) 8) 0 139 (sub a4j [1,1,0,1,0,0,1,0,0,1,1,1,0,0])) a7Q (B4x 2 (B4x 1 (B5Q (A0Z (I8 k) (A7s (I8 k) 8) 0 139 (sub a4j [1,1,0,1,0,0,1,1])) (B2m (I8 k) 0 a1p (A9j (I8 k) 0 (A0Z (I8 k) (A7s (I8 k) 8) 0 139 (sub a4j [1,1,0,1,0,0])) a1p K n) K)))) k (b7t a0 a1 x6 (IntKind.wrap .i64 (((B4++[(a0.getD (x6.toNat) (List.replicate 32 (0:Int)))]).length:Int)-(1:Int))) (B4++[(a0.getD (x6.toNat) (List.replicate 32 (0:Int)))])))
 none)
 none)))
 none)
 (K (.exit 0) (a9z B4))):Q81):=by kernel_rfl
theorem b5q(k:Nat)(B4:B5):((B4x 0 (B5Q (A0Z (I8 k) (A7s (I8 k) 8) 0 139 (sub a4j [1,1,1])) (B4C (I8 k) b3i a0r))) (.exit 0) (a9z B4):Q81)=
 ((some B4):Q81):=by kernel_rfl
theorem b9v(K:Ex→St→Q81)(a0:B5)(a1:A7):∀(n:Nat) (x6:Int) (B4:B5),(b7s FUEL K n a0 a1 x6 B4:Q81)=i9 (fun B4=>K (.exit 0) (a9z B4)) a0 a1 n x6 B4:=by
 intro n
 induction n with
 |zero=>intros; rfl
 |succ n ih=>
  intro x6 B4
  exact(b5r FUEL K n a0 a1 x6 B4).trans (B5U (B5U (B5S (fun b2=>B5U (ih (IntKind.wrap .i64 (x6+(1:Int))) B4) (B5U (B5U ((b9w _ a0 a1 x6 FUEL (IntKind.wrap .i64 (((B4++[(a0.getD (x6.toNat) (List.replicate 32 (0:Int)))]).length:Int)-(1:Int))) (B4++[(a0.getD (x6.toNat) (List.replicate 32 (0:Int)))])).trans (congrArg (fun e0=>j0 e0 a0 a1 x6 FUEL (IntKind.wrap .i64 (((B4++[(a0.getD (x6.toNat) (List.replicate 32 (0:Int)))]).length:Int)-(1:Int))) (B4++[(a0.getD (x6.toNat) (List.replicate 32 (0:Int)))])) (funext fun B4=>(b5s FUEL K n a0 a1 x6 B4).trans (ih (IntKind.wrap .i64 (x6+(1:Int))) B4)))) (rfl)) (rfl)))) (rfl)) (rfl))
theorem c5C(k:Nat)(a0:B5)(a1:A7):fnK (I8 k) 8 139 b3i a0r [.pv K22 a0,.pv D9 a1]=
 ((A9j (I8 k) 0 (A0Z (I8 k) (A7s (I8 k) 8) 0 139 (sub a4j [1,1,0,1,0,0])) a1p (B4x 0 (B5Q (A0Z (I8 k) (A7s (I8 k) 8) 0 139 (sub a4j [1,1,1])) (B4C (I8 k) b3i a0r))) k (a8K a0 a1 (0:Int) [])):Q81):=by kernel_rfl
theorem d1N(a0:B5)(a1:A7):fnK (I8 FUEL) 8 139 b3i a0r [.pv K22 a0,.pv D9 a1]=a3g a0 a1:=
 (c5C FUEL a0 a1).trans ((b9v _ a0 a1 FUEL (0:Int) []).trans (congrArg (fun e0=>i9 e0 a0 a1 FUEL (0:Int) []) (funext fun B4=>(b5q FUEL B4).trans (rfl))))
def c2l:Con:={ps:=K7,sh:=a0r,raw:=fun x=>a3g x.1 x.2.1}
theorem c5B:A8C D8 139 c2l:=B5n (c8W FUEL) (depth:=8) d4Z fun x y h=>(d1N x.1 x.2.1).trans h
def c7h(k:Nat):Cx:=y7 [] [(139,c2l)] [] [] [] k [] false
theorem c8z(k:Nat):A9E D8 (c7h k):=C4 ⟨c5B,C5⟩ C5 C5 C5
abbrev a3i:List Sh:=[.own 32 (.arr 32 k0B)]
abbrev Q89:Type:=Option (A2K a3i)
def a0y(a0:B5):Q89:=
 (A1w (a3g a0 (List.replicate 32 (0:Int))) fun(b1:B5)=>(some b1))
theorem d1g(a0:B5):fnK (c7h FUEL) 8 105 d1f a3i [.pv K22 a0]=a0y a0:=by kernel_rfl
def c1N:Con:={ps:=K18,sh:=a3i,raw:=fun x=>a0y x.1}
theorem c4V:A8C D8 105 c1N:=B5n (c8z FUEL) (depth:=8) d4A fun x y h=>(d1g x.1).trans h
def d3r(k:Nat):Cx:=y7 [] [(104,c1M),(105,c1N)] [] [] [] k [] false
theorem d3s(k:Nat):A9E D8 (d3r k):=C4 ⟨c4T,c4V,C5⟩ C5 C5 C5
abbrev a4y:List Sh:=[.own 32 (.arr 32 k0B)]
abbrev f0i:Type:=Option (A2K a4y)
def a1o(a0:T1)(a1:B5)(a2:Int):f0i:=
 (A1w (W4 a0 a1) fun(b1:((List Bool)×B5))=>(A1w (a0y b1.2) fun(b2:B5)=>(cond (decide (a2<(b2.length:Int)))
 (cond ((decide ((0:Int)≤a2))&&(decide (a2≤(b2.length:Int))))
 (cond (decide ((0+(A3F b2 0 (a2.toNat)).length)*32≤140737488355328)&&decide (0+(A3F b2 0 (a2.toNat)).length≤9223372036854775807))
 (some ([]++(A3F b2 0 (a2.toNat))))
 none)
 none)
 (cond (decide ((0+b2.length)*32≤140737488355328)&&decide (0+b2.length≤9223372036854775807))
 (some ([]++b2))
 none))))
theorem d6d(a0:T1)(a1:B5)(a2:Int):fnK (d3r FUEL) 8 63 d7j a4y [.pv (.ref K0) a0,.pv K22 a1,.pv E8 a2]=a1o a0 a1 a2:=by kernel_rfl
def c7U:Con:={ps:=(.pair (.ref K0) K10),sh:=a4y,raw:=fun x=>a1o x.1 x.2.1 x.2.2.1}
theorem c9Y:A8C D8 63 c7U:=B5n (d3s FUEL) (depth:=8) d8N fun x y h=>(d6d x.1 x.2.1 x.2.2.1).trans h
def c7f(k:Nat):Cx:=y7 [] [] [] [] [] k [] false
theorem c8w(k:Nat):A9E D8 (c7f k):=C4 C5 C5 C5 C5
abbrev a4Q:List Sh:=[.pr (.pl (.int .u8)) (.pr (.own 5 (.int .u8)) (.pl .unit))]
abbrev Q91:Type:=Option (A2K a4Q)
def a1W(a0:T9):Q91:=
 (cond (decide ((0+a0.2.1.length)*1≤140737488355328)&&decide (0+a0.2.1.length≤9223372036854775807))
 (some (a0.1,(([]++a0.2.1),())))
 none)
theorem d1b(a0:T9):fnK (c7f FUEL) 8 102 d1a a4Q [.pv o4 a0]=a1W a0:=by kernel_rfl
def b2O:Con:={ps:=K8,sh:=a4Q,raw:=fun x=>a1W x.1}
theorem b2P:A8C D8 102 b2O:=B5n (c8w FUEL) (depth:=8) d4x fun x y h=>(d1b x.1).trans h
def a6Z:Cut:={keep:=[0,2,3,4],stk:=[],ids:=[20,30,80005],own:=[],outs:=[(1,[2,3],[20,30,80005])],fown:=[(30,[.fld 0],80005,24)]}
def a0L(k:Nat):Cx:=y7 [] [(102,b2O)] [] [] [(59,[(0,a6Z)])] k dps false
theorem c6C(k:Nat):A9E D8 (a0L k):=C4 ⟨b2P,C5⟩ C5 C5 C5
abbrev P0:List Sh:=[.pr (.tre 29 (.pr (.pl (.int .u8)) (.pr (.sl 5 (.pl (.int .u8))) (.pl .unit)))) (.pl .unit)]
abbrev Q98:Type:=Option (A2K P0)
def b3Y(a0:T1)(x4:Int)(E6:T6):St:={env:=(.pv (.ref K0) a0:: .dead:: .ptr 20 K4 []:: .ptr 30 K4 []:: .pv E8 x4::(dd 24 [])),stk:=[],heap:=[(20,.var K4 (.pr (.nilsl) (.pv .unit ()))),(30,.var K4 (.pr (.inn 80005 [] o4) (.pv .unit ()))),(80005,.tre 29 (.pr (.pl (.int .u8)) (.pr (.sl 5 (.pl (.int .u8))) (.pl .unit))) E6)]}
def a5D(E6:T6):St:={env:=(.dead:: .dead:: .ptr 20 K4 []:: .ptr 30 K4 []::(dd 25 [])),stk:=[],heap:=[(20,.var K4 (.pr (.nilsl) (.pv .unit ()))),(30,.var K4 (.pr (.inn 80005 [] o4) (.pv .unit ()))),(80005,.tre 29 (.pr (.pl (.int .u8)) (.pr (.sl 5 (.pl (.int .u8))) (.pl .unit))) E6)]}
def J7(rec:Int→T6→Q98)(ke0:T6→Q98)(a0:T1)(x4:Int)(E6:T6):Q98:=
 (cond (decide (x4<(a0.1.length:Int)))
 (cond ((decide ((0:Int)≤x4))&&(decide (x4<(a0.1.length:Int))))
 (A1w (a1W (a0.1.getD (x4.toNat) ((0:Int),([],())))) fun(b2:T9)=>(cond (decide ((E6.length+1)*32≤140737488355328)&&decide (E6.length+1≤9223372036854775807))
 (rec (IntKind.wrap .i64 (x4+(1:Int))) (E6++[(b2.1,(b2.2.1,()))]))
 none))
 none)
 (ke0 E6))
def S9(ke0:T6→Q98)(a0:T1):Nat→Int→T6→Q98
 |0=>fun _ _=>none
 |n+1=>J7 (S9 ke0 a0 n) ke0 a0
def R4(a0:T1):Q98:=
 (S9 (fun E6=>(some (E6,()))) a0 FUEL (0:Int) [])
def a9U(k:Nat)(K:Ex→St→Q98)(n:Nat)(a0:T1)(x4:Int)(E6:T6):Q98:=A9j (a0L k) 0 (A0Z (a0L k) (A7s (a0L k) 8) 0 59 (sub c3w [1,1,0,1,0,0])) a6Z K n (b3Y a0 x4 E6)
theorem b3W(k:Nat)(E6:T6):((B4x 0 (B5Q (A0Z (a0L k) (A7s (a0L k) 8) 0 59 (sub c3w [1,1,1])) (B4C (a0L k) c3z P0))) (.exit 0) (a5D E6):Q98)=
 ((some (E6,())):Q98):=by kernel_rfl
theorem b3X(k:Nat)(K:Ex→St→Q98)(n:Nat)(a0:T1)(x4:Int)(E6:T6):(a9U k K (n+1) a0 x4 E6:Q98)=J7 ((fun x4 E6=>a9U k K n a0 x4 E6)) (fun E6=>K (.exit 0) (a5D E6)) a0 x4 E6:=by kernel_rfl
theorem b6E(K:Ex→St→Q98)(a0:T1):∀(n:Nat) (x4:Int) (E6:T6),(a9U FUEL K n a0 x4 E6:Q98)=S9 (fun E6=>K (.exit 0) (a5D E6)) a0 n x4 E6:=by
 intro n
 induction n with
 |zero=>intros; rfl
 |succ n ih=>
  intro x4 E6
  exact(b3X FUEL K n a0 x4 E6).trans (congrArg (fun f=>J7 f (fun E6=>K (.exit 0) (a5D E6)) a0 x4 E6) (funext fun x4=>funext fun E6=>ih x4 E6))
theorem c3y(k:Nat)(a0:T1):fnK (a0L k) 8 59 c3z P0 [.pv (.ref K0) a0]=
 ((A9j (a0L k) 0 (A0Z (a0L k) (A7s (a0L k) 8) 0 59 (sub c3w [1,1,0,1,0,0])) a6Z (B4x 0 (B5Q (A0Z (a0L k) (A7s (a0L k) 8) 0 59 (sub c3w [1,1,1])) (B4C (a0L k) c3z P0))) k (b3Y a0 (0:Int) [])):Q98):=by kernel_rfl
theorem c9V(a0:T1):fnK (a0L FUEL) 8 59 c3z P0 [.pv (.ref K0) a0]=R4 a0:=
 (c3y FUEL a0).trans ((b6E _ a0 FUEL (0:Int) []).trans (congrArg (fun e0=>S9 e0 a0 FUEL (0:Int) []) (funext fun E6=>(b3W FUEL E6).trans (rfl))))
def b8n:Con:={ps:=(.pair (.ref K0) .unit),sh:=P0,raw:=fun x=>R4 x.1}
theorem c3x:A8C D8 59 b8n:=B5n (c6C FUEL) (depth:=8) d8K fun x y h=>(c9V x.1).trans h
def a9W:Cut:={keep:=[0,1,2,7,8,9],stk:=[],ids:=[90070],own:=[(7,90070,24)],outs:=[(0,[6],[90070]),(1,[7],[90070])]}
def a2O(k:Nat):Cx:=y7 [] [(102,b2O),(107,b0n)] [] [] [(65,[(0,a9W)])] k [] false
theorem d3t(k:Nat):A9E D8 (a2O k):=C4 ⟨b2P,a9x,C5⟩ C5 C5 C5
abbrev l5:List Sh:=[.own 29 o4]
abbrev Q99:Type:=Option (A2K l5)
def c3E(a0:T1)(a1:B5)(a2:Int)(x8:Int)(x9:Int)(A9:T6):St:={env:=(.pv (.ref K0) a0:: .pv K22 a1:: .pv E8 a2::(dd 4 (.sl 90070 o4:: .pv E8 x8:: .pv E8 x9::(dd 43 [])))),stk:=[],heap:=[(90070,.arr 29 o4 A9)]}
def b0y(A9:T6):St:={env:=(dd 6 (.sl 90070 o4::(dd 46 []))),stk:=[],heap:=[(90070,.arr 29 o4 A9)]}
def a9a(A9:T6):St:={env:=(dd 7 (.sl 90070 o4::(dd 45 []))),stk:=[],heap:=[(90070,.arr 29 o4 A9)]}
def V9(rec:Int→Int→T6→Q99)(kr:T6→Q99)(ke0:T6→Q99)(a0:T1)(a1:B5)(a2:Int)(x8:Int)(x9:Int)(A9:T6):Q99:=
 (cond (decide (x9<(a1.length:Int)))
 (cond ((decide ((0:Int)≤x9))&&(decide (x9<(a1.length:Int))))
 (A1w (N9 a0 (a1.getD (x9.toNat) (List.replicate 32 (0:Int)))) fun(b3:Int)=>(cond (decide (b3<(0:Int)))
 (rec x8 (IntKind.wrap .i64 (x9+(1:Int))) A9)
 (cond ((decide ((0:Int)≤b3))&&(decide (b3<(a0.1.length:Int))))
 (cond (decide (a2<(IntKind.wrap .i64 (x8+((((a0.1.getD (b3.toNat) ((0:Int),([],()))).2).1).length:Int)))))
 (kr A9)
 (cond ((decide ((0:Int)≤b3))&&(decide (b3<(a0.1.length:Int))))
 (A1w (a1W (a0.1.getD (b3.toNat) ((0:Int),([],())))) fun(b4:T9)=>(cond (decide ((A9.length+1)*32≤140737488355328)&&decide (A9.length+1≤9223372036854775807))
 (rec (IntKind.wrap .i64 (x8+((((a0.1.getD (b3.toNat) ((0:Int),([],()))).2).1).length:Int))) (IntKind.wrap .i64 (x9+(1:Int))) (A9++[(b4.1,(b4.2.1,()))]))
 none))
 none))
 none)))
 none)
 (ke0 A9))
def V8(kr:T6→Q99)(ke0:T6→Q99)(a0:T1)(a1:B5)(a2:Int):Nat→Int→Int→T6→Q99
 |0=>fun _ _ _=>none
 |n+1=>V9 (V8 kr ke0 a0 a1 a2 n) kr ke0 a0 a1 a2
def a0I(a0:T1)(a1:B5)(a2:Int):Q99:=
 (V8 (fun A9=>(some A9)) (fun A9=>(some A9)) a0 a1 a2 FUEL (0:Int) (0:Int) [])
def b4a(k:Nat)(K:Ex→St→Q99)(n:Nat)(a0:T1)(a1:B5)(a2:Int)(x8:Int)(x9:Int)(A9:T6):Q99:=A9j (a2O k) 0 (A0Z (a2O k) (A7s (a2O k) 8) 0 65 (sub b8r [1,1,1,0,1,0,0])) a9W K n (c3E a0 a1 a2 x8 x9 A9)
theorem c6E(k:Nat)(A9:T6):((B4x 0 (B5Q (A0Z (a2O k) (A7s (a2O k) 8) 0 65 (sub b8r [1,1,1,1])) (B4C (a2O k) b8s l5))) .ret (b0y A9):Q99)=
 ((some A9):Q99):=by kernel_rfl
theorem c0L(k:Nat)(A9:T6):((B4x 0 (B5Q (A0Z (a2O k) (A7s (a2O k) 8) 0 65 (sub b8r [1,1,1,1])) (B4C (a2O k) b8s l5))) (.exit 0) (a9a A9):Q99)=
 ((some A9):Q99):=by kernel_rfl
theorem c0M(k:Nat)(K:Ex→St→Q99)(n:Nat)(a0:T1)(a1:B5)(a2:Int)(x8:Int)(x9:Int)(A9:T6):(b4a k K (n+1) a0 a1 a2 x8 x9 A9:Q99)=V9 ((fun x8 x9 A9=>b4a k K n a0 a1 a2 x8 x9 A9)) (fun A9=>K .ret (b0y A9)) (fun A9=>K (.exit 0) (a9a A9)) a0 a1 a2 x8 x9 A9:=by kernel_rfl
theorem c3D(K:Ex→St→Q99)(a0:T1)(a1:B5)(a2:Int):∀(n:Nat) (x8:Int) (x9:Int) (A9:T6),(b4a FUEL K n a0 a1 a2 x8 x9 A9:Q99)=V8 (fun A9=>K .ret (b0y A9)) (fun A9=>K (.exit 0) (a9a A9)) a0 a1 a2 n x8 x9 A9:=by
 intro n
 induction n with
 |zero=>intros; rfl
 |succ n ih=>
  intro x8 x9 A9
  exact(c0M FUEL K n a0 a1 a2 x8 x9 A9).trans (congrArg (fun f=>V9 f (fun A9=>K .ret (b0y A9)) (fun A9=>K (.exit 0) (a9a A9)) a0 a1 a2 x8 x9 A9) (funext fun x8=>funext fun x9=>funext fun A9=>ih x8 x9 A9))
theorem d0a(k:Nat)(a0:T1)(a1:B5)(a2:Int):fnK (a2O k) 8 65 b8s l5 [.pv (.ref K0) a0,.pv K22 a1,.pv E8 a2]=
 ((A9j (a2O k) 0 (A0Z (a2O k) (A7s (a2O k) 8) 0 65 (sub b8r [1,1,1,0,1,0,0])) a9W (B4x 0 (B5Q (A0Z (a2O k) (A7s (a2O k) 8) 0 65 (sub b8r [1,1,1,1])) (B4C (a2O k) b8s l5))) k (c3E a0 a1 a2 (0:Int) (0:Int) [])):Q99):=by kernel_rfl
theorem d6e(a0:T1)(a1:B5)(a2:Int):fnK (a2O FUEL) 8 65 b8s l5 [.pv (.ref K0) a0,.pv K22 a1,.pv E8 a2]=a0I a0 a1 a2:=
 (d0a FUEL a0 a1 a2).trans ((c3D _ a0 a1 a2 FUEL (0:Int) (0:Int) []).trans (B5V (fun e0 e1=>V8 e0 e1 a0 a1 a2 FUEL (0:Int) (0:Int) []) (funext fun A9=>(c6E FUEL A9).trans (rfl)) (funext fun A9=>(c0L FUEL A9).trans (rfl))))
def c7V:Con:={ps:=(.pair (.ref K0) K10),sh:=l5,raw:=fun x=>a0I x.1 x.2.1 x.2.2.1}
theorem c9Z:A8C D8 65 c7V:=B5n (d3t FUEL) (depth:=8) d8P fun x y h=>(d6e x.1 x.2.1 x.2.2.1).trans h
def b0f:Cut:={keep:=[0,1,5],stk:=[],ids:=[],own:=[],outs:=[(0,[4],[]),(1,[],[])]}
def a2S(k:Nat):Cx:=y7 [] [] [] [] [(92,[(0,b0f)])] k [] false
theorem d3L(k:Nat):A9E D8 (a2S k):=C4 C5 C5 C5 C5
abbrev s6:List Sh:=[.pl .bool]
abbrev Q74:Type:=Option (A2K s6)
def c4h(a0:A7)(a1:A7)(x5:Int):St:={env:=(.pv K26 a0:: .pv K26 a1::(dd 3 (.pv E8 x5::(dd 20 [])))),stk:=[],heap:=[]}
def b0D:St:={env:=(dd 4 (.pv .bool false::(dd 21 []))),stk:=[],heap:=[]}
def a9h:St:={env:=(dd 26 []),stk:=[],heap:=[]}
def Y0(rec:Int→Q74)(kr:Q74)(ke0:Q74)(a0:A7)(a1:A7)(x5:Int):Q74:=
 (cond (decide (x5<(a0.length:Int)))
 (cond ((decide ((0:Int)≤x5))&&(decide (x5<(a0.length:Int))))
 (cond ((decide ((0:Int)≤x5))&&(decide (x5<(a1.length:Int))))
 (cond (!(decide ((a0.getD (x5.toNat) (0:Int))=(a1.getD (x5.toNat) (0:Int)))))
 (kr)
 (rec (IntKind.wrap .i64 (x5+(1:Int)))))
 none)
 none)
 (ke0))
def X9(kr:Q74)(ke0:Q74)(a0:A7)(a1:A7):Nat→Int→Q74
 |0=>fun _=>none
 |n+1=>Y0 (X9 kr ke0 a0 a1 n) kr ke0 a0 a1
def a2B(a0:A7)(a1:A7):Q74:=
 (cond (!(decide ((a0.length:Int)=(a1.length:Int))))
 (some false)
 (X9 (some false) (some true) a0 a1 FUEL (0:Int)))
def b4p(k:Nat)(K:Ex→St→Q74)(n:Nat)(a0:A7)(a1:A7)(x5:Int):Q74:=A9j (a2S k) 0 (A0Z (a2S k) (A7s (a2S k) 8) 0 92 (sub b8D [1,1,0,1,0,0])) b0f K n (c4h a0 a1 x5)
theorem c6L(k:Nat):((B4x 0 (B5Q (A0Z (a2S k) (A7s (a2S k) 8) 0 92 (sub b8D [1,1,1])) (B4C (a2S k) b8E s6))) .ret (b0D):Q74)=
 ((some false):Q74):=by kernel_rfl
theorem c0X(k:Nat):((B4x 0 (B5Q (A0Z (a2S k) (A7s (a2S k) 8) 0 92 (sub b8D [1,1,1])) (B4C (a2S k) b8E s6))) (.exit 0) (a9h):Q74)=
 ((some true):Q74):=by kernel_rfl
theorem c0Y(k:Nat)(K:Ex→St→Q74)(n:Nat)(a0:A7)(a1:A7)(x5:Int):(b4p k K (n+1) a0 a1 x5:Q74)=Y0 ((fun x5=>b4p k K n a0 a1 x5)) (K .ret (b0D)) (K (.exit 0) (a9h)) a0 a1 x5:=by kernel_rfl
theorem c4g(K:Ex→St→Q74)(a0:A7)(a1:A7):∀(n:Nat) (x5:Int),(b4p FUEL K n a0 a1 x5:Q74)=X9 (K .ret (b0D)) (K (.exit 0) (a9h)) a0 a1 n x5:=by
 intro n
 induction n with
 |zero=>intros; rfl
 |succ n ih=>
  intro x5
  exact(c0Y FUEL K n a0 a1 x5).trans (congrArg (fun f=>Y0 f (K .ret (b0D)) (K (.exit 0) (a9h)) a0 a1 x5) (funext fun x5=>ih x5))
theorem d0u(k:Nat)(a0:A7)(a1:A7):fnK (a2S k) 8 92 b8E s6 [.pv K26 a0,.pv K26 a1]=
 ((cond (!(decide ((a0.length:Int)=(a1.length:Int))))
 (some false)
 (A9j (a2S k) 0 (A0Z (a2S k) (A7s (a2S k) 8) 0 92 (sub b8D [1,1,0,1,0,0])) b0f (B4x 0 (B5Q (A0Z (a2S k) (A7s (a2S k) 8) 0 92 (sub b8D [1,1,1])) (B4C (a2S k) b8E s6))) k (c4h a0 a1 (0:Int)))):Q74):=by kernel_rfl
theorem d6q(a0:A7)(a1:A7):fnK (a2S FUEL) 8 92 b8E s6 [.pv K26 a0,.pv K26 a1]=a2B a0 a1:=
 (d0u FUEL a0 a1).trans (B5U (rfl) ((c4g _ a0 a1 FUEL (0:Int)).trans (B5V (fun e0 e1=>X9 e0 e1 a0 a1 FUEL (0:Int)) ((c6L FUEL).trans (rfl)) ((c0X FUEL).trans (rfl)))))
def c8g:Con:={ps:=K13,sh:=s6,raw:=fun x=>a2B x.1 x.2.1}
theorem d0t:A8C D8 92 c8g:=B5n (d3L FUEL) (depth:=8) d9g fun x y h=>(d6q x.1 x.2.1).trans h
def d2T(k:Nat):Cx:=y7 [] [(92,c8g)] [] [] [] k [] false
theorem d2U(k:Nat):A9E D8 (d2T k):=C4 ⟨d0t,C5⟩ C5 C5 C5
abbrev a3t:List Sh:=[.pl .bool]
abbrev Q95:Type:=Option (A2K a3t)
def u9(a0:T9)(a1:T9):Q95:=
 (cond (decide (a0.1=a1.1))
 (A1w (a2B a0.2.1 a1.2.1) fun(b1:Bool)=>(some b1))
 (some false))
theorem d5Q(a0:T9)(a1:T9):fnK (d2T FUEL) 8 44 d6Z a3t [.pv (.ref o4) a0,.pv (.ref o4) a1]=u9 a0 a1:=by kernel_rfl
def c7Q:Con:={ps:=(.pair (.ref o4) K6),sh:=a3t,raw:=fun x=>u9 x.1 x.2.1}
theorem c9Q:A8C D8 44 c7Q:=B5n (d2U FUEL) (depth:=8) d8y fun x y h=>(d5Q x.1 x.2.1).trans h
end
end Go.Ai.G
