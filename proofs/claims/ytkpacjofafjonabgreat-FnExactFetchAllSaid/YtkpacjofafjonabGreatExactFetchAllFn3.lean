/- Printed: plain functions,and that the Go functions do what they say. No conditions. -/
import Derived.Test.YtkpacjofafjonabGreatExactFetchAllFn2
namespace Go.Ai.G
noncomputable section
open Go.Proofs
open Go.Ai
set_option linter.unusedVariables false
set_option linter.unusedSimpArgs false
set_option maxRecDepth 100000
def a7G:Cut:={keep:=[0,1,5],stk:=[],ids:=[7],own:=[],outs:=[(1,[1],[7])]}
def a2e(k:Nat):Cx:=y7 [] [] [] [] [(114,[(0,a7G)])] k [] false
theorem c8I(k:Nat):A9E D8 (a2e k):=C4 C5 C5 C5 C5
abbrev E5:List Sh:=[.pl (.int .i64)]
def b7i(x1:Int)(x5:Int)(z7:A7):St:={env:=(.sl 7 k0B:: .pv E8 x1::(dd 3 (.pv E8 x5::(dd 14 [])))),stk:=[],heap:=[(7,.arr 5 k0B z7)]}
def a6e(x1:Int)(z7:A7):St:={env:=(.dead:: .pv E8 x1::(dd 18 [])),stk:=[],heap:=[(7,.arr 5 k0B z7)]}
def V2(rec:Int→Int→A7→Option (A7×A2K E5))(ke0:Int→A7→Option (A7×A2K E5))(x1:Int)(x5:Int)(z7:A7):Option (A7×A2K E5):=
 (cond (decide (x5<(z7.length:Int)))
 (cond ((decide ((0:Int)≤x5))&&(decide (x5<(z7.length:Int))))
 (rec (IntKind.wrap .i64 (x1+(1:Int))) (IntKind.wrap .i64 (x5+(1:Int))) (z7.set (x5.toNat) (IntKind.wrap .u8 x1)))
 none)
 (ke0 x1 z7))
def V1(ke0:Int→A7→Option (A7×A2K E5)):Nat→Int→Int→A7→Option (A7×A2K E5)
 |0=>fun _ _ _=>none
 |n+1=>V2 (V1 ke0 n) ke0
def a1H(a0:A7)(a1:Int):Option (A7×A2K E5):=
 (V1 (fun x1 z7=>(some (z7,x1))) FUEL a1 (0:Int) a0)
def b1g(k:Nat)(K:Ex→St→Option (A7×A2K E5))(n:Nat)(x1:Int)(x5:Int)(z7:A7):Option (A7×A2K E5):=A9j (a2e k) 0 (A0Z (a2e k) (A7s (a2e k) 8) 0 114 (sub b2S [1,0,1,0,0])) a7G K n (b7i x1 x5 z7)
theorem b4W(k:Nat)(x1:Int)(z7:A7):((B4x 0 (B5Q (A0Z (a2e k) (A7s (a2e k) 8) 0 114 (sub b2S [1,1])) (B2f (a2e k) b2T (.arr 5 k0B) E5))) (.exit 0) (a6e x1 z7):Option (A7×A2K E5))=
 ((some (z7,x1)):Option (A7×A2K E5)):=by kernel_rfl
theorem b4X(k:Nat)(K:Ex→St→Option (A7×A2K E5))(n:Nat)(x1:Int)(x5:Int)(z7:A7):(b1g k K (n+1) x1 x5 z7:Option (A7×A2K E5))=V2 ((fun x1 x5 z7=>b1g k K n x1 x5 z7)) (fun x1 z7=>K (.exit 0) (a6e x1 z7)) x1 x5 z7:=by kernel_rfl
theorem b9l(K:Ex→St→Option (A7×A2K E5)):∀(n:Nat) (x1:Int) (x5:Int) (z7:A7),(b1g FUEL K n x1 x5 z7:Option (A7×A2K E5))=V1 (fun x1 z7=>K (.exit 0) (a6e x1 z7)) n x1 x5 z7:=by
 intro n
 induction n with
 |zero=>intros; rfl
 |succ n ih=>
  intro x1 x5 z7
  exact(b4X FUEL K n x1 x5 z7).trans (congrArg (fun f=>V2 f (fun x1 z7=>K (.exit 0) (a6e x1 z7)) x1 x5 z7) (funext fun x1=>funext fun x5=>funext fun z7=>ih x1 x5 z7))
theorem c5f(k:Nat)(a0:A7)(a1:Int):B5L (a2e k) 8 114 b2T (.arr 5 k0B) E5 a0 [.pv E8 a1]=
 ((A9j (a2e k) 0 (A0Z (a2e k) (A7s (a2e k) 8) 0 114 (sub b2S [1,0,1,0,0])) a7G (B4x 0 (B5Q (A0Z (a2e k) (A7s (a2e k) 8) 0 114 (sub b2S [1,1])) (B2f (a2e k) b2T (.arr 5 k0B) E5))) k (b7i a1 (0:Int) a0)):Option (A7×A2K E5)):=by kernel_rfl
theorem d1u(a0:A7)(a1:Int):B5L (a2e FUEL) 8 114 b2T (.arr 5 k0B) E5 a0 [.pv E8 a1]=a1H a0 a1:=
 (c5f FUEL a0 a1).trans ((b9l _ FUEL a1 (0:Int) a0).trans (congrArg (fun e0=>V1 e0 FUEL a1 (0:Int) a0) (funext fun x1=>funext fun z7=>(b4W FUEL x1 z7).trans (rfl))))
def c1W:A8p:={k:=(.arr 5 k0B),ps:=K24,sh:=E5,raw:=fun x q=>a1H x q.1}
theorem c5e:B0k D8 114 c1W:=B5p (c8I FUEL) (depth:=8) d4J fun x q z h=>(d1u x q.1).trans h
def a7c:Cut:={keep:=[0,1,5],stk:=[],ids:=[7],own:=[],outs:=[(1,[1],[7])]}
def a0O(k:Nat):Cx:=y7 [] [] [] [(114,c1W)] [(77,[(0,a7c)])] k dps false
theorem c6J(k:Nat):A9E D8 (a0O k):=C4 C5 C5 ⟨c5e,C5⟩ C5
abbrev D1:List Sh:=[.pl (.int .i64)]
def b4n(x1:Int)(x5:Int)(z7:T6):St:={env:=(.inn 7 [] o4:: .pv E8 x1::(dd 3 (.pv E8 x5::(dd 22 [])))),stk:=[],heap:=[(7,.tre 29 (.pr (.pl (.int .u8)) (.pr (.sl 5 (.pl (.int .u8))) (.pl .unit))) z7)]}
def a5G(x1:Int)(z7:T6):St:={env:=(.dead:: .pv E8 x1::(dd 26 [])),stk:=[],heap:=[(7,.tre 29 (.pr (.pl (.int .u8)) (.pr (.sl 5 (.pl (.int .u8))) (.pl .unit))) z7)]}
def P5(rec:Int→Int→T6→Option (T6×A2K D1))(ke0:Int→T6→Option (T6×A2K D1))(x1:Int)(x5:Int)(z7:T6):Option (T6×A2K D1):=
 (cond (decide (x5<(z7.length:Int)))
 (cond ((decide ((0:Int)≤x5))&&(decide (x5<(z7.length:Int))))
 (cond ((decide ((0:Int)≤x5))&&(decide (x5<((z7.set (x5.toNat) ((IntKind.wrap .u8 x1),(z7.getD (x5.toNat) ((0:Int),([],()))).2)).length:Int))))
 (cond (decide ((x5.toNat)<List.length (z7.set (x5.toNat) ((IntKind.wrap .u8 x1),(z7.getD (x5.toNat) ((0:Int),([],()))).2)))&&true) (A1w (a1H ((((z7.set (x5.toNat) ((IntKind.wrap .u8 x1),(z7.getD (x5.toNat) ((0:Int),([],()))).2)).getD (x5.toNat) ((0:Int),([],()))).2).1) (IntKind.wrap .i64 (x1+(1:Int)))) fun(b2:(A7×Int))=>(rec b2.2 (IntKind.wrap .i64 (x5+(1:Int))) ((z7.set (x5.toNat) ((IntKind.wrap .u8 x1),(z7.getD (x5.toNat) ((0:Int),([],()))).2)).set (x5.toNat) (((z7.set (x5.toNat) ((IntKind.wrap .u8 x1),(z7.getD (x5.toNat) ((0:Int),([],()))).2)).getD (x5.toNat) ((0:Int),([],()))).1,(b2.1,(((z7.set (x5.toNat) ((IntKind.wrap .u8 x1),(z7.getD (x5.toNat) ((0:Int),([],()))).2)).getD (x5.toNat) ((0:Int),([],()))).2).2))))) none)
 none)
 none)
 (ke0 x1 z7))
def P4(ke0:Int→T6→Option (T6×A2K D1)):Nat→Int→Int→T6→Option (T6×A2K D1)
 |0=>fun _ _ _=>none
 |n+1=>P5 (P4 ke0 n) ke0
def X6(a0:T6)(a1:Int):Option (T6×A2K D1):=
 (P4 (fun x1 z7=>(some (z7,x1))) FUEL a1 (0:Int) a0)
def b0d(k:Nat)(K:Ex→St→Option (T6×A2K D1))(n:Nat)(x1:Int)(x5:Int)(z7:T6):Option (T6×A2K D1):=A9j (a0O k) 0 (A0Z (a0O k) (A7s (a0O k) 8) 0 77 (sub c4a [1,0,1,0,0])) a7c K n (b4n x1 x5 z7)
theorem b4l(k:Nat)(x1:Int)(z7:T6):((B4x 0 (B5Q (A0Z (a0O k) (A7s (a0O k) 8) 0 77 (sub c4a [1,1])) (B2f (a0O k) c4d (.tre 29 (.pr (.pl (.int .u8)) (.pr (.sl 5 (.pl (.int .u8))) (.pl .unit)))) D1))) (.exit 0) (a5G x1 z7):Option (T6×A2K D1))=
 ((some (z7,x1)):Option (T6×A2K D1)):=by kernel_rfl
theorem b4m(k:Nat)(K:Ex→St→Option (T6×A2K D1))(n:Nat)(x1:Int)(x5:Int)(z7:T6):(b0d k K (n+1) x1 x5 z7:Option (T6×A2K D1))=P5 ((fun x1 x5 z7=>b0d k K n x1 x5 z7)) (fun x1 z7=>K (.exit 0) (a5G x1 z7)) x1 x5 z7:=by kernel_rfl
theorem b6H(K:Ex→St→Option (T6×A2K D1)):∀(n:Nat) (x1:Int) (x5:Int) (z7:T6),(b0d FUEL K n x1 x5 z7:Option (T6×A2K D1))=P4 (fun x1 z7=>K (.exit 0) (a5G x1 z7)) n x1 x5 z7:=by
 intro n
 induction n with
 |zero=>intros; rfl
 |succ n ih=>
  intro x1 x5 z7
  exact(b4m FUEL K n x1 x5 z7).trans (congrArg (fun f=>P5 f (fun x1 z7=>K (.exit 0) (a5G x1 z7)) x1 x5 z7) (funext fun x1=>funext fun x5=>funext fun z7=>ih x1 x5 z7))
theorem c4c(k:Nat)(a0:T6)(a1:Int):B5L (a0O k) 8 77 c4d (.tre 29 (.pr (.pl (.int .u8)) (.pr (.sl 5 (.pl (.int .u8))) (.pl .unit)))) D1 a0 [.pv E8 a1]=
 ((A9j (a0O k) 0 (A0Z (a0O k) (A7s (a0O k) 8) 0 77 (sub c4a [1,0,1,0,0])) a7c (B4x 0 (B5Q (A0Z (a0O k) (A7s (a0O k) 8) 0 77 (sub c4a [1,1])) (B2f (a0O k) c4d (.tre 29 (.pr (.pl (.int .u8)) (.pr (.sl 5 (.pl (.int .u8))) (.pl .unit)))) D1))) k (b4n a1 (0:Int) a0)):Option (T6×A2K D1)):=by kernel_rfl
theorem d0o(a0:T6)(a1:Int):B5L (a0O FUEL) 8 77 c4d (.tre 29 (.pr (.pl (.int .u8)) (.pr (.sl 5 (.pl (.int .u8))) (.pl .unit)))) D1 a0 [.pv E8 a1]=X6 a0 a1:=
 (c4c FUEL a0 a1).trans ((b6H _ FUEL a1 (0:Int) a0).trans (congrArg (fun e0=>P4 e0 FUEL a1 (0:Int) a0) (funext fun x1=>funext fun z7=>(b4l FUEL x1 z7).trans (rfl))))
def b8A:A8p:={k:=(.tre 29 (.pr (.pl (.int .u8)) (.pr (.sl 5 (.pl (.int .u8))) (.pl .unit)))),ps:=K24,sh:=D1,raw:=fun x q=>X6 x q.1}
theorem c4b:B0k D8 77 b8A:=B5p (c6J FUEL) (depth:=8) d9b fun x q z h=>(d0o x q.1).trans h
def a2W:Cut:={keep:=[0,1,5],stk:=[],ids:=[7],own:=[],outs:=[(1,[1],[7])]}
def a9R:Cut:={keep:=[0,1,5,6],stk:=[],ids:=[7],own:=[],outs:=[(3,[0,1,5],[7])]}
def R2(k:Nat):Cx:=y7 [] [] [] [] [(33,[(0,a2W),(2,a9R)])] k [] false
theorem d2O(k:Nat):A9E D8 (R2 k):=C4 C5 C5 C5 C5
abbrev B8:List Sh:=[.pl (.int .i64)]
def b3R(x1:Int)(x5:Int)(z7:B5):St:={env:=(.sl 7 D9:: .pv E8 x1::(dd 3 (.pv E8 x5::(dd 21 [])))),stk:=[],heap:=[(7,.arr 32 D9 z7)]}
def b2b(x1:Int)(z7:B5):St:={env:=(.dead:: .pv E8 x1::(dd 25 [])),stk:=[],heap:=[(7,.arr 32 D9 z7)]}
def c3n(x5:Int)(x1:Int)(x6:Int)(z7:B5):St:={env:=(.sl 7 D9:: .pv E8 x1::(dd 3 (.pv E8 x5:: .pv E8 x6::(dd 20 [])))),stk:=[],heap:=[(7,.arr 32 D9 z7)]}
def a8W(x5:Int)(x1:Int)(z7:B5):St:={env:=(.sl 7 D9:: .pv E8 x1::(dd 3 (.pv E8 x5::(dd 21 [])))),stk:=[],heap:=[(7,.arr 32 D9 z7)]}
def X7(rec:Int→Int→B5→Option (B5×A2K B8))(ke2:Int→B5→Option (B5×A2K B8))(x5:Int)(x1:Int)(x6:Int)(z7:B5):Option (B5×A2K B8):=
 (cond (decide (x6<(32:Int)))
 (cond ((decide ((0:Int)≤x5))&&(decide (x5<(z7.length:Int))))
 (cond ((decide ((0:Int)≤x6))&&(decide (x6<(32:Int))))
 (rec (IntKind.wrap .i64 (x1+(1:Int))) (IntKind.wrap .i64 (x6+(1:Int))) (z7.set (x5.toNat) ((z7.getD (x5.toNat) (List.replicate 32 (0:Int))).set (x6.toNat) (IntKind.wrap .u8 x1))))
 none)
 none)
 (ke2 x1 z7))
def a0U(ke2:Int→B5→Option (B5×A2K B8))(x5:Int):Nat→Int→Int→B5→Option (B5×A2K B8)
 |0=>fun _ _ _=>none
 |n+1=>X7 (a0U ke2 x5 n) ke2 x5
def a0T(rec:Int→Int→B5→Option (B5×A2K B8))(ke0:Int→B5→Option (B5×A2K B8))(x1:Int)(x5:Int)(z7:B5):Option (B5×A2K B8):=
 (cond (decide (x5<(z7.length:Int)))
 (a0U (fun x1 z7=>(rec x1 (IntKind.wrap .i64 (x5+(1:Int))) z7)) x5 FUEL x1 (0:Int) z7)
 (ke0 x1 z7))
def O5(ke0:Int→B5→Option (B5×A2K B8)):Nat→Int→Int→B5→Option (B5×A2K B8)
 |0=>fun _ _ _=>none
 |n+1=>a0T (O5 ke0 n) ke0
def a2y(a0:B5)(a1:Int):Option (B5×A2K B8):=
 (O5 (fun x1 z7=>(some (z7,x1))) FUEL a1 (0:Int) a0)
def b3S(k:Nat)(K:Ex→St→Option (B5×A2K B8))(n:Nat)(x5:Int)(x1:Int)(x6:Int)(z7:B5):Option (B5×A2K B8):=A9j (R2 k) 0 (A0Z (R2 k) (A7s (R2 k) 8) 0 33 (sub a7q [1,0,1,0,0,1,0,0,1,0,0])) a9R K n (c3n x5 x1 x6 z7)
theorem c0u(k:Nat)(K:Ex→St→Option (B5×A2K B8))(n:Nat)(x5:Int)(x1:Int)(z7:B5):((B4x 2 (B4x 1 (B5Q (A0Z (R2 k) (A7s (R2 k) 8) 0 33 (sub a7q [1,0,1,0,0,1,1])) (B2m (R2 k) 0 a2W (A9j (R2 k) 0 (A0Z (R2 k) (A7s (R2 k) 8) 0 33 (sub a7q [1,0,1,0,0])) a2W K n) K)))) (.exit 2) (a8W x5 x1 z7):Option (B5×A2K B8))=
 ((A9j (R2 k) 0 (A0Z (R2 k) (A7s (R2 k) 8) 0 33 (sub a7q [1,0,1,0,0])) a2W K n (b3R x1 (IntKind.wrap .i64 (x5+(1:Int))) z7)):Option (B5×A2K B8)):=by kernel_rfl
theorem c0v(k:Nat)(K:Ex→St→Option (B5×A2K B8))(n:Nat)(x5:Int)(x1:Int)(x6:Int)(z7:B5):(b3S k K (n+1) x5 x1 x6 z7:Option (B5×A2K B8))=X7 ((fun x1 x6 z7=>b3S k K n x5 x1 x6 z7)) (fun x1 z7=>K (.exit 2) (a8W x5 x1 z7)) x5 x1 x6 z7:=by kernel_rfl
theorem c3m(K:Ex→St→Option (B5×A2K B8))(x5:Int):∀(n:Nat) (x1:Int) (x6:Int) (z7:B5),(b3S FUEL K n x5 x1 x6 z7:Option (B5×A2K B8))=a0U (fun x1 z7=>K (.exit 2) (a8W x5 x1 z7)) x5 n x1 x6 z7:=by
 intro n
 induction n with
 |zero=>intros; rfl
 |succ n ih=>
  intro x1 x6 z7
  exact(c0v FUEL K n x5 x1 x6 z7).trans (congrArg (fun f=>X7 f (fun x1 z7=>K (.exit 2) (a8W x5 x1 z7)) x5 x1 x6 z7) (funext fun x1=>funext fun x6=>funext fun z7=>ih x1 x6 z7))
def c3l(k:Nat)(K:Ex→St→Option (B5×A2K B8))(n:Nat)(x1:Int)(x5:Int)(z7:B5):Option (B5×A2K B8):=A9j (R2 k) 0 (A0Z (R2 k) (A7s (R2 k) 8) 0 33 (sub a7q [1,0,1,0,0])) a2W K n (b3R x1 x5 z7)
theorem c0t(k:Nat)(K:Ex→St→Option (B5×A2K B8))(n:Nat)(x1:Int)(x5:Int)(z7:B5):(c3l k K (n+1) x1 x5 z7:Option (B5×A2K B8))=
 ((cond (decide (x5<(z7.length:Int)))
 (A9j (R2 k) 0 (A0Z (R2 k) (A7s (R2 k) 8) 0 33 (sub a7q [1,0,1,0,0,1,0,0,1,0,0])) a9R (B4x 2 (B4x 1 (B5Q (A0Z (R2 k) (A7s (R2 k) 8) 0 33 (sub a7q [1,0,1,0,0,1,1])) (B2m (R2 k) 0 a2W (A9j (R2 k) 0 (A0Z (R2 k) (A7s (R2 k) 8) 0 33 (sub a7q [1,0,1,0,0])) a2W K n) K)))) k (c3n x5 x1 (0:Int) z7))
 (K (.exit 0) (b2b x1 z7))):Option (B5×A2K B8)):=by kernel_rfl
theorem c0s(k:Nat)(x1:Int)(z7:B5):((B4x 0 (B5Q (A0Z (R2 k) (A7s (R2 k) 8) 0 33 (sub a7q [1,1])) (B2f (R2 k) c3j (.arr 32 D9) B8))) (.exit 0) (b2b x1 z7):Option (B5×A2K B8))=
 ((some (z7,x1)):Option (B5×A2K B8)):=by kernel_rfl
theorem c3k(K:Ex→St→Option (B5×A2K B8)):∀(n:Nat) (x1:Int) (x5:Int) (z7:B5),(c3l FUEL K n x1 x5 z7:Option (B5×A2K B8))=O5 (fun x1 z7=>K (.exit 0) (b2b x1 z7)) n x1 x5 z7:=by
 intro n
 induction n with
 |zero=>intros; rfl
 |succ n ih=>
  intro x1 x5 z7
  exact(c0t FUEL K n x1 x5 z7).trans (B5U ((c3m _ x5 FUEL x1 (0:Int) z7).trans (congrArg (fun e0=>a0U e0 x5 FUEL x1 (0:Int) z7) (funext fun x1=>funext fun z7=>(c0u FUEL K n x5 x1 z7).trans (ih x1 (IntKind.wrap .i64 (x5+(1:Int))) z7)))) (rfl))
theorem c9N(k:Nat)(a0:B5)(a1:Int):B5L (R2 k) 8 33 c3j (.arr 32 D9) B8 a0 [.pv E8 a1]=
 ((A9j (R2 k) 0 (A0Z (R2 k) (A7s (R2 k) 8) 0 33 (sub a7q [1,0,1,0,0])) a2W (B4x 0 (B5Q (A0Z (R2 k) (A7s (R2 k) 8) 0 33 (sub a7q [1,1])) (B2f (R2 k) c3j (.arr 32 D9) B8))) k (b3R a1 (0:Int) a0)):Option (B5×A2K B8)):=by kernel_rfl
theorem d5N(a0:B5)(a1:Int):B5L (R2 FUEL) 8 33 c3j (.arr 32 D9) B8 a0 [.pv E8 a1]=a2y a0 a1:=
 (c9N FUEL a0 a1).trans ((c3k _ FUEL a1 (0:Int) a0).trans (congrArg (fun e0=>O5 e0 FUEL a1 (0:Int) a0) (funext fun x1=>funext fun z7=>(c0s FUEL x1 z7).trans (rfl))))
def c7M:A8p:={k:=(.arr 32 D9),ps:=K24,sh:=B8,raw:=fun x q=>a2y x q.1}
theorem c9M:B0k D8 33 c7M:=B5p (d2O FUEL) (depth:=8) d8s fun x q z h=>(d5N x q.1).trans h
def a7H:Cut:={keep:=[0,1,5],stk:=[],ids:=[],own:=[],outs:=[(0,[4],[]),(1,[1],[])]}
def a1c(k:Nat):Cx:=y7 [] [] [] [] [(115,[(0,a7H)])] k [] false
theorem c8J(k:Nat):A9E D8 (a1c k):=C4 C5 C5 C5 C5
abbrev f0:List Sh:=[.pl (.int .i64)]
abbrev Q49:Type:=Option (A2K f0)
def b7j(a0:A7)(x1:Int)(x5:Int):St:={env:=(.pv K26 a0:: .pv E8 x1::(dd 3 (.pv E8 x5::(dd 16 [])))),stk:=[],heap:=[]}
def a8J:St:={env:=(dd 4 (.pv E8 (-1:Int)::(dd 17 []))),stk:=[],heap:=[]}
def a6f(x1:Int):St:={env:=(.dead:: .pv E8 x1::(dd 20 [])),stk:=[],heap:=[]}
def V0(rec:Int→Int→Q49)(kr:Q49)(ke0:Int→Q49)(a0:A7)(x1:Int)(x5:Int):Q49:=
 (cond (decide (x5<(a0.length:Int)))
 (cond ((decide ((0:Int)≤x5))&&(decide (x5<(a0.length:Int))))
 (cond (!(decide ((a0.getD (x5.toNat) (0:Int))=(IntKind.wrap .u8 x1))))
 (kr)
 (rec (IntKind.wrap .i64 (x1+(1:Int))) (IntKind.wrap .i64 (x5+(1:Int)))))
 none)
 (ke0 x1))
def U9(kr:Q49)(ke0:Int→Q49)(a0:A7):Nat→Int→Int→Q49
 |0=>fun _ _=>none
 |n+1=>V0 (U9 kr ke0 a0 n) kr ke0 a0
def a1G(a0:A7)(a1:Int):Q49:=
 (U9 (some (-1:Int)) (fun x1=>(some x1)) a0 FUEL a1 (0:Int))
def b1j(k:Nat)(K:Ex→St→Q49)(n:Nat)(a0:A7)(x1:Int)(x5:Int):Q49:=A9j (a1c k) 0 (A0Z (a1c k) (A7s (a1c k) 8) 0 115 (sub b1h [1,0,1,0,0])) a7H K n (b7j a0 x1 x5)
theorem c1Y(k:Nat):((B4x 0 (B5Q (A0Z (a1c k) (A7s (a1c k) 8) 0 115 (sub b1h [1,1])) (B4C (a1c k) b1i f0))) .ret (a8J):Q49)=
 ((some (-1:Int)):Q49):=by kernel_rfl
theorem b4Y(k:Nat)(x1:Int):((B4x 0 (B5Q (A0Z (a1c k) (A7s (a1c k) 8) 0 115 (sub b1h [1,1])) (B4C (a1c k) b1i f0))) (.exit 0) (a6f x1):Q49)=
 ((some x1):Q49):=by kernel_rfl
theorem b4Z(k:Nat)(K:Ex→St→Q49)(n:Nat)(a0:A7)(x1:Int)(x5:Int):(b1j k K (n+1) a0 x1 x5:Q49)=V0 ((fun x1 x5=>b1j k K n a0 x1 x5)) (K .ret (a8J)) (fun x1=>K (.exit 0) (a6f x1)) a0 x1 x5:=by kernel_rfl
theorem b9m(K:Ex→St→Q49)(a0:A7):∀(n:Nat) (x1:Int) (x5:Int),(b1j FUEL K n a0 x1 x5:Q49)=U9 (K .ret (a8J)) (fun x1=>K (.exit 0) (a6f x1)) a0 n x1 x5:=by
 intro n
 induction n with
 |zero=>intros; rfl
 |succ n ih=>
  intro x1 x5
  exact(b4Z FUEL K n a0 x1 x5).trans (congrArg (fun f=>V0 f (K .ret (a8J)) (fun x1=>K (.exit 0) (a6f x1)) a0 x1 x5) (funext fun x1=>funext fun x5=>ih x1 x5))
theorem c5h(k:Nat)(a0:A7)(a1:Int):fnK (a1c k) 8 115 b1i f0 [.pv K26 a0,.pv E8 a1]=
 ((A9j (a1c k) 0 (A0Z (a1c k) (A7s (a1c k) 8) 0 115 (sub b1h [1,0,1,0,0])) a7H (B4x 0 (B5Q (A0Z (a1c k) (A7s (a1c k) 8) 0 115 (sub b1h [1,1])) (B4C (a1c k) b1i f0))) k (b7j a0 a1 (0:Int))):Q49):=by kernel_rfl
theorem d1v(a0:A7)(a1:Int):fnK (a1c FUEL) 8 115 b1i f0 [.pv K26 a0,.pv E8 a1]=a1G a0 a1:=
 (c5h FUEL a0 a1).trans ((b9m _ a0 FUEL a1 (0:Int)).trans (B5V (fun e0 e1=>U9 e0 e1 a0 FUEL a1 (0:Int)) ((c1Y FUEL).trans (rfl)) (funext fun x1=>(b4Y FUEL x1).trans (rfl))))
def c1X:Con:={ps:=K14,sh:=f0,raw:=fun x=>a1G x.1 x.2.1}
theorem c5g:A8C D8 115 c1X:=B5n (c8J FUEL) (depth:=8) d4K fun x y h=>(d1v x.1 x.2.1).trans h
def b0e:Cut:={keep:=[0,1,5],stk:=[],ids:=[],own:=[],outs:=[(0,[4],[]),(1,[1],[])]}
def a2R(k:Nat):Cx:=y7 [] [(115,c1X)] [] [] [(78,[(0,b0e)])] k [] false
theorem d3G(k:Nat):A9E D8 (a2R k):=C4 ⟨c5g,C5⟩ C5 C5 C5
abbrev d9:List Sh:=[.pl (.int .i64)]
abbrev Q48:Type:=Option (A2K d9)
def c4f(a0:T6)(x1:Int)(x5:Int):St:={env:=(.pv K12 a0:: .pv E8 x1::(dd 3 (.pv E8 x5::(dd 26 [])))),stk:=[],heap:=[]}
def b0C:St:={env:=(dd 4 (.pv E8 (-1:Int)::(dd 27 []))),stk:=[],heap:=[]}
def a9g(x1:Int):St:={env:=(.dead:: .pv E8 x1::(dd 30 [])),stk:=[],heap:=[]}
def U8(rec:Int→Int→Q48)(kr:Q48)(ke0:Int→Q48)(a0:T6)(x1:Int)(x5:Int):Q48:=
 (cond (decide (x5<(a0.length:Int)))
 (cond ((decide ((0:Int)≤x5))&&(decide (x5<(a0.length:Int))))
 (cond (!(decide ((a0.getD (x5.toNat) ((0:Int),([],()))).1=(IntKind.wrap .u8 x1))))
 (kr)
 (cond ((decide ((0:Int)≤x5))&&(decide (x5<(a0.length:Int))))
 (A1w (a1G (((a0.getD (x5.toNat) ((0:Int),([],()))).2).1) (IntKind.wrap .i64 (x1+(1:Int)))) fun(b2:Int)=>(cond (decide (b2<(0:Int)))
 (kr)
 (rec b2 (IntKind.wrap .i64 (x5+(1:Int))))))
 none))
 none)
 (ke0 x1))
def U7(kr:Q48)(ke0:Int→Q48)(a0:T6):Nat→Int→Int→Q48
 |0=>fun _ _=>none
 |n+1=>U8 (U7 kr ke0 a0 n) kr ke0 a0
def a1F(a0:T6)(a1:Int):Q48:=
 (U7 (some (-1:Int)) (fun x1=>(some x1)) a0 FUEL a1 (0:Int))
def b4o(k:Nat)(K:Ex→St→Q48)(n:Nat)(a0:T6)(x1:Int)(x5:Int):Q48:=A9j (a2R k) 0 (A0Z (a2R k) (A7s (a2R k) 8) 0 78 (sub b8B [1,0,1,0,0])) b0e K n (c4f a0 x1 x5)
theorem c6K(k:Nat):((B4x 0 (B5Q (A0Z (a2R k) (A7s (a2R k) 8) 0 78 (sub b8B [1,1])) (B4C (a2R k) b8C d9))) .ret (b0C):Q48)=
 ((some (-1:Int)):Q48):=by kernel_rfl
theorem c0V(k:Nat)(x1:Int):((B4x 0 (B5Q (A0Z (a2R k) (A7s (a2R k) 8) 0 78 (sub b8B [1,1])) (B4C (a2R k) b8C d9))) (.exit 0) (a9g x1):Q48)=
 ((some x1):Q48):=by kernel_rfl
theorem c0W(k:Nat)(K:Ex→St→Q48)(n:Nat)(a0:T6)(x1:Int)(x5:Int):(b4o k K (n+1) a0 x1 x5:Q48)=U8 ((fun x1 x5=>b4o k K n a0 x1 x5)) (K .ret (b0C)) (fun x1=>K (.exit 0) (a9g x1)) a0 x1 x5:=by kernel_rfl
theorem c4e(K:Ex→St→Q48)(a0:T6):∀(n:Nat) (x1:Int) (x5:Int),(b4o FUEL K n a0 x1 x5:Q48)=U7 (K .ret (b0C)) (fun x1=>K (.exit 0) (a9g x1)) a0 n x1 x5:=by
 intro n
 induction n with
 |zero=>intros; rfl
 |succ n ih=>
  intro x1 x5
  exact(c0W FUEL K n a0 x1 x5).trans (congrArg (fun f=>U8 f (K .ret (b0C)) (fun x1=>K (.exit 0) (a9g x1)) a0 x1 x5) (funext fun x1=>funext fun x5=>ih x1 x5))
theorem d0q(k:Nat)(a0:T6)(a1:Int):fnK (a2R k) 8 78 b8C d9 [.pv K12 a0,.pv E8 a1]=
 ((A9j (a2R k) 0 (A0Z (a2R k) (A7s (a2R k) 8) 0 78 (sub b8B [1,0,1,0,0])) b0e (B4x 0 (B5Q (A0Z (a2R k) (A7s (a2R k) 8) 0 78 (sub b8B [1,1])) (B4C (a2R k) b8C d9))) k (c4f a0 a1 (0:Int))):Q48):=by kernel_rfl
theorem d6n(a0:T6)(a1:Int):fnK (a2R FUEL) 8 78 b8C d9 [.pv K12 a0,.pv E8 a1]=a1F a0 a1:=
 (d0q FUEL a0 a1).trans ((c4e _ a0 FUEL a1 (0:Int)).trans (B5V (fun e0 e1=>U7 e0 e1 a0 FUEL a1 (0:Int)) ((c6K FUEL).trans (rfl)) (funext fun x1=>(c0V FUEL x1).trans (rfl))))
def c8d:Con:={ps:=(.pair K12 K24),sh:=d9,raw:=fun x=>a1F x.1 x.2.1}
theorem d0p:A8C D8 78 c8d:=B5n (d3G FUEL) (depth:=8) d9c fun x y h=>(d6n x.1 x.2.1).trans h
def d2P(k:Nat):Cx:=y7 [] [(78,c8d)] [] [] [] k [] false
theorem d2Q(k:Nat):A9E D8 (d2P k):=C4 ⟨d0p,C5⟩ C5 C5 C5
abbrev a4b:List Sh:=[.pl (.int .i64)]
abbrev Q50:Type:=Option (A2K a4b)
def a0D(a0:T4)(a1:Int):Q50:=
 (A1w (a1F a0.1 a1) fun(b1:Int)=>(cond (decide (b1<(0:Int)))
 (some (-1:Int))
 (some b1)))
theorem d5O(a0:T4)(a1:Int):fnK (d2P FUEL) 8 34 d6W a4b [.pv K4 a0,.pv E8 a1]=a0D a0 a1:=by kernel_rfl
def c7N:Con:={ps:=(.pair K4 K24),sh:=a4b,raw:=fun x=>a0D x.1 x.2.1}
theorem c9O:A8C D8 34 c7N:=B5n (d2Q FUEL) (depth:=8) d8t fun x y h=>(d5O x.1 x.2.1).trans h
def a3l(k:Nat):Cx:=y7 [(32,d6V)] [(23,c7F),(24,c7G),(25,c7H),(26,b7Y),(27,c7I),(28,b7Z),(29,c7J),(30,c7K),(31,c7L),(34,c7N)] [] [(33,c7M),(77,b8A)] [] k dps false
theorem laws_FnExactFetchAll_d_tabs(k:Nat):A9E D8 (a3l k):=C4 ⟨c9A,c9B,c9C,c2Z,c9F,c3f,c9I,c9J,c9K,c9O,C5⟩ C5 ⟨c9M,c4b,C5⟩ ⟨d8r,C5⟩
abbrev a1h:List Sh:=[.pl .bool]
abbrev Q40:Type:=Option (A2K a1h)
def laws_FnExactFetchAll_d_r(a0:T4)(a1:T4)(a2:B5)(a3:Int)(a4:Int)(a5:Int):Q40:=
 (A1w (a1I a0 (1048576:Int)) fun(b1:Int)=>(cond (decide (b1<(0:Int)))
 (some true)
 (A1w (a1I a1 b1) fun(b2:Int)=>(cond (decide (b2<(0:Int)))
 (some true)
 (A1w (a3y a2 b2) fun(b3:Int)=>(cond (decide (b3<(0:Int)))
 (some true)
 (A1w (L8 a0) fun(b4:T4)=>(A1w (L8 a1) fun(b5:T4)=>(A1w (a0C a2) fun(b6:B5)=>(A1w (a2z (b4.1,()) (b5.1,()) b6 a3 a4 a5) fun(b7:(T4×(T8×Int)))=>(A1w (L8 a0) fun(b8:T4)=>(A1w (L8 a1) fun(b9:T4)=>(A1w (a0C a2) fun(b10:B5)=>(A1w (a0b (b8.1,()) (b9.1,()) b10 a3 a4 a5) fun(b11:(T4×(T8×Int)))=>(A1w (c9 (b11.1.1,()) (b7.1.1,())) fun(b12:Bool)=>(cond (!b12)
 (some false)
 (A1w (a1y b11.2.1 b7.2.1) fun(b13:Bool)=>(cond (!b13)
 (some false)
 (cond (!(decide (b11.2.2=b7.2.2)))
 (some false)
 (A1w (L8 a0) fun(b14:T4)=>(A1w (c9 (b8.1,()) (b14.1,())) fun(b15:Bool)=>(cond (!b15)
 (some false)
 (A1w (L8 a1) fun(b16:T4)=>(A1w (c9 (b9.1,()) (b16.1,())) fun(b17:Bool)=>(cond (!b17)
 (some false)
 (A1w (a0C a2) fun(b18:B5)=>(A1w (a3x b10 b18) fun(b19:Bool)=>(cond (!b19)
 (some false)
 (A1w (X6 b8.1 (1:Int)) fun(b20:(T6×Int))=>(A1w (X6 b9.1 b20.2) fun(b21:(T6×Int))=>(A1w (a2y b10 b21.2) fun(b22:(B5×Int))=>(cond (decide (b22.2<(0:Int)))
 (some false)
 (A1w (c9 (b11.1.1,()) (b7.1.1,())) fun(b23:Bool)=>(cond (!b23)
 (some false)
 (A1w (a1y b11.2.1 b7.2.1) fun(b24:Bool)=>(cond (!b24)
 (some false)
 (cond (!(decide (b11.2.2=b7.2.2)))
 (some false)
 (A1w (X6 b11.1.1 (1:Int)) fun(b25:(T6×Int))=>(A1w (a0D (b25.1,()) (1:Int)) fun(b26:Int)=>(cond (decide (b26<(0:Int)))
 (some false)
 (cond (!(decide (b26=b25.2)))
 (some false)
 (A1w (L8 a0) fun(b27:T4)=>(A1w (L8 a1) fun(b28:T4)=>(A1w (a0C a2) fun(b29:B5)=>(A1w (a0b (b27.1,()) (b28.1,()) b29 a3 a4 a5) fun(b30:(T4×(T8×Int)))=>(A1w (c9 (b30.1.1,()) (b7.1.1,())) fun(b31:Bool)=>(cond (!b31)
 (some false)
 (A1w (a1y b30.2.1 b7.2.1) fun(b32:Bool)=>(cond (!b32)
 (some false)
 (cond (!(decide (b30.2.2=b7.2.2)))
 (some false)
 (A1w (a0D (b25.1,()) (1:Int)) fun(b33:Int)=>(cond (decide (b33<(0:Int)))
 (some false)
 (cond (!(decide (b33=b25.2)))
 (some false)
 (some true))))))))))))))))))))))))))))))))))))))))))))))))))))))
theorem a5p(a0:T4)(a1:T4)(a2:B5)(a3:Int)(a4:Int)(a5:Int):fnK (a3l FUEL) 8 4 a3Z a1h [.pv K4 a0,.pv K4 a1,.pv K22 a2,.pv E8 a3,.pv E8 a4,.pv E8 a5]=laws_FnExactFetchAll_d_r a0 a1 a2 a3 a4 a5:=by kernel_rfl
def a5o:Con:={ps:=(.pair K4 (.pair K4 (.pair K22 K9))),sh:=a1h,raw:=fun x=>laws_FnExactFetchAll_d_r x.1 x.2.1 x.2.2.1 x.2.2.2.1 x.2.2.2.2.1 x.2.2.2.2.2.1}
theorem laws_FnExactFetchAll_d_conOk:A8C D8 4 a5o:=B5n (laws_FnExactFetchAll_d_tabs FUEL) (depth:=8) laws_FnExactFetchAll_ok fun x y h=>(a5p x.1 x.2.1 x.2.2.1 x.2.2.2.1 x.2.2.2.2.1 x.2.2.2.2.2.1).trans h
end
end Go.Ai.G
