/- Made by a program of this work out of the program: tables and plain functions,with the proof that each Go function does what its plain function says. No conditions. -/
import Derived.Test.YtgchclimojffeaaGreatExactTakeBlobsFn1
namespace Go.Ai.G
noncomputable section
open Go.Proofs
open Go.Ai
set_option linter.unusedVariables false
set_option linter.unusedSimpArgs false
set_option maxRecDepth 100000

def f38_l0_cut:Cut:={keep:=[0,1,5],stk:=[],ids:=[7],own:=[],outs:=[(1,[1],[7])]}
def f38_cx(k:Nat):Cx:=mkC [] [] [] [] [(38,[(0,f38_l0_cut)])] k [] false
theorem f38_tabs(k:Nat):TabsOk Tryz.prog (f38_cx k):=mkC_ok trivial trivial trivial trivial
abbrev laws_markByteS_sh:List Sh:=[.pl (.int .i64)]
def f38_l0_s(x1:Int)(x5:Int)(z7:(List Int)):St:={env:=(.sl 7 (.int .u8):: .pv (.int .i64) x1::(dd 3 (.pv (.int .i64) x5::(dd 14 [])))),stk:=[],heap:=[(7,.arr 5 (.int .u8) z7)]}
def f38_l0_o0(x1:Int)(z7:(List Int)):St:={env:=(.dead:: .pv (.int .i64) x1::(dd 18 [])),stk:=[],heap:=[(7,.arr 5 (.int .u8) z7)]}
def laws_markByteS_l0_b(rec:Int→Int→(List Int)→Option ((List Int)×shDen laws_markByteS_sh))(ke0:Int→(List Int)→Option ((List Int)×shDen laws_markByteS_sh))(x1:Int)(x5:Int)(z7:(List Int)):Option ((List Int)×shDen laws_markByteS_sh):=
 (cond (decide (x5<(z7.length:Int)))
 (cond ((decide ((0:Int)≤x5))&&(decide (x5<(z7.length:Int))))
 (rec (IntKind.wrap .i64 (x1+(1:Int))) (IntKind.wrap .i64 (x5+(1:Int))) (z7.set (x5.toNat) (IntKind.wrap .u8 x1)))
 none)
 (ke0 x1 z7))
def laws_markByteS_l0_L(ke0:Int→(List Int)→Option ((List Int)×shDen laws_markByteS_sh)):Nat→Int→Int→(List Int)→Option ((List Int)×shDen laws_markByteS_sh)
 |0=>fun _ _ _=>none
 |n+1=>laws_markByteS_l0_b (laws_markByteS_l0_L ke0 n) ke0
def laws_markByteS_r(a0:(List Int))(a1:Int):Option ((List Int)×shDen laws_markByteS_sh):=
 (laws_markByteS_l0_L (fun x1 z7=>(some (z7,x1))) FUEL a1 (0:Int) a0)
def f38_l0_p(k:Nat)(K:Ex→St→Option ((List Int)×shDen laws_markByteS_sh))(n:Nat)(x1:Int)(x5:Int)(z7:(List Int)):Option ((List Int)×shDen laws_markByteS_sh):=loopK (f38_cx k) 0 (execK (f38_cx k) (callK (f38_cx k) 8) 0 38 (sub f38_c [1,0,1,0,0])) f38_l0_cut K n (f38_l0_s x1 x5 z7)

theorem f38_l0_exit0(k:Nat)(x1:Int)(z7:(List Int)):((blkK 0 (seqK (execK (f38_cx k) (callK (f38_cx k) 8) 0 38 (sub f38_c [1,1])) (finIK (f38_cx k) f38_i (.arr 5 (.int .u8)) laws_markByteS_sh))) (.exit 0) (f38_l0_o0 x1 z7):Option ((List Int)×shDen laws_markByteS_sh))=
 ((some (z7,x1)):Option ((List Int)×shDen laws_markByteS_sh)):=by kernel_rfl

theorem f38_l0_round(k:Nat)(K:Ex→St→Option ((List Int)×shDen laws_markByteS_sh))(n:Nat)(x1:Int)(x5:Int)(z7:(List Int)):(f38_l0_p k K (n+1) x1 x5 z7:Option ((List Int)×shDen laws_markByteS_sh))=laws_markByteS_l0_b ((fun x1 x5 z7=>f38_l0_p k K n x1 x5 z7)) (fun x1 z7=>K (.exit 0) (f38_l0_o0 x1 z7)) x1 x5 z7:=by kernel_rfl

theorem f38_l0_L_eq(K:Ex→St→Option ((List Int)×shDen laws_markByteS_sh)):∀(n:Nat) (x1:Int) (x5:Int) (z7:(List Int)),(f38_l0_p FUEL K n x1 x5 z7:Option ((List Int)×shDen laws_markByteS_sh))=laws_markByteS_l0_L (fun x1 z7=>K (.exit 0) (f38_l0_o0 x1 z7)) n x1 x5 z7:=by
 intro n
 induction n with
 |zero=>intros; rfl
 |succ n ih=>
  intro x1 x5 z7
  exact(f38_l0_round FUEL K n x1 x5 z7).trans (congrArg (fun f=>laws_markByteS_l0_b f (fun x1 z7=>K (.exit 0) (f38_l0_o0 x1 z7)) x1 x5 z7) (funext fun x1=>funext fun x5=>funext fun z7=>ih x1 x5 z7))

theorem f38_start(k:Nat)(a0:(List Int))(a1:Int):fnIK (f38_cx k) 8 38 f38_i (.arr 5 (.int .u8)) laws_markByteS_sh a0 [.pv (.int .i64) a1]=
 ((loopK (f38_cx k) 0 (execK (f38_cx k) (callK (f38_cx k) 8) 0 38 (sub f38_c [1,0,1,0,0])) f38_l0_cut (blkK 0 (seqK (execK (f38_cx k) (callK (f38_cx k) 8) 0 38 (sub f38_c [1,1])) (finIK (f38_cx k) f38_i (.arr 5 (.int .u8)) laws_markByteS_sh))) k (f38_l0_s a1 (0:Int) a0)):Option ((List Int)×shDen laws_markByteS_sh)):=by kernel_rfl

theorem f38_run(a0:(List Int))(a1:Int):fnIK (f38_cx FUEL) 8 38 f38_i (.arr 5 (.int .u8)) laws_markByteS_sh a0 [.pv (.int .i64) a1]=laws_markByteS_r a0 a1:=
 (f38_start FUEL a0 a1).trans ((f38_l0_L_eq _ FUEL a1 (0:Int) a0).trans (congrArg (fun e0=>laws_markByteS_l0_L e0 FUEL a1 (0:Int) a0) (funext fun x1=>funext fun z7=>(f38_l0_exit0 FUEL x1 z7).trans (rfl))))

def f38_inp:ConI:={k:=(.arr 5 (.int .u8)),ps:=K14,sh:=laws_markByteS_sh,raw:=fun x q=>laws_markByteS_r x q.1}
theorem f38_inpOk:InpOk Tryz.prog 38 f38_inp:=inp_of_fn (f38_tabs FUEL) (depth:=8) f38_ok fun x q z h=>(f38_run x q.1).trans h

def f17_d_l0_cut:Cut:={keep:=[0,1,5],stk:=[],ids:=[7],own:=[],outs:=[(1,[1],[7])]}
def f17_d_cx(k:Nat):Cx:=mkC [] [] [] [(38,f38_inp)] [(17,[(0,f17_d_l0_cut)])] k dps false
theorem f17_d_tabs(k:Nat):TabsOk Tryz.prog (f17_d_cx k):=mkC_ok trivial trivial ⟨f38_inpOk,trivial⟩ trivial
abbrev laws_markBlobS_d_sh:List Sh:=[.pl (.int .i64)]
def f17_d_l0_s(x1:Int)(x5:Int)(z7:T3):St:={env:=(.inn 7 [] K8:: .pv (.int .i64) x1::(dd 3 (.pv (.int .i64) x5::(dd 22 [])))),stk:=[],heap:=[(7,.tre 72 (.pr (.pl (.int .u8)) (.pr (.sl 5 (.pl (.int .u8))) (.pl .unit))) z7)]}
def f17_d_l0_o0(x1:Int)(z7:T3):St:={env:=(.dead:: .pv (.int .i64) x1::(dd 26 [])),stk:=[],heap:=[(7,.tre 72 (.pr (.pl (.int .u8)) (.pr (.sl 5 (.pl (.int .u8))) (.pl .unit))) z7)]}
def laws_markBlobS_d_l0_b(rec:Int→Int→T3→Option (T3×shDen laws_markBlobS_d_sh))(ke0:Int→T3→Option (T3×shDen laws_markBlobS_d_sh))(x1:Int)(x5:Int)(z7:T3):Option (T3×shDen laws_markBlobS_d_sh):=
 (cond (decide (x5<(z7.length:Int)))
 (cond ((decide ((0:Int)≤x5))&&(decide (x5<(z7.length:Int))))
 (cond ((decide ((0:Int)≤x5))&&(decide (x5<((z7.set (x5.toNat) ((IntKind.wrap .u8 x1),(z7.getD (x5.toNat) ((0:Int),([],()))).2)).length:Int))))
 (cond (decide ((x5.toNat)<List.length (z7.set (x5.toNat) ((IntKind.wrap .u8 x1),(z7.getD (x5.toNat) ((0:Int),([],()))).2)))&&true) (bindO (laws_markByteS_r ((((z7.set (x5.toNat) ((IntKind.wrap .u8 x1),(z7.getD (x5.toNat) ((0:Int),([],()))).2)).getD (x5.toNat) ((0:Int),([],()))).2).1) (IntKind.wrap .i64 (x1+(1:Int)))) fun(b2:((List Int)×Int))=>(rec b2.2 (IntKind.wrap .i64 (x5+(1:Int))) ((z7.set (x5.toNat) ((IntKind.wrap .u8 x1),(z7.getD (x5.toNat) ((0:Int),([],()))).2)).set (x5.toNat) (((z7.set (x5.toNat) ((IntKind.wrap .u8 x1),(z7.getD (x5.toNat) ((0:Int),([],()))).2)).getD (x5.toNat) ((0:Int),([],()))).1,(b2.1,(((z7.set (x5.toNat) ((IntKind.wrap .u8 x1),(z7.getD (x5.toNat) ((0:Int),([],()))).2)).getD (x5.toNat) ((0:Int),([],()))).2).2))))) none)
 none)
 none)
 (ke0 x1 z7))
def laws_markBlobS_d_l0_L(ke0:Int→T3→Option (T3×shDen laws_markBlobS_d_sh)):Nat→Int→Int→T3→Option (T3×shDen laws_markBlobS_d_sh)
 |0=>fun _ _ _=>none
 |n+1=>laws_markBlobS_d_l0_b (laws_markBlobS_d_l0_L ke0 n) ke0
def laws_markBlobS_d_r(a0:T3)(a1:Int):Option (T3×shDen laws_markBlobS_d_sh):=
 (laws_markBlobS_d_l0_L (fun x1 z7=>(some (z7,x1))) FUEL a1 (0:Int) a0)
def f17_d_l0_p(k:Nat)(K:Ex→St→Option (T3×shDen laws_markBlobS_d_sh))(n:Nat)(x1:Int)(x5:Int)(z7:T3):Option (T3×shDen laws_markBlobS_d_sh):=loopK (f17_d_cx k) 0 (execK (f17_d_cx k) (callK (f17_d_cx k) 8) 0 17 (sub f17_c [1,0,1,0,0])) f17_d_l0_cut K n (f17_d_l0_s x1 x5 z7)

theorem f17_d_l0_exit0(k:Nat)(x1:Int)(z7:T3):((blkK 0 (seqK (execK (f17_d_cx k) (callK (f17_d_cx k) 8) 0 17 (sub f17_c [1,1])) (finIK (f17_d_cx k) f17_i (.tre 72 (.pr (.pl (.int .u8)) (.pr (.sl 5 (.pl (.int .u8))) (.pl .unit)))) laws_markBlobS_d_sh))) (.exit 0) (f17_d_l0_o0 x1 z7):Option (T3×shDen laws_markBlobS_d_sh))=
 ((some (z7,x1)):Option (T3×shDen laws_markBlobS_d_sh)):=by kernel_rfl

theorem f17_d_l0_round(k:Nat)(K:Ex→St→Option (T3×shDen laws_markBlobS_d_sh))(n:Nat)(x1:Int)(x5:Int)(z7:T3):(f17_d_l0_p k K (n+1) x1 x5 z7:Option (T3×shDen laws_markBlobS_d_sh))=laws_markBlobS_d_l0_b ((fun x1 x5 z7=>f17_d_l0_p k K n x1 x5 z7)) (fun x1 z7=>K (.exit 0) (f17_d_l0_o0 x1 z7)) x1 x5 z7:=by kernel_rfl

theorem f17_d_l0_L_eq(K:Ex→St→Option (T3×shDen laws_markBlobS_d_sh)):∀(n:Nat) (x1:Int) (x5:Int) (z7:T3),(f17_d_l0_p FUEL K n x1 x5 z7:Option (T3×shDen laws_markBlobS_d_sh))=laws_markBlobS_d_l0_L (fun x1 z7=>K (.exit 0) (f17_d_l0_o0 x1 z7)) n x1 x5 z7:=by
 intro n
 induction n with
 |zero=>intros; rfl
 |succ n ih=>
  intro x1 x5 z7
  exact(f17_d_l0_round FUEL K n x1 x5 z7).trans (congrArg (fun f=>laws_markBlobS_d_l0_b f (fun x1 z7=>K (.exit 0) (f17_d_l0_o0 x1 z7)) x1 x5 z7) (funext fun x1=>funext fun x5=>funext fun z7=>ih x1 x5 z7))

theorem f17_d_start(k:Nat)(a0:T3)(a1:Int):fnIK (f17_d_cx k) 8 17 f17_i (.tre 72 (.pr (.pl (.int .u8)) (.pr (.sl 5 (.pl (.int .u8))) (.pl .unit)))) laws_markBlobS_d_sh a0 [.pv (.int .i64) a1]=
 ((loopK (f17_d_cx k) 0 (execK (f17_d_cx k) (callK (f17_d_cx k) 8) 0 17 (sub f17_c [1,0,1,0,0])) f17_d_l0_cut (blkK 0 (seqK (execK (f17_d_cx k) (callK (f17_d_cx k) 8) 0 17 (sub f17_c [1,1])) (finIK (f17_d_cx k) f17_i (.tre 72 (.pr (.pl (.int .u8)) (.pr (.sl 5 (.pl (.int .u8))) (.pl .unit)))) laws_markBlobS_d_sh))) k (f17_d_l0_s a1 (0:Int) a0)):Option (T3×shDen laws_markBlobS_d_sh)):=by kernel_rfl

theorem f17_d_run(a0:T3)(a1:Int):fnIK (f17_d_cx FUEL) 8 17 f17_i (.tre 72 (.pr (.pl (.int .u8)) (.pr (.sl 5 (.pl (.int .u8))) (.pl .unit)))) laws_markBlobS_d_sh a0 [.pv (.int .i64) a1]=laws_markBlobS_d_r a0 a1:=
 (f17_d_start FUEL a0 a1).trans ((f17_d_l0_L_eq _ FUEL a1 (0:Int) a0).trans (congrArg (fun e0=>laws_markBlobS_d_l0_L e0 FUEL a1 (0:Int) a0) (funext fun x1=>funext fun z7=>(f17_d_l0_exit0 FUEL x1 z7).trans (rfl))))

def f17_d_inp:ConI:={k:=(.tre 72 (.pr (.pl (.int .u8)) (.pr (.sl 5 (.pl (.int .u8))) (.pl .unit)))),ps:=K14,sh:=laws_markBlobS_d_sh,raw:=fun x q=>laws_markBlobS_d_r x q.1}
theorem f17_d_inpOk:InpOk Tryz.prog 17 f17_d_inp:=inp_of_fn (f17_d_tabs FUEL) (depth:=8) f17_ok fun x q z h=>(f17_d_run x q.1).trans h

def f16_l0_cut:Cut:={keep:=[0,1,5],stk:=[],ids:=[7],own:=[],outs:=[(1,[1],[7])]}
def f16_l1_cut:Cut:={keep:=[0,1,5,6],stk:=[],ids:=[7],own:=[],outs:=[(3,[0,1,5],[7])]}
def f16_cx(k:Nat):Cx:=mkC [] [] [] [] [(16,[(0,f16_l0_cut),(2,f16_l1_cut)])] k [] false
theorem f16_tabs(k:Nat):TabsOk Tryz.prog (f16_cx k):=mkC_ok trivial trivial trivial trivial
abbrev laws_markKeyS_sh:List Sh:=[.pl (.int .i64)]
def f16_l0_s(x1:Int)(x5:Int)(z7:T7):St:={env:=(.sl 7 (.arr 32 (.int .u8)):: .pv (.int .i64) x1::(dd 3 (.pv (.int .i64) x5::(dd 21 [])))),stk:=[],heap:=[(7,.arr 45 (.arr 32 (.int .u8)) z7)]}
def f16_l0_o0(x1:Int)(z7:T7):St:={env:=(.dead:: .pv (.int .i64) x1::(dd 25 [])),stk:=[],heap:=[(7,.arr 45 (.arr 32 (.int .u8)) z7)]}
def f16_l1_s(x5:Int)(x1:Int)(x6:Int)(z7:T7):St:={env:=(.sl 7 (.arr 32 (.int .u8)):: .pv (.int .i64) x1::(dd 3 (.pv (.int .i64) x5:: .pv (.int .i64) x6::(dd 20 [])))),stk:=[],heap:=[(7,.arr 45 (.arr 32 (.int .u8)) z7)]}
def f16_l1_o2(x5:Int)(x1:Int)(z7:T7):St:={env:=(.sl 7 (.arr 32 (.int .u8)):: .pv (.int .i64) x1::(dd 3 (.pv (.int .i64) x5::(dd 21 [])))),stk:=[],heap:=[(7,.arr 45 (.arr 32 (.int .u8)) z7)]}
def laws_markKeyS_l1_b(rec:Int→Int→T7→Option (T7×shDen laws_markKeyS_sh))(ke2:Int→T7→Option (T7×shDen laws_markKeyS_sh))(x5:Int)(x1:Int)(x6:Int)(z7:T7):Option (T7×shDen laws_markKeyS_sh):=
 (cond (decide (x6<(32:Int)))
 (cond ((decide ((0:Int)≤x5))&&(decide (x5<(z7.length:Int))))
 (cond ((decide ((0:Int)≤x6))&&(decide (x6<(32:Int))))
 (rec (IntKind.wrap .i64 (x1+(1:Int))) (IntKind.wrap .i64 (x6+(1:Int))) (z7.set (x5.toNat) ((z7.getD (x5.toNat) (List.replicate 32 (0:Int))).set (x6.toNat) (IntKind.wrap .u8 x1))))
 none)
 none)
 (ke2 x1 z7))
def laws_markKeyS_l1_L(ke2:Int→T7→Option (T7×shDen laws_markKeyS_sh))(x5:Int):Nat→Int→Int→T7→Option (T7×shDen laws_markKeyS_sh)
 |0=>fun _ _ _=>none
 |n+1=>laws_markKeyS_l1_b (laws_markKeyS_l1_L ke2 x5 n) ke2 x5
def laws_markKeyS_l0_b(rec:Int→Int→T7→Option (T7×shDen laws_markKeyS_sh))(ke0:Int→T7→Option (T7×shDen laws_markKeyS_sh))(x1:Int)(x5:Int)(z7:T7):Option (T7×shDen laws_markKeyS_sh):=
 (cond (decide (x5<(z7.length:Int)))
 (laws_markKeyS_l1_L (fun x1 z7=>(rec x1 (IntKind.wrap .i64 (x5+(1:Int))) z7)) x5 FUEL x1 (0:Int) z7)
 (ke0 x1 z7))
def laws_markKeyS_l0_L(ke0:Int→T7→Option (T7×shDen laws_markKeyS_sh)):Nat→Int→Int→T7→Option (T7×shDen laws_markKeyS_sh)
 |0=>fun _ _ _=>none
 |n+1=>laws_markKeyS_l0_b (laws_markKeyS_l0_L ke0 n) ke0
def laws_markKeyS_r(a0:T7)(a1:Int):Option (T7×shDen laws_markKeyS_sh):=
 (laws_markKeyS_l0_L (fun x1 z7=>(some (z7,x1))) FUEL a1 (0:Int) a0)
def f16_l1_p(k:Nat)(K:Ex→St→Option (T7×shDen laws_markKeyS_sh))(n:Nat)(x5:Int)(x1:Int)(x6:Int)(z7:T7):Option (T7×shDen laws_markKeyS_sh):=loopK (f16_cx k) 0 (execK (f16_cx k) (callK (f16_cx k) 8) 0 16 (sub f16_c [1,0,1,0,0,1,0,0,1,0,0])) f16_l1_cut K n (f16_l1_s x5 x1 x6 z7)

theorem f16_l1_exit2(k:Nat)(K:Ex→St→Option (T7×shDen laws_markKeyS_sh))(n:Nat)(x5:Int)(x1:Int)(z7:T7):((blkK 2 (blkK 1 (seqK (execK (f16_cx k) (callK (f16_cx k) 8) 0 16 (sub f16_c [1,0,1,0,0,1,1])) (iterK (f16_cx k) 0 f16_l0_cut (loopK (f16_cx k) 0 (execK (f16_cx k) (callK (f16_cx k) 8) 0 16 (sub f16_c [1,0,1,0,0])) f16_l0_cut K n) K)))) (.exit 2) (f16_l1_o2 x5 x1 z7):Option (T7×shDen laws_markKeyS_sh))=
 ((loopK (f16_cx k) 0 (execK (f16_cx k) (callK (f16_cx k) 8) 0 16 (sub f16_c [1,0,1,0,0])) f16_l0_cut K n (f16_l0_s x1 (IntKind.wrap .i64 (x5+(1:Int))) z7)):Option (T7×shDen laws_markKeyS_sh)):=by kernel_rfl

theorem f16_l1_round(k:Nat)(K:Ex→St→Option (T7×shDen laws_markKeyS_sh))(n:Nat)(x5:Int)(x1:Int)(x6:Int)(z7:T7):(f16_l1_p k K (n+1) x5 x1 x6 z7:Option (T7×shDen laws_markKeyS_sh))=laws_markKeyS_l1_b ((fun x1 x6 z7=>f16_l1_p k K n x5 x1 x6 z7)) (fun x1 z7=>K (.exit 2) (f16_l1_o2 x5 x1 z7)) x5 x1 x6 z7:=by kernel_rfl

theorem f16_l1_L_eq(K:Ex→St→Option (T7×shDen laws_markKeyS_sh))(x5:Int):∀(n:Nat) (x1:Int) (x6:Int) (z7:T7),(f16_l1_p FUEL K n x5 x1 x6 z7:Option (T7×shDen laws_markKeyS_sh))=laws_markKeyS_l1_L (fun x1 z7=>K (.exit 2) (f16_l1_o2 x5 x1 z7)) x5 n x1 x6 z7:=by
 intro n
 induction n with
 |zero=>intros; rfl
 |succ n ih=>
  intro x1 x6 z7
  exact(f16_l1_round FUEL K n x5 x1 x6 z7).trans (congrArg (fun f=>laws_markKeyS_l1_b f (fun x1 z7=>K (.exit 2) (f16_l1_o2 x5 x1 z7)) x5 x1 x6 z7) (funext fun x1=>funext fun x6=>funext fun z7=>ih x1 x6 z7))

def f16_l0_p(k:Nat)(K:Ex→St→Option (T7×shDen laws_markKeyS_sh))(n:Nat)(x1:Int)(x5:Int)(z7:T7):Option (T7×shDen laws_markKeyS_sh):=loopK (f16_cx k) 0 (execK (f16_cx k) (callK (f16_cx k) 8) 0 16 (sub f16_c [1,0,1,0,0])) f16_l0_cut K n (f16_l0_s x1 x5 z7)

theorem f16_l0_round(k:Nat)(K:Ex→St→Option (T7×shDen laws_markKeyS_sh))(n:Nat)(x1:Int)(x5:Int)(z7:T7):(f16_l0_p k K (n+1) x1 x5 z7:Option (T7×shDen laws_markKeyS_sh))=
 ((cond (decide (x5<(z7.length:Int)))
 (loopK (f16_cx k) 0 (execK (f16_cx k) (callK (f16_cx k) 8) 0 16 (sub f16_c [1,0,1,0,0,1,0,0,1,0,0])) f16_l1_cut (blkK 2 (blkK 1 (seqK (execK (f16_cx k) (callK (f16_cx k) 8) 0 16 (sub f16_c [1,0,1,0,0,1,1])) (iterK (f16_cx k) 0 f16_l0_cut (loopK (f16_cx k) 0 (execK (f16_cx k) (callK (f16_cx k) 8) 0 16 (sub f16_c [1,0,1,0,0])) f16_l0_cut K n) K)))) k (f16_l1_s x5 x1 (0:Int) z7))
 (K (.exit 0) (f16_l0_o0 x1 z7))):Option (T7×shDen laws_markKeyS_sh)):=by kernel_rfl

theorem f16_l0_exit0(k:Nat)(x1:Int)(z7:T7):((blkK 0 (seqK (execK (f16_cx k) (callK (f16_cx k) 8) 0 16 (sub f16_c [1,1])) (finIK (f16_cx k) f16_i (.arr 45 (.arr 32 (.int .u8))) laws_markKeyS_sh))) (.exit 0) (f16_l0_o0 x1 z7):Option (T7×shDen laws_markKeyS_sh))=
 ((some (z7,x1)):Option (T7×shDen laws_markKeyS_sh)):=by kernel_rfl

theorem f16_l0_L_eq(K:Ex→St→Option (T7×shDen laws_markKeyS_sh)):∀(n:Nat) (x1:Int) (x5:Int) (z7:T7),(f16_l0_p FUEL K n x1 x5 z7:Option (T7×shDen laws_markKeyS_sh))=laws_markKeyS_l0_L (fun x1 z7=>K (.exit 0) (f16_l0_o0 x1 z7)) n x1 x5 z7:=by
 intro n
 induction n with
 |zero=>intros; rfl
 |succ n ih=>
  intro x1 x5 z7
  exact(f16_l0_round FUEL K n x1 x5 z7).trans (condC ((f16_l1_L_eq _ x5 FUEL x1 (0:Int) z7).trans (congrArg (fun e0=>laws_markKeyS_l1_L e0 x5 FUEL x1 (0:Int) z7) (funext fun x1=>funext fun z7=>(f16_l1_exit2 FUEL K n x5 x1 z7).trans (ih x1 (IntKind.wrap .i64 (x5+(1:Int))) z7)))) (rfl))

theorem f16_start(k:Nat)(a0:T7)(a1:Int):fnIK (f16_cx k) 8 16 f16_i (.arr 45 (.arr 32 (.int .u8))) laws_markKeyS_sh a0 [.pv (.int .i64) a1]=
 ((loopK (f16_cx k) 0 (execK (f16_cx k) (callK (f16_cx k) 8) 0 16 (sub f16_c [1,0,1,0,0])) f16_l0_cut (blkK 0 (seqK (execK (f16_cx k) (callK (f16_cx k) 8) 0 16 (sub f16_c [1,1])) (finIK (f16_cx k) f16_i (.arr 45 (.arr 32 (.int .u8))) laws_markKeyS_sh))) k (f16_l0_s a1 (0:Int) a0)):Option (T7×shDen laws_markKeyS_sh)):=by kernel_rfl

theorem f16_run(a0:T7)(a1:Int):fnIK (f16_cx FUEL) 8 16 f16_i (.arr 45 (.arr 32 (.int .u8))) laws_markKeyS_sh a0 [.pv (.int .i64) a1]=laws_markKeyS_r a0 a1:=
 (f16_start FUEL a0 a1).trans ((f16_l0_L_eq _ FUEL a1 (0:Int) a0).trans (congrArg (fun e0=>laws_markKeyS_l0_L e0 FUEL a1 (0:Int) a0) (funext fun x1=>funext fun z7=>(f16_l0_exit0 FUEL x1 z7).trans (rfl))))

def f16_inp:ConI:={k:=(.arr 45 (.arr 32 (.int .u8))),ps:=K14,sh:=laws_markKeyS_sh,raw:=fun x q=>laws_markKeyS_r x q.1}
theorem f16_inpOk:InpOk Tryz.prog 16 f16_inp:=inp_of_fn (f16_tabs FUEL) (depth:=8) f16_ok fun x q z h=>(f16_run x q.1).trans h

def f39_l0_cut:Cut:={keep:=[0,1,5],stk:=[],ids:=[],own:=[],outs:=[(0,[4],[]),(1,[1],[])]}
def f39_cx(k:Nat):Cx:=mkC [] [] [] [] [(39,[(0,f39_l0_cut)])] k [] false
theorem f39_tabs(k:Nat):TabsOk Tryz.prog (f39_cx k):=mkC_ok trivial trivial trivial trivial
abbrev laws_heldByteS_sh:List Sh:=[.pl (.int .i64)]
abbrev Q34:Type:=Option (shDen laws_heldByteS_sh)
def f39_l0_s(a0:(List Int))(x1:Int)(x5:Int):St:={env:=(.pv K16 a0:: .pv (.int .i64) x1::(dd 3 (.pv (.int .i64) x5::(dd 16 [])))),stk:=[],heap:=[]}
def f39_l0_o:St:={env:=(dd 4 (.pv (.int .i64) (-1:Int)::(dd 17 []))),stk:=[],heap:=[]}
def f39_l0_o0(x1:Int):St:={env:=(.dead:: .pv (.int .i64) x1::(dd 20 [])),stk:=[],heap:=[]}
def laws_heldByteS_l0_b(rec:Int→Int→Q34)(kr:Q34)(ke0:Int→Q34)(a0:(List Int))(x1:Int)(x5:Int):Q34:=
 (cond (decide (x5<(a0.length:Int)))
 (cond ((decide ((0:Int)≤x5))&&(decide (x5<(a0.length:Int))))
 (cond (!(decide ((a0.getD (x5.toNat) (0:Int))=(IntKind.wrap .u8 x1))))
 (kr)
 (rec (IntKind.wrap .i64 (x1+(1:Int))) (IntKind.wrap .i64 (x5+(1:Int)))))
 none)
 (ke0 x1))
def laws_heldByteS_l0_L(kr:Q34)(ke0:Int→Q34)(a0:(List Int)):Nat→Int→Int→Q34
 |0=>fun _ _=>none
 |n+1=>laws_heldByteS_l0_b (laws_heldByteS_l0_L kr ke0 a0 n) kr ke0 a0
def laws_heldByteS_r(a0:(List Int))(a1:Int):Q34:=
 (laws_heldByteS_l0_L (some (-1:Int)) (fun x1=>(some x1)) a0 FUEL a1 (0:Int))
def f39_l0_p(k:Nat)(K:Ex→St→Q34)(n:Nat)(a0:(List Int))(x1:Int)(x5:Int):Q34:=loopK (f39_cx k) 0 (execK (f39_cx k) (callK (f39_cx k) 8) 0 39 (sub f39_c [1,0,1,0,0])) f39_l0_cut K n (f39_l0_s a0 x1 x5)

theorem f39_l0_ret(k:Nat):((blkK 0 (seqK (execK (f39_cx k) (callK (f39_cx k) 8) 0 39 (sub f39_c [1,1])) (finK (f39_cx k) f39_i laws_heldByteS_sh))) .ret (f39_l0_o):Q34)=
 ((some (-1:Int)):Q34):=by kernel_rfl

theorem f39_l0_exit0(k:Nat)(x1:Int):((blkK 0 (seqK (execK (f39_cx k) (callK (f39_cx k) 8) 0 39 (sub f39_c [1,1])) (finK (f39_cx k) f39_i laws_heldByteS_sh))) (.exit 0) (f39_l0_o0 x1):Q34)=
 ((some x1):Q34):=by kernel_rfl

theorem f39_l0_round(k:Nat)(K:Ex→St→Q34)(n:Nat)(a0:(List Int))(x1:Int)(x5:Int):(f39_l0_p k K (n+1) a0 x1 x5:Q34)=laws_heldByteS_l0_b ((fun x1 x5=>f39_l0_p k K n a0 x1 x5)) (K .ret (f39_l0_o)) (fun x1=>K (.exit 0) (f39_l0_o0 x1)) a0 x1 x5:=by kernel_rfl

theorem f39_l0_L_eq(K:Ex→St→Q34)(a0:(List Int)):∀(n:Nat) (x1:Int) (x5:Int),(f39_l0_p FUEL K n a0 x1 x5:Q34)=laws_heldByteS_l0_L (K .ret (f39_l0_o)) (fun x1=>K (.exit 0) (f39_l0_o0 x1)) a0 n x1 x5:=by
 intro n
 induction n with
 |zero=>intros; rfl
 |succ n ih=>
  intro x1 x5
  exact(f39_l0_round FUEL K n a0 x1 x5).trans (congrArg (fun f=>laws_heldByteS_l0_b f (K .ret (f39_l0_o)) (fun x1=>K (.exit 0) (f39_l0_o0 x1)) a0 x1 x5) (funext fun x1=>funext fun x5=>ih x1 x5))

theorem f39_start(k:Nat)(a0:(List Int))(a1:Int):fnK (f39_cx k) 8 39 f39_i laws_heldByteS_sh [.pv K16 a0,.pv (.int .i64) a1]=
 ((loopK (f39_cx k) 0 (execK (f39_cx k) (callK (f39_cx k) 8) 0 39 (sub f39_c [1,0,1,0,0])) f39_l0_cut (blkK 0 (seqK (execK (f39_cx k) (callK (f39_cx k) 8) 0 39 (sub f39_c [1,1])) (finK (f39_cx k) f39_i laws_heldByteS_sh))) k (f39_l0_s a0 a1 (0:Int))):Q34):=by kernel_rfl

theorem f39_run(a0:(List Int))(a1:Int):fnK (f39_cx FUEL) 8 39 f39_i laws_heldByteS_sh [.pv K16 a0,.pv (.int .i64) a1]=laws_heldByteS_r a0 a1:=
 (f39_start FUEL a0 a1).trans ((f39_l0_L_eq _ a0 FUEL a1 (0:Int)).trans (cong2 (fun e0 e1=>laws_heldByteS_l0_L e0 e1 a0 FUEL a1 (0:Int)) ((f39_l0_ret FUEL).trans (rfl)) (funext fun x1=>(f39_l0_exit0 FUEL x1).trans (rfl))))

def f39_con:Con:={ps:=K7,sh:=laws_heldByteS_sh,raw:=fun x=>laws_heldByteS_r x.1 x.2.1}
theorem f39_conOk:ConOk Tryz.prog 39 f39_con:=con_of_fn (f39_tabs FUEL) (depth:=8) f39_ok fun x y h=>(f39_run x.1 x.2.1).trans h

def f18_l0_cut:Cut:={keep:=[0,1,5],stk:=[],ids:=[],own:=[],outs:=[(0,[4],[]),(1,[1],[])]}
def f18_cx(k:Nat):Cx:=mkC [] [(39,f39_con)] [] [] [(18,[(0,f18_l0_cut)])] k [] false
theorem f18_tabs(k:Nat):TabsOk Tryz.prog (f18_cx k):=mkC_ok ⟨f39_conOk,trivial⟩ trivial trivial trivial
abbrev laws_heldBlobS_sh:List Sh:=[.pl (.int .i64)]
abbrev Q33:Type:=Option (shDen laws_heldBlobS_sh)
def f18_l0_s(a0:T3)(x1:Int)(x5:Int):St:={env:=(.pv K5 a0:: .pv (.int .i64) x1::(dd 3 (.pv (.int .i64) x5::(dd 26 [])))),stk:=[],heap:=[]}
def f18_l0_o:St:={env:=(dd 4 (.pv (.int .i64) (-1:Int)::(dd 27 []))),stk:=[],heap:=[]}
def f18_l0_o0(x1:Int):St:={env:=(.dead:: .pv (.int .i64) x1::(dd 30 [])),stk:=[],heap:=[]}
def laws_heldBlobS_l0_b(rec:Int→Int→Q33)(kr:Q33)(ke0:Int→Q33)(a0:T3)(x1:Int)(x5:Int):Q33:=
 (cond (decide (x5<(a0.length:Int)))
 (cond ((decide ((0:Int)≤x5))&&(decide (x5<(a0.length:Int))))
 (cond (!(decide ((a0.getD (x5.toNat) ((0:Int),([],()))).1=(IntKind.wrap .u8 x1))))
 (kr)
 (cond ((decide ((0:Int)≤x5))&&(decide (x5<(a0.length:Int))))
 (bindO (laws_heldByteS_r (((a0.getD (x5.toNat) ((0:Int),([],()))).2).1) (IntKind.wrap .i64 (x1+(1:Int)))) fun(b2:Int)=>(cond (decide (b2<(0:Int)))
 (kr)
 (rec b2 (IntKind.wrap .i64 (x5+(1:Int))))))
 none))
 none)
 (ke0 x1))
def laws_heldBlobS_l0_L(kr:Q33)(ke0:Int→Q33)(a0:T3):Nat→Int→Int→Q33
 |0=>fun _ _=>none
 |n+1=>laws_heldBlobS_l0_b (laws_heldBlobS_l0_L kr ke0 a0 n) kr ke0 a0
def laws_heldBlobS_r(a0:T3)(a1:Int):Q33:=
 (laws_heldBlobS_l0_L (some (-1:Int)) (fun x1=>(some x1)) a0 FUEL a1 (0:Int))
def f18_l0_p(k:Nat)(K:Ex→St→Q33)(n:Nat)(a0:T3)(x1:Int)(x5:Int):Q33:=loopK (f18_cx k) 0 (execK (f18_cx k) (callK (f18_cx k) 8) 0 18 (sub f18_c [1,0,1,0,0])) f18_l0_cut K n (f18_l0_s a0 x1 x5)

theorem f18_l0_ret(k:Nat):((blkK 0 (seqK (execK (f18_cx k) (callK (f18_cx k) 8) 0 18 (sub f18_c [1,1])) (finK (f18_cx k) f18_i laws_heldBlobS_sh))) .ret (f18_l0_o):Q33)=
 ((some (-1:Int)):Q33):=by kernel_rfl

theorem f18_l0_exit0(k:Nat)(x1:Int):((blkK 0 (seqK (execK (f18_cx k) (callK (f18_cx k) 8) 0 18 (sub f18_c [1,1])) (finK (f18_cx k) f18_i laws_heldBlobS_sh))) (.exit 0) (f18_l0_o0 x1):Q33)=
 ((some x1):Q33):=by kernel_rfl

theorem f18_l0_round(k:Nat)(K:Ex→St→Q33)(n:Nat)(a0:T3)(x1:Int)(x5:Int):(f18_l0_p k K (n+1) a0 x1 x5:Q33)=laws_heldBlobS_l0_b ((fun x1 x5=>f18_l0_p k K n a0 x1 x5)) (K .ret (f18_l0_o)) (fun x1=>K (.exit 0) (f18_l0_o0 x1)) a0 x1 x5:=by kernel_rfl

theorem f18_l0_L_eq(K:Ex→St→Q33)(a0:T3):∀(n:Nat) (x1:Int) (x5:Int),(f18_l0_p FUEL K n a0 x1 x5:Q33)=laws_heldBlobS_l0_L (K .ret (f18_l0_o)) (fun x1=>K (.exit 0) (f18_l0_o0 x1)) a0 n x1 x5:=by
 intro n
 induction n with
 |zero=>intros; rfl
 |succ n ih=>
  intro x1 x5
  exact(f18_l0_round FUEL K n a0 x1 x5).trans (congrArg (fun f=>laws_heldBlobS_l0_b f (K .ret (f18_l0_o)) (fun x1=>K (.exit 0) (f18_l0_o0 x1)) a0 x1 x5) (funext fun x1=>funext fun x5=>ih x1 x5))

theorem f18_start(k:Nat)(a0:T3)(a1:Int):fnK (f18_cx k) 8 18 f18_i laws_heldBlobS_sh [.pv K5 a0,.pv (.int .i64) a1]=
 ((loopK (f18_cx k) 0 (execK (f18_cx k) (callK (f18_cx k) 8) 0 18 (sub f18_c [1,0,1,0,0])) f18_l0_cut (blkK 0 (seqK (execK (f18_cx k) (callK (f18_cx k) 8) 0 18 (sub f18_c [1,1])) (finK (f18_cx k) f18_i laws_heldBlobS_sh))) k (f18_l0_s a0 a1 (0:Int))):Q33):=by kernel_rfl

theorem f18_run(a0:T3)(a1:Int):fnK (f18_cx FUEL) 8 18 f18_i laws_heldBlobS_sh [.pv K5 a0,.pv (.int .i64) a1]=laws_heldBlobS_r a0 a1:=
 (f18_start FUEL a0 a1).trans ((f18_l0_L_eq _ a0 FUEL a1 (0:Int)).trans (cong2 (fun e0 e1=>laws_heldBlobS_l0_L e0 e1 a0 FUEL a1 (0:Int)) ((f18_l0_ret FUEL).trans (rfl)) (funext fun x1=>(f18_l0_exit0 FUEL x1).trans (rfl))))

def f18_con:Con:={ps:=(.pair K5 K14),sh:=laws_heldBlobS_sh,raw:=fun x=>laws_heldBlobS_r x.1 x.2.1}
theorem f18_conOk:ConOk Tryz.prog 18 f18_con:=con_of_fn (f18_tabs FUEL) (depth:=8) f18_ok fun x y h=>(f18_run x.1 x.2.1).trans h

def f30_cx(k:Nat):Cx:=mkC [] [(18,f18_con)] [] [] [] k [] false
theorem f30_tabs(k:Nat):TabsOk Tryz.prog (f30_cx k):=mkC_ok ⟨f18_conOk,trivial⟩ trivial trivial trivial
abbrev laws_heldStore_sh:List Sh:=[.pl (.int .i64)]
abbrev Q35:Type:=Option (shDen laws_heldStore_sh)
def laws_heldStore_r(a0:T2)(a1:Int):Q35:=
 (bindO (laws_heldBlobS_r a0.1 a1) fun(b1:Int)=>(cond (decide (b1<(0:Int)))
 (some (-1:Int))
 (some b1)))
theorem f30_run(a0:T2)(a1:Int):fnK (f30_cx FUEL) 8 30 f30_i laws_heldStore_sh [.pv K3 a0,.pv (.int .i64) a1]=laws_heldStore_r a0 a1:=by kernel_rfl

def f30_con:Con:={ps:=(.pair K3 K14),sh:=laws_heldStore_sh,raw:=fun x=>laws_heldStore_r x.1 x.2.1}
theorem f30_conOk:ConOk Tryz.prog 30 f30_con:=con_of_fn (f30_tabs FUEL) (depth:=8) f30_ok fun x y h=>(f30_run x.1 x.2.1).trans h

def laws_FnExactTakeBlobs_d_cx(k:Nat):Cx:=mkC [(15,f15_i)] [(6,f6_con),(7,f7_con),(9,f9_d_con),(10,f10_con),(12,f12_con),(13,f13_con),(14,f14_con),(26,f26_con),(27,f27_con),(28,f28_d_con),(29,f29_d_con),(30,f30_con)] [] [(16,f16_inp),(17,f17_d_inp)] [] k dps false
theorem laws_FnExactTakeBlobs_d_tabs(k:Nat):TabsOk Tryz.prog (laws_FnExactTakeBlobs_d_cx k):=mkC_ok ⟨f6_conOk,f7_conOk,f9_d_conOk,f10_conOk,f12_conOk,f13_conOk,f14_conOk,f26_conOk,f27_conOk,f28_d_conOk,f29_d_conOk,f30_conOk,trivial⟩ trivial ⟨f16_inpOk,f17_d_inpOk,trivial⟩ ⟨f15_ok,trivial⟩
abbrev laws_FnExactTakeBlobs_d_sh:List Sh:=[.pl .bool]
abbrev Q26:Type:=Option (shDen laws_FnExactTakeBlobs_d_sh)
def laws_FnExactTakeBlobs_d_r(a0:T2)(a1:T7)(a2:T3):Q26:=
 (bindO (laws_szStore_r a0 (1048576:Int)) fun(b1:Int)=>(cond (decide (b1<(0:Int)))
 (some true)
 (bindO (laws_szKeyS_r a1 b1) fun(b2:Int)=>(cond (decide (b2<(0:Int)))
 (some true)
 (bindO (laws_szBlobS_r a2 b2) fun(b3:Int)=>(cond (decide (b3<(0:Int)))
 (some true)
 (bindO (laws_toStore_d_r a0) fun(b4:T2)=>(bindO (laws_toKeyS_r a1) fun(b5:T7)=>(bindO (laws_toBlobS_d_r a2) fun(b6:T3)=>(bindO (spec_TakeBlobs_r (b4.1,()) b5 b6) fun(b7:(T2×(Int×Int)))=>(bindO (laws_toStore_d_r a0) fun(b8:T2)=>(bindO (laws_toKeyS_r a1) fun(b9:T7)=>(bindO (laws_toBlobS_d_r a2) fun(b10:T3)=>(bindO (impl_TakeBlobs_d_r (b8.1,()) b9 b10) fun(b11:(T2×(Int×Int)))=>(bindO (laws_eqStore_r (b11.1.1,()) (b7.1.1,())) fun(b12:Bool)=>(cond (!b12)
 (some false)
 (cond (!(decide (b11.2.1=b7.2.1)))
 (some false)
 (cond (!(decide (b11.2.2=b7.2.2)))
 (some false)
 (bindO (laws_toStore_d_r a0) fun(b13:T2)=>(bindO (laws_eqStore_r (b8.1,()) (b13.1,())) fun(b14:Bool)=>(cond (!b14)
 (some false)
 (bindO (laws_toKeyS_r a1) fun(b15:T7)=>(bindO (laws_eqKeyS_r b9 b15) fun(b16:Bool)=>(cond (!b16)
 (some false)
 (bindO (laws_toBlobS_d_r a2) fun(b17:T3)=>(bindO (laws_eqBlobS_r b10 b17) fun(b18:Bool)=>(cond (!b18)
 (some false)
 (bindO (laws_markBlobS_d_r b8.1 (1:Int)) fun(b19:(T3×Int))=>(bindO (laws_markKeyS_r b9 b19.2) fun(b20:(T7×Int))=>(bindO (laws_markBlobS_d_r b10 b20.2) fun(b21:(T3×Int))=>(cond (decide (b21.2<(0:Int)))
 (some false)
 (bindO (laws_eqStore_r (b11.1.1,()) (b7.1.1,())) fun(b22:Bool)=>(cond (!b22)
 (some false)
 (cond (!(decide (b11.2.1=b7.2.1)))
 (some false)
 (cond (!(decide (b11.2.2=b7.2.2)))
 (some false)
 (bindO (laws_markBlobS_d_r b11.1.1 (1:Int)) fun(b23:(T3×Int))=>(bindO (laws_heldStore_r (b23.1,()) (1:Int)) fun(b24:Int)=>(cond (decide (b24<(0:Int)))
 (some false)
 (cond (!(decide (b24=b23.2)))
 (some false)
 (bindO (laws_toStore_d_r a0) fun(b25:T2)=>(bindO (laws_toKeyS_r a1) fun(b26:T7)=>(bindO (laws_toBlobS_d_r a2) fun(b27:T3)=>(bindO (impl_TakeBlobs_d_r (b25.1,()) b26 b27) fun(b28:(T2×(Int×Int)))=>(bindO (laws_eqStore_r (b28.1.1,()) (b7.1.1,())) fun(b29:Bool)=>(cond (!b29)
 (some false)
 (cond (!(decide (b28.2.1=b7.2.1)))
 (some false)
 (cond (!(decide (b28.2.2=b7.2.2)))
 (some false)
 (bindO (laws_heldStore_r (b23.1,()) (1:Int)) fun(b30:Int)=>(cond (decide (b30<(0:Int)))
 (some false)
 (cond (!(decide (b30=b23.2)))
 (some false)
 (some true)))))))))))))))))))))))))))))))))))))))))))))))))))
theorem laws_FnExactTakeBlobs_d_run(a0:T2)(a1:T7)(a2:T3):fnK (laws_FnExactTakeBlobs_d_cx FUEL) 8 5 laws_FnExactTakeBlobs_i laws_FnExactTakeBlobs_d_sh [.pv K3 a0,.pv K12 a1,.pv K5 a2]=laws_FnExactTakeBlobs_d_r a0 a1 a2:=by kernel_rfl

def laws_FnExactTakeBlobs_d_con:Con:={ps:=(.pair K3 K1),sh:=laws_FnExactTakeBlobs_d_sh,raw:=fun x=>laws_FnExactTakeBlobs_d_r x.1 x.2.1 x.2.2.1}
theorem laws_FnExactTakeBlobs_d_conOk:ConOk Tryz.prog 5 laws_FnExactTakeBlobs_d_con:=con_of_fn (laws_FnExactTakeBlobs_d_tabs FUEL) (depth:=8) laws_FnExactTakeBlobs_ok fun x y h=>(laws_FnExactTakeBlobs_d_run x.1 x.2.1 x.2.2.1).trans h

end
end Go.Ai.G
