/- Made by a program of this work out of the program: tables and plain functions,with the proof that each Go function does what its plain function says. No conditions. -/
import Derived.Test.YtkpacjofafjonaaGreatExactBlobsForTab
namespace Go.Ai.G
noncomputable section
open Go.Proofs
open Go.Ai
set_option linter.unusedVariables false
set_option linter.unusedSimpArgs false
set_option maxRecDepth 100000

def f135_cx(k:Nat):Cx:=mkC [] [] [] [] [] k [] false
theorem f135_tabs(k:Nat):TabsOk Tryz.prog (f135_cx k):=mkC_ok trivial trivial trivial trivial
abbrev laws_szByteS_sh:List Sh:=[.pl (.int .i64)]
abbrev Q44:Type:=Option (shDen laws_szByteS_sh)
def laws_szByteS_r(a0:(List Int))(a1:Int):Q44:=
 (cond (decide ((IntKind.wrap .i64 (a1-(a0.length:Int)))<(0:Int)))
 (some (-1:Int))
 (some (IntKind.wrap .i64 (a1-(a0.length:Int)))))
theorem f135_run(a0:(List Int))(a1:Int):fnK (f135_cx FUEL) 8 135 f135_i laws_szByteS_sh [.pv K20 a0,.pv (.int .i64) a1]=laws_szByteS_r a0 a1:=by kernel_rfl

def f135_con:Con:={ps:=K9,sh:=laws_szByteS_sh,raw:=fun x=>laws_szByteS_r x.1 x.2.1}
theorem f135_conOk:ConOk Tryz.prog 135 f135_con:=con_of_fn (f135_tabs FUEL) (depth:=8) f135_ok fun x y h=>(f135_run x.1 x.2.1).trans h

def f90_cx(k:Nat):Cx:=mkC [] [(135,f135_con)] [] [] [] k [] false
theorem f90_tabs(k:Nat):TabsOk Tryz.prog (f90_cx k):=mkC_ok ⟨f135_conOk,trivial⟩ trivial trivial trivial
abbrev laws_szBlob_sh:List Sh:=[.pl (.int .i64)]
abbrev Q43:Type:=Option (shDen laws_szBlob_sh)
def laws_szBlob_r(a0:T10)(a1:Int):Q43:=
 (bindO (laws_szByteS_r a0.2.1 a1) fun(b1:Int)=>(cond (decide (b1<(0:Int)))
 (some (-1:Int))
 (some b1)))
theorem f90_run(a0:T10)(a1:Int):fnK (f90_cx FUEL) 8 90 f90_i laws_szBlob_sh [.pv K10 a0,.pv (.int .i64) a1]=laws_szBlob_r a0 a1:=by kernel_rfl

def f90_con:Con:={ps:=(.pair K10 K18),sh:=laws_szBlob_sh,raw:=fun x=>laws_szBlob_r x.1 x.2.1}
theorem f90_conOk:ConOk Tryz.prog 90 f90_con:=con_of_fn (f90_tabs FUEL) (depth:=8) f90_ok fun x y h=>(f90_run x.1 x.2.1).trans h

def f42_l0_cut:Cut:={keep:=[0,1,5],stk:=[],ids:=[],own:=[],outs:=[(0,[4],[]),(1,[1],[])]}
def f42_cx(k:Nat):Cx:=mkC [] [(90,f90_con)] [] [] [(42,[(0,f42_l0_cut)])] k [] false
theorem f42_tabs(k:Nat):TabsOk Tryz.prog (f42_cx k):=mkC_ok ⟨f90_conOk,trivial⟩ trivial trivial trivial
abbrev laws_szBlobS_sh:List Sh:=[.pl (.int .i64)]
abbrev Q42:Type:=Option (shDen laws_szBlobS_sh)
def f42_l0_s(a0:T7)(x1:Int)(x5:Int):St:={env:=(.pv K8 a0:: .pv (.int .i64) x1::(dd 3 (.pv (.int .i64) x5::(dd 21 [])))),stk:=[],heap:=[]}
def f42_l0_o:St:={env:=(dd 4 (.pv (.int .i64) (-1:Int)::(dd 22 []))),stk:=[],heap:=[]}
def f42_l0_o0(x1:Int):St:={env:=(.dead:: .pv (.int .i64) x1::(dd 25 [])),stk:=[],heap:=[]}
def laws_szBlobS_l0_b(rec:Int→Int→Q42)(kr:Q42)(ke0:Int→Q42)(a0:T7)(x1:Int)(x5:Int):Q42:=
 (cond (decide (x5<(a0.length:Int)))
 (cond ((decide ((0:Int)≤x5))&&(decide (x5<(a0.length:Int))))
 (bindO (laws_szBlob_r (a0.getD (x5.toNat) ((0:Int),([],()))) x1) fun(b2:Int)=>(cond (decide (b2<(0:Int)))
 (kr)
 (rec b2 (IntKind.wrap .i64 (x5+(1:Int))))))
 none)
 (ke0 x1))
def laws_szBlobS_l0_L(kr:Q42)(ke0:Int→Q42)(a0:T7):Nat→Int→Int→Q42
 |0=>fun _ _=>none
 |n+1=>laws_szBlobS_l0_b (laws_szBlobS_l0_L kr ke0 a0 n) kr ke0 a0
def laws_szBlobS_r(a0:T7)(a1:Int):Q42:=
 (cond (decide ((IntKind.wrap .i64 (a1-(a0.length:Int)))<(0:Int)))
 (some (-1:Int))
 (laws_szBlobS_l0_L (some (-1:Int)) (fun x1=>(some x1)) a0 FUEL (IntKind.wrap .i64 (a1-(a0.length:Int))) (0:Int)))
def f42_l0_p(k:Nat)(K:Ex→St→Q42)(n:Nat)(a0:T7)(x1:Int)(x5:Int):Q42:=loopK (f42_cx k) 0 (execK (f42_cx k) (callK (f42_cx k) 8) 0 42 (sub f42_c [1,1,1,0,1,0,0])) f42_l0_cut K n (f42_l0_s a0 x1 x5)

theorem f42_l0_ret(k:Nat):((blkK 0 (seqK (execK (f42_cx k) (callK (f42_cx k) 8) 0 42 (sub f42_c [1,1,1,1])) (finK (f42_cx k) f42_i laws_szBlobS_sh))) .ret (f42_l0_o):Q42)=
 ((some (-1:Int)):Q42):=by kernel_rfl

theorem f42_l0_exit0(k:Nat)(x1:Int):((blkK 0 (seqK (execK (f42_cx k) (callK (f42_cx k) 8) 0 42 (sub f42_c [1,1,1,1])) (finK (f42_cx k) f42_i laws_szBlobS_sh))) (.exit 0) (f42_l0_o0 x1):Q42)=
 ((some x1):Q42):=by kernel_rfl

theorem f42_l0_round(k:Nat)(K:Ex→St→Q42)(n:Nat)(a0:T7)(x1:Int)(x5:Int):(f42_l0_p k K (n+1) a0 x1 x5:Q42)=laws_szBlobS_l0_b ((fun x1 x5=>f42_l0_p k K n a0 x1 x5)) (K .ret (f42_l0_o)) (fun x1=>K (.exit 0) (f42_l0_o0 x1)) a0 x1 x5:=by kernel_rfl

theorem f42_l0_L_eq(K:Ex→St→Q42)(a0:T7):∀(n:Nat) (x1:Int) (x5:Int),(f42_l0_p FUEL K n a0 x1 x5:Q42)=laws_szBlobS_l0_L (K .ret (f42_l0_o)) (fun x1=>K (.exit 0) (f42_l0_o0 x1)) a0 n x1 x5:=by
 intro n
 induction n with
 |zero=>intros; rfl
 |succ n ih=>
  intro x1 x5
  exact(f42_l0_round FUEL K n a0 x1 x5).trans (congrArg (fun f=>laws_szBlobS_l0_b f (K .ret (f42_l0_o)) (fun x1=>K (.exit 0) (f42_l0_o0 x1)) a0 x1 x5) (funext fun x1=>funext fun x5=>ih x1 x5))

theorem f42_start(k:Nat)(a0:T7)(a1:Int):fnK (f42_cx k) 8 42 f42_i laws_szBlobS_sh [.pv K8 a0,.pv (.int .i64) a1]=
 ((cond (decide ((IntKind.wrap .i64 (a1-(a0.length:Int)))<(0:Int)))
 (some (-1:Int))
 (loopK (f42_cx k) 0 (execK (f42_cx k) (callK (f42_cx k) 8) 0 42 (sub f42_c [1,1,1,0,1,0,0])) f42_l0_cut (blkK 0 (seqK (execK (f42_cx k) (callK (f42_cx k) 8) 0 42 (sub f42_c [1,1,1,1])) (finK (f42_cx k) f42_i laws_szBlobS_sh))) k (f42_l0_s a0 (IntKind.wrap .i64 (a1-(a0.length:Int))) (0:Int)))):Q42):=by kernel_rfl

theorem f42_run(a0:T7)(a1:Int):fnK (f42_cx FUEL) 8 42 f42_i laws_szBlobS_sh [.pv K8 a0,.pv (.int .i64) a1]=laws_szBlobS_r a0 a1:=
 (f42_start FUEL a0 a1).trans (condC (rfl) ((f42_l0_L_eq _ a0 FUEL (IntKind.wrap .i64 (a1-(a0.length:Int))) (0:Int)).trans (cong2 (fun e0 e1=>laws_szBlobS_l0_L e0 e1 a0 FUEL (IntKind.wrap .i64 (a1-(a0.length:Int))) (0:Int)) ((f42_l0_ret FUEL).trans (rfl)) (funext fun x1=>(f42_l0_exit0 FUEL x1).trans (rfl)))))

def f42_con:Con:={ps:=(.pair K8 K18),sh:=laws_szBlobS_sh,raw:=fun x=>laws_szBlobS_r x.1 x.2.1}
theorem f42_conOk:ConOk Tryz.prog 42 f42_con:=con_of_fn (f42_tabs FUEL) (depth:=8) f42_ok fun x y h=>(f42_run x.1 x.2.1).trans h

def f9_cx(k:Nat):Cx:=mkC [] [(42,f42_con)] [] [] [] k [] false
theorem f9_tabs(k:Nat):TabsOk Tryz.prog (f9_cx k):=mkC_ok ⟨f42_conOk,trivial⟩ trivial trivial trivial
abbrev laws_szStore_sh:List Sh:=[.pl (.int .i64)]
abbrev Q46:Type:=Option (shDen laws_szStore_sh)
def laws_szStore_r(a0:T4)(a1:Int):Q46:=
 (bindO (laws_szBlobS_r a0.1 a1) fun(b1:Int)=>(cond (decide (b1<(0:Int)))
 (some (-1:Int))
 (some b1)))
theorem f9_run(a0:T4)(a1:Int):fnK (f9_cx FUEL) 8 9 f9_i laws_szStore_sh [.pv K5 a0,.pv (.int .i64) a1]=laws_szStore_r a0 a1:=by kernel_rfl

def f9_con:Con:={ps:=(.pair K5 K18),sh:=laws_szStore_sh,raw:=fun x=>laws_szStore_r x.1 x.2.1}
theorem f9_conOk:ConOk Tryz.prog 9 f9_con:=con_of_fn (f9_tabs FUEL) (depth:=8) f9_ok fun x y h=>(f9_run x.1 x.2.1).trans h

def f29_cx(k:Nat):Cx:=mkC [] [] [] [] [] k [] false
theorem f29_tabs(k:Nat):TabsOk Tryz.prog (f29_cx k):=mkC_ok trivial trivial trivial trivial
abbrev laws_szKeyS_sh:List Sh:=[.pl (.int .i64)]
abbrev Q45:Type:=Option (shDen laws_szKeyS_sh)
def laws_szKeyS_r(a0:T15)(a1:Int):Q45:=
 (cond (decide ((IntKind.wrap .i64 (a1-(a0.length:Int)))<(0:Int)))
 (some (-1:Int))
 (some (IntKind.wrap .i64 (a1-(a0.length:Int)))))
theorem f29_run(a0:T15)(a1:Int):fnK (f29_cx FUEL) 8 29 f29_i laws_szKeyS_sh [.pv K16 a0,.pv (.int .i64) a1]=laws_szKeyS_r a0 a1:=by kernel_rfl

def f29_con:Con:={ps:=(.pair K16 K18),sh:=laws_szKeyS_sh,raw:=fun x=>laws_szKeyS_r x.1 x.2.1}
theorem f29_conOk:ConOk Tryz.prog 29 f29_con:=con_of_fn (f29_tabs FUEL) (depth:=8) f29_ok fun x y h=>(f29_run x.1 x.2.1).trans h

def f137_l0_cut:Cut:={keep:=[0,3,4],stk:=[],ids:=[70],own:=[],outs:=[(1,[3],[70])]}
def f137_cx(k:Nat):Cx:=mkC [] [] [] [] [(137,[(0,f137_l0_cut)])] k [] false
theorem f137_tabs(k:Nat):TabsOk Tryz.prog (f137_cx k):=mkC_ok trivial trivial trivial trivial
abbrev laws_toByteS_sh:List Sh:=[.own 5 (.int .u8)]
abbrev Q49:Type:=Option (shDen laws_toByteS_sh)
def f137_l0_s(a0:(List Int))(x4:Int)(z70:(List Int)):St:={env:=(.pv K20 a0:: .dead:: .dead:: .sl 70 (.int .u8):: .pv (.int .i64) x4::(dd 17 [])),stk:=[],heap:=[(70,.arr 5 (.int .u8) z70)]}
def f137_l0_o0(z70:(List Int)):St:={env:=(dd 3 (.sl 70 (.int .u8)::(dd 18 []))),stk:=[],heap:=[(70,.arr 5 (.int .u8) z70)]}
def laws_toByteS_l0_b(rec:Int→(List Int)→Q49)(ke0:(List Int)→Q49)(a0:(List Int))(x4:Int)(z70:(List Int)):Q49:=
 (cond (decide (x4<(a0.length:Int)))
 (cond ((decide ((0:Int)≤x4))&&(decide (x4<(a0.length:Int))))
 (cond ((decide ((0:Int)≤x4))&&(decide (x4<(z70.length:Int))))
 (rec (IntKind.wrap .i64 (x4+(1:Int))) (z70.set (x4.toNat) (a0.getD (x4.toNat) (0:Int))))
 none)
 none)
 (ke0 z70))
def laws_toByteS_l0_L(ke0:(List Int)→Q49)(a0:(List Int)):Nat→Int→(List Int)→Q49
 |0=>fun _ _=>none
 |n+1=>laws_toByteS_l0_b (laws_toByteS_l0_L ke0 a0 n) ke0 a0
def laws_toByteS_r(a0:(List Int)):Q49:=
 (cond (((decide ((0:Int)≤(a0.length:Int)))&&(decide (((a0.length:Int)*(1:Int))≤(140737488355328:Int))))&&(decide ((a0.length:Int)≤(9223372036854775807:Int))))
 (laws_toByteS_l0_L (fun z70=>(some z70)) a0 FUEL (0:Int) (List.replicate ((a0.length:Int).toNat) (0:Int)))
 none)
def f137_l0_p(k:Nat)(K:Ex→St→Q49)(n:Nat)(a0:(List Int))(x4:Int)(z70:(List Int)):Q49:=loopK (f137_cx k) 0 (execK (f137_cx k) (callK (f137_cx k) 8) 0 137 (sub f137_c [1,1,0,1,0,0])) f137_l0_cut K n (f137_l0_s a0 x4 z70)

theorem f137_l0_exit0(k:Nat)(z70:(List Int)):((blkK 0 (seqK (execK (f137_cx k) (callK (f137_cx k) 8) 0 137 (sub f137_c [1,1,1])) (finK (f137_cx k) f137_i laws_toByteS_sh))) (.exit 0) (f137_l0_o0 z70):Q49)=
 ((some z70):Q49):=by kernel_rfl

theorem f137_l0_round(k:Nat)(K:Ex→St→Q49)(n:Nat)(a0:(List Int))(x4:Int)(z70:(List Int)):(f137_l0_p k K (n+1) a0 x4 z70:Q49)=laws_toByteS_l0_b ((fun x4 z70=>f137_l0_p k K n a0 x4 z70)) (fun z70=>K (.exit 0) (f137_l0_o0 z70)) a0 x4 z70:=by kernel_rfl

theorem f137_l0_L_eq(K:Ex→St→Q49)(a0:(List Int)):∀(n:Nat) (x4:Int) (z70:(List Int)),(f137_l0_p FUEL K n a0 x4 z70:Q49)=laws_toByteS_l0_L (fun z70=>K (.exit 0) (f137_l0_o0 z70)) a0 n x4 z70:=by
 intro n
 induction n with
 |zero=>intros; rfl
 |succ n ih=>
  intro x4 z70
  exact(f137_l0_round FUEL K n a0 x4 z70).trans (congrArg (fun f=>laws_toByteS_l0_b f (fun z70=>K (.exit 0) (f137_l0_o0 z70)) a0 x4 z70) (funext fun x4=>funext fun z70=>ih x4 z70))

theorem f137_start(k:Nat)(a0:(List Int)):fnK (f137_cx k) 8 137 f137_i laws_toByteS_sh [.pv K20 a0]=
 ((cond (((decide ((0:Int)≤(a0.length:Int)))&&(decide (((a0.length:Int)*(1:Int))≤(140737488355328:Int))))&&(decide ((a0.length:Int)≤(9223372036854775807:Int))))
 (loopK (f137_cx k) 0 (execK (f137_cx k) (callK (f137_cx k) 8) 0 137 (sub f137_c [1,1,0,1,0,0])) f137_l0_cut (blkK 0 (seqK (execK (f137_cx k) (callK (f137_cx k) 8) 0 137 (sub f137_c [1,1,1])) (finK (f137_cx k) f137_i laws_toByteS_sh))) k (f137_l0_s a0 (0:Int) (List.replicate ((a0.length:Int).toNat) (0:Int))))
 none):Q49):=by kernel_rfl

theorem f137_run(a0:(List Int)):fnK (f137_cx FUEL) 8 137 f137_i laws_toByteS_sh [.pv K20 a0]=laws_toByteS_r a0:=
 (f137_start FUEL a0).trans (condC ((f137_l0_L_eq _ a0 FUEL (0:Int) (List.replicate ((a0.length:Int).toNat) (0:Int))).trans (congrArg (fun e0=>laws_toByteS_l0_L e0 a0 FUEL (0:Int) (List.replicate ((a0.length:Int).toNat) (0:Int))) (funext fun z70=>(f137_l0_exit0 FUEL z70).trans (rfl)))) (rfl))

def f137_con:Con:={ps:=K14,sh:=laws_toByteS_sh,raw:=fun x=>laws_toByteS_r x.1}
theorem f137_conOk:ConOk Tryz.prog 137 f137_con:=con_of_fn (f137_tabs FUEL) (depth:=8) f137_ok fun x y h=>(f137_run x.1).trans h

def f96_cx(k:Nat):Cx:=mkC [] [(137,f137_con)] [] [] [] k [] false
theorem f96_tabs(k:Nat):TabsOk Tryz.prog (f96_cx k):=mkC_ok ⟨f137_conOk,trivial⟩ trivial trivial trivial
abbrev laws_toBlob_sh:List Sh:=[.pr (.pl (.int .u8)) (.pr (.own 5 (.int .u8)) (.pl .unit))]
abbrev Q48:Type:=Option (shDen laws_toBlob_sh)
def laws_toBlob_r(a0:T10):Q48:=
 (bindO (laws_toByteS_r a0.2.1) fun(b1:(List Int))=>(some (a0.1,(b1,()))))
theorem f96_run(a0:T10):fnK (f96_cx FUEL) 8 96 f96_i laws_toBlob_sh [.pv K10 a0]=laws_toBlob_r a0:=by kernel_rfl

def f96_con:Con:={ps:=K7,sh:=laws_toBlob_sh,raw:=fun x=>laws_toBlob_r x.1}
theorem f96_conOk:ConOk Tryz.prog 96 f96_con:=con_of_fn (f96_tabs FUEL) (depth:=8) f96_ok fun x y h=>(f96_run x.1).trans h

def f45_d_l0_cut:Cut:={keep:=[0,3,4],stk:=[],ids:=[70],own:=[],outs:=[(1,[3],[70])]}
def f45_d_cx(k:Nat):Cx:=mkC [] [(96,f96_con)] [] [] [(45,[(0,f45_d_l0_cut)])] k dps false
theorem f45_d_tabs(k:Nat):TabsOk Tryz.prog (f45_d_cx k):=mkC_ok ⟨f96_conOk,trivial⟩ trivial trivial trivial
abbrev laws_toBlobS_d_sh:List Sh:=[.tre 125 (.pr (.pl (.int .u8)) (.pr (.sl 5 (.pl (.int .u8))) (.pl .unit)))]
abbrev Q47:Type:=Option (shDen laws_toBlobS_d_sh)
def f45_d_l0_s(a0:T7)(x4:Int)(z70:T7):St:={env:=(.pv K8 a0:: .dead:: .dead:: .inn 70 [] K10:: .pv (.int .i64) x4::(dd 18 [])),stk:=[],heap:=[(70,.tre 125 (.pr (.pl (.int .u8)) (.pr (.sl 5 (.pl (.int .u8))) (.pl .unit))) z70)]}
def f45_d_l0_o0(z70:T7):St:={env:=(dd 3 (.inn 70 [] K10::(dd 19 []))),stk:=[],heap:=[(70,.tre 125 (.pr (.pl (.int .u8)) (.pr (.sl 5 (.pl (.int .u8))) (.pl .unit))) z70)]}
def laws_toBlobS_d_l0_b(rec:Int→T7→Q47)(ke0:T7→Q47)(a0:T7)(x4:Int)(z70:T7):Q47:=
 (cond (decide (x4<(a0.length:Int)))
 (cond ((decide ((0:Int)≤x4))&&(decide (x4<(a0.length:Int))))
 (bindO (laws_toBlob_r (a0.getD (x4.toNat) ((0:Int),([],())))) fun(b2:T10)=>(cond ((decide ((0:Int)≤x4))&&(decide (x4<(z70.length:Int))))
 (rec (IntKind.wrap .i64 (x4+(1:Int))) (z70.set (x4.toNat) (b2.1,(b2.2.1,()))))
 none))
 none)
 (ke0 z70))
def laws_toBlobS_d_l0_L(ke0:T7→Q47)(a0:T7):Nat→Int→T7→Q47
 |0=>fun _ _=>none
 |n+1=>laws_toBlobS_d_l0_b (laws_toBlobS_d_l0_L ke0 a0 n) ke0 a0
def laws_toBlobS_d_r(a0:T7):Q47:=
 (cond (((decide ((0:Int)≤(a0.length:Int)))&&(decide (((a0.length:Int)*(32:Int))≤(140737488355328:Int))))&&(decide ((a0.length:Int)≤(9223372036854775807:Int))))
 (laws_toBlobS_d_l0_L (fun z70=>(some z70)) a0 FUEL (0:Int) (List.replicate ((a0.length:Int).toNat) ((0:Int),([],()))))
 none)
def f45_d_l0_p(k:Nat)(K:Ex→St→Q47)(n:Nat)(a0:T7)(x4:Int)(z70:T7):Q47:=loopK (f45_d_cx k) 0 (execK (f45_d_cx k) (callK (f45_d_cx k) 8) 0 45 (sub f45_c [1,1,0,1,0,0])) f45_d_l0_cut K n (f45_d_l0_s a0 x4 z70)

theorem f45_d_l0_exit0(k:Nat)(z70:T7):((blkK 0 (seqK (execK (f45_d_cx k) (callK (f45_d_cx k) 8) 0 45 (sub f45_c [1,1,1])) (finK (f45_d_cx k) f45_i laws_toBlobS_d_sh))) (.exit 0) (f45_d_l0_o0 z70):Q47)=
 ((some z70):Q47):=by kernel_rfl

theorem f45_d_l0_round(k:Nat)(K:Ex→St→Q47)(n:Nat)(a0:T7)(x4:Int)(z70:T7):(f45_d_l0_p k K (n+1) a0 x4 z70:Q47)=laws_toBlobS_d_l0_b ((fun x4 z70=>f45_d_l0_p k K n a0 x4 z70)) (fun z70=>K (.exit 0) (f45_d_l0_o0 z70)) a0 x4 z70:=by kernel_rfl

theorem f45_d_l0_L_eq(K:Ex→St→Q47)(a0:T7):∀(n:Nat) (x4:Int) (z70:T7),(f45_d_l0_p FUEL K n a0 x4 z70:Q47)=laws_toBlobS_d_l0_L (fun z70=>K (.exit 0) (f45_d_l0_o0 z70)) a0 n x4 z70:=by
 intro n
 induction n with
 |zero=>intros; rfl
 |succ n ih=>
  intro x4 z70
  exact(f45_d_l0_round FUEL K n a0 x4 z70).trans (congrArg (fun f=>laws_toBlobS_d_l0_b f (fun z70=>K (.exit 0) (f45_d_l0_o0 z70)) a0 x4 z70) (funext fun x4=>funext fun z70=>ih x4 z70))

theorem f45_d_start(k:Nat)(a0:T7):fnK (f45_d_cx k) 8 45 f45_i laws_toBlobS_d_sh [.pv K8 a0]=
 ((cond (((decide ((0:Int)≤(a0.length:Int)))&&(decide (((a0.length:Int)*(32:Int))≤(140737488355328:Int))))&&(decide ((a0.length:Int)≤(9223372036854775807:Int))))
 (loopK (f45_d_cx k) 0 (execK (f45_d_cx k) (callK (f45_d_cx k) 8) 0 45 (sub f45_c [1,1,0,1,0,0])) f45_d_l0_cut (blkK 0 (seqK (execK (f45_d_cx k) (callK (f45_d_cx k) 8) 0 45 (sub f45_c [1,1,1])) (finK (f45_d_cx k) f45_i laws_toBlobS_d_sh))) k (f45_d_l0_s a0 (0:Int) (List.replicate ((a0.length:Int).toNat) ((0:Int),([],())))))
 none):Q47):=by kernel_rfl

theorem f45_d_run(a0:T7):fnK (f45_d_cx FUEL) 8 45 f45_i laws_toBlobS_d_sh [.pv K8 a0]=laws_toBlobS_d_r a0:=
 (f45_d_start FUEL a0).trans (condC ((f45_d_l0_L_eq _ a0 FUEL (0:Int) (List.replicate ((a0.length:Int).toNat) ((0:Int),([],())))).trans (congrArg (fun e0=>laws_toBlobS_d_l0_L e0 a0 FUEL (0:Int) (List.replicate ((a0.length:Int).toNat) ((0:Int),([],())))) (funext fun z70=>(f45_d_l0_exit0 FUEL z70).trans (rfl)))) (rfl))

def f45_d_con:Con:={ps:=K5,sh:=laws_toBlobS_d_sh,raw:=fun x=>laws_toBlobS_d_r x.1}
theorem f45_d_conOk:ConOk Tryz.prog 45 f45_d_con:=con_of_fn (f45_d_tabs FUEL) (depth:=8) f45_ok fun x y h=>(f45_d_run x.1).trans h

def f11_d_cx(k:Nat):Cx:=mkC [] [(45,f45_d_con)] [] [] [] k dps false
theorem f11_d_tabs(k:Nat):TabsOk Tryz.prog (f11_d_cx k):=mkC_ok ⟨f45_d_conOk,trivial⟩ trivial trivial trivial
abbrev laws_toStore_d_sh:List Sh:=[.pr (.tre 125 (.pr (.pl (.int .u8)) (.pr (.sl 5 (.pl (.int .u8))) (.pl .unit)))) (.pl .unit)]
abbrev Q52:Type:=Option (shDen laws_toStore_d_sh)
def laws_toStore_d_r(a0:T4):Q52:=
 (bindO (laws_toBlobS_d_r a0.1) fun(b1:T7)=>(some (b1,())))
theorem f11_d_run(a0:T4):fnK (f11_d_cx FUEL) 8 11 f11_i laws_toStore_d_sh [.pv K5 a0]=laws_toStore_d_r a0:=by kernel_rfl

def f11_d_con:Con:={ps:=K3,sh:=laws_toStore_d_sh,raw:=fun x=>laws_toStore_d_r x.1}
theorem f11_d_conOk:ConOk Tryz.prog 11 f11_d_con:=con_of_fn (f11_d_tabs FUEL) (depth:=8) f11_ok fun x y h=>(f11_d_run x.1).trans h

def f12_l0_cut:Cut:={keep:=[1,2,3,4],stk:=[],ids:=[10,20,30],own:=[],outs:=[(1,[2,3],[20,30])]}
def f12_cx(k:Nat):Cx:=mkC [] [] [] [] [(12,[(0,f12_l0_cut)])] k [] false
theorem f12_tabs(k:Nat):TabsOk Tryz.prog (f12_cx k):=mkC_ok trivial trivial trivial trivial
abbrev laws_toKey_sh:List Sh:=[.pl (.arr 32 (.int .u8))]
abbrev Q51:Type:=Option (shDen laws_toKey_sh)
def f12_l0_s(a0:(List Int))(x4:Int)(y30:(List Int)):St:={env:=(.dead:: .ptr 10 (.arr 32 (.int .u8)) []:: .ptr 20 (.arr 32 (.int .u8)) []:: .ptr 30 (.arr 32 (.int .u8)) []:: .pv (.int .i64) x4::(dd 10 [])),stk:=[],heap:=[(10,.var (.arr 32 (.int .u8)) (.pv (.arr 32 (.int .u8)) a0)),(20,.var (.arr 32 (.int .u8)) (.pv (.arr 32 (.int .u8)) (List.replicate 32 (0:Int)))),(30,.var (.arr 32 (.int .u8)) (.pv (.arr 32 (.int .u8)) y30))]}
def f12_l0_o0(y30:(List Int)):St:={env:=(.dead:: .dead:: .ptr 20 (.arr 32 (.int .u8)) []:: .ptr 30 (.arr 32 (.int .u8)) []::(dd 11 [])),stk:=[],heap:=[(20,.var (.arr 32 (.int .u8)) (.pv (.arr 32 (.int .u8)) (List.replicate 32 (0:Int)))),(30,.var (.arr 32 (.int .u8)) (.pv (.arr 32 (.int .u8)) y30))]}
def laws_toKey_l0_b(rec:Int→(List Int)→Q51)(ke0:(List Int)→Q51)(a0:(List Int))(x4:Int)(y30:(List Int)):Q51:=
 (cond (decide (x4<(32:Int)))
 (cond ((decide ((0:Int)≤x4))&&(decide (x4<(32:Int))))
 (cond ((decide ((0:Int)≤x4))&&(decide (x4<(32:Int))))
 (rec (IntKind.wrap .i64 (x4+(1:Int))) (y30.set (x4.toNat) (a0.getD (x4.toNat) (0:Int))))
 none)
 none)
 (ke0 y30))
def laws_toKey_l0_L(ke0:(List Int)→Q51)(a0:(List Int)):Nat→Int→(List Int)→Q51
 |0=>fun _ _=>none
 |n+1=>laws_toKey_l0_b (laws_toKey_l0_L ke0 a0 n) ke0 a0
def laws_toKey_r(a0:(List Int)):Q51:=
 (laws_toKey_l0_L (fun y30=>(some y30)) a0 FUEL (0:Int) (List.replicate 32 (0:Int)))
def f12_l0_p(k:Nat)(K:Ex→St→Q51)(n:Nat)(a0:(List Int))(x4:Int)(y30:(List Int)):Q51:=loopK (f12_cx k) 0 (execK (f12_cx k) (callK (f12_cx k) 8) 0 12 (sub f12_c [1,1,0,1,0,0])) f12_l0_cut K n (f12_l0_s a0 x4 y30)

theorem f12_l0_exit0(k:Nat)(y30:(List Int)):((blkK 0 (seqK (execK (f12_cx k) (callK (f12_cx k) 8) 0 12 (sub f12_c [1,1,1])) (finK (f12_cx k) f12_i laws_toKey_sh))) (.exit 0) (f12_l0_o0 y30):Q51)=
 ((some y30):Q51):=by kernel_rfl

theorem f12_l0_round(k:Nat)(K:Ex→St→Q51)(n:Nat)(a0:(List Int))(x4:Int)(y30:(List Int)):(f12_l0_p k K (n+1) a0 x4 y30:Q51)=laws_toKey_l0_b ((fun x4 y30=>f12_l0_p k K n a0 x4 y30)) (fun y30=>K (.exit 0) (f12_l0_o0 y30)) a0 x4 y30:=by kernel_rfl

theorem f12_l0_L_eq(K:Ex→St→Q51)(a0:(List Int)):∀(n:Nat) (x4:Int) (y30:(List Int)),(f12_l0_p FUEL K n a0 x4 y30:Q51)=laws_toKey_l0_L (fun y30=>K (.exit 0) (f12_l0_o0 y30)) a0 n x4 y30:=by
 intro n
 induction n with
 |zero=>intros; rfl
 |succ n ih=>
  intro x4 y30
  exact(f12_l0_round FUEL K n a0 x4 y30).trans (congrArg (fun f=>laws_toKey_l0_b f (fun y30=>K (.exit 0) (f12_l0_o0 y30)) a0 x4 y30) (funext fun x4=>funext fun y30=>ih x4 y30))

theorem f12_start(k:Nat)(a0:(List Int)):fnK (f12_cx k) 8 12 f12_i laws_toKey_sh [.pv (.arr 32 (.int .u8)) a0]=
 ((loopK (f12_cx k) 0 (execK (f12_cx k) (callK (f12_cx k) 8) 0 12 (sub f12_c [1,1,0,1,0,0])) f12_l0_cut (blkK 0 (seqK (execK (f12_cx k) (callK (f12_cx k) 8) 0 12 (sub f12_c [1,1,1])) (finK (f12_cx k) f12_i laws_toKey_sh))) k (f12_l0_s a0 (0:Int) (List.replicate 32 (0:Int)))):Q51):=by kernel_rfl

theorem f12_run(a0:(List Int)):fnK (f12_cx FUEL) 8 12 f12_i laws_toKey_sh [.pv (.arr 32 (.int .u8)) a0]=laws_toKey_r a0:=
 (f12_start FUEL a0).trans ((f12_l0_L_eq _ a0 FUEL (0:Int) (List.replicate 32 (0:Int))).trans (congrArg (fun e0=>laws_toKey_l0_L e0 a0 FUEL (0:Int) (List.replicate 32 (0:Int))) (funext fun y30=>(f12_l0_exit0 FUEL y30).trans (rfl))))

def f12_con:Con:={ps:=K13,sh:=laws_toKey_sh,raw:=fun x=>laws_toKey_r x.1}
theorem f12_conOk:ConOk Tryz.prog 12 f12_con:=con_of_fn (f12_tabs FUEL) (depth:=8) f12_ok fun x y h=>(f12_run x.1).trans h

def f31_l0_cut:Cut:={keep:=[0,3,4],stk:=[],ids:=[70],own:=[],outs:=[(1,[3],[70])]}
def f31_cx(k:Nat):Cx:=mkC [] [(12,f12_con)] [] [] [(31,[(0,f31_l0_cut)])] k [] false
theorem f31_tabs(k:Nat):TabsOk Tryz.prog (f31_cx k):=mkC_ok ⟨f12_conOk,trivial⟩ trivial trivial trivial
abbrev laws_toKeyS_sh:List Sh:=[.own 35 (.arr 32 (.int .u8))]
abbrev Q50:Type:=Option (shDen laws_toKeyS_sh)
def f31_l0_s(a0:T15)(x4:Int)(z70:T15):St:={env:=(.pv K16 a0:: .dead:: .dead:: .sl 70 (.arr 32 (.int .u8)):: .pv (.int .i64) x4::(dd 18 [])),stk:=[],heap:=[(70,.arr 35 (.arr 32 (.int .u8)) z70)]}
def f31_l0_o0(z70:T15):St:={env:=(dd 3 (.sl 70 (.arr 32 (.int .u8))::(dd 19 []))),stk:=[],heap:=[(70,.arr 35 (.arr 32 (.int .u8)) z70)]}
def laws_toKeyS_l0_b(rec:Int→T15→Q50)(ke0:T15→Q50)(a0:T15)(x4:Int)(z70:T15):Q50:=
 (cond (decide (x4<(a0.length:Int)))
 (cond ((decide ((0:Int)≤x4))&&(decide (x4<(a0.length:Int))))
 (bindO (laws_toKey_r (a0.getD (x4.toNat) (List.replicate 32 (0:Int)))) fun(b2:(List Int))=>(cond ((decide ((0:Int)≤x4))&&(decide (x4<(z70.length:Int))))
 (rec (IntKind.wrap .i64 (x4+(1:Int))) (z70.set (x4.toNat) b2))
 none))
 none)
 (ke0 z70))
def laws_toKeyS_l0_L(ke0:T15→Q50)(a0:T15):Nat→Int→T15→Q50
 |0=>fun _ _=>none
 |n+1=>laws_toKeyS_l0_b (laws_toKeyS_l0_L ke0 a0 n) ke0 a0
def laws_toKeyS_r(a0:T15):Q50:=
 (cond (((decide ((0:Int)≤(a0.length:Int)))&&(decide (((a0.length:Int)*(32:Int))≤(140737488355328:Int))))&&(decide ((a0.length:Int)≤(9223372036854775807:Int))))
 (laws_toKeyS_l0_L (fun z70=>(some z70)) a0 FUEL (0:Int) (List.replicate ((a0.length:Int).toNat) (List.replicate 32 (0:Int))))
 none)
def f31_l0_p(k:Nat)(K:Ex→St→Q50)(n:Nat)(a0:T15)(x4:Int)(z70:T15):Q50:=loopK (f31_cx k) 0 (execK (f31_cx k) (callK (f31_cx k) 8) 0 31 (sub f31_c [1,1,0,1,0,0])) f31_l0_cut K n (f31_l0_s a0 x4 z70)

theorem f31_l0_exit0(k:Nat)(z70:T15):((blkK 0 (seqK (execK (f31_cx k) (callK (f31_cx k) 8) 0 31 (sub f31_c [1,1,1])) (finK (f31_cx k) f31_i laws_toKeyS_sh))) (.exit 0) (f31_l0_o0 z70):Q50)=
 ((some z70):Q50):=by kernel_rfl

theorem f31_l0_round(k:Nat)(K:Ex→St→Q50)(n:Nat)(a0:T15)(x4:Int)(z70:T15):(f31_l0_p k K (n+1) a0 x4 z70:Q50)=laws_toKeyS_l0_b ((fun x4 z70=>f31_l0_p k K n a0 x4 z70)) (fun z70=>K (.exit 0) (f31_l0_o0 z70)) a0 x4 z70:=by kernel_rfl

theorem f31_l0_L_eq(K:Ex→St→Q50)(a0:T15):∀(n:Nat) (x4:Int) (z70:T15),(f31_l0_p FUEL K n a0 x4 z70:Q50)=laws_toKeyS_l0_L (fun z70=>K (.exit 0) (f31_l0_o0 z70)) a0 n x4 z70:=by
 intro n
 induction n with
 |zero=>intros; rfl
 |succ n ih=>
  intro x4 z70
  exact(f31_l0_round FUEL K n a0 x4 z70).trans (congrArg (fun f=>laws_toKeyS_l0_b f (fun z70=>K (.exit 0) (f31_l0_o0 z70)) a0 x4 z70) (funext fun x4=>funext fun z70=>ih x4 z70))

theorem f31_start(k:Nat)(a0:T15):fnK (f31_cx k) 8 31 f31_i laws_toKeyS_sh [.pv K16 a0]=
 ((cond (((decide ((0:Int)≤(a0.length:Int)))&&(decide (((a0.length:Int)*(32:Int))≤(140737488355328:Int))))&&(decide ((a0.length:Int)≤(9223372036854775807:Int))))
 (loopK (f31_cx k) 0 (execK (f31_cx k) (callK (f31_cx k) 8) 0 31 (sub f31_c [1,1,0,1,0,0])) f31_l0_cut (blkK 0 (seqK (execK (f31_cx k) (callK (f31_cx k) 8) 0 31 (sub f31_c [1,1,1])) (finK (f31_cx k) f31_i laws_toKeyS_sh))) k (f31_l0_s a0 (0:Int) (List.replicate ((a0.length:Int).toNat) (List.replicate 32 (0:Int)))))
 none):Q50):=by kernel_rfl

theorem f31_run(a0:T15):fnK (f31_cx FUEL) 8 31 f31_i laws_toKeyS_sh [.pv K16 a0]=laws_toKeyS_r a0:=
 (f31_start FUEL a0).trans (condC ((f31_l0_L_eq _ a0 FUEL (0:Int) (List.replicate ((a0.length:Int).toNat) (List.replicate 32 (0:Int)))).trans (congrArg (fun e0=>laws_toKeyS_l0_L e0 a0 FUEL (0:Int) (List.replicate ((a0.length:Int).toNat) (List.replicate 32 (0:Int)))) (funext fun z70=>(f31_l0_exit0 FUEL z70).trans (rfl)))) (rfl))

def f31_con:Con:={ps:=K12,sh:=laws_toKeyS_sh,raw:=fun x=>laws_toKeyS_r x.1}
theorem f31_conOk:ConOk Tryz.prog 31 f31_con:=con_of_fn (f31_tabs FUEL) (depth:=8) f31_ok fun x y h=>(f31_run x.1).trans h

def f91_cx(k:Nat):Cx:=mkC [] [] [] [] [] k [] false
theorem f91_tabs(k:Nat):TabsOk Tryz.prog (f91_cx k):=mkC_ok trivial trivial trivial trivial
abbrev spec_l05Blob_sh:List Sh:=[.pl .bool]
abbrev Q77:Type:=Option (shDen spec_l05Blob_sh)
def spec_l05Blob_r(a0:T10):Q77:=
 (some (decide ((a0.2.1.length:Int)≤(1024:Int))))
theorem f91_run(a0:T10):fnK (f91_cx FUEL) 8 91 f91_i spec_l05Blob_sh [.pv (.ref K10) a0]=spec_l05Blob_r a0:=by kernel_rfl

def f91_con:Con:={ps:=(.pair (.ref K10) .unit),sh:=spec_l05Blob_sh,raw:=fun x=>spec_l05Blob_r x.1}
theorem f91_conOk:ConOk Tryz.prog 91 f91_con:=con_of_fn (f91_tabs FUEL) (depth:=8) f91_ok fun x y h=>(f91_run x.1).trans h

def f147_l0_cut:Cut:={keep:=[0,2,3,4],stk:=[],ids:=[20,30],own:=[],outs:=[(1,[2,3],[20,30])]}
def f147_cx(k:Nat):Cx:=mkC [] [] [] [] [(147,[(0,f147_l0_cut)])] k [] false
theorem f147_tabs(k:Nat):TabsOk Tryz.prog (f147_cx k):=mkC_ok trivial trivial trivial trivial
abbrev spec_l01Start_sh:List Sh:=[.pl (.arr 8 (.int .u32))]
abbrev Q71:Type:=Option (shDen spec_l01Start_sh)
def f147_l0_s(a0:Int)(x4:Int)(y30:(List Int)):St:={env:=(.pv (.int .u8) a0:: .dead:: .ptr 20 (.arr 8 (.int .u32)) []:: .ptr 30 (.arr 8 (.int .u32)) []:: .pv (.int .i64) x4::(dd 15 [])),stk:=[],heap:=[(20,.var (.arr 8 (.int .u32)) (.pv (.arr 8 (.int .u32)) (List.replicate 8 (0:Int)))),(30,.var (.arr 8 (.int .u32)) (.pv (.arr 8 (.int .u32)) y30))]}
def f147_l0_o0(y30:(List Int)):St:={env:=(.dead:: .dead:: .ptr 20 (.arr 8 (.int .u32)) []:: .ptr 30 (.arr 8 (.int .u32)) []::(dd 16 [])),stk:=[],heap:=[(20,.var (.arr 8 (.int .u32)) (.pv (.arr 8 (.int .u32)) (List.replicate 8 (0:Int)))),(30,.var (.arr 8 (.int .u32)) (.pv (.arr 8 (.int .u32)) y30))]}
def spec_l01Start_l0_b(rec:Int→(List Int)→Q71)(ke0:(List Int)→Q71)(a0:Int)(x4:Int)(y30:(List Int)):Q71:=
 (cond (decide (x4<(8:Int)))
 (cond ((decide ((0:Int)≤x4))&&(decide (x4<(8:Int))))
 (rec (IntKind.wrap .i64 (x4+(1:Int))) (y30.set (x4.toNat) (IntKind.wrap .u32 ((IntKind.wrap .u32 ((16777619:Int)*(IntKind.wrap .u32 (IntKind.wrap .i64 (x4+(1:Int))))))+(IntKind.wrap .u32 a0)))))
 none)
 (ke0 y30))
def spec_l01Start_l0_L(ke0:(List Int)→Q71)(a0:Int):Nat→Int→(List Int)→Q71
 |0=>fun _ _=>none
 |n+1=>spec_l01Start_l0_b (spec_l01Start_l0_L ke0 a0 n) ke0 a0
def spec_l01Start_r(a0:Int):Q71:=
 (spec_l01Start_l0_L (fun y30=>(some y30)) a0 FUEL (0:Int) (List.replicate 8 (0:Int)))
def f147_l0_p(k:Nat)(K:Ex→St→Q71)(n:Nat)(a0:Int)(x4:Int)(y30:(List Int)):Q71:=loopK (f147_cx k) 0 (execK (f147_cx k) (callK (f147_cx k) 8) 0 147 (sub f147_c [1,1,0,1,0,0])) f147_l0_cut K n (f147_l0_s a0 x4 y30)

theorem f147_l0_exit0(k:Nat)(y30:(List Int)):((blkK 0 (seqK (execK (f147_cx k) (callK (f147_cx k) 8) 0 147 (sub f147_c [1,1,1])) (finK (f147_cx k) f147_i spec_l01Start_sh))) (.exit 0) (f147_l0_o0 y30):Q71)=
 ((some y30):Q71):=by kernel_rfl

theorem f147_l0_round(k:Nat)(K:Ex→St→Q71)(n:Nat)(a0:Int)(x4:Int)(y30:(List Int)):(f147_l0_p k K (n+1) a0 x4 y30:Q71)=spec_l01Start_l0_b ((fun x4 y30=>f147_l0_p k K n a0 x4 y30)) (fun y30=>K (.exit 0) (f147_l0_o0 y30)) a0 x4 y30:=by kernel_rfl

theorem f147_l0_L_eq(K:Ex→St→Q71)(a0:Int):∀(n:Nat) (x4:Int) (y30:(List Int)),(f147_l0_p FUEL K n a0 x4 y30:Q71)=spec_l01Start_l0_L (fun y30=>K (.exit 0) (f147_l0_o0 y30)) a0 n x4 y30:=by
 intro n
 induction n with
 |zero=>intros; rfl
 |succ n ih=>
  intro x4 y30
  exact(f147_l0_round FUEL K n a0 x4 y30).trans (congrArg (fun f=>spec_l01Start_l0_b f (fun y30=>K (.exit 0) (f147_l0_o0 y30)) a0 x4 y30) (funext fun x4=>funext fun y30=>ih x4 y30))

theorem f147_start(k:Nat)(a0:Int):fnK (f147_cx k) 8 147 f147_i spec_l01Start_sh [.pv (.int .u8) a0]=
 ((loopK (f147_cx k) 0 (execK (f147_cx k) (callK (f147_cx k) 8) 0 147 (sub f147_c [1,1,0,1,0,0])) f147_l0_cut (blkK 0 (seqK (execK (f147_cx k) (callK (f147_cx k) 8) 0 147 (sub f147_c [1,1,1])) (finK (f147_cx k) f147_i spec_l01Start_sh))) k (f147_l0_s a0 (0:Int) (List.replicate 8 (0:Int)))):Q71):=by kernel_rfl

theorem f147_run(a0:Int):fnK (f147_cx FUEL) 8 147 f147_i spec_l01Start_sh [.pv (.int .u8) a0]=spec_l01Start_r a0:=
 (f147_start FUEL a0).trans ((f147_l0_L_eq _ a0 FUEL (0:Int) (List.replicate 8 (0:Int))).trans (congrArg (fun e0=>spec_l01Start_l0_L e0 a0 FUEL (0:Int) (List.replicate 8 (0:Int))) (funext fun y30=>(f147_l0_exit0 FUEL y30).trans (rfl))))

def f147_con:Con:={ps:=K19,sh:=spec_l01Start_sh,raw:=fun x=>spec_l01Start_r x.1}
theorem f147_conOk:ConOk Tryz.prog 147 f147_con:=con_of_fn (f147_tabs FUEL) (depth:=8) f147_ok fun x y h=>(f147_run x.1).trans h

def f172_l0_cut:Cut:={keep:=[1,5],stk:=[],ids:=[90050],own:=[(5,90050,123)],outs:=[(1,[1,5],[90050])]}
def f172_l1_cut:Cut:={keep:=[1,5,6],stk:=[],ids:=[90050],own:=[(5,90050,123)],outs:=[(3,[5],[90050])]}
def f172_cx(k:Nat):Cx:=mkC [] [] [] [] [(172,[(0,f172_l0_cut),(2,f172_l1_cut)])] k [] false
theorem f172_tabs(k:Nat):TabsOk Tryz.prog (f172_cx k):=mkC_ok trivial trivial trivial trivial
abbrev spec_l01Padded_sh:List Sh:=[.own 5 (.int .u8)]
abbrev Q70:Type:=Option (shDen spec_l01Padded_sh)
def f172_l0_s(a1:Int)(z90050:(List Int)):St:={env:=(.dead:: .pv (.int .i64) a1::(dd 3 (.sl 90050 (.int .u8)::(dd 26 [])))),stk:=[],heap:=[(90050,.arr 5 (.int .u8) z90050)]}
def f172_l0_o0(a1:Int)(z90050:(List Int)):St:={env:=(.dead:: .pv (.int .i64) a1::(dd 3 (.sl 90050 (.int .u8)::(dd 26 [])))),stk:=[],heap:=[(90050,.arr 5 (.int .u8) z90050)]}
def f172_l1_s(z90050:(List Int))(x1:Int)(x6:Int):St:={env:=(.dead:: .pv (.int .i64) x1::(dd 3 (.sl 90050 (.int .u8):: .pv (.int .i64) x6::(dd 25 [])))),stk:=[],heap:=[(90050,.arr 5 (.int .u8) z90050)]}
def f172_l1_o2(z90050:(List Int)):St:={env:=(dd 5 (.sl 90050 (.int .u8)::(dd 26 []))),stk:=[],heap:=[(90050,.arr 5 (.int .u8) z90050)]}
def spec_l01Padded_l1_b(rec:(List Int)→Int→Int→Q70)(ke2:(List Int)→Q70)(z90050:(List Int))(x1:Int)(x6:Int):Q70:=
 (cond (decide (x6<(8:Int)))
 (cond (decide ((z90050.length+1)*1≤140737488355328)&&decide (z90050.length+1≤9223372036854775807))
 (rec (z90050++[(IntKind.wrap .u8 (Int.tmod x1 (256:Int)))]) (IntKind.wrap .i64 (Int.tdiv x1 (256:Int))) (IntKind.wrap .i64 (x6+(1:Int))))
 none)
 (ke2 z90050))
def spec_l01Padded_l1_L(ke2:(List Int)→Q70):Nat→(List Int)→Int→Int→Q70
 |0=>fun _ _ _=>none
 |n+1=>spec_l01Padded_l1_b (spec_l01Padded_l1_L ke2 n) ke2
def spec_l01Padded_l0_b(rec:(List Int)→Q70)(ke0:(List Int)→Q70)(a1:Int)(z90050:(List Int)):Q70:=
 (cond (!(decide ((Int.tmod (z90050.length:Int) (32:Int))=(24:Int))))
 (cond (decide ((z90050.length+1)*1≤140737488355328)&&decide (z90050.length+1≤9223372036854775807))
 (rec (z90050++[(0:Int)]))
 none)
 (ke0 z90050))
def spec_l01Padded_l0_L(ke0:(List Int)→Q70)(a1:Int):Nat→(List Int)→Q70
 |0=>fun _=>none
 |n+1=>spec_l01Padded_l0_b (spec_l01Padded_l0_L ke0 a1 n) ke0 a1
def spec_l01Padded_r(a0:(List Int))(a1:Int):Q70:=
 (cond (decide ((0+a0.length)*1≤140737488355328)&&decide (0+a0.length≤9223372036854775807))
 (cond (decide ((([]++a0).length+1)*1≤140737488355328)&&decide (([]++a0).length+1≤9223372036854775807))
 (spec_l01Padded_l0_L (fun z90050=>(spec_l01Padded_l1_L (fun z90050=>(some z90050)) FUEL z90050 a1 (0:Int))) a1 FUEL (([]++a0)++[(128:Int)]))
 none)
 none)
def f172_l1_p(k:Nat)(K:Ex→St→Q70)(n:Nat)(z90050:(List Int))(x1:Int)(x6:Int):Q70:=loopK (f172_cx k) 0 (execK (f172_cx k) (callK (f172_cx k) 8) 0 172 (sub f172_c [1,1,1,0,1,0,0])) f172_l1_cut K n (f172_l1_s z90050 x1 x6)

theorem f172_l1_exit2(k:Nat)(z90050:(List Int)):((blkK 2 (seqK (execK (f172_cx k) (callK (f172_cx k) 8) 0 172 (sub f172_c [1,1,1,1])) (finK (f172_cx k) f172_i spec_l01Padded_sh))) (.exit 2) (f172_l1_o2 z90050):Q70)=
 ((some z90050):Q70):=by kernel_rfl

theorem f172_l1_round(k:Nat)(K:Ex→St→Q70)(n:Nat)(z90050:(List Int))(x1:Int)(x6:Int):(f172_l1_p k K (n+1) z90050 x1 x6:Q70)=spec_l01Padded_l1_b ((fun z90050 x1 x6=>f172_l1_p k K n z90050 x1 x6)) (fun z90050=>K (.exit 2) (f172_l1_o2 z90050)) z90050 x1 x6:=by kernel_rfl

theorem f172_l1_L_eq(K:Ex→St→Q70):∀(n:Nat) (z90050:(List Int)) (x1:Int) (x6:Int),(f172_l1_p FUEL K n z90050 x1 x6:Q70)=spec_l01Padded_l1_L (fun z90050=>K (.exit 2) (f172_l1_o2 z90050)) n z90050 x1 x6:=by
 intro n
 induction n with
 |zero=>intros; rfl
 |succ n ih=>
  intro z90050 x1 x6
  exact(f172_l1_round FUEL K n z90050 x1 x6).trans (congrArg (fun f=>spec_l01Padded_l1_b f (fun z90050=>K (.exit 2) (f172_l1_o2 z90050)) z90050 x1 x6) (funext fun z90050=>funext fun x1=>funext fun x6=>ih z90050 x1 x6))

def f172_l0_p(k:Nat)(K:Ex→St→Q70)(n:Nat)(a1:Int)(z90050:(List Int)):Q70:=loopK (f172_cx k) 0 (execK (f172_cx k) (callK (f172_cx k) 8) 0 172 (sub f172_c [1,1,0,0,0])) f172_l0_cut K n (f172_l0_s a1 z90050)

theorem f172_l0_exit0(k:Nat)(a1:Int)(z90050:(List Int)):((blkK 0 (seqK (execK (f172_cx k) (callK (f172_cx k) 8) 0 172 (sub f172_c [1,1,1])) (finK (f172_cx k) f172_i spec_l01Padded_sh))) (.exit 0) (f172_l0_o0 a1 z90050):Q70)=
 ((loopK (f172_cx k) 0 (execK (f172_cx k) (callK (f172_cx k) 8) 0 172 (sub f172_c [1,1,1,0,1,0,0])) f172_l1_cut (blkK 2 (seqK (execK (f172_cx k) (callK (f172_cx k) 8) 0 172 (sub f172_c [1,1,1,1])) (finK (f172_cx k) f172_i spec_l01Padded_sh))) k (f172_l1_s z90050 a1 (0:Int))):Q70):=by kernel_rfl

theorem f172_l0_round(k:Nat)(K:Ex→St→Q70)(n:Nat)(a1:Int)(z90050:(List Int)):(f172_l0_p k K (n+1) a1 z90050:Q70)=spec_l01Padded_l0_b ((fun z90050=>f172_l0_p k K n a1 z90050)) (fun z90050=>K (.exit 0) (f172_l0_o0 a1 z90050)) a1 z90050:=by kernel_rfl

theorem f172_l0_L_eq(K:Ex→St→Q70)(a1:Int):∀(n:Nat) (z90050:(List Int)),(f172_l0_p FUEL K n a1 z90050:Q70)=spec_l01Padded_l0_L (fun z90050=>K (.exit 0) (f172_l0_o0 a1 z90050)) a1 n z90050:=by
 intro n
 induction n with
 |zero=>intros; rfl
 |succ n ih=>
  intro z90050
  exact(f172_l0_round FUEL K n a1 z90050).trans (congrArg (fun f=>spec_l01Padded_l0_b f (fun z90050=>K (.exit 0) (f172_l0_o0 a1 z90050)) a1 z90050) (funext fun z90050=>ih z90050))

theorem f172_start(k:Nat)(a0:(List Int))(a1:Int):fnK (f172_cx k) 8 172 f172_i spec_l01Padded_sh [.pv K20 a0,.pv (.int .i64) a1]=
 ((cond (decide ((0+a0.length)*1≤140737488355328)&&decide (0+a0.length≤9223372036854775807))
 (cond (decide ((([]++a0).length+1)*1≤140737488355328)&&decide (([]++a0).length+1≤9223372036854775807))
 (loopK (f172_cx k) 0 (execK (f172_cx k) (callK (f172_cx k) 8) 0 172 (sub f172_c [1,1,0,0,0])) f172_l0_cut (blkK 0 (seqK (execK (f172_cx k) (callK (f172_cx k) 8) 0 172 (sub f172_c [1,1,1])) (finK (f172_cx k) f172_i spec_l01Padded_sh))) k (f172_l0_s a1 (([]++a0)++[(128:Int)])))
 none)
 none):Q70):=by kernel_rfl

theorem f172_run(a0:(List Int))(a1:Int):fnK (f172_cx FUEL) 8 172 f172_i spec_l01Padded_sh [.pv K20 a0,.pv (.int .i64) a1]=spec_l01Padded_r a0 a1:=
 (f172_start FUEL a0 a1).trans (condC (condC ((f172_l0_L_eq _ a1 FUEL (([]++a0)++[(128:Int)])).trans (congrArg (fun e0=>spec_l01Padded_l0_L e0 a1 FUEL (([]++a0)++[(128:Int)])) (funext fun z90050=>(f172_l0_exit0 FUEL a1 z90050).trans ((f172_l1_L_eq _ FUEL z90050 a1 (0:Int)).trans (congrArg (fun e0=>spec_l01Padded_l1_L e0 FUEL z90050 a1 (0:Int)) (funext fun z90050=>(f172_l1_exit2 FUEL z90050).trans (rfl))))))) (rfl)) (rfl))

def f172_con:Con:={ps:=K9,sh:=spec_l01Padded_sh,raw:=fun x=>spec_l01Padded_r x.1 x.2.1}
theorem f172_conOk:ConOk Tryz.prog 172 f172_con:=con_of_fn (f172_tabs FUEL) (depth:=8) f172_ok fun x y h=>(f172_run x.1 x.2.1).trans h

def f174_l0_cut:Cut:={keep:=[0,1,4,5,6],stk:=[],ids:=[40,50],own:=[],outs:=[(1,[4,5],[40,50])]}
def f174_cx(k:Nat):Cx:=mkC [] [] [] [] [(174,[(0,f174_l0_cut)])] k [] false
theorem f174_tabs(k:Nat):TabsOk Tryz.prog (f174_cx k):=mkC_ok trivial trivial trivial trivial
abbrev spec_l01Block_sh:List Sh:=[.pl (.arr 32 (.int .u8))]
abbrev Q64:Type:=Option (shDen spec_l01Block_sh)
def f174_l0_s(a0:(List Int))(a1:Int)(x6:Int)(y50:(List Int)):St:={env:=(.pv K20 a0:: .pv (.int .i64) a1:: .dead:: .dead:: .ptr 40 (.arr 32 (.int .u8)) []:: .ptr 50 (.arr 32 (.int .u8)) []:: .pv (.int .i64) x6::(dd 14 [])),stk:=[],heap:=[(40,.var (.arr 32 (.int .u8)) (.pv (.arr 32 (.int .u8)) (List.replicate 32 (0:Int)))),(50,.var (.arr 32 (.int .u8)) (.pv (.arr 32 (.int .u8)) y50))]}
def f174_l0_o0(y50:(List Int)):St:={env:=(dd 4 (.ptr 40 (.arr 32 (.int .u8)) []:: .ptr 50 (.arr 32 (.int .u8)) []::(dd 15 []))),stk:=[],heap:=[(40,.var (.arr 32 (.int .u8)) (.pv (.arr 32 (.int .u8)) (List.replicate 32 (0:Int)))),(50,.var (.arr 32 (.int .u8)) (.pv (.arr 32 (.int .u8)) y50))]}
def spec_l01Block_l0_b(rec:Int→(List Int)→Q64)(ke0:(List Int)→Q64)(a0:(List Int))(a1:Int)(x6:Int)(y50:(List Int)):Q64:=
 (cond (decide (x6<(32:Int)))
 (cond ((decide ((0:Int)≤(IntKind.wrap .i64 (a1+x6))))&&(decide ((IntKind.wrap .i64 (a1+x6))<(a0.length:Int))))
 (cond ((decide ((0:Int)≤x6))&&(decide (x6<(32:Int))))
 (rec (IntKind.wrap .i64 (x6+(1:Int))) (y50.set (x6.toNat) (a0.getD ((IntKind.wrap .i64 (a1+x6)).toNat) (0:Int))))
 none)
 none)
 (ke0 y50))
def spec_l01Block_l0_L(ke0:(List Int)→Q64)(a0:(List Int))(a1:Int):Nat→Int→(List Int)→Q64
 |0=>fun _ _=>none
 |n+1=>spec_l01Block_l0_b (spec_l01Block_l0_L ke0 a0 a1 n) ke0 a0 a1
def spec_l01Block_r(a0:(List Int))(a1:Int):Q64:=
 (spec_l01Block_l0_L (fun y50=>(some y50)) a0 a1 FUEL (0:Int) (List.replicate 32 (0:Int)))
def f174_l0_p(k:Nat)(K:Ex→St→Q64)(n:Nat)(a0:(List Int))(a1:Int)(x6:Int)(y50:(List Int)):Q64:=loopK (f174_cx k) 0 (execK (f174_cx k) (callK (f174_cx k) 8) 0 174 (sub f174_c [1,1,0,1,0,0])) f174_l0_cut K n (f174_l0_s a0 a1 x6 y50)

theorem f174_l0_exit0(k:Nat)(y50:(List Int)):((blkK 0 (seqK (execK (f174_cx k) (callK (f174_cx k) 8) 0 174 (sub f174_c [1,1,1])) (finK (f174_cx k) f174_i spec_l01Block_sh))) (.exit 0) (f174_l0_o0 y50):Q64)=
 ((some y50):Q64):=by kernel_rfl

theorem f174_l0_round(k:Nat)(K:Ex→St→Q64)(n:Nat)(a0:(List Int))(a1:Int)(x6:Int)(y50:(List Int)):(f174_l0_p k K (n+1) a0 a1 x6 y50:Q64)=spec_l01Block_l0_b ((fun x6 y50=>f174_l0_p k K n a0 a1 x6 y50)) (fun y50=>K (.exit 0) (f174_l0_o0 y50)) a0 a1 x6 y50:=by kernel_rfl

theorem f174_l0_L_eq(K:Ex→St→Q64)(a0:(List Int))(a1:Int):∀(n:Nat) (x6:Int) (y50:(List Int)),(f174_l0_p FUEL K n a0 a1 x6 y50:Q64)=spec_l01Block_l0_L (fun y50=>K (.exit 0) (f174_l0_o0 y50)) a0 a1 n x6 y50:=by
 intro n
 induction n with
 |zero=>intros; rfl
 |succ n ih=>
  intro x6 y50
  exact(f174_l0_round FUEL K n a0 a1 x6 y50).trans (congrArg (fun f=>spec_l01Block_l0_b f (fun y50=>K (.exit 0) (f174_l0_o0 y50)) a0 a1 x6 y50) (funext fun x6=>funext fun y50=>ih x6 y50))

theorem f174_start(k:Nat)(a0:(List Int))(a1:Int):fnK (f174_cx k) 8 174 f174_i spec_l01Block_sh [.pv K20 a0,.pv (.int .i64) a1]=
 ((loopK (f174_cx k) 0 (execK (f174_cx k) (callK (f174_cx k) 8) 0 174 (sub f174_c [1,1,0,1,0,0])) f174_l0_cut (blkK 0 (seqK (execK (f174_cx k) (callK (f174_cx k) 8) 0 174 (sub f174_c [1,1,1])) (finK (f174_cx k) f174_i spec_l01Block_sh))) k (f174_l0_s a0 a1 (0:Int) (List.replicate 32 (0:Int)))):Q64):=by kernel_rfl

theorem f174_run(a0:(List Int))(a1:Int):fnK (f174_cx FUEL) 8 174 f174_i spec_l01Block_sh [.pv K20 a0,.pv (.int .i64) a1]=spec_l01Block_r a0 a1:=
 (f174_start FUEL a0 a1).trans ((f174_l0_L_eq _ a0 a1 FUEL (0:Int) (List.replicate 32 (0:Int))).trans (congrArg (fun e0=>spec_l01Block_l0_L e0 a0 a1 FUEL (0:Int) (List.replicate 32 (0:Int))) (funext fun y50=>(f174_l0_exit0 FUEL y50).trans (rfl))))

def f174_con:Con:={ps:=K9,sh:=spec_l01Block_sh,raw:=fun x=>spec_l01Block_r x.1 x.2.1}
theorem f174_conOk:ConOk Tryz.prog 174 f174_con:=con_of_fn (f174_tabs FUEL) (depth:=8) f174_ok fun x y h=>(f174_run x.1 x.2.1).trans h

def f190_cx(k:Nat):Cx:=mkC [] [] [] [] [] k [] false
theorem f190_tabs(k:Nat):TabsOk Tryz.prog (f190_cx k):=mkC_ok trivial trivial trivial trivial
abbrev spec_l01Turn_sh:List Sh:=[.pl (.int .u32)]
abbrev Q72:Type:=Option (shDen spec_l01Turn_sh)
def spec_l01Turn_r(a0:Int)(a1:Int):Q72:=
 (cond (decide (a1<(0:Int)))
 none
 (cond (decide ((IntKind.wrap .u64 ((32:Int)-a1))<(0:Int)))
 none
 (some (bitI .or .u32 (shlI .u32 a0 a1) (shrI .u32 a0 (IntKind.wrap .u64 ((32:Int)-a1)))))))
theorem f190_run(a0:Int)(a1:Int):fnK (f190_cx FUEL) 8 190 f190_i spec_l01Turn_sh [.pv (.int .u32) a0,.pv (.int .u64) a1]=spec_l01Turn_r a0 a1:=by kernel_rfl

def f190_con:Con:={ps:=(.pair (.int .u32) (.pair (.int .u64) .unit)),sh:=spec_l01Turn_sh,raw:=fun x=>spec_l01Turn_r x.1 x.2.1}
theorem f190_conOk:ConOk Tryz.prog 190 f190_con:=con_of_fn (f190_tabs FUEL) (depth:=8) f190_ok fun x y h=>(f190_run x.1 x.2.1).trans h

def f173_l0_cut:Cut:={keep:=[2,3,4,5,6],stk:=[],ids:=[20,30,40,50],own:=[],outs:=[(1,[2,4,5],[20,40,50])]}
def f173_l1_cut:Cut:={keep:=[2,3,4,5,6,7],stk:=[],ids:=[20,30,40,50],own:=[],outs:=[(3,[2,3,4,5,6],[20,30,40,50])]}
def f173_l2_cut:Cut:={keep:=[2,4,5,8,9],stk:=[],ids:=[20,40,50,80],own:=[],outs:=[(5,[2,4,8],[20,40,80])]}
def f173_l3_cut:Cut:={keep:=[2,4,5,8,9,10],stk:=[],ids:=[20,40,50,80],own:=[],outs:=[(7,[2,4,5,8,9],[20,40,50,80])]}
def f173_l4_cut:Cut:={keep:=[2,4,8,13],stk:=[],ids:=[20,40,80],own:=[],outs:=[(9,[4,8],[40,80])]}
def f173_cx(k:Nat):Cx:=mkC [] [(190,f190_con)] [] [] [(173,[(0,f173_l0_cut),(2,f173_l1_cut),(4,f173_l2_cut),(6,f173_l3_cut),(8,f173_l4_cut)])] k [] false
theorem f173_tabs(k:Nat):TabsOk Tryz.prog (f173_cx k):=mkC_ok ⟨f190_conOk,trivial⟩ trivial trivial trivial
abbrev spec_l01Mix_sh:List Sh:=[.pl (.arr 8 (.int .u32))]
abbrev Q69:Type:=Option (shDen spec_l01Mix_sh)
def f173_l0_s(a0:(List Int))(a1:(List Int))(x6:Int)(y50:(List Int)):St:={env:=(.dead:: .dead:: .ptr 20 (.arr 8 (.int .u32)) []:: .ptr 30 (.arr 32 (.int .u8)) []:: .ptr 40 (.arr 8 (.int .u32)) []:: .ptr 50 (.arr 8 (.int .u32)) []:: .pv (.int .i64) x6::(dd 89 [])),stk:=[],heap:=[(20,.var (.arr 8 (.int .u32)) (.pv (.arr 8 (.int .u32)) a0)),(30,.var (.arr 32 (.int .u8)) (.pv (.arr 32 (.int .u8)) a1)),(40,.var (.arr 8 (.int .u32)) (.pv (.arr 8 (.int .u32)) (List.replicate 8 (0:Int)))),(50,.var (.arr 8 (.int .u32)) (.pv (.arr 8 (.int .u32)) y50))]}
def f173_l0_o0(a0:(List Int))(y50:(List Int)):St:={env:=(.dead:: .dead:: .ptr 20 (.arr 8 (.int .u32)) []:: .dead:: .ptr 40 (.arr 8 (.int .u32)) []:: .ptr 50 (.arr 8 (.int .u32)) []::(dd 90 [])),stk:=[],heap:=[(20,.var (.arr 8 (.int .u32)) (.pv (.arr 8 (.int .u32)) a0)),(40,.var (.arr 8 (.int .u32)) (.pv (.arr 8 (.int .u32)) (List.replicate 8 (0:Int)))),(50,.var (.arr 8 (.int .u32)) (.pv (.arr 8 (.int .u32)) y50))]}
def f173_l1_s(a0:(List Int))(a1:(List Int))(x6:Int)(x7:Int)(y50:(List Int)):St:={env:=(.dead:: .dead:: .ptr 20 (.arr 8 (.int .u32)) []:: .ptr 30 (.arr 32 (.int .u8)) []:: .ptr 40 (.arr 8 (.int .u32)) []:: .ptr 50 (.arr 8 (.int .u32)) []:: .pv (.int .i64) x6:: .pv (.int .i64) x7::(dd 88 [])),stk:=[],heap:=[(20,.var (.arr 8 (.int .u32)) (.pv (.arr 8 (.int .u32)) a0)),(30,.var (.arr 32 (.int .u8)) (.pv (.arr 32 (.int .u8)) a1)),(40,.var (.arr 8 (.int .u32)) (.pv (.arr 8 (.int .u32)) (List.replicate 8 (0:Int)))),(50,.var (.arr 8 (.int .u32)) (.pv (.arr 8 (.int .u32)) y50))]}
def f173_l1_o2(a0:(List Int))(a1:(List Int))(x6:Int)(y50:(List Int)):St:={env:=(.dead:: .dead:: .ptr 20 (.arr 8 (.int .u32)) []:: .ptr 30 (.arr 32 (.int .u8)) []:: .ptr 40 (.arr 8 (.int .u32)) []:: .ptr 50 (.arr 8 (.int .u32)) []:: .pv (.int .i64) x6::(dd 89 [])),stk:=[],heap:=[(20,.var (.arr 8 (.int .u32)) (.pv (.arr 8 (.int .u32)) a0)),(30,.var (.arr 32 (.int .u8)) (.pv (.arr 32 (.int .u8)) a1)),(40,.var (.arr 8 (.int .u32)) (.pv (.arr 8 (.int .u32)) (List.replicate 8 (0:Int)))),(50,.var (.arr 8 (.int .u32)) (.pv (.arr 8 (.int .u32)) y50))]}
def f173_l2_s(a0:(List Int))(y50:(List Int))(x9:Int)(y80:(List Int)):St:={env:=(.dead:: .dead:: .ptr 20 (.arr 8 (.int .u32)) []:: .dead:: .ptr 40 (.arr 8 (.int .u32)) []:: .ptr 50 (.arr 8 (.int .u32)) []:: .dead:: .dead:: .ptr 80 (.arr 8 (.int .u32)) []:: .pv (.int .i64) x9::(dd 86 [])),stk:=[],heap:=[(20,.var (.arr 8 (.int .u32)) (.pv (.arr 8 (.int .u32)) a0)),(40,.var (.arr 8 (.int .u32)) (.pv (.arr 8 (.int .u32)) (List.replicate 8 (0:Int)))),(50,.var (.arr 8 (.int .u32)) (.pv (.arr 8 (.int .u32)) y50)),(80,.var (.arr 8 (.int .u32)) (.pv (.arr 8 (.int .u32)) y80))]}
def f173_l2_o4(a0:(List Int))(y80:(List Int)):St:={env:=(.dead:: .dead:: .ptr 20 (.arr 8 (.int .u32)) []:: .dead:: .ptr 40 (.arr 8 (.int .u32)) []::(dd 3 (.ptr 80 (.arr 8 (.int .u32)) []::(dd 87 [])))),stk:=[],heap:=[(20,.var (.arr 8 (.int .u32)) (.pv (.arr 8 (.int .u32)) a0)),(40,.var (.arr 8 (.int .u32)) (.pv (.arr 8 (.int .u32)) (List.replicate 8 (0:Int)))),(80,.var (.arr 8 (.int .u32)) (.pv (.arr 8 (.int .u32)) y80))]}
def f173_l3_s(a0:(List Int))(y50:(List Int))(x9:Int)(x10:Int)(y80:(List Int)):St:={env:=(.dead:: .dead:: .ptr 20 (.arr 8 (.int .u32)) []:: .dead:: .ptr 40 (.arr 8 (.int .u32)) []:: .ptr 50 (.arr 8 (.int .u32)) []:: .dead:: .dead:: .ptr 80 (.arr 8 (.int .u32)) []:: .pv (.int .i64) x9:: .pv (.int .i64) x10::(dd 85 [])),stk:=[],heap:=[(20,.var (.arr 8 (.int .u32)) (.pv (.arr 8 (.int .u32)) a0)),(40,.var (.arr 8 (.int .u32)) (.pv (.arr 8 (.int .u32)) (List.replicate 8 (0:Int)))),(50,.var (.arr 8 (.int .u32)) (.pv (.arr 8 (.int .u32)) y50)),(80,.var (.arr 8 (.int .u32)) (.pv (.arr 8 (.int .u32)) y80))]}
def f173_l3_o6(a0:(List Int))(y50:(List Int))(x9:Int)(y80:(List Int)):St:={env:=(.dead:: .dead:: .ptr 20 (.arr 8 (.int .u32)) []:: .dead:: .ptr 40 (.arr 8 (.int .u32)) []:: .ptr 50 (.arr 8 (.int .u32)) []:: .dead:: .dead:: .ptr 80 (.arr 8 (.int .u32)) []:: .pv (.int .i64) x9::(dd 86 [])),stk:=[],heap:=[(20,.var (.arr 8 (.int .u32)) (.pv (.arr 8 (.int .u32)) a0)),(40,.var (.arr 8 (.int .u32)) (.pv (.arr 8 (.int .u32)) (List.replicate 8 (0:Int)))),(50,.var (.arr 8 (.int .u32)) (.pv (.arr 8 (.int .u32)) y50)),(80,.var (.arr 8 (.int .u32)) (.pv (.arr 8 (.int .u32)) y80))]}
def f173_l4_s(a0:(List Int))(y80:(List Int))(x13:Int):St:={env:=(.dead:: .dead:: .ptr 20 (.arr 8 (.int .u32)) []:: .dead:: .ptr 40 (.arr 8 (.int .u32)) []::(dd 3 (.ptr 80 (.arr 8 (.int .u32)) []::(dd 4 (.pv (.int .i64) x13::(dd 82 [])))))),stk:=[],heap:=[(20,.var (.arr 8 (.int .u32)) (.pv (.arr 8 (.int .u32)) a0)),(40,.var (.arr 8 (.int .u32)) (.pv (.arr 8 (.int .u32)) (List.replicate 8 (0:Int)))),(80,.var (.arr 8 (.int .u32)) (.pv (.arr 8 (.int .u32)) y80))]}
def f173_l4_o8(y80:(List Int)):St:={env:=(dd 4 (.ptr 40 (.arr 8 (.int .u32)) []::(dd 3 (.ptr 80 (.arr 8 (.int .u32)) []::(dd 87 []))))),stk:=[],heap:=[(40,.var (.arr 8 (.int .u32)) (.pv (.arr 8 (.int .u32)) (List.replicate 8 (0:Int)))),(80,.var (.arr 8 (.int .u32)) (.pv (.arr 8 (.int .u32)) y80))]}
def spec_l01Mix_l4_b(rec:(List Int)→Int→Q69)(ke8:(List Int)→Q69)(a0:(List Int))(y80:(List Int))(x13:Int):Q69:=
 (cond (decide (x13<(8:Int)))
 (cond ((decide ((0:Int)≤x13))&&(decide (x13<(8:Int))))
 (cond ((decide ((0:Int)≤x13))&&(decide (x13<(8:Int))))
 (cond ((decide ((0:Int)≤x13))&&(decide (x13<(8:Int))))
 (rec (y80.set (x13.toNat) (bitI .xor .u32 (y80.getD (x13.toNat) (0:Int)) (a0.getD (x13.toNat) (0:Int)))) (IntKind.wrap .i64 (x13+(1:Int))))
 none)
 none)
 none)
 (ke8 y80))
def spec_l01Mix_l4_L(ke8:(List Int)→Q69)(a0:(List Int)):Nat→(List Int)→Int→Q69
 |0=>fun _ _=>none
 |n+1=>spec_l01Mix_l4_b (spec_l01Mix_l4_L ke8 a0 n) ke8 a0
def spec_l01Mix_l3_b(rec:Int→(List Int)→Q69)(ke6:(List Int)→Q69)(a0:(List Int))(y50:(List Int))(x9:Int)(x10:Int)(y80:(List Int)):Q69:=
 (cond (decide (x10<(8:Int)))
 (cond ((decide ((0:Int)≤x10))&&(decide (x10<(8:Int))))
 (cond ((decide ((0:Int)≤(Int.tmod (IntKind.wrap .i64 (x10+(IntKind.wrap .i64 ((3:Int)*x9)))) (8:Int))))&&(decide ((Int.tmod (IntKind.wrap .i64 (x10+(IntKind.wrap .i64 ((3:Int)*x9)))) (8:Int))<(8:Int))))
 (bindO (spec_l01Turn_r (IntKind.wrap .u32 ((IntKind.wrap .u32 ((y80.getD (x10.toNat) (0:Int))+(y50.getD ((Int.tmod (IntKind.wrap .i64 (x10+(IntKind.wrap .i64 ((3:Int)*x9)))) (8:Int)).toNat) (0:Int))))+(IntKind.wrap .u32 ((2654435769:Int)*(IntKind.wrap .u32 (IntKind.wrap .i64 ((IntKind.wrap .i64 ((IntKind.wrap .i64 ((8:Int)*x9))+x10))+(1:Int)))))))) (7:Int)) fun(b7:Int)=>(cond ((decide ((0:Int)≤(Int.tmod (IntKind.wrap .i64 (x10+(1:Int))) (8:Int))))&&(decide ((Int.tmod (IntKind.wrap .i64 (x10+(1:Int))) (8:Int))<(8:Int))))
 (cond ((decide ((0:Int)≤(Int.tmod (IntKind.wrap .i64 (x10+(5:Int))) (8:Int))))&&(decide ((Int.tmod (IntKind.wrap .i64 (x10+(5:Int))) (8:Int))<(8:Int))))
 (bindO (spec_l01Turn_r (y80.getD ((Int.tmod (IntKind.wrap .i64 (x10+(5:Int))) (8:Int)).toNat) (0:Int)) (13:Int)) fun(b8:Int)=>(cond ((decide ((0:Int)≤x10))&&(decide (x10<(8:Int))))
 (rec (IntKind.wrap .i64 (x10+(1:Int))) (y80.set (x10.toNat) (IntKind.wrap .u32 ((bitI .xor .u32 b7 (y80.getD ((Int.tmod (IntKind.wrap .i64 (x10+(1:Int))) (8:Int)).toNat) (0:Int)))+b8))))
 none))
 none)
 none))
 none)
 none)
 (ke6 y80))
def spec_l01Mix_l3_L(ke6:(List Int)→Q69)(a0:(List Int))(y50:(List Int))(x9:Int):Nat→Int→(List Int)→Q69
 |0=>fun _ _=>none
 |n+1=>spec_l01Mix_l3_b (spec_l01Mix_l3_L ke6 a0 y50 x9 n) ke6 a0 y50 x9
def spec_l01Mix_l2_b(rec:(List Int)→Int→(List Int)→Q69)(ke4:(List Int)→Q69)(a0:(List Int))(y50:(List Int))(x9:Int)(y80:(List Int)):Q69:=
 (cond (decide (x9<(12:Int)))
 (spec_l01Mix_l3_L (fun y80=>(rec y50 (IntKind.wrap .i64 (x9+(1:Int))) y80)) a0 y50 x9 FUEL (0:Int) y80)
 (ke4 y80))
def spec_l01Mix_l2_L(ke4:(List Int)→Q69)(a0:(List Int)):Nat→(List Int)→Int→(List Int)→Q69
 |0=>fun _ _ _=>none
 |n+1=>spec_l01Mix_l2_b (spec_l01Mix_l2_L ke4 a0 n) ke4 a0
def spec_l01Mix_l1_b(rec:Int→(List Int)→Q69)(ke2:(List Int)→Q69)(a0:(List Int))(a1:(List Int))(x6:Int)(x7:Int)(y50:(List Int)):Q69:=
 (cond (decide ((0:Int)≤x7))
 (cond ((decide ((0:Int)≤x6))&&(decide (x6<(8:Int))))
 (cond ((decide ((0:Int)≤(IntKind.wrap .i64 ((IntKind.wrap .i64 ((4:Int)*x6))+x7))))&&(decide ((IntKind.wrap .i64 ((IntKind.wrap .i64 ((4:Int)*x6))+x7))<(32:Int))))
 (cond ((decide ((0:Int)≤x6))&&(decide (x6<(8:Int))))
 (rec (IntKind.wrap .i64 (x7-(1:Int))) (y50.set (x6.toNat) (bitI .or .u32 (shlI .u32 (y50.getD (x6.toNat) (0:Int)) (8:Int)) (IntKind.wrap .u32 (a1.getD ((IntKind.wrap .i64 ((IntKind.wrap .i64 ((4:Int)*x6))+x7)).toNat) (0:Int))))))
 none)
 none)
 none)
 (ke2 y50))
def spec_l01Mix_l1_L(ke2:(List Int)→Q69)(a0:(List Int))(a1:(List Int))(x6:Int):Nat→Int→(List Int)→Q69
 |0=>fun _ _=>none
 |n+1=>spec_l01Mix_l1_b (spec_l01Mix_l1_L ke2 a0 a1 x6 n) ke2 a0 a1 x6
def spec_l01Mix_l0_b(rec:Int→(List Int)→Q69)(ke0:(List Int)→Q69)(a0:(List Int))(a1:(List Int))(x6:Int)(y50:(List Int)):Q69:=
 (cond (decide (x6<(8:Int)))
 (spec_l01Mix_l1_L (fun y50=>(rec (IntKind.wrap .i64 (x6+(1:Int))) y50)) a0 a1 x6 FUEL (3:Int) y50)
 (ke0 y50))
def spec_l01Mix_l0_L(ke0:(List Int)→Q69)(a0:(List Int))(a1:(List Int)):Nat→Int→(List Int)→Q69
 |0=>fun _ _=>none
 |n+1=>spec_l01Mix_l0_b (spec_l01Mix_l0_L ke0 a0 a1 n) ke0 a0 a1
def spec_l01Mix_r(a0:(List Int))(a1:(List Int)):Q69:=
 (spec_l01Mix_l0_L (fun y50=>(spec_l01Mix_l2_L (fun y80=>(spec_l01Mix_l4_L (fun y80=>(some y80)) a0 FUEL y80 (0:Int))) a0 FUEL y50 (0:Int) a0)) a0 a1 FUEL (0:Int) (List.replicate 8 (0:Int)))
def f173_l4_p(k:Nat)(K:Ex→St→Q69)(n:Nat)(a0:(List Int))(y80:(List Int))(x13:Int):Q69:=loopK (f173_cx k) 0 (execK (f173_cx k) (callK (f173_cx k) 8) 0 173 (sub f173_c [1,1,1,1,1,0,1,0,0])) f173_l4_cut K n (f173_l4_s a0 y80 x13)

theorem f173_l4_exit8(k:Nat)(y80:(List Int)):((blkK 8 (seqK (execK (f173_cx k) (callK (f173_cx k) 8) 0 173 (sub f173_c [1,1,1,1,1,1])) (finK (f173_cx k) f173_i spec_l01Mix_sh))) (.exit 8) (f173_l4_o8 y80):Q69)=
 ((some y80):Q69):=by kernel_rfl

theorem f173_l4_round(k:Nat)(K:Ex→St→Q69)(n:Nat)(a0:(List Int))(y80:(List Int))(x13:Int):(f173_l4_p k K (n+1) a0 y80 x13:Q69)=spec_l01Mix_l4_b ((fun y80 x13=>f173_l4_p k K n a0 y80 x13)) (fun y80=>K (.exit 8) (f173_l4_o8 y80)) a0 y80 x13:=by kernel_rfl

theorem f173_l4_L_eq(K:Ex→St→Q69)(a0:(List Int)):∀(n:Nat) (y80:(List Int)) (x13:Int),(f173_l4_p FUEL K n a0 y80 x13:Q69)=spec_l01Mix_l4_L (fun y80=>K (.exit 8) (f173_l4_o8 y80)) a0 n y80 x13:=by
 intro n
 induction n with
 |zero=>intros; rfl
 |succ n ih=>
  intro y80 x13
  exact(f173_l4_round FUEL K n a0 y80 x13).trans (congrArg (fun f=>spec_l01Mix_l4_b f (fun y80=>K (.exit 8) (f173_l4_o8 y80)) a0 y80 x13) (funext fun y80=>funext fun x13=>ih y80 x13))

def f173_l3_p(k:Nat)(K:Ex→St→Q69)(n:Nat)(a0:(List Int))(y50:(List Int))(x9:Int)(x10:Int)(y80:(List Int)):Q69:=loopK (f173_cx k) 0 (execK (f173_cx k) (callK (f173_cx k) 8) 0 173 (sub f173_c [1,1,1,1,0,1,0,0,1,0,0,1,0,0])) f173_l3_cut K n (f173_l3_s a0 y50 x9 x10 y80)

theorem f173_l3_exit6(k:Nat)(K:Ex→St→Q69)(n:Nat)(a0:(List Int))(y50:(List Int))(x9:Int)(y80:(List Int)):((blkK 6 (blkK 5 (seqK (execK (f173_cx k) (callK (f173_cx k) 8) 0 173 (sub f173_c [1,1,1,1,0,1,0,0,1,1])) (iterK (f173_cx k) 0 f173_l2_cut (loopK (f173_cx k) 0 (execK (f173_cx k) (callK (f173_cx k) 8) 0 173 (sub f173_c [1,1,1,1,0,1,0,0])) f173_l2_cut K n) K)))) (.exit 6) (f173_l3_o6 a0 y50 x9 y80):Q69)=
 ((loopK (f173_cx k) 0 (execK (f173_cx k) (callK (f173_cx k) 8) 0 173 (sub f173_c [1,1,1,1,0,1,0,0])) f173_l2_cut K n (f173_l2_s a0 y50 (IntKind.wrap .i64 (x9+(1:Int))) y80)):Q69):=by kernel_rfl

theorem f173_l3_round(k:Nat)(K:Ex→St→Q69)(n:Nat)(a0:(List Int))(y50:(List Int))(x9:Int)(x10:Int)(y80:(List Int)):(f173_l3_p k K (n+1) a0 y50 x9 x10 y80:Q69)=spec_l01Mix_l3_b ((fun x10 y80=>f173_l3_p k K n a0 y50 x9 x10 y80)) (fun y80=>K (.exit 6) (f173_l3_o6 a0 y50 x9 y80)) a0 y50 x9 x10 y80:=by kernel_rfl

theorem f173_l3_L_eq(K:Ex→St→Q69)(a0:(List Int))(y50:(List Int))(x9:Int):∀(n:Nat) (x10:Int) (y80:(List Int)),(f173_l3_p FUEL K n a0 y50 x9 x10 y80:Q69)=spec_l01Mix_l3_L (fun y80=>K (.exit 6) (f173_l3_o6 a0 y50 x9 y80)) a0 y50 x9 n x10 y80:=by
 intro n
 induction n with
 |zero=>intros; rfl
 |succ n ih=>
  intro x10 y80
  exact(f173_l3_round FUEL K n a0 y50 x9 x10 y80).trans (congrArg (fun f=>spec_l01Mix_l3_b f (fun y80=>K (.exit 6) (f173_l3_o6 a0 y50 x9 y80)) a0 y50 x9 x10 y80) (funext fun x10=>funext fun y80=>ih x10 y80))

def f173_l2_p(k:Nat)(K:Ex→St→Q69)(n:Nat)(a0:(List Int))(y50:(List Int))(x9:Int)(y80:(List Int)):Q69:=loopK (f173_cx k) 0 (execK (f173_cx k) (callK (f173_cx k) 8) 0 173 (sub f173_c [1,1,1,1,0,1,0,0])) f173_l2_cut K n (f173_l2_s a0 y50 x9 y80)

theorem f173_l2_round(k:Nat)(K:Ex→St→Q69)(n:Nat)(a0:(List Int))(y50:(List Int))(x9:Int)(y80:(List Int)):(f173_l2_p k K (n+1) a0 y50 x9 y80:Q69)=
 ((cond (decide (x9<(12:Int)))
 (loopK (f173_cx k) 0 (execK (f173_cx k) (callK (f173_cx k) 8) 0 173 (sub f173_c [1,1,1,1,0,1,0,0,1,0,0,1,0,0])) f173_l3_cut (blkK 6 (blkK 5 (seqK (execK (f173_cx k) (callK (f173_cx k) 8) 0 173 (sub f173_c [1,1,1,1,0,1,0,0,1,1])) (iterK (f173_cx k) 0 f173_l2_cut (loopK (f173_cx k) 0 (execK (f173_cx k) (callK (f173_cx k) 8) 0 173 (sub f173_c [1,1,1,1,0,1,0,0])) f173_l2_cut K n) K)))) k (f173_l3_s a0 y50 x9 (0:Int) y80))
 (K (.exit 4) (f173_l2_o4 a0 y80))):Q69):=by kernel_rfl

theorem f173_l2_exit4(k:Nat)(a0:(List Int))(y80:(List Int)):((blkK 4 (seqK (execK (f173_cx k) (callK (f173_cx k) 8) 0 173 (sub f173_c [1,1,1,1,1])) (finK (f173_cx k) f173_i spec_l01Mix_sh))) (.exit 4) (f173_l2_o4 a0 y80):Q69)=
 ((loopK (f173_cx k) 0 (execK (f173_cx k) (callK (f173_cx k) 8) 0 173 (sub f173_c [1,1,1,1,1,0,1,0,0])) f173_l4_cut (blkK 8 (seqK (execK (f173_cx k) (callK (f173_cx k) 8) 0 173 (sub f173_c [1,1,1,1,1,1])) (finK (f173_cx k) f173_i spec_l01Mix_sh))) k (f173_l4_s a0 y80 (0:Int))):Q69):=by kernel_rfl

theorem f173_l2_L_eq(K:Ex→St→Q69)(a0:(List Int)):∀(n:Nat) (y50:(List Int)) (x9:Int) (y80:(List Int)),(f173_l2_p FUEL K n a0 y50 x9 y80:Q69)=spec_l01Mix_l2_L (fun y80=>K (.exit 4) (f173_l2_o4 a0 y80)) a0 n y50 x9 y80:=by
 intro n
 induction n with
 |zero=>intros; rfl
 |succ n ih=>
  intro y50 x9 y80
  exact(f173_l2_round FUEL K n a0 y50 x9 y80).trans (condC ((f173_l3_L_eq _ a0 y50 x9 FUEL (0:Int) y80).trans (congrArg (fun e0=>spec_l01Mix_l3_L e0 a0 y50 x9 FUEL (0:Int) y80) (funext fun y80=>(f173_l3_exit6 FUEL K n a0 y50 x9 y80).trans (ih y50 (IntKind.wrap .i64 (x9+(1:Int))) y80)))) (rfl))

def f173_l1_p(k:Nat)(K:Ex→St→Q69)(n:Nat)(a0:(List Int))(a1:(List Int))(x6:Int)(x7:Int)(y50:(List Int)):Q69:=loopK (f173_cx k) 0 (execK (f173_cx k) (callK (f173_cx k) 8) 0 173 (sub f173_c [1,1,0,1,0,0,1,0,0,1,0,0])) f173_l1_cut K n (f173_l1_s a0 a1 x6 x7 y50)

theorem f173_l1_exit2(k:Nat)(K:Ex→St→Q69)(n:Nat)(a0:(List Int))(a1:(List Int))(x6:Int)(y50:(List Int)):((blkK 2 (blkK 1 (seqK (execK (f173_cx k) (callK (f173_cx k) 8) 0 173 (sub f173_c [1,1,0,1,0,0,1,1])) (iterK (f173_cx k) 0 f173_l0_cut (loopK (f173_cx k) 0 (execK (f173_cx k) (callK (f173_cx k) 8) 0 173 (sub f173_c [1,1,0,1,0,0])) f173_l0_cut K n) K)))) (.exit 2) (f173_l1_o2 a0 a1 x6 y50):Q69)=
 ((loopK (f173_cx k) 0 (execK (f173_cx k) (callK (f173_cx k) 8) 0 173 (sub f173_c [1,1,0,1,0,0])) f173_l0_cut K n (f173_l0_s a0 a1 (IntKind.wrap .i64 (x6+(1:Int))) y50)):Q69):=by kernel_rfl

theorem f173_l1_round(k:Nat)(K:Ex→St→Q69)(n:Nat)(a0:(List Int))(a1:(List Int))(x6:Int)(x7:Int)(y50:(List Int)):(f173_l1_p k K (n+1) a0 a1 x6 x7 y50:Q69)=spec_l01Mix_l1_b ((fun x7 y50=>f173_l1_p k K n a0 a1 x6 x7 y50)) (fun y50=>K (.exit 2) (f173_l1_o2 a0 a1 x6 y50)) a0 a1 x6 x7 y50:=by kernel_rfl

theorem f173_l1_L_eq(K:Ex→St→Q69)(a0:(List Int))(a1:(List Int))(x6:Int):∀(n:Nat) (x7:Int) (y50:(List Int)),(f173_l1_p FUEL K n a0 a1 x6 x7 y50:Q69)=spec_l01Mix_l1_L (fun y50=>K (.exit 2) (f173_l1_o2 a0 a1 x6 y50)) a0 a1 x6 n x7 y50:=by
 intro n
 induction n with
 |zero=>intros; rfl
 |succ n ih=>
  intro x7 y50
  exact(f173_l1_round FUEL K n a0 a1 x6 x7 y50).trans (congrArg (fun f=>spec_l01Mix_l1_b f (fun y50=>K (.exit 2) (f173_l1_o2 a0 a1 x6 y50)) a0 a1 x6 x7 y50) (funext fun x7=>funext fun y50=>ih x7 y50))

def f173_l0_p(k:Nat)(K:Ex→St→Q69)(n:Nat)(a0:(List Int))(a1:(List Int))(x6:Int)(y50:(List Int)):Q69:=loopK (f173_cx k) 0 (execK (f173_cx k) (callK (f173_cx k) 8) 0 173 (sub f173_c [1,1,0,1,0,0])) f173_l0_cut K n (f173_l0_s a0 a1 x6 y50)

theorem f173_l0_round(k:Nat)(K:Ex→St→Q69)(n:Nat)(a0:(List Int))(a1:(List Int))(x6:Int)(y50:(List Int)):(f173_l0_p k K (n+1) a0 a1 x6 y50:Q69)=
 ((cond (decide (x6<(8:Int)))
 (loopK (f173_cx k) 0 (execK (f173_cx k) (callK (f173_cx k) 8) 0 173 (sub f173_c [1,1,0,1,0,0,1,0,0,1,0,0])) f173_l1_cut (blkK 2 (blkK 1 (seqK (execK (f173_cx k) (callK (f173_cx k) 8) 0 173 (sub f173_c [1,1,0,1,0,0,1,1])) (iterK (f173_cx k) 0 f173_l0_cut (loopK (f173_cx k) 0 (execK (f173_cx k) (callK (f173_cx k) 8) 0 173 (sub f173_c [1,1,0,1,0,0])) f173_l0_cut K n) K)))) k (f173_l1_s a0 a1 x6 (3:Int) y50))
 (K (.exit 0) (f173_l0_o0 a0 y50))):Q69):=by kernel_rfl

theorem f173_l0_exit0(k:Nat)(a0:(List Int))(y50:(List Int)):((blkK 0 (seqK (execK (f173_cx k) (callK (f173_cx k) 8) 0 173 (sub f173_c [1,1,1])) (finK (f173_cx k) f173_i spec_l01Mix_sh))) (.exit 0) (f173_l0_o0 a0 y50):Q69)=
 ((loopK (f173_cx k) 0 (execK (f173_cx k) (callK (f173_cx k) 8) 0 173 (sub f173_c [1,1,1,1,0,1,0,0])) f173_l2_cut (blkK 4 (seqK (execK (f173_cx k) (callK (f173_cx k) 8) 0 173 (sub f173_c [1,1,1,1,1])) (finK (f173_cx k) f173_i spec_l01Mix_sh))) k (f173_l2_s a0 y50 (0:Int) a0)):Q69):=by kernel_rfl

theorem f173_l0_L_eq(K:Ex→St→Q69)(a0:(List Int))(a1:(List Int)):∀(n:Nat) (x6:Int) (y50:(List Int)),(f173_l0_p FUEL K n a0 a1 x6 y50:Q69)=spec_l01Mix_l0_L (fun y50=>K (.exit 0) (f173_l0_o0 a0 y50)) a0 a1 n x6 y50:=by
 intro n
 induction n with
 |zero=>intros; rfl
 |succ n ih=>
  intro x6 y50
  exact(f173_l0_round FUEL K n a0 a1 x6 y50).trans (condC ((f173_l1_L_eq _ a0 a1 x6 FUEL (3:Int) y50).trans (congrArg (fun e0=>spec_l01Mix_l1_L e0 a0 a1 x6 FUEL (3:Int) y50) (funext fun y50=>(f173_l1_exit2 FUEL K n a0 a1 x6 y50).trans (ih (IntKind.wrap .i64 (x6+(1:Int))) y50)))) (rfl))

theorem f173_start(k:Nat)(a0:(List Int))(a1:(List Int)):fnK (f173_cx k) 8 173 f173_i spec_l01Mix_sh [.pv (.arr 8 (.int .u32)) a0,.pv (.arr 32 (.int .u8)) a1]=
 ((loopK (f173_cx k) 0 (execK (f173_cx k) (callK (f173_cx k) 8) 0 173 (sub f173_c [1,1,0,1,0,0])) f173_l0_cut (blkK 0 (seqK (execK (f173_cx k) (callK (f173_cx k) 8) 0 173 (sub f173_c [1,1,1])) (finK (f173_cx k) f173_i spec_l01Mix_sh))) k (f173_l0_s a0 a1 (0:Int) (List.replicate 8 (0:Int)))):Q69):=by kernel_rfl

theorem f173_run(a0:(List Int))(a1:(List Int)):fnK (f173_cx FUEL) 8 173 f173_i spec_l01Mix_sh [.pv (.arr 8 (.int .u32)) a0,.pv (.arr 32 (.int .u8)) a1]=spec_l01Mix_r a0 a1:=
 (f173_start FUEL a0 a1).trans ((f173_l0_L_eq _ a0 a1 FUEL (0:Int) (List.replicate 8 (0:Int))).trans (congrArg (fun e0=>spec_l01Mix_l0_L e0 a0 a1 FUEL (0:Int) (List.replicate 8 (0:Int))) (funext fun y50=>(f173_l0_exit0 FUEL a0 y50).trans ((f173_l2_L_eq _ a0 FUEL y50 (0:Int) a0).trans (congrArg (fun e0=>spec_l01Mix_l2_L e0 a0 FUEL y50 (0:Int) a0) (funext fun y80=>(f173_l2_exit4 FUEL a0 y80).trans ((f173_l4_L_eq _ a0 FUEL y80 (0:Int)).trans (congrArg (fun e0=>spec_l01Mix_l4_L e0 a0 FUEL y80 (0:Int)) (funext fun y80=>(f173_l4_exit8 FUEL y80).trans (rfl))))))))))

def f173_con:Con:={ps:=(.pair (.arr 8 (.int .u32)) K13),sh:=spec_l01Mix_sh,raw:=fun x=>spec_l01Mix_r x.1 x.2.1}
theorem f173_conOk:ConOk Tryz.prog 173 f173_con:=con_of_fn (f173_tabs FUEL) (depth:=8) f173_ok fun x y h=>(f173_run x.1 x.2.1).trans h

def f146_l0_cut:Cut:={keep:=[3,6,7,8],stk:=[],ids:=[30,60,130],own:=[],outs:=[(1,[3,6],[30,60])]}
def f146_l1_cut:Cut:={keep:=[3,6,9,10],stk:=[],ids:=[30,60,90],own:=[],outs:=[(3,[6,9],[60,90])]}
def f146_cx(k:Nat):Cx:=mkC [] [(172,f172_con),(173,f173_con),(174,f174_con)] [] [] [(146,[(0,f146_l0_cut),(2,f146_l1_cut)])] k [] false
theorem f146_tabs(k:Nat):TabsOk Tryz.prog (f146_cx k):=mkC_ok ⟨f172_conOk,f173_conOk,f174_conOk,trivial⟩ trivial trivial trivial
abbrev spec_l01End_sh:List Sh:=[.pl (.arr 32 (.int .u8))]
abbrev Q66:Type:=Option (shDen spec_l01End_sh)
def f146_l0_s(z130:(List Int))(x8:Int)(y30:(List Int)):St:={env:=(dd 3 (.ptr 30 (.arr 8 (.int .u32)) []:: .dead:: .dead:: .ptr 60 (.arr 32 (.int .u8)) []:: .sl 130 (.int .u8):: .pv (.int .i64) x8::(dd 34 []))),stk:=[],heap:=[(30,.var (.arr 8 (.int .u32)) (.pv (.arr 8 (.int .u32)) y30)),(60,.var (.arr 32 (.int .u8)) (.pv (.arr 32 (.int .u8)) (List.replicate 32 (0:Int)))),(130,.arr 5 (.int .u8) z130)]}
def f146_l0_o0(y30:(List Int)):St:={env:=(dd 3 (.ptr 30 (.arr 8 (.int .u32)) []:: .dead:: .dead:: .ptr 60 (.arr 32 (.int .u8)) []::(dd 36 []))),stk:=[],heap:=[(30,.var (.arr 8 (.int .u32)) (.pv (.arr 8 (.int .u32)) y30)),(60,.var (.arr 32 (.int .u8)) (.pv (.arr 32 (.int .u8)) (List.replicate 32 (0:Int))))]}
def f146_l1_s(y30:(List Int))(x10:Int)(y90:(List Int)):St:={env:=(dd 3 (.ptr 30 (.arr 8 (.int .u32)) []:: .dead:: .dead:: .ptr 60 (.arr 32 (.int .u8)) []:: .dead:: .dead:: .ptr 90 (.arr 32 (.int .u8)) []:: .pv (.int .i64) x10::(dd 32 []))),stk:=[],heap:=[(30,.var (.arr 8 (.int .u32)) (.pv (.arr 8 (.int .u32)) y30)),(60,.var (.arr 32 (.int .u8)) (.pv (.arr 32 (.int .u8)) (List.replicate 32 (0:Int)))),(90,.var (.arr 32 (.int .u8)) (.pv (.arr 32 (.int .u8)) y90))]}
def f146_l1_o2(y90:(List Int)):St:={env:=(dd 6 (.ptr 60 (.arr 32 (.int .u8)) []:: .dead:: .dead:: .ptr 90 (.arr 32 (.int .u8)) []::(dd 33 []))),stk:=[],heap:=[(60,.var (.arr 32 (.int .u8)) (.pv (.arr 32 (.int .u8)) (List.replicate 32 (0:Int)))),(90,.var (.arr 32 (.int .u8)) (.pv (.arr 32 (.int .u8)) y90))]}
def spec_l01End_l1_b(rec:(List Int)→Int→(List Int)→Q66)(ke2:(List Int)→Q66)(y30:(List Int))(x10:Int)(y90:(List Int)):Q66:=
 (cond (decide (x10<(32:Int)))
 (cond ((decide ((0:Int)≤(IntKind.wrap .i64 (Int.tdiv x10 (4:Int)))))&&(decide ((IntKind.wrap .i64 (Int.tdiv x10 (4:Int)))<(8:Int))))
 (cond (decide ((IntKind.wrap .u64 (IntKind.wrap .i64 ((8:Int)*(Int.tmod x10 (4:Int)))))<(0:Int)))
 none
 (cond ((decide ((0:Int)≤x10))&&(decide (x10<(32:Int))))
 (rec y30 (IntKind.wrap .i64 (x10+(1:Int))) (y90.set (x10.toNat) (IntKind.wrap .u8 (shrI .u32 (y30.getD ((IntKind.wrap .i64 (Int.tdiv x10 (4:Int))).toNat) (0:Int)) (IntKind.wrap .u64 (IntKind.wrap .i64 ((8:Int)*(Int.tmod x10 (4:Int)))))))))
 none))
 none)
 (ke2 y90))
def spec_l01End_l1_L(ke2:(List Int)→Q66):Nat→(List Int)→Int→(List Int)→Q66
 |0=>fun _ _ _=>none
 |n+1=>spec_l01End_l1_b (spec_l01End_l1_L ke2 n) ke2
def spec_l01End_l0_b(rec:(List Int)→Int→(List Int)→Q66)(ke0:(List Int)→Q66)(z130:(List Int))(x8:Int)(y30:(List Int)):Q66:=
 (cond (decide (x8<(z130.length:Int)))
 (bindO (spec_l01Block_r z130 x8) fun(b4:(List Int))=>(bindO (spec_l01Mix_r y30 b4) fun(b5:(List Int))=>(rec z130 (IntKind.wrap .i64 (x8+(32:Int))) b5)))
 (ke0 y30))
def spec_l01End_l0_L(ke0:(List Int)→Q66):Nat→(List Int)→Int→(List Int)→Q66
 |0=>fun _ _ _=>none
 |n+1=>spec_l01End_l0_b (spec_l01End_l0_L ke0 n) ke0
def spec_l01End_r(a0:(List Int))(a1:(List Int))(a2:Int):Q66:=
 (bindO (spec_l01Padded_r a1 a2) fun(b1:(List Int))=>(spec_l01End_l0_L (fun y30=>(spec_l01End_l1_L (fun y90=>(some y90)) FUEL y30 (0:Int) (List.replicate 32 (0:Int)))) FUEL b1 (0:Int) a0))
def f146_l1_p(k:Nat)(K:Ex→St→Q66)(n:Nat)(y30:(List Int))(x10:Int)(y90:(List Int)):Q66:=loopK (f146_cx k) 0 (execK (f146_cx k) (callK (f146_cx k) 8) 0 146 (sub f146_c [1,1,1,1,0,1,0,0])) f146_l1_cut K n (f146_l1_s y30 x10 y90)

theorem f146_l1_exit2(k:Nat)(y90:(List Int)):((blkK 2 (seqK (execK (f146_cx k) (callK (f146_cx k) 8) 0 146 (sub f146_c [1,1,1,1,1])) (finK (f146_cx k) f146_i spec_l01End_sh))) (.exit 2) (f146_l1_o2 y90):Q66)=
 ((some y90):Q66):=by kernel_rfl

theorem f146_l1_round(k:Nat)(K:Ex→St→Q66)(n:Nat)(y30:(List Int))(x10:Int)(y90:(List Int)):(f146_l1_p k K (n+1) y30 x10 y90:Q66)=spec_l01End_l1_b ((fun y30 x10 y90=>f146_l1_p k K n y30 x10 y90)) (fun y90=>K (.exit 2) (f146_l1_o2 y90)) y30 x10 y90:=by kernel_rfl

theorem f146_l1_L_eq(K:Ex→St→Q66):∀(n:Nat) (y30:(List Int)) (x10:Int) (y90:(List Int)),(f146_l1_p FUEL K n y30 x10 y90:Q66)=spec_l01End_l1_L (fun y90=>K (.exit 2) (f146_l1_o2 y90)) n y30 x10 y90:=by
 intro n
 induction n with
 |zero=>intros; rfl
 |succ n ih=>
  intro y30 x10 y90
  exact(f146_l1_round FUEL K n y30 x10 y90).trans (congrArg (fun f=>spec_l01End_l1_b f (fun y90=>K (.exit 2) (f146_l1_o2 y90)) y30 x10 y90) (funext fun y30=>funext fun x10=>funext fun y90=>ih y30 x10 y90))

def f146_l0_p(k:Nat)(K:Ex→St→Q66)(n:Nat)(z130:(List Int))(x8:Int)(y30:(List Int)):Q66:=loopK (f146_cx k) 0 (execK (f146_cx k) (callK (f146_cx k) 8) 0 146 (sub f146_c [1,1,0,1,0,0])) f146_l0_cut K n (f146_l0_s z130 x8 y30)

theorem f146_l0_exit0(k:Nat)(y30:(List Int)):((blkK 0 (seqK (execK (f146_cx k) (callK (f146_cx k) 8) 0 146 (sub f146_c [1,1,1])) (finK (f146_cx k) f146_i spec_l01End_sh))) (.exit 0) (f146_l0_o0 y30):Q66)=
 ((loopK (f146_cx k) 0 (execK (f146_cx k) (callK (f146_cx k) 8) 0 146 (sub f146_c [1,1,1,1,0,1,0,0])) f146_l1_cut (blkK 2 (seqK (execK (f146_cx k) (callK (f146_cx k) 8) 0 146 (sub f146_c [1,1,1,1,1])) (finK (f146_cx k) f146_i spec_l01End_sh))) k (f146_l1_s y30 (0:Int) (List.replicate 32 (0:Int)))):Q66):=by kernel_rfl

theorem f146_l0_round(k:Nat)(K:Ex→St→Q66)(n:Nat)(z130:(List Int))(x8:Int)(y30:(List Int)):(f146_l0_p k K (n+1) z130 x8 y30:Q66)=spec_l01End_l0_b ((fun z130 x8 y30=>f146_l0_p k K n z130 x8 y30)) (fun y30=>K (.exit 0) (f146_l0_o0 y30)) z130 x8 y30:=by kernel_rfl

theorem f146_l0_L_eq(K:Ex→St→Q66):∀(n:Nat) (z130:(List Int)) (x8:Int) (y30:(List Int)),(f146_l0_p FUEL K n z130 x8 y30:Q66)=spec_l01End_l0_L (fun y30=>K (.exit 0) (f146_l0_o0 y30)) n z130 x8 y30:=by
 intro n
 induction n with
 |zero=>intros; rfl
 |succ n ih=>
  intro z130 x8 y30
  exact(f146_l0_round FUEL K n z130 x8 y30).trans (congrArg (fun f=>spec_l01End_l0_b f (fun y30=>K (.exit 0) (f146_l0_o0 y30)) z130 x8 y30) (funext fun z130=>funext fun x8=>funext fun y30=>ih z130 x8 y30))

theorem f146_start(k:Nat)(a0:(List Int))(a1:(List Int))(a2:Int):fnK (f146_cx k) 8 146 f146_i spec_l01End_sh [.pv (.arr 8 (.int .u32)) a0,.pv K20 a1,.pv (.int .i64) a2]=
 ((bindO (spec_l01Padded_r a1 a2) fun(b1:(List Int))=>(loopK (f146_cx k) 0 (execK (f146_cx k) (callK (f146_cx k) 8) 0 146 (sub f146_c [1,1,0,1,0,0])) f146_l0_cut (blkK 0 (seqK (execK (f146_cx k) (callK (f146_cx k) 8) 0 146 (sub f146_c [1,1,1])) (finK (f146_cx k) f146_i spec_l01End_sh))) k (f146_l0_s b1 (0:Int) a0))):Q66):=by kernel_rfl

theorem f146_run(a0:(List Int))(a1:(List Int))(a2:Int):fnK (f146_cx FUEL) 8 146 f146_i spec_l01End_sh [.pv (.arr 8 (.int .u32)) a0,.pv K20 a1,.pv (.int .i64) a2]=spec_l01End_r a0 a1 a2:=
 (f146_start FUEL a0 a1 a2).trans (bindC (fun b1=>(f146_l0_L_eq _ FUEL b1 (0:Int) a0).trans (congrArg (fun e0=>spec_l01End_l0_L e0 FUEL b1 (0:Int) a0) (funext fun y30=>(f146_l0_exit0 FUEL y30).trans ((f146_l1_L_eq _ FUEL y30 (0:Int) (List.replicate 32 (0:Int))).trans (congrArg (fun e0=>spec_l01End_l1_L e0 FUEL y30 (0:Int) (List.replicate 32 (0:Int))) (funext fun y90=>(f146_l1_exit2 FUEL y90).trans (rfl))))))))

def f146_con:Con:={ps:=(.pair (.arr 8 (.int .u32)) K9),sh:=spec_l01End_sh,raw:=fun x=>spec_l01End_r x.1 x.2.1 x.2.2.1}
theorem f146_conOk:ConOk Tryz.prog 146 f146_con:=con_of_fn (f146_tabs FUEL) (depth:=8) f146_ok fun x y h=>(f146_run x.1 x.2.1 x.2.2.1).trans h

def f102_cx(k:Nat):Cx:=mkC [] [(146,f146_con),(147,f147_con)] [] [] [] k [] false
theorem f102_tabs(k:Nat):TabsOk Tryz.prog (f102_cx k):=mkC_ok ⟨f146_conOk,f147_conOk,trivial⟩ trivial trivial trivial
abbrev spec_l01Hash_sh:List Sh:=[.pl (.arr 32 (.int .u8))]
abbrev Q68:Type:=Option (shDen spec_l01Hash_sh)
def spec_l01Hash_r(a0:Int)(a1:(List Int)):Q68:=
 (bindO (spec_l01Start_r a0) fun(b1:(List Int))=>(bindO (spec_l01End_r b1 a1 (a1.length:Int)) fun(b2:(List Int))=>(some b2)))
theorem f102_run(a0:Int)(a1:(List Int)):fnK (f102_cx FUEL) 8 102 f102_i spec_l01Hash_sh [.pv (.int .u8) a0,.pv K20 a1]=spec_l01Hash_r a0 a1:=by kernel_rfl

def f102_con:Con:={ps:=K10,sh:=spec_l01Hash_sh,raw:=fun x=>spec_l01Hash_r x.1 x.2.1}
theorem f102_conOk:ConOk Tryz.prog 102 f102_con:=con_of_fn (f102_tabs FUEL) (depth:=8) f102_ok fun x y h=>(f102_run x.1 x.2.1).trans h

def f92_cx(k:Nat):Cx:=mkC [] [(102,f102_con)] [] [] [] k [] false
theorem f92_tabs(k:Nat):TabsOk Tryz.prog (f92_cx k):=mkC_ok ⟨f102_conOk,trivial⟩ trivial trivial trivial
abbrev spec_l05Key_sh:List Sh:=[.pl (.arr 32 (.int .u8))]
abbrev Q79:Type:=Option (shDen spec_l05Key_sh)
def spec_l05Key_r(a0:T10):Q79:=
 (bindO (spec_l01Hash_r a0.1 a0.2.1) fun(b1:(List Int))=>(some b1))
theorem f92_run(a0:T10):fnK (f92_cx FUEL) 8 92 f92_i spec_l05Key_sh [.pv (.ref K10) a0]=spec_l05Key_r a0:=by kernel_rfl

def f92_con:Con:={ps:=(.pair (.ref K10) .unit),sh:=spec_l05Key_sh,raw:=fun x=>spec_l05Key_r x.1}
theorem f92_conOk:ConOk Tryz.prog 92 f92_con:=con_of_fn (f92_tabs FUEL) (depth:=8) f92_ok fun x y h=>(f92_run x.1).trans h

def f93_l0_cut:Cut:={keep:=[2,3,5],stk:=[],ids:=[20,30],own:=[],outs:=[(0,[4],[]),(1,[],[])]}
def f93_cx(k:Nat):Cx:=mkC [] [] [] [] [(93,[(0,f93_l0_cut)])] k [] false
theorem f93_tabs(k:Nat):TabsOk Tryz.prog (f93_cx k):=mkC_ok trivial trivial trivial trivial
abbrev spec_l01Compare_sh:List Sh:=[.pl (.int .i64)]
abbrev Q65:Type:=Option (shDen spec_l01Compare_sh)
def f93_l0_s(a0:(List Int))(a1:(List Int))(x5:Int):St:={env:=(.dead:: .dead:: .ptr 20 (.arr 32 (.int .u8)) []:: .ptr 30 (.arr 32 (.int .u8)) []:: .dead:: .pv (.int .i64) x5::(dd 18 [])),stk:=[],heap:=[(20,.var (.arr 32 (.int .u8)) (.pv (.arr 32 (.int .u8)) a0)),(30,.var (.arr 32 (.int .u8)) (.pv (.arr 32 (.int .u8)) a1))]}
def f93_l0_o(x4:Int):St:={env:=(dd 4 (.pv (.int .i64) x4::(dd 19 []))),stk:=[],heap:=[]}
def f93_l0_o0:St:={env:=(dd 24 []),stk:=[],heap:=[]}
def spec_l01Compare_l0_b(rec:Int→Q65)(kr:Int→Q65)(ke0:Q65)(a0:(List Int))(a1:(List Int))(x5:Int):Q65:=
 (cond (decide (x5<(32:Int)))
 (cond ((decide ((0:Int)≤x5))&&(decide (x5<(32:Int))))
 (cond ((decide ((0:Int)≤x5))&&(decide (x5<(32:Int))))
 (cond (!(decide ((a0.getD (x5.toNat) (0:Int))=(a1.getD (x5.toNat) (0:Int)))))
 (cond ((decide ((0:Int)≤x5))&&(decide (x5<(32:Int))))
 (cond ((decide ((0:Int)≤x5))&&(decide (x5<(32:Int))))
 (cond (decide ((a0.getD (x5.toNat) (0:Int))<(a1.getD (x5.toNat) (0:Int))))
 (kr (-1:Int))
 (kr (1:Int)))
 none)
 none)
 (rec (IntKind.wrap .i64 (x5+(1:Int)))))
 none)
 none)
 (ke0))
def spec_l01Compare_l0_L(kr:Int→Q65)(ke0:Q65)(a0:(List Int))(a1:(List Int)):Nat→Int→Q65
 |0=>fun _=>none
 |n+1=>spec_l01Compare_l0_b (spec_l01Compare_l0_L kr ke0 a0 a1 n) kr ke0 a0 a1
def spec_l01Compare_r(a0:(List Int))(a1:(List Int)):Q65:=
 (spec_l01Compare_l0_L (fun x4=>(some x4)) (some (0:Int)) a0 a1 FUEL (0:Int))
def f93_l0_p(k:Nat)(K:Ex→St→Q65)(n:Nat)(a0:(List Int))(a1:(List Int))(x5:Int):Q65:=loopK (f93_cx k) 0 (execK (f93_cx k) (callK (f93_cx k) 8) 0 93 (sub f93_c [1,0,1,0,0])) f93_l0_cut K n (f93_l0_s a0 a1 x5)

theorem f93_l0_ret(k:Nat)(x4:Int):((blkK 0 (seqK (execK (f93_cx k) (callK (f93_cx k) 8) 0 93 (sub f93_c [1,1])) (finK (f93_cx k) f93_i spec_l01Compare_sh))) .ret (f93_l0_o x4):Q65)=
 ((some x4):Q65):=by kernel_rfl

theorem f93_l0_exit0(k:Nat):((blkK 0 (seqK (execK (f93_cx k) (callK (f93_cx k) 8) 0 93 (sub f93_c [1,1])) (finK (f93_cx k) f93_i spec_l01Compare_sh))) (.exit 0) (f93_l0_o0):Q65)=
 ((some (0:Int)):Q65):=by kernel_rfl

theorem f93_l0_round(k:Nat)(K:Ex→St→Q65)(n:Nat)(a0:(List Int))(a1:(List Int))(x5:Int):(f93_l0_p k K (n+1) a0 a1 x5:Q65)=spec_l01Compare_l0_b ((fun x5=>f93_l0_p k K n a0 a1 x5)) (fun x4=>K .ret (f93_l0_o x4)) (K (.exit 0) (f93_l0_o0)) a0 a1 x5:=by kernel_rfl

theorem f93_l0_L_eq(K:Ex→St→Q65)(a0:(List Int))(a1:(List Int)):∀(n:Nat) (x5:Int),(f93_l0_p FUEL K n a0 a1 x5:Q65)=spec_l01Compare_l0_L (fun x4=>K .ret (f93_l0_o x4)) (K (.exit 0) (f93_l0_o0)) a0 a1 n x5:=by
 intro n
 induction n with
 |zero=>intros; rfl
 |succ n ih=>
  intro x5
  exact(f93_l0_round FUEL K n a0 a1 x5).trans (congrArg (fun f=>spec_l01Compare_l0_b f (fun x4=>K .ret (f93_l0_o x4)) (K (.exit 0) (f93_l0_o0)) a0 a1 x5) (funext fun x5=>ih x5))

theorem f93_start(k:Nat)(a0:(List Int))(a1:(List Int)):fnK (f93_cx k) 8 93 f93_i spec_l01Compare_sh [.pv (.arr 32 (.int .u8)) a0,.pv (.arr 32 (.int .u8)) a1]=
 ((loopK (f93_cx k) 0 (execK (f93_cx k) (callK (f93_cx k) 8) 0 93 (sub f93_c [1,0,1,0,0])) f93_l0_cut (blkK 0 (seqK (execK (f93_cx k) (callK (f93_cx k) 8) 0 93 (sub f93_c [1,1])) (finK (f93_cx k) f93_i spec_l01Compare_sh))) k (f93_l0_s a0 a1 (0:Int))):Q65):=by kernel_rfl

theorem f93_run(a0:(List Int))(a1:(List Int)):fnK (f93_cx FUEL) 8 93 f93_i spec_l01Compare_sh [.pv (.arr 32 (.int .u8)) a0,.pv (.arr 32 (.int .u8)) a1]=spec_l01Compare_r a0 a1:=
 (f93_start FUEL a0 a1).trans ((f93_l0_L_eq _ a0 a1 FUEL (0:Int)).trans (cong2 (fun e0 e1=>spec_l01Compare_l0_L e0 e1 a0 a1 FUEL (0:Int)) (funext fun x4=>(f93_l0_ret FUEL x4).trans (rfl)) ((f93_l0_exit0 FUEL).trans (rfl))))

def f93_con:Con:={ps:=(.pair (.arr 32 (.int .u8)) K13),sh:=spec_l01Compare_sh,raw:=fun x=>spec_l01Compare_r x.1 x.2.1}
theorem f93_conOk:ConOk Tryz.prog 93 f93_con:=con_of_fn (f93_tabs FUEL) (depth:=8) f93_ok fun x y h=>(f93_run x.1 x.2.1).trans h

def f55_l0_cut:Cut:={keep:=[0,3,5],stk:=[],ids:=[30],own:=[],outs:=[(0,[4],[]),(1,[],[])]}
def f55_cx(k:Nat):Cx:=mkC [] [] [] [] [(55,[(0,f55_l0_cut)])] k [] false
theorem f55_tabs(k:Nat):TabsOk Tryz.prog (f55_cx k):=mkC_ok trivial trivial trivial trivial
abbrev spec_l05Store_find_sh:List Sh:=[.pl (.int .i64)]
abbrev Q82:Type:=Option (shDen spec_l05Store_find_sh)
def f55_l0_s(a0:T1)(a1:(List Int))(x5:Int):St:={env:=(.pv (.ref K0) a0:: .dead:: .dead:: .ptr 30 (.arr 32 (.int .u8)) []:: .dead:: .pv (.int .i64) x5::(dd 19 [])),stk:=[],heap:=[(30,.var (.arr 32 (.int .u8)) (.pv (.arr 32 (.int .u8)) a1))]}
def f55_l0_o(x4:Int):St:={env:=(dd 4 (.pv (.int .i64) x4::(dd 20 []))),stk:=[],heap:=[]}
def f55_l0_o0:St:={env:=(dd 25 []),stk:=[],heap:=[]}
def spec_l05Store_find_l0_b(rec:Int→Q82)(kr:Int→Q82)(ke0:Q82)(a0:T1)(a1:(List Int))(x5:Int):Q82:=
 (cond (decide (x5<(a0.2.1.length:Int)))
 (cond ((decide ((0:Int)≤x5))&&(decide (x5<(a0.2.1.length:Int))))
 (cond (eqd (.arr 32 (.int .u8)) (a0.2.1.getD (x5.toNat) (List.replicate 32 (0:Int))) a1)
 (kr x5)
 (rec (IntKind.wrap .i64 (x5+(1:Int)))))
 none)
 (ke0))
def spec_l05Store_find_l0_L(kr:Int→Q82)(ke0:Q82)(a0:T1)(a1:(List Int)):Nat→Int→Q82
 |0=>fun _=>none
 |n+1=>spec_l05Store_find_l0_b (spec_l05Store_find_l0_L kr ke0 a0 a1 n) kr ke0 a0 a1
def spec_l05Store_find_r(a0:T1)(a1:(List Int)):Q82:=
 (spec_l05Store_find_l0_L (fun x4=>(some x4)) (some (-1:Int)) a0 a1 FUEL (0:Int))
def f55_l0_p(k:Nat)(K:Ex→St→Q82)(n:Nat)(a0:T1)(a1:(List Int))(x5:Int):Q82:=loopK (f55_cx k) 0 (execK (f55_cx k) (callK (f55_cx k) 8) 0 55 (sub f55_c [1,0,1,0,0])) f55_l0_cut K n (f55_l0_s a0 a1 x5)

theorem f55_l0_ret(k:Nat)(x4:Int):((blkK 0 (seqK (execK (f55_cx k) (callK (f55_cx k) 8) 0 55 (sub f55_c [1,1])) (finK (f55_cx k) f55_i spec_l05Store_find_sh))) .ret (f55_l0_o x4):Q82)=
 ((some x4):Q82):=by kernel_rfl

theorem f55_l0_exit0(k:Nat):((blkK 0 (seqK (execK (f55_cx k) (callK (f55_cx k) 8) 0 55 (sub f55_c [1,1])) (finK (f55_cx k) f55_i spec_l05Store_find_sh))) (.exit 0) (f55_l0_o0):Q82)=
 ((some (-1:Int)):Q82):=by kernel_rfl

theorem f55_l0_round(k:Nat)(K:Ex→St→Q82)(n:Nat)(a0:T1)(a1:(List Int))(x5:Int):(f55_l0_p k K (n+1) a0 a1 x5:Q82)=spec_l05Store_find_l0_b ((fun x5=>f55_l0_p k K n a0 a1 x5)) (fun x4=>K .ret (f55_l0_o x4)) (K (.exit 0) (f55_l0_o0)) a0 a1 x5:=by kernel_rfl

theorem f55_l0_L_eq(K:Ex→St→Q82)(a0:T1)(a1:(List Int)):∀(n:Nat) (x5:Int),(f55_l0_p FUEL K n a0 a1 x5:Q82)=spec_l05Store_find_l0_L (fun x4=>K .ret (f55_l0_o x4)) (K (.exit 0) (f55_l0_o0)) a0 a1 n x5:=by
 intro n
 induction n with
 |zero=>intros; rfl
 |succ n ih=>
  intro x5
  exact(f55_l0_round FUEL K n a0 a1 x5).trans (congrArg (fun f=>spec_l05Store_find_l0_b f (fun x4=>K .ret (f55_l0_o x4)) (K (.exit 0) (f55_l0_o0)) a0 a1 x5) (funext fun x5=>ih x5))

theorem f55_start(k:Nat)(a0:T1)(a1:(List Int)):fnK (f55_cx k) 8 55 f55_i spec_l05Store_find_sh [.pv (.ref K0) a0,.pv (.arr 32 (.int .u8)) a1]=
 ((loopK (f55_cx k) 0 (execK (f55_cx k) (callK (f55_cx k) 8) 0 55 (sub f55_c [1,0,1,0,0])) f55_l0_cut (blkK 0 (seqK (execK (f55_cx k) (callK (f55_cx k) 8) 0 55 (sub f55_c [1,1])) (finK (f55_cx k) f55_i spec_l05Store_find_sh))) k (f55_l0_s a0 a1 (0:Int))):Q82):=by kernel_rfl

theorem f55_run(a0:T1)(a1:(List Int)):fnK (f55_cx FUEL) 8 55 f55_i spec_l05Store_find_sh [.pv (.ref K0) a0,.pv (.arr 32 (.int .u8)) a1]=spec_l05Store_find_r a0 a1:=
 (f55_start FUEL a0 a1).trans ((f55_l0_L_eq _ a0 a1 FUEL (0:Int)).trans (cong2 (fun e0 e1=>spec_l05Store_find_l0_L e0 e1 a0 a1 FUEL (0:Int)) (funext fun x4=>(f55_l0_ret FUEL x4).trans (rfl)) ((f55_l0_exit0 FUEL).trans (rfl))))

def f55_con:Con:={ps:=(.pair (.ref K0) K13),sh:=spec_l05Store_find_sh,raw:=fun x=>spec_l05Store_find_r x.1 x.2.1}
theorem f55_conOk:ConOk Tryz.prog 55 f55_con:=con_of_fn (f55_tabs FUEL) (depth:=8) f55_ok fun x y h=>(f55_run x.1 x.2.1).trans h

def f115_l0_cut:Cut:={keep:=[0,3,5],stk:=[],ids:=[30],own:=[],outs:=[(0,[4],[]),(1,[],[])]}
def f115_cx(k:Nat):Cx:=mkC [] [] [] [] [(115,[(0,f115_l0_cut)])] k [] false
theorem f115_tabs(k:Nat):TabsOk Tryz.prog (f115_cx k):=mkC_ok trivial trivial trivial trivial
abbrev spec_l01Has_sh:List Sh:=[.pl .bool]
abbrev Q67:Type:=Option (shDen spec_l01Has_sh)
def f115_l0_s(a0:T15)(a1:(List Int))(x5:Int):St:={env:=(.pv K16 a0:: .dead:: .dead:: .ptr 30 (.arr 32 (.int .u8)) []:: .dead:: .pv (.int .i64) x5::(dd 12 [])),stk:=[],heap:=[(30,.var (.arr 32 (.int .u8)) (.pv (.arr 32 (.int .u8)) a1))]}
def f115_l0_o:St:={env:=(dd 4 (.pv .bool true::(dd 13 []))),stk:=[],heap:=[]}
def f115_l0_o0:St:={env:=(dd 18 []),stk:=[],heap:=[]}
def spec_l01Has_l0_b(rec:Int→Q67)(kr:Q67)(ke0:Q67)(a0:T15)(a1:(List Int))(x5:Int):Q67:=
 (cond (decide (x5<(a0.length:Int)))
 (cond ((decide ((0:Int)≤x5))&&(decide (x5<(a0.length:Int))))
 (cond (eqd (.arr 32 (.int .u8)) (a0.getD (x5.toNat) (List.replicate 32 (0:Int))) a1)
 (kr)
 (rec (IntKind.wrap .i64 (x5+(1:Int)))))
 none)
 (ke0))
def spec_l01Has_l0_L(kr:Q67)(ke0:Q67)(a0:T15)(a1:(List Int)):Nat→Int→Q67
 |0=>fun _=>none
 |n+1=>spec_l01Has_l0_b (spec_l01Has_l0_L kr ke0 a0 a1 n) kr ke0 a0 a1
def spec_l01Has_r(a0:T15)(a1:(List Int)):Q67:=
 (spec_l01Has_l0_L (some true) (some false) a0 a1 FUEL (0:Int))
def f115_l0_p(k:Nat)(K:Ex→St→Q67)(n:Nat)(a0:T15)(a1:(List Int))(x5:Int):Q67:=loopK (f115_cx k) 0 (execK (f115_cx k) (callK (f115_cx k) 8) 0 115 (sub f115_c [1,0,1,0,0])) f115_l0_cut K n (f115_l0_s a0 a1 x5)

theorem f115_l0_ret(k:Nat):((blkK 0 (seqK (execK (f115_cx k) (callK (f115_cx k) 8) 0 115 (sub f115_c [1,1])) (finK (f115_cx k) f115_i spec_l01Has_sh))) .ret (f115_l0_o):Q67)=
 ((some true):Q67):=by kernel_rfl

theorem f115_l0_exit0(k:Nat):((blkK 0 (seqK (execK (f115_cx k) (callK (f115_cx k) 8) 0 115 (sub f115_c [1,1])) (finK (f115_cx k) f115_i spec_l01Has_sh))) (.exit 0) (f115_l0_o0):Q67)=
 ((some false):Q67):=by kernel_rfl

theorem f115_l0_round(k:Nat)(K:Ex→St→Q67)(n:Nat)(a0:T15)(a1:(List Int))(x5:Int):(f115_l0_p k K (n+1) a0 a1 x5:Q67)=spec_l01Has_l0_b ((fun x5=>f115_l0_p k K n a0 a1 x5)) (K .ret (f115_l0_o)) (K (.exit 0) (f115_l0_o0)) a0 a1 x5:=by kernel_rfl

theorem f115_l0_L_eq(K:Ex→St→Q67)(a0:T15)(a1:(List Int)):∀(n:Nat) (x5:Int),(f115_l0_p FUEL K n a0 a1 x5:Q67)=spec_l01Has_l0_L (K .ret (f115_l0_o)) (K (.exit 0) (f115_l0_o0)) a0 a1 n x5:=by
 intro n
 induction n with
 |zero=>intros; rfl
 |succ n ih=>
  intro x5
  exact(f115_l0_round FUEL K n a0 a1 x5).trans (congrArg (fun f=>spec_l01Has_l0_b f (K .ret (f115_l0_o)) (K (.exit 0) (f115_l0_o0)) a0 a1 x5) (funext fun x5=>ih x5))

theorem f115_start(k:Nat)(a0:T15)(a1:(List Int)):fnK (f115_cx k) 8 115 f115_i spec_l01Has_sh [.pv K16 a0,.pv (.arr 32 (.int .u8)) a1]=
 ((loopK (f115_cx k) 0 (execK (f115_cx k) (callK (f115_cx k) 8) 0 115 (sub f115_c [1,0,1,0,0])) f115_l0_cut (blkK 0 (seqK (execK (f115_cx k) (callK (f115_cx k) 8) 0 115 (sub f115_c [1,1])) (finK (f115_cx k) f115_i spec_l01Has_sh))) k (f115_l0_s a0 a1 (0:Int))):Q67):=by kernel_rfl

theorem f115_run(a0:T15)(a1:(List Int)):fnK (f115_cx FUEL) 8 115 f115_i spec_l01Has_sh [.pv K16 a0,.pv (.arr 32 (.int .u8)) a1]=spec_l01Has_r a0 a1:=
 (f115_start FUEL a0 a1).trans ((f115_l0_L_eq _ a0 a1 FUEL (0:Int)).trans (cong2 (fun e0 e1=>spec_l01Has_l0_L e0 e1 a0 a1 FUEL (0:Int)) ((f115_l0_ret FUEL).trans (rfl)) ((f115_l0_exit0 FUEL).trans (rfl))))

def f115_con:Con:={ps:=(.pair K16 K13),sh:=spec_l01Has_sh,raw:=fun x=>spec_l01Has_r x.1 x.2.1}
theorem f115_conOk:ConOk Tryz.prog 115 f115_con:=con_of_fn (f115_tabs FUEL) (depth:=8) f115_ok fun x y h=>(f115_run x.1 x.2.1).trans h

def f126_l0_cut:Cut:={keep:=[0,1,2,7,8],stk:=[],ids:=[90070],own:=[(7,90070,28)],outs:=[(1,[7],[90070])]}
def f126_l1_cut:Cut:={keep:=[0,1,2,7,8,9,10],stk:=[],ids:=[90,90070],own:=[],outs:=[(3,[0,1,2,7,8,9],[90,90070])]}
def f126_cx(k:Nat):Cx:=mkC [] [] [] [] [(126,[(0,f126_l0_cut),(2,f126_l1_cut)])] k [] false
theorem f126_tabs(k:Nat):TabsOk Tryz.prog (f126_cx k):=mkC_ok trivial trivial trivial trivial
abbrev spec_l05Keys_sh:List Sh:=[.own 35 (.arr 32 (.int .u8))]
abbrev Q80:Type:=Option (shDen spec_l05Keys_sh)
def f126_l0_s(a0:(List Int))(a1:Int)(a2:Int)(x8:Int)(z90070:T15):St:={env:=(.pv K20 a0:: .pv (.int .i64) a1:: .pv (.int .i64) a2::(dd 4 (.sl 90070 (.arr 32 (.int .u8)):: .pv (.int .i64) x8::(dd 29 [])))),stk:=[],heap:=[(90070,.arr 35 (.arr 32 (.int .u8)) z90070)]}
def f126_l0_o0(z90070:T15):St:={env:=(dd 7 (.sl 90070 (.arr 32 (.int .u8))::(dd 30 []))),stk:=[],heap:=[(90070,.arr 35 (.arr 32 (.int .u8)) z90070)]}
def f126_l1_s(a0:(List Int))(a1:Int)(a2:Int)(x8:Int)(z90070:T15)(x10:Int)(y90:(List Int)):St:={env:=(.pv K20 a0:: .pv (.int .i64) a1:: .pv (.int .i64) a2::(dd 4 (.sl 90070 (.arr 32 (.int .u8)):: .pv (.int .i64) x8:: .ptr 90 (.arr 32 (.int .u8)) []:: .pv (.int .i64) x10::(dd 27 [])))),stk:=[],heap:=[(90,.var (.arr 32 (.int .u8)) (.pv (.arr 32 (.int .u8)) y90)),(90070,.arr 35 (.arr 32 (.int .u8)) z90070)]}
def f126_l1_o2(a0:(List Int))(a1:Int)(a2:Int)(x8:Int)(z90070:T15)(y90:(List Int)):St:={env:=(.pv K20 a0:: .pv (.int .i64) a1:: .pv (.int .i64) a2::(dd 4 (.sl 90070 (.arr 32 (.int .u8)):: .pv (.int .i64) x8:: .ptr 90 (.arr 32 (.int .u8)) []::(dd 28 [])))),stk:=[],heap:=[(90,.var (.arr 32 (.int .u8)) (.pv (.arr 32 (.int .u8)) y90)),(90070,.arr 35 (.arr 32 (.int .u8)) z90070)]}
def spec_l05Keys_l1_b(rec:Int→(List Int)→Q80)(ke2:(List Int)→Q80)(a0:(List Int))(a1:Int)(a2:Int)(x8:Int)(z90070:T15)(x10:Int)(y90:(List Int)):Q80:=
 (cond (decide (x10<(32:Int)))
 (cond ((decide ((0:Int)≤(IntKind.wrap .i64 ((IntKind.wrap .i64 (a1+(IntKind.wrap .i64 ((32:Int)*x8))))+x10))))&&(decide ((IntKind.wrap .i64 ((IntKind.wrap .i64 (a1+(IntKind.wrap .i64 ((32:Int)*x8))))+x10))<(a0.length:Int))))
 (cond ((decide ((0:Int)≤x10))&&(decide (x10<(32:Int))))
 (rec (IntKind.wrap .i64 (x10+(1:Int))) (y90.set (x10.toNat) (a0.getD ((IntKind.wrap .i64 ((IntKind.wrap .i64 (a1+(IntKind.wrap .i64 ((32:Int)*x8))))+x10)).toNat) (0:Int))))
 none)
 none)
 (ke2 y90))
def spec_l05Keys_l1_L(ke2:(List Int)→Q80)(a0:(List Int))(a1:Int)(a2:Int)(x8:Int)(z90070:T15):Nat→Int→(List Int)→Q80
 |0=>fun _ _=>none
 |n+1=>spec_l05Keys_l1_b (spec_l05Keys_l1_L ke2 a0 a1 a2 x8 z90070 n) ke2 a0 a1 a2 x8 z90070
def spec_l05Keys_l0_b(rec:Int→T15→Q80)(ke0:T15→Q80)(a0:(List Int))(a1:Int)(a2:Int)(x8:Int)(z90070:T15):Q80:=
 (cond (decide (x8<a2))
 (spec_l05Keys_l1_L (fun y90=>(cond (decide ((z90070.length+1)*32≤140737488355328)&&decide (z90070.length+1≤9223372036854775807))
 (rec (IntKind.wrap .i64 (x8+(1:Int))) (z90070++[y90]))
 none)) a0 a1 a2 x8 z90070 FUEL (0:Int) (List.replicate 32 (0:Int)))
 (ke0 z90070))
def spec_l05Keys_l0_L(ke0:T15→Q80)(a0:(List Int))(a1:Int)(a2:Int):Nat→Int→T15→Q80
 |0=>fun _ _=>none
 |n+1=>spec_l05Keys_l0_b (spec_l05Keys_l0_L ke0 a0 a1 a2 n) ke0 a0 a1 a2
def spec_l05Keys_r(a0:(List Int))(a1:Int)(a2:Int):Q80:=
 (spec_l05Keys_l0_L (fun z90070=>(some z90070)) a0 a1 a2 FUEL (0:Int) [])
def f126_l1_p(k:Nat)(K:Ex→St→Q80)(n:Nat)(a0:(List Int))(a1:Int)(a2:Int)(x8:Int)(z90070:T15)(x10:Int)(y90:(List Int)):Q80:=loopK (f126_cx k) 0 (execK (f126_cx k) (callK (f126_cx k) 8) 0 126 (sub f126_c [1,1,0,1,0,0,1,0,0,1,0,1,0,0])) f126_l1_cut K n (f126_l1_s a0 a1 a2 x8 z90070 x10 y90)

theorem f126_l1_exit2(k:Nat)(K:Ex→St→Q80)(n:Nat)(a0:(List Int))(a1:Int)(a2:Int)(x8:Int)(z90070:T15)(y90:(List Int)):((blkK 2 (seqK (execK (f126_cx k) (callK (f126_cx k) 8) 0 126 (sub f126_c [1,1,0,1,0,0,1,0,0,1,1])) (blkK 1 (seqK (execK (f126_cx k) (callK (f126_cx k) 8) 0 126 (sub f126_c [1,1,0,1,0,0,1,1])) (iterK (f126_cx k) 0 f126_l0_cut (loopK (f126_cx k) 0 (execK (f126_cx k) (callK (f126_cx k) 8) 0 126 (sub f126_c [1,1,0,1,0,0])) f126_l0_cut K n) K))))) (.exit 2) (f126_l1_o2 a0 a1 a2 x8 z90070 y90):Q80)=
 ((cond (decide ((z90070.length+1)*32≤140737488355328)&&decide (z90070.length+1≤9223372036854775807))
 (loopK (f126_cx k) 0 (execK (f126_cx k) (callK (f126_cx k) 8) 0 126 (sub f126_c [1,1,0,1,0,0])) f126_l0_cut K n (f126_l0_s a0 a1 a2 (IntKind.wrap .i64 (x8+(1:Int))) (z90070++[y90])))
 none):Q80):=by kernel_rfl

theorem f126_l1_round(k:Nat)(K:Ex→St→Q80)(n:Nat)(a0:(List Int))(a1:Int)(a2:Int)(x8:Int)(z90070:T15)(x10:Int)(y90:(List Int)):(f126_l1_p k K (n+1) a0 a1 a2 x8 z90070 x10 y90:Q80)=spec_l05Keys_l1_b ((fun x10 y90=>f126_l1_p k K n a0 a1 a2 x8 z90070 x10 y90)) (fun y90=>K (.exit 2) (f126_l1_o2 a0 a1 a2 x8 z90070 y90)) a0 a1 a2 x8 z90070 x10 y90:=by kernel_rfl

theorem f126_l1_L_eq(K:Ex→St→Q80)(a0:(List Int))(a1:Int)(a2:Int)(x8:Int)(z90070:T15):∀(n:Nat) (x10:Int) (y90:(List Int)),(f126_l1_p FUEL K n a0 a1 a2 x8 z90070 x10 y90:Q80)=spec_l05Keys_l1_L (fun y90=>K (.exit 2) (f126_l1_o2 a0 a1 a2 x8 z90070 y90)) a0 a1 a2 x8 z90070 n x10 y90:=by
 intro n
 induction n with
 |zero=>intros; rfl
 |succ n ih=>
  intro x10 y90
  exact(f126_l1_round FUEL K n a0 a1 a2 x8 z90070 x10 y90).trans (congrArg (fun f=>spec_l05Keys_l1_b f (fun y90=>K (.exit 2) (f126_l1_o2 a0 a1 a2 x8 z90070 y90)) a0 a1 a2 x8 z90070 x10 y90) (funext fun x10=>funext fun y90=>ih x10 y90))

def f126_l0_p(k:Nat)(K:Ex→St→Q80)(n:Nat)(a0:(List Int))(a1:Int)(a2:Int)(x8:Int)(z90070:T15):Q80:=loopK (f126_cx k) 0 (execK (f126_cx k) (callK (f126_cx k) 8) 0 126 (sub f126_c [1,1,0,1,0,0])) f126_l0_cut K n (f126_l0_s a0 a1 a2 x8 z90070)

theorem f126_l0_round(k:Nat)(K:Ex→St→Q80)(n:Nat)(a0:(List Int))(a1:Int)(a2:Int)(x8:Int)(z90070:T15):(f126_l0_p k K (n+1) a0 a1 a2 x8 z90070:Q80)=
 ((cond (decide (x8<a2))
 (loopK (f126_cx k) 0 (execK (f126_cx k) (callK (f126_cx k) 8) 0 126 (sub f126_c [1,1,0,1,0,0,1,0,0,1,0,1,0,0])) f126_l1_cut (blkK 2 (seqK (execK (f126_cx k) (callK (f126_cx k) 8) 0 126 (sub f126_c [1,1,0,1,0,0,1,0,0,1,1])) (blkK 1 (seqK (execK (f126_cx k) (callK (f126_cx k) 8) 0 126 (sub f126_c [1,1,0,1,0,0,1,1])) (iterK (f126_cx k) 0 f126_l0_cut (loopK (f126_cx k) 0 (execK (f126_cx k) (callK (f126_cx k) 8) 0 126 (sub f126_c [1,1,0,1,0,0])) f126_l0_cut K n) K))))) k (f126_l1_s a0 a1 a2 x8 z90070 (0:Int) (List.replicate 32 (0:Int))))
 (K (.exit 0) (f126_l0_o0 z90070))):Q80):=by kernel_rfl

theorem f126_l0_exit0(k:Nat)(z90070:T15):((blkK 0 (seqK (execK (f126_cx k) (callK (f126_cx k) 8) 0 126 (sub f126_c [1,1,1])) (finK (f126_cx k) f126_i spec_l05Keys_sh))) (.exit 0) (f126_l0_o0 z90070):Q80)=
 ((some z90070):Q80):=by kernel_rfl

theorem f126_l0_L_eq(K:Ex→St→Q80)(a0:(List Int))(a1:Int)(a2:Int):∀(n:Nat) (x8:Int) (z90070:T15),(f126_l0_p FUEL K n a0 a1 a2 x8 z90070:Q80)=spec_l05Keys_l0_L (fun z90070=>K (.exit 0) (f126_l0_o0 z90070)) a0 a1 a2 n x8 z90070:=by
 intro n
 induction n with
 |zero=>intros; rfl
 |succ n ih=>
  intro x8 z90070
  exact(f126_l0_round FUEL K n a0 a1 a2 x8 z90070).trans (condC ((f126_l1_L_eq _ a0 a1 a2 x8 z90070 FUEL (0:Int) (List.replicate 32 (0:Int))).trans (congrArg (fun e0=>spec_l05Keys_l1_L e0 a0 a1 a2 x8 z90070 FUEL (0:Int) (List.replicate 32 (0:Int))) (funext fun y90=>(f126_l1_exit2 FUEL K n a0 a1 a2 x8 z90070 y90).trans (condC (ih (IntKind.wrap .i64 (x8+(1:Int))) (z90070++[y90])) (rfl))))) (rfl))

theorem f126_start(k:Nat)(a0:(List Int))(a1:Int)(a2:Int):fnK (f126_cx k) 8 126 f126_i spec_l05Keys_sh [.pv K20 a0,.pv (.int .i64) a1,.pv (.int .i64) a2]=
 ((loopK (f126_cx k) 0 (execK (f126_cx k) (callK (f126_cx k) 8) 0 126 (sub f126_c [1,1,0,1,0,0])) f126_l0_cut (blkK 0 (seqK (execK (f126_cx k) (callK (f126_cx k) 8) 0 126 (sub f126_c [1,1,1])) (finK (f126_cx k) f126_i spec_l05Keys_sh))) k (f126_l0_s a0 a1 a2 (0:Int) [])):Q80):=by kernel_rfl

theorem f126_run(a0:(List Int))(a1:Int)(a2:Int):fnK (f126_cx FUEL) 8 126 f126_i spec_l05Keys_sh [.pv K20 a0,.pv (.int .i64) a1,.pv (.int .i64) a2]=spec_l05Keys_r a0 a1 a2:=
 (f126_start FUEL a0 a1 a2).trans ((f126_l0_L_eq _ a0 a1 a2 FUEL (0:Int) []).trans (congrArg (fun e0=>spec_l05Keys_l0_L e0 a0 a1 a2 FUEL (0:Int) []) (funext fun z90070=>(f126_l0_exit0 FUEL z90070).trans (rfl))))

def f126_con:Con:={ps:=(.pair K20 (.pair (.int .i64) K18)),sh:=spec_l05Keys_sh,raw:=fun x=>spec_l05Keys_r x.1 x.2.1 x.2.2.1}
theorem f126_conOk:ConOk Tryz.prog 126 f126_con:=con_of_fn (f126_tabs FUEL) (depth:=8) f126_ok fun x y h=>(f126_run x.1 x.2.1 x.2.2.1).trans h

def f67_cx(k:Nat):Cx:=mkC [] [] [] [] [] k [] false
theorem f67_tabs(k:Nat):TabsOk Tryz.prog (f67_cx k):=mkC_ok trivial trivial trivial trivial
abbrev spec_l00In_sh:List Sh:=[.pl .bool]
abbrev Q63:Type:=Option (shDen spec_l00In_sh)
def spec_l00In_r(a0:Int)(a1:Int)(a2:Int):Q63:=
 (cond (decide (a1≤a0))
 (some (decide (a0≤a2)))
 (some false))
theorem f67_run(a0:Int)(a1:Int)(a2:Int):fnK (f67_cx FUEL) 8 67 f67_i spec_l00In_sh [.pv (.int .i64) a0,.pv (.int .i64) a1,.pv (.int .i64) a2]=spec_l00In_r a0 a1 a2:=by kernel_rfl

def f67_con:Con:={ps:=(.pair (.int .i64) (.pair (.int .i64) K18)),sh:=spec_l00In_sh,raw:=fun x=>spec_l00In_r x.1 x.2.1 x.2.2.1}
theorem f67_conOk:ConOk Tryz.prog 67 f67_con:=con_of_fn (f67_tabs FUEL) (depth:=8) f67_ok fun x y h=>(f67_run x.1 x.2.1 x.2.2.1).trans h

def f53_cx(k:Nat):Cx:=mkC [] [(67,f67_con)] [] [] [] k [] false
theorem f53_tabs(k:Nat):TabsOk Tryz.prog (f53_cx k):=mkC_ok ⟨f67_conOk,trivial⟩ trivial trivial trivial
abbrev spec_l04Name_sh:List Sh:=[.pl .bool]
abbrev Q75:Type:=Option (shDen spec_l04Name_sh)
def spec_l04Name_r(a0:List Int):Q75:=
 (bindO (spec_l00In_r (a0.length:Int) (1:Int) (24:Int)) fun(b1:Bool)=>(some b1))
theorem f53_run(a0:List Int):fnK (f53_cx FUEL) 8 53 f53_i spec_l04Name_sh [.pv .str a0]=spec_l04Name_r a0:=by kernel_rfl

def f53_con:Con:={ps:=K21,sh:=spec_l04Name_sh,raw:=fun x=>spec_l04Name_r x.1}
theorem f53_conOk:ConOk Tryz.prog 53 f53_con:=con_of_fn (f53_tabs FUEL) (depth:=8) f53_ok fun x y h=>(f53_run x.1).trans h

def f169_cx(k:Nat):Cx:=mkC [] [(53,f53_con)] [] [] [] k [] false
theorem f169_tabs(k:Nat):TabsOk Tryz.prog (f169_cx k):=mkC_ok ⟨f53_conOk,trivial⟩ trivial trivial trivial
abbrev spec_l04Entry_sh:List Sh:=[.pl .bool]
abbrev Q74:Type:=Option (shDen spec_l04Entry_sh)
def spec_l04Entry_r(a0:T9):Q74:=
 (bindO (spec_l04Name_r a0.1) fun(b1:Bool)=>(cond b1
 (some (decide ((a0.2.1.length:Int)≤(64:Int))))
 (some false)))
theorem f169_run(a0:T9):fnK (f169_cx FUEL) 8 169 f169_i spec_l04Entry_sh [.pv (.ref K15) a0]=spec_l04Entry_r a0:=by kernel_rfl

def f169_con:Con:={ps:=(.pair (.ref K15) .unit),sh:=spec_l04Entry_sh,raw:=fun x=>spec_l04Entry_r x.1}
theorem f169_conOk:ConOk Tryz.prog 169 f169_con:=con_of_fn (f169_tabs FUEL) (depth:=8) f169_ok fun x y h=>(f169_run x.1).trans h

def f136_l0_cut:Cut:={keep:=[0,2,4,5,6],stk:=[],ids:=[20,40],own:=[],outs:=[(1,[0,2,4,5],[20,40])]}
def f136_cx(k:Nat):Cx:=mkC [] [(169,f169_con)] [] [] [(136,[(0,f136_l0_cut)])] k [] false
theorem f136_tabs(k:Nat):TabsOk Tryz.prog (f136_cx k):=mkC_ok ⟨f169_conOk,trivial⟩ trivial trivial trivial
abbrev spec_l04Read_sh:List Sh:=[.pl K2,.pl .bool]
abbrev Q76:Type:=Option (shDen spec_l04Read_sh)
def f136_l0_s(a0:(List Int))(x6:Int)(y40:T0):St:={env:=(.pv K20 a0:: .dead:: .ptr 20 K2 []:: .dead:: .ptr 40 K2 []:: .pv (.int .i64) (IntKind.wrap .i64 (a0.getD 64 (0:Int))):: .pv (.int .i64) x6::(dd 54 [])),stk:=[],heap:=[(20,.var K2 (.pv K2 ((List.replicate 32 (0:Int)),((List.replicate 32 (0:Int)),(([],([],())),()))))),(40,.var K2 (.pv K2 y40))]}
def f136_l0_o0(a0:(List Int))(y40:T0):St:={env:=(.pv K20 a0:: .dead:: .ptr 20 K2 []:: .dead:: .ptr 40 K2 []:: .pv (.int .i64) (IntKind.wrap .i64 (a0.getD 64 (0:Int)))::(dd 55 [])),stk:=[],heap:=[(20,.var K2 (.pv K2 ((List.replicate 32 (0:Int)),((List.replicate 32 (0:Int)),(([],([],())),()))))),(40,.var K2 (.pv K2 y40))]}
def spec_l04Read_l0_b(rec:Int→T0→Q76)(ke0:T0→Q76)(a0:(List Int))(x6:Int)(y40:T0):Q76:=
 (cond (decide (x6<(32:Int)))
 (cond ((decide ((0:Int)≤x6))&&(decide (x6<(a0.length:Int))))
 (cond ((decide ((0:Int)≤x6))&&(decide (x6<(32:Int))))
 (cond ((decide ((0:Int)≤(IntKind.wrap .i64 ((32:Int)+x6))))&&(decide ((IntKind.wrap .i64 ((32:Int)+x6))<(a0.length:Int))))
 (cond ((decide ((0:Int)≤x6))&&(decide (x6<(32:Int))))
 (rec (IntKind.wrap .i64 (x6+(1:Int))) ((y40.1.set (x6.toNat) (a0.getD (x6.toNat) (0:Int))),((y40.2.1.set (x6.toNat) (a0.getD ((IntKind.wrap .i64 ((32:Int)+x6)).toNat) (0:Int))),y40.2.2)))
 none)
 none)
 none)
 none)
 (ke0 y40))
def spec_l04Read_l0_L(ke0:T0→Q76)(a0:(List Int)):Nat→Int→T0→Q76
 |0=>fun _ _=>none
 |n+1=>spec_l04Read_l0_b (spec_l04Read_l0_L ke0 a0 n) ke0 a0
def spec_l04Read_r(a0:(List Int)):Q76:=
 (cond (decide ((a0.length:Int)<(66:Int)))
 (some (((List.replicate 32 (0:Int)),((List.replicate 32 (0:Int)),(([],([],())),()))),false))
 (cond (decide ((153:Int)<(a0.length:Int)))
 (some (((List.replicate 32 (0:Int)),((List.replicate 32 (0:Int)),(([],([],())),()))),false))
 (cond (decide ((64:Int)<(a0.length:Int)))
 (cond (decide ((a0.length:Int)<(IntKind.wrap .i64 ((65:Int)+(IntKind.wrap .i64 (a0.getD 64 (0:Int)))))))
 (some (((List.replicate 32 (0:Int)),((List.replicate 32 (0:Int)),(([],([],())),()))),false))
 (spec_l04Read_l0_L (fun y40=>(cond ((decide ((0:Int)≤(IntKind.wrap .i64 ((65:Int)+(IntKind.wrap .i64 (a0.getD 64 (0:Int)))))))&&(decide ((IntKind.wrap .i64 ((65:Int)+(IntKind.wrap .i64 (a0.getD 64 (0:Int)))))≤(a0.length:Int))))
 (cond (decide ((65:Int)≤(IntKind.wrap .i64 ((65:Int)+(IntKind.wrap .i64 (a0.getD 64 (0:Int)))))))
 (cond ((decide ((0:Int)≤(IntKind.wrap .i64 ((65:Int)+(IntKind.wrap .i64 (a0.getD 64 (0:Int)))))))&&(decide ((IntKind.wrap .i64 ((65:Int)+(IntKind.wrap .i64 (a0.getD 64 (0:Int)))))≤(a0.length:Int))))
 (bindO (spec_l04Entry_r ((cutL a0 65 ((IntKind.wrap .i64 ((65:Int)+(IntKind.wrap .i64 (a0.getD 64 (0:Int))))).toNat)),((cutL a0 ((IntKind.wrap .i64 ((65:Int)+(IntKind.wrap .i64 (a0.getD 64 (0:Int))))).toNat) (a0.length)),()))) fun(b1:Bool)=>(some ((y40.1,(y40.2.1,(((cutL a0 65 ((IntKind.wrap .i64 ((65:Int)+(IntKind.wrap .i64 (a0.getD 64 (0:Int))))).toNat)),((cutL a0 ((IntKind.wrap .i64 ((65:Int)+(IntKind.wrap .i64 (a0.getD 64 (0:Int))))).toNat) (a0.length)),())),y40.2.2.2))),b1)))
 none)
 none)
 none)) a0 FUEL (0:Int) ((List.replicate 32 (0:Int)),((List.replicate 32 (0:Int)),(([],([],())),())))))
 none)))
def f136_l0_p(k:Nat)(K:Ex→St→Q76)(n:Nat)(a0:(List Int))(x6:Int)(y40:T0):Q76:=loopK (f136_cx k) 0 (execK (f136_cx k) (callK (f136_cx k) 8) 0 136 (sub f136_c [1,1,1,1,1,0,1,0,0])) f136_l0_cut K n (f136_l0_s a0 x6 y40)

theorem f136_l0_exit0(k:Nat)(a0:(List Int))(y40:T0):((blkK 0 (seqK (execK (f136_cx k) (callK (f136_cx k) 8) 0 136 (sub f136_c [1,1,1,1,1,1])) (finK (f136_cx k) f136_i spec_l04Read_sh))) (.exit 0) (f136_l0_o0 a0 y40):Q76)=
 ((cond ((decide ((0:Int)≤(IntKind.wrap .i64 ((65:Int)+(IntKind.wrap .i64 (a0.getD 64 (0:Int)))))))&&(decide ((IntKind.wrap .i64 ((65:Int)+(IntKind.wrap .i64 (a0.getD 64 (0:Int)))))≤(a0.length:Int))))
 (cond (decide ((65:Int)≤(IntKind.wrap .i64 ((65:Int)+(IntKind.wrap .i64 (a0.getD 64 (0:Int)))))))
 (cond ((decide ((0:Int)≤(IntKind.wrap .i64 ((65:Int)+(IntKind.wrap .i64 (a0.getD 64 (0:Int)))))))&&(decide ((IntKind.wrap .i64 ((65:Int)+(IntKind.wrap .i64 (a0.getD 64 (0:Int)))))≤(a0.length:Int))))
 (bindO (spec_l04Entry_r ((cutL a0 65 ((IntKind.wrap .i64 ((65:Int)+(IntKind.wrap .i64 (a0.getD 64 (0:Int))))).toNat)),((cutL a0 ((IntKind.wrap .i64 ((65:Int)+(IntKind.wrap .i64 (a0.getD 64 (0:Int))))).toNat) (a0.length)),()))) fun(b1:Bool)=>(some ((y40.1,(y40.2.1,(((cutL a0 65 ((IntKind.wrap .i64 ((65:Int)+(IntKind.wrap .i64 (a0.getD 64 (0:Int))))).toNat)),((cutL a0 ((IntKind.wrap .i64 ((65:Int)+(IntKind.wrap .i64 (a0.getD 64 (0:Int))))).toNat) (a0.length)),())),y40.2.2.2))),b1)))
 none)
 none)
 none):Q76):=by kernel_rfl

theorem f136_l0_round(k:Nat)(K:Ex→St→Q76)(n:Nat)(a0:(List Int))(x6:Int)(y40:T0):(f136_l0_p k K (n+1) a0 x6 y40:Q76)=spec_l04Read_l0_b ((fun x6 y40=>f136_l0_p k K n a0 x6 y40)) (fun y40=>K (.exit 0) (f136_l0_o0 a0 y40)) a0 x6 y40:=by kernel_rfl

theorem f136_l0_L_eq(K:Ex→St→Q76)(a0:(List Int)):∀(n:Nat) (x6:Int) (y40:T0),(f136_l0_p FUEL K n a0 x6 y40:Q76)=spec_l04Read_l0_L (fun y40=>K (.exit 0) (f136_l0_o0 a0 y40)) a0 n x6 y40:=by
 intro n
 induction n with
 |zero=>intros; rfl
 |succ n ih=>
  intro x6 y40
  exact(f136_l0_round FUEL K n a0 x6 y40).trans (congrArg (fun f=>spec_l04Read_l0_b f (fun y40=>K (.exit 0) (f136_l0_o0 a0 y40)) a0 x6 y40) (funext fun x6=>funext fun y40=>ih x6 y40))

theorem f136_start(k:Nat)(a0:(List Int)):fnK (f136_cx k) 8 136 f136_i spec_l04Read_sh [.pv K20 a0]=
 ((cond (decide ((a0.length:Int)<(66:Int)))
 (some (((List.replicate 32 (0:Int)),((List.replicate 32 (0:Int)),(([],([],())),()))),false))
 (cond (decide ((153:Int)<(a0.length:Int)))
 (some (((List.replicate 32 (0:Int)),((List.replicate 32 (0:Int)),(([],([],())),()))),false))
 (cond (decide ((64:Int)<(a0.length:Int)))
 (cond (decide ((a0.length:Int)<(IntKind.wrap .i64 ((65:Int)+(IntKind.wrap .i64 (a0.getD 64 (0:Int)))))))
 (some (((List.replicate 32 (0:Int)),((List.replicate 32 (0:Int)),(([],([],())),()))),false))
 (loopK (f136_cx k) 0 (execK (f136_cx k) (callK (f136_cx k) 8) 0 136 (sub f136_c [1,1,1,1,1,0,1,0,0])) f136_l0_cut (blkK 0 (seqK (execK (f136_cx k) (callK (f136_cx k) 8) 0 136 (sub f136_c [1,1,1,1,1,1])) (finK (f136_cx k) f136_i spec_l04Read_sh))) k (f136_l0_s a0 (0:Int) ((List.replicate 32 (0:Int)),((List.replicate 32 (0:Int)),(([],([],())),()))))))
 none))):Q76):=by kernel_rfl

theorem f136_run(a0:(List Int)):fnK (f136_cx FUEL) 8 136 f136_i spec_l04Read_sh [.pv K20 a0]=spec_l04Read_r a0:=
 (f136_start FUEL a0).trans (condC (rfl) (condC (rfl) (condC (condC (rfl) ((f136_l0_L_eq _ a0 FUEL (0:Int) ((List.replicate 32 (0:Int)),((List.replicate 32 (0:Int)),(([],([],())),())))).trans (congrArg (fun e0=>spec_l04Read_l0_L e0 a0 FUEL (0:Int) ((List.replicate 32 (0:Int)),((List.replicate 32 (0:Int)),(([],([],())),())))) (funext fun y40=>(f136_l0_exit0 FUEL a0 y40).trans (rfl))))) (rfl))))

def f136_con:Con:={ps:=K14,sh:=spec_l04Read_sh,raw:=fun x=>spec_l04Read_r x.1}
theorem f136_conOk:ConOk Tryz.prog 136 f136_con:=con_of_fn (f136_tabs FUEL) (depth:=8) f136_ok fun x y h=>(f136_run x.1).trans h

def f94_cx(k:Nat):Cx:=mkC [] [(102,f102_con)] [] [] [] k [] false
theorem f94_tabs(k:Nat):TabsOk Tryz.prog (f94_cx k):=mkC_ok ⟨f102_conOk,trivial⟩ trivial trivial trivial
abbrev spec_l04Empty_sh:List Sh:=[.pl (.arr 32 (.int .u8))]
abbrev Q73:Type:=Option (shDen spec_l04Empty_sh)
def spec_l04Empty_r:Q73:=
 (bindO (spec_l01Hash_r (5:Int) []) fun(b1:(List Int))=>(some b1))
theorem f94_run:fnK (f94_cx FUEL) 8 94 f94_i spec_l04Empty_sh []=spec_l04Empty_r:=by kernel_rfl

def f94_con:Con:={ps:= .unit,sh:=spec_l04Empty_sh,raw:=fun x=>spec_l04Empty_r}
theorem f94_conOk:ConOk Tryz.prog 94 f94_con:=con_of_fn (f94_tabs FUEL) (depth:=8) f94_ok fun x y h=>(f94_run).trans h

def f116_cx(k:Nat):Cx:=mkC [] [(94,f94_con),(126,f126_con),(136,f136_con)] [] [] [] k [] false
theorem f116_tabs(k:Nat):TabsOk Tryz.prog (f116_cx k):=mkC_ok ⟨f94_conOk,f126_conOk,f136_conOk,trivial⟩ trivial trivial trivial
abbrev spec_l05Links_sh:List Sh:=[.own 35 (.arr 32 (.int .u8))]
abbrev Q81:Type:=Option (shDen spec_l05Links_sh)
def spec_l05Links_r(a0:T10):Q81:=
 (cond (decide (a0.1=(2:Int)))
 (cond (decide ((a0.2.1.length:Int)=(64:Int)))
 (bindO (spec_l05Keys_r a0.2.1 (0:Int) (2:Int)) fun(b1:T15)=>(some b1))
 (some []))
 (cond (decide (a0.1=(5:Int)))
 (bindO (spec_l04Read_r a0.2.1) fun(b2:(T0×Bool))=>(cond b2.2
 (bindO (spec_l04Empty_r) fun(b3:(List Int))=>(cond (!(eqd (.arr 32 (.int .u8)) b2.1.1 b3))
 (cond b2.2
 (bindO (spec_l04Empty_r) fun(b4:(List Int))=>(cond (!(eqd (.arr 32 (.int .u8)) b2.1.2.1 b4))
 (some [b2.1.1,b2.1.2.1])
 (some [b2.1.1])))
 (some [b2.1.1]))
 (cond b2.2
 (bindO (spec_l04Empty_r) fun(b5:(List Int))=>(cond (!(eqd (.arr 32 (.int .u8)) b2.1.2.1 b5))
 (some [b2.1.2.1])
 (some [])))
 (some []))))
 (cond b2.2
 (bindO (spec_l04Empty_r) fun(b6:(List Int))=>(cond (!(eqd (.arr 32 (.int .u8)) b2.1.2.1 b6))
 (some [b2.1.2.1])
 (some [])))
 (some []))))
 (cond (decide (a0.1=(6:Int)))
 (cond (decide ((Int.tmod (a0.2.1.length:Int) (32:Int))=(0:Int)))
 (bindO (spec_l05Keys_r a0.2.1 (0:Int) (IntKind.wrap .i64 (Int.tdiv (a0.2.1.length:Int) (32:Int)))) fun(b7:T15)=>(some b7))
 (some []))
 (cond (decide (a0.1=(7:Int)))
 (cond (decide ((0:Int)<(a0.2.1.length:Int)))
 (cond (decide ((0:Int)<(a0.2.1.length:Int)))
 (cond (decide ((IntKind.wrap .i64 ((1:Int)+(IntKind.wrap .i64 ((32:Int)*(IntKind.wrap .i64 (a0.2.1.getD 0 (0:Int)))))))≤(a0.2.1.length:Int)))
 (cond (decide ((0:Int)<(a0.2.1.length:Int)))
 (bindO (spec_l05Keys_r a0.2.1 (1:Int) (IntKind.wrap .i64 (a0.2.1.getD 0 (0:Int)))) fun(b8:T15)=>(some b8))
 none)
 (some []))
 none)
 (some []))
 (some [])))))
theorem f116_run(a0:T10):fnK (f116_cx FUEL) 8 116 f116_i spec_l05Links_sh [.pv (.ref K10) a0]=spec_l05Links_r a0:=by kernel_rfl

def f116_con:Con:={ps:=(.pair (.ref K10) .unit),sh:=spec_l05Links_sh,raw:=fun x=>spec_l05Links_r x.1}
theorem f116_conOk:ConOk Tryz.prog 116 f116_con:=con_of_fn (f116_tabs FUEL) (depth:=8) f116_ok fun x y h=>(f116_run x.1).trans h

def f72_l0_cut:Cut:={keep:=[0,6,7,8,9],stk:=[],ids:=[160,90070,90080],own:=[(7,90070,28),(8,90080,28)],outs:=[(1,[6,7],[160,90070])]}
def f72_cx(k:Nat):Cx:=mkC [] [(55,f55_con),(115,f115_con),(116,f116_con)] [] [] [(72,[(0,f72_l0_cut)])] k [] false
theorem f72_tabs(k:Nat):TabsOk Tryz.prog (f72_cx k):=mkC_ok ⟨f55_conOk,f115_conOk,f116_conOk,trivial⟩ trivial trivial trivial
abbrev spec_l05Store_reach_sh:List Sh:=[.own 4 .bool,.own 35 (.arr 32 (.int .u8))]
abbrev Q83:Type:=Option (shDen spec_l05Store_reach_sh)
def f72_l0_s(a0:T1)(x9:Int)(z160:(List Bool))(z90070:T15)(z90080:T15):St:={env:=(.pv (.ref K0) a0::(dd 5 (.sl 160 .bool:: .sl 90070 (.arr 32 (.int .u8)):: .sl 90080 (.arr 32 (.int .u8)):: .pv (.int .i64) x9::(dd 58 [])))),stk:=[],heap:=[(160,.arr 4 .bool z160),(90070,.arr 35 (.arr 32 (.int .u8)) z90070),(90080,.arr 35 (.arr 32 (.int .u8)) z90080)]}
def f72_l0_o0(z160:(List Bool))(z90070:T15):St:={env:=(dd 6 (.sl 160 .bool:: .sl 90070 (.arr 32 (.int .u8))::(dd 60 []))),stk:=[],heap:=[(160,.arr 4 .bool z160),(90070,.arr 35 (.arr 32 (.int .u8)) z90070)]}
def spec_l05Store_reach_l0_b(rec:Int→(List Bool)→T15→T15→Q83)(ke0:(List Bool)→T15→Q83)(a0:T1)(x9:Int)(z160:(List Bool))(z90070:T15)(z90080:T15):Q83:=
 (cond (decide (x9<(z90080.length:Int)))
 (cond ((decide ((0:Int)≤x9))&&(decide (x9<(z90080.length:Int))))
 (bindO (spec_l05Store_find_r a0 (z90080.getD (x9.toNat) (List.replicate 32 (0:Int)))) fun(b4:Int)=>(cond (decide (b4<(0:Int)))
 (cond ((decide ((0:Int)≤x9))&&(decide (x9<(z90080.length:Int))))
 (bindO (spec_l01Has_r z90070 (z90080.getD (x9.toNat) (List.replicate 32 (0:Int)))) fun(b5:Bool)=>(cond (!b5)
 (cond ((decide ((0:Int)≤x9))&&(decide (x9<(z90080.length:Int))))
 (cond (decide ((z90070.length+1)*32≤140737488355328)&&decide (z90070.length+1≤9223372036854775807))
 (rec (IntKind.wrap .i64 (x9+(1:Int))) z160 (z90070++[(z90080.getD (x9.toNat) (List.replicate 32 (0:Int)))]) z90080)
 none)
 none)
 (rec (IntKind.wrap .i64 (x9+(1:Int))) z160 z90070 z90080)))
 none)
 (cond ((decide ((0:Int)≤b4))&&(decide (b4<(z160.length:Int))))
 (cond (!(z160.getD (b4.toNat) false))
 (cond ((decide ((0:Int)≤b4))&&(decide (b4<(z160.length:Int))))
 (cond ((decide ((0:Int)≤b4))&&(decide (b4<(a0.1.length:Int))))
 (bindO (spec_l05Links_r (a0.1.getD (b4.toNat) ((0:Int),([],())))) fun(b6:T15)=>(cond (decide ((z90080.length+b6.length)*32≤140737488355328)&&decide (z90080.length+b6.length≤9223372036854775807))
 (rec (IntKind.wrap .i64 (x9+(1:Int))) (z160.set (b4.toNat) true) z90070 (z90080++b6))
 none))
 none)
 none)
 (rec (IntKind.wrap .i64 (x9+(1:Int))) z160 z90070 z90080))
 none)))
 none)
 (ke0 z160 z90070))
def spec_l05Store_reach_l0_L(ke0:(List Bool)→T15→Q83)(a0:T1):Nat→Int→(List Bool)→T15→T15→Q83
 |0=>fun _ _ _ _=>none
 |n+1=>spec_l05Store_reach_l0_b (spec_l05Store_reach_l0_L ke0 a0 n) ke0 a0
def spec_l05Store_reach_r(a0:T1)(a1:T15):Q83:=
 (cond (((decide ((0:Int)≤(a0.2.1.length:Int)))&&(decide (((a0.2.1.length:Int)*(1:Int))≤(140737488355328:Int))))&&(decide ((a0.2.1.length:Int)≤(9223372036854775807:Int))))
 (cond (decide ((0+a1.length)*32≤140737488355328)&&decide (0+a1.length≤9223372036854775807))
 (spec_l05Store_reach_l0_L (fun z160 z90070=>(some (z160,z90070))) a0 FUEL (0:Int) (List.replicate ((a0.2.1.length:Int).toNat) false) [] ([]++a1))
 none)
 none)
def f72_l0_p(k:Nat)(K:Ex→St→Q83)(n:Nat)(a0:T1)(x9:Int)(z160:(List Bool))(z90070:T15)(z90080:T15):Q83:=loopK (f72_cx k) 0 (execK (f72_cx k) (callK (f72_cx k) 8) 0 72 (sub f72_c [1,1,1,1,0,1,0,0])) f72_l0_cut K n (f72_l0_s a0 x9 z160 z90070 z90080)

theorem f72_l0_exit0(k:Nat)(z160:(List Bool))(z90070:T15):((blkK 0 (seqK (execK (f72_cx k) (callK (f72_cx k) 8) 0 72 (sub f72_c [1,1,1,1,1])) (finK (f72_cx k) f72_i spec_l05Store_reach_sh))) (.exit 0) (f72_l0_o0 z160 z90070):Q83)=
 ((some (z160,z90070)):Q83):=by kernel_rfl

theorem f72_l0_round(k:Nat)(K:Ex→St→Q83)(n:Nat)(a0:T1)(x9:Int)(z160:(List Bool))(z90070:T15)(z90080:T15):(f72_l0_p k K (n+1) a0 x9 z160 z90070 z90080:Q83)=spec_l05Store_reach_l0_b ((fun x9 z160 z90070 z90080=>f72_l0_p k K n a0 x9 z160 z90070 z90080)) (fun z160 z90070=>K (.exit 0) (f72_l0_o0 z160 z90070)) a0 x9 z160 z90070 z90080:=by kernel_rfl

theorem f72_l0_L_eq(K:Ex→St→Q83)(a0:T1):∀(n:Nat) (x9:Int) (z160:(List Bool)) (z90070:T15) (z90080:T15),(f72_l0_p FUEL K n a0 x9 z160 z90070 z90080:Q83)=spec_l05Store_reach_l0_L (fun z160 z90070=>K (.exit 0) (f72_l0_o0 z160 z90070)) a0 n x9 z160 z90070 z90080:=by
 intro n
 induction n with
 |zero=>intros; rfl
 |succ n ih=>
  intro x9 z160 z90070 z90080
  exact(f72_l0_round FUEL K n a0 x9 z160 z90070 z90080).trans (congrArg (fun f=>spec_l05Store_reach_l0_b f (fun z160 z90070=>K (.exit 0) (f72_l0_o0 z160 z90070)) a0 x9 z160 z90070 z90080) (funext fun x9=>funext fun z160=>funext fun z90070=>funext fun z90080=>ih x9 z160 z90070 z90080))

theorem f72_start(k:Nat)(a0:T1)(a1:T15):fnK (f72_cx k) 8 72 f72_i spec_l05Store_reach_sh [.pv (.ref K0) a0,.pv K16 a1]=
 ((cond (((decide ((0:Int)≤(a0.2.1.length:Int)))&&(decide (((a0.2.1.length:Int)*(1:Int))≤(140737488355328:Int))))&&(decide ((a0.2.1.length:Int)≤(9223372036854775807:Int))))
 (cond (decide ((0+a1.length)*32≤140737488355328)&&decide (0+a1.length≤9223372036854775807))
 (loopK (f72_cx k) 0 (execK (f72_cx k) (callK (f72_cx k) 8) 0 72 (sub f72_c [1,1,1,1,0,1,0,0])) f72_l0_cut (blkK 0 (seqK (execK (f72_cx k) (callK (f72_cx k) 8) 0 72 (sub f72_c [1,1,1,1,1])) (finK (f72_cx k) f72_i spec_l05Store_reach_sh))) k (f72_l0_s a0 (0:Int) (List.replicate ((a0.2.1.length:Int).toNat) false) [] ([]++a1)))
 none)
 none):Q83):=by kernel_rfl

theorem f72_run(a0:T1)(a1:T15):fnK (f72_cx FUEL) 8 72 f72_i spec_l05Store_reach_sh [.pv (.ref K0) a0,.pv K16 a1]=spec_l05Store_reach_r a0 a1:=
 (f72_start FUEL a0 a1).trans (condC (condC ((f72_l0_L_eq _ a0 FUEL (0:Int) (List.replicate ((a0.2.1.length:Int).toNat) false) [] ([]++a1)).trans (congrArg (fun e0=>spec_l05Store_reach_l0_L e0 a0 FUEL (0:Int) (List.replicate ((a0.2.1.length:Int).toNat) false) [] ([]++a1)) (funext fun z160=>funext fun z90070=>(f72_l0_exit0 FUEL z160 z90070).trans (rfl)))) (rfl)) (rfl))

def f72_con:Con:={ps:=(.pair (.ref K0) K12),sh:=spec_l05Store_reach_sh,raw:=fun x=>spec_l05Store_reach_r x.1 x.2.1}
theorem f72_conOk:ConOk Tryz.prog 72 f72_con:=con_of_fn (f72_tabs FUEL) (depth:=8) f72_ok fun x y h=>(f72_run x.1 x.2.1).trans h

def f73_cx(k:Nat):Cx:=mkC [] [] [] [] [] k [] false
theorem f73_tabs(k:Nat):TabsOk Tryz.prog (f73_cx k):=mkC_ok trivial trivial trivial trivial
abbrev spec_l05Copy_sh:List Sh:=[.pr (.pl (.int .u8)) (.pr (.own 5 (.int .u8)) (.pl .unit))]
abbrev Q78:Type:=Option (shDen spec_l05Copy_sh)
def spec_l05Copy_r(a0:T10):Q78:=
 (cond (decide ((0+a0.2.1.length)*1≤140737488355328)&&decide (0+a0.2.1.length≤9223372036854775807))
 (some (a0.1,(([]++a0.2.1),())))
 none)
theorem f73_run(a0:T10):fnK (f73_cx FUEL) 8 73 f73_i spec_l05Copy_sh [.pv K10 a0]=spec_l05Copy_r a0:=by kernel_rfl

def f73_con:Con:={ps:=K7,sh:=spec_l05Copy_sh,raw:=fun x=>spec_l05Copy_r x.1}
theorem f73_conOk:ConOk Tryz.prog 73 f73_con:=con_of_fn (f73_tabs FUEL) (depth:=8) f73_ok fun x y h=>(f73_run x.1).trans h

def f33_d_l0_cut:Cut:={keep:=[0,4,5],stk:=[[1],[1,2]],ids:=[30,200080,280000,280010],own:=[],outs:=[(0,[2,3],[200080,280000,280010]),(1,[4],[200080,280000,280010])],fown:=[(200080,[.fld 0],280000,31),(200080,[.fld 1],280010,28)]}
def f33_d_l1_cut:Cut:={keep:=[8,10,12,14,15],stk:=[],ids:=[180,181,182,350,410,90140],own:=[(14,90140,31)],outs:=[(1,[14],[90140])]}
def f33_d_cx(k:Nat):Cx:=mkC [(43,f43_i),(66,f66_i)] [(72,f72_con),(73,f73_con),(91,f91_con),(92,f92_con),(93,f93_con)] [] [] [(330018006600100043,[(0,f33_d_l0_cut)]),(33,[(0,f33_d_l1_cut)])] k dps false
theorem f33_d_tabs(k:Nat):TabsOk Tryz.prog (f33_d_cx k):=mkC_ok ⟨f72_conOk,f73_conOk,f91_conOk,f92_conOk,f93_conOk,trivial⟩ trivial trivial ⟨f43_ok,f66_ok,trivial⟩
abbrev spec_BlobsFor_d_sh:List Sh:=[.tre 125 (.pr (.pl (.int .u8)) (.pr (.sl 5 (.pl (.int .u8))) (.pl .unit))),.pl (.int .i64)]
abbrev Q62:Type:=Option (shDen spec_BlobsFor_d_sh)
def f33_d_l0_s(a0:T4)(a1:T15)(a2:T15)(x5:Int)(z280000:T7)(z280010:T15):St:={env:=(.ptr 30 K5 []::(dd 3 (.ptr 200080 K0 []:: .pv (.int .i64) x5::(dd 78 [])))),stk:=[(.dead:: .pv K16 a1::(dd 19 [])),(.dead:: .pv K16 a1:: .pv K16 a2::(dd 71 []))],heap:=[(30,.var K5 (.pv K5 a0)),(200080,.var K0 (.pr (.sl 280000 K10) (.pr (.sl 280010 (.arr 32 (.int .u8))) (.pv .unit ())))),(280000,.arr 125 K10 z280000),(280010,.arr 35 (.arr 32 (.int .u8)) z280010)]}
def f33_d_l0_o(a0:T4)(a1:T15)(a2:T15)(z280000:T7)(z280010:T15):St:={env:=(.dead:: .dead:: .ptr 200080 K0 []:: .pv .bool false::(dd 80 [])),stk:=[(.dead:: .pv K16 a1::(dd 19 [])),(.dead:: .pv K16 a1:: .pv K16 a2::(dd 71 []))],heap:=[(30,.var K5 (.pv K5 a0)),(200080,.var K0 (.pr (.sl 280000 K10) (.pr (.sl 280010 (.arr 32 (.int .u8))) (.pv .unit ())))),(280000,.arr 125 K10 z280000),(280010,.arr 35 (.arr 32 (.int .u8)) z280010)]}
def f33_d_l0_o0(a0:T4)(a1:T15)(a2:T15)(z280000:T7)(z280010:T15):St:={env:=(dd 4 (.ptr 200080 K0 []::(dd 79 []))),stk:=[(.dead:: .pv K16 a1::(dd 19 [])),(.dead:: .pv K16 a1:: .pv K16 a2::(dd 71 []))],heap:=[(30,.var K5 (.pv K5 a0)),(200080,.var K0 (.pr (.sl 280000 K10) (.pr (.sl 280010 (.arr 32 (.int .u8))) (.pv .unit ())))),(280000,.arr 125 K10 z280000),(280010,.arr 35 (.arr 32 (.int .u8)) z280010)]}
def f33_d_l1_s(z181:T7)(z182:T15)(z350:(List Bool))(z410:(List Bool))(x15:Int)(z90140:T7):St:={env:=(dd 8 (.ptr 180 K0 []:: .dead:: .sl 350 .bool:: .dead:: .sl 410 .bool:: .dead:: .inn 90140 [] K10:: .pv (.int .i64) x15::(dd 58 []))),stk:=[],heap:=[(180,.var K0 (.pr (.sl 181 K10) (.pr (.sl 182 (.arr 32 (.int .u8))) (.pv .unit ())))),(181,.arr 125 K10 z181),(182,.arr 35 (.arr 32 (.int .u8)) z182),(350,.arr 4 .bool z350),(410,.arr 4 .bool z410),(90140,.tre 125 (.pr (.pl (.int .u8)) (.pr (.sl 5 (.pl (.int .u8))) (.pl .unit))) z90140)]}
def f33_d_l1_o0(z90140:T7):St:={env:=(dd 14 (.inn 90140 [] K10::(dd 59 []))),stk:=[],heap:=[(90140,.tre 125 (.pr (.pl (.int .u8)) (.pr (.sl 5 (.pl (.int .u8))) (.pl .unit))) z90140)]}
def spec_BlobsFor_d_l1_b(rec:T7→T15→(List Bool)→(List Bool)→Int→T7→Q62)(ke0:T7→Q62)(z181:T7)(z182:T15)(z350:(List Bool))(z410:(List Bool))(x15:Int)(z90140:T7):Q62:=
 (cond (decide (x15<(z350.length:Int)))
 (cond ((decide ((0:Int)≤x15))&&(decide (x15<(z350.length:Int))))
 (cond (z350.getD (x15.toNat) false)
 (cond ((decide ((0:Int)≤x15))&&(decide (x15<(z410.length:Int))))
 (cond (!(z410.getD (x15.toNat) false))
 (cond ((decide ((0:Int)≤x15))&&(decide (x15<(z181.length:Int))))
 (bindO (spec_l05Copy_r (z181.getD (x15.toNat) ((0:Int),([],())))) fun(b9:T10)=>(cond (decide ((z90140.length+1)*32≤140737488355328)&&decide (z90140.length+1≤9223372036854775807))
 (rec z181 z182 z350 z410 (IntKind.wrap .i64 (x15+(1:Int))) (z90140++[(b9.1,(b9.2.1,()))]))
 none))
 none)
 (rec z181 z182 z350 z410 (IntKind.wrap .i64 (x15+(1:Int))) z90140))
 none)
 (rec z181 z182 z350 z410 (IntKind.wrap .i64 (x15+(1:Int))) z90140))
 none)
 (ke0 z90140))
def spec_BlobsFor_d_l1_L(ke0:T7→Q62):Nat→T7→T15→(List Bool)→(List Bool)→Int→T7→Q62
 |0=>fun _ _ _ _ _ _=>none
 |n+1=>spec_BlobsFor_d_l1_b (spec_BlobsFor_d_l1_L ke0 n) ke0
def spec_BlobsFor_d_l0_b(rec:Int→T7→T15→Q62)(kr:T7→T15→Q62)(ke0:T7→T15→Q62)(a0:T4)(a1:T15)(a2:T15)(x5:Int)(z280000:T7)(z280010:T15):Q62:=
 (cond (decide (x5<(a0.1.length:Int)))
 (cond ((decide ((0:Int)≤x5))&&(decide (x5<(a0.1.length:Int))))
 (bindO (spec_l05Blob_r (a0.1.getD (x5.toNat) ((0:Int),([],())))) fun(b3:Bool)=>(cond (!b3)
 (kr z280000 z280010)
 (cond ((decide ((0:Int)≤x5))&&(decide (x5<(a0.1.length:Int))))
 (bindO (spec_l05Key_r (a0.1.getD (x5.toNat) ((0:Int),([],())))) fun(b4:(List Int))=>(cond (decide ((0:Int)<x5))
 (cond ((decide ((0:Int)≤(IntKind.wrap .i64 (x5-(1:Int)))))&&(decide ((IntKind.wrap .i64 (x5-(1:Int)))<(z280010.length:Int))))
 (bindO (spec_l01Compare_r (z280010.getD ((IntKind.wrap .i64 (x5-(1:Int))).toNat) (List.replicate 32 (0:Int))) b4) fun(b5:Int)=>(cond (decide ((0:Int)≤b5))
 (kr z280000 z280010)
 (cond ((decide ((0:Int)≤x5))&&(decide (x5<(a0.1.length:Int))))
 (cond (decide ((z280000.length+1)*32≤140737488355328)&&decide (z280000.length+1≤9223372036854775807))
 (cond (decide ((z280010.length+1)*32≤140737488355328)&&decide (z280010.length+1≤9223372036854775807))
 (rec (IntKind.wrap .i64 (x5+(1:Int))) (z280000++[(a0.1.getD (x5.toNat) ((0:Int),([],())))]) (z280010++[b4]))
 none)
 none)
 none)))
 none)
 (cond ((decide ((0:Int)≤x5))&&(decide (x5<(a0.1.length:Int))))
 (cond (decide ((z280000.length+1)*32≤140737488355328)&&decide (z280000.length+1≤9223372036854775807))
 (cond (decide ((z280010.length+1)*32≤140737488355328)&&decide (z280010.length+1≤9223372036854775807))
 (rec (IntKind.wrap .i64 (x5+(1:Int))) (z280000++[(a0.1.getD (x5.toNat) ((0:Int),([],())))]) (z280010++[b4]))
 none)
 none)
 none)))
 none)))
 none)
 (ke0 z280000 z280010))
def spec_BlobsFor_d_l0_L(kr:T7→T15→Q62)(ke0:T7→T15→Q62)(a0:T4)(a1:T15)(a2:T15):Nat→Int→T7→T15→Q62
 |0=>fun _ _ _=>none
 |n+1=>spec_BlobsFor_d_l0_b (spec_BlobsFor_d_l0_L kr ke0 a0 a1 a2 n) kr ke0 a0 a1 a2
def spec_BlobsFor_d_r(a0:T4)(a1:T15)(a2:T15):Q62:=
 (cond (decide ((128:Int)<(a0.1.length:Int)))
 (some ([],(1:Int)))
 (spec_BlobsFor_d_l0_L (fun z280000 z280010=>(some ([],(1:Int)))) (fun z280000 z280010=>(cond (decide ((256:Int)<(a1.length:Int)))
 (some ([],(3:Int)))
 (cond (decide ((256:Int)<(a2.length:Int)))
 (some ([],(3:Int)))
 (bindO (spec_l05Store_reach_r (z280000,(z280010,())) a1) fun(b6:T8)=>(bindO (spec_l05Store_reach_r (z280000,(z280010,())) a2) fun(b7:T8)=>(spec_BlobsFor_d_l1_L (fun z90140=>(some (z90140,(0:Int)))) FUEL z280000 z280010 b6.1 b7.1 (0:Int) [])))))) a0 a1 a2 FUEL (0:Int) [] []))
def f33_d_l1_p(k:Nat)(K:Ex→St→Q62)(n:Nat)(z181:T7)(z182:T15)(z350:(List Bool))(z410:(List Bool))(x15:Int)(z90140:T7):Q62:=loopK (f33_d_cx k) 0 (execK (f33_d_cx k) (callK (f33_d_cx k) 8) 0 33 (sub f33_c [1,1,1,1,1,1,1,0,1,0,0])) f33_d_l1_cut K n (f33_d_l1_s z181 z182 z350 z410 x15 z90140)

theorem f33_d_l1_exit0(k:Nat)(z90140:T7):((blkK 0 (seqK (execK (f33_d_cx k) (callK (f33_d_cx k) 8) 0 33 (sub f33_c [1,1,1,1,1,1,1,1])) (finK (f33_d_cx k) f33_i spec_BlobsFor_d_sh))) (.exit 0) (f33_d_l1_o0 z90140):Q62)=
 ((some (z90140,(0:Int))):Q62):=by kernel_rfl

theorem f33_d_l1_round(k:Nat)(K:Ex→St→Q62)(n:Nat)(z181:T7)(z182:T15)(z350:(List Bool))(z410:(List Bool))(x15:Int)(z90140:T7):(f33_d_l1_p k K (n+1) z181 z182 z350 z410 x15 z90140:Q62)=spec_BlobsFor_d_l1_b ((fun z181 z182 z350 z410 x15 z90140=>f33_d_l1_p k K n z181 z182 z350 z410 x15 z90140)) (fun z90140=>K (.exit 0) (f33_d_l1_o0 z90140)) z181 z182 z350 z410 x15 z90140:=by kernel_rfl

theorem f33_d_l1_L_eq(K:Ex→St→Q62):∀(n:Nat) (z181:T7) (z182:T15) (z350:(List Bool)) (z410:(List Bool)) (x15:Int) (z90140:T7),(f33_d_l1_p FUEL K n z181 z182 z350 z410 x15 z90140:Q62)=spec_BlobsFor_d_l1_L (fun z90140=>K (.exit 0) (f33_d_l1_o0 z90140)) n z181 z182 z350 z410 x15 z90140:=by
 intro n
 induction n with
 |zero=>intros; rfl
 |succ n ih=>
  intro z181 z182 z350 z410 x15 z90140
  exact(f33_d_l1_round FUEL K n z181 z182 z350 z410 x15 z90140).trans (congrArg (fun f=>spec_BlobsFor_d_l1_b f (fun z90140=>K (.exit 0) (f33_d_l1_o0 z90140)) z181 z182 z350 z410 x15 z90140) (funext fun z181=>funext fun z182=>funext fun z350=>funext fun z410=>funext fun x15=>funext fun z90140=>ih z181 z182 z350 z410 x15 z90140))

def f33_d_l0_p(k:Nat)(K:Ex→St→Q62)(n:Nat)(a0:T4)(a1:T15)(a2:T15)(x5:Int)(z280000:T7)(z280010:T15):Q62:=loopK (f33_d_cx k) 2 (execK (f33_d_cx k) (callK (f33_d_cx k) 6) 2 330018006600100043 (sub f43_c [1,1,1,0,1,0,0])) f33_d_l0_cut K n (f33_d_l0_s a0 a1 a2 x5 z280000 z280010)

theorem f33_d_l0_ret(k:Nat)(a0:T4)(a1:T15)(a2:T15)(z280000:T7)(z280010:T15):((blkK 0 (seqK (execK (f33_d_cx k) (callK (f33_d_cx k) 6) 2 330018006600100043 (sub f43_c [1,1,1,1])) (retK (f33_d_cx k) f43_i (some 10) 1 (opsRest (f33_d_cx k) (callK (f33_d_cx k) 7) 1 3300180066 false (regOps (sub f66_c [1,0])) 1 (seqK (execK (f33_d_cx k) (callK (f33_d_cx k) 7) 1 3300180066 (sub f66_c [1,1])) (retK (f33_d_cx k) f66_i (some 18) 0 (opsRest (f33_d_cx k) (callK (f33_d_cx k) 8) 0 33 false (regOps (sub f33_c [1,0])) 1 (seqK (execK (f33_d_cx k) (callK (f33_d_cx k) 8) 0 33 (sub f33_c [1,1])) (finK (f33_d_cx k) f33_i spec_BlobsFor_d_sh))))))))) .ret (f33_d_l0_o a0 a1 a2 z280000 z280010):Q62)=
 ((some ([],(1:Int))):Q62):=by kernel_rfl

theorem f33_d_l0_exit0(k:Nat)(a0:T4)(a1:T15)(a2:T15)(z280000:T7)(z280010:T15):((blkK 0 (seqK (execK (f33_d_cx k) (callK (f33_d_cx k) 6) 2 330018006600100043 (sub f43_c [1,1,1,1])) (retK (f33_d_cx k) f43_i (some 10) 1 (opsRest (f33_d_cx k) (callK (f33_d_cx k) 7) 1 3300180066 false (regOps (sub f66_c [1,0])) 1 (seqK (execK (f33_d_cx k) (callK (f33_d_cx k) 7) 1 3300180066 (sub f66_c [1,1])) (retK (f33_d_cx k) f66_i (some 18) 0 (opsRest (f33_d_cx k) (callK (f33_d_cx k) 8) 0 33 false (regOps (sub f33_c [1,0])) 1 (seqK (execK (f33_d_cx k) (callK (f33_d_cx k) 8) 0 33 (sub f33_c [1,1])) (finK (f33_d_cx k) f33_i spec_BlobsFor_d_sh))))))))) (.exit 0) (f33_d_l0_o0 a0 a1 a2 z280000 z280010):Q62)=
 ((cond (decide ((256:Int)<(a1.length:Int)))
 (some ([],(3:Int)))
 (cond (decide ((256:Int)<(a2.length:Int)))
 (some ([],(3:Int)))
 (bindO (spec_l05Store_reach_r (z280000,(z280010,())) a1) fun(b6:T8)=>(bindO (spec_l05Store_reach_r (z280000,(z280010,())) a2) fun(b7:T8)=>(loopK (f33_d_cx k) 0 (execK (f33_d_cx k) (callK (f33_d_cx k) 8) 0 33 (sub f33_c [1,1,1,1,1,1,1,0,1,0,0])) f33_d_l1_cut (blkK 0 (seqK (execK (f33_d_cx k) (callK (f33_d_cx k) 8) 0 33 (sub f33_c [1,1,1,1,1,1,1,1])) (finK (f33_d_cx k) f33_i spec_BlobsFor_d_sh))) k (f33_d_l1_s z280000 z280010 b6.1 b7.1 (0:Int) [])))))):Q62):=by kernel_rfl

theorem f33_d_l0_round(k:Nat)(K:Ex→St→Q62)(n:Nat)(a0:T4)(a1:T15)(a2:T15)(x5:Int)(z280000:T7)(z280010:T15):(f33_d_l0_p k K (n+1) a0 a1 a2 x5 z280000 z280010:Q62)=spec_BlobsFor_d_l0_b ((fun x5 z280000 z280010=>f33_d_l0_p k K n a0 a1 a2 x5 z280000 z280010)) (fun z280000 z280010=>K .ret (f33_d_l0_o a0 a1 a2 z280000 z280010)) (fun z280000 z280010=>K (.exit 0) (f33_d_l0_o0 a0 a1 a2 z280000 z280010)) a0 a1 a2 x5 z280000 z280010:=by kernel_rfl

theorem f33_d_l0_L_eq(K:Ex→St→Q62)(a0:T4)(a1:T15)(a2:T15):∀(n:Nat) (x5:Int) (z280000:T7) (z280010:T15),(f33_d_l0_p FUEL K n a0 a1 a2 x5 z280000 z280010:Q62)=spec_BlobsFor_d_l0_L (fun z280000 z280010=>K .ret (f33_d_l0_o a0 a1 a2 z280000 z280010)) (fun z280000 z280010=>K (.exit 0) (f33_d_l0_o0 a0 a1 a2 z280000 z280010)) a0 a1 a2 n x5 z280000 z280010:=by
 intro n
 induction n with
 |zero=>intros; rfl
 |succ n ih=>
  intro x5 z280000 z280010
  exact(f33_d_l0_round FUEL K n a0 a1 a2 x5 z280000 z280010).trans (congrArg (fun f=>spec_BlobsFor_d_l0_b f (fun z280000 z280010=>K .ret (f33_d_l0_o a0 a1 a2 z280000 z280010)) (fun z280000 z280010=>K (.exit 0) (f33_d_l0_o0 a0 a1 a2 z280000 z280010)) a0 a1 a2 x5 z280000 z280010) (funext fun x5=>funext fun z280000=>funext fun z280010=>ih x5 z280000 z280010))

theorem f33_d_start(k:Nat)(a0:T4)(a1:T15)(a2:T15):fnK (f33_d_cx k) 8 33 f33_i spec_BlobsFor_d_sh [.pv K5 a0,.pv K16 a1,.pv K16 a2]=
 ((cond (decide ((128:Int)<(a0.1.length:Int)))
 (some ([],(1:Int)))
 (loopK (f33_d_cx k) 2 (execK (f33_d_cx k) (callK (f33_d_cx k) 6) 2 330018006600100043 (sub f43_c [1,1,1,0,1,0,0])) f33_d_l0_cut (blkK 0 (seqK (execK (f33_d_cx k) (callK (f33_d_cx k) 6) 2 330018006600100043 (sub f43_c [1,1,1,1])) (retK (f33_d_cx k) f43_i (some 10) 1 (opsRest (f33_d_cx k) (callK (f33_d_cx k) 7) 1 3300180066 false (regOps (sub f66_c [1,0])) 1 (seqK (execK (f33_d_cx k) (callK (f33_d_cx k) 7) 1 3300180066 (sub f66_c [1,1])) (retK (f33_d_cx k) f66_i (some 18) 0 (opsRest (f33_d_cx k) (callK (f33_d_cx k) 8) 0 33 false (regOps (sub f33_c [1,0])) 1 (seqK (execK (f33_d_cx k) (callK (f33_d_cx k) 8) 0 33 (sub f33_c [1,1])) (finK (f33_d_cx k) f33_i spec_BlobsFor_d_sh))))))))) k (f33_d_l0_s a0 a1 a2 (0:Int) [] []))):Q62):=by kernel_rfl

theorem f33_d_run(a0:T4)(a1:T15)(a2:T15):fnK (f33_d_cx FUEL) 8 33 f33_i spec_BlobsFor_d_sh [.pv K5 a0,.pv K16 a1,.pv K16 a2]=spec_BlobsFor_d_r a0 a1 a2:=
 (f33_d_start FUEL a0 a1 a2).trans (condC (rfl) ((f33_d_l0_L_eq _ a0 a1 a2 FUEL (0:Int) [] []).trans (cong2 (fun e0 e1=>spec_BlobsFor_d_l0_L e0 e1 a0 a1 a2 FUEL (0:Int) [] []) (funext fun z280000=>funext fun z280010=>(f33_d_l0_ret FUEL a0 a1 a2 z280000 z280010).trans (rfl)) (funext fun z280000=>funext fun z280010=>(f33_d_l0_exit0 FUEL a0 a1 a2 z280000 z280010).trans (condC (rfl) (condC (rfl) (bindC (fun b6=>bindC (fun b7=>(f33_d_l1_L_eq _ FUEL z280000 z280010 b6.1 b7.1 (0:Int) []).trans (congrArg (fun e0=>spec_BlobsFor_d_l1_L e0 FUEL z280000 z280010 b6.1 b7.1 (0:Int) []) (funext fun z90140=>(f33_d_l1_exit0 FUEL z90140).trans (rfl))))))))))))

def f33_d_con:Con:={ps:=(.pair K5 K4),sh:=spec_BlobsFor_d_sh,raw:=fun x=>spec_BlobsFor_d_r x.1 x.2.1 x.2.2.1}
theorem f33_d_conOk:ConOk Tryz.prog 33 f33_d_con:=con_of_fn (f33_d_tabs FUEL) (depth:=8) f33_ok fun x y h=>(f33_d_run x.1 x.2.1 x.2.2.1).trans h

def f140_cx(k:Nat):Cx:=mkC [] [] [] [] [] k [] false
theorem f140_tabs(k:Nat):TabsOk Tryz.prog (f140_cx k):=mkC_ok trivial trivial trivial trivial
abbrev impl_ValidBlob_sh:List Sh:=[.pl .bool]
abbrev Q11:Type:=Option (shDen impl_ValidBlob_sh)
def impl_ValidBlob_r(a0:T10):Q11:=
 (some (decide ((a0.2.1.length:Int)≤(1024:Int))))
theorem f140_run(a0:T10):fnK (f140_cx FUEL) 8 140 f140_i impl_ValidBlob_sh [.pv K10 a0]=impl_ValidBlob_r a0:=by kernel_rfl

def f140_con:Con:={ps:=K7,sh:=impl_ValidBlob_sh,raw:=fun x=>impl_ValidBlob_r x.1}
theorem f140_conOk:ConOk Tryz.prog 140 f140_con:=con_of_fn (f140_tabs FUEL) (depth:=8) f140_ok fun x y h=>(f140_run x.1).trans h

def f139_cx(k:Nat):Cx:=mkC [] [(140,f140_con)] [] [] [] k [] false
theorem f139_tabs(k:Nat):TabsOk Tryz.prog (f139_cx k):=mkC_ok ⟨f140_conOk,trivial⟩ trivial trivial trivial
abbrev impl_ValidStore_1_sh:List Sh:=[.pl .bool]
abbrev Q13:Type:=Option (shDen impl_ValidStore_1_sh)
def impl_ValidStore_1_r(a0:T10):Q13:=
 (bindO (impl_ValidBlob_r a0) fun(b1:Bool)=>(some (!b1)))
theorem f139_run(a0:T10):fnK (f139_cx FUEL) 8 139 f139_i impl_ValidStore_1_sh [.pv K10 a0]=impl_ValidStore_1_r a0:=by kernel_rfl

def f139_con:Con:={ps:=K7,sh:=impl_ValidStore_1_sh,raw:=fun x=>impl_ValidStore_1_r x.1}
theorem f139_conOk:ConOk Tryz.prog 139 f139_con:=con_of_fn (f139_tabs FUEL) (depth:=8) f139_ok fun x y h=>(f139_run x.1).trans h

def f151_cx(k:Nat):Cx:=mkC [] [] [] [] [] k [] false
theorem f151_tabs(k:Nat):TabsOk Tryz.prog (f151_cx k):=mkC_ok trivial trivial trivial trivial
abbrev impl_size_byte_sh:List Sh:=[.pl (.int .i64)]
abbrev Q30:Type:=Option (shDen impl_size_byte_sh)
def impl_size_byte_r(a0:(List Int)):Q30:=
 (some (a0.length:Int))
theorem f151_run(a0:(List Int)):fnK (f151_cx FUEL) 8 151 f151_i impl_size_byte_sh [.pv K20 a0]=impl_size_byte_r a0:=by kernel_rfl

def f151_con:Con:={ps:=K14,sh:=impl_size_byte_sh,raw:=fun x=>impl_size_byte_r x.1}
theorem f151_conOk:ConOk Tryz.prog 151 f151_con:=con_of_fn (f151_tabs FUEL) (depth:=8) f151_ok fun x y h=>(f151_run x.1).trans h

def f176_l0_cut:Cut:={keep:=[0,1,8,9],stk:=[],ids:=[90000],own:=[(0,90000,123)],outs:=[(1,[0],[90000])]}
def f176_cx(k:Nat):Cx:=mkC [] [] [] [] [(176,[(0,f176_l0_cut)])] k [] false
theorem f176_tabs(k:Nat):TabsOk Tryz.prog (f176_cx k):=mkC_ok trivial trivial trivial trivial
def f176_l0_s(a1:Int)(a2:Int)(x9:Int)(z90000:(List Int)):St:={env:=(.sl 90000 (.int .u8):: .pv (.int .u64) a1::(dd 6 (.pv (.int .i64) a2:: .pv (.int .i64) x9::(dd 12 [])))),stk:=[],heap:=[(90000,.arr 5 (.int .u8) z90000)]}
def f176_l0_o0(z90000:(List Int)):St:={env:=(.sl 90000 (.int .u8)::(dd 21 [])),stk:=[],heap:=[(90000,.arr 5 (.int .u8) z90000)]}
def impl_appendLittle_l0_b(rec:Int→(List Int)→Option (List Int))(ke0:(List Int)→Option (List Int))(a1:Int)(a2:Int)(x9:Int)(z90000:(List Int)):Option (List Int):=
 (cond (decide (x9<a2))
 (cond (decide ((IntKind.wrap .i64 ((8:Int)*x9))<(0:Int)))
 none
 (cond (decide ((z90000.length+1)*1≤140737488355328)&&decide (z90000.length+1≤9223372036854775807))
 (rec (IntKind.wrap .i64 (x9+(1:Int))) (z90000++[(IntKind.wrap .u8 (shrI .u64 a1 (IntKind.wrap .i64 ((8:Int)*x9))))]))
 none))
 (ke0 z90000))
def impl_appendLittle_l0_L(ke0:(List Int)→Option (List Int))(a1:Int)(a2:Int):Nat→Int→(List Int)→Option (List Int)
 |0=>fun _ _=>none
 |n+1=>impl_appendLittle_l0_b (impl_appendLittle_l0_L ke0 a1 a2 n) ke0 a1 a2
def impl_appendLittle_r(a0:(List Int))(a1:Int)(a2:Int):Option (List Int):=
 (impl_appendLittle_l0_L (fun z90000=>(some z90000)) a1 a2 FUEL (0:Int) a0)
def f176_l0_p(k:Nat)(K:Ex→St→Option (List Int))(n:Nat)(a1:Int)(a2:Int)(x9:Int)(z90000:(List Int)):Option (List Int):=loopK (f176_cx k) 0 (execK (f176_cx k) (callK (f176_cx k) 8) 0 176 (sub f176_c [1,0,1,0,0])) f176_l0_cut K n (f176_l0_s a1 a2 x9 z90000)

theorem f176_l0_exit0(k:Nat)(z90000:(List Int)):((blkK 0 (seqK (execK (f176_cx k) (callK (f176_cx k) 8) 0 176 (sub f176_c [1,1])) (finTK (f176_cx k) f176_i 5 (.int .u8)))) (.exit 0) (f176_l0_o0 z90000):Option (List Int))=
 ((some z90000):Option (List Int)):=by kernel_rfl

theorem f176_l0_round(k:Nat)(K:Ex→St→Option (List Int))(n:Nat)(a1:Int)(a2:Int)(x9:Int)(z90000:(List Int)):(f176_l0_p k K (n+1) a1 a2 x9 z90000:Option (List Int))=impl_appendLittle_l0_b ((fun x9 z90000=>f176_l0_p k K n a1 a2 x9 z90000)) (fun z90000=>K (.exit 0) (f176_l0_o0 z90000)) a1 a2 x9 z90000:=by kernel_rfl

theorem f176_l0_L_eq(K:Ex→St→Option (List Int))(a1:Int)(a2:Int):∀(n:Nat) (x9:Int) (z90000:(List Int)),(f176_l0_p FUEL K n a1 a2 x9 z90000:Option (List Int))=impl_appendLittle_l0_L (fun z90000=>K (.exit 0) (f176_l0_o0 z90000)) a1 a2 n x9 z90000:=by
 intro n
 induction n with
 |zero=>intros; rfl
 |succ n ih=>
  intro x9 z90000
  exact(f176_l0_round FUEL K n a1 a2 x9 z90000).trans (congrArg (fun f=>impl_appendLittle_l0_b f (fun z90000=>K (.exit 0) (f176_l0_o0 z90000)) a1 a2 x9 z90000) (funext fun x9=>funext fun z90000=>ih x9 z90000))

theorem f176_start(k:Nat)(a0:(List Int))(a1:Int)(a2:Int):fnTK (f176_cx k) 8 176 f176_i 5 (.int .u8) a0 [.pv (.int .u64) a1,.pv (.int .i64) a2]=
 ((loopK (f176_cx k) 0 (execK (f176_cx k) (callK (f176_cx k) 8) 0 176 (sub f176_c [1,0,1,0,0])) f176_l0_cut (blkK 0 (seqK (execK (f176_cx k) (callK (f176_cx k) 8) 0 176 (sub f176_c [1,1])) (finTK (f176_cx k) f176_i 5 (.int .u8)))) k (f176_l0_s a1 a2 (0:Int) a0)):Option (List Int)):=by kernel_rfl

theorem f176_run(a0:(List Int))(a1:Int)(a2:Int):fnTK (f176_cx FUEL) 8 176 f176_i 5 (.int .u8) a0 [.pv (.int .u64) a1,.pv (.int .i64) a2]=impl_appendLittle_r a0 a1 a2:=
 (f176_start FUEL a0 a1 a2).trans ((f176_l0_L_eq _ a1 a2 FUEL (0:Int) a0).trans (congrArg (fun e0=>impl_appendLittle_l0_L e0 a1 a2 FUEL (0:Int) a0) (funext fun z90000=>(f176_l0_exit0 FUEL z90000).trans (rfl))))

def f176_tak:ConT:={E:=5,e:=(.int .u8),ps:=(.pair (.int .u64) K18),raw:=fun x q=>impl_appendLittle_r x q.1 q.2.1}
theorem f176_takOk:TakOk Tryz.prog 176 f176_tak:=tak_of_fn (f176_tabs FUEL) (depth:=8) f176_ok rfl fun xs q z h=>(f176_run xs q.1 q.2.1).trans h

def f150_l0_cut:Cut:={keep:=[0,3],stk:=[],ids:=[90030],own:=[(3,90030,123)],outs:=[(1,[0,3],[90030])]}
def f150_cx(k:Nat):Cx:=mkC [] [(151,f151_con)] [(176,f176_tak)] [] [(150,[(0,f150_l0_cut)])] k [] false
theorem f150_tabs(k:Nat):TabsOk Tryz.prog (f150_cx k):=mkC_ok ⟨f151_conOk,trivial⟩ ⟨f176_takOk,trivial⟩ trivial trivial
abbrev impl_padding_sh:List Sh:=[.own 5 (.int .u8)]
abbrev Q23:Type:=Option (shDen impl_padding_sh)
def f150_l0_s(a0:Int)(z90030:(List Int)):St:={env:=(.pv (.int .i64) a0:: .dead:: .dead:: .sl 90030 (.int .u8)::(dd 14 [])),stk:=[],heap:=[(90030,.arr 5 (.int .u8) z90030)]}
def f150_l0_o0(a0:Int)(z90030:(List Int)):St:={env:=(.pv (.int .i64) a0:: .dead:: .dead:: .sl 90030 (.int .u8)::(dd 14 [])),stk:=[],heap:=[(90030,.arr 5 (.int .u8) z90030)]}
def impl_padding_l0_b(rec:(List Int)→Q23)(ke0:(List Int)→Q23)(a0:Int)(z90030:(List Int)):Q23:=
 (bindO (impl_size_byte_r z90030) fun(b2:Int)=>(cond (!(decide ((Int.tmod (IntKind.wrap .i64 (a0+b2)) (32:Int))=(24:Int))))
 (cond (decide ((z90030.length+1)*1≤140737488355328)&&decide (z90030.length+1≤9223372036854775807))
 (rec (z90030++[(0:Int)]))
 none)
 (ke0 z90030)))
def impl_padding_l0_L(ke0:(List Int)→Q23)(a0:Int):Nat→(List Int)→Q23
 |0=>fun _=>none
 |n+1=>impl_padding_l0_b (impl_padding_l0_L ke0 a0 n) ke0 a0
def impl_padding_r(a0:Int):Q23:=
 (impl_padding_l0_L (fun z90030=>(bindO (impl_appendLittle_r z90030 (IntKind.wrap .u64 a0) (8:Int)) fun(b3:(List Int))=>(some b3))) a0 FUEL [(128:Int)])
def f150_l0_p(k:Nat)(K:Ex→St→Q23)(n:Nat)(a0:Int)(z90030:(List Int)):Q23:=loopK (f150_cx k) 0 (execK (f150_cx k) (callK (f150_cx k) 8) 0 150 (sub f150_c [1,1,0,0,0])) f150_l0_cut K n (f150_l0_s a0 z90030)

theorem f150_l0_exit0(k:Nat)(a0:Int)(z90030:(List Int)):((blkK 0 (seqK (execK (f150_cx k) (callK (f150_cx k) 8) 0 150 (sub f150_c [1,1,1])) (finK (f150_cx k) f150_i impl_padding_sh))) (.exit 0) (f150_l0_o0 a0 z90030):Q23)=
 ((bindO (impl_appendLittle_r z90030 (IntKind.wrap .u64 a0) (8:Int)) fun(b3:(List Int))=>(some b3)):Q23):=by kernel_rfl

theorem f150_l0_round(k:Nat)(K:Ex→St→Q23)(n:Nat)(a0:Int)(z90030:(List Int)):(f150_l0_p k K (n+1) a0 z90030:Q23)=impl_padding_l0_b ((fun z90030=>f150_l0_p k K n a0 z90030)) (fun z90030=>K (.exit 0) (f150_l0_o0 a0 z90030)) a0 z90030:=by kernel_rfl

theorem f150_l0_L_eq(K:Ex→St→Q23)(a0:Int):∀(n:Nat) (z90030:(List Int)),(f150_l0_p FUEL K n a0 z90030:Q23)=impl_padding_l0_L (fun z90030=>K (.exit 0) (f150_l0_o0 a0 z90030)) a0 n z90030:=by
 intro n
 induction n with
 |zero=>intros; rfl
 |succ n ih=>
  intro z90030
  exact(f150_l0_round FUEL K n a0 z90030).trans (congrArg (fun f=>impl_padding_l0_b f (fun z90030=>K (.exit 0) (f150_l0_o0 a0 z90030)) a0 z90030) (funext fun z90030=>ih z90030))

theorem f150_start(k:Nat)(a0:Int):fnK (f150_cx k) 8 150 f150_i impl_padding_sh [.pv (.int .i64) a0]=
 ((loopK (f150_cx k) 0 (execK (f150_cx k) (callK (f150_cx k) 8) 0 150 (sub f150_c [1,1,0,0,0])) f150_l0_cut (blkK 0 (seqK (execK (f150_cx k) (callK (f150_cx k) 8) 0 150 (sub f150_c [1,1,1])) (finK (f150_cx k) f150_i impl_padding_sh))) k (f150_l0_s a0 [(128:Int)])):Q23):=by kernel_rfl

theorem f150_run(a0:Int):fnK (f150_cx FUEL) 8 150 f150_i impl_padding_sh [.pv (.int .i64) a0]=impl_padding_r a0:=
 (f150_start FUEL a0).trans ((f150_l0_L_eq _ a0 FUEL [(128:Int)]).trans (congrArg (fun e0=>impl_padding_l0_L e0 a0 FUEL [(128:Int)]) (funext fun z90030=>(f150_l0_exit0 FUEL a0 z90030).trans (rfl))))

def f150_con:Con:={ps:=K18,sh:=impl_padding_sh,raw:=fun x=>impl_padding_r x.1}
theorem f150_conOk:ConOk Tryz.prog 150 f150_con:=con_of_fn (f150_tabs FUEL) (depth:=8) f150_ok fun x y h=>(f150_run x.1).trans h

def f149_l0_cut:Cut:={keep:=[0,3,9,10,11],stk:=[],ids:=[],own:=[],outs:=[(1,[0,3],[])]}
def f149_l1_cut:Cut:={keep:=[6,25,26,27],stk:=[],ids:=[90060],own:=[(6,90060,123)],outs:=[(3,[6],[90060])]}
def f149_cx(k:Nat):Cx:=mkC [] [] [(175,f175_tak)] [] [(149,[(0,f149_l0_cut),(2,f149_l1_cut)])] k [] false
theorem f149_tabs(k:Nat):TabsOk Tryz.prog (f149_cx k):=mkC_ok trivial ⟨f175_takOk,trivial⟩ trivial trivial
abbrev slices_Concat_byte_byte_sh:List Sh:=[.own 5 (.int .u8)]
abbrev Q59:Type:=Option (shDen slices_Concat_byte_byte_sh)
def f149_l0_s(a0:T15)(x3:Int)(x11:Int):St:={env:=(.pv K17 a0:: .dead:: .dead:: .pv (.int .i64) x3::(dd 5 (.pv K17 a0:: .pv (.int .i64) (a0.length:Int):: .pv (.int .i64) x11::(dd 24 [])))),stk:=[],heap:=[]}
def f149_l0_o0(a0:T15)(x3:Int):St:={env:=(.pv K17 a0:: .dead:: .dead:: .pv (.int .i64) x3::(dd 32 [])),stk:=[],heap:=[]}
def f149_l1_s(a0:T15)(z90060:(List Int))(x27:Int):St:={env:=(dd 6 (.sl 90060 (.int .u8)::(dd 18 (.pv K17 a0:: .pv (.int .i64) (a0.length:Int):: .pv (.int .i64) x27::(dd 8 []))))),stk:=[],heap:=[(90060,.arr 5 (.int .u8) z90060)]}
def f149_l1_o2(z90060:(List Int)):St:={env:=(dd 6 (.sl 90060 (.int .u8)::(dd 29 []))),stk:=[],heap:=[(90060,.arr 5 (.int .u8) z90060)]}
def slices_Concat_byte_byte_l1_b(rec:(List Int)→Int→Q59)(ke2:(List Int)→Q59)(a0:T15)(z90060:(List Int))(x27:Int):Q59:=
 (cond (decide (x27<(a0.length:Int)))
 (cond ((decide ((0:Int)≤x27))&&(decide (x27<(a0.length:Int))))
 (cond (decide ((z90060.length+(a0.getD (x27.toNat) []).length)*1≤140737488355328)&&decide (z90060.length+(a0.getD (x27.toNat) []).length≤9223372036854775807))
 (rec (z90060++(a0.getD (x27.toNat) [])) (IntKind.wrap .i64 (x27+(1:Int))))
 none)
 none)
 (ke2 z90060))
def slices_Concat_byte_byte_l1_L(ke2:(List Int)→Q59)(a0:T15):Nat→(List Int)→Int→Q59
 |0=>fun _ _=>none
 |n+1=>slices_Concat_byte_byte_l1_b (slices_Concat_byte_byte_l1_L ke2 a0 n) ke2 a0
def slices_Concat_byte_byte_l0_b(rec:Int→Int→Q59)(ke0:Int→Q59)(a0:T15)(x3:Int)(x11:Int):Q59:=
 (cond (decide (x11<(a0.length:Int)))
 (cond ((decide ((0:Int)≤x11))&&(decide (x11<(a0.length:Int))))
 (cond (decide ((IntKind.wrap .i64 (x3+((a0.getD (x11.toNat) []).length:Int)))<(0:Int)))
 none
 (rec (IntKind.wrap .i64 (x3+((a0.getD (x11.toNat) []).length:Int))) (IntKind.wrap .i64 (x11+(1:Int)))))
 none)
 (ke0 x3))
def slices_Concat_byte_byte_l0_L(ke0:Int→Q59)(a0:T15):Nat→Int→Int→Q59
 |0=>fun _ _=>none
 |n+1=>slices_Concat_byte_byte_l0_b (slices_Concat_byte_byte_l0_L ke0 a0 n) ke0 a0
def slices_Concat_byte_byte_r(a0:T15):Q59:=
 (slices_Concat_byte_byte_l0_L (fun x3=>(bindO (slices_Grow_byte_byte_tr [] x3) fun(b1:(List Int))=>(slices_Concat_byte_byte_l1_L (fun z90060=>(some z90060)) a0 FUEL b1 (0:Int)))) a0 FUEL (0:Int) (0:Int))
def f149_l1_p(k:Nat)(K:Ex→St→Q59)(n:Nat)(a0:T15)(z90060:(List Int))(x27:Int):Q59:=loopK (f149_cx k) 0 (execK (f149_cx k) (callK (f149_cx k) 8) 0 149 (sub f149_c [1,1,1,1,0,1,0,0])) f149_l1_cut K n (f149_l1_s a0 z90060 x27)

theorem f149_l1_exit2(k:Nat)(z90060:(List Int)):((blkK 2 (seqK (execK (f149_cx k) (callK (f149_cx k) 8) 0 149 (sub f149_c [1,1,1,1,1])) (finK (f149_cx k) f149_i slices_Concat_byte_byte_sh))) (.exit 2) (f149_l1_o2 z90060):Q59)=
 ((some z90060):Q59):=by kernel_rfl

theorem f149_l1_round(k:Nat)(K:Ex→St→Q59)(n:Nat)(a0:T15)(z90060:(List Int))(x27:Int):(f149_l1_p k K (n+1) a0 z90060 x27:Q59)=slices_Concat_byte_byte_l1_b ((fun z90060 x27=>f149_l1_p k K n a0 z90060 x27)) (fun z90060=>K (.exit 2) (f149_l1_o2 z90060)) a0 z90060 x27:=by kernel_rfl

theorem f149_l1_L_eq(K:Ex→St→Q59)(a0:T15):∀(n:Nat) (z90060:(List Int)) (x27:Int),(f149_l1_p FUEL K n a0 z90060 x27:Q59)=slices_Concat_byte_byte_l1_L (fun z90060=>K (.exit 2) (f149_l1_o2 z90060)) a0 n z90060 x27:=by
 intro n
 induction n with
 |zero=>intros; rfl
 |succ n ih=>
  intro z90060 x27
  exact(f149_l1_round FUEL K n a0 z90060 x27).trans (congrArg (fun f=>slices_Concat_byte_byte_l1_b f (fun z90060=>K (.exit 2) (f149_l1_o2 z90060)) a0 z90060 x27) (funext fun z90060=>funext fun x27=>ih z90060 x27))

def f149_l0_p(k:Nat)(K:Ex→St→Q59)(n:Nat)(a0:T15)(x3:Int)(x11:Int):Q59:=loopK (f149_cx k) 0 (execK (f149_cx k) (callK (f149_cx k) 8) 0 149 (sub f149_c [1,1,0,1,0,0])) f149_l0_cut K n (f149_l0_s a0 x3 x11)

theorem f149_l0_exit0(k:Nat)(a0:T15)(x3:Int):((blkK 0 (seqK (execK (f149_cx k) (callK (f149_cx k) 8) 0 149 (sub f149_c [1,1,1])) (finK (f149_cx k) f149_i slices_Concat_byte_byte_sh))) (.exit 0) (f149_l0_o0 a0 x3):Q59)=
 ((bindO (slices_Grow_byte_byte_tr [] x3) fun(b1:(List Int))=>(loopK (f149_cx k) 0 (execK (f149_cx k) (callK (f149_cx k) 8) 0 149 (sub f149_c [1,1,1,1,0,1,0,0])) f149_l1_cut (blkK 2 (seqK (execK (f149_cx k) (callK (f149_cx k) 8) 0 149 (sub f149_c [1,1,1,1,1])) (finK (f149_cx k) f149_i slices_Concat_byte_byte_sh))) k (f149_l1_s a0 b1 (0:Int)))):Q59):=by kernel_rfl

theorem f149_l0_round(k:Nat)(K:Ex→St→Q59)(n:Nat)(a0:T15)(x3:Int)(x11:Int):(f149_l0_p k K (n+1) a0 x3 x11:Q59)=slices_Concat_byte_byte_l0_b ((fun x3 x11=>f149_l0_p k K n a0 x3 x11)) (fun x3=>K (.exit 0) (f149_l0_o0 a0 x3)) a0 x3 x11:=by kernel_rfl

theorem f149_l0_L_eq(K:Ex→St→Q59)(a0:T15):∀(n:Nat) (x3:Int) (x11:Int),(f149_l0_p FUEL K n a0 x3 x11:Q59)=slices_Concat_byte_byte_l0_L (fun x3=>K (.exit 0) (f149_l0_o0 a0 x3)) a0 n x3 x11:=by
 intro n
 induction n with
 |zero=>intros; rfl
 |succ n ih=>
  intro x3 x11
  exact(f149_l0_round FUEL K n a0 x3 x11).trans (congrArg (fun f=>slices_Concat_byte_byte_l0_b f (fun x3=>K (.exit 0) (f149_l0_o0 a0 x3)) a0 x3 x11) (funext fun x3=>funext fun x11=>ih x3 x11))

theorem f149_start(k:Nat)(a0:T15):fnK (f149_cx k) 8 149 f149_i slices_Concat_byte_byte_sh [.pv K17 a0]=
 ((loopK (f149_cx k) 0 (execK (f149_cx k) (callK (f149_cx k) 8) 0 149 (sub f149_c [1,1,0,1,0,0])) f149_l0_cut (blkK 0 (seqK (execK (f149_cx k) (callK (f149_cx k) 8) 0 149 (sub f149_c [1,1,1])) (finK (f149_cx k) f149_i slices_Concat_byte_byte_sh))) k (f149_l0_s a0 (0:Int) (0:Int))):Q59):=by kernel_rfl

theorem f149_run(a0:T15):fnK (f149_cx FUEL) 8 149 f149_i slices_Concat_byte_byte_sh [.pv K17 a0]=slices_Concat_byte_byte_r a0:=
 (f149_start FUEL a0).trans ((f149_l0_L_eq _ a0 FUEL (0:Int) (0:Int)).trans (congrArg (fun e0=>slices_Concat_byte_byte_l0_L e0 a0 FUEL (0:Int) (0:Int)) (funext fun x3=>(f149_l0_exit0 FUEL a0 x3).trans (bindC (fun b1=>(f149_l1_L_eq _ a0 FUEL b1 (0:Int)).trans (congrArg (fun e0=>slices_Concat_byte_byte_l1_L e0 a0 FUEL b1 (0:Int)) (funext fun z90060=>(f149_l1_exit2 FUEL z90060).trans (rfl))))))))

def f149_con:Con:={ps:=(.pair K17 .unit),sh:=slices_Concat_byte_byte_sh,raw:=fun x=>slices_Concat_byte_byte_r x.1}
theorem f149_conOk:ConOk Tryz.prog 149 f149_con:=con_of_fn (f149_tabs FUEL) (depth:=8) f149_ok fun x y h=>(f149_run x.1).trans h

def f148_l0_cut:Cut:={keep:=[0,4],stk:=[],ids:=[90040],own:=[(4,90040,51)],outs:=[(1,[0,4],[90040])]}
def f148_cx(k:Nat):Cx:=mkC [] [] [] [] [(148,[(0,f148_l0_cut)])] k [] false
theorem f148_tabs(k:Nat):TabsOk Tryz.prog (f148_cx k):=mkC_ok trivial trivial trivial trivial
abbrev impl_blocks_sh:List Sh:=[.own 25 (.arr 32 (.int .u8)),.pl K20]
abbrev Q15:Type:=Option (shDen impl_blocks_sh)
def f148_l0_s(x0:(List Int))(z90040:T15):St:={env:=(.pv K20 x0::(dd 3 (.sl 90040 (.arr 32 (.int .u8))::(dd 14 [])))),stk:=[],heap:=[(90040,.arr 25 (.arr 32 (.int .u8)) z90040)]}
def f148_l0_o0(x0:(List Int))(z90040:T15):St:={env:=(.pv K20 x0::(dd 3 (.sl 90040 (.arr 32 (.int .u8))::(dd 14 [])))),stk:=[],heap:=[(90040,.arr 25 (.arr 32 (.int .u8)) z90040)]}
def impl_blocks_l0_b(rec:(List Int)→T15→Q15)(ke0:(List Int)→T15→Q15)(x0:(List Int))(z90040:T15):Q15:=
 (cond (decide ((32:Int)≤(x0.length:Int)))
 (cond (decide (32≤x0.length))
 (cond (decide ((z90040.length+1)*32≤140737488355328)&&decide (z90040.length+1≤9223372036854775807))
 (cond (decide ((32:Int)≤(x0.length:Int)))
 (rec (cutL x0 32 (x0.length)) (z90040++[(x0.take 32)]))
 none)
 none)
 none)
 (ke0 x0 z90040))
def impl_blocks_l0_L(ke0:(List Int)→T15→Q15):Nat→(List Int)→T15→Q15
 |0=>fun _ _=>none
 |n+1=>impl_blocks_l0_b (impl_blocks_l0_L ke0 n) ke0
def impl_blocks_r(a0:(List Int)):Q15:=
 (impl_blocks_l0_L (fun x0 z90040=>(some (z90040,x0))) FUEL a0 [])
def f148_l0_p(k:Nat)(K:Ex→St→Q15)(n:Nat)(x0:(List Int))(z90040:T15):Q15:=loopK (f148_cx k) 0 (execK (f148_cx k) (callK (f148_cx k) 8) 0 148 (sub f148_c [1,1,0,0,0])) f148_l0_cut K n (f148_l0_s x0 z90040)

theorem f148_l0_exit0(k:Nat)(x0:(List Int))(z90040:T15):((blkK 0 (seqK (execK (f148_cx k) (callK (f148_cx k) 8) 0 148 (sub f148_c [1,1,1])) (finK (f148_cx k) f148_i impl_blocks_sh))) (.exit 0) (f148_l0_o0 x0 z90040):Q15)=
 ((some (z90040,x0)):Q15):=by kernel_rfl

theorem f148_l0_round(k:Nat)(K:Ex→St→Q15)(n:Nat)(x0:(List Int))(z90040:T15):(f148_l0_p k K (n+1) x0 z90040:Q15)=impl_blocks_l0_b ((fun x0 z90040=>f148_l0_p k K n x0 z90040)) (fun x0 z90040=>K (.exit 0) (f148_l0_o0 x0 z90040)) x0 z90040:=by kernel_rfl

theorem f148_l0_L_eq(K:Ex→St→Q15):∀(n:Nat) (x0:(List Int)) (z90040:T15),(f148_l0_p FUEL K n x0 z90040:Q15)=impl_blocks_l0_L (fun x0 z90040=>K (.exit 0) (f148_l0_o0 x0 z90040)) n x0 z90040:=by
 intro n
 induction n with
 |zero=>intros; rfl
 |succ n ih=>
  intro x0 z90040
  exact(f148_l0_round FUEL K n x0 z90040).trans (congrArg (fun f=>impl_blocks_l0_b f (fun x0 z90040=>K (.exit 0) (f148_l0_o0 x0 z90040)) x0 z90040) (funext fun x0=>funext fun z90040=>ih x0 z90040))

theorem f148_start(k:Nat)(a0:(List Int)):fnK (f148_cx k) 8 148 f148_i impl_blocks_sh [.pv K20 a0]=
 ((loopK (f148_cx k) 0 (execK (f148_cx k) (callK (f148_cx k) 8) 0 148 (sub f148_c [1,1,0,0,0])) f148_l0_cut (blkK 0 (seqK (execK (f148_cx k) (callK (f148_cx k) 8) 0 148 (sub f148_c [1,1,1])) (finK (f148_cx k) f148_i impl_blocks_sh))) k (f148_l0_s a0 [])):Q15):=by kernel_rfl

theorem f148_run(a0:(List Int)):fnK (f148_cx FUEL) 8 148 f148_i impl_blocks_sh [.pv K20 a0]=impl_blocks_r a0:=
 (f148_start FUEL a0).trans ((f148_l0_L_eq _ FUEL a0 []).trans (congrArg (fun e0=>impl_blocks_l0_L e0 FUEL a0 []) (funext fun x0=>funext fun z90040=>(f148_l0_exit0 FUEL x0 z90040).trans (rfl))))

def f148_con:Con:={ps:=K14,sh:=impl_blocks_sh,raw:=fun x=>impl_blocks_r x.1}
theorem f148_conOk:ConOk Tryz.prog 148 f148_con:=con_of_fn (f148_tabs FUEL) (depth:=8) f148_ok fun x y h=>(f148_run x.1).trans h

def f154_l0_cut:Cut:={keep:=[0,2,3,6],stk:=[],ids:=[20,30],own:=[],outs:=[(1,[2,3],[20,30])]}
def f154_cx(k:Nat):Cx:=mkC [] [] [] [] [(154,[(0,f154_l0_cut)])] k [] false
theorem f154_tabs(k:Nat):TabsOk Tryz.prog (f154_cx k):=mkC_ok trivial trivial trivial trivial
abbrev impl_StartState_sh:List Sh:=[.pl (.arr 8 (.int .u32))]
abbrev Q9:Type:=Option (shDen impl_StartState_sh)
def f154_l0_s(a0:Int)(x6:Int)(y30:(List Int)):St:={env:=(.pv (.int .u8) a0:: .dead:: .ptr 20 (.arr 8 (.int .u32)) []:: .ptr 30 (.arr 8 (.int .u32)) []:: .dead:: .dead:: .pv (.int .i64) x6::(dd 13 [])),stk:=[],heap:=[(20,.var (.arr 8 (.int .u32)) (.pv (.arr 8 (.int .u32)) (List.replicate 8 (0:Int)))),(30,.var (.arr 8 (.int .u32)) (.pv (.arr 8 (.int .u32)) y30))]}
def f154_l0_o0(y30:(List Int)):St:={env:=(.dead:: .dead:: .ptr 20 (.arr 8 (.int .u32)) []:: .ptr 30 (.arr 8 (.int .u32)) []::(dd 16 [])),stk:=[],heap:=[(20,.var (.arr 8 (.int .u32)) (.pv (.arr 8 (.int .u32)) (List.replicate 8 (0:Int)))),(30,.var (.arr 8 (.int .u32)) (.pv (.arr 8 (.int .u32)) y30))]}
def impl_StartState_l0_b(rec:Int→(List Int)→Q9)(ke0:(List Int)→Q9)(a0:Int)(x6:Int)(y30:(List Int)):Q9:=
 (cond (decide (x6<(8:Int)))
 (cond ((decide ((0:Int)≤x6))&&(decide (x6<(8:Int))))
 (rec (IntKind.wrap .i64 (x6+(1:Int))) (y30.set (x6.toNat) (IntKind.wrap .u32 ((IntKind.wrap .u32 ((16777619:Int)*(IntKind.wrap .u32 (IntKind.wrap .i64 (x6+(1:Int))))))+(IntKind.wrap .u32 a0)))))
 none)
 (ke0 y30))
def impl_StartState_l0_L(ke0:(List Int)→Q9)(a0:Int):Nat→Int→(List Int)→Q9
 |0=>fun _ _=>none
 |n+1=>impl_StartState_l0_b (impl_StartState_l0_L ke0 a0 n) ke0 a0
def impl_StartState_r(a0:Int):Q9:=
 (impl_StartState_l0_L (fun y30=>(some y30)) a0 FUEL (0:Int) (List.replicate 8 (0:Int)))
def f154_l0_p(k:Nat)(K:Ex→St→Q9)(n:Nat)(a0:Int)(x6:Int)(y30:(List Int)):Q9:=loopK (f154_cx k) 0 (execK (f154_cx k) (callK (f154_cx k) 8) 0 154 (sub f154_c [1,1,0,1,0,0])) f154_l0_cut K n (f154_l0_s a0 x6 y30)

theorem f154_l0_exit0(k:Nat)(y30:(List Int)):((blkK 0 (seqK (execK (f154_cx k) (callK (f154_cx k) 8) 0 154 (sub f154_c [1,1,1])) (finK (f154_cx k) f154_i impl_StartState_sh))) (.exit 0) (f154_l0_o0 y30):Q9)=
 ((some y30):Q9):=by kernel_rfl

theorem f154_l0_round(k:Nat)(K:Ex→St→Q9)(n:Nat)(a0:Int)(x6:Int)(y30:(List Int)):(f154_l0_p k K (n+1) a0 x6 y30:Q9)=impl_StartState_l0_b ((fun x6 y30=>f154_l0_p k K n a0 x6 y30)) (fun y30=>K (.exit 0) (f154_l0_o0 y30)) a0 x6 y30:=by kernel_rfl

theorem f154_l0_L_eq(K:Ex→St→Q9)(a0:Int):∀(n:Nat) (x6:Int) (y30:(List Int)),(f154_l0_p FUEL K n a0 x6 y30:Q9)=impl_StartState_l0_L (fun y30=>K (.exit 0) (f154_l0_o0 y30)) a0 n x6 y30:=by
 intro n
 induction n with
 |zero=>intros; rfl
 |succ n ih=>
  intro x6 y30
  exact(f154_l0_round FUEL K n a0 x6 y30).trans (congrArg (fun f=>impl_StartState_l0_b f (fun y30=>K (.exit 0) (f154_l0_o0 y30)) a0 x6 y30) (funext fun x6=>funext fun y30=>ih x6 y30))

theorem f154_start(k:Nat)(a0:Int):fnK (f154_cx k) 8 154 f154_i impl_StartState_sh [.pv (.int .u8) a0]=
 ((loopK (f154_cx k) 0 (execK (f154_cx k) (callK (f154_cx k) 8) 0 154 (sub f154_c [1,1,0,1,0,0])) f154_l0_cut (blkK 0 (seqK (execK (f154_cx k) (callK (f154_cx k) 8) 0 154 (sub f154_c [1,1,1])) (finK (f154_cx k) f154_i impl_StartState_sh))) k (f154_l0_s a0 (0:Int) (List.replicate 8 (0:Int)))):Q9):=by kernel_rfl

theorem f154_run(a0:Int):fnK (f154_cx FUEL) 8 154 f154_i impl_StartState_sh [.pv (.int .u8) a0]=impl_StartState_r a0:=
 (f154_start FUEL a0).trans ((f154_l0_L_eq _ a0 FUEL (0:Int) (List.replicate 8 (0:Int))).trans (congrArg (fun e0=>impl_StartState_l0_L e0 a0 FUEL (0:Int) (List.replicate 8 (0:Int))) (funext fun y30=>(f154_l0_exit0 FUEL y30).trans (rfl))))

def f154_con:Con:={ps:=K19,sh:=impl_StartState_sh,raw:=fun x=>impl_StartState_r x.1}
theorem f154_conOk:ConOk Tryz.prog 154 f154_con:=con_of_fn (f154_tabs FUEL) (depth:=8) f154_ok fun x y h=>(f154_run x.1).trans h

def f191_l0_cut:Cut:={keep:=[3,6,7,8],stk:=[],ids:=[],own:=[],outs:=[(1,[3],[])]}
def f191_cx(k:Nat):Cx:=mkC [] [] [] [] [(191,[(0,f191_l0_cut)])] k [] false
theorem f191_tabs(k:Nat):TabsOk Tryz.prog (f191_cx k):=mkC_ok trivial trivial trivial trivial
abbrev impl_littleNumber_sh:List Sh:=[.pl (.int .u64)]
abbrev Q21:Type:=Option (shDen impl_littleNumber_sh)
def f191_l0_s(a0:(List Int))(x3:Int)(x8:Int):St:={env:=(dd 3 (.pv (.int .u64) x3:: .dead:: .dead:: .pv K20 a0:: .pv (.int .i64) (a0.length:Int):: .pv (.int .i64) x8::(dd 13 []))),stk:=[],heap:=[]}
def f191_l0_o0(x3:Int):St:={env:=(dd 3 (.pv (.int .u64) x3::(dd 18 []))),stk:=[],heap:=[]}
def impl_littleNumber_l0_b(rec:Int→Int→Q21)(ke0:Int→Q21)(a0:(List Int))(x3:Int)(x8:Int):Q21:=
 (cond (decide (x8<(a0.length:Int)))
 (cond ((decide ((0:Int)≤x8))&&(decide (x8<(a0.length:Int))))
 (cond (decide ((IntKind.wrap .i64 ((8:Int)*x8))<(0:Int)))
 none
 (rec (bitI .or .u64 x3 (shlI .u64 (IntKind.wrap .u64 (a0.getD (x8.toNat) (0:Int))) (IntKind.wrap .i64 ((8:Int)*x8)))) (IntKind.wrap .i64 (x8+(1:Int)))))
 none)
 (ke0 x3))
def impl_littleNumber_l0_L(ke0:Int→Q21)(a0:(List Int)):Nat→Int→Int→Q21
 |0=>fun _ _=>none
 |n+1=>impl_littleNumber_l0_b (impl_littleNumber_l0_L ke0 a0 n) ke0 a0
def impl_littleNumber_r(a0:(List Int)):Q21:=
 (impl_littleNumber_l0_L (fun x3=>(some x3)) a0 FUEL (0:Int) (0:Int))
def f191_l0_p(k:Nat)(K:Ex→St→Q21)(n:Nat)(a0:(List Int))(x3:Int)(x8:Int):Q21:=loopK (f191_cx k) 0 (execK (f191_cx k) (callK (f191_cx k) 8) 0 191 (sub f191_c [1,1,0,1,0,0])) f191_l0_cut K n (f191_l0_s a0 x3 x8)

theorem f191_l0_exit0(k:Nat)(x3:Int):((blkK 0 (seqK (execK (f191_cx k) (callK (f191_cx k) 8) 0 191 (sub f191_c [1,1,1])) (finK (f191_cx k) f191_i impl_littleNumber_sh))) (.exit 0) (f191_l0_o0 x3):Q21)=
 ((some x3):Q21):=by kernel_rfl

theorem f191_l0_round(k:Nat)(K:Ex→St→Q21)(n:Nat)(a0:(List Int))(x3:Int)(x8:Int):(f191_l0_p k K (n+1) a0 x3 x8:Q21)=impl_littleNumber_l0_b ((fun x3 x8=>f191_l0_p k K n a0 x3 x8)) (fun x3=>K (.exit 0) (f191_l0_o0 x3)) a0 x3 x8:=by kernel_rfl

theorem f191_l0_L_eq(K:Ex→St→Q21)(a0:(List Int)):∀(n:Nat) (x3:Int) (x8:Int),(f191_l0_p FUEL K n a0 x3 x8:Q21)=impl_littleNumber_l0_L (fun x3=>K (.exit 0) (f191_l0_o0 x3)) a0 n x3 x8:=by
 intro n
 induction n with
 |zero=>intros; rfl
 |succ n ih=>
  intro x3 x8
  exact(f191_l0_round FUEL K n a0 x3 x8).trans (congrArg (fun f=>impl_littleNumber_l0_b f (fun x3=>K (.exit 0) (f191_l0_o0 x3)) a0 x3 x8) (funext fun x3=>funext fun x8=>ih x3 x8))

theorem f191_start(k:Nat)(a0:(List Int)):fnK (f191_cx k) 8 191 f191_i impl_littleNumber_sh [.pv K20 a0]=
 ((loopK (f191_cx k) 0 (execK (f191_cx k) (callK (f191_cx k) 8) 0 191 (sub f191_c [1,1,0,1,0,0])) f191_l0_cut (blkK 0 (seqK (execK (f191_cx k) (callK (f191_cx k) 8) 0 191 (sub f191_c [1,1,1])) (finK (f191_cx k) f191_i impl_littleNumber_sh))) k (f191_l0_s a0 (0:Int) (0:Int))):Q21):=by kernel_rfl

theorem f191_run(a0:(List Int)):fnK (f191_cx FUEL) 8 191 f191_i impl_littleNumber_sh [.pv K20 a0]=impl_littleNumber_r a0:=
 (f191_start FUEL a0).trans ((f191_l0_L_eq _ a0 FUEL (0:Int) (0:Int)).trans (congrArg (fun e0=>impl_littleNumber_l0_L e0 a0 FUEL (0:Int) (0:Int)) (funext fun x3=>(f191_l0_exit0 FUEL x3).trans (rfl))))

def f191_con:Con:={ps:=K14,sh:=impl_littleNumber_sh,raw:=fun x=>impl_littleNumber_r x.1}
theorem f191_conOk:ConOk Tryz.prog 191 f191_con:=con_of_fn (f191_tabs FUEL) (depth:=8) f191_ok fun x y h=>(f191_run x.1).trans h

end
end Go.Ai.G
