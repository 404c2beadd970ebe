/- Made by a program of this work out of the program: tables and plain functions,with the proof that each Go function does what its plain function says. No conditions. -/
import Derived.Test.YtgchclimojffeaaGreatExactTakeBlobsTab
namespace Go.Ai.G
noncomputable section
open Go.Proofs
open Go.Ai
set_option linter.unusedVariables false
set_option linter.unusedSimpArgs false
set_option maxRecDepth 100000

def f80_cx(k:Nat):Cx:=mkC [] [] [] [] [] k [] false
theorem f80_tabs(k:Nat):TabsOk Tryz.prog (f80_cx k):=mkC_ok trivial trivial trivial trivial
abbrev laws_szByteS_sh:List Sh:=[.pl (.int .i64)]
abbrev Q38:Type:=Option (shDen laws_szByteS_sh)
def laws_szByteS_r(a0:(List Int))(a1:Int):Q38:=
 (cond (decide ((IntKind.wrap .i64 (a1-(a0.length:Int)))<(0:Int)))
 (some (-1:Int))
 (some (IntKind.wrap .i64 (a1-(a0.length:Int)))))
theorem f80_run(a0:(List Int))(a1:Int):fnK (f80_cx FUEL) 8 80 f80_i laws_szByteS_sh [.pv K16 a0,.pv (.int .i64) a1]=laws_szByteS_r a0 a1:=by kernel_rfl

def f80_con:Con:={ps:=K7,sh:=laws_szByteS_sh,raw:=fun x=>laws_szByteS_r x.1 x.2.1}
theorem f80_conOk:ConOk Tryz.prog 80 f80_con:=con_of_fn (f80_tabs FUEL) (depth:=8) f80_ok fun x y h=>(f80_run x.1 x.2.1).trans h

def f49_cx(k:Nat):Cx:=mkC [] [(80,f80_con)] [] [] [] k [] false
theorem f49_tabs(k:Nat):TabsOk Tryz.prog (f49_cx k):=mkC_ok ⟨f80_conOk,trivial⟩ trivial trivial trivial
abbrev laws_szBlob_sh:List Sh:=[.pl (.int .i64)]
abbrev Q37:Type:=Option (shDen laws_szBlob_sh)
def laws_szBlob_r(a0:T4)(a1:Int):Q37:=
 (bindO (laws_szByteS_r a0.2.1 a1) fun(b1:Int)=>(cond (decide (b1<(0:Int)))
 (some (-1:Int))
 (some b1)))
theorem f49_run(a0:T4)(a1:Int):fnK (f49_cx FUEL) 8 49 f49_i laws_szBlob_sh [.pv K8 a0,.pv (.int .i64) a1]=laws_szBlob_r a0 a1:=by kernel_rfl

def f49_con:Con:={ps:=(.pair K8 K14),sh:=laws_szBlob_sh,raw:=fun x=>laws_szBlob_r x.1 x.2.1}
theorem f49_conOk:ConOk Tryz.prog 49 f49_con:=con_of_fn (f49_tabs FUEL) (depth:=8) f49_ok fun x y h=>(f49_run x.1 x.2.1).trans h

def f26_l0_cut:Cut:={keep:=[0,1,5],stk:=[],ids:=[],own:=[],outs:=[(0,[4],[]),(1,[1],[])]}
def f26_cx(k:Nat):Cx:=mkC [] [(49,f49_con)] [] [] [(26,[(0,f26_l0_cut)])] k [] false
theorem f26_tabs(k:Nat):TabsOk Tryz.prog (f26_cx k):=mkC_ok ⟨f49_conOk,trivial⟩ trivial trivial trivial
abbrev laws_szBlobS_sh:List Sh:=[.pl (.int .i64)]
abbrev Q36:Type:=Option (shDen laws_szBlobS_sh)
def f26_l0_s(a0:T3)(x1:Int)(x5:Int):St:={env:=(.pv K5 a0:: .pv (.int .i64) x1::(dd 3 (.pv (.int .i64) x5::(dd 21 [])))),stk:=[],heap:=[]}
def f26_l0_o:St:={env:=(dd 4 (.pv (.int .i64) (-1:Int)::(dd 22 []))),stk:=[],heap:=[]}
def f26_l0_o0(x1:Int):St:={env:=(.dead:: .pv (.int .i64) x1::(dd 25 [])),stk:=[],heap:=[]}
def laws_szBlobS_l0_b(rec:Int→Int→Q36)(kr:Q36)(ke0:Int→Q36)(a0:T3)(x1:Int)(x5:Int):Q36:=
 (cond (decide (x5<(a0.length:Int)))
 (cond ((decide ((0:Int)≤x5))&&(decide (x5<(a0.length:Int))))
 (bindO (laws_szBlob_r (a0.getD (x5.toNat) ((0:Int),([],()))) x1) fun(b2:Int)=>(cond (decide (b2<(0:Int)))
 (kr)
 (rec b2 (IntKind.wrap .i64 (x5+(1:Int))))))
 none)
 (ke0 x1))
def laws_szBlobS_l0_L(kr:Q36)(ke0:Int→Q36)(a0:T3):Nat→Int→Int→Q36
 |0=>fun _ _=>none
 |n+1=>laws_szBlobS_l0_b (laws_szBlobS_l0_L kr ke0 a0 n) kr ke0 a0
def laws_szBlobS_r(a0:T3)(a1:Int):Q36:=
 (cond (decide ((IntKind.wrap .i64 (a1-(a0.length:Int)))<(0:Int)))
 (some (-1:Int))
 (laws_szBlobS_l0_L (some (-1:Int)) (fun x1=>(some x1)) a0 FUEL (IntKind.wrap .i64 (a1-(a0.length:Int))) (0:Int)))
def f26_l0_p(k:Nat)(K:Ex→St→Q36)(n:Nat)(a0:T3)(x1:Int)(x5:Int):Q36:=loopK (f26_cx k) 0 (execK (f26_cx k) (callK (f26_cx k) 8) 0 26 (sub f26_c [1,1,1,0,1,0,0])) f26_l0_cut K n (f26_l0_s a0 x1 x5)

theorem f26_l0_ret(k:Nat):((blkK 0 (seqK (execK (f26_cx k) (callK (f26_cx k) 8) 0 26 (sub f26_c [1,1,1,1])) (finK (f26_cx k) f26_i laws_szBlobS_sh))) .ret (f26_l0_o):Q36)=
 ((some (-1:Int)):Q36):=by kernel_rfl

theorem f26_l0_exit0(k:Nat)(x1:Int):((blkK 0 (seqK (execK (f26_cx k) (callK (f26_cx k) 8) 0 26 (sub f26_c [1,1,1,1])) (finK (f26_cx k) f26_i laws_szBlobS_sh))) (.exit 0) (f26_l0_o0 x1):Q36)=
 ((some x1):Q36):=by kernel_rfl

theorem f26_l0_round(k:Nat)(K:Ex→St→Q36)(n:Nat)(a0:T3)(x1:Int)(x5:Int):(f26_l0_p k K (n+1) a0 x1 x5:Q36)=laws_szBlobS_l0_b ((fun x1 x5=>f26_l0_p k K n a0 x1 x5)) (K .ret (f26_l0_o)) (fun x1=>K (.exit 0) (f26_l0_o0 x1)) a0 x1 x5:=by kernel_rfl

theorem f26_l0_L_eq(K:Ex→St→Q36)(a0:T3):∀(n:Nat) (x1:Int) (x5:Int),(f26_l0_p FUEL K n a0 x1 x5:Q36)=laws_szBlobS_l0_L (K .ret (f26_l0_o)) (fun x1=>K (.exit 0) (f26_l0_o0 x1)) a0 n x1 x5:=by
 intro n
 induction n with
 |zero=>intros; rfl
 |succ n ih=>
  intro x1 x5
  exact(f26_l0_round FUEL K n a0 x1 x5).trans (congrArg (fun f=>laws_szBlobS_l0_b f (K .ret (f26_l0_o)) (fun x1=>K (.exit 0) (f26_l0_o0 x1)) a0 x1 x5) (funext fun x1=>funext fun x5=>ih x1 x5))

theorem f26_start(k:Nat)(a0:T3)(a1:Int):fnK (f26_cx k) 8 26 f26_i laws_szBlobS_sh [.pv K5 a0,.pv (.int .i64) a1]=
 ((cond (decide ((IntKind.wrap .i64 (a1-(a0.length:Int)))<(0:Int)))
 (some (-1:Int))
 (loopK (f26_cx k) 0 (execK (f26_cx k) (callK (f26_cx k) 8) 0 26 (sub f26_c [1,1,1,0,1,0,0])) f26_l0_cut (blkK 0 (seqK (execK (f26_cx k) (callK (f26_cx k) 8) 0 26 (sub f26_c [1,1,1,1])) (finK (f26_cx k) f26_i laws_szBlobS_sh))) k (f26_l0_s a0 (IntKind.wrap .i64 (a1-(a0.length:Int))) (0:Int)))):Q36):=by kernel_rfl

theorem f26_run(a0:T3)(a1:Int):fnK (f26_cx FUEL) 8 26 f26_i laws_szBlobS_sh [.pv K5 a0,.pv (.int .i64) a1]=laws_szBlobS_r a0 a1:=
 (f26_start FUEL a0 a1).trans (condC (rfl) ((f26_l0_L_eq _ a0 FUEL (IntKind.wrap .i64 (a1-(a0.length:Int))) (0:Int)).trans (cong2 (fun e0 e1=>laws_szBlobS_l0_L e0 e1 a0 FUEL (IntKind.wrap .i64 (a1-(a0.length:Int))) (0:Int)) ((f26_l0_ret FUEL).trans (rfl)) (funext fun x1=>(f26_l0_exit0 FUEL x1).trans (rfl)))))

def f26_con:Con:={ps:=(.pair K5 K14),sh:=laws_szBlobS_sh,raw:=fun x=>laws_szBlobS_r x.1 x.2.1}
theorem f26_conOk:ConOk Tryz.prog 26 f26_con:=con_of_fn (f26_tabs FUEL) (depth:=8) f26_ok fun x y h=>(f26_run x.1 x.2.1).trans h

def f6_cx(k:Nat):Cx:=mkC [] [(26,f26_con)] [] [] [] k [] false
theorem f6_tabs(k:Nat):TabsOk Tryz.prog (f6_cx k):=mkC_ok ⟨f26_conOk,trivial⟩ trivial trivial trivial
abbrev laws_szStore_sh:List Sh:=[.pl (.int .i64)]
abbrev Q40:Type:=Option (shDen laws_szStore_sh)
def laws_szStore_r(a0:T2)(a1:Int):Q40:=
 (bindO (laws_szBlobS_r a0.1 a1) fun(b1:Int)=>(cond (decide (b1<(0:Int)))
 (some (-1:Int))
 (some b1)))
theorem f6_run(a0:T2)(a1:Int):fnK (f6_cx FUEL) 8 6 f6_i laws_szStore_sh [.pv K3 a0,.pv (.int .i64) a1]=laws_szStore_r a0 a1:=by kernel_rfl

def f6_con:Con:={ps:=(.pair K3 K14),sh:=laws_szStore_sh,raw:=fun x=>laws_szStore_r x.1 x.2.1}
theorem f6_conOk:ConOk Tryz.prog 6 f6_con:=con_of_fn (f6_tabs FUEL) (depth:=8) f6_ok fun x y h=>(f6_run x.1 x.2.1).trans h

def f7_cx(k:Nat):Cx:=mkC [] [] [] [] [] k [] false
theorem f7_tabs(k:Nat):TabsOk Tryz.prog (f7_cx k):=mkC_ok trivial trivial trivial trivial
abbrev laws_szKeyS_sh:List Sh:=[.pl (.int .i64)]
abbrev Q39:Type:=Option (shDen laws_szKeyS_sh)
def laws_szKeyS_r(a0:T7)(a1:Int):Q39:=
 (cond (decide ((IntKind.wrap .i64 (a1-(a0.length:Int)))<(0:Int)))
 (some (-1:Int))
 (some (IntKind.wrap .i64 (a1-(a0.length:Int)))))
theorem f7_run(a0:T7)(a1:Int):fnK (f7_cx FUEL) 8 7 f7_i laws_szKeyS_sh [.pv K12 a0,.pv (.int .i64) a1]=laws_szKeyS_r a0 a1:=by kernel_rfl

def f7_con:Con:={ps:=(.pair K12 K14),sh:=laws_szKeyS_sh,raw:=fun x=>laws_szKeyS_r x.1 x.2.1}
theorem f7_conOk:ConOk Tryz.prog 7 f7_con:=con_of_fn (f7_tabs FUEL) (depth:=8) f7_ok fun x y h=>(f7_run x.1 x.2.1).trans h

def f83_l0_cut:Cut:={keep:=[0,3,4],stk:=[],ids:=[70],own:=[],outs:=[(1,[3],[70])]}
def f83_cx(k:Nat):Cx:=mkC [] [] [] [] [(83,[(0,f83_l0_cut)])] k [] false
theorem f83_tabs(k:Nat):TabsOk Tryz.prog (f83_cx k):=mkC_ok trivial trivial trivial trivial
abbrev laws_toByteS_sh:List Sh:=[.own 5 (.int .u8)]
abbrev Q43:Type:=Option (shDen laws_toByteS_sh)
def f83_l0_s(a0:(List Int))(x4:Int)(z70:(List Int)):St:={env:=(.pv K16 a0:: .dead:: .dead:: .sl 70 (.int .u8):: .pv (.int .i64) x4::(dd 17 [])),stk:=[],heap:=[(70,.arr 5 (.int .u8) z70)]}
def f83_l0_o0(z70:(List Int)):St:={env:=(dd 3 (.sl 70 (.int .u8)::(dd 18 []))),stk:=[],heap:=[(70,.arr 5 (.int .u8) z70)]}
def laws_toByteS_l0_b(rec:Int→(List Int)→Q43)(ke0:(List Int)→Q43)(a0:(List Int))(x4:Int)(z70:(List Int)):Q43:=
 (cond (decide (x4<(a0.length:Int)))
 (cond ((decide ((0:Int)≤x4))&&(decide (x4<(a0.length:Int))))
 (cond ((decide ((0:Int)≤x4))&&(decide (x4<(z70.length:Int))))
 (rec (IntKind.wrap .i64 (x4+(1:Int))) (z70.set (x4.toNat) (a0.getD (x4.toNat) (0:Int))))
 none)
 none)
 (ke0 z70))
def laws_toByteS_l0_L(ke0:(List Int)→Q43)(a0:(List Int)):Nat→Int→(List Int)→Q43
 |0=>fun _ _=>none
 |n+1=>laws_toByteS_l0_b (laws_toByteS_l0_L ke0 a0 n) ke0 a0
def laws_toByteS_r(a0:(List Int)):Q43:=
 (cond (((decide ((0:Int)≤(a0.length:Int)))&&(decide (((a0.length:Int)*(1:Int))≤(140737488355328:Int))))&&(decide ((a0.length:Int)≤(9223372036854775807:Int))))
 (laws_toByteS_l0_L (fun z70=>(some z70)) a0 FUEL (0:Int) (List.replicate ((a0.length:Int).toNat) (0:Int)))
 none)
def f83_l0_p(k:Nat)(K:Ex→St→Q43)(n:Nat)(a0:(List Int))(x4:Int)(z70:(List Int)):Q43:=loopK (f83_cx k) 0 (execK (f83_cx k) (callK (f83_cx k) 8) 0 83 (sub f83_c [1,1,0,1,0,0])) f83_l0_cut K n (f83_l0_s a0 x4 z70)

theorem f83_l0_exit0(k:Nat)(z70:(List Int)):((blkK 0 (seqK (execK (f83_cx k) (callK (f83_cx k) 8) 0 83 (sub f83_c [1,1,1])) (finK (f83_cx k) f83_i laws_toByteS_sh))) (.exit 0) (f83_l0_o0 z70):Q43)=
 ((some z70):Q43):=by kernel_rfl

theorem f83_l0_round(k:Nat)(K:Ex→St→Q43)(n:Nat)(a0:(List Int))(x4:Int)(z70:(List Int)):(f83_l0_p k K (n+1) a0 x4 z70:Q43)=laws_toByteS_l0_b ((fun x4 z70=>f83_l0_p k K n a0 x4 z70)) (fun z70=>K (.exit 0) (f83_l0_o0 z70)) a0 x4 z70:=by kernel_rfl

theorem f83_l0_L_eq(K:Ex→St→Q43)(a0:(List Int)):∀(n:Nat) (x4:Int) (z70:(List Int)),(f83_l0_p FUEL K n a0 x4 z70:Q43)=laws_toByteS_l0_L (fun z70=>K (.exit 0) (f83_l0_o0 z70)) a0 n x4 z70:=by
 intro n
 induction n with
 |zero=>intros; rfl
 |succ n ih=>
  intro x4 z70
  exact(f83_l0_round FUEL K n a0 x4 z70).trans (congrArg (fun f=>laws_toByteS_l0_b f (fun z70=>K (.exit 0) (f83_l0_o0 z70)) a0 x4 z70) (funext fun x4=>funext fun z70=>ih x4 z70))

theorem f83_start(k:Nat)(a0:(List Int)):fnK (f83_cx k) 8 83 f83_i laws_toByteS_sh [.pv K16 a0]=
 ((cond (((decide ((0:Int)≤(a0.length:Int)))&&(decide (((a0.length:Int)*(1:Int))≤(140737488355328:Int))))&&(decide ((a0.length:Int)≤(9223372036854775807:Int))))
 (loopK (f83_cx k) 0 (execK (f83_cx k) (callK (f83_cx k) 8) 0 83 (sub f83_c [1,1,0,1,0,0])) f83_l0_cut (blkK 0 (seqK (execK (f83_cx k) (callK (f83_cx k) 8) 0 83 (sub f83_c [1,1,1])) (finK (f83_cx k) f83_i laws_toByteS_sh))) k (f83_l0_s a0 (0:Int) (List.replicate ((a0.length:Int).toNat) (0:Int))))
 none):Q43):=by kernel_rfl

theorem f83_run(a0:(List Int)):fnK (f83_cx FUEL) 8 83 f83_i laws_toByteS_sh [.pv K16 a0]=laws_toByteS_r a0:=
 (f83_start FUEL a0).trans (condC ((f83_l0_L_eq _ a0 FUEL (0:Int) (List.replicate ((a0.length:Int).toNat) (0:Int))).trans (congrArg (fun e0=>laws_toByteS_l0_L e0 a0 FUEL (0:Int) (List.replicate ((a0.length:Int).toNat) (0:Int))) (funext fun z70=>(f83_l0_exit0 FUEL z70).trans (rfl)))) (rfl))

def f83_con:Con:={ps:=K11,sh:=laws_toByteS_sh,raw:=fun x=>laws_toByteS_r x.1}
theorem f83_conOk:ConOk Tryz.prog 83 f83_con:=con_of_fn (f83_tabs FUEL) (depth:=8) f83_ok fun x y h=>(f83_run x.1).trans h

def f53_cx(k:Nat):Cx:=mkC [] [(83,f83_con)] [] [] [] k [] false
theorem f53_tabs(k:Nat):TabsOk Tryz.prog (f53_cx k):=mkC_ok ⟨f83_conOk,trivial⟩ trivial trivial trivial
abbrev laws_toBlob_sh:List Sh:=[.pr (.pl (.int .u8)) (.pr (.own 5 (.int .u8)) (.pl .unit))]
abbrev Q42:Type:=Option (shDen laws_toBlob_sh)
def laws_toBlob_r(a0:T4):Q42:=
 (bindO (laws_toByteS_r a0.2.1) fun(b1:(List Int))=>(some (a0.1,(b1,()))))
theorem f53_run(a0:T4):fnK (f53_cx FUEL) 8 53 f53_i laws_toBlob_sh [.pv K8 a0]=laws_toBlob_r a0:=by kernel_rfl

def f53_con:Con:={ps:=K4,sh:=laws_toBlob_sh,raw:=fun x=>laws_toBlob_r x.1}
theorem f53_conOk:ConOk Tryz.prog 53 f53_con:=con_of_fn (f53_tabs FUEL) (depth:=8) f53_ok fun x y h=>(f53_run x.1).trans h

def f28_d_l0_cut:Cut:={keep:=[0,3,4],stk:=[],ids:=[70],own:=[],outs:=[(1,[3],[70])]}
def f28_d_cx(k:Nat):Cx:=mkC [] [(53,f53_con)] [] [] [(28,[(0,f28_d_l0_cut)])] k dps false
theorem f28_d_tabs(k:Nat):TabsOk Tryz.prog (f28_d_cx k):=mkC_ok ⟨f53_conOk,trivial⟩ trivial trivial trivial
abbrev laws_toBlobS_d_sh:List Sh:=[.tre 72 (.pr (.pl (.int .u8)) (.pr (.sl 5 (.pl (.int .u8))) (.pl .unit)))]
abbrev Q41:Type:=Option (shDen laws_toBlobS_d_sh)
def f28_d_l0_s(a0:T3)(x4:Int)(z70:T3):St:={env:=(.pv K5 a0:: .dead:: .dead:: .inn 70 [] K8:: .pv (.int .i64) x4::(dd 18 [])),stk:=[],heap:=[(70,.tre 72 (.pr (.pl (.int .u8)) (.pr (.sl 5 (.pl (.int .u8))) (.pl .unit))) z70)]}
def f28_d_l0_o0(z70:T3):St:={env:=(dd 3 (.inn 70 [] K8::(dd 19 []))),stk:=[],heap:=[(70,.tre 72 (.pr (.pl (.int .u8)) (.pr (.sl 5 (.pl (.int .u8))) (.pl .unit))) z70)]}
def laws_toBlobS_d_l0_b(rec:Int→T3→Q41)(ke0:T3→Q41)(a0:T3)(x4:Int)(z70:T3):Q41:=
 (cond (decide (x4<(a0.length:Int)))
 (cond ((decide ((0:Int)≤x4))&&(decide (x4<(a0.length:Int))))
 (bindO (laws_toBlob_r (a0.getD (x4.toNat) ((0:Int),([],())))) fun(b2:T4)=>(cond ((decide ((0:Int)≤x4))&&(decide (x4<(z70.length:Int))))
 (rec (IntKind.wrap .i64 (x4+(1:Int))) (z70.set (x4.toNat) (b2.1,(b2.2.1,()))))
 none))
 none)
 (ke0 z70))
def laws_toBlobS_d_l0_L(ke0:T3→Q41)(a0:T3):Nat→Int→T3→Q41
 |0=>fun _ _=>none
 |n+1=>laws_toBlobS_d_l0_b (laws_toBlobS_d_l0_L ke0 a0 n) ke0 a0
def laws_toBlobS_d_r(a0:T3):Q41:=
 (cond (((decide ((0:Int)≤(a0.length:Int)))&&(decide (((a0.length:Int)*(32:Int))≤(140737488355328:Int))))&&(decide ((a0.length:Int)≤(9223372036854775807:Int))))
 (laws_toBlobS_d_l0_L (fun z70=>(some z70)) a0 FUEL (0:Int) (List.replicate ((a0.length:Int).toNat) ((0:Int),([],()))))
 none)
def f28_d_l0_p(k:Nat)(K:Ex→St→Q41)(n:Nat)(a0:T3)(x4:Int)(z70:T3):Q41:=loopK (f28_d_cx k) 0 (execK (f28_d_cx k) (callK (f28_d_cx k) 8) 0 28 (sub f28_c [1,1,0,1,0,0])) f28_d_l0_cut K n (f28_d_l0_s a0 x4 z70)

theorem f28_d_l0_exit0(k:Nat)(z70:T3):((blkK 0 (seqK (execK (f28_d_cx k) (callK (f28_d_cx k) 8) 0 28 (sub f28_c [1,1,1])) (finK (f28_d_cx k) f28_i laws_toBlobS_d_sh))) (.exit 0) (f28_d_l0_o0 z70):Q41)=
 ((some z70):Q41):=by kernel_rfl

theorem f28_d_l0_round(k:Nat)(K:Ex→St→Q41)(n:Nat)(a0:T3)(x4:Int)(z70:T3):(f28_d_l0_p k K (n+1) a0 x4 z70:Q41)=laws_toBlobS_d_l0_b ((fun x4 z70=>f28_d_l0_p k K n a0 x4 z70)) (fun z70=>K (.exit 0) (f28_d_l0_o0 z70)) a0 x4 z70:=by kernel_rfl

theorem f28_d_l0_L_eq(K:Ex→St→Q41)(a0:T3):∀(n:Nat) (x4:Int) (z70:T3),(f28_d_l0_p FUEL K n a0 x4 z70:Q41)=laws_toBlobS_d_l0_L (fun z70=>K (.exit 0) (f28_d_l0_o0 z70)) a0 n x4 z70:=by
 intro n
 induction n with
 |zero=>intros; rfl
 |succ n ih=>
  intro x4 z70
  exact(f28_d_l0_round FUEL K n a0 x4 z70).trans (congrArg (fun f=>laws_toBlobS_d_l0_b f (fun z70=>K (.exit 0) (f28_d_l0_o0 z70)) a0 x4 z70) (funext fun x4=>funext fun z70=>ih x4 z70))

theorem f28_d_start(k:Nat)(a0:T3):fnK (f28_d_cx k) 8 28 f28_i laws_toBlobS_d_sh [.pv K5 a0]=
 ((cond (((decide ((0:Int)≤(a0.length:Int)))&&(decide (((a0.length:Int)*(32:Int))≤(140737488355328:Int))))&&(decide ((a0.length:Int)≤(9223372036854775807:Int))))
 (loopK (f28_d_cx k) 0 (execK (f28_d_cx k) (callK (f28_d_cx k) 8) 0 28 (sub f28_c [1,1,0,1,0,0])) f28_d_l0_cut (blkK 0 (seqK (execK (f28_d_cx k) (callK (f28_d_cx k) 8) 0 28 (sub f28_c [1,1,1])) (finK (f28_d_cx k) f28_i laws_toBlobS_d_sh))) k (f28_d_l0_s a0 (0:Int) (List.replicate ((a0.length:Int).toNat) ((0:Int),([],())))))
 none):Q41):=by kernel_rfl

theorem f28_d_run(a0:T3):fnK (f28_d_cx FUEL) 8 28 f28_i laws_toBlobS_d_sh [.pv K5 a0]=laws_toBlobS_d_r a0:=
 (f28_d_start FUEL a0).trans (condC ((f28_d_l0_L_eq _ a0 FUEL (0:Int) (List.replicate ((a0.length:Int).toNat) ((0:Int),([],())))).trans (congrArg (fun e0=>laws_toBlobS_d_l0_L e0 a0 FUEL (0:Int) (List.replicate ((a0.length:Int).toNat) ((0:Int),([],())))) (funext fun z70=>(f28_d_l0_exit0 FUEL z70).trans (rfl)))) (rfl))

def f28_d_con:Con:={ps:=K3,sh:=laws_toBlobS_d_sh,raw:=fun x=>laws_toBlobS_d_r x.1}
theorem f28_d_conOk:ConOk Tryz.prog 28 f28_d_con:=con_of_fn (f28_d_tabs FUEL) (depth:=8) f28_ok fun x y h=>(f28_d_run x.1).trans h

def f9_d_cx(k:Nat):Cx:=mkC [] [(28,f28_d_con)] [] [] [] k dps false
theorem f9_d_tabs(k:Nat):TabsOk Tryz.prog (f9_d_cx k):=mkC_ok ⟨f28_d_conOk,trivial⟩ trivial trivial trivial
abbrev laws_toStore_d_sh:List Sh:=[.pr (.tre 72 (.pr (.pl (.int .u8)) (.pr (.sl 5 (.pl (.int .u8))) (.pl .unit)))) (.pl .unit)]
abbrev Q46:Type:=Option (shDen laws_toStore_d_sh)
def laws_toStore_d_r(a0:T2):Q46:=
 (bindO (laws_toBlobS_d_r a0.1) fun(b1:T3)=>(some (b1,())))
theorem f9_d_run(a0:T2):fnK (f9_d_cx FUEL) 8 9 f9_i laws_toStore_d_sh [.pv K3 a0]=laws_toStore_d_r a0:=by kernel_rfl

def f9_d_con:Con:={ps:=K2,sh:=laws_toStore_d_sh,raw:=fun x=>laws_toStore_d_r x.1}
theorem f9_d_conOk:ConOk Tryz.prog 9 f9_d_con:=con_of_fn (f9_d_tabs FUEL) (depth:=8) f9_ok fun x y h=>(f9_d_run x.1).trans h

def f20_l0_cut:Cut:={keep:=[1,2,3,4],stk:=[],ids:=[10,20,30],own:=[],outs:=[(1,[2,3],[20,30])]}
def f20_cx(k:Nat):Cx:=mkC [] [] [] [] [(20,[(0,f20_l0_cut)])] k [] false
theorem f20_tabs(k:Nat):TabsOk Tryz.prog (f20_cx k):=mkC_ok trivial trivial trivial trivial
abbrev laws_toKey_sh:List Sh:=[.pl (.arr 32 (.int .u8))]
abbrev Q45:Type:=Option (shDen laws_toKey_sh)
def f20_l0_s(a0:(List Int))(x4:Int)(y30:(List Int)):St:={env:=(.dead:: .ptr 10 (.arr 32 (.int .u8)) []:: .ptr 20 (.arr 32 (.int .u8)) []:: .ptr 30 (.arr 32 (.int .u8)) []:: .pv (.int .i64) x4::(dd 10 [])),stk:=[],heap:=[(10,.var (.arr 32 (.int .u8)) (.pv (.arr 32 (.int .u8)) a0)),(20,.var (.arr 32 (.int .u8)) (.pv (.arr 32 (.int .u8)) (List.replicate 32 (0:Int)))),(30,.var (.arr 32 (.int .u8)) (.pv (.arr 32 (.int .u8)) y30))]}
def f20_l0_o0(y30:(List Int)):St:={env:=(.dead:: .dead:: .ptr 20 (.arr 32 (.int .u8)) []:: .ptr 30 (.arr 32 (.int .u8)) []::(dd 11 [])),stk:=[],heap:=[(20,.var (.arr 32 (.int .u8)) (.pv (.arr 32 (.int .u8)) (List.replicate 32 (0:Int)))),(30,.var (.arr 32 (.int .u8)) (.pv (.arr 32 (.int .u8)) y30))]}
def laws_toKey_l0_b(rec:Int→(List Int)→Q45)(ke0:(List Int)→Q45)(a0:(List Int))(x4:Int)(y30:(List Int)):Q45:=
 (cond (decide (x4<(32:Int)))
 (cond ((decide ((0:Int)≤x4))&&(decide (x4<(32:Int))))
 (cond ((decide ((0:Int)≤x4))&&(decide (x4<(32:Int))))
 (rec (IntKind.wrap .i64 (x4+(1:Int))) (y30.set (x4.toNat) (a0.getD (x4.toNat) (0:Int))))
 none)
 none)
 (ke0 y30))
def laws_toKey_l0_L(ke0:(List Int)→Q45)(a0:(List Int)):Nat→Int→(List Int)→Q45
 |0=>fun _ _=>none
 |n+1=>laws_toKey_l0_b (laws_toKey_l0_L ke0 a0 n) ke0 a0
def laws_toKey_r(a0:(List Int)):Q45:=
 (laws_toKey_l0_L (fun y30=>(some y30)) a0 FUEL (0:Int) (List.replicate 32 (0:Int)))
def f20_l0_p(k:Nat)(K:Ex→St→Q45)(n:Nat)(a0:(List Int))(x4:Int)(y30:(List Int)):Q45:=loopK (f20_cx k) 0 (execK (f20_cx k) (callK (f20_cx k) 8) 0 20 (sub f20_c [1,1,0,1,0,0])) f20_l0_cut K n (f20_l0_s a0 x4 y30)

theorem f20_l0_exit0(k:Nat)(y30:(List Int)):((blkK 0 (seqK (execK (f20_cx k) (callK (f20_cx k) 8) 0 20 (sub f20_c [1,1,1])) (finK (f20_cx k) f20_i laws_toKey_sh))) (.exit 0) (f20_l0_o0 y30):Q45)=
 ((some y30):Q45):=by kernel_rfl

theorem f20_l0_round(k:Nat)(K:Ex→St→Q45)(n:Nat)(a0:(List Int))(x4:Int)(y30:(List Int)):(f20_l0_p k K (n+1) a0 x4 y30:Q45)=laws_toKey_l0_b ((fun x4 y30=>f20_l0_p k K n a0 x4 y30)) (fun y30=>K (.exit 0) (f20_l0_o0 y30)) a0 x4 y30:=by kernel_rfl

theorem f20_l0_L_eq(K:Ex→St→Q45)(a0:(List Int)):∀(n:Nat) (x4:Int) (y30:(List Int)),(f20_l0_p FUEL K n a0 x4 y30:Q45)=laws_toKey_l0_L (fun y30=>K (.exit 0) (f20_l0_o0 y30)) a0 n x4 y30:=by
 intro n
 induction n with
 |zero=>intros; rfl
 |succ n ih=>
  intro x4 y30
  exact(f20_l0_round FUEL K n a0 x4 y30).trans (congrArg (fun f=>laws_toKey_l0_b f (fun y30=>K (.exit 0) (f20_l0_o0 y30)) a0 x4 y30) (funext fun x4=>funext fun y30=>ih x4 y30))

theorem f20_start(k:Nat)(a0:(List Int)):fnK (f20_cx k) 8 20 f20_i laws_toKey_sh [.pv (.arr 32 (.int .u8)) a0]=
 ((loopK (f20_cx k) 0 (execK (f20_cx k) (callK (f20_cx k) 8) 0 20 (sub f20_c [1,1,0,1,0,0])) f20_l0_cut (blkK 0 (seqK (execK (f20_cx k) (callK (f20_cx k) 8) 0 20 (sub f20_c [1,1,1])) (finK (f20_cx k) f20_i laws_toKey_sh))) k (f20_l0_s a0 (0:Int) (List.replicate 32 (0:Int)))):Q45):=by kernel_rfl

theorem f20_run(a0:(List Int)):fnK (f20_cx FUEL) 8 20 f20_i laws_toKey_sh [.pv (.arr 32 (.int .u8)) a0]=laws_toKey_r a0:=
 (f20_start FUEL a0).trans ((f20_l0_L_eq _ a0 FUEL (0:Int) (List.replicate 32 (0:Int))).trans (congrArg (fun e0=>laws_toKey_l0_L e0 a0 FUEL (0:Int) (List.replicate 32 (0:Int))) (funext fun y30=>(f20_l0_exit0 FUEL y30).trans (rfl))))

def f20_con:Con:={ps:=K10,sh:=laws_toKey_sh,raw:=fun x=>laws_toKey_r x.1}
theorem f20_conOk:ConOk Tryz.prog 20 f20_con:=con_of_fn (f20_tabs FUEL) (depth:=8) f20_ok fun x y h=>(f20_run x.1).trans h

def f10_l0_cut:Cut:={keep:=[0,3,4],stk:=[],ids:=[70],own:=[],outs:=[(1,[3],[70])]}
def f10_cx(k:Nat):Cx:=mkC [] [(20,f20_con)] [] [] [(10,[(0,f10_l0_cut)])] k [] false
theorem f10_tabs(k:Nat):TabsOk Tryz.prog (f10_cx k):=mkC_ok ⟨f20_conOk,trivial⟩ trivial trivial trivial
abbrev laws_toKeyS_sh:List Sh:=[.own 45 (.arr 32 (.int .u8))]
abbrev Q44:Type:=Option (shDen laws_toKeyS_sh)
def f10_l0_s(a0:T7)(x4:Int)(z70:T7):St:={env:=(.pv K12 a0:: .dead:: .dead:: .sl 70 (.arr 32 (.int .u8)):: .pv (.int .i64) x4::(dd 18 [])),stk:=[],heap:=[(70,.arr 45 (.arr 32 (.int .u8)) z70)]}
def f10_l0_o0(z70:T7):St:={env:=(dd 3 (.sl 70 (.arr 32 (.int .u8))::(dd 19 []))),stk:=[],heap:=[(70,.arr 45 (.arr 32 (.int .u8)) z70)]}
def laws_toKeyS_l0_b(rec:Int→T7→Q44)(ke0:T7→Q44)(a0:T7)(x4:Int)(z70:T7):Q44:=
 (cond (decide (x4<(a0.length:Int)))
 (cond ((decide ((0:Int)≤x4))&&(decide (x4<(a0.length:Int))))
 (bindO (laws_toKey_r (a0.getD (x4.toNat) (List.replicate 32 (0:Int)))) fun(b2:(List Int))=>(cond ((decide ((0:Int)≤x4))&&(decide (x4<(z70.length:Int))))
 (rec (IntKind.wrap .i64 (x4+(1:Int))) (z70.set (x4.toNat) b2))
 none))
 none)
 (ke0 z70))
def laws_toKeyS_l0_L(ke0:T7→Q44)(a0:T7):Nat→Int→T7→Q44
 |0=>fun _ _=>none
 |n+1=>laws_toKeyS_l0_b (laws_toKeyS_l0_L ke0 a0 n) ke0 a0
def laws_toKeyS_r(a0:T7):Q44:=
 (cond (((decide ((0:Int)≤(a0.length:Int)))&&(decide (((a0.length:Int)*(32:Int))≤(140737488355328:Int))))&&(decide ((a0.length:Int)≤(9223372036854775807:Int))))
 (laws_toKeyS_l0_L (fun z70=>(some z70)) a0 FUEL (0:Int) (List.replicate ((a0.length:Int).toNat) (List.replicate 32 (0:Int))))
 none)
def f10_l0_p(k:Nat)(K:Ex→St→Q44)(n:Nat)(a0:T7)(x4:Int)(z70:T7):Q44:=loopK (f10_cx k) 0 (execK (f10_cx k) (callK (f10_cx k) 8) 0 10 (sub f10_c [1,1,0,1,0,0])) f10_l0_cut K n (f10_l0_s a0 x4 z70)

theorem f10_l0_exit0(k:Nat)(z70:T7):((blkK 0 (seqK (execK (f10_cx k) (callK (f10_cx k) 8) 0 10 (sub f10_c [1,1,1])) (finK (f10_cx k) f10_i laws_toKeyS_sh))) (.exit 0) (f10_l0_o0 z70):Q44)=
 ((some z70):Q44):=by kernel_rfl

theorem f10_l0_round(k:Nat)(K:Ex→St→Q44)(n:Nat)(a0:T7)(x4:Int)(z70:T7):(f10_l0_p k K (n+1) a0 x4 z70:Q44)=laws_toKeyS_l0_b ((fun x4 z70=>f10_l0_p k K n a0 x4 z70)) (fun z70=>K (.exit 0) (f10_l0_o0 z70)) a0 x4 z70:=by kernel_rfl

theorem f10_l0_L_eq(K:Ex→St→Q44)(a0:T7):∀(n:Nat) (x4:Int) (z70:T7),(f10_l0_p FUEL K n a0 x4 z70:Q44)=laws_toKeyS_l0_L (fun z70=>K (.exit 0) (f10_l0_o0 z70)) a0 n x4 z70:=by
 intro n
 induction n with
 |zero=>intros; rfl
 |succ n ih=>
  intro x4 z70
  exact(f10_l0_round FUEL K n a0 x4 z70).trans (congrArg (fun f=>laws_toKeyS_l0_b f (fun z70=>K (.exit 0) (f10_l0_o0 z70)) a0 x4 z70) (funext fun x4=>funext fun z70=>ih x4 z70))

theorem f10_start(k:Nat)(a0:T7):fnK (f10_cx k) 8 10 f10_i laws_toKeyS_sh [.pv K12 a0]=
 ((cond (((decide ((0:Int)≤(a0.length:Int)))&&(decide (((a0.length:Int)*(32:Int))≤(140737488355328:Int))))&&(decide ((a0.length:Int)≤(9223372036854775807:Int))))
 (loopK (f10_cx k) 0 (execK (f10_cx k) (callK (f10_cx k) 8) 0 10 (sub f10_c [1,1,0,1,0,0])) f10_l0_cut (blkK 0 (seqK (execK (f10_cx k) (callK (f10_cx k) 8) 0 10 (sub f10_c [1,1,1])) (finK (f10_cx k) f10_i laws_toKeyS_sh))) k (f10_l0_s a0 (0:Int) (List.replicate ((a0.length:Int).toNat) (List.replicate 32 (0:Int)))))
 none):Q44):=by kernel_rfl

theorem f10_run(a0:T7):fnK (f10_cx FUEL) 8 10 f10_i laws_toKeyS_sh [.pv K12 a0]=laws_toKeyS_r a0:=
 (f10_start FUEL a0).trans (condC ((f10_l0_L_eq _ a0 FUEL (0:Int) (List.replicate ((a0.length:Int).toNat) (List.replicate 32 (0:Int)))).trans (congrArg (fun e0=>laws_toKeyS_l0_L e0 a0 FUEL (0:Int) (List.replicate ((a0.length:Int).toNat) (List.replicate 32 (0:Int)))) (funext fun z70=>(f10_l0_exit0 FUEL z70).trans (rfl)))) (rfl))

def f10_con:Con:={ps:=K9,sh:=laws_toKeyS_sh,raw:=fun x=>laws_toKeyS_r x.1}
theorem f10_conOk:ConOk Tryz.prog 10 f10_con:=con_of_fn (f10_tabs FUEL) (depth:=8) f10_ok fun x y h=>(f10_run x.1).trans h

def f50_cx(k:Nat):Cx:=mkC [] [] [] [] [] k [] false
theorem f50_tabs(k:Nat):TabsOk Tryz.prog (f50_cx k):=mkC_ok trivial trivial trivial trivial
abbrev spec_l05Blob_sh:List Sh:=[.pl .bool]
abbrev Q67:Type:=Option (shDen spec_l05Blob_sh)
def spec_l05Blob_r(a0:T4):Q67:=
 (some (decide ((a0.2.1.length:Int)≤(1024:Int))))
theorem f50_run(a0:T4):fnK (f50_cx FUEL) 8 50 f50_i spec_l05Blob_sh [.pv (.ref K8) a0]=spec_l05Blob_r a0:=by kernel_rfl

def f50_con:Con:={ps:=(.pair (.ref K8) .unit),sh:=spec_l05Blob_sh,raw:=fun x=>spec_l05Blob_r x.1}
theorem f50_conOk:ConOk Tryz.prog 50 f50_con:=con_of_fn (f50_tabs FUEL) (depth:=8) f50_ok fun x y h=>(f50_run x.1).trans h

def f108_l0_cut:Cut:={keep:=[0,2,3,4],stk:=[],ids:=[20,30],own:=[],outs:=[(1,[2,3],[20,30])]}
def f108_cx(k:Nat):Cx:=mkC [] [] [] [] [(108,[(0,f108_l0_cut)])] k [] false
theorem f108_tabs(k:Nat):TabsOk Tryz.prog (f108_cx k):=mkC_ok trivial trivial trivial trivial
abbrev spec_l01Start_sh:List Sh:=[.pl (.arr 8 (.int .u32))]
abbrev Q65:Type:=Option (shDen spec_l01Start_sh)
def f108_l0_s(a0:Int)(x4:Int)(y30:(List Int)):St:={env:=(.pv (.int .u8) a0:: .dead:: .ptr 20 (.arr 8 (.int .u32)) []:: .ptr 30 (.arr 8 (.int .u32)) []:: .pv (.int .i64) x4::(dd 15 [])),stk:=[],heap:=[(20,.var (.arr 8 (.int .u32)) (.pv (.arr 8 (.int .u32)) (List.replicate 8 (0:Int)))),(30,.var (.arr 8 (.int .u32)) (.pv (.arr 8 (.int .u32)) y30))]}
def f108_l0_o0(y30:(List Int)):St:={env:=(.dead:: .dead:: .ptr 20 (.arr 8 (.int .u32)) []:: .ptr 30 (.arr 8 (.int .u32)) []::(dd 16 [])),stk:=[],heap:=[(20,.var (.arr 8 (.int .u32)) (.pv (.arr 8 (.int .u32)) (List.replicate 8 (0:Int)))),(30,.var (.arr 8 (.int .u32)) (.pv (.arr 8 (.int .u32)) y30))]}
def spec_l01Start_l0_b(rec:Int→(List Int)→Q65)(ke0:(List Int)→Q65)(a0:Int)(x4:Int)(y30:(List Int)):Q65:=
 (cond (decide (x4<(8:Int)))
 (cond ((decide ((0:Int)≤x4))&&(decide (x4<(8:Int))))
 (rec (IntKind.wrap .i64 (x4+(1:Int))) (y30.set (x4.toNat) (IntKind.wrap .u32 ((IntKind.wrap .u32 ((16777619:Int)*(IntKind.wrap .u32 (IntKind.wrap .i64 (x4+(1:Int))))))+(IntKind.wrap .u32 a0)))))
 none)
 (ke0 y30))
def spec_l01Start_l0_L(ke0:(List Int)→Q65)(a0:Int):Nat→Int→(List Int)→Q65
 |0=>fun _ _=>none
 |n+1=>spec_l01Start_l0_b (spec_l01Start_l0_L ke0 a0 n) ke0 a0
def spec_l01Start_r(a0:Int):Q65:=
 (spec_l01Start_l0_L (fun y30=>(some y30)) a0 FUEL (0:Int) (List.replicate 8 (0:Int)))
def f108_l0_p(k:Nat)(K:Ex→St→Q65)(n:Nat)(a0:Int)(x4:Int)(y30:(List Int)):Q65:=loopK (f108_cx k) 0 (execK (f108_cx k) (callK (f108_cx k) 8) 0 108 (sub f108_c [1,1,0,1,0,0])) f108_l0_cut K n (f108_l0_s a0 x4 y30)

theorem f108_l0_exit0(k:Nat)(y30:(List Int)):((blkK 0 (seqK (execK (f108_cx k) (callK (f108_cx k) 8) 0 108 (sub f108_c [1,1,1])) (finK (f108_cx k) f108_i spec_l01Start_sh))) (.exit 0) (f108_l0_o0 y30):Q65)=
 ((some y30):Q65):=by kernel_rfl

theorem f108_l0_round(k:Nat)(K:Ex→St→Q65)(n:Nat)(a0:Int)(x4:Int)(y30:(List Int)):(f108_l0_p k K (n+1) a0 x4 y30:Q65)=spec_l01Start_l0_b ((fun x4 y30=>f108_l0_p k K n a0 x4 y30)) (fun y30=>K (.exit 0) (f108_l0_o0 y30)) a0 x4 y30:=by kernel_rfl

theorem f108_l0_L_eq(K:Ex→St→Q65)(a0:Int):∀(n:Nat) (x4:Int) (y30:(List Int)),(f108_l0_p FUEL K n a0 x4 y30:Q65)=spec_l01Start_l0_L (fun y30=>K (.exit 0) (f108_l0_o0 y30)) a0 n x4 y30:=by
 intro n
 induction n with
 |zero=>intros; rfl
 |succ n ih=>
  intro x4 y30
  exact(f108_l0_round FUEL K n a0 x4 y30).trans (congrArg (fun f=>spec_l01Start_l0_b f (fun y30=>K (.exit 0) (f108_l0_o0 y30)) a0 x4 y30) (funext fun x4=>funext fun y30=>ih x4 y30))

theorem f108_start(k:Nat)(a0:Int):fnK (f108_cx k) 8 108 f108_i spec_l01Start_sh [.pv (.int .u8) a0]=
 ((loopK (f108_cx k) 0 (execK (f108_cx k) (callK (f108_cx k) 8) 0 108 (sub f108_c [1,1,0,1,0,0])) f108_l0_cut (blkK 0 (seqK (execK (f108_cx k) (callK (f108_cx k) 8) 0 108 (sub f108_c [1,1,1])) (finK (f108_cx k) f108_i spec_l01Start_sh))) k (f108_l0_s a0 (0:Int) (List.replicate 8 (0:Int)))):Q65):=by kernel_rfl

theorem f108_run(a0:Int):fnK (f108_cx FUEL) 8 108 f108_i spec_l01Start_sh [.pv (.int .u8) a0]=spec_l01Start_r a0:=
 (f108_start FUEL a0).trans ((f108_l0_L_eq _ a0 FUEL (0:Int) (List.replicate 8 (0:Int))).trans (congrArg (fun e0=>spec_l01Start_l0_L e0 a0 FUEL (0:Int) (List.replicate 8 (0:Int))) (funext fun y30=>(f108_l0_exit0 FUEL y30).trans (rfl))))

def f108_con:Con:={ps:=K15,sh:=spec_l01Start_sh,raw:=fun x=>spec_l01Start_r x.1}
theorem f108_conOk:ConOk Tryz.prog 108 f108_con:=con_of_fn (f108_tabs FUEL) (depth:=8) f108_ok fun x y h=>(f108_run x.1).trans h

def f127_l0_cut:Cut:={keep:=[1,5],stk:=[],ids:=[90050],own:=[(5,90050,70)],outs:=[(1,[1,5],[90050])]}
def f127_l1_cut:Cut:={keep:=[1,5,6],stk:=[],ids:=[90050],own:=[(5,90050,70)],outs:=[(3,[5],[90050])]}
def f127_cx(k:Nat):Cx:=mkC [] [] [] [] [(127,[(0,f127_l0_cut),(2,f127_l1_cut)])] k [] false
theorem f127_tabs(k:Nat):TabsOk Tryz.prog (f127_cx k):=mkC_ok trivial trivial trivial trivial
abbrev spec_l01Padded_sh:List Sh:=[.own 5 (.int .u8)]
abbrev Q64:Type:=Option (shDen spec_l01Padded_sh)
def f127_l0_s(a1:Int)(z90050:(List Int)):St:={env:=(.dead:: .pv (.int .i64) a1::(dd 3 (.sl 90050 (.int .u8)::(dd 26 [])))),stk:=[],heap:=[(90050,.arr 5 (.int .u8) z90050)]}
def f127_l0_o0(a1:Int)(z90050:(List Int)):St:={env:=(.dead:: .pv (.int .i64) a1::(dd 3 (.sl 90050 (.int .u8)::(dd 26 [])))),stk:=[],heap:=[(90050,.arr 5 (.int .u8) z90050)]}
def f127_l1_s(z90050:(List Int))(x1:Int)(x6:Int):St:={env:=(.dead:: .pv (.int .i64) x1::(dd 3 (.sl 90050 (.int .u8):: .pv (.int .i64) x6::(dd 25 [])))),stk:=[],heap:=[(90050,.arr 5 (.int .u8) z90050)]}
def f127_l1_o2(z90050:(List Int)):St:={env:=(dd 5 (.sl 90050 (.int .u8)::(dd 26 []))),stk:=[],heap:=[(90050,.arr 5 (.int .u8) z90050)]}
def spec_l01Padded_l1_b(rec:(List Int)→Int→Int→Q64)(ke2:(List Int)→Q64)(z90050:(List Int))(x1:Int)(x6:Int):Q64:=
 (cond (decide (x6<(8:Int)))
 (cond (decide ((z90050.length+1)*1≤140737488355328)&&decide (z90050.length+1≤9223372036854775807))
 (rec (z90050++[(IntKind.wrap .u8 (Int.tmod x1 (256:Int)))]) (IntKind.wrap .i64 (Int.tdiv x1 (256:Int))) (IntKind.wrap .i64 (x6+(1:Int))))
 none)
 (ke2 z90050))
def spec_l01Padded_l1_L(ke2:(List Int)→Q64):Nat→(List Int)→Int→Int→Q64
 |0=>fun _ _ _=>none
 |n+1=>spec_l01Padded_l1_b (spec_l01Padded_l1_L ke2 n) ke2
def spec_l01Padded_l0_b(rec:(List Int)→Q64)(ke0:(List Int)→Q64)(a1:Int)(z90050:(List Int)):Q64:=
 (cond (!(decide ((Int.tmod (z90050.length:Int) (32:Int))=(24:Int))))
 (cond (decide ((z90050.length+1)*1≤140737488355328)&&decide (z90050.length+1≤9223372036854775807))
 (rec (z90050++[(0:Int)]))
 none)
 (ke0 z90050))
def spec_l01Padded_l0_L(ke0:(List Int)→Q64)(a1:Int):Nat→(List Int)→Q64
 |0=>fun _=>none
 |n+1=>spec_l01Padded_l0_b (spec_l01Padded_l0_L ke0 a1 n) ke0 a1
def spec_l01Padded_r(a0:(List Int))(a1:Int):Q64:=
 (cond (decide ((0+a0.length)*1≤140737488355328)&&decide (0+a0.length≤9223372036854775807))
 (cond (decide ((([]++a0).length+1)*1≤140737488355328)&&decide (([]++a0).length+1≤9223372036854775807))
 (spec_l01Padded_l0_L (fun z90050=>(spec_l01Padded_l1_L (fun z90050=>(some z90050)) FUEL z90050 a1 (0:Int))) a1 FUEL (([]++a0)++[(128:Int)]))
 none)
 none)
def f127_l1_p(k:Nat)(K:Ex→St→Q64)(n:Nat)(z90050:(List Int))(x1:Int)(x6:Int):Q64:=loopK (f127_cx k) 0 (execK (f127_cx k) (callK (f127_cx k) 8) 0 127 (sub f127_c [1,1,1,0,1,0,0])) f127_l1_cut K n (f127_l1_s z90050 x1 x6)

theorem f127_l1_exit2(k:Nat)(z90050:(List Int)):((blkK 2 (seqK (execK (f127_cx k) (callK (f127_cx k) 8) 0 127 (sub f127_c [1,1,1,1])) (finK (f127_cx k) f127_i spec_l01Padded_sh))) (.exit 2) (f127_l1_o2 z90050):Q64)=
 ((some z90050):Q64):=by kernel_rfl

theorem f127_l1_round(k:Nat)(K:Ex→St→Q64)(n:Nat)(z90050:(List Int))(x1:Int)(x6:Int):(f127_l1_p k K (n+1) z90050 x1 x6:Q64)=spec_l01Padded_l1_b ((fun z90050 x1 x6=>f127_l1_p k K n z90050 x1 x6)) (fun z90050=>K (.exit 2) (f127_l1_o2 z90050)) z90050 x1 x6:=by kernel_rfl

theorem f127_l1_L_eq(K:Ex→St→Q64):∀(n:Nat) (z90050:(List Int)) (x1:Int) (x6:Int),(f127_l1_p FUEL K n z90050 x1 x6:Q64)=spec_l01Padded_l1_L (fun z90050=>K (.exit 2) (f127_l1_o2 z90050)) n z90050 x1 x6:=by
 intro n
 induction n with
 |zero=>intros; rfl
 |succ n ih=>
  intro z90050 x1 x6
  exact(f127_l1_round FUEL K n z90050 x1 x6).trans (congrArg (fun f=>spec_l01Padded_l1_b f (fun z90050=>K (.exit 2) (f127_l1_o2 z90050)) z90050 x1 x6) (funext fun z90050=>funext fun x1=>funext fun x6=>ih z90050 x1 x6))

def f127_l0_p(k:Nat)(K:Ex→St→Q64)(n:Nat)(a1:Int)(z90050:(List Int)):Q64:=loopK (f127_cx k) 0 (execK (f127_cx k) (callK (f127_cx k) 8) 0 127 (sub f127_c [1,1,0,0,0])) f127_l0_cut K n (f127_l0_s a1 z90050)

theorem f127_l0_exit0(k:Nat)(a1:Int)(z90050:(List Int)):((blkK 0 (seqK (execK (f127_cx k) (callK (f127_cx k) 8) 0 127 (sub f127_c [1,1,1])) (finK (f127_cx k) f127_i spec_l01Padded_sh))) (.exit 0) (f127_l0_o0 a1 z90050):Q64)=
 ((loopK (f127_cx k) 0 (execK (f127_cx k) (callK (f127_cx k) 8) 0 127 (sub f127_c [1,1,1,0,1,0,0])) f127_l1_cut (blkK 2 (seqK (execK (f127_cx k) (callK (f127_cx k) 8) 0 127 (sub f127_c [1,1,1,1])) (finK (f127_cx k) f127_i spec_l01Padded_sh))) k (f127_l1_s z90050 a1 (0:Int))):Q64):=by kernel_rfl

theorem f127_l0_round(k:Nat)(K:Ex→St→Q64)(n:Nat)(a1:Int)(z90050:(List Int)):(f127_l0_p k K (n+1) a1 z90050:Q64)=spec_l01Padded_l0_b ((fun z90050=>f127_l0_p k K n a1 z90050)) (fun z90050=>K (.exit 0) (f127_l0_o0 a1 z90050)) a1 z90050:=by kernel_rfl

theorem f127_l0_L_eq(K:Ex→St→Q64)(a1:Int):∀(n:Nat) (z90050:(List Int)),(f127_l0_p FUEL K n a1 z90050:Q64)=spec_l01Padded_l0_L (fun z90050=>K (.exit 0) (f127_l0_o0 a1 z90050)) a1 n z90050:=by
 intro n
 induction n with
 |zero=>intros; rfl
 |succ n ih=>
  intro z90050
  exact(f127_l0_round FUEL K n a1 z90050).trans (congrArg (fun f=>spec_l01Padded_l0_b f (fun z90050=>K (.exit 0) (f127_l0_o0 a1 z90050)) a1 z90050) (funext fun z90050=>ih z90050))

theorem f127_start(k:Nat)(a0:(List Int))(a1:Int):fnK (f127_cx k) 8 127 f127_i spec_l01Padded_sh [.pv K16 a0,.pv (.int .i64) a1]=
 ((cond (decide ((0+a0.length)*1≤140737488355328)&&decide (0+a0.length≤9223372036854775807))
 (cond (decide ((([]++a0).length+1)*1≤140737488355328)&&decide (([]++a0).length+1≤9223372036854775807))
 (loopK (f127_cx k) 0 (execK (f127_cx k) (callK (f127_cx k) 8) 0 127 (sub f127_c [1,1,0,0,0])) f127_l0_cut (blkK 0 (seqK (execK (f127_cx k) (callK (f127_cx k) 8) 0 127 (sub f127_c [1,1,1])) (finK (f127_cx k) f127_i spec_l01Padded_sh))) k (f127_l0_s a1 (([]++a0)++[(128:Int)])))
 none)
 none):Q64):=by kernel_rfl

theorem f127_run(a0:(List Int))(a1:Int):fnK (f127_cx FUEL) 8 127 f127_i spec_l01Padded_sh [.pv K16 a0,.pv (.int .i64) a1]=spec_l01Padded_r a0 a1:=
 (f127_start FUEL a0 a1).trans (condC (condC ((f127_l0_L_eq _ a1 FUEL (([]++a0)++[(128:Int)])).trans (congrArg (fun e0=>spec_l01Padded_l0_L e0 a1 FUEL (([]++a0)++[(128:Int)])) (funext fun z90050=>(f127_l0_exit0 FUEL a1 z90050).trans ((f127_l1_L_eq _ FUEL z90050 a1 (0:Int)).trans (congrArg (fun e0=>spec_l01Padded_l1_L e0 FUEL z90050 a1 (0:Int)) (funext fun z90050=>(f127_l1_exit2 FUEL z90050).trans (rfl))))))) (rfl)) (rfl))

def f127_con:Con:={ps:=K7,sh:=spec_l01Padded_sh,raw:=fun x=>spec_l01Padded_r x.1 x.2.1}
theorem f127_conOk:ConOk Tryz.prog 127 f127_con:=con_of_fn (f127_tabs FUEL) (depth:=8) f127_ok fun x y h=>(f127_run x.1 x.2.1).trans h

def f129_l0_cut:Cut:={keep:=[0,1,4,5,6],stk:=[],ids:=[40,50],own:=[],outs:=[(1,[4,5],[40,50])]}
def f129_cx(k:Nat):Cx:=mkC [] [] [] [] [(129,[(0,f129_l0_cut)])] k [] false
theorem f129_tabs(k:Nat):TabsOk Tryz.prog (f129_cx k):=mkC_ok trivial trivial trivial trivial
abbrev spec_l01Block_sh:List Sh:=[.pl (.arr 32 (.int .u8))]
abbrev Q57:Type:=Option (shDen spec_l01Block_sh)
def f129_l0_s(a0:(List Int))(a1:Int)(x6:Int)(y50:(List Int)):St:={env:=(.pv K16 a0:: .pv (.int .i64) a1:: .dead:: .dead:: .ptr 40 (.arr 32 (.int .u8)) []:: .ptr 50 (.arr 32 (.int .u8)) []:: .pv (.int .i64) x6::(dd 14 [])),stk:=[],heap:=[(40,.var (.arr 32 (.int .u8)) (.pv (.arr 32 (.int .u8)) (List.replicate 32 (0:Int)))),(50,.var (.arr 32 (.int .u8)) (.pv (.arr 32 (.int .u8)) y50))]}
def f129_l0_o0(y50:(List Int)):St:={env:=(dd 4 (.ptr 40 (.arr 32 (.int .u8)) []:: .ptr 50 (.arr 32 (.int .u8)) []::(dd 15 []))),stk:=[],heap:=[(40,.var (.arr 32 (.int .u8)) (.pv (.arr 32 (.int .u8)) (List.replicate 32 (0:Int)))),(50,.var (.arr 32 (.int .u8)) (.pv (.arr 32 (.int .u8)) y50))]}
def spec_l01Block_l0_b(rec:Int→(List Int)→Q57)(ke0:(List Int)→Q57)(a0:(List Int))(a1:Int)(x6:Int)(y50:(List Int)):Q57:=
 (cond (decide (x6<(32:Int)))
 (cond ((decide ((0:Int)≤(IntKind.wrap .i64 (a1+x6))))&&(decide ((IntKind.wrap .i64 (a1+x6))<(a0.length:Int))))
 (cond ((decide ((0:Int)≤x6))&&(decide (x6<(32:Int))))
 (rec (IntKind.wrap .i64 (x6+(1:Int))) (y50.set (x6.toNat) (a0.getD ((IntKind.wrap .i64 (a1+x6)).toNat) (0:Int))))
 none)
 none)
 (ke0 y50))
def spec_l01Block_l0_L(ke0:(List Int)→Q57)(a0:(List Int))(a1:Int):Nat→Int→(List Int)→Q57
 |0=>fun _ _=>none
 |n+1=>spec_l01Block_l0_b (spec_l01Block_l0_L ke0 a0 a1 n) ke0 a0 a1
def spec_l01Block_r(a0:(List Int))(a1:Int):Q57:=
 (spec_l01Block_l0_L (fun y50=>(some y50)) a0 a1 FUEL (0:Int) (List.replicate 32 (0:Int)))
def f129_l0_p(k:Nat)(K:Ex→St→Q57)(n:Nat)(a0:(List Int))(a1:Int)(x6:Int)(y50:(List Int)):Q57:=loopK (f129_cx k) 0 (execK (f129_cx k) (callK (f129_cx k) 8) 0 129 (sub f129_c [1,1,0,1,0,0])) f129_l0_cut K n (f129_l0_s a0 a1 x6 y50)

theorem f129_l0_exit0(k:Nat)(y50:(List Int)):((blkK 0 (seqK (execK (f129_cx k) (callK (f129_cx k) 8) 0 129 (sub f129_c [1,1,1])) (finK (f129_cx k) f129_i spec_l01Block_sh))) (.exit 0) (f129_l0_o0 y50):Q57)=
 ((some y50):Q57):=by kernel_rfl

theorem f129_l0_round(k:Nat)(K:Ex→St→Q57)(n:Nat)(a0:(List Int))(a1:Int)(x6:Int)(y50:(List Int)):(f129_l0_p k K (n+1) a0 a1 x6 y50:Q57)=spec_l01Block_l0_b ((fun x6 y50=>f129_l0_p k K n a0 a1 x6 y50)) (fun y50=>K (.exit 0) (f129_l0_o0 y50)) a0 a1 x6 y50:=by kernel_rfl

theorem f129_l0_L_eq(K:Ex→St→Q57)(a0:(List Int))(a1:Int):∀(n:Nat) (x6:Int) (y50:(List Int)),(f129_l0_p FUEL K n a0 a1 x6 y50:Q57)=spec_l01Block_l0_L (fun y50=>K (.exit 0) (f129_l0_o0 y50)) a0 a1 n x6 y50:=by
 intro n
 induction n with
 |zero=>intros; rfl
 |succ n ih=>
  intro x6 y50
  exact(f129_l0_round FUEL K n a0 a1 x6 y50).trans (congrArg (fun f=>spec_l01Block_l0_b f (fun y50=>K (.exit 0) (f129_l0_o0 y50)) a0 a1 x6 y50) (funext fun x6=>funext fun y50=>ih x6 y50))

theorem f129_start(k:Nat)(a0:(List Int))(a1:Int):fnK (f129_cx k) 8 129 f129_i spec_l01Block_sh [.pv K16 a0,.pv (.int .i64) a1]=
 ((loopK (f129_cx k) 0 (execK (f129_cx k) (callK (f129_cx k) 8) 0 129 (sub f129_c [1,1,0,1,0,0])) f129_l0_cut (blkK 0 (seqK (execK (f129_cx k) (callK (f129_cx k) 8) 0 129 (sub f129_c [1,1,1])) (finK (f129_cx k) f129_i spec_l01Block_sh))) k (f129_l0_s a0 a1 (0:Int) (List.replicate 32 (0:Int)))):Q57):=by kernel_rfl

theorem f129_run(a0:(List Int))(a1:Int):fnK (f129_cx FUEL) 8 129 f129_i spec_l01Block_sh [.pv K16 a0,.pv (.int .i64) a1]=spec_l01Block_r a0 a1:=
 (f129_start FUEL a0 a1).trans ((f129_l0_L_eq _ a0 a1 FUEL (0:Int) (List.replicate 32 (0:Int))).trans (congrArg (fun e0=>spec_l01Block_l0_L e0 a0 a1 FUEL (0:Int) (List.replicate 32 (0:Int))) (funext fun y50=>(f129_l0_exit0 FUEL y50).trans (rfl))))

def f129_con:Con:={ps:=K7,sh:=spec_l01Block_sh,raw:=fun x=>spec_l01Block_r x.1 x.2.1}
theorem f129_conOk:ConOk Tryz.prog 129 f129_con:=con_of_fn (f129_tabs FUEL) (depth:=8) f129_ok fun x y h=>(f129_run x.1 x.2.1).trans h

def f138_cx(k:Nat):Cx:=mkC [] [] [] [] [] k [] false
theorem f138_tabs(k:Nat):TabsOk Tryz.prog (f138_cx k):=mkC_ok trivial trivial trivial trivial
abbrev spec_l01Turn_sh:List Sh:=[.pl (.int .u32)]
abbrev Q66:Type:=Option (shDen spec_l01Turn_sh)
def spec_l01Turn_r(a0:Int)(a1:Int):Q66:=
 (cond (decide (a1<(0:Int)))
 none
 (cond (decide ((IntKind.wrap .u64 ((32:Int)-a1))<(0:Int)))
 none
 (some (bitI .or .u32 (shlI .u32 a0 a1) (shrI .u32 a0 (IntKind.wrap .u64 ((32:Int)-a1)))))))
theorem f138_run(a0:Int)(a1:Int):fnK (f138_cx FUEL) 8 138 f138_i spec_l01Turn_sh [.pv (.int .u32) a0,.pv (.int .u64) a1]=spec_l01Turn_r a0 a1:=by kernel_rfl

def f138_con:Con:={ps:=(.pair (.int .u32) (.pair (.int .u64) .unit)),sh:=spec_l01Turn_sh,raw:=fun x=>spec_l01Turn_r x.1 x.2.1}
theorem f138_conOk:ConOk Tryz.prog 138 f138_con:=con_of_fn (f138_tabs FUEL) (depth:=8) f138_ok fun x y h=>(f138_run x.1 x.2.1).trans h

def f128_l0_cut:Cut:={keep:=[2,3,4,5,6],stk:=[],ids:=[20,30,40,50],own:=[],outs:=[(1,[2,4,5],[20,40,50])]}
def f128_l1_cut:Cut:={keep:=[2,3,4,5,6,7],stk:=[],ids:=[20,30,40,50],own:=[],outs:=[(3,[2,3,4,5,6],[20,30,40,50])]}
def f128_l2_cut:Cut:={keep:=[2,4,5,8,9],stk:=[],ids:=[20,40,50,80],own:=[],outs:=[(5,[2,4,8],[20,40,80])]}
def f128_l3_cut:Cut:={keep:=[2,4,5,8,9,10],stk:=[],ids:=[20,40,50,80],own:=[],outs:=[(7,[2,4,5,8,9],[20,40,50,80])]}
def f128_l4_cut:Cut:={keep:=[2,4,8,13],stk:=[],ids:=[20,40,80],own:=[],outs:=[(9,[4,8],[40,80])]}
def f128_cx(k:Nat):Cx:=mkC [] [(138,f138_con)] [] [] [(128,[(0,f128_l0_cut),(2,f128_l1_cut),(4,f128_l2_cut),(6,f128_l3_cut),(8,f128_l4_cut)])] k [] false
theorem f128_tabs(k:Nat):TabsOk Tryz.prog (f128_cx k):=mkC_ok ⟨f138_conOk,trivial⟩ trivial trivial trivial
abbrev spec_l01Mix_sh:List Sh:=[.pl (.arr 8 (.int .u32))]
abbrev Q63:Type:=Option (shDen spec_l01Mix_sh)
def f128_l0_s(a0:(List Int))(a1:(List Int))(x6:Int)(y50:(List Int)):St:={env:=(.dead:: .dead:: .ptr 20 (.arr 8 (.int .u32)) []:: .ptr 30 (.arr 32 (.int .u8)) []:: .ptr 40 (.arr 8 (.int .u32)) []:: .ptr 50 (.arr 8 (.int .u32)) []:: .pv (.int .i64) x6::(dd 89 [])),stk:=[],heap:=[(20,.var (.arr 8 (.int .u32)) (.pv (.arr 8 (.int .u32)) a0)),(30,.var (.arr 32 (.int .u8)) (.pv (.arr 32 (.int .u8)) a1)),(40,.var (.arr 8 (.int .u32)) (.pv (.arr 8 (.int .u32)) (List.replicate 8 (0:Int)))),(50,.var (.arr 8 (.int .u32)) (.pv (.arr 8 (.int .u32)) y50))]}
def f128_l0_o0(a0:(List Int))(y50:(List Int)):St:={env:=(.dead:: .dead:: .ptr 20 (.arr 8 (.int .u32)) []:: .dead:: .ptr 40 (.arr 8 (.int .u32)) []:: .ptr 50 (.arr 8 (.int .u32)) []::(dd 90 [])),stk:=[],heap:=[(20,.var (.arr 8 (.int .u32)) (.pv (.arr 8 (.int .u32)) a0)),(40,.var (.arr 8 (.int .u32)) (.pv (.arr 8 (.int .u32)) (List.replicate 8 (0:Int)))),(50,.var (.arr 8 (.int .u32)) (.pv (.arr 8 (.int .u32)) y50))]}
def f128_l1_s(a0:(List Int))(a1:(List Int))(x6:Int)(x7:Int)(y50:(List Int)):St:={env:=(.dead:: .dead:: .ptr 20 (.arr 8 (.int .u32)) []:: .ptr 30 (.arr 32 (.int .u8)) []:: .ptr 40 (.arr 8 (.int .u32)) []:: .ptr 50 (.arr 8 (.int .u32)) []:: .pv (.int .i64) x6:: .pv (.int .i64) x7::(dd 88 [])),stk:=[],heap:=[(20,.var (.arr 8 (.int .u32)) (.pv (.arr 8 (.int .u32)) a0)),(30,.var (.arr 32 (.int .u8)) (.pv (.arr 32 (.int .u8)) a1)),(40,.var (.arr 8 (.int .u32)) (.pv (.arr 8 (.int .u32)) (List.replicate 8 (0:Int)))),(50,.var (.arr 8 (.int .u32)) (.pv (.arr 8 (.int .u32)) y50))]}
def f128_l1_o2(a0:(List Int))(a1:(List Int))(x6:Int)(y50:(List Int)):St:={env:=(.dead:: .dead:: .ptr 20 (.arr 8 (.int .u32)) []:: .ptr 30 (.arr 32 (.int .u8)) []:: .ptr 40 (.arr 8 (.int .u32)) []:: .ptr 50 (.arr 8 (.int .u32)) []:: .pv (.int .i64) x6::(dd 89 [])),stk:=[],heap:=[(20,.var (.arr 8 (.int .u32)) (.pv (.arr 8 (.int .u32)) a0)),(30,.var (.arr 32 (.int .u8)) (.pv (.arr 32 (.int .u8)) a1)),(40,.var (.arr 8 (.int .u32)) (.pv (.arr 8 (.int .u32)) (List.replicate 8 (0:Int)))),(50,.var (.arr 8 (.int .u32)) (.pv (.arr 8 (.int .u32)) y50))]}
def f128_l2_s(a0:(List Int))(y50:(List Int))(x9:Int)(y80:(List Int)):St:={env:=(.dead:: .dead:: .ptr 20 (.arr 8 (.int .u32)) []:: .dead:: .ptr 40 (.arr 8 (.int .u32)) []:: .ptr 50 (.arr 8 (.int .u32)) []:: .dead:: .dead:: .ptr 80 (.arr 8 (.int .u32)) []:: .pv (.int .i64) x9::(dd 86 [])),stk:=[],heap:=[(20,.var (.arr 8 (.int .u32)) (.pv (.arr 8 (.int .u32)) a0)),(40,.var (.arr 8 (.int .u32)) (.pv (.arr 8 (.int .u32)) (List.replicate 8 (0:Int)))),(50,.var (.arr 8 (.int .u32)) (.pv (.arr 8 (.int .u32)) y50)),(80,.var (.arr 8 (.int .u32)) (.pv (.arr 8 (.int .u32)) y80))]}
def f128_l2_o4(a0:(List Int))(y80:(List Int)):St:={env:=(.dead:: .dead:: .ptr 20 (.arr 8 (.int .u32)) []:: .dead:: .ptr 40 (.arr 8 (.int .u32)) []::(dd 3 (.ptr 80 (.arr 8 (.int .u32)) []::(dd 87 [])))),stk:=[],heap:=[(20,.var (.arr 8 (.int .u32)) (.pv (.arr 8 (.int .u32)) a0)),(40,.var (.arr 8 (.int .u32)) (.pv (.arr 8 (.int .u32)) (List.replicate 8 (0:Int)))),(80,.var (.arr 8 (.int .u32)) (.pv (.arr 8 (.int .u32)) y80))]}
def f128_l3_s(a0:(List Int))(y50:(List Int))(x9:Int)(x10:Int)(y80:(List Int)):St:={env:=(.dead:: .dead:: .ptr 20 (.arr 8 (.int .u32)) []:: .dead:: .ptr 40 (.arr 8 (.int .u32)) []:: .ptr 50 (.arr 8 (.int .u32)) []:: .dead:: .dead:: .ptr 80 (.arr 8 (.int .u32)) []:: .pv (.int .i64) x9:: .pv (.int .i64) x10::(dd 85 [])),stk:=[],heap:=[(20,.var (.arr 8 (.int .u32)) (.pv (.arr 8 (.int .u32)) a0)),(40,.var (.arr 8 (.int .u32)) (.pv (.arr 8 (.int .u32)) (List.replicate 8 (0:Int)))),(50,.var (.arr 8 (.int .u32)) (.pv (.arr 8 (.int .u32)) y50)),(80,.var (.arr 8 (.int .u32)) (.pv (.arr 8 (.int .u32)) y80))]}
def f128_l3_o6(a0:(List Int))(y50:(List Int))(x9:Int)(y80:(List Int)):St:={env:=(.dead:: .dead:: .ptr 20 (.arr 8 (.int .u32)) []:: .dead:: .ptr 40 (.arr 8 (.int .u32)) []:: .ptr 50 (.arr 8 (.int .u32)) []:: .dead:: .dead:: .ptr 80 (.arr 8 (.int .u32)) []:: .pv (.int .i64) x9::(dd 86 [])),stk:=[],heap:=[(20,.var (.arr 8 (.int .u32)) (.pv (.arr 8 (.int .u32)) a0)),(40,.var (.arr 8 (.int .u32)) (.pv (.arr 8 (.int .u32)) (List.replicate 8 (0:Int)))),(50,.var (.arr 8 (.int .u32)) (.pv (.arr 8 (.int .u32)) y50)),(80,.var (.arr 8 (.int .u32)) (.pv (.arr 8 (.int .u32)) y80))]}
def f128_l4_s(a0:(List Int))(y80:(List Int))(x13:Int):St:={env:=(.dead:: .dead:: .ptr 20 (.arr 8 (.int .u32)) []:: .dead:: .ptr 40 (.arr 8 (.int .u32)) []::(dd 3 (.ptr 80 (.arr 8 (.int .u32)) []::(dd 4 (.pv (.int .i64) x13::(dd 82 [])))))),stk:=[],heap:=[(20,.var (.arr 8 (.int .u32)) (.pv (.arr 8 (.int .u32)) a0)),(40,.var (.arr 8 (.int .u32)) (.pv (.arr 8 (.int .u32)) (List.replicate 8 (0:Int)))),(80,.var (.arr 8 (.int .u32)) (.pv (.arr 8 (.int .u32)) y80))]}
def f128_l4_o8(y80:(List Int)):St:={env:=(dd 4 (.ptr 40 (.arr 8 (.int .u32)) []::(dd 3 (.ptr 80 (.arr 8 (.int .u32)) []::(dd 87 []))))),stk:=[],heap:=[(40,.var (.arr 8 (.int .u32)) (.pv (.arr 8 (.int .u32)) (List.replicate 8 (0:Int)))),(80,.var (.arr 8 (.int .u32)) (.pv (.arr 8 (.int .u32)) y80))]}
def spec_l01Mix_l4_b(rec:(List Int)→Int→Q63)(ke8:(List Int)→Q63)(a0:(List Int))(y80:(List Int))(x13:Int):Q63:=
 (cond (decide (x13<(8:Int)))
 (cond ((decide ((0:Int)≤x13))&&(decide (x13<(8:Int))))
 (cond ((decide ((0:Int)≤x13))&&(decide (x13<(8:Int))))
 (cond ((decide ((0:Int)≤x13))&&(decide (x13<(8:Int))))
 (rec (y80.set (x13.toNat) (bitI .xor .u32 (y80.getD (x13.toNat) (0:Int)) (a0.getD (x13.toNat) (0:Int)))) (IntKind.wrap .i64 (x13+(1:Int))))
 none)
 none)
 none)
 (ke8 y80))
def spec_l01Mix_l4_L(ke8:(List Int)→Q63)(a0:(List Int)):Nat→(List Int)→Int→Q63
 |0=>fun _ _=>none
 |n+1=>spec_l01Mix_l4_b (spec_l01Mix_l4_L ke8 a0 n) ke8 a0
def spec_l01Mix_l3_b(rec:Int→(List Int)→Q63)(ke6:(List Int)→Q63)(a0:(List Int))(y50:(List Int))(x9:Int)(x10:Int)(y80:(List Int)):Q63:=
 (cond (decide (x10<(8:Int)))
 (cond ((decide ((0:Int)≤x10))&&(decide (x10<(8:Int))))
 (cond ((decide ((0:Int)≤(Int.tmod (IntKind.wrap .i64 (x10+(IntKind.wrap .i64 ((3:Int)*x9)))) (8:Int))))&&(decide ((Int.tmod (IntKind.wrap .i64 (x10+(IntKind.wrap .i64 ((3:Int)*x9)))) (8:Int))<(8:Int))))
 (bindO (spec_l01Turn_r (IntKind.wrap .u32 ((IntKind.wrap .u32 ((y80.getD (x10.toNat) (0:Int))+(y50.getD ((Int.tmod (IntKind.wrap .i64 (x10+(IntKind.wrap .i64 ((3:Int)*x9)))) (8:Int)).toNat) (0:Int))))+(IntKind.wrap .u32 ((2654435769:Int)*(IntKind.wrap .u32 (IntKind.wrap .i64 ((IntKind.wrap .i64 ((IntKind.wrap .i64 ((8:Int)*x9))+x10))+(1:Int)))))))) (7:Int)) fun(b7:Int)=>(cond ((decide ((0:Int)≤(Int.tmod (IntKind.wrap .i64 (x10+(1:Int))) (8:Int))))&&(decide ((Int.tmod (IntKind.wrap .i64 (x10+(1:Int))) (8:Int))<(8:Int))))
 (cond ((decide ((0:Int)≤(Int.tmod (IntKind.wrap .i64 (x10+(5:Int))) (8:Int))))&&(decide ((Int.tmod (IntKind.wrap .i64 (x10+(5:Int))) (8:Int))<(8:Int))))
 (bindO (spec_l01Turn_r (y80.getD ((Int.tmod (IntKind.wrap .i64 (x10+(5:Int))) (8:Int)).toNat) (0:Int)) (13:Int)) fun(b8:Int)=>(cond ((decide ((0:Int)≤x10))&&(decide (x10<(8:Int))))
 (rec (IntKind.wrap .i64 (x10+(1:Int))) (y80.set (x10.toNat) (IntKind.wrap .u32 ((bitI .xor .u32 b7 (y80.getD ((Int.tmod (IntKind.wrap .i64 (x10+(1:Int))) (8:Int)).toNat) (0:Int)))+b8))))
 none))
 none)
 none))
 none)
 none)
 (ke6 y80))
def spec_l01Mix_l3_L(ke6:(List Int)→Q63)(a0:(List Int))(y50:(List Int))(x9:Int):Nat→Int→(List Int)→Q63
 |0=>fun _ _=>none
 |n+1=>spec_l01Mix_l3_b (spec_l01Mix_l3_L ke6 a0 y50 x9 n) ke6 a0 y50 x9
def spec_l01Mix_l2_b(rec:(List Int)→Int→(List Int)→Q63)(ke4:(List Int)→Q63)(a0:(List Int))(y50:(List Int))(x9:Int)(y80:(List Int)):Q63:=
 (cond (decide (x9<(12:Int)))
 (spec_l01Mix_l3_L (fun y80=>(rec y50 (IntKind.wrap .i64 (x9+(1:Int))) y80)) a0 y50 x9 FUEL (0:Int) y80)
 (ke4 y80))
def spec_l01Mix_l2_L(ke4:(List Int)→Q63)(a0:(List Int)):Nat→(List Int)→Int→(List Int)→Q63
 |0=>fun _ _ _=>none
 |n+1=>spec_l01Mix_l2_b (spec_l01Mix_l2_L ke4 a0 n) ke4 a0
def spec_l01Mix_l1_b(rec:Int→(List Int)→Q63)(ke2:(List Int)→Q63)(a0:(List Int))(a1:(List Int))(x6:Int)(x7:Int)(y50:(List Int)):Q63:=
 (cond (decide ((0:Int)≤x7))
 (cond ((decide ((0:Int)≤x6))&&(decide (x6<(8:Int))))
 (cond ((decide ((0:Int)≤(IntKind.wrap .i64 ((IntKind.wrap .i64 ((4:Int)*x6))+x7))))&&(decide ((IntKind.wrap .i64 ((IntKind.wrap .i64 ((4:Int)*x6))+x7))<(32:Int))))
 (cond ((decide ((0:Int)≤x6))&&(decide (x6<(8:Int))))
 (rec (IntKind.wrap .i64 (x7-(1:Int))) (y50.set (x6.toNat) (bitI .or .u32 (shlI .u32 (y50.getD (x6.toNat) (0:Int)) (8:Int)) (IntKind.wrap .u32 (a1.getD ((IntKind.wrap .i64 ((IntKind.wrap .i64 ((4:Int)*x6))+x7)).toNat) (0:Int))))))
 none)
 none)
 none)
 (ke2 y50))
def spec_l01Mix_l1_L(ke2:(List Int)→Q63)(a0:(List Int))(a1:(List Int))(x6:Int):Nat→Int→(List Int)→Q63
 |0=>fun _ _=>none
 |n+1=>spec_l01Mix_l1_b (spec_l01Mix_l1_L ke2 a0 a1 x6 n) ke2 a0 a1 x6
def spec_l01Mix_l0_b(rec:Int→(List Int)→Q63)(ke0:(List Int)→Q63)(a0:(List Int))(a1:(List Int))(x6:Int)(y50:(List Int)):Q63:=
 (cond (decide (x6<(8:Int)))
 (spec_l01Mix_l1_L (fun y50=>(rec (IntKind.wrap .i64 (x6+(1:Int))) y50)) a0 a1 x6 FUEL (3:Int) y50)
 (ke0 y50))
def spec_l01Mix_l0_L(ke0:(List Int)→Q63)(a0:(List Int))(a1:(List Int)):Nat→Int→(List Int)→Q63
 |0=>fun _ _=>none
 |n+1=>spec_l01Mix_l0_b (spec_l01Mix_l0_L ke0 a0 a1 n) ke0 a0 a1
def spec_l01Mix_r(a0:(List Int))(a1:(List Int)):Q63:=
 (spec_l01Mix_l0_L (fun y50=>(spec_l01Mix_l2_L (fun y80=>(spec_l01Mix_l4_L (fun y80=>(some y80)) a0 FUEL y80 (0:Int))) a0 FUEL y50 (0:Int) a0)) a0 a1 FUEL (0:Int) (List.replicate 8 (0:Int)))
def f128_l4_p(k:Nat)(K:Ex→St→Q63)(n:Nat)(a0:(List Int))(y80:(List Int))(x13:Int):Q63:=loopK (f128_cx k) 0 (execK (f128_cx k) (callK (f128_cx k) 8) 0 128 (sub f128_c [1,1,1,1,1,0,1,0,0])) f128_l4_cut K n (f128_l4_s a0 y80 x13)

theorem f128_l4_exit8(k:Nat)(y80:(List Int)):((blkK 8 (seqK (execK (f128_cx k) (callK (f128_cx k) 8) 0 128 (sub f128_c [1,1,1,1,1,1])) (finK (f128_cx k) f128_i spec_l01Mix_sh))) (.exit 8) (f128_l4_o8 y80):Q63)=
 ((some y80):Q63):=by kernel_rfl

theorem f128_l4_round(k:Nat)(K:Ex→St→Q63)(n:Nat)(a0:(List Int))(y80:(List Int))(x13:Int):(f128_l4_p k K (n+1) a0 y80 x13:Q63)=spec_l01Mix_l4_b ((fun y80 x13=>f128_l4_p k K n a0 y80 x13)) (fun y80=>K (.exit 8) (f128_l4_o8 y80)) a0 y80 x13:=by kernel_rfl

theorem f128_l4_L_eq(K:Ex→St→Q63)(a0:(List Int)):∀(n:Nat) (y80:(List Int)) (x13:Int),(f128_l4_p FUEL K n a0 y80 x13:Q63)=spec_l01Mix_l4_L (fun y80=>K (.exit 8) (f128_l4_o8 y80)) a0 n y80 x13:=by
 intro n
 induction n with
 |zero=>intros; rfl
 |succ n ih=>
  intro y80 x13
  exact(f128_l4_round FUEL K n a0 y80 x13).trans (congrArg (fun f=>spec_l01Mix_l4_b f (fun y80=>K (.exit 8) (f128_l4_o8 y80)) a0 y80 x13) (funext fun y80=>funext fun x13=>ih y80 x13))

def f128_l3_p(k:Nat)(K:Ex→St→Q63)(n:Nat)(a0:(List Int))(y50:(List Int))(x9:Int)(x10:Int)(y80:(List Int)):Q63:=loopK (f128_cx k) 0 (execK (f128_cx k) (callK (f128_cx k) 8) 0 128 (sub f128_c [1,1,1,1,0,1,0,0,1,0,0,1,0,0])) f128_l3_cut K n (f128_l3_s a0 y50 x9 x10 y80)

theorem f128_l3_exit6(k:Nat)(K:Ex→St→Q63)(n:Nat)(a0:(List Int))(y50:(List Int))(x9:Int)(y80:(List Int)):((blkK 6 (blkK 5 (seqK (execK (f128_cx k) (callK (f128_cx k) 8) 0 128 (sub f128_c [1,1,1,1,0,1,0,0,1,1])) (iterK (f128_cx k) 0 f128_l2_cut (loopK (f128_cx k) 0 (execK (f128_cx k) (callK (f128_cx k) 8) 0 128 (sub f128_c [1,1,1,1,0,1,0,0])) f128_l2_cut K n) K)))) (.exit 6) (f128_l3_o6 a0 y50 x9 y80):Q63)=
 ((loopK (f128_cx k) 0 (execK (f128_cx k) (callK (f128_cx k) 8) 0 128 (sub f128_c [1,1,1,1,0,1,0,0])) f128_l2_cut K n (f128_l2_s a0 y50 (IntKind.wrap .i64 (x9+(1:Int))) y80)):Q63):=by kernel_rfl

theorem f128_l3_round(k:Nat)(K:Ex→St→Q63)(n:Nat)(a0:(List Int))(y50:(List Int))(x9:Int)(x10:Int)(y80:(List Int)):(f128_l3_p k K (n+1) a0 y50 x9 x10 y80:Q63)=spec_l01Mix_l3_b ((fun x10 y80=>f128_l3_p k K n a0 y50 x9 x10 y80)) (fun y80=>K (.exit 6) (f128_l3_o6 a0 y50 x9 y80)) a0 y50 x9 x10 y80:=by kernel_rfl

theorem f128_l3_L_eq(K:Ex→St→Q63)(a0:(List Int))(y50:(List Int))(x9:Int):∀(n:Nat) (x10:Int) (y80:(List Int)),(f128_l3_p FUEL K n a0 y50 x9 x10 y80:Q63)=spec_l01Mix_l3_L (fun y80=>K (.exit 6) (f128_l3_o6 a0 y50 x9 y80)) a0 y50 x9 n x10 y80:=by
 intro n
 induction n with
 |zero=>intros; rfl
 |succ n ih=>
  intro x10 y80
  exact(f128_l3_round FUEL K n a0 y50 x9 x10 y80).trans (congrArg (fun f=>spec_l01Mix_l3_b f (fun y80=>K (.exit 6) (f128_l3_o6 a0 y50 x9 y80)) a0 y50 x9 x10 y80) (funext fun x10=>funext fun y80=>ih x10 y80))

def f128_l2_p(k:Nat)(K:Ex→St→Q63)(n:Nat)(a0:(List Int))(y50:(List Int))(x9:Int)(y80:(List Int)):Q63:=loopK (f128_cx k) 0 (execK (f128_cx k) (callK (f128_cx k) 8) 0 128 (sub f128_c [1,1,1,1,0,1,0,0])) f128_l2_cut K n (f128_l2_s a0 y50 x9 y80)

theorem f128_l2_round(k:Nat)(K:Ex→St→Q63)(n:Nat)(a0:(List Int))(y50:(List Int))(x9:Int)(y80:(List Int)):(f128_l2_p k K (n+1) a0 y50 x9 y80:Q63)=
 ((cond (decide (x9<(12:Int)))
 (loopK (f128_cx k) 0 (execK (f128_cx k) (callK (f128_cx k) 8) 0 128 (sub f128_c [1,1,1,1,0,1,0,0,1,0,0,1,0,0])) f128_l3_cut (blkK 6 (blkK 5 (seqK (execK (f128_cx k) (callK (f128_cx k) 8) 0 128 (sub f128_c [1,1,1,1,0,1,0,0,1,1])) (iterK (f128_cx k) 0 f128_l2_cut (loopK (f128_cx k) 0 (execK (f128_cx k) (callK (f128_cx k) 8) 0 128 (sub f128_c [1,1,1,1,0,1,0,0])) f128_l2_cut K n) K)))) k (f128_l3_s a0 y50 x9 (0:Int) y80))
 (K (.exit 4) (f128_l2_o4 a0 y80))):Q63):=by kernel_rfl

theorem f128_l2_exit4(k:Nat)(a0:(List Int))(y80:(List Int)):((blkK 4 (seqK (execK (f128_cx k) (callK (f128_cx k) 8) 0 128 (sub f128_c [1,1,1,1,1])) (finK (f128_cx k) f128_i spec_l01Mix_sh))) (.exit 4) (f128_l2_o4 a0 y80):Q63)=
 ((loopK (f128_cx k) 0 (execK (f128_cx k) (callK (f128_cx k) 8) 0 128 (sub f128_c [1,1,1,1,1,0,1,0,0])) f128_l4_cut (blkK 8 (seqK (execK (f128_cx k) (callK (f128_cx k) 8) 0 128 (sub f128_c [1,1,1,1,1,1])) (finK (f128_cx k) f128_i spec_l01Mix_sh))) k (f128_l4_s a0 y80 (0:Int))):Q63):=by kernel_rfl

theorem f128_l2_L_eq(K:Ex→St→Q63)(a0:(List Int)):∀(n:Nat) (y50:(List Int)) (x9:Int) (y80:(List Int)),(f128_l2_p FUEL K n a0 y50 x9 y80:Q63)=spec_l01Mix_l2_L (fun y80=>K (.exit 4) (f128_l2_o4 a0 y80)) a0 n y50 x9 y80:=by
 intro n
 induction n with
 |zero=>intros; rfl
 |succ n ih=>
  intro y50 x9 y80
  exact(f128_l2_round FUEL K n a0 y50 x9 y80).trans (condC ((f128_l3_L_eq _ a0 y50 x9 FUEL (0:Int) y80).trans (congrArg (fun e0=>spec_l01Mix_l3_L e0 a0 y50 x9 FUEL (0:Int) y80) (funext fun y80=>(f128_l3_exit6 FUEL K n a0 y50 x9 y80).trans (ih y50 (IntKind.wrap .i64 (x9+(1:Int))) y80)))) (rfl))

def f128_l1_p(k:Nat)(K:Ex→St→Q63)(n:Nat)(a0:(List Int))(a1:(List Int))(x6:Int)(x7:Int)(y50:(List Int)):Q63:=loopK (f128_cx k) 0 (execK (f128_cx k) (callK (f128_cx k) 8) 0 128 (sub f128_c [1,1,0,1,0,0,1,0,0,1,0,0])) f128_l1_cut K n (f128_l1_s a0 a1 x6 x7 y50)

theorem f128_l1_exit2(k:Nat)(K:Ex→St→Q63)(n:Nat)(a0:(List Int))(a1:(List Int))(x6:Int)(y50:(List Int)):((blkK 2 (blkK 1 (seqK (execK (f128_cx k) (callK (f128_cx k) 8) 0 128 (sub f128_c [1,1,0,1,0,0,1,1])) (iterK (f128_cx k) 0 f128_l0_cut (loopK (f128_cx k) 0 (execK (f128_cx k) (callK (f128_cx k) 8) 0 128 (sub f128_c [1,1,0,1,0,0])) f128_l0_cut K n) K)))) (.exit 2) (f128_l1_o2 a0 a1 x6 y50):Q63)=
 ((loopK (f128_cx k) 0 (execK (f128_cx k) (callK (f128_cx k) 8) 0 128 (sub f128_c [1,1,0,1,0,0])) f128_l0_cut K n (f128_l0_s a0 a1 (IntKind.wrap .i64 (x6+(1:Int))) y50)):Q63):=by kernel_rfl

theorem f128_l1_round(k:Nat)(K:Ex→St→Q63)(n:Nat)(a0:(List Int))(a1:(List Int))(x6:Int)(x7:Int)(y50:(List Int)):(f128_l1_p k K (n+1) a0 a1 x6 x7 y50:Q63)=spec_l01Mix_l1_b ((fun x7 y50=>f128_l1_p k K n a0 a1 x6 x7 y50)) (fun y50=>K (.exit 2) (f128_l1_o2 a0 a1 x6 y50)) a0 a1 x6 x7 y50:=by kernel_rfl

theorem f128_l1_L_eq(K:Ex→St→Q63)(a0:(List Int))(a1:(List Int))(x6:Int):∀(n:Nat) (x7:Int) (y50:(List Int)),(f128_l1_p FUEL K n a0 a1 x6 x7 y50:Q63)=spec_l01Mix_l1_L (fun y50=>K (.exit 2) (f128_l1_o2 a0 a1 x6 y50)) a0 a1 x6 n x7 y50:=by
 intro n
 induction n with
 |zero=>intros; rfl
 |succ n ih=>
  intro x7 y50
  exact(f128_l1_round FUEL K n a0 a1 x6 x7 y50).trans (congrArg (fun f=>spec_l01Mix_l1_b f (fun y50=>K (.exit 2) (f128_l1_o2 a0 a1 x6 y50)) a0 a1 x6 x7 y50) (funext fun x7=>funext fun y50=>ih x7 y50))

def f128_l0_p(k:Nat)(K:Ex→St→Q63)(n:Nat)(a0:(List Int))(a1:(List Int))(x6:Int)(y50:(List Int)):Q63:=loopK (f128_cx k) 0 (execK (f128_cx k) (callK (f128_cx k) 8) 0 128 (sub f128_c [1,1,0,1,0,0])) f128_l0_cut K n (f128_l0_s a0 a1 x6 y50)

theorem f128_l0_round(k:Nat)(K:Ex→St→Q63)(n:Nat)(a0:(List Int))(a1:(List Int))(x6:Int)(y50:(List Int)):(f128_l0_p k K (n+1) a0 a1 x6 y50:Q63)=
 ((cond (decide (x6<(8:Int)))
 (loopK (f128_cx k) 0 (execK (f128_cx k) (callK (f128_cx k) 8) 0 128 (sub f128_c [1,1,0,1,0,0,1,0,0,1,0,0])) f128_l1_cut (blkK 2 (blkK 1 (seqK (execK (f128_cx k) (callK (f128_cx k) 8) 0 128 (sub f128_c [1,1,0,1,0,0,1,1])) (iterK (f128_cx k) 0 f128_l0_cut (loopK (f128_cx k) 0 (execK (f128_cx k) (callK (f128_cx k) 8) 0 128 (sub f128_c [1,1,0,1,0,0])) f128_l0_cut K n) K)))) k (f128_l1_s a0 a1 x6 (3:Int) y50))
 (K (.exit 0) (f128_l0_o0 a0 y50))):Q63):=by kernel_rfl

theorem f128_l0_exit0(k:Nat)(a0:(List Int))(y50:(List Int)):((blkK 0 (seqK (execK (f128_cx k) (callK (f128_cx k) 8) 0 128 (sub f128_c [1,1,1])) (finK (f128_cx k) f128_i spec_l01Mix_sh))) (.exit 0) (f128_l0_o0 a0 y50):Q63)=
 ((loopK (f128_cx k) 0 (execK (f128_cx k) (callK (f128_cx k) 8) 0 128 (sub f128_c [1,1,1,1,0,1,0,0])) f128_l2_cut (blkK 4 (seqK (execK (f128_cx k) (callK (f128_cx k) 8) 0 128 (sub f128_c [1,1,1,1,1])) (finK (f128_cx k) f128_i spec_l01Mix_sh))) k (f128_l2_s a0 y50 (0:Int) a0)):Q63):=by kernel_rfl

theorem f128_l0_L_eq(K:Ex→St→Q63)(a0:(List Int))(a1:(List Int)):∀(n:Nat) (x6:Int) (y50:(List Int)),(f128_l0_p FUEL K n a0 a1 x6 y50:Q63)=spec_l01Mix_l0_L (fun y50=>K (.exit 0) (f128_l0_o0 a0 y50)) a0 a1 n x6 y50:=by
 intro n
 induction n with
 |zero=>intros; rfl
 |succ n ih=>
  intro x6 y50
  exact(f128_l0_round FUEL K n a0 a1 x6 y50).trans (condC ((f128_l1_L_eq _ a0 a1 x6 FUEL (3:Int) y50).trans (congrArg (fun e0=>spec_l01Mix_l1_L e0 a0 a1 x6 FUEL (3:Int) y50) (funext fun y50=>(f128_l1_exit2 FUEL K n a0 a1 x6 y50).trans (ih (IntKind.wrap .i64 (x6+(1:Int))) y50)))) (rfl))

theorem f128_start(k:Nat)(a0:(List Int))(a1:(List Int)):fnK (f128_cx k) 8 128 f128_i spec_l01Mix_sh [.pv (.arr 8 (.int .u32)) a0,.pv (.arr 32 (.int .u8)) a1]=
 ((loopK (f128_cx k) 0 (execK (f128_cx k) (callK (f128_cx k) 8) 0 128 (sub f128_c [1,1,0,1,0,0])) f128_l0_cut (blkK 0 (seqK (execK (f128_cx k) (callK (f128_cx k) 8) 0 128 (sub f128_c [1,1,1])) (finK (f128_cx k) f128_i spec_l01Mix_sh))) k (f128_l0_s a0 a1 (0:Int) (List.replicate 8 (0:Int)))):Q63):=by kernel_rfl

theorem f128_run(a0:(List Int))(a1:(List Int)):fnK (f128_cx FUEL) 8 128 f128_i spec_l01Mix_sh [.pv (.arr 8 (.int .u32)) a0,.pv (.arr 32 (.int .u8)) a1]=spec_l01Mix_r a0 a1:=
 (f128_start FUEL a0 a1).trans ((f128_l0_L_eq _ a0 a1 FUEL (0:Int) (List.replicate 8 (0:Int))).trans (congrArg (fun e0=>spec_l01Mix_l0_L e0 a0 a1 FUEL (0:Int) (List.replicate 8 (0:Int))) (funext fun y50=>(f128_l0_exit0 FUEL a0 y50).trans ((f128_l2_L_eq _ a0 FUEL y50 (0:Int) a0).trans (congrArg (fun e0=>spec_l01Mix_l2_L e0 a0 FUEL y50 (0:Int) a0) (funext fun y80=>(f128_l2_exit4 FUEL a0 y80).trans ((f128_l4_L_eq _ a0 FUEL y80 (0:Int)).trans (congrArg (fun e0=>spec_l01Mix_l4_L e0 a0 FUEL y80 (0:Int)) (funext fun y80=>(f128_l4_exit8 FUEL y80).trans (rfl))))))))))

def f128_con:Con:={ps:=(.pair (.arr 8 (.int .u32)) K10),sh:=spec_l01Mix_sh,raw:=fun x=>spec_l01Mix_r x.1 x.2.1}
theorem f128_conOk:ConOk Tryz.prog 128 f128_con:=con_of_fn (f128_tabs FUEL) (depth:=8) f128_ok fun x y h=>(f128_run x.1 x.2.1).trans h

def f107_l0_cut:Cut:={keep:=[3,6,7,8],stk:=[],ids:=[30,60,130],own:=[],outs:=[(1,[3,6],[30,60])]}
def f107_l1_cut:Cut:={keep:=[3,6,9,10],stk:=[],ids:=[30,60,90],own:=[],outs:=[(3,[6,9],[60,90])]}
def f107_cx(k:Nat):Cx:=mkC [] [(127,f127_con),(128,f128_con),(129,f129_con)] [] [] [(107,[(0,f107_l0_cut),(2,f107_l1_cut)])] k [] false
theorem f107_tabs(k:Nat):TabsOk Tryz.prog (f107_cx k):=mkC_ok ⟨f127_conOk,f128_conOk,f129_conOk,trivial⟩ trivial trivial trivial
abbrev spec_l01End_sh:List Sh:=[.pl (.arr 32 (.int .u8))]
abbrev Q60:Type:=Option (shDen spec_l01End_sh)
def f107_l0_s(z130:(List Int))(x8:Int)(y30:(List Int)):St:={env:=(dd 3 (.ptr 30 (.arr 8 (.int .u32)) []:: .dead:: .dead:: .ptr 60 (.arr 32 (.int .u8)) []:: .sl 130 (.int .u8):: .pv (.int .i64) x8::(dd 34 []))),stk:=[],heap:=[(30,.var (.arr 8 (.int .u32)) (.pv (.arr 8 (.int .u32)) y30)),(60,.var (.arr 32 (.int .u8)) (.pv (.arr 32 (.int .u8)) (List.replicate 32 (0:Int)))),(130,.arr 5 (.int .u8) z130)]}
def f107_l0_o0(y30:(List Int)):St:={env:=(dd 3 (.ptr 30 (.arr 8 (.int .u32)) []:: .dead:: .dead:: .ptr 60 (.arr 32 (.int .u8)) []::(dd 36 []))),stk:=[],heap:=[(30,.var (.arr 8 (.int .u32)) (.pv (.arr 8 (.int .u32)) y30)),(60,.var (.arr 32 (.int .u8)) (.pv (.arr 32 (.int .u8)) (List.replicate 32 (0:Int))))]}
def f107_l1_s(y30:(List Int))(x10:Int)(y90:(List Int)):St:={env:=(dd 3 (.ptr 30 (.arr 8 (.int .u32)) []:: .dead:: .dead:: .ptr 60 (.arr 32 (.int .u8)) []:: .dead:: .dead:: .ptr 90 (.arr 32 (.int .u8)) []:: .pv (.int .i64) x10::(dd 32 []))),stk:=[],heap:=[(30,.var (.arr 8 (.int .u32)) (.pv (.arr 8 (.int .u32)) y30)),(60,.var (.arr 32 (.int .u8)) (.pv (.arr 32 (.int .u8)) (List.replicate 32 (0:Int)))),(90,.var (.arr 32 (.int .u8)) (.pv (.arr 32 (.int .u8)) y90))]}
def f107_l1_o2(y90:(List Int)):St:={env:=(dd 6 (.ptr 60 (.arr 32 (.int .u8)) []:: .dead:: .dead:: .ptr 90 (.arr 32 (.int .u8)) []::(dd 33 []))),stk:=[],heap:=[(60,.var (.arr 32 (.int .u8)) (.pv (.arr 32 (.int .u8)) (List.replicate 32 (0:Int)))),(90,.var (.arr 32 (.int .u8)) (.pv (.arr 32 (.int .u8)) y90))]}
def spec_l01End_l1_b(rec:(List Int)→Int→(List Int)→Q60)(ke2:(List Int)→Q60)(y30:(List Int))(x10:Int)(y90:(List Int)):Q60:=
 (cond (decide (x10<(32:Int)))
 (cond ((decide ((0:Int)≤(IntKind.wrap .i64 (Int.tdiv x10 (4:Int)))))&&(decide ((IntKind.wrap .i64 (Int.tdiv x10 (4:Int)))<(8:Int))))
 (cond (decide ((IntKind.wrap .u64 (IntKind.wrap .i64 ((8:Int)*(Int.tmod x10 (4:Int)))))<(0:Int)))
 none
 (cond ((decide ((0:Int)≤x10))&&(decide (x10<(32:Int))))
 (rec y30 (IntKind.wrap .i64 (x10+(1:Int))) (y90.set (x10.toNat) (IntKind.wrap .u8 (shrI .u32 (y30.getD ((IntKind.wrap .i64 (Int.tdiv x10 (4:Int))).toNat) (0:Int)) (IntKind.wrap .u64 (IntKind.wrap .i64 ((8:Int)*(Int.tmod x10 (4:Int)))))))))
 none))
 none)
 (ke2 y90))
def spec_l01End_l1_L(ke2:(List Int)→Q60):Nat→(List Int)→Int→(List Int)→Q60
 |0=>fun _ _ _=>none
 |n+1=>spec_l01End_l1_b (spec_l01End_l1_L ke2 n) ke2
def spec_l01End_l0_b(rec:(List Int)→Int→(List Int)→Q60)(ke0:(List Int)→Q60)(z130:(List Int))(x8:Int)(y30:(List Int)):Q60:=
 (cond (decide (x8<(z130.length:Int)))
 (bindO (spec_l01Block_r z130 x8) fun(b4:(List Int))=>(bindO (spec_l01Mix_r y30 b4) fun(b5:(List Int))=>(rec z130 (IntKind.wrap .i64 (x8+(32:Int))) b5)))
 (ke0 y30))
def spec_l01End_l0_L(ke0:(List Int)→Q60):Nat→(List Int)→Int→(List Int)→Q60
 |0=>fun _ _ _=>none
 |n+1=>spec_l01End_l0_b (spec_l01End_l0_L ke0 n) ke0
def spec_l01End_r(a0:(List Int))(a1:(List Int))(a2:Int):Q60:=
 (bindO (spec_l01Padded_r a1 a2) fun(b1:(List Int))=>(spec_l01End_l0_L (fun y30=>(spec_l01End_l1_L (fun y90=>(some y90)) FUEL y30 (0:Int) (List.replicate 32 (0:Int)))) FUEL b1 (0:Int) a0))
def f107_l1_p(k:Nat)(K:Ex→St→Q60)(n:Nat)(y30:(List Int))(x10:Int)(y90:(List Int)):Q60:=loopK (f107_cx k) 0 (execK (f107_cx k) (callK (f107_cx k) 8) 0 107 (sub f107_c [1,1,1,1,0,1,0,0])) f107_l1_cut K n (f107_l1_s y30 x10 y90)

theorem f107_l1_exit2(k:Nat)(y90:(List Int)):((blkK 2 (seqK (execK (f107_cx k) (callK (f107_cx k) 8) 0 107 (sub f107_c [1,1,1,1,1])) (finK (f107_cx k) f107_i spec_l01End_sh))) (.exit 2) (f107_l1_o2 y90):Q60)=
 ((some y90):Q60):=by kernel_rfl

theorem f107_l1_round(k:Nat)(K:Ex→St→Q60)(n:Nat)(y30:(List Int))(x10:Int)(y90:(List Int)):(f107_l1_p k K (n+1) y30 x10 y90:Q60)=spec_l01End_l1_b ((fun y30 x10 y90=>f107_l1_p k K n y30 x10 y90)) (fun y90=>K (.exit 2) (f107_l1_o2 y90)) y30 x10 y90:=by kernel_rfl

theorem f107_l1_L_eq(K:Ex→St→Q60):∀(n:Nat) (y30:(List Int)) (x10:Int) (y90:(List Int)),(f107_l1_p FUEL K n y30 x10 y90:Q60)=spec_l01End_l1_L (fun y90=>K (.exit 2) (f107_l1_o2 y90)) n y30 x10 y90:=by
 intro n
 induction n with
 |zero=>intros; rfl
 |succ n ih=>
  intro y30 x10 y90
  exact(f107_l1_round FUEL K n y30 x10 y90).trans (congrArg (fun f=>spec_l01End_l1_b f (fun y90=>K (.exit 2) (f107_l1_o2 y90)) y30 x10 y90) (funext fun y30=>funext fun x10=>funext fun y90=>ih y30 x10 y90))

def f107_l0_p(k:Nat)(K:Ex→St→Q60)(n:Nat)(z130:(List Int))(x8:Int)(y30:(List Int)):Q60:=loopK (f107_cx k) 0 (execK (f107_cx k) (callK (f107_cx k) 8) 0 107 (sub f107_c [1,1,0,1,0,0])) f107_l0_cut K n (f107_l0_s z130 x8 y30)

theorem f107_l0_exit0(k:Nat)(y30:(List Int)):((blkK 0 (seqK (execK (f107_cx k) (callK (f107_cx k) 8) 0 107 (sub f107_c [1,1,1])) (finK (f107_cx k) f107_i spec_l01End_sh))) (.exit 0) (f107_l0_o0 y30):Q60)=
 ((loopK (f107_cx k) 0 (execK (f107_cx k) (callK (f107_cx k) 8) 0 107 (sub f107_c [1,1,1,1,0,1,0,0])) f107_l1_cut (blkK 2 (seqK (execK (f107_cx k) (callK (f107_cx k) 8) 0 107 (sub f107_c [1,1,1,1,1])) (finK (f107_cx k) f107_i spec_l01End_sh))) k (f107_l1_s y30 (0:Int) (List.replicate 32 (0:Int)))):Q60):=by kernel_rfl

theorem f107_l0_round(k:Nat)(K:Ex→St→Q60)(n:Nat)(z130:(List Int))(x8:Int)(y30:(List Int)):(f107_l0_p k K (n+1) z130 x8 y30:Q60)=spec_l01End_l0_b ((fun z130 x8 y30=>f107_l0_p k K n z130 x8 y30)) (fun y30=>K (.exit 0) (f107_l0_o0 y30)) z130 x8 y30:=by kernel_rfl

theorem f107_l0_L_eq(K:Ex→St→Q60):∀(n:Nat) (z130:(List Int)) (x8:Int) (y30:(List Int)),(f107_l0_p FUEL K n z130 x8 y30:Q60)=spec_l01End_l0_L (fun y30=>K (.exit 0) (f107_l0_o0 y30)) n z130 x8 y30:=by
 intro n
 induction n with
 |zero=>intros; rfl
 |succ n ih=>
  intro z130 x8 y30
  exact(f107_l0_round FUEL K n z130 x8 y30).trans (congrArg (fun f=>spec_l01End_l0_b f (fun y30=>K (.exit 0) (f107_l0_o0 y30)) z130 x8 y30) (funext fun z130=>funext fun x8=>funext fun y30=>ih z130 x8 y30))

theorem f107_start(k:Nat)(a0:(List Int))(a1:(List Int))(a2:Int):fnK (f107_cx k) 8 107 f107_i spec_l01End_sh [.pv (.arr 8 (.int .u32)) a0,.pv K16 a1,.pv (.int .i64) a2]=
 ((bindO (spec_l01Padded_r a1 a2) fun(b1:(List Int))=>(loopK (f107_cx k) 0 (execK (f107_cx k) (callK (f107_cx k) 8) 0 107 (sub f107_c [1,1,0,1,0,0])) f107_l0_cut (blkK 0 (seqK (execK (f107_cx k) (callK (f107_cx k) 8) 0 107 (sub f107_c [1,1,1])) (finK (f107_cx k) f107_i spec_l01End_sh))) k (f107_l0_s b1 (0:Int) a0))):Q60):=by kernel_rfl

theorem f107_run(a0:(List Int))(a1:(List Int))(a2:Int):fnK (f107_cx FUEL) 8 107 f107_i spec_l01End_sh [.pv (.arr 8 (.int .u32)) a0,.pv K16 a1,.pv (.int .i64) a2]=spec_l01End_r a0 a1 a2:=
 (f107_start FUEL a0 a1 a2).trans (bindC (fun b1=>(f107_l0_L_eq _ FUEL b1 (0:Int) a0).trans (congrArg (fun e0=>spec_l01End_l0_L e0 FUEL b1 (0:Int) a0) (funext fun y30=>(f107_l0_exit0 FUEL y30).trans ((f107_l1_L_eq _ FUEL y30 (0:Int) (List.replicate 32 (0:Int))).trans (congrArg (fun e0=>spec_l01End_l1_L e0 FUEL y30 (0:Int) (List.replicate 32 (0:Int))) (funext fun y90=>(f107_l1_exit2 FUEL y90).trans (rfl))))))))

def f107_con:Con:={ps:=(.pair (.arr 8 (.int .u32)) K7),sh:=spec_l01End_sh,raw:=fun x=>spec_l01End_r x.1 x.2.1 x.2.2.1}
theorem f107_conOk:ConOk Tryz.prog 107 f107_con:=con_of_fn (f107_tabs FUEL) (depth:=8) f107_ok fun x y h=>(f107_run x.1 x.2.1 x.2.2.1).trans h

def f92_cx(k:Nat):Cx:=mkC [] [(107,f107_con),(108,f108_con)] [] [] [] k [] false
theorem f92_tabs(k:Nat):TabsOk Tryz.prog (f92_cx k):=mkC_ok ⟨f107_conOk,f108_conOk,trivial⟩ trivial trivial trivial
abbrev spec_l01Hash_sh:List Sh:=[.pl (.arr 32 (.int .u8))]
abbrev Q62:Type:=Option (shDen spec_l01Hash_sh)
def spec_l01Hash_r(a0:Int)(a1:(List Int)):Q62:=
 (bindO (spec_l01Start_r a0) fun(b1:(List Int))=>(bindO (spec_l01End_r b1 a1 (a1.length:Int)) fun(b2:(List Int))=>(some b2)))
theorem f92_run(a0:Int)(a1:(List Int)):fnK (f92_cx FUEL) 8 92 f92_i spec_l01Hash_sh [.pv (.int .u8) a0,.pv K16 a1]=spec_l01Hash_r a0 a1:=by kernel_rfl

def f92_con:Con:={ps:=K8,sh:=spec_l01Hash_sh,raw:=fun x=>spec_l01Hash_r x.1 x.2.1}
theorem f92_conOk:ConOk Tryz.prog 92 f92_con:=con_of_fn (f92_tabs FUEL) (depth:=8) f92_ok fun x y h=>(f92_run x.1 x.2.1).trans h

def f68_cx(k:Nat):Cx:=mkC [] [(92,f92_con)] [] [] [] k [] false
theorem f68_tabs(k:Nat):TabsOk Tryz.prog (f68_cx k):=mkC_ok ⟨f92_conOk,trivial⟩ trivial trivial trivial
abbrev spec_l05Key_sh:List Sh:=[.pl (.arr 32 (.int .u8))]
abbrev Q69:Type:=Option (shDen spec_l05Key_sh)
def spec_l05Key_r(a0:T4):Q69:=
 (bindO (spec_l01Hash_r a0.1 a0.2.1) fun(b1:(List Int))=>(some b1))
theorem f68_run(a0:T4):fnK (f68_cx FUEL) 8 68 f68_i spec_l05Key_sh [.pv (.ref K8) a0]=spec_l05Key_r a0:=by kernel_rfl

def f68_con:Con:={ps:=(.pair (.ref K8) .unit),sh:=spec_l05Key_sh,raw:=fun x=>spec_l05Key_r x.1}
theorem f68_conOk:ConOk Tryz.prog 68 f68_con:=con_of_fn (f68_tabs FUEL) (depth:=8) f68_ok fun x y h=>(f68_run x.1).trans h

def f69_l0_cut:Cut:={keep:=[2,3,5],stk:=[],ids:=[20,30],own:=[],outs:=[(0,[4],[]),(1,[],[])]}
def f69_cx(k:Nat):Cx:=mkC [] [] [] [] [(69,[(0,f69_l0_cut)])] k [] false
theorem f69_tabs(k:Nat):TabsOk Tryz.prog (f69_cx k):=mkC_ok trivial trivial trivial trivial
abbrev spec_l01Compare_sh:List Sh:=[.pl (.int .i64)]
abbrev Q59:Type:=Option (shDen spec_l01Compare_sh)
def f69_l0_s(a0:(List Int))(a1:(List Int))(x5:Int):St:={env:=(.dead:: .dead:: .ptr 20 (.arr 32 (.int .u8)) []:: .ptr 30 (.arr 32 (.int .u8)) []:: .dead:: .pv (.int .i64) x5::(dd 18 [])),stk:=[],heap:=[(20,.var (.arr 32 (.int .u8)) (.pv (.arr 32 (.int .u8)) a0)),(30,.var (.arr 32 (.int .u8)) (.pv (.arr 32 (.int .u8)) a1))]}
def f69_l0_o(x4:Int):St:={env:=(dd 4 (.pv (.int .i64) x4::(dd 19 []))),stk:=[],heap:=[]}
def f69_l0_o0:St:={env:=(dd 24 []),stk:=[],heap:=[]}
def spec_l01Compare_l0_b(rec:Int→Q59)(kr:Int→Q59)(ke0:Q59)(a0:(List Int))(a1:(List Int))(x5:Int):Q59:=
 (cond (decide (x5<(32:Int)))
 (cond ((decide ((0:Int)≤x5))&&(decide (x5<(32:Int))))
 (cond ((decide ((0:Int)≤x5))&&(decide (x5<(32:Int))))
 (cond (!(decide ((a0.getD (x5.toNat) (0:Int))=(a1.getD (x5.toNat) (0:Int)))))
 (cond ((decide ((0:Int)≤x5))&&(decide (x5<(32:Int))))
 (cond ((decide ((0:Int)≤x5))&&(decide (x5<(32:Int))))
 (cond (decide ((a0.getD (x5.toNat) (0:Int))<(a1.getD (x5.toNat) (0:Int))))
 (kr (-1:Int))
 (kr (1:Int)))
 none)
 none)
 (rec (IntKind.wrap .i64 (x5+(1:Int)))))
 none)
 none)
 (ke0))
def spec_l01Compare_l0_L(kr:Int→Q59)(ke0:Q59)(a0:(List Int))(a1:(List Int)):Nat→Int→Q59
 |0=>fun _=>none
 |n+1=>spec_l01Compare_l0_b (spec_l01Compare_l0_L kr ke0 a0 a1 n) kr ke0 a0 a1
def spec_l01Compare_r(a0:(List Int))(a1:(List Int)):Q59:=
 (spec_l01Compare_l0_L (fun x4=>(some x4)) (some (0:Int)) a0 a1 FUEL (0:Int))
def f69_l0_p(k:Nat)(K:Ex→St→Q59)(n:Nat)(a0:(List Int))(a1:(List Int))(x5:Int):Q59:=loopK (f69_cx k) 0 (execK (f69_cx k) (callK (f69_cx k) 8) 0 69 (sub f69_c [1,0,1,0,0])) f69_l0_cut K n (f69_l0_s a0 a1 x5)

theorem f69_l0_ret(k:Nat)(x4:Int):((blkK 0 (seqK (execK (f69_cx k) (callK (f69_cx k) 8) 0 69 (sub f69_c [1,1])) (finK (f69_cx k) f69_i spec_l01Compare_sh))) .ret (f69_l0_o x4):Q59)=
 ((some x4):Q59):=by kernel_rfl

theorem f69_l0_exit0(k:Nat):((blkK 0 (seqK (execK (f69_cx k) (callK (f69_cx k) 8) 0 69 (sub f69_c [1,1])) (finK (f69_cx k) f69_i spec_l01Compare_sh))) (.exit 0) (f69_l0_o0):Q59)=
 ((some (0:Int)):Q59):=by kernel_rfl

theorem f69_l0_round(k:Nat)(K:Ex→St→Q59)(n:Nat)(a0:(List Int))(a1:(List Int))(x5:Int):(f69_l0_p k K (n+1) a0 a1 x5:Q59)=spec_l01Compare_l0_b ((fun x5=>f69_l0_p k K n a0 a1 x5)) (fun x4=>K .ret (f69_l0_o x4)) (K (.exit 0) (f69_l0_o0)) a0 a1 x5:=by kernel_rfl

theorem f69_l0_L_eq(K:Ex→St→Q59)(a0:(List Int))(a1:(List Int)):∀(n:Nat) (x5:Int),(f69_l0_p FUEL K n a0 a1 x5:Q59)=spec_l01Compare_l0_L (fun x4=>K .ret (f69_l0_o x4)) (K (.exit 0) (f69_l0_o0)) a0 a1 n x5:=by
 intro n
 induction n with
 |zero=>intros; rfl
 |succ n ih=>
  intro x5
  exact(f69_l0_round FUEL K n a0 a1 x5).trans (congrArg (fun f=>spec_l01Compare_l0_b f (fun x4=>K .ret (f69_l0_o x4)) (K (.exit 0) (f69_l0_o0)) a0 a1 x5) (funext fun x5=>ih x5))

theorem f69_start(k:Nat)(a0:(List Int))(a1:(List Int)):fnK (f69_cx k) 8 69 f69_i spec_l01Compare_sh [.pv (.arr 32 (.int .u8)) a0,.pv (.arr 32 (.int .u8)) a1]=
 ((loopK (f69_cx k) 0 (execK (f69_cx k) (callK (f69_cx k) 8) 0 69 (sub f69_c [1,0,1,0,0])) f69_l0_cut (blkK 0 (seqK (execK (f69_cx k) (callK (f69_cx k) 8) 0 69 (sub f69_c [1,1])) (finK (f69_cx k) f69_i spec_l01Compare_sh))) k (f69_l0_s a0 a1 (0:Int))):Q59):=by kernel_rfl

theorem f69_run(a0:(List Int))(a1:(List Int)):fnK (f69_cx FUEL) 8 69 f69_i spec_l01Compare_sh [.pv (.arr 32 (.int .u8)) a0,.pv (.arr 32 (.int .u8)) a1]=spec_l01Compare_r a0 a1:=
 (f69_start FUEL a0 a1).trans ((f69_l0_L_eq _ a0 a1 FUEL (0:Int)).trans (cong2 (fun e0 e1=>spec_l01Compare_l0_L e0 e1 a0 a1 FUEL (0:Int)) (funext fun x4=>(f69_l0_ret FUEL x4).trans (rfl)) ((f69_l0_exit0 FUEL).trans (rfl))))

def f69_con:Con:={ps:=(.pair (.arr 32 (.int .u8)) K10),sh:=spec_l01Compare_sh,raw:=fun x=>spec_l01Compare_r x.1 x.2.1}
theorem f69_conOk:ConOk Tryz.prog 69 f69_con:=con_of_fn (f69_tabs FUEL) (depth:=8) f69_ok fun x y h=>(f69_run x.1 x.2.1).trans h

def f81_l0_cut:Cut:={keep:=[0,3,5],stk:=[],ids:=[30],own:=[],outs:=[(0,[4],[]),(1,[],[])]}
def f81_cx(k:Nat):Cx:=mkC [] [] [] [] [(81,[(0,f81_l0_cut)])] k [] false
theorem f81_tabs(k:Nat):TabsOk Tryz.prog (f81_cx k):=mkC_ok trivial trivial trivial trivial
abbrev spec_l01Has_sh:List Sh:=[.pl .bool]
abbrev Q61:Type:=Option (shDen spec_l01Has_sh)
def f81_l0_s(a0:T7)(a1:(List Int))(x5:Int):St:={env:=(.pv K12 a0:: .dead:: .dead:: .ptr 30 (.arr 32 (.int .u8)) []:: .dead:: .pv (.int .i64) x5::(dd 12 [])),stk:=[],heap:=[(30,.var (.arr 32 (.int .u8)) (.pv (.arr 32 (.int .u8)) a1))]}
def f81_l0_o:St:={env:=(dd 4 (.pv .bool true::(dd 13 []))),stk:=[],heap:=[]}
def f81_l0_o0:St:={env:=(dd 18 []),stk:=[],heap:=[]}
def spec_l01Has_l0_b(rec:Int→Q61)(kr:Q61)(ke0:Q61)(a0:T7)(a1:(List Int))(x5:Int):Q61:=
 (cond (decide (x5<(a0.length:Int)))
 (cond ((decide ((0:Int)≤x5))&&(decide (x5<(a0.length:Int))))
 (cond (eqd (.arr 32 (.int .u8)) (a0.getD (x5.toNat) (List.replicate 32 (0:Int))) a1)
 (kr)
 (rec (IntKind.wrap .i64 (x5+(1:Int)))))
 none)
 (ke0))
def spec_l01Has_l0_L(kr:Q61)(ke0:Q61)(a0:T7)(a1:(List Int)):Nat→Int→Q61
 |0=>fun _=>none
 |n+1=>spec_l01Has_l0_b (spec_l01Has_l0_L kr ke0 a0 a1 n) kr ke0 a0 a1
def spec_l01Has_r(a0:T7)(a1:(List Int)):Q61:=
 (spec_l01Has_l0_L (some true) (some false) a0 a1 FUEL (0:Int))
def f81_l0_p(k:Nat)(K:Ex→St→Q61)(n:Nat)(a0:T7)(a1:(List Int))(x5:Int):Q61:=loopK (f81_cx k) 0 (execK (f81_cx k) (callK (f81_cx k) 8) 0 81 (sub f81_c [1,0,1,0,0])) f81_l0_cut K n (f81_l0_s a0 a1 x5)

theorem f81_l0_ret(k:Nat):((blkK 0 (seqK (execK (f81_cx k) (callK (f81_cx k) 8) 0 81 (sub f81_c [1,1])) (finK (f81_cx k) f81_i spec_l01Has_sh))) .ret (f81_l0_o):Q61)=
 ((some true):Q61):=by kernel_rfl

theorem f81_l0_exit0(k:Nat):((blkK 0 (seqK (execK (f81_cx k) (callK (f81_cx k) 8) 0 81 (sub f81_c [1,1])) (finK (f81_cx k) f81_i spec_l01Has_sh))) (.exit 0) (f81_l0_o0):Q61)=
 ((some false):Q61):=by kernel_rfl

theorem f81_l0_round(k:Nat)(K:Ex→St→Q61)(n:Nat)(a0:T7)(a1:(List Int))(x5:Int):(f81_l0_p k K (n+1) a0 a1 x5:Q61)=spec_l01Has_l0_b ((fun x5=>f81_l0_p k K n a0 a1 x5)) (K .ret (f81_l0_o)) (K (.exit 0) (f81_l0_o0)) a0 a1 x5:=by kernel_rfl

theorem f81_l0_L_eq(K:Ex→St→Q61)(a0:T7)(a1:(List Int)):∀(n:Nat) (x5:Int),(f81_l0_p FUEL K n a0 a1 x5:Q61)=spec_l01Has_l0_L (K .ret (f81_l0_o)) (K (.exit 0) (f81_l0_o0)) a0 a1 n x5:=by
 intro n
 induction n with
 |zero=>intros; rfl
 |succ n ih=>
  intro x5
  exact(f81_l0_round FUEL K n a0 a1 x5).trans (congrArg (fun f=>spec_l01Has_l0_b f (K .ret (f81_l0_o)) (K (.exit 0) (f81_l0_o0)) a0 a1 x5) (funext fun x5=>ih x5))

theorem f81_start(k:Nat)(a0:T7)(a1:(List Int)):fnK (f81_cx k) 8 81 f81_i spec_l01Has_sh [.pv K12 a0,.pv (.arr 32 (.int .u8)) a1]=
 ((loopK (f81_cx k) 0 (execK (f81_cx k) (callK (f81_cx k) 8) 0 81 (sub f81_c [1,0,1,0,0])) f81_l0_cut (blkK 0 (seqK (execK (f81_cx k) (callK (f81_cx k) 8) 0 81 (sub f81_c [1,1])) (finK (f81_cx k) f81_i spec_l01Has_sh))) k (f81_l0_s a0 a1 (0:Int))):Q61):=by kernel_rfl

theorem f81_run(a0:T7)(a1:(List Int)):fnK (f81_cx FUEL) 8 81 f81_i spec_l01Has_sh [.pv K12 a0,.pv (.arr 32 (.int .u8)) a1]=spec_l01Has_r a0 a1:=
 (f81_start FUEL a0 a1).trans ((f81_l0_L_eq _ a0 a1 FUEL (0:Int)).trans (cong2 (fun e0 e1=>spec_l01Has_l0_L e0 e1 a0 a1 FUEL (0:Int)) ((f81_l0_ret FUEL).trans (rfl)) ((f81_l0_exit0 FUEL).trans (rfl))))

def f81_con:Con:={ps:=(.pair K12 K10),sh:=spec_l01Has_sh,raw:=fun x=>spec_l01Has_r x.1 x.2.1}
theorem f81_conOk:ConOk Tryz.prog 81 f81_con:=con_of_fn (f81_tabs FUEL) (depth:=8) f81_ok fun x y h=>(f81_run x.1 x.2.1).trans h

def f59_l0_cut:Cut:={keep:=[0,3,5],stk:=[],ids:=[30],own:=[],outs:=[(0,[4],[]),(1,[],[])]}
def f59_cx(k:Nat):Cx:=mkC [] [] [] [] [(59,[(0,f59_l0_cut)])] k [] false
theorem f59_tabs(k:Nat):TabsOk Tryz.prog (f59_cx k):=mkC_ok trivial trivial trivial trivial
abbrev spec_l05Store_find_sh:List Sh:=[.pl (.int .i64)]
abbrev Q71:Type:=Option (shDen spec_l05Store_find_sh)
def f59_l0_s(a0:T0)(a1:(List Int))(x5:Int):St:={env:=(.pv (.ref K0) a0:: .dead:: .dead:: .ptr 30 (.arr 32 (.int .u8)) []:: .dead:: .pv (.int .i64) x5::(dd 19 [])),stk:=[],heap:=[(30,.var (.arr 32 (.int .u8)) (.pv (.arr 32 (.int .u8)) a1))]}
def f59_l0_o(x4:Int):St:={env:=(dd 4 (.pv (.int .i64) x4::(dd 20 []))),stk:=[],heap:=[]}
def f59_l0_o0:St:={env:=(dd 25 []),stk:=[],heap:=[]}
def spec_l05Store_find_l0_b(rec:Int→Q71)(kr:Int→Q71)(ke0:Q71)(a0:T0)(a1:(List Int))(x5:Int):Q71:=
 (cond (decide (x5<(a0.2.1.length:Int)))
 (cond ((decide ((0:Int)≤x5))&&(decide (x5<(a0.2.1.length:Int))))
 (cond (eqd (.arr 32 (.int .u8)) (a0.2.1.getD (x5.toNat) (List.replicate 32 (0:Int))) a1)
 (kr x5)
 (rec (IntKind.wrap .i64 (x5+(1:Int)))))
 none)
 (ke0))
def spec_l05Store_find_l0_L(kr:Int→Q71)(ke0:Q71)(a0:T0)(a1:(List Int)):Nat→Int→Q71
 |0=>fun _=>none
 |n+1=>spec_l05Store_find_l0_b (spec_l05Store_find_l0_L kr ke0 a0 a1 n) kr ke0 a0 a1
def spec_l05Store_find_r(a0:T0)(a1:(List Int)):Q71:=
 (spec_l05Store_find_l0_L (fun x4=>(some x4)) (some (-1:Int)) a0 a1 FUEL (0:Int))
def f59_l0_p(k:Nat)(K:Ex→St→Q71)(n:Nat)(a0:T0)(a1:(List Int))(x5:Int):Q71:=loopK (f59_cx k) 0 (execK (f59_cx k) (callK (f59_cx k) 8) 0 59 (sub f59_c [1,0,1,0,0])) f59_l0_cut K n (f59_l0_s a0 a1 x5)

theorem f59_l0_ret(k:Nat)(x4:Int):((blkK 0 (seqK (execK (f59_cx k) (callK (f59_cx k) 8) 0 59 (sub f59_c [1,1])) (finK (f59_cx k) f59_i spec_l05Store_find_sh))) .ret (f59_l0_o x4):Q71)=
 ((some x4):Q71):=by kernel_rfl

theorem f59_l0_exit0(k:Nat):((blkK 0 (seqK (execK (f59_cx k) (callK (f59_cx k) 8) 0 59 (sub f59_c [1,1])) (finK (f59_cx k) f59_i spec_l05Store_find_sh))) (.exit 0) (f59_l0_o0):Q71)=
 ((some (-1:Int)):Q71):=by kernel_rfl

theorem f59_l0_round(k:Nat)(K:Ex→St→Q71)(n:Nat)(a0:T0)(a1:(List Int))(x5:Int):(f59_l0_p k K (n+1) a0 a1 x5:Q71)=spec_l05Store_find_l0_b ((fun x5=>f59_l0_p k K n a0 a1 x5)) (fun x4=>K .ret (f59_l0_o x4)) (K (.exit 0) (f59_l0_o0)) a0 a1 x5:=by kernel_rfl

theorem f59_l0_L_eq(K:Ex→St→Q71)(a0:T0)(a1:(List Int)):∀(n:Nat) (x5:Int),(f59_l0_p FUEL K n a0 a1 x5:Q71)=spec_l05Store_find_l0_L (fun x4=>K .ret (f59_l0_o x4)) (K (.exit 0) (f59_l0_o0)) a0 a1 n x5:=by
 intro n
 induction n with
 |zero=>intros; rfl
 |succ n ih=>
  intro x5
  exact(f59_l0_round FUEL K n a0 a1 x5).trans (congrArg (fun f=>spec_l05Store_find_l0_b f (fun x4=>K .ret (f59_l0_o x4)) (K (.exit 0) (f59_l0_o0)) a0 a1 x5) (funext fun x5=>ih x5))

theorem f59_start(k:Nat)(a0:T0)(a1:(List Int)):fnK (f59_cx k) 8 59 f59_i spec_l05Store_find_sh [.pv (.ref K0) a0,.pv (.arr 32 (.int .u8)) a1]=
 ((loopK (f59_cx k) 0 (execK (f59_cx k) (callK (f59_cx k) 8) 0 59 (sub f59_c [1,0,1,0,0])) f59_l0_cut (blkK 0 (seqK (execK (f59_cx k) (callK (f59_cx k) 8) 0 59 (sub f59_c [1,1])) (finK (f59_cx k) f59_i spec_l05Store_find_sh))) k (f59_l0_s a0 a1 (0:Int))):Q71):=by kernel_rfl

theorem f59_run(a0:T0)(a1:(List Int)):fnK (f59_cx FUEL) 8 59 f59_i spec_l05Store_find_sh [.pv (.ref K0) a0,.pv (.arr 32 (.int .u8)) a1]=spec_l05Store_find_r a0 a1:=
 (f59_start FUEL a0 a1).trans ((f59_l0_L_eq _ a0 a1 FUEL (0:Int)).trans (cong2 (fun e0 e1=>spec_l05Store_find_l0_L e0 e1 a0 a1 FUEL (0:Int)) (funext fun x4=>(f59_l0_ret FUEL x4).trans (rfl)) ((f59_l0_exit0 FUEL).trans (rfl))))

def f59_con:Con:={ps:=(.pair (.ref K0) K10),sh:=spec_l05Store_find_sh,raw:=fun x=>spec_l05Store_find_r x.1 x.2.1}
theorem f59_conOk:ConOk Tryz.prog 59 f59_con:=con_of_fn (f59_tabs FUEL) (depth:=8) f59_ok fun x y h=>(f59_run x.1 x.2.1).trans h

def f115_l0_cut:Cut:={keep:=[0,1,5],stk:=[],ids:=[],own:=[],outs:=[(0,[4],[]),(1,[],[])]}
def f115_cx(k:Nat):Cx:=mkC [] [] [] [] [(115,[(0,f115_l0_cut)])] k [] false
theorem f115_tabs(k:Nat):TabsOk Tryz.prog (f115_cx k):=mkC_ok trivial trivial trivial trivial
abbrev spec_l01Bytes_sh:List Sh:=[.pl .bool]
abbrev Q58:Type:=Option (shDen spec_l01Bytes_sh)
def f115_l0_s(a0:(List Int))(a1:(List Int))(x5:Int):St:={env:=(.pv K16 a0:: .pv K16 a1::(dd 3 (.pv (.int .i64) x5::(dd 20 [])))),stk:=[],heap:=[]}
def f115_l0_o:St:={env:=(dd 4 (.pv .bool false::(dd 21 []))),stk:=[],heap:=[]}
def f115_l0_o0:St:={env:=(dd 26 []),stk:=[],heap:=[]}
def spec_l01Bytes_l0_b(rec:Int→Q58)(kr:Q58)(ke0:Q58)(a0:(List Int))(a1:(List Int))(x5:Int):Q58:=
 (cond (decide (x5<(a0.length:Int)))
 (cond ((decide ((0:Int)≤x5))&&(decide (x5<(a0.length:Int))))
 (cond ((decide ((0:Int)≤x5))&&(decide (x5<(a1.length:Int))))
 (cond (!(decide ((a0.getD (x5.toNat) (0:Int))=(a1.getD (x5.toNat) (0:Int)))))
 (kr)
 (rec (IntKind.wrap .i64 (x5+(1:Int)))))
 none)
 none)
 (ke0))
def spec_l01Bytes_l0_L(kr:Q58)(ke0:Q58)(a0:(List Int))(a1:(List Int)):Nat→Int→Q58
 |0=>fun _=>none
 |n+1=>spec_l01Bytes_l0_b (spec_l01Bytes_l0_L kr ke0 a0 a1 n) kr ke0 a0 a1
def spec_l01Bytes_r(a0:(List Int))(a1:(List Int)):Q58:=
 (cond (!(decide ((a0.length:Int)=(a1.length:Int))))
 (some false)
 (spec_l01Bytes_l0_L (some false) (some true) a0 a1 FUEL (0:Int)))
def f115_l0_p(k:Nat)(K:Ex→St→Q58)(n:Nat)(a0:(List Int))(a1:(List Int))(x5:Int):Q58:=loopK (f115_cx k) 0 (execK (f115_cx k) (callK (f115_cx k) 8) 0 115 (sub f115_c [1,1,0,1,0,0])) f115_l0_cut K n (f115_l0_s a0 a1 x5)

theorem f115_l0_ret(k:Nat):((blkK 0 (seqK (execK (f115_cx k) (callK (f115_cx k) 8) 0 115 (sub f115_c [1,1,1])) (finK (f115_cx k) f115_i spec_l01Bytes_sh))) .ret (f115_l0_o):Q58)=
 ((some false):Q58):=by kernel_rfl

theorem f115_l0_exit0(k:Nat):((blkK 0 (seqK (execK (f115_cx k) (callK (f115_cx k) 8) 0 115 (sub f115_c [1,1,1])) (finK (f115_cx k) f115_i spec_l01Bytes_sh))) (.exit 0) (f115_l0_o0):Q58)=
 ((some true):Q58):=by kernel_rfl

theorem f115_l0_round(k:Nat)(K:Ex→St→Q58)(n:Nat)(a0:(List Int))(a1:(List Int))(x5:Int):(f115_l0_p k K (n+1) a0 a1 x5:Q58)=spec_l01Bytes_l0_b ((fun x5=>f115_l0_p k K n a0 a1 x5)) (K .ret (f115_l0_o)) (K (.exit 0) (f115_l0_o0)) a0 a1 x5:=by kernel_rfl

theorem f115_l0_L_eq(K:Ex→St→Q58)(a0:(List Int))(a1:(List Int)):∀(n:Nat) (x5:Int),(f115_l0_p FUEL K n a0 a1 x5:Q58)=spec_l01Bytes_l0_L (K .ret (f115_l0_o)) (K (.exit 0) (f115_l0_o0)) a0 a1 n x5:=by
 intro n
 induction n with
 |zero=>intros; rfl
 |succ n ih=>
  intro x5
  exact(f115_l0_round FUEL K n a0 a1 x5).trans (congrArg (fun f=>spec_l01Bytes_l0_b f (K .ret (f115_l0_o)) (K (.exit 0) (f115_l0_o0)) a0 a1 x5) (funext fun x5=>ih x5))

theorem f115_start(k:Nat)(a0:(List Int))(a1:(List Int)):fnK (f115_cx k) 8 115 f115_i spec_l01Bytes_sh [.pv K16 a0,.pv K16 a1]=
 ((cond (!(decide ((a0.length:Int)=(a1.length:Int))))
 (some false)
 (loopK (f115_cx k) 0 (execK (f115_cx k) (callK (f115_cx k) 8) 0 115 (sub f115_c [1,1,0,1,0,0])) f115_l0_cut (blkK 0 (seqK (execK (f115_cx k) (callK (f115_cx k) 8) 0 115 (sub f115_c [1,1,1])) (finK (f115_cx k) f115_i spec_l01Bytes_sh))) k (f115_l0_s a0 a1 (0:Int)))):Q58):=by kernel_rfl

theorem f115_run(a0:(List Int))(a1:(List Int)):fnK (f115_cx FUEL) 8 115 f115_i spec_l01Bytes_sh [.pv K16 a0,.pv K16 a1]=spec_l01Bytes_r a0 a1:=
 (f115_start FUEL a0 a1).trans (condC (rfl) ((f115_l0_L_eq _ a0 a1 FUEL (0:Int)).trans (cong2 (fun e0 e1=>spec_l01Bytes_l0_L e0 e1 a0 a1 FUEL (0:Int)) ((f115_l0_ret FUEL).trans (rfl)) ((f115_l0_exit0 FUEL).trans (rfl)))))

def f115_con:Con:={ps:=K6,sh:=spec_l01Bytes_sh,raw:=fun x=>spec_l01Bytes_r x.1 x.2.1}
theorem f115_conOk:ConOk Tryz.prog 115 f115_con:=con_of_fn (f115_tabs FUEL) (depth:=8) f115_ok fun x y h=>(f115_run x.1 x.2.1).trans h

def f100_cx(k:Nat):Cx:=mkC [] [(115,f115_con)] [] [] [] k [] false
theorem f100_tabs(k:Nat):TabsOk Tryz.prog (f100_cx k):=mkC_ok ⟨f115_conOk,trivial⟩ trivial trivial trivial
abbrev spec_l05SameBlob_sh:List Sh:=[.pl .bool]
abbrev Q70:Type:=Option (shDen spec_l05SameBlob_sh)
def spec_l05SameBlob_r(a0:T4)(a1:T4):Q70:=
 (cond (decide (a0.1=a1.1))
 (bindO (spec_l01Bytes_r a0.2.1 a1.2.1) fun(b1:Bool)=>(some b1))
 (some false))
theorem f100_run(a0:T4)(a1:T4):fnK (f100_cx FUEL) 8 100 f100_i spec_l05SameBlob_sh [.pv (.ref K8) a0,.pv (.ref K8) a1]=spec_l05SameBlob_r a0 a1:=by kernel_rfl

def f100_con:Con:={ps:=(.pair (.ref K8) (.pair (.ref K8) .unit)),sh:=spec_l05SameBlob_sh,raw:=fun x=>spec_l05SameBlob_r x.1 x.2.1}
theorem f100_conOk:ConOk Tryz.prog 100 f100_con:=con_of_fn (f100_tabs FUEL) (depth:=8) f100_ok fun x y h=>(f100_run x.1 x.2.1).trans h

def f60_cx(k:Nat):Cx:=mkC [] [] [] [] [] k [] false
theorem f60_tabs(k:Nat):TabsOk Tryz.prog (f60_cx k):=mkC_ok trivial trivial trivial trivial
abbrev spec_l05Copy_sh:List Sh:=[.pr (.pl (.int .u8)) (.pr (.own 5 (.int .u8)) (.pl .unit))]
abbrev Q68:Type:=Option (shDen spec_l05Copy_sh)
def spec_l05Copy_r(a0:T4):Q68:=
 (cond (decide ((0+a0.2.1.length)*1≤140737488355328)&&decide (0+a0.2.1.length≤9223372036854775807))
 (some (a0.1,(([]++a0.2.1),())))
 none)
theorem f60_run(a0:T4):fnK (f60_cx FUEL) 8 60 f60_i spec_l05Copy_sh [.pv K8 a0]=spec_l05Copy_r a0:=by kernel_rfl

def f60_con:Con:={ps:=K4,sh:=spec_l05Copy_sh,raw:=fun x=>spec_l05Copy_r x.1}
theorem f60_conOk:ConOk Tryz.prog 60 f60_con:=con_of_fn (f60_tabs FUEL) (depth:=8) f60_ok fun x y h=>(f60_run x.1).trans h

def f52_l0_cut:Cut:={keep:=[0,2,3,4],stk:=[],ids:=[20,30,80000],own:=[],outs:=[(1,[2,3],[20,30,80000])],fown:=[(30,[.fld 0],80000,28)]}
def f52_cx(k:Nat):Cx:=mkC [] [(60,f60_con)] [] [] [(52,[(0,f52_l0_cut)])] k [] false
theorem f52_tabs(k:Nat):TabsOk Tryz.prog (f52_cx k):=mkC_ok ⟨f60_conOk,trivial⟩ trivial trivial trivial
abbrev spec_l05Store_store_sh:List Sh:=[.pr (.own 72 K8) (.pl .unit)]
abbrev Q72:Type:=Option (shDen spec_l05Store_store_sh)
def f52_l0_s(a0:T0)(x4:Int)(z80000:T3):St:={env:=(.pv (.ref K0) a0:: .dead:: .ptr 20 K3 []:: .ptr 30 K3 []:: .pv (.int .i64) x4::(dd 24 [])),stk:=[],heap:=[(20,.var K3 (.pr (.nilsl) (.pv .unit ()))),(30,.var K3 (.pr (.sl 80000 K8) (.pv .unit ()))),(80000,.arr 72 K8 z80000)]}
def f52_l0_o0(z80000:T3):St:={env:=(.dead:: .dead:: .ptr 20 K3 []:: .ptr 30 K3 []::(dd 25 [])),stk:=[],heap:=[(20,.var K3 (.pr (.nilsl) (.pv .unit ()))),(30,.var K3 (.pr (.sl 80000 K8) (.pv .unit ()))),(80000,.arr 72 K8 z80000)]}
def spec_l05Store_store_l0_b(rec:Int→T3→Q72)(ke0:T3→Q72)(a0:T0)(x4:Int)(z80000:T3):Q72:=
 (cond (decide (x4<(a0.1.length:Int)))
 (cond ((decide ((0:Int)≤x4))&&(decide (x4<(a0.1.length:Int))))
 (bindO (spec_l05Copy_r (a0.1.getD (x4.toNat) ((0:Int),([],())))) fun(b2:T4)=>(cond (decide ((z80000.length+1)*32≤140737488355328)&&decide (z80000.length+1≤9223372036854775807))
 (rec (IntKind.wrap .i64 (x4+(1:Int))) (z80000++[(b2.1,(b2.2.1,()))]))
 none))
 none)
 (ke0 z80000))
def spec_l05Store_store_l0_L(ke0:T3→Q72)(a0:T0):Nat→Int→T3→Q72
 |0=>fun _ _=>none
 |n+1=>spec_l05Store_store_l0_b (spec_l05Store_store_l0_L ke0 a0 n) ke0 a0
def spec_l05Store_store_r(a0:T0):Q72:=
 (spec_l05Store_store_l0_L (fun z80000=>(some (z80000,()))) a0 FUEL (0:Int) [])
def f52_l0_p(k:Nat)(K:Ex→St→Q72)(n:Nat)(a0:T0)(x4:Int)(z80000:T3):Q72:=loopK (f52_cx k) 0 (execK (f52_cx k) (callK (f52_cx k) 8) 0 52 (sub f52_c [1,1,0,1,0,0])) f52_l0_cut K n (f52_l0_s a0 x4 z80000)

theorem f52_l0_exit0(k:Nat)(z80000:T3):((blkK 0 (seqK (execK (f52_cx k) (callK (f52_cx k) 8) 0 52 (sub f52_c [1,1,1])) (finK (f52_cx k) f52_i spec_l05Store_store_sh))) (.exit 0) (f52_l0_o0 z80000):Q72)=
 ((some (z80000,())):Q72):=by kernel_rfl

theorem f52_l0_round(k:Nat)(K:Ex→St→Q72)(n:Nat)(a0:T0)(x4:Int)(z80000:T3):(f52_l0_p k K (n+1) a0 x4 z80000:Q72)=spec_l05Store_store_l0_b ((fun x4 z80000=>f52_l0_p k K n a0 x4 z80000)) (fun z80000=>K (.exit 0) (f52_l0_o0 z80000)) a0 x4 z80000:=by kernel_rfl

theorem f52_l0_L_eq(K:Ex→St→Q72)(a0:T0):∀(n:Nat) (x4:Int) (z80000:T3),(f52_l0_p FUEL K n a0 x4 z80000:Q72)=spec_l05Store_store_l0_L (fun z80000=>K (.exit 0) (f52_l0_o0 z80000)) a0 n x4 z80000:=by
 intro n
 induction n with
 |zero=>intros; rfl
 |succ n ih=>
  intro x4 z80000
  exact(f52_l0_round FUEL K n a0 x4 z80000).trans (congrArg (fun f=>spec_l05Store_store_l0_b f (fun z80000=>K (.exit 0) (f52_l0_o0 z80000)) a0 x4 z80000) (funext fun x4=>funext fun z80000=>ih x4 z80000))

theorem f52_start(k:Nat)(a0:T0):fnK (f52_cx k) 8 52 f52_i spec_l05Store_store_sh [.pv (.ref K0) a0]=
 ((loopK (f52_cx k) 0 (execK (f52_cx k) (callK (f52_cx k) 8) 0 52 (sub f52_c [1,1,0,1,0,0])) f52_l0_cut (blkK 0 (seqK (execK (f52_cx k) (callK (f52_cx k) 8) 0 52 (sub f52_c [1,1,1])) (finK (f52_cx k) f52_i spec_l05Store_store_sh))) k (f52_l0_s a0 (0:Int) [])):Q72):=by kernel_rfl

theorem f52_run(a0:T0):fnK (f52_cx FUEL) 8 52 f52_i spec_l05Store_store_sh [.pv (.ref K0) a0]=spec_l05Store_store_r a0:=
 (f52_start FUEL a0).trans ((f52_l0_L_eq _ a0 FUEL (0:Int) []).trans (congrArg (fun e0=>spec_l05Store_store_l0_L e0 a0 FUEL (0:Int) []) (funext fun z80000=>(f52_l0_exit0 FUEL z80000).trans (rfl))))

def f52_con:Con:={ps:=(.pair (.ref K0) .unit),sh:=spec_l05Store_store_sh,raw:=fun x=>spec_l05Store_store_r x.1}
theorem f52_conOk:ConOk Tryz.prog 52 f52_con:=con_of_fn (f52_tabs FUEL) (depth:=8) f52_ok fun x y h=>(f52_run x.1).trans h

def f27_l0_cut:Cut:={keep:=[1,2,6,9,10,11],stk:=[],ids:=[60,160,80000,80010],own:=[],outs:=[(1,[1,2,6,9,10],[60,160,80000,80010])],fown:=[(160,[.fld 0],80000,28),(160,[.fld 1],80010,34)]}
def f27_l1_cut:Cut:={keep:=[0,4,5],stk:=[[1,2,6]],ids:=[30,60,100080,180000,180010],own:=[],outs:=[(0,[2,3],[60,100080,180000,180010]),(1,[4],[60,100080,180000,180010])],fown:=[(100080,[.fld 0],180000,28),(100080,[.fld 1],180010,34)]}
def f27_l2_cut:Cut:={keep:=[0,1,2,9,10,11],stk:=[[6,9]],ids:=[60,160,180000,180010],own:=[],outs:=[(1,[9,10],[60,160,180000,180010]),(0,[6,7,8],[60,160,180000,180010])],fown:=[(160,[.fld 0],180000,28),(160,[.fld 1],180010,34)]}
def f27_l3_cut:Cut:={keep:=[0,3,4,6,7],stk:=[[0,1,2,9,10,11,13],[6,9]],ids:=[60,160,180000,180010,200030,200040,200060],own:=[],outs:=[(1,[0,3,4,6,7],[60,160,180000,180010,200030,200040,200060])]}
def f27_cx(k:Nat):Cx:=mkC [(40,f40_i),(51,f51_i),(82,f82_i)] [(50,f50_con),(52,f52_con),(59,f59_con),(68,f68_con),(69,f69_con),(81,f81_con),(100,f100_con)] [] [] [(27,[(0,f27_l0_cut)]),(2700160040,[(0,f27_l1_cut)]),(2700480051,[(0,f27_l2_cut)]),(270048005100400082,[(0,f27_l3_cut)])] k [] false
theorem f27_tabs(k:Nat):TabsOk Tryz.prog (f27_cx k):=mkC_ok ⟨f50_conOk,f52_conOk,f59_conOk,f68_conOk,f69_conOk,f81_conOk,f100_conOk,trivial⟩ trivial trivial ⟨f40_ok,f51_ok,f82_ok,trivial⟩
abbrev spec_TakeBlobs_sh:List Sh:=[.pr (.own 72 K8) (.pl .unit),.pl (.int .i64),.pl (.int .i64)]
abbrev Q56:Type:=Option (shDen spec_TakeBlobs_sh)
def f27_l0_s(a1:T7)(a2:T3)(x10:Bool)(z80000:T3)(z80010:T7)(x11:Int):St:={env:=(.dead:: .pv K12 a1:: .pv K5 a2::(dd 3 (.ptr 60 K3 []:: .dead:: .dead:: .ptr 160 K0 []:: .pv .bool x10:: .pv (.int .i64) x11::(dd 47 [])))),stk:=[],heap:=[(60,.var K3 (.pr (.nilsl) (.pv .unit ()))),(160,.var K0 (.pr (.sl 80000 K8) (.pr (.sl 80010 (.arr 32 (.int .u8))) (.pv .unit ())))),(80000,.arr 72 K8 z80000),(80010,.arr 45 (.arr 32 (.int .u8)) z80010)]}
def f27_l0_o0(a1:T7)(a2:T3)(x10:Bool)(z80000:T3)(z80010:T7):St:={env:=(.dead:: .pv K12 a1:: .pv K5 a2::(dd 3 (.ptr 60 K3 []:: .dead:: .dead:: .ptr 160 K0 []:: .pv .bool x10::(dd 48 [])))),stk:=[],heap:=[(60,.var K3 (.pr (.nilsl) (.pv .unit ()))),(160,.var K0 (.pr (.sl 80000 K8) (.pr (.sl 80010 (.arr 32 (.int .u8))) (.pv .unit ())))),(80000,.arr 72 K8 z80000),(80010,.arr 45 (.arr 32 (.int .u8)) z80010)]}
def f27_l1_s(a0:T2)(a1:T7)(a2:T3)(x5:Int)(z180000:T3)(z180010:T7):St:={env:=(.ptr 30 K3 []::(dd 3 (.ptr 100080 K0 []:: .pv (.int .i64) x5::(dd 78 [])))),stk:=[(.dead:: .pv K12 a1:: .pv K5 a2::(dd 3 (.ptr 60 K3 []::(dd 52 []))))],heap:=[(30,.var K3 (.pv K3 a0)),(60,.var K3 (.pr (.nilsl) (.pv .unit ()))),(100080,.var K0 (.pr (.sl 180000 K8) (.pr (.sl 180010 (.arr 32 (.int .u8))) (.pv .unit ())))),(180000,.arr 72 K8 z180000),(180010,.arr 45 (.arr 32 (.int .u8)) z180010)]}
def f27_l1_o(a0:T2)(a1:T7)(a2:T3)(z180000:T3)(z180010:T7):St:={env:=(.dead:: .dead:: .ptr 100080 K0 []:: .pv .bool false::(dd 80 [])),stk:=[(.dead:: .pv K12 a1:: .pv K5 a2::(dd 3 (.ptr 60 K3 []::(dd 52 []))))],heap:=[(30,.var K3 (.pv K3 a0)),(60,.var K3 (.pr (.nilsl) (.pv .unit ()))),(100080,.var K0 (.pr (.sl 180000 K8) (.pr (.sl 180010 (.arr 32 (.int .u8))) (.pv .unit ())))),(180000,.arr 72 K8 z180000),(180010,.arr 45 (.arr 32 (.int .u8)) z180010)]}
def f27_l1_o0(a0:T2)(a1:T7)(a2:T3)(z180000:T3)(z180010:T7):St:={env:=(dd 4 (.ptr 100080 K0 []::(dd 79 []))),stk:=[(.dead:: .pv K12 a1:: .pv K5 a2::(dd 3 (.ptr 60 K3 []::(dd 52 []))))],heap:=[(30,.var K3 (.pv K3 a0)),(60,.var K3 (.pr (.nilsl) (.pv .unit ()))),(100080,.var K0 (.pr (.sl 180000 K8) (.pr (.sl 180010 (.arr 32 (.int .u8))) (.pv .unit ())))),(180000,.arr 72 K8 z180000),(180010,.arr 45 (.arr 32 (.int .u8)) z180010)]}
def f27_l2_s(a1:T7)(a2:T3)(z180000:T3)(z180010:T7)(x9:Int)(x10:Int)(x11:Int):St:={env:=(.ptr 160 K0 []:: .pv K12 a1:: .pv K5 a2::(dd 6 (.pv (.int .i64) x9:: .pv (.int .i64) x10:: .pv (.int .i64) x11::(dd 47 [])))),stk:=[(dd 6 (.ptr 60 K3 []:: .dead:: .dead:: .ptr 160 K0 []::(dd 49 [])))],heap:=[(60,.var K3 (.pr (.nilsl) (.pv .unit ()))),(160,.var K0 (.pr (.sl 180000 K8) (.pr (.sl 180010 (.arr 32 (.int .u8))) (.pv .unit ())))),(180000,.arr 72 K8 z180000),(180010,.arr 45 (.arr 32 (.int .u8)) z180010)]}
def f27_l2_o0(z180000:T3)(z180010:T7)(x9:Int)(x10:Int):St:={env:=(dd 9 (.pv (.int .i64) x9:: .pv (.int .i64) x10::(dd 48 []))),stk:=[(dd 6 (.ptr 60 K3 []:: .dead:: .dead:: .ptr 160 K0 []::(dd 49 [])))],heap:=[(60,.var K3 (.pr (.nilsl) (.pv .unit ()))),(160,.var K0 (.pr (.sl 180000 K8) (.pr (.sl 180010 (.arr 32 (.int .u8))) (.pv .unit ())))),(180000,.arr 72 K8 z180000),(180010,.arr 45 (.arr 32 (.int .u8)) z180010)]}
def f27_l2_o(z180000:T3)(z180010:T7)(x8:Int):St:={env:=(dd 6 (.pv (.int .i64) (0:Int):: .pv (.int .i64) (0:Int):: .pv (.int .i64) x8::(dd 50 []))),stk:=[(dd 6 (.ptr 60 K3 []:: .dead:: .dead:: .ptr 160 K0 []::(dd 49 [])))],heap:=[(60,.var K3 (.pr (.nilsl) (.pv .unit ()))),(160,.var K0 (.pr (.sl 180000 K8) (.pr (.sl 180010 (.arr 32 (.int .u8))) (.pv .unit ())))),(180000,.arr 72 K8 z180000),(180010,.arr 45 (.arr 32 (.int .u8)) z180010)]}
def f27_l3_s(a1:T7)(a2:T3)(z180000:T3)(z180010:T7)(x9:Int)(x10:Int)(x11:Int)(w0_13:Bool)(y100120:(List Int))(y200060:(List Int))(x7:Int):St:={env:=(.ptr 160 K0 []:: .dead:: .dead:: .ptr 200030 K8 []:: .ptr 200040 (.arr 32 (.int .u8)) []:: .dead:: .ptr 200060 (.arr 32 (.int .u8)) []:: .pv (.int .i64) x7::(dd 104 [])),stk:=[(.ptr 160 K0 []:: .pv K12 a1:: .pv K5 a2::(dd 6 (.pv (.int .i64) x9:: .pv (.int .i64) x10:: .pv (.int .i64) x11:: .dead:: .pv .bool w0_13::(dd 45 [])))),(dd 6 (.ptr 60 K3 []:: .dead:: .dead:: .ptr 160 K0 []::(dd 49 [])))],heap:=[(60,.var K3 (.pr (.nilsl) (.pv .unit ()))),(160,.var K0 (.pr (.sl 180000 K8) (.pr (.sl 180010 (.arr 32 (.int .u8))) (.pv .unit ())))),(100120,.var (.arr 32 (.int .u8)) (.pv (.arr 32 (.int .u8)) y100120)),(180000,.arr 72 K8 z180000),(180010,.arr 45 (.arr 32 (.int .u8)) z180010),(200030,.var K8 (.pv K8 (a2.getD (x11.toNat) ((0:Int),([],()))))),(200040,.var (.arr 32 (.int .u8)) (.pv (.arr 32 (.int .u8)) (List.replicate 32 (0:Int)))),(200060,.var (.arr 32 (.int .u8)) (.pv (.arr 32 (.int .u8)) y200060))]}
def f27_l3_o0(a1:T7)(a2:T3)(z180000:T3)(z180010:T7)(x9:Int)(x10:Int)(x11:Int)(w0_13:Bool)(y100120:(List Int))(y200060:(List Int))(x7:Int):St:={env:=(.ptr 160 K0 []:: .dead:: .dead:: .ptr 200030 K8 []:: .ptr 200040 (.arr 32 (.int .u8)) []:: .dead:: .ptr 200060 (.arr 32 (.int .u8)) []:: .pv (.int .i64) x7::(dd 104 [])),stk:=[(.ptr 160 K0 []:: .pv K12 a1:: .pv K5 a2::(dd 6 (.pv (.int .i64) x9:: .pv (.int .i64) x10:: .pv (.int .i64) x11:: .dead:: .pv .bool w0_13::(dd 45 [])))),(dd 6 (.ptr 60 K3 []:: .dead:: .dead:: .ptr 160 K0 []::(dd 49 [])))],heap:=[(60,.var K3 (.pr (.nilsl) (.pv .unit ()))),(160,.var K0 (.pr (.sl 180000 K8) (.pr (.sl 180010 (.arr 32 (.int .u8))) (.pv .unit ())))),(100120,.var (.arr 32 (.int .u8)) (.pv (.arr 32 (.int .u8)) y100120)),(180000,.arr 72 K8 z180000),(180010,.arr 45 (.arr 32 (.int .u8)) z180010),(200030,.var K8 (.pv K8 (a2.getD (x11.toNat) ((0:Int),([],()))))),(200040,.var (.arr 32 (.int .u8)) (.pv (.arr 32 (.int .u8)) (List.replicate 32 (0:Int)))),(200060,.var (.arr 32 (.int .u8)) (.pv (.arr 32 (.int .u8)) y200060))]}
def spec_TakeBlobs_l3_b(rec:Bool→(List Int)→(List Int)→Int→Q56)(ke0:Bool→(List Int)→(List Int)→Int→Q56)(a1:T7)(a2:T3)(z180000:T3)(z180010:T7)(x9:Int)(x10:Int)(x11:Int)(w0_13:Bool)(y100120:(List Int))(y200060:(List Int))(x7:Int):Q56:=
 (cond (decide (x7<(z180010.length:Int)))
 (cond ((decide ((0:Int)≤x7))&&(decide (x7<(z180010.length:Int))))
 (bindO (spec_l01Compare_r (z180010.getD (x7.toNat) (List.replicate 32 (0:Int))) y200060) fun(b20:Int)=>(cond (decide (b20<(0:Int)))
 (rec w0_13 y100120 y200060 (IntKind.wrap .i64 (x7+(1:Int))))
 (ke0 w0_13 y100120 y200060 x7)))
 none)
 (ke0 w0_13 y100120 y200060 x7))
def spec_TakeBlobs_l3_L(ke0:Bool→(List Int)→(List Int)→Int→Q56)(a1:T7)(a2:T3)(z180000:T3)(z180010:T7)(x9:Int)(x10:Int)(x11:Int):Nat→Bool→(List Int)→(List Int)→Int→Q56
 |0=>fun _ _ _ _=>none
 |n+1=>spec_TakeBlobs_l3_b (spec_TakeBlobs_l3_L ke0 a1 a2 z180000 z180010 x9 x10 x11 n) ke0 a1 a2 z180000 z180010 x9 x10 x11
def spec_TakeBlobs_l2_b(rec:T3→T7→Int→Int→Int→Q56)(ke0:T3→T7→Int→Int→Q56)(kr:T3→T7→Int→Q56)(a1:T7)(a2:T3)(z180000:T3)(z180010:T7)(x9:Int)(x10:Int)(x11:Int):Q56:=
 (cond (decide (x11<(a2.length:Int)))
 (cond ((decide ((0:Int)≤x11))&&(decide (x11<(a2.length:Int))))
 (bindO (spec_l05Key_r (a2.getD (x11.toNat) ((0:Int),([],())))) fun(b15:(List Int))=>(bindO (spec_l01Has_r a1 b15) fun(b16:Bool)=>(cond (!b16)
 (rec z180000 z180010 x9 x10 (IntKind.wrap .i64 (x11+(1:Int))))
 (bindO (spec_l05Store_find_r (z180000,(z180010,())) b15) fun(b17:Int)=>(cond ((decide ((0:Int)≤x11))&&(decide (x11<(a2.length:Int))))
 (bindO (spec_l05Key_r (a2.getD (x11.toNat) ((0:Int),([],())))) fun(b18:(List Int))=>(spec_TakeBlobs_l3_L (fun w0_13 y100120 y200060 x7=>(cond (decide (x7<(z180010.length:Int)))
 (cond ((decide ((0:Int)≤x7))&&(decide (x7<(z180010.length:Int))))
 (cond (eqd (.arr 32 (.int .u8)) (z180010.getD (x7.toNat) (List.replicate 32 (0:Int))) y200060)
 (cond ((decide ((0:Int)≤x7))&&(decide (x7<(z180000.length:Int))))
 (bindO (spec_l05SameBlob_r (z180000.getD (x7.toNat) ((0:Int),([],()))) (a2.getD (x11.toNat) ((0:Int),([],())))) fun(b21:Bool)=>(cond (!b21)
 (kr z180000 z180010 (8:Int))
 (cond w0_13
 (cond ((decide ((0:Int)≤x11))&&(decide (x11<(a2.length:Int))))
 (rec z180000 z180010 (IntKind.wrap .i64 (x9+(1:Int))) (IntKind.wrap .i64 (x10+((((a2.getD (x11.toNat) ((0:Int),([],()))).2).1).length:Int))) (IntKind.wrap .i64 (x11+(1:Int))))
 none)
 (rec z180000 z180010 x9 x10 (IntKind.wrap .i64 (x11+(1:Int)))))))
 none)
 (cond (decide ((128:Int)≤(z180010.length:Int)))
 (kr z180000 z180010 (3:Int))
 (cond ((decide ((0:Int)≤x7))&&(decide (x7≤(z180000.length:Int))))
 (cond (decide ((1+(cutL z180000 (x7.toNat) (z180000.length)).length)*32≤140737488355328)&&decide (1+(cutL z180000 (x7.toNat) (z180000.length)).length≤9223372036854775807))
 (cond ((decide ((0:Int)≤x7))&&(decide (x7≤(z180000.length:Int))))
 (cond (decide ((0+(cutL z180000 0 (x7.toNat)).length)*32≤140737488355328)&&decide (0+(cutL z180000 0 (x7.toNat)).length≤9223372036854775807))
 (cond (decide ((([]++(cutL z180000 0 (x7.toNat))).length+([(a2.getD (x11.toNat) ((0:Int),([],())))]++(cutL z180000 (x7.toNat) (z180000.length))).length)*32≤140737488355328)&&decide (([]++(cutL z180000 0 (x7.toNat))).length+([(a2.getD (x11.toNat) ((0:Int),([],())))]++(cutL z180000 (x7.toNat) (z180000.length))).length≤9223372036854775807))
 (cond ((decide ((0:Int)≤x7))&&(decide (x7≤(z180010.length:Int))))
 (cond (decide ((1+(cutL z180010 (x7.toNat) (z180010.length)).length)*32≤140737488355328)&&decide (1+(cutL z180010 (x7.toNat) (z180010.length)).length≤9223372036854775807))
 (cond ((decide ((0:Int)≤x7))&&(decide (x7≤(z180010.length:Int))))
 (cond (decide ((0+(cutL z180010 0 (x7.toNat)).length)*32≤140737488355328)&&decide (0+(cutL z180010 0 (x7.toNat)).length≤9223372036854775807))
 (cond (decide ((([]++(cutL z180010 0 (x7.toNat))).length+([y200060]++(cutL z180010 (x7.toNat) (z180010.length))).length)*32≤140737488355328)&&decide (([]++(cutL z180010 0 (x7.toNat))).length+([y200060]++(cutL z180010 (x7.toNat) (z180010.length))).length≤9223372036854775807))
 (cond w0_13
 (cond ((decide ((0:Int)≤x11))&&(decide (x11<(a2.length:Int))))
 (rec (([]++(cutL z180000 0 (x7.toNat)))++([(a2.getD (x11.toNat) ((0:Int),([],())))]++(cutL z180000 (x7.toNat) (z180000.length)))) (([]++(cutL z180010 0 (x7.toNat)))++([y200060]++(cutL z180010 (x7.toNat) (z180010.length)))) (IntKind.wrap .i64 (x9+(1:Int))) (IntKind.wrap .i64 (x10+((((a2.getD (x11.toNat) ((0:Int),([],()))).2).1).length:Int))) (IntKind.wrap .i64 (x11+(1:Int))))
 none)
 (rec (([]++(cutL z180000 0 (x7.toNat)))++([(a2.getD (x11.toNat) ((0:Int),([],())))]++(cutL z180000 (x7.toNat) (z180000.length)))) (([]++(cutL z180010 0 (x7.toNat)))++([y200060]++(cutL z180010 (x7.toNat) (z180010.length)))) x9 x10 (IntKind.wrap .i64 (x11+(1:Int)))))
 none)
 none)
 none)
 none)
 none)
 none)
 none)
 none)
 none)
 none)))
 none)
 (cond (decide ((128:Int)≤(z180010.length:Int)))
 (kr z180000 z180010 (3:Int))
 (cond ((decide ((0:Int)≤x7))&&(decide (x7≤(z180000.length:Int))))
 (cond (decide ((1+(cutL z180000 (x7.toNat) (z180000.length)).length)*32≤140737488355328)&&decide (1+(cutL z180000 (x7.toNat) (z180000.length)).length≤9223372036854775807))
 (cond ((decide ((0:Int)≤x7))&&(decide (x7≤(z180000.length:Int))))
 (cond (decide ((0+(cutL z180000 0 (x7.toNat)).length)*32≤140737488355328)&&decide (0+(cutL z180000 0 (x7.toNat)).length≤9223372036854775807))
 (cond (decide ((([]++(cutL z180000 0 (x7.toNat))).length+([(a2.getD (x11.toNat) ((0:Int),([],())))]++(cutL z180000 (x7.toNat) (z180000.length))).length)*32≤140737488355328)&&decide (([]++(cutL z180000 0 (x7.toNat))).length+([(a2.getD (x11.toNat) ((0:Int),([],())))]++(cutL z180000 (x7.toNat) (z180000.length))).length≤9223372036854775807))
 (cond ((decide ((0:Int)≤x7))&&(decide (x7≤(z180010.length:Int))))
 (cond (decide ((1+(cutL z180010 (x7.toNat) (z180010.length)).length)*32≤140737488355328)&&decide (1+(cutL z180010 (x7.toNat) (z180010.length)).length≤9223372036854775807))
 (cond ((decide ((0:Int)≤x7))&&(decide (x7≤(z180010.length:Int))))
 (cond (decide ((0+(cutL z180010 0 (x7.toNat)).length)*32≤140737488355328)&&decide (0+(cutL z180010 0 (x7.toNat)).length≤9223372036854775807))
 (cond (decide ((([]++(cutL z180010 0 (x7.toNat))).length+([y200060]++(cutL z180010 (x7.toNat) (z180010.length))).length)*32≤140737488355328)&&decide (([]++(cutL z180010 0 (x7.toNat))).length+([y200060]++(cutL z180010 (x7.toNat) (z180010.length))).length≤9223372036854775807))
 (cond w0_13
 (cond ((decide ((0:Int)≤x11))&&(decide (x11<(a2.length:Int))))
 (rec (([]++(cutL z180000 0 (x7.toNat)))++([(a2.getD (x11.toNat) ((0:Int),([],())))]++(cutL z180000 (x7.toNat) (z180000.length)))) (([]++(cutL z180010 0 (x7.toNat)))++([y200060]++(cutL z180010 (x7.toNat) (z180010.length)))) (IntKind.wrap .i64 (x9+(1:Int))) (IntKind.wrap .i64 (x10+((((a2.getD (x11.toNat) ((0:Int),([],()))).2).1).length:Int))) (IntKind.wrap .i64 (x11+(1:Int))))
 none)
 (rec (([]++(cutL z180000 0 (x7.toNat)))++([(a2.getD (x11.toNat) ((0:Int),([],())))]++(cutL z180000 (x7.toNat) (z180000.length)))) (([]++(cutL z180010 0 (x7.toNat)))++([y200060]++(cutL z180010 (x7.toNat) (z180010.length)))) x9 x10 (IntKind.wrap .i64 (x11+(1:Int)))))
 none)
 none)
 none)
 none)
 none)
 none)
 none)
 none)
 none)
 none)))) a1 a2 z180000 z180010 x9 x10 x11 FUEL (decide (b17<(0:Int))) b15 b18 (0:Int)))
 none)))))
 none)
 (ke0 z180000 z180010 x9 x10))
def spec_TakeBlobs_l2_L(ke0:T3→T7→Int→Int→Q56)(kr:T3→T7→Int→Q56)(a1:T7)(a2:T3):Nat→T3→T7→Int→Int→Int→Q56
 |0=>fun _ _ _ _ _=>none
 |n+1=>spec_TakeBlobs_l2_b (spec_TakeBlobs_l2_L ke0 kr a1 a2 n) ke0 kr a1 a2
def spec_TakeBlobs_l1_b(rec:Int→T3→T7→Q56)(kr:T3→T7→Q56)(ke0:T3→T7→Q56)(a0:T2)(a1:T7)(a2:T3)(x5:Int)(z180000:T3)(z180010:T7):Q56:=
 (cond (decide (x5<(a0.1.length:Int)))
 (cond ((decide ((0:Int)≤x5))&&(decide (x5<(a0.1.length:Int))))
 (bindO (spec_l05Blob_r (a0.1.getD (x5.toNat) ((0:Int),([],())))) fun(b5:Bool)=>(cond (!b5)
 (kr z180000 z180010)
 (cond ((decide ((0:Int)≤x5))&&(decide (x5<(a0.1.length:Int))))
 (bindO (spec_l05Key_r (a0.1.getD (x5.toNat) ((0:Int),([],())))) fun(b6:(List Int))=>(cond (decide ((0:Int)<x5))
 (cond ((decide ((0:Int)≤(IntKind.wrap .i64 (x5-(1:Int)))))&&(decide ((IntKind.wrap .i64 (x5-(1:Int)))<(z180010.length:Int))))
 (bindO (spec_l01Compare_r (z180010.getD ((IntKind.wrap .i64 (x5-(1:Int))).toNat) (List.replicate 32 (0:Int))) b6) fun(b7:Int)=>(cond (decide ((0:Int)≤b7))
 (kr z180000 z180010)
 (cond ((decide ((0:Int)≤x5))&&(decide (x5<(a0.1.length:Int))))
 (cond (decide ((z180000.length+1)*32≤140737488355328)&&decide (z180000.length+1≤9223372036854775807))
 (cond (decide ((z180010.length+1)*32≤140737488355328)&&decide (z180010.length+1≤9223372036854775807))
 (rec (IntKind.wrap .i64 (x5+(1:Int))) (z180000++[(a0.1.getD (x5.toNat) ((0:Int),([],())))]) (z180010++[b6]))
 none)
 none)
 none)))
 none)
 (cond ((decide ((0:Int)≤x5))&&(decide (x5<(a0.1.length:Int))))
 (cond (decide ((z180000.length+1)*32≤140737488355328)&&decide (z180000.length+1≤9223372036854775807))
 (cond (decide ((z180010.length+1)*32≤140737488355328)&&decide (z180010.length+1≤9223372036854775807))
 (rec (IntKind.wrap .i64 (x5+(1:Int))) (z180000++[(a0.1.getD (x5.toNat) ((0:Int),([],())))]) (z180010++[b6]))
 none)
 none)
 none)))
 none)))
 none)
 (ke0 z180000 z180010))
def spec_TakeBlobs_l1_L(kr:T3→T7→Q56)(ke0:T3→T7→Q56)(a0:T2)(a1:T7)(a2:T3):Nat→Int→T3→T7→Q56
 |0=>fun _ _ _=>none
 |n+1=>spec_TakeBlobs_l1_b (spec_TakeBlobs_l1_L kr ke0 a0 a1 a2 n) kr ke0 a0 a1 a2
def spec_TakeBlobs_l0_b(rec:Bool→T3→T7→Int→Q56)(ke0:Bool→T3→T7→Q56)(a1:T7)(a2:T3)(x10:Bool)(z80000:T3)(z80010:T7)(x11:Int):Q56:=
 (cond (decide (x11<(a2.length:Int)))
 (cond x10
 (cond ((decide ((0:Int)≤x11))&&(decide (x11<(a2.length:Int))))
 (bindO (spec_l05Blob_r (a2.getD (x11.toNat) ((0:Int),([],())))) fun(b2:Bool)=>(rec b2 z80000 z80010 (IntKind.wrap .i64 (x11+(1:Int)))))
 none)
 (ke0 x10 z80000 z80010))
 (ke0 x10 z80000 z80010))
def spec_TakeBlobs_l0_L(ke0:Bool→T3→T7→Q56)(a1:T7)(a2:T3):Nat→Bool→T3→T7→Int→Q56
 |0=>fun _ _ _ _=>none
 |n+1=>spec_TakeBlobs_l0_b (spec_TakeBlobs_l0_L ke0 a1 a2 n) ke0 a1 a2
def spec_TakeBlobs_r(a0:T2)(a1:T7)(a2:T3):Q56:=
 (cond (decide ((128:Int)<(a0.1.length:Int)))
 (spec_TakeBlobs_l0_L (fun x10 z80000 z80010=>(cond (!x10)
 (some (([],()),((0:Int),(1:Int))))
 (cond (decide ((256:Int)<(a1.length:Int)))
 (some (([],()),((0:Int),(3:Int))))
 (cond (decide ((128:Int)<(a2.length:Int)))
 (some (([],()),((0:Int),(3:Int))))
 (spec_TakeBlobs_l2_L (fun z180000 z180010 x9 x10=>(bindO (spec_l05Store_store_r (z180000,(z180010,()))) fun(b22:T2)=>(some ((b22.1,()),(x9,(0:Int)))))) (fun z180000 z180010 x8=>(cond (!(decide (x8=(0:Int))))
 (some (([],()),((0:Int),x8)))
 (bindO (spec_l05Store_store_r (z180000,(z180010,()))) fun(b23:T2)=>(some ((b23.1,()),((0:Int),(0:Int))))))) a1 a2 FUEL z80000 z80010 (0:Int) (0:Int) (0:Int)))))) a1 a2 FUEL false [] [] (0:Int))
 (spec_TakeBlobs_l1_L (fun z180000 z180010=>(spec_TakeBlobs_l0_L (fun x10 z80000 z80010=>(cond (!x10)
 (some (([],()),((0:Int),(1:Int))))
 (cond (decide ((256:Int)<(a1.length:Int)))
 (some (([],()),((0:Int),(3:Int))))
 (cond (decide ((128:Int)<(a2.length:Int)))
 (some (([],()),((0:Int),(3:Int))))
 (spec_TakeBlobs_l2_L (fun z180000 z180010 x9 x10=>(bindO (spec_l05Store_store_r (z180000,(z180010,()))) fun(b22:T2)=>(some ((b22.1,()),(x9,(0:Int)))))) (fun z180000 z180010 x8=>(cond (!(decide (x8=(0:Int))))
 (some (([],()),((0:Int),x8)))
 (bindO (spec_l05Store_store_r (z180000,(z180010,()))) fun(b23:T2)=>(some ((b23.1,()),((0:Int),(0:Int))))))) a1 a2 FUEL z80000 z80010 (0:Int) (0:Int) (0:Int)))))) a1 a2 FUEL false z180000 z180010 (0:Int))) (fun z180000 z180010=>(spec_TakeBlobs_l0_L (fun x10 z80000 z80010=>(cond (!x10)
 (some (([],()),((0:Int),(1:Int))))
 (cond (decide ((256:Int)<(a1.length:Int)))
 (some (([],()),((0:Int),(3:Int))))
 (cond (decide ((128:Int)<(a2.length:Int)))
 (some (([],()),((0:Int),(3:Int))))
 (spec_TakeBlobs_l2_L (fun z180000 z180010 x9 x10=>(bindO (spec_l05Store_store_r (z180000,(z180010,()))) fun(b22:T2)=>(some ((b22.1,()),(x9,(0:Int)))))) (fun z180000 z180010 x8=>(cond (!(decide (x8=(0:Int))))
 (some (([],()),((0:Int),x8)))
 (bindO (spec_l05Store_store_r (z180000,(z180010,()))) fun(b23:T2)=>(some ((b23.1,()),((0:Int),(0:Int))))))) a1 a2 FUEL z80000 z80010 (0:Int) (0:Int) (0:Int)))))) a1 a2 FUEL true z180000 z180010 (0:Int))) a0 a1 a2 FUEL (0:Int) [] []))
def f27_l3_p(k:Nat)(K:Ex→St→Q56)(n:Nat)(a1:T7)(a2:T3)(z180000:T3)(z180010:T7)(x9:Int)(x10:Int)(x11:Int)(w0_13:Bool)(y100120:(List Int))(y200060:(List Int))(x7:Int):Q56:=loopK (f27_cx k) 2 (execK (f27_cx k) (callK (f27_cx k) 6) 2 270048005100400082 (sub f82_c [1,1,1,0,0,0])) f27_l3_cut K n (f27_l3_s a1 a2 z180000 z180010 x9 x10 x11 w0_13 y100120 y200060 x7)

theorem f27_l3_exit0(k:Nat)(K:Ex→St→Q56)(n:Nat)(a1:T7)(a2:T3)(z180000:T3)(z180010:T7)(x9:Int)(x10:Int)(x11:Int)(w0_13:Bool)(y100120:(List Int))(y200060:(List Int))(x7:Int):((blkK 0 (seqK (execK (f27_cx k) (callK (f27_cx k) 6) 2 270048005100400082 (sub f82_c [1,1,1,1])) (retK (f27_cx k) f82_i (some 40) 1 (opsRest (f27_cx k) (callK (f27_cx k) 7) 1 2700480051 false (regOps (sub f51_c [1,1,1,0,1,0,0,1,0,0,1,1,1,0])) 5 (seqK (execK (f27_cx k) (callK (f27_cx k) 7) 1 2700480051 (sub f51_c [1,1,1,0,1,0,0,1,0,0,1,1,1,1])) (blkK 1 (seqK (execK (f27_cx k) (callK (f27_cx k) 7) 1 2700480051 (sub f51_c [1,1,1,0,1,0,0,1,1])) (iterK (f27_cx k) 1 f27_l2_cut (loopK (f27_cx k) 1 (execK (f27_cx k) (callK (f27_cx k) 7) 1 2700480051 (sub f51_c [1,1,1,0,1,0,0])) f27_l2_cut K n) K)))))))) (.exit 0) (f27_l3_o0 a1 a2 z180000 z180010 x9 x10 x11 w0_13 y100120 y200060 x7):Q56)=
 ((cond (decide (x7<(z180010.length:Int)))
 (cond ((decide ((0:Int)≤x7))&&(decide (x7<(z180010.length:Int))))
 (cond (eqd (.arr 32 (.int .u8)) (z180010.getD (x7.toNat) (List.replicate 32 (0:Int))) y200060)
 (cond ((decide ((0:Int)≤x7))&&(decide (x7<(z180000.length:Int))))
 (bindO (spec_l05SameBlob_r (z180000.getD (x7.toNat) ((0:Int),([],()))) (a2.getD (x11.toNat) ((0:Int),([],())))) fun(b21:Bool)=>(cond (!b21)
 (K .ret (f27_l2_o z180000 z180010 (8:Int)))
 (cond w0_13
 (cond ((decide ((0:Int)≤x11))&&(decide (x11<(a2.length:Int))))
 (loopK (f27_cx k) 1 (execK (f27_cx k) (callK (f27_cx k) 7) 1 2700480051 (sub f51_c [1,1,1,0,1,0,0])) f27_l2_cut K n (f27_l2_s a1 a2 z180000 z180010 (IntKind.wrap .i64 (x9+(1:Int))) (IntKind.wrap .i64 (x10+((((a2.getD (x11.toNat) ((0:Int),([],()))).2).1).length:Int))) (IntKind.wrap .i64 (x11+(1:Int)))))
 none)
 (loopK (f27_cx k) 1 (execK (f27_cx k) (callK (f27_cx k) 7) 1 2700480051 (sub f51_c [1,1,1,0,1,0,0])) f27_l2_cut K n (f27_l2_s a1 a2 z180000 z180010 x9 x10 (IntKind.wrap .i64 (x11+(1:Int))))))))
 none)
 (cond (decide ((128:Int)≤(z180010.length:Int)))
 (K .ret (f27_l2_o z180000 z180010 (3:Int)))
 (cond ((decide ((0:Int)≤x7))&&(decide (x7≤(z180000.length:Int))))
 (cond (decide ((1+(cutL z180000 (x7.toNat) (z180000.length)).length)*32≤140737488355328)&&decide (1+(cutL z180000 (x7.toNat) (z180000.length)).length≤9223372036854775807))
 (cond ((decide ((0:Int)≤x7))&&(decide (x7≤(z180000.length:Int))))
 (cond (decide ((0+(cutL z180000 0 (x7.toNat)).length)*32≤140737488355328)&&decide (0+(cutL z180000 0 (x7.toNat)).length≤9223372036854775807))
 (cond (decide ((([]++(cutL z180000 0 (x7.toNat))).length+([(a2.getD (x11.toNat) ((0:Int),([],())))]++(cutL z180000 (x7.toNat) (z180000.length))).length)*32≤140737488355328)&&decide (([]++(cutL z180000 0 (x7.toNat))).length+([(a2.getD (x11.toNat) ((0:Int),([],())))]++(cutL z180000 (x7.toNat) (z180000.length))).length≤9223372036854775807))
 (cond ((decide ((0:Int)≤x7))&&(decide (x7≤(z180010.length:Int))))
 (cond (decide ((1+(cutL z180010 (x7.toNat) (z180010.length)).length)*32≤140737488355328)&&decide (1+(cutL z180010 (x7.toNat) (z180010.length)).length≤9223372036854775807))
 (cond ((decide ((0:Int)≤x7))&&(decide (x7≤(z180010.length:Int))))
 (cond (decide ((0+(cutL z180010 0 (x7.toNat)).length)*32≤140737488355328)&&decide (0+(cutL z180010 0 (x7.toNat)).length≤9223372036854775807))
 (cond (decide ((([]++(cutL z180010 0 (x7.toNat))).length+([y200060]++(cutL z180010 (x7.toNat) (z180010.length))).length)*32≤140737488355328)&&decide (([]++(cutL z180010 0 (x7.toNat))).length+([y200060]++(cutL z180010 (x7.toNat) (z180010.length))).length≤9223372036854775807))
 (cond w0_13
 (cond ((decide ((0:Int)≤x11))&&(decide (x11<(a2.length:Int))))
 (loopK (f27_cx k) 1 (execK (f27_cx k) (callK (f27_cx k) 7) 1 2700480051 (sub f51_c [1,1,1,0,1,0,0])) f27_l2_cut K n (f27_l2_s a1 a2 (([]++(cutL z180000 0 (x7.toNat)))++([(a2.getD (x11.toNat) ((0:Int),([],())))]++(cutL z180000 (x7.toNat) (z180000.length)))) (([]++(cutL z180010 0 (x7.toNat)))++([y200060]++(cutL z180010 (x7.toNat) (z180010.length)))) (IntKind.wrap .i64 (x9+(1:Int))) (IntKind.wrap .i64 (x10+((((a2.getD (x11.toNat) ((0:Int),([],()))).2).1).length:Int))) (IntKind.wrap .i64 (x11+(1:Int)))))
 none)
 (loopK (f27_cx k) 1 (execK (f27_cx k) (callK (f27_cx k) 7) 1 2700480051 (sub f51_c [1,1,1,0,1,0,0])) f27_l2_cut K n (f27_l2_s a1 a2 (([]++(cutL z180000 0 (x7.toNat)))++([(a2.getD (x11.toNat) ((0:Int),([],())))]++(cutL z180000 (x7.toNat) (z180000.length)))) (([]++(cutL z180010 0 (x7.toNat)))++([y200060]++(cutL z180010 (x7.toNat) (z180010.length)))) x9 x10 (IntKind.wrap .i64 (x11+(1:Int))))))
 none)
 none)
 none)
 none)
 none)
 none)
 none)
 none)
 none)
 none)))
 none)
 (cond (decide ((128:Int)≤(z180010.length:Int)))
 (K .ret (f27_l2_o z180000 z180010 (3:Int)))
 (cond ((decide ((0:Int)≤x7))&&(decide (x7≤(z180000.length:Int))))
 (cond (decide ((1+(cutL z180000 (x7.toNat) (z180000.length)).length)*32≤140737488355328)&&decide (1+(cutL z180000 (x7.toNat) (z180000.length)).length≤9223372036854775807))
 (cond ((decide ((0:Int)≤x7))&&(decide (x7≤(z180000.length:Int))))
 (cond (decide ((0+(cutL z180000 0 (x7.toNat)).length)*32≤140737488355328)&&decide (0+(cutL z180000 0 (x7.toNat)).length≤9223372036854775807))
 (cond (decide ((([]++(cutL z180000 0 (x7.toNat))).length+([(a2.getD (x11.toNat) ((0:Int),([],())))]++(cutL z180000 (x7.toNat) (z180000.length))).length)*32≤140737488355328)&&decide (([]++(cutL z180000 0 (x7.toNat))).length+([(a2.getD (x11.toNat) ((0:Int),([],())))]++(cutL z180000 (x7.toNat) (z180000.length))).length≤9223372036854775807))
 (cond ((decide ((0:Int)≤x7))&&(decide (x7≤(z180010.length:Int))))
 (cond (decide ((1+(cutL z180010 (x7.toNat) (z180010.length)).length)*32≤140737488355328)&&decide (1+(cutL z180010 (x7.toNat) (z180010.length)).length≤9223372036854775807))
 (cond ((decide ((0:Int)≤x7))&&(decide (x7≤(z180010.length:Int))))
 (cond (decide ((0+(cutL z180010 0 (x7.toNat)).length)*32≤140737488355328)&&decide (0+(cutL z180010 0 (x7.toNat)).length≤9223372036854775807))
 (cond (decide ((([]++(cutL z180010 0 (x7.toNat))).length+([y200060]++(cutL z180010 (x7.toNat) (z180010.length))).length)*32≤140737488355328)&&decide (([]++(cutL z180010 0 (x7.toNat))).length+([y200060]++(cutL z180010 (x7.toNat) (z180010.length))).length≤9223372036854775807))
 (cond w0_13
 (cond ((decide ((0:Int)≤x11))&&(decide (x11<(a2.length:Int))))
 (loopK (f27_cx k) 1 (execK (f27_cx k) (callK (f27_cx k) 7) 1 2700480051 (sub f51_c [1,1,1,0,1,0,0])) f27_l2_cut K n (f27_l2_s a1 a2 (([]++(cutL z180000 0 (x7.toNat)))++([(a2.getD (x11.toNat) ((0:Int),([],())))]++(cutL z180000 (x7.toNat) (z180000.length)))) (([]++(cutL z180010 0 (x7.toNat)))++([y200060]++(cutL z180010 (x7.toNat) (z180010.length)))) (IntKind.wrap .i64 (x9+(1:Int))) (IntKind.wrap .i64 (x10+((((a2.getD (x11.toNat) ((0:Int),([],()))).2).1).length:Int))) (IntKind.wrap .i64 (x11+(1:Int)))))
 none)
 (loopK (f27_cx k) 1 (execK (f27_cx k) (callK (f27_cx k) 7) 1 2700480051 (sub f51_c [1,1,1,0,1,0,0])) f27_l2_cut K n (f27_l2_s a1 a2 (([]++(cutL z180000 0 (x7.toNat)))++([(a2.getD (x11.toNat) ((0:Int),([],())))]++(cutL z180000 (x7.toNat) (z180000.length)))) (([]++(cutL z180010 0 (x7.toNat)))++([y200060]++(cutL z180010 (x7.toNat) (z180010.length)))) x9 x10 (IntKind.wrap .i64 (x11+(1:Int))))))
 none)
 none)
 none)
 none)
 none)
 none)
 none)
 none)
 none)
 none))):Q56):=by kernel_rfl

theorem f27_l3_round(k:Nat)(K:Ex→St→Q56)(n:Nat)(a1:T7)(a2:T3)(z180000:T3)(z180010:T7)(x9:Int)(x10:Int)(x11:Int)(w0_13:Bool)(y100120:(List Int))(y200060:(List Int))(x7:Int):(f27_l3_p k K (n+1) a1 a2 z180000 z180010 x9 x10 x11 w0_13 y100120 y200060 x7:Q56)=spec_TakeBlobs_l3_b ((fun w0_13 y100120 y200060 x7=>f27_l3_p k K n a1 a2 z180000 z180010 x9 x10 x11 w0_13 y100120 y200060 x7)) (fun w0_13 y100120 y200060 x7=>K (.exit 0) (f27_l3_o0 a1 a2 z180000 z180010 x9 x10 x11 w0_13 y100120 y200060 x7)) a1 a2 z180000 z180010 x9 x10 x11 w0_13 y100120 y200060 x7:=by kernel_rfl

theorem f27_l3_L_eq(K:Ex→St→Q56)(a1:T7)(a2:T3)(z180000:T3)(z180010:T7)(x9:Int)(x10:Int)(x11:Int):∀(n:Nat) (w0_13:Bool) (y100120:(List Int)) (y200060:(List Int)) (x7:Int),(f27_l3_p FUEL K n a1 a2 z180000 z180010 x9 x10 x11 w0_13 y100120 y200060 x7:Q56)=spec_TakeBlobs_l3_L (fun w0_13 y100120 y200060 x7=>K (.exit 0) (f27_l3_o0 a1 a2 z180000 z180010 x9 x10 x11 w0_13 y100120 y200060 x7)) a1 a2 z180000 z180010 x9 x10 x11 n w0_13 y100120 y200060 x7:=by
 intro n
 induction n with
 |zero=>intros; rfl
 |succ n ih=>
  intro w0_13 y100120 y200060 x7
  exact(f27_l3_round FUEL K n a1 a2 z180000 z180010 x9 x10 x11 w0_13 y100120 y200060 x7).trans (congrArg (fun f=>spec_TakeBlobs_l3_b f (fun w0_13 y100120 y200060 x7=>K (.exit 0) (f27_l3_o0 a1 a2 z180000 z180010 x9 x10 x11 w0_13 y100120 y200060 x7)) a1 a2 z180000 z180010 x9 x10 x11 w0_13 y100120 y200060 x7) (funext fun w0_13=>funext fun y100120=>funext fun y200060=>funext fun x7=>ih w0_13 y100120 y200060 x7))

def f27_l2_p(k:Nat)(K:Ex→St→Q56)(n:Nat)(a1:T7)(a2:T3)(z180000:T3)(z180010:T7)(x9:Int)(x10:Int)(x11:Int):Q56:=loopK (f27_cx k) 1 (execK (f27_cx k) (callK (f27_cx k) 7) 1 2700480051 (sub f51_c [1,1,1,0,1,0,0])) f27_l2_cut K n (f27_l2_s a1 a2 z180000 z180010 x9 x10 x11)

theorem f27_l2_round(k:Nat)(K:Ex→St→Q56)(n:Nat)(a1:T7)(a2:T3)(z180000:T3)(z180010:T7)(x9:Int)(x10:Int)(x11:Int):(f27_l2_p k K (n+1) a1 a2 z180000 z180010 x9 x10 x11:Q56)=
 ((cond (decide (x11<(a2.length:Int)))
 (cond ((decide ((0:Int)≤x11))&&(decide (x11<(a2.length:Int))))
 (bindO (spec_l05Key_r (a2.getD (x11.toNat) ((0:Int),([],())))) fun(b15:(List Int))=>(bindO (spec_l01Has_r a1 b15) fun(b16:Bool)=>(cond (!b16)
 (loopK (f27_cx k) 1 (execK (f27_cx k) (callK (f27_cx k) 7) 1 2700480051 (sub f51_c [1,1,1,0,1,0,0])) f27_l2_cut K n (f27_l2_s a1 a2 z180000 z180010 x9 x10 (IntKind.wrap .i64 (x11+(1:Int)))))
 (bindO (spec_l05Store_find_r (z180000,(z180010,())) b15) fun(b17:Int)=>(cond ((decide ((0:Int)≤x11))&&(decide (x11<(a2.length:Int))))
 (bindO (spec_l05Key_r (a2.getD (x11.toNat) ((0:Int),([],())))) fun(b18:(List Int))=>(loopK (f27_cx k) 2 (execK (f27_cx k) (callK (f27_cx k) 6) 2 270048005100400082 (sub f82_c [1,1,1,0,0,0])) f27_l3_cut (blkK 0 (seqK (execK (f27_cx k) (callK (f27_cx k) 6) 2 270048005100400082 (sub f82_c [1,1,1,1])) (retK (f27_cx k) f82_i (some 40) 1 (opsRest (f27_cx k) (callK (f27_cx k) 7) 1 2700480051 false (regOps (sub f51_c [1,1,1,0,1,0,0,1,0,0,1,1,1,0])) 5 (seqK (execK (f27_cx k) (callK (f27_cx k) 7) 1 2700480051 (sub f51_c [1,1,1,0,1,0,0,1,0,0,1,1,1,1])) (blkK 1 (seqK (execK (f27_cx k) (callK (f27_cx k) 7) 1 2700480051 (sub f51_c [1,1,1,0,1,0,0,1,1])) (iterK (f27_cx k) 1 f27_l2_cut (loopK (f27_cx k) 1 (execK (f27_cx k) (callK (f27_cx k) 7) 1 2700480051 (sub f51_c [1,1,1,0,1,0,0])) f27_l2_cut K n) K)))))))) k (f27_l3_s a1 a2 z180000 z180010 x9 x10 x11 (decide (b17<(0:Int))) b15 b18 (0:Int))))
 none)))))
 none)
 (K (.exit 0) (f27_l2_o0 z180000 z180010 x9 x10))):Q56):=by kernel_rfl

theorem f27_l2_exit0(k:Nat)(z180000:T3)(z180010:T7)(x9:Int)(x10:Int):((blkK 0 (seqK (execK (f27_cx k) (callK (f27_cx k) 7) 1 2700480051 (sub f51_c [1,1,1,1])) (retK (f27_cx k) f51_i (some 48) 0 (opsRest (f27_cx k) (callK (f27_cx k) 8) 0 27 false (regOps (sub f27_c [1,1,1,1,1,0])) 3 (seqK (execK (f27_cx k) (callK (f27_cx k) 8) 0 27 (sub f27_c [1,1,1,1,1,1])) (finK (f27_cx k) f27_i spec_TakeBlobs_sh)))))) (.exit 0) (f27_l2_o0 z180000 z180010 x9 x10):Q56)=
 ((bindO (spec_l05Store_store_r (z180000,(z180010,()))) fun(b22:T2)=>(some ((b22.1,()),(x9,(0:Int))))):Q56):=by kernel_rfl

theorem f27_l2_ret(k:Nat)(z180000:T3)(z180010:T7)(x8:Int):((blkK 0 (seqK (execK (f27_cx k) (callK (f27_cx k) 7) 1 2700480051 (sub f51_c [1,1,1,1])) (retK (f27_cx k) f51_i (some 48) 0 (opsRest (f27_cx k) (callK (f27_cx k) 8) 0 27 false (regOps (sub f27_c [1,1,1,1,1,0])) 3 (seqK (execK (f27_cx k) (callK (f27_cx k) 8) 0 27 (sub f27_c [1,1,1,1,1,1])) (finK (f27_cx k) f27_i spec_TakeBlobs_sh)))))) .ret (f27_l2_o z180000 z180010 x8):Q56)=
 ((cond (!(decide (x8=(0:Int))))
 (some (([],()),((0:Int),x8)))
 (bindO (spec_l05Store_store_r (z180000,(z180010,()))) fun(b23:T2)=>(some ((b23.1,()),((0:Int),(0:Int)))))):Q56):=by kernel_rfl

theorem f27_l2_L_eq(K:Ex→St→Q56)(a1:T7)(a2:T3):∀(n:Nat) (z180000:T3) (z180010:T7) (x9:Int) (x10:Int) (x11:Int),(f27_l2_p FUEL K n a1 a2 z180000 z180010 x9 x10 x11:Q56)=spec_TakeBlobs_l2_L (fun z180000 z180010 x9 x10=>K (.exit 0) (f27_l2_o0 z180000 z180010 x9 x10)) (fun z180000 z180010 x8=>K .ret (f27_l2_o z180000 z180010 x8)) a1 a2 n z180000 z180010 x9 x10 x11:=by
 intro n
 induction n with
 |zero=>intros; rfl
 |succ n ih=>
  intro z180000 z180010 x9 x10 x11
  exact(f27_l2_round FUEL K n a1 a2 z180000 z180010 x9 x10 x11).trans (condC (condC (bindC (fun b15=>bindC (fun b16=>condC (ih z180000 z180010 x9 x10 (IntKind.wrap .i64 (x11+(1:Int)))) (bindC (fun b17=>condC (bindC (fun b18=>(f27_l3_L_eq _ a1 a2 z180000 z180010 x9 x10 x11 FUEL (decide (b17<(0:Int))) b15 b18 (0:Int)).trans (congrArg (fun e0=>spec_TakeBlobs_l3_L e0 a1 a2 z180000 z180010 x9 x10 x11 FUEL (decide (b17<(0:Int))) b15 b18 (0:Int)) (funext fun w0_13=>funext fun y100120=>funext fun y200060=>funext fun x7=>(f27_l3_exit0 FUEL K n a1 a2 z180000 z180010 x9 x10 x11 w0_13 y100120 y200060 x7).trans (condC (condC (condC (condC (bindC (fun b21=>condC (rfl) (condC (condC (ih z180000 z180010 (IntKind.wrap .i64 (x9+(1:Int))) (IntKind.wrap .i64 (x10+((((a2.getD (x11.toNat) ((0:Int),([],()))).2).1).length:Int))) (IntKind.wrap .i64 (x11+(1:Int)))) (rfl)) (ih z180000 z180010 x9 x10 (IntKind.wrap .i64 (x11+(1:Int))))))) (rfl)) (condC (rfl) (condC (condC (condC (condC (condC (condC (condC (condC (condC (condC (condC (condC (ih (([]++(cutL z180000 0 (x7.toNat)))++([(a2.getD (x11.toNat) ((0:Int),([],())))]++(cutL z180000 (x7.toNat) (z180000.length)))) (([]++(cutL z180010 0 (x7.toNat)))++([y200060]++(cutL z180010 (x7.toNat) (z180010.length)))) (IntKind.wrap .i64 (x9+(1:Int))) (IntKind.wrap .i64 (x10+((((a2.getD (x11.toNat) ((0:Int),([],()))).2).1).length:Int))) (IntKind.wrap .i64 (x11+(1:Int)))) (rfl)) (ih (([]++(cutL z180000 0 (x7.toNat)))++([(a2.getD (x11.toNat) ((0:Int),([],())))]++(cutL z180000 (x7.toNat) (z180000.length)))) (([]++(cutL z180010 0 (x7.toNat)))++([y200060]++(cutL z180010 (x7.toNat) (z180010.length)))) x9 x10 (IntKind.wrap .i64 (x11+(1:Int))))) (rfl)) (rfl)) (rfl)) (rfl)) (rfl)) (rfl)) (rfl)) (rfl)) (rfl)) (rfl)))) (rfl)) (condC (rfl) (condC (condC (condC (condC (condC (condC (condC (condC (condC (condC (condC (condC (ih (([]++(cutL z180000 0 (x7.toNat)))++([(a2.getD (x11.toNat) ((0:Int),([],())))]++(cutL z180000 (x7.toNat) (z180000.length)))) (([]++(cutL z180010 0 (x7.toNat)))++([y200060]++(cutL z180010 (x7.toNat) (z180010.length)))) (IntKind.wrap .i64 (x9+(1:Int))) (IntKind.wrap .i64 (x10+((((a2.getD (x11.toNat) ((0:Int),([],()))).2).1).length:Int))) (IntKind.wrap .i64 (x11+(1:Int)))) (rfl)) (ih (([]++(cutL z180000 0 (x7.toNat)))++([(a2.getD (x11.toNat) ((0:Int),([],())))]++(cutL z180000 (x7.toNat) (z180000.length)))) (([]++(cutL z180010 0 (x7.toNat)))++([y200060]++(cutL z180010 (x7.toNat) (z180010.length)))) x9 x10 (IntKind.wrap .i64 (x11+(1:Int))))) (rfl)) (rfl)) (rfl)) (rfl)) (rfl)) (rfl)) (rfl)) (rfl)) (rfl)) (rfl)))))))) (rfl)))))) (rfl)) (rfl))

def f27_l1_p(k:Nat)(K:Ex→St→Q56)(n:Nat)(a0:T2)(a1:T7)(a2:T3)(x5:Int)(z180000:T3)(z180010:T7):Q56:=loopK (f27_cx k) 1 (execK (f27_cx k) (callK (f27_cx k) 7) 1 2700160040 (sub f40_c [1,1,1,0,1,0,0])) f27_l1_cut K n (f27_l1_s a0 a1 a2 x5 z180000 z180010)

theorem f27_l1_ret(k:Nat)(a0:T2)(a1:T7)(a2:T3)(z180000:T3)(z180010:T7):((blkK 0 (seqK (execK (f27_cx k) (callK (f27_cx k) 7) 1 2700160040 (sub f40_c [1,1,1,1])) (retK (f27_cx k) f40_i (some 16) 0 (opsRest (f27_cx k) (callK (f27_cx k) 8) 0 27 false (regOps (sub f27_c [1,0])) 0 (seqK (execK (f27_cx k) (callK (f27_cx k) 8) 0 27 (sub f27_c [1,1])) (finK (f27_cx k) f27_i spec_TakeBlobs_sh)))))) .ret (f27_l1_o a0 a1 a2 z180000 z180010):Q56)=
 ((loopK (f27_cx k) 0 (execK (f27_cx k) (callK (f27_cx k) 8) 0 27 (sub f27_c [1,1,0,1,0,0])) f27_l0_cut (blkK 0 (seqK (execK (f27_cx k) (callK (f27_cx k) 8) 0 27 (sub f27_c [1,1,1])) (finK (f27_cx k) f27_i spec_TakeBlobs_sh))) k (f27_l0_s a1 a2 false z180000 z180010 (0:Int))):Q56):=by kernel_rfl

theorem f27_l1_exit0(k:Nat)(a0:T2)(a1:T7)(a2:T3)(z180000:T3)(z180010:T7):((blkK 0 (seqK (execK (f27_cx k) (callK (f27_cx k) 7) 1 2700160040 (sub f40_c [1,1,1,1])) (retK (f27_cx k) f40_i (some 16) 0 (opsRest (f27_cx k) (callK (f27_cx k) 8) 0 27 false (regOps (sub f27_c [1,0])) 0 (seqK (execK (f27_cx k) (callK (f27_cx k) 8) 0 27 (sub f27_c [1,1])) (finK (f27_cx k) f27_i spec_TakeBlobs_sh)))))) (.exit 0) (f27_l1_o0 a0 a1 a2 z180000 z180010):Q56)=
 ((loopK (f27_cx k) 0 (execK (f27_cx k) (callK (f27_cx k) 8) 0 27 (sub f27_c [1,1,0,1,0,0])) f27_l0_cut (blkK 0 (seqK (execK (f27_cx k) (callK (f27_cx k) 8) 0 27 (sub f27_c [1,1,1])) (finK (f27_cx k) f27_i spec_TakeBlobs_sh))) k (f27_l0_s a1 a2 true z180000 z180010 (0:Int))):Q56):=by kernel_rfl

theorem f27_l1_round(k:Nat)(K:Ex→St→Q56)(n:Nat)(a0:T2)(a1:T7)(a2:T3)(x5:Int)(z180000:T3)(z180010:T7):(f27_l1_p k K (n+1) a0 a1 a2 x5 z180000 z180010:Q56)=spec_TakeBlobs_l1_b ((fun x5 z180000 z180010=>f27_l1_p k K n a0 a1 a2 x5 z180000 z180010)) (fun z180000 z180010=>K .ret (f27_l1_o a0 a1 a2 z180000 z180010)) (fun z180000 z180010=>K (.exit 0) (f27_l1_o0 a0 a1 a2 z180000 z180010)) a0 a1 a2 x5 z180000 z180010:=by kernel_rfl

theorem f27_l1_L_eq(K:Ex→St→Q56)(a0:T2)(a1:T7)(a2:T3):∀(n:Nat) (x5:Int) (z180000:T3) (z180010:T7),(f27_l1_p FUEL K n a0 a1 a2 x5 z180000 z180010:Q56)=spec_TakeBlobs_l1_L (fun z180000 z180010=>K .ret (f27_l1_o a0 a1 a2 z180000 z180010)) (fun z180000 z180010=>K (.exit 0) (f27_l1_o0 a0 a1 a2 z180000 z180010)) a0 a1 a2 n x5 z180000 z180010:=by
 intro n
 induction n with
 |zero=>intros; rfl
 |succ n ih=>
  intro x5 z180000 z180010
  exact(f27_l1_round FUEL K n a0 a1 a2 x5 z180000 z180010).trans (congrArg (fun f=>spec_TakeBlobs_l1_b f (fun z180000 z180010=>K .ret (f27_l1_o a0 a1 a2 z180000 z180010)) (fun z180000 z180010=>K (.exit 0) (f27_l1_o0 a0 a1 a2 z180000 z180010)) a0 a1 a2 x5 z180000 z180010) (funext fun x5=>funext fun z180000=>funext fun z180010=>ih x5 z180000 z180010))

def f27_l0_p(k:Nat)(K:Ex→St→Q56)(n:Nat)(a1:T7)(a2:T3)(x10:Bool)(z80000:T3)(z80010:T7)(x11:Int):Q56:=loopK (f27_cx k) 0 (execK (f27_cx k) (callK (f27_cx k) 8) 0 27 (sub f27_c [1,1,0,1,0,0])) f27_l0_cut K n (f27_l0_s a1 a2 x10 z80000 z80010 x11)

theorem f27_l0_exit0(k:Nat)(a1:T7)(a2:T3)(x10:Bool)(z80000:T3)(z80010:T7):((blkK 0 (seqK (execK (f27_cx k) (callK (f27_cx k) 8) 0 27 (sub f27_c [1,1,1])) (finK (f27_cx k) f27_i spec_TakeBlobs_sh))) (.exit 0) (f27_l0_o0 a1 a2 x10 z80000 z80010):Q56)=
 ((cond (!x10)
 (some (([],()),((0:Int),(1:Int))))
 (cond (decide ((256:Int)<(a1.length:Int)))
 (some (([],()),((0:Int),(3:Int))))
 (cond (decide ((128:Int)<(a2.length:Int)))
 (some (([],()),((0:Int),(3:Int))))
 (loopK (f27_cx k) 1 (execK (f27_cx k) (callK (f27_cx k) 7) 1 2700480051 (sub f51_c [1,1,1,0,1,0,0])) f27_l2_cut (blkK 0 (seqK (execK (f27_cx k) (callK (f27_cx k) 7) 1 2700480051 (sub f51_c [1,1,1,1])) (retK (f27_cx k) f51_i (some 48) 0 (opsRest (f27_cx k) (callK (f27_cx k) 8) 0 27 false (regOps (sub f27_c [1,1,1,1,1,0])) 3 (seqK (execK (f27_cx k) (callK (f27_cx k) 8) 0 27 (sub f27_c [1,1,1,1,1,1])) (finK (f27_cx k) f27_i spec_TakeBlobs_sh)))))) k (f27_l2_s a1 a2 z80000 z80010 (0:Int) (0:Int) (0:Int)))))):Q56):=by kernel_rfl

theorem f27_l0_round(k:Nat)(K:Ex→St→Q56)(n:Nat)(a1:T7)(a2:T3)(x10:Bool)(z80000:T3)(z80010:T7)(x11:Int):(f27_l0_p k K (n+1) a1 a2 x10 z80000 z80010 x11:Q56)=spec_TakeBlobs_l0_b ((fun x10 z80000 z80010 x11=>f27_l0_p k K n a1 a2 x10 z80000 z80010 x11)) (fun x10 z80000 z80010=>K (.exit 0) (f27_l0_o0 a1 a2 x10 z80000 z80010)) a1 a2 x10 z80000 z80010 x11:=by kernel_rfl

theorem f27_l0_L_eq(K:Ex→St→Q56)(a1:T7)(a2:T3):∀(n:Nat) (x10:Bool) (z80000:T3) (z80010:T7) (x11:Int),(f27_l0_p FUEL K n a1 a2 x10 z80000 z80010 x11:Q56)=spec_TakeBlobs_l0_L (fun x10 z80000 z80010=>K (.exit 0) (f27_l0_o0 a1 a2 x10 z80000 z80010)) a1 a2 n x10 z80000 z80010 x11:=by
 intro n
 induction n with
 |zero=>intros; rfl
 |succ n ih=>
  intro x10 z80000 z80010 x11
  exact(f27_l0_round FUEL K n a1 a2 x10 z80000 z80010 x11).trans (congrArg (fun f=>spec_TakeBlobs_l0_b f (fun x10 z80000 z80010=>K (.exit 0) (f27_l0_o0 a1 a2 x10 z80000 z80010)) a1 a2 x10 z80000 z80010 x11) (funext fun x10=>funext fun z80000=>funext fun z80010=>funext fun x11=>ih x10 z80000 z80010 x11))

theorem f27_start(k:Nat)(a0:T2)(a1:T7)(a2:T3):fnK (f27_cx k) 8 27 f27_i spec_TakeBlobs_sh [.pv K3 a0,.pv K12 a1,.pv K5 a2]=
 ((cond (decide ((128:Int)<(a0.1.length:Int)))
 (loopK (f27_cx k) 0 (execK (f27_cx k) (callK (f27_cx k) 8) 0 27 (sub f27_c [1,1,0,1,0,0])) f27_l0_cut (blkK 0 (seqK (execK (f27_cx k) (callK (f27_cx k) 8) 0 27 (sub f27_c [1,1,1])) (finK (f27_cx k) f27_i spec_TakeBlobs_sh))) k (f27_l0_s a1 a2 false [] [] (0:Int)))
 (loopK (f27_cx k) 1 (execK (f27_cx k) (callK (f27_cx k) 7) 1 2700160040 (sub f40_c [1,1,1,0,1,0,0])) f27_l1_cut (blkK 0 (seqK (execK (f27_cx k) (callK (f27_cx k) 7) 1 2700160040 (sub f40_c [1,1,1,1])) (retK (f27_cx k) f40_i (some 16) 0 (opsRest (f27_cx k) (callK (f27_cx k) 8) 0 27 false (regOps (sub f27_c [1,0])) 0 (seqK (execK (f27_cx k) (callK (f27_cx k) 8) 0 27 (sub f27_c [1,1])) (finK (f27_cx k) f27_i spec_TakeBlobs_sh)))))) k (f27_l1_s a0 a1 a2 (0:Int) [] []))):Q56):=by kernel_rfl

theorem f27_run(a0:T2)(a1:T7)(a2:T3):fnK (f27_cx FUEL) 8 27 f27_i spec_TakeBlobs_sh [.pv K3 a0,.pv K12 a1,.pv K5 a2]=spec_TakeBlobs_r a0 a1 a2:=
 (f27_start FUEL a0 a1 a2).trans (condC ((f27_l0_L_eq _ a1 a2 FUEL false [] [] (0:Int)).trans (congrArg (fun e0=>spec_TakeBlobs_l0_L e0 a1 a2 FUEL false [] [] (0:Int)) (funext fun x10=>funext fun z80000=>funext fun z80010=>(f27_l0_exit0 FUEL a1 a2 x10 z80000 z80010).trans (condC (rfl) (condC (rfl) (condC (rfl) ((f27_l2_L_eq _ a1 a2 FUEL z80000 z80010 (0:Int) (0:Int) (0:Int)).trans (cong2 (fun e0 e1=>spec_TakeBlobs_l2_L e0 e1 a1 a2 FUEL z80000 z80010 (0:Int) (0:Int) (0:Int)) (funext fun z180000=>funext fun z180010=>funext fun x9=>funext fun x10=>(f27_l2_exit0 FUEL z180000 z180010 x9 x10).trans (rfl)) (funext fun z180000=>funext fun z180010=>funext fun x8=>(f27_l2_ret FUEL z180000 z180010 x8).trans (rfl)))))))))) ((f27_l1_L_eq _ a0 a1 a2 FUEL (0:Int) [] []).trans (cong2 (fun e0 e1=>spec_TakeBlobs_l1_L e0 e1 a0 a1 a2 FUEL (0:Int) [] []) (funext fun z180000=>funext fun z180010=>(f27_l1_ret FUEL a0 a1 a2 z180000 z180010).trans ((f27_l0_L_eq _ a1 a2 FUEL false z180000 z180010 (0:Int)).trans (congrArg (fun e0=>spec_TakeBlobs_l0_L e0 a1 a2 FUEL false z180000 z180010 (0:Int)) (funext fun x10=>funext fun z80000=>funext fun z80010=>(f27_l0_exit0 FUEL a1 a2 x10 z80000 z80010).trans (condC (rfl) (condC (rfl) (condC (rfl) ((f27_l2_L_eq _ a1 a2 FUEL z80000 z80010 (0:Int) (0:Int) (0:Int)).trans (cong2 (fun e0 e1=>spec_TakeBlobs_l2_L e0 e1 a1 a2 FUEL z80000 z80010 (0:Int) (0:Int) (0:Int)) (funext fun z180000=>funext fun z180010=>funext fun x9=>funext fun x10=>(f27_l2_exit0 FUEL z180000 z180010 x9 x10).trans (rfl)) (funext fun z180000=>funext fun z180010=>funext fun x8=>(f27_l2_ret FUEL z180000 z180010 x8).trans (rfl))))))))))) (funext fun z180000=>funext fun z180010=>(f27_l1_exit0 FUEL a0 a1 a2 z180000 z180010).trans ((f27_l0_L_eq _ a1 a2 FUEL true z180000 z180010 (0:Int)).trans (congrArg (fun e0=>spec_TakeBlobs_l0_L e0 a1 a2 FUEL true z180000 z180010 (0:Int)) (funext fun x10=>funext fun z80000=>funext fun z80010=>(f27_l0_exit0 FUEL a1 a2 x10 z80000 z80010).trans (condC (rfl) (condC (rfl) (condC (rfl) ((f27_l2_L_eq _ a1 a2 FUEL z80000 z80010 (0:Int) (0:Int) (0:Int)).trans (cong2 (fun e0 e1=>spec_TakeBlobs_l2_L e0 e1 a1 a2 FUEL z80000 z80010 (0:Int) (0:Int) (0:Int)) (funext fun z180000=>funext fun z180010=>funext fun x9=>funext fun x10=>(f27_l2_exit0 FUEL z180000 z180010 x9 x10).trans (rfl)) (funext fun z180000=>funext fun z180010=>funext fun x8=>(f27_l2_ret FUEL z180000 z180010 x8).trans (rfl))))))))))))))

def f27_con:Con:={ps:=(.pair K3 K1),sh:=spec_TakeBlobs_sh,raw:=fun x=>spec_TakeBlobs_r x.1 x.2.1 x.2.2.1}
theorem f27_conOk:ConOk Tryz.prog 27 f27_con:=con_of_fn (f27_tabs FUEL) (depth:=8) f27_ok fun x y h=>(f27_run x.1 x.2.1 x.2.2.1).trans h

def f56_cx(k:Nat):Cx:=mkC [] [] [] [] [] k [] false
theorem f56_tabs(k:Nat):TabsOk Tryz.prog (f56_cx k):=mkC_ok trivial trivial trivial trivial
abbrev impl_ValidBlob_sh:List Sh:=[.pl .bool]
abbrev Q11:Type:=Option (shDen impl_ValidBlob_sh)
def impl_ValidBlob_r(a0:T4):Q11:=
 (some (decide ((a0.2.1.length:Int)≤(1024:Int))))
theorem f56_run(a0:T4):fnK (f56_cx FUEL) 8 56 f56_i impl_ValidBlob_sh [.pv K8 a0]=impl_ValidBlob_r a0:=by kernel_rfl

def f56_con:Con:={ps:=K4,sh:=impl_ValidBlob_sh,raw:=fun x=>impl_ValidBlob_r x.1}
theorem f56_conOk:ConOk Tryz.prog 56 f56_con:=con_of_fn (f56_tabs FUEL) (depth:=8) f56_ok fun x y h=>(f56_run x.1).trans h

def f94_cx(k:Nat):Cx:=mkC [] [(56,f56_con)] [] [] [] k [] false
theorem f94_tabs(k:Nat):TabsOk Tryz.prog (f94_cx k):=mkC_ok ⟨f56_conOk,trivial⟩ trivial trivial trivial
abbrev impl_ValidStore_1_sh:List Sh:=[.pl .bool]
abbrev Q12:Type:=Option (shDen impl_ValidStore_1_sh)
def impl_ValidStore_1_r(a0:T4):Q12:=
 (bindO (impl_ValidBlob_r a0) fun(b1:Bool)=>(some (!b1)))
theorem f94_run(a0:T4):fnK (f94_cx FUEL) 8 94 f94_i impl_ValidStore_1_sh [.pv K8 a0]=impl_ValidStore_1_r a0:=by kernel_rfl

def f94_con:Con:={ps:=K4,sh:=impl_ValidStore_1_sh,raw:=fun x=>impl_ValidStore_1_r x.1}
theorem f94_conOk:ConOk Tryz.prog 94 f94_con:=con_of_fn (f94_tabs FUEL) (depth:=8) f94_ok fun x y h=>(f94_run x.1).trans h

def f65_cx(k:Nat):Cx:=mkC [] [] [] [] [] k [] false
theorem f65_tabs(k:Nat):TabsOk Tryz.prog (f65_cx k):=mkC_ok trivial trivial trivial trivial
abbrev impl_size_byte_sh:List Sh:=[.pl (.int .i64)]
abbrev Q24:Type:=Option (shDen impl_size_byte_sh)
def impl_size_byte_r(a0:(List Int)):Q24:=
 (some (a0.length:Int))
theorem f65_run(a0:(List Int)):fnK (f65_cx FUEL) 8 65 f65_i impl_size_byte_sh [.pv K16 a0]=impl_size_byte_r a0:=by kernel_rfl

def f65_con:Con:={ps:=K11,sh:=impl_size_byte_sh,raw:=fun x=>impl_size_byte_r x.1}
theorem f65_conOk:ConOk Tryz.prog 65 f65_con:=con_of_fn (f65_tabs FUEL) (depth:=8) f65_ok fun x y h=>(f65_run x.1).trans h

def f134_l0_cut:Cut:={keep:=[0,1,8,9],stk:=[],ids:=[90000],own:=[(0,90000,70)],outs:=[(1,[0],[90000])]}
def f134_cx(k:Nat):Cx:=mkC [] [] [] [] [(134,[(0,f134_l0_cut)])] k [] false
theorem f134_tabs(k:Nat):TabsOk Tryz.prog (f134_cx k):=mkC_ok trivial trivial trivial trivial
def f134_l0_s(a1:Int)(a2:Int)(x9:Int)(z90000:(List Int)):St:={env:=(.sl 90000 (.int .u8):: .pv (.int .u64) a1::(dd 6 (.pv (.int .i64) a2:: .pv (.int .i64) x9::(dd 12 [])))),stk:=[],heap:=[(90000,.arr 5 (.int .u8) z90000)]}
def f134_l0_o0(z90000:(List Int)):St:={env:=(.sl 90000 (.int .u8)::(dd 21 [])),stk:=[],heap:=[(90000,.arr 5 (.int .u8) z90000)]}
def impl_appendLittle_l0_b(rec:Int→(List Int)→Option (List Int))(ke0:(List Int)→Option (List Int))(a1:Int)(a2:Int)(x9:Int)(z90000:(List Int)):Option (List Int):=
 (cond (decide (x9<a2))
 (cond (decide ((IntKind.wrap .i64 ((8:Int)*x9))<(0:Int)))
 none
 (cond (decide ((z90000.length+1)*1≤140737488355328)&&decide (z90000.length+1≤9223372036854775807))
 (rec (IntKind.wrap .i64 (x9+(1:Int))) (z90000++[(IntKind.wrap .u8 (shrI .u64 a1 (IntKind.wrap .i64 ((8:Int)*x9))))]))
 none))
 (ke0 z90000))
def impl_appendLittle_l0_L(ke0:(List Int)→Option (List Int))(a1:Int)(a2:Int):Nat→Int→(List Int)→Option (List Int)
 |0=>fun _ _=>none
 |n+1=>impl_appendLittle_l0_b (impl_appendLittle_l0_L ke0 a1 a2 n) ke0 a1 a2
def impl_appendLittle_r(a0:(List Int))(a1:Int)(a2:Int):Option (List Int):=
 (impl_appendLittle_l0_L (fun z90000=>(some z90000)) a1 a2 FUEL (0:Int) a0)
def f134_l0_p(k:Nat)(K:Ex→St→Option (List Int))(n:Nat)(a1:Int)(a2:Int)(x9:Int)(z90000:(List Int)):Option (List Int):=loopK (f134_cx k) 0 (execK (f134_cx k) (callK (f134_cx k) 8) 0 134 (sub f134_c [1,0,1,0,0])) f134_l0_cut K n (f134_l0_s a1 a2 x9 z90000)

theorem f134_l0_exit0(k:Nat)(z90000:(List Int)):((blkK 0 (seqK (execK (f134_cx k) (callK (f134_cx k) 8) 0 134 (sub f134_c [1,1])) (finTK (f134_cx k) f134_i 5 (.int .u8)))) (.exit 0) (f134_l0_o0 z90000):Option (List Int))=
 ((some z90000):Option (List Int)):=by kernel_rfl

theorem f134_l0_round(k:Nat)(K:Ex→St→Option (List Int))(n:Nat)(a1:Int)(a2:Int)(x9:Int)(z90000:(List Int)):(f134_l0_p k K (n+1) a1 a2 x9 z90000:Option (List Int))=impl_appendLittle_l0_b ((fun x9 z90000=>f134_l0_p k K n a1 a2 x9 z90000)) (fun z90000=>K (.exit 0) (f134_l0_o0 z90000)) a1 a2 x9 z90000:=by kernel_rfl

theorem f134_l0_L_eq(K:Ex→St→Option (List Int))(a1:Int)(a2:Int):∀(n:Nat) (x9:Int) (z90000:(List Int)),(f134_l0_p FUEL K n a1 a2 x9 z90000:Option (List Int))=impl_appendLittle_l0_L (fun z90000=>K (.exit 0) (f134_l0_o0 z90000)) a1 a2 n x9 z90000:=by
 intro n
 induction n with
 |zero=>intros; rfl
 |succ n ih=>
  intro x9 z90000
  exact(f134_l0_round FUEL K n a1 a2 x9 z90000).trans (congrArg (fun f=>impl_appendLittle_l0_b f (fun z90000=>K (.exit 0) (f134_l0_o0 z90000)) a1 a2 x9 z90000) (funext fun x9=>funext fun z90000=>ih x9 z90000))

theorem f134_start(k:Nat)(a0:(List Int))(a1:Int)(a2:Int):fnTK (f134_cx k) 8 134 f134_i 5 (.int .u8) a0 [.pv (.int .u64) a1,.pv (.int .i64) a2]=
 ((loopK (f134_cx k) 0 (execK (f134_cx k) (callK (f134_cx k) 8) 0 134 (sub f134_c [1,0,1,0,0])) f134_l0_cut (blkK 0 (seqK (execK (f134_cx k) (callK (f134_cx k) 8) 0 134 (sub f134_c [1,1])) (finTK (f134_cx k) f134_i 5 (.int .u8)))) k (f134_l0_s a1 a2 (0:Int) a0)):Option (List Int)):=by kernel_rfl

theorem f134_run(a0:(List Int))(a1:Int)(a2:Int):fnTK (f134_cx FUEL) 8 134 f134_i 5 (.int .u8) a0 [.pv (.int .u64) a1,.pv (.int .i64) a2]=impl_appendLittle_r a0 a1 a2:=
 (f134_start FUEL a0 a1 a2).trans ((f134_l0_L_eq _ a1 a2 FUEL (0:Int) a0).trans (congrArg (fun e0=>impl_appendLittle_l0_L e0 a1 a2 FUEL (0:Int) a0) (funext fun z90000=>(f134_l0_exit0 FUEL z90000).trans (rfl))))

def f134_tak:ConT:={E:=5,e:=(.int .u8),ps:=(.pair (.int .u64) K14),raw:=fun x q=>impl_appendLittle_r x q.1 q.2.1}
theorem f134_takOk:TakOk Tryz.prog 134 f134_tak:=tak_of_fn (f134_tabs FUEL) (depth:=8) f134_ok rfl fun xs q z h=>(f134_run xs q.1 q.2.1).trans h

def f118_l0_cut:Cut:={keep:=[0,3],stk:=[],ids:=[90030],own:=[(3,90030,70)],outs:=[(1,[0,3],[90030])]}
def f118_cx(k:Nat):Cx:=mkC [] [(65,f65_con)] [(134,f134_tak)] [] [(118,[(0,f118_l0_cut)])] k [] false
theorem f118_tabs(k:Nat):TabsOk Tryz.prog (f118_cx k):=mkC_ok ⟨f65_conOk,trivial⟩ ⟨f134_takOk,trivial⟩ trivial trivial
abbrev impl_padding_sh:List Sh:=[.own 5 (.int .u8)]
abbrev Q20:Type:=Option (shDen impl_padding_sh)
def f118_l0_s(a0:Int)(z90030:(List Int)):St:={env:=(.pv (.int .i64) a0:: .dead:: .dead:: .sl 90030 (.int .u8)::(dd 14 [])),stk:=[],heap:=[(90030,.arr 5 (.int .u8) z90030)]}
def f118_l0_o0(a0:Int)(z90030:(List Int)):St:={env:=(.pv (.int .i64) a0:: .dead:: .dead:: .sl 90030 (.int .u8)::(dd 14 [])),stk:=[],heap:=[(90030,.arr 5 (.int .u8) z90030)]}
def impl_padding_l0_b(rec:(List Int)→Q20)(ke0:(List Int)→Q20)(a0:Int)(z90030:(List Int)):Q20:=
 (bindO (impl_size_byte_r z90030) fun(b2:Int)=>(cond (!(decide ((Int.tmod (IntKind.wrap .i64 (a0+b2)) (32:Int))=(24:Int))))
 (cond (decide ((z90030.length+1)*1≤140737488355328)&&decide (z90030.length+1≤9223372036854775807))
 (rec (z90030++[(0:Int)]))
 none)
 (ke0 z90030)))
def impl_padding_l0_L(ke0:(List Int)→Q20)(a0:Int):Nat→(List Int)→Q20
 |0=>fun _=>none
 |n+1=>impl_padding_l0_b (impl_padding_l0_L ke0 a0 n) ke0 a0
def impl_padding_r(a0:Int):Q20:=
 (impl_padding_l0_L (fun z90030=>(bindO (impl_appendLittle_r z90030 (IntKind.wrap .u64 a0) (8:Int)) fun(b3:(List Int))=>(some b3))) a0 FUEL [(128:Int)])
def f118_l0_p(k:Nat)(K:Ex→St→Q20)(n:Nat)(a0:Int)(z90030:(List Int)):Q20:=loopK (f118_cx k) 0 (execK (f118_cx k) (callK (f118_cx k) 8) 0 118 (sub f118_c [1,1,0,0,0])) f118_l0_cut K n (f118_l0_s a0 z90030)

theorem f118_l0_exit0(k:Nat)(a0:Int)(z90030:(List Int)):((blkK 0 (seqK (execK (f118_cx k) (callK (f118_cx k) 8) 0 118 (sub f118_c [1,1,1])) (finK (f118_cx k) f118_i impl_padding_sh))) (.exit 0) (f118_l0_o0 a0 z90030):Q20)=
 ((bindO (impl_appendLittle_r z90030 (IntKind.wrap .u64 a0) (8:Int)) fun(b3:(List Int))=>(some b3)):Q20):=by kernel_rfl

theorem f118_l0_round(k:Nat)(K:Ex→St→Q20)(n:Nat)(a0:Int)(z90030:(List Int)):(f118_l0_p k K (n+1) a0 z90030:Q20)=impl_padding_l0_b ((fun z90030=>f118_l0_p k K n a0 z90030)) (fun z90030=>K (.exit 0) (f118_l0_o0 a0 z90030)) a0 z90030:=by kernel_rfl

theorem f118_l0_L_eq(K:Ex→St→Q20)(a0:Int):∀(n:Nat) (z90030:(List Int)),(f118_l0_p FUEL K n a0 z90030:Q20)=impl_padding_l0_L (fun z90030=>K (.exit 0) (f118_l0_o0 a0 z90030)) a0 n z90030:=by
 intro n
 induction n with
 |zero=>intros; rfl
 |succ n ih=>
  intro z90030
  exact(f118_l0_round FUEL K n a0 z90030).trans (congrArg (fun f=>impl_padding_l0_b f (fun z90030=>K (.exit 0) (f118_l0_o0 a0 z90030)) a0 z90030) (funext fun z90030=>ih z90030))

theorem f118_start(k:Nat)(a0:Int):fnK (f118_cx k) 8 118 f118_i impl_padding_sh [.pv (.int .i64) a0]=
 ((loopK (f118_cx k) 0 (execK (f118_cx k) (callK (f118_cx k) 8) 0 118 (sub f118_c [1,1,0,0,0])) f118_l0_cut (blkK 0 (seqK (execK (f118_cx k) (callK (f118_cx k) 8) 0 118 (sub f118_c [1,1,1])) (finK (f118_cx k) f118_i impl_padding_sh))) k (f118_l0_s a0 [(128:Int)])):Q20):=by kernel_rfl

theorem f118_run(a0:Int):fnK (f118_cx FUEL) 8 118 f118_i impl_padding_sh [.pv (.int .i64) a0]=impl_padding_r a0:=
 (f118_start FUEL a0).trans ((f118_l0_L_eq _ a0 FUEL [(128:Int)]).trans (congrArg (fun e0=>impl_padding_l0_L e0 a0 FUEL [(128:Int)]) (funext fun z90030=>(f118_l0_exit0 FUEL a0 z90030).trans (rfl))))

def f118_con:Con:={ps:=K14,sh:=impl_padding_sh,raw:=fun x=>impl_padding_r x.1}
theorem f118_conOk:ConOk Tryz.prog 118 f118_con:=con_of_fn (f118_tabs FUEL) (depth:=8) f118_ok fun x y h=>(f118_run x.1).trans h

end
end Go.Ai.G
