/- Made by a program of this work out of the program: tables and plain functions,with the proof that each Go function does what its plain function says. No conditions. -/
import Derived.Test.YtgchclimojffeaaGreatExactTakeBlobsFn0
namespace Go.Ai.G
noncomputable section
open Go.Proofs
open Go.Ai
set_option linter.unusedVariables false
set_option linter.unusedSimpArgs false
set_option maxRecDepth 100000

def f117_l0_cut:Cut:={keep:=[0,3,9,10,11],stk:=[],ids:=[],own:=[],outs:=[(1,[0,3],[])]}
def f117_l1_cut:Cut:={keep:=[6,25,26,27],stk:=[],ids:=[90060],own:=[(6,90060,70)],outs:=[(3,[6],[90060])]}
def f117_cx(k:Nat):Cx:=mkC [] [] [(133,f133_tak)] [] [(117,[(0,f117_l0_cut),(2,f117_l1_cut)])] k [] false
theorem f117_tabs(k:Nat):TabsOk Tryz.prog (f117_cx k):=mkC_ok trivial ⟨f133_takOk,trivial⟩ trivial trivial
abbrev slices_Concat_byte_byte_sh:List Sh:=[.own 5 (.int .u8)]
abbrev Q53:Type:=Option (shDen slices_Concat_byte_byte_sh)
def f117_l0_s(a0:T7)(x3:Int)(x11:Int):St:={env:=(.pv K13 a0:: .dead:: .dead:: .pv (.int .i64) x3::(dd 5 (.pv K13 a0:: .pv (.int .i64) (a0.length:Int):: .pv (.int .i64) x11::(dd 24 [])))),stk:=[],heap:=[]}
def f117_l0_o0(a0:T7)(x3:Int):St:={env:=(.pv K13 a0:: .dead:: .dead:: .pv (.int .i64) x3::(dd 32 [])),stk:=[],heap:=[]}
def f117_l1_s(a0:T7)(z90060:(List Int))(x27:Int):St:={env:=(dd 6 (.sl 90060 (.int .u8)::(dd 18 (.pv K13 a0:: .pv (.int .i64) (a0.length:Int):: .pv (.int .i64) x27::(dd 8 []))))),stk:=[],heap:=[(90060,.arr 5 (.int .u8) z90060)]}
def f117_l1_o2(z90060:(List Int)):St:={env:=(dd 6 (.sl 90060 (.int .u8)::(dd 29 []))),stk:=[],heap:=[(90060,.arr 5 (.int .u8) z90060)]}
def slices_Concat_byte_byte_l1_b(rec:(List Int)→Int→Q53)(ke2:(List Int)→Q53)(a0:T7)(z90060:(List Int))(x27:Int):Q53:=
 (cond (decide (x27<(a0.length:Int)))
 (cond ((decide ((0:Int)≤x27))&&(decide (x27<(a0.length:Int))))
 (cond (decide ((z90060.length+(a0.getD (x27.toNat) []).length)*1≤140737488355328)&&decide (z90060.length+(a0.getD (x27.toNat) []).length≤9223372036854775807))
 (rec (z90060++(a0.getD (x27.toNat) [])) (IntKind.wrap .i64 (x27+(1:Int))))
 none)
 none)
 (ke2 z90060))
def slices_Concat_byte_byte_l1_L(ke2:(List Int)→Q53)(a0:T7):Nat→(List Int)→Int→Q53
 |0=>fun _ _=>none
 |n+1=>slices_Concat_byte_byte_l1_b (slices_Concat_byte_byte_l1_L ke2 a0 n) ke2 a0
def slices_Concat_byte_byte_l0_b(rec:Int→Int→Q53)(ke0:Int→Q53)(a0:T7)(x3:Int)(x11:Int):Q53:=
 (cond (decide (x11<(a0.length:Int)))
 (cond ((decide ((0:Int)≤x11))&&(decide (x11<(a0.length:Int))))
 (cond (decide ((IntKind.wrap .i64 (x3+((a0.getD (x11.toNat) []).length:Int)))<(0:Int)))
 none
 (rec (IntKind.wrap .i64 (x3+((a0.getD (x11.toNat) []).length:Int))) (IntKind.wrap .i64 (x11+(1:Int)))))
 none)
 (ke0 x3))
def slices_Concat_byte_byte_l0_L(ke0:Int→Q53)(a0:T7):Nat→Int→Int→Q53
 |0=>fun _ _=>none
 |n+1=>slices_Concat_byte_byte_l0_b (slices_Concat_byte_byte_l0_L ke0 a0 n) ke0 a0
def slices_Concat_byte_byte_r(a0:T7):Q53:=
 (slices_Concat_byte_byte_l0_L (fun x3=>(bindO (slices_Grow_byte_byte_tr [] x3) fun(b1:(List Int))=>(slices_Concat_byte_byte_l1_L (fun z90060=>(some z90060)) a0 FUEL b1 (0:Int)))) a0 FUEL (0:Int) (0:Int))
def f117_l1_p(k:Nat)(K:Ex→St→Q53)(n:Nat)(a0:T7)(z90060:(List Int))(x27:Int):Q53:=loopK (f117_cx k) 0 (execK (f117_cx k) (callK (f117_cx k) 8) 0 117 (sub f117_c [1,1,1,1,0,1,0,0])) f117_l1_cut K n (f117_l1_s a0 z90060 x27)

theorem f117_l1_exit2(k:Nat)(z90060:(List Int)):((blkK 2 (seqK (execK (f117_cx k) (callK (f117_cx k) 8) 0 117 (sub f117_c [1,1,1,1,1])) (finK (f117_cx k) f117_i slices_Concat_byte_byte_sh))) (.exit 2) (f117_l1_o2 z90060):Q53)=
 ((some z90060):Q53):=by kernel_rfl

theorem f117_l1_round(k:Nat)(K:Ex→St→Q53)(n:Nat)(a0:T7)(z90060:(List Int))(x27:Int):(f117_l1_p k K (n+1) a0 z90060 x27:Q53)=slices_Concat_byte_byte_l1_b ((fun z90060 x27=>f117_l1_p k K n a0 z90060 x27)) (fun z90060=>K (.exit 2) (f117_l1_o2 z90060)) a0 z90060 x27:=by kernel_rfl

theorem f117_l1_L_eq(K:Ex→St→Q53)(a0:T7):∀(n:Nat) (z90060:(List Int)) (x27:Int),(f117_l1_p FUEL K n a0 z90060 x27:Q53)=slices_Concat_byte_byte_l1_L (fun z90060=>K (.exit 2) (f117_l1_o2 z90060)) a0 n z90060 x27:=by
 intro n
 induction n with
 |zero=>intros; rfl
 |succ n ih=>
  intro z90060 x27
  exact(f117_l1_round FUEL K n a0 z90060 x27).trans (congrArg (fun f=>slices_Concat_byte_byte_l1_b f (fun z90060=>K (.exit 2) (f117_l1_o2 z90060)) a0 z90060 x27) (funext fun z90060=>funext fun x27=>ih z90060 x27))

def f117_l0_p(k:Nat)(K:Ex→St→Q53)(n:Nat)(a0:T7)(x3:Int)(x11:Int):Q53:=loopK (f117_cx k) 0 (execK (f117_cx k) (callK (f117_cx k) 8) 0 117 (sub f117_c [1,1,0,1,0,0])) f117_l0_cut K n (f117_l0_s a0 x3 x11)

theorem f117_l0_exit0(k:Nat)(a0:T7)(x3:Int):((blkK 0 (seqK (execK (f117_cx k) (callK (f117_cx k) 8) 0 117 (sub f117_c [1,1,1])) (finK (f117_cx k) f117_i slices_Concat_byte_byte_sh))) (.exit 0) (f117_l0_o0 a0 x3):Q53)=
 ((bindO (slices_Grow_byte_byte_tr [] x3) fun(b1:(List Int))=>(loopK (f117_cx k) 0 (execK (f117_cx k) (callK (f117_cx k) 8) 0 117 (sub f117_c [1,1,1,1,0,1,0,0])) f117_l1_cut (blkK 2 (seqK (execK (f117_cx k) (callK (f117_cx k) 8) 0 117 (sub f117_c [1,1,1,1,1])) (finK (f117_cx k) f117_i slices_Concat_byte_byte_sh))) k (f117_l1_s a0 b1 (0:Int)))):Q53):=by kernel_rfl

theorem f117_l0_round(k:Nat)(K:Ex→St→Q53)(n:Nat)(a0:T7)(x3:Int)(x11:Int):(f117_l0_p k K (n+1) a0 x3 x11:Q53)=slices_Concat_byte_byte_l0_b ((fun x3 x11=>f117_l0_p k K n a0 x3 x11)) (fun x3=>K (.exit 0) (f117_l0_o0 a0 x3)) a0 x3 x11:=by kernel_rfl

theorem f117_l0_L_eq(K:Ex→St→Q53)(a0:T7):∀(n:Nat) (x3:Int) (x11:Int),(f117_l0_p FUEL K n a0 x3 x11:Q53)=slices_Concat_byte_byte_l0_L (fun x3=>K (.exit 0) (f117_l0_o0 a0 x3)) a0 n x3 x11:=by
 intro n
 induction n with
 |zero=>intros; rfl
 |succ n ih=>
  intro x3 x11
  exact(f117_l0_round FUEL K n a0 x3 x11).trans (congrArg (fun f=>slices_Concat_byte_byte_l0_b f (fun x3=>K (.exit 0) (f117_l0_o0 a0 x3)) a0 x3 x11) (funext fun x3=>funext fun x11=>ih x3 x11))

theorem f117_start(k:Nat)(a0:T7):fnK (f117_cx k) 8 117 f117_i slices_Concat_byte_byte_sh [.pv K13 a0]=
 ((loopK (f117_cx k) 0 (execK (f117_cx k) (callK (f117_cx k) 8) 0 117 (sub f117_c [1,1,0,1,0,0])) f117_l0_cut (blkK 0 (seqK (execK (f117_cx k) (callK (f117_cx k) 8) 0 117 (sub f117_c [1,1,1])) (finK (f117_cx k) f117_i slices_Concat_byte_byte_sh))) k (f117_l0_s a0 (0:Int) (0:Int))):Q53):=by kernel_rfl

theorem f117_run(a0:T7):fnK (f117_cx FUEL) 8 117 f117_i slices_Concat_byte_byte_sh [.pv K13 a0]=slices_Concat_byte_byte_r a0:=
 (f117_start FUEL a0).trans ((f117_l0_L_eq _ a0 FUEL (0:Int) (0:Int)).trans (congrArg (fun e0=>slices_Concat_byte_byte_l0_L e0 a0 FUEL (0:Int) (0:Int)) (funext fun x3=>(f117_l0_exit0 FUEL a0 x3).trans (bindC (fun b1=>(f117_l1_L_eq _ a0 FUEL b1 (0:Int)).trans (congrArg (fun e0=>slices_Concat_byte_byte_l1_L e0 a0 FUEL b1 (0:Int)) (funext fun z90060=>(f117_l1_exit2 FUEL z90060).trans (rfl))))))))

def f117_con:Con:={ps:=(.pair K13 .unit),sh:=slices_Concat_byte_byte_sh,raw:=fun x=>slices_Concat_byte_byte_r x.1}
theorem f117_conOk:ConOk Tryz.prog 117 f117_con:=con_of_fn (f117_tabs FUEL) (depth:=8) f117_ok fun x y h=>(f117_run x.1).trans h

def f116_l0_cut:Cut:={keep:=[0,4],stk:=[],ids:=[90040],own:=[(4,90040,25)],outs:=[(1,[0,4],[90040])]}
def f116_cx(k:Nat):Cx:=mkC [] [] [] [] [(116,[(0,f116_l0_cut)])] k [] false
theorem f116_tabs(k:Nat):TabsOk Tryz.prog (f116_cx k):=mkC_ok trivial trivial trivial trivial
abbrev impl_blocks_sh:List Sh:=[.own 43 (.arr 32 (.int .u8)),.pl K16]
abbrev Q14:Type:=Option (shDen impl_blocks_sh)
def f116_l0_s(x0:(List Int))(z90040:T7):St:={env:=(.pv K16 x0::(dd 3 (.sl 90040 (.arr 32 (.int .u8))::(dd 14 [])))),stk:=[],heap:=[(90040,.arr 43 (.arr 32 (.int .u8)) z90040)]}
def f116_l0_o0(x0:(List Int))(z90040:T7):St:={env:=(.pv K16 x0::(dd 3 (.sl 90040 (.arr 32 (.int .u8))::(dd 14 [])))),stk:=[],heap:=[(90040,.arr 43 (.arr 32 (.int .u8)) z90040)]}
def impl_blocks_l0_b(rec:(List Int)→T7→Q14)(ke0:(List Int)→T7→Q14)(x0:(List Int))(z90040:T7):Q14:=
 (cond (decide ((32:Int)≤(x0.length:Int)))
 (cond (decide (32≤x0.length))
 (cond (decide ((z90040.length+1)*32≤140737488355328)&&decide (z90040.length+1≤9223372036854775807))
 (cond (decide ((32:Int)≤(x0.length:Int)))
 (rec (cutL x0 32 (x0.length)) (z90040++[(x0.take 32)]))
 none)
 none)
 none)
 (ke0 x0 z90040))
def impl_blocks_l0_L(ke0:(List Int)→T7→Q14):Nat→(List Int)→T7→Q14
 |0=>fun _ _=>none
 |n+1=>impl_blocks_l0_b (impl_blocks_l0_L ke0 n) ke0
def impl_blocks_r(a0:(List Int)):Q14:=
 (impl_blocks_l0_L (fun x0 z90040=>(some (z90040,x0))) FUEL a0 [])
def f116_l0_p(k:Nat)(K:Ex→St→Q14)(n:Nat)(x0:(List Int))(z90040:T7):Q14:=loopK (f116_cx k) 0 (execK (f116_cx k) (callK (f116_cx k) 8) 0 116 (sub f116_c [1,1,0,0,0])) f116_l0_cut K n (f116_l0_s x0 z90040)

theorem f116_l0_exit0(k:Nat)(x0:(List Int))(z90040:T7):((blkK 0 (seqK (execK (f116_cx k) (callK (f116_cx k) 8) 0 116 (sub f116_c [1,1,1])) (finK (f116_cx k) f116_i impl_blocks_sh))) (.exit 0) (f116_l0_o0 x0 z90040):Q14)=
 ((some (z90040,x0)):Q14):=by kernel_rfl

theorem f116_l0_round(k:Nat)(K:Ex→St→Q14)(n:Nat)(x0:(List Int))(z90040:T7):(f116_l0_p k K (n+1) x0 z90040:Q14)=impl_blocks_l0_b ((fun x0 z90040=>f116_l0_p k K n x0 z90040)) (fun x0 z90040=>K (.exit 0) (f116_l0_o0 x0 z90040)) x0 z90040:=by kernel_rfl

theorem f116_l0_L_eq(K:Ex→St→Q14):∀(n:Nat) (x0:(List Int)) (z90040:T7),(f116_l0_p FUEL K n x0 z90040:Q14)=impl_blocks_l0_L (fun x0 z90040=>K (.exit 0) (f116_l0_o0 x0 z90040)) n x0 z90040:=by
 intro n
 induction n with
 |zero=>intros; rfl
 |succ n ih=>
  intro x0 z90040
  exact(f116_l0_round FUEL K n x0 z90040).trans (congrArg (fun f=>impl_blocks_l0_b f (fun x0 z90040=>K (.exit 0) (f116_l0_o0 x0 z90040)) x0 z90040) (funext fun x0=>funext fun z90040=>ih x0 z90040))

theorem f116_start(k:Nat)(a0:(List Int)):fnK (f116_cx k) 8 116 f116_i impl_blocks_sh [.pv K16 a0]=
 ((loopK (f116_cx k) 0 (execK (f116_cx k) (callK (f116_cx k) 8) 0 116 (sub f116_c [1,1,0,0,0])) f116_l0_cut (blkK 0 (seqK (execK (f116_cx k) (callK (f116_cx k) 8) 0 116 (sub f116_c [1,1,1])) (finK (f116_cx k) f116_i impl_blocks_sh))) k (f116_l0_s a0 [])):Q14):=by kernel_rfl

theorem f116_run(a0:(List Int)):fnK (f116_cx FUEL) 8 116 f116_i impl_blocks_sh [.pv K16 a0]=impl_blocks_r a0:=
 (f116_start FUEL a0).trans ((f116_l0_L_eq _ FUEL a0 []).trans (congrArg (fun e0=>impl_blocks_l0_L e0 FUEL a0 []) (funext fun x0=>funext fun z90040=>(f116_l0_exit0 FUEL x0 z90040).trans (rfl))))

def f116_con:Con:={ps:=K11,sh:=impl_blocks_sh,raw:=fun x=>impl_blocks_r x.1}
theorem f116_conOk:ConOk Tryz.prog 116 f116_con:=con_of_fn (f116_tabs FUEL) (depth:=8) f116_ok fun x y h=>(f116_run x.1).trans h

def f121_l0_cut:Cut:={keep:=[0,2,3,6],stk:=[],ids:=[20,30],own:=[],outs:=[(1,[2,3],[20,30])]}
def f121_cx(k:Nat):Cx:=mkC [] [] [] [] [(121,[(0,f121_l0_cut)])] k [] false
theorem f121_tabs(k:Nat):TabsOk Tryz.prog (f121_cx k):=mkC_ok trivial trivial trivial trivial
abbrev impl_StartState_sh:List Sh:=[.pl (.arr 8 (.int .u32))]
abbrev Q7:Type:=Option (shDen impl_StartState_sh)
def f121_l0_s(a0:Int)(x6:Int)(y30:(List Int)):St:={env:=(.pv (.int .u8) a0:: .dead:: .ptr 20 (.arr 8 (.int .u32)) []:: .ptr 30 (.arr 8 (.int .u32)) []:: .dead:: .dead:: .pv (.int .i64) x6::(dd 13 [])),stk:=[],heap:=[(20,.var (.arr 8 (.int .u32)) (.pv (.arr 8 (.int .u32)) (List.replicate 8 (0:Int)))),(30,.var (.arr 8 (.int .u32)) (.pv (.arr 8 (.int .u32)) y30))]}
def f121_l0_o0(y30:(List Int)):St:={env:=(.dead:: .dead:: .ptr 20 (.arr 8 (.int .u32)) []:: .ptr 30 (.arr 8 (.int .u32)) []::(dd 16 [])),stk:=[],heap:=[(20,.var (.arr 8 (.int .u32)) (.pv (.arr 8 (.int .u32)) (List.replicate 8 (0:Int)))),(30,.var (.arr 8 (.int .u32)) (.pv (.arr 8 (.int .u32)) y30))]}
def impl_StartState_l0_b(rec:Int→(List Int)→Q7)(ke0:(List Int)→Q7)(a0:Int)(x6:Int)(y30:(List Int)):Q7:=
 (cond (decide (x6<(8:Int)))
 (cond ((decide ((0:Int)≤x6))&&(decide (x6<(8:Int))))
 (rec (IntKind.wrap .i64 (x6+(1:Int))) (y30.set (x6.toNat) (IntKind.wrap .u32 ((IntKind.wrap .u32 ((16777619:Int)*(IntKind.wrap .u32 (IntKind.wrap .i64 (x6+(1:Int))))))+(IntKind.wrap .u32 a0)))))
 none)
 (ke0 y30))
def impl_StartState_l0_L(ke0:(List Int)→Q7)(a0:Int):Nat→Int→(List Int)→Q7
 |0=>fun _ _=>none
 |n+1=>impl_StartState_l0_b (impl_StartState_l0_L ke0 a0 n) ke0 a0
def impl_StartState_r(a0:Int):Q7:=
 (impl_StartState_l0_L (fun y30=>(some y30)) a0 FUEL (0:Int) (List.replicate 8 (0:Int)))
def f121_l0_p(k:Nat)(K:Ex→St→Q7)(n:Nat)(a0:Int)(x6:Int)(y30:(List Int)):Q7:=loopK (f121_cx k) 0 (execK (f121_cx k) (callK (f121_cx k) 8) 0 121 (sub f121_c [1,1,0,1,0,0])) f121_l0_cut K n (f121_l0_s a0 x6 y30)

theorem f121_l0_exit0(k:Nat)(y30:(List Int)):((blkK 0 (seqK (execK (f121_cx k) (callK (f121_cx k) 8) 0 121 (sub f121_c [1,1,1])) (finK (f121_cx k) f121_i impl_StartState_sh))) (.exit 0) (f121_l0_o0 y30):Q7)=
 ((some y30):Q7):=by kernel_rfl

theorem f121_l0_round(k:Nat)(K:Ex→St→Q7)(n:Nat)(a0:Int)(x6:Int)(y30:(List Int)):(f121_l0_p k K (n+1) a0 x6 y30:Q7)=impl_StartState_l0_b ((fun x6 y30=>f121_l0_p k K n a0 x6 y30)) (fun y30=>K (.exit 0) (f121_l0_o0 y30)) a0 x6 y30:=by kernel_rfl

theorem f121_l0_L_eq(K:Ex→St→Q7)(a0:Int):∀(n:Nat) (x6:Int) (y30:(List Int)),(f121_l0_p FUEL K n a0 x6 y30:Q7)=impl_StartState_l0_L (fun y30=>K (.exit 0) (f121_l0_o0 y30)) a0 n x6 y30:=by
 intro n
 induction n with
 |zero=>intros; rfl
 |succ n ih=>
  intro x6 y30
  exact(f121_l0_round FUEL K n a0 x6 y30).trans (congrArg (fun f=>impl_StartState_l0_b f (fun y30=>K (.exit 0) (f121_l0_o0 y30)) a0 x6 y30) (funext fun x6=>funext fun y30=>ih x6 y30))

theorem f121_start(k:Nat)(a0:Int):fnK (f121_cx k) 8 121 f121_i impl_StartState_sh [.pv (.int .u8) a0]=
 ((loopK (f121_cx k) 0 (execK (f121_cx k) (callK (f121_cx k) 8) 0 121 (sub f121_c [1,1,0,1,0,0])) f121_l0_cut (blkK 0 (seqK (execK (f121_cx k) (callK (f121_cx k) 8) 0 121 (sub f121_c [1,1,1])) (finK (f121_cx k) f121_i impl_StartState_sh))) k (f121_l0_s a0 (0:Int) (List.replicate 8 (0:Int)))):Q7):=by kernel_rfl

theorem f121_run(a0:Int):fnK (f121_cx FUEL) 8 121 f121_i impl_StartState_sh [.pv (.int .u8) a0]=impl_StartState_r a0:=
 (f121_start FUEL a0).trans ((f121_l0_L_eq _ a0 FUEL (0:Int) (List.replicate 8 (0:Int))).trans (congrArg (fun e0=>impl_StartState_l0_L e0 a0 FUEL (0:Int) (List.replicate 8 (0:Int))) (funext fun y30=>(f121_l0_exit0 FUEL y30).trans (rfl))))

def f121_con:Con:={ps:=K15,sh:=impl_StartState_sh,raw:=fun x=>impl_StartState_r x.1}
theorem f121_conOk:ConOk Tryz.prog 121 f121_con:=con_of_fn (f121_tabs FUEL) (depth:=8) f121_ok fun x y h=>(f121_run x.1).trans h

def f150_l0_cut:Cut:={keep:=[3,6,7,8],stk:=[],ids:=[],own:=[],outs:=[(1,[3],[])]}
def f150_cx(k:Nat):Cx:=mkC [] [] [] [] [(150,[(0,f150_l0_cut)])] k [] false
theorem f150_tabs(k:Nat):TabsOk Tryz.prog (f150_cx k):=mkC_ok trivial trivial trivial trivial
abbrev impl_littleNumber_sh:List Sh:=[.pl (.int .u64)]
abbrev Q18:Type:=Option (shDen impl_littleNumber_sh)
def f150_l0_s(a0:(List Int))(x3:Int)(x8:Int):St:={env:=(dd 3 (.pv (.int .u64) x3:: .dead:: .dead:: .pv K16 a0:: .pv (.int .i64) (a0.length:Int):: .pv (.int .i64) x8::(dd 13 []))),stk:=[],heap:=[]}
def f150_l0_o0(x3:Int):St:={env:=(dd 3 (.pv (.int .u64) x3::(dd 18 []))),stk:=[],heap:=[]}
def impl_littleNumber_l0_b(rec:Int→Int→Q18)(ke0:Int→Q18)(a0:(List Int))(x3:Int)(x8:Int):Q18:=
 (cond (decide (x8<(a0.length:Int)))
 (cond ((decide ((0:Int)≤x8))&&(decide (x8<(a0.length:Int))))
 (cond (decide ((IntKind.wrap .i64 ((8:Int)*x8))<(0:Int)))
 none
 (rec (bitI .or .u64 x3 (shlI .u64 (IntKind.wrap .u64 (a0.getD (x8.toNat) (0:Int))) (IntKind.wrap .i64 ((8:Int)*x8)))) (IntKind.wrap .i64 (x8+(1:Int)))))
 none)
 (ke0 x3))
def impl_littleNumber_l0_L(ke0:Int→Q18)(a0:(List Int)):Nat→Int→Int→Q18
 |0=>fun _ _=>none
 |n+1=>impl_littleNumber_l0_b (impl_littleNumber_l0_L ke0 a0 n) ke0 a0
def impl_littleNumber_r(a0:(List Int)):Q18:=
 (impl_littleNumber_l0_L (fun x3=>(some x3)) a0 FUEL (0:Int) (0:Int))
def f150_l0_p(k:Nat)(K:Ex→St→Q18)(n:Nat)(a0:(List Int))(x3:Int)(x8:Int):Q18:=loopK (f150_cx k) 0 (execK (f150_cx k) (callK (f150_cx k) 8) 0 150 (sub f150_c [1,1,0,1,0,0])) f150_l0_cut K n (f150_l0_s a0 x3 x8)

theorem f150_l0_exit0(k:Nat)(x3:Int):((blkK 0 (seqK (execK (f150_cx k) (callK (f150_cx k) 8) 0 150 (sub f150_c [1,1,1])) (finK (f150_cx k) f150_i impl_littleNumber_sh))) (.exit 0) (f150_l0_o0 x3):Q18)=
 ((some x3):Q18):=by kernel_rfl

theorem f150_l0_round(k:Nat)(K:Ex→St→Q18)(n:Nat)(a0:(List Int))(x3:Int)(x8:Int):(f150_l0_p k K (n+1) a0 x3 x8:Q18)=impl_littleNumber_l0_b ((fun x3 x8=>f150_l0_p k K n a0 x3 x8)) (fun x3=>K (.exit 0) (f150_l0_o0 x3)) a0 x3 x8:=by kernel_rfl

theorem f150_l0_L_eq(K:Ex→St→Q18)(a0:(List Int)):∀(n:Nat) (x3:Int) (x8:Int),(f150_l0_p FUEL K n a0 x3 x8:Q18)=impl_littleNumber_l0_L (fun x3=>K (.exit 0) (f150_l0_o0 x3)) a0 n x3 x8:=by
 intro n
 induction n with
 |zero=>intros; rfl
 |succ n ih=>
  intro x3 x8
  exact(f150_l0_round FUEL K n a0 x3 x8).trans (congrArg (fun f=>impl_littleNumber_l0_b f (fun x3=>K (.exit 0) (f150_l0_o0 x3)) a0 x3 x8) (funext fun x3=>funext fun x8=>ih x3 x8))

theorem f150_start(k:Nat)(a0:(List Int)):fnK (f150_cx k) 8 150 f150_i impl_littleNumber_sh [.pv K16 a0]=
 ((loopK (f150_cx k) 0 (execK (f150_cx k) (callK (f150_cx k) 8) 0 150 (sub f150_c [1,1,0,1,0,0])) f150_l0_cut (blkK 0 (seqK (execK (f150_cx k) (callK (f150_cx k) 8) 0 150 (sub f150_c [1,1,1])) (finK (f150_cx k) f150_i impl_littleNumber_sh))) k (f150_l0_s a0 (0:Int) (0:Int))):Q18):=by kernel_rfl

theorem f150_run(a0:(List Int)):fnK (f150_cx FUEL) 8 150 f150_i impl_littleNumber_sh [.pv K16 a0]=impl_littleNumber_r a0:=
 (f150_start FUEL a0).trans ((f150_l0_L_eq _ a0 FUEL (0:Int) (0:Int)).trans (congrArg (fun e0=>impl_littleNumber_l0_L e0 a0 FUEL (0:Int) (0:Int)) (funext fun x3=>(f150_l0_exit0 FUEL x3).trans (rfl))))

def f150_con:Con:={ps:=K11,sh:=impl_littleNumber_sh,raw:=fun x=>impl_littleNumber_r x.1}
theorem f150_conOk:ConOk Tryz.prog 150 f150_con:=con_of_fn (f150_tabs FUEL) (depth:=8) f150_ok fun x y h=>(f150_run x.1).trans h

def f151_cx(k:Nat):Cx:=mkC [] [] [] [] [] k [] false
theorem f151_tabs(k:Nat):TabsOk Tryz.prog (f151_cx k):=mkC_ok trivial trivial trivial trivial
abbrev math_bits_RotateLeft32_sh:List Sh:=[.pl (.int .u32)]
abbrev Q47:Type:=Option (shDen math_bits_RotateLeft32_sh)
def math_bits_RotateLeft32_r(a0:Int)(a1:Int):Q47:=
 (cond (decide ((bitI .and .u64 (IntKind.wrap .u64 a1) (31:Int))<(0:Int)))
 none
 (cond (decide ((IntKind.wrap .u64 ((32:Int)-(bitI .and .u64 (IntKind.wrap .u64 a1) (31:Int))))<(0:Int)))
 none
 (some (bitI .or .u32 (shlI .u32 a0 (bitI .and .u64 (IntKind.wrap .u64 a1) (31:Int))) (shrI .u32 a0 (IntKind.wrap .u64 ((32:Int)-(bitI .and .u64 (IntKind.wrap .u64 a1) (31:Int)))))))))
theorem f151_run(a0:Int)(a1:Int):fnK (f151_cx FUEL) 8 151 f151_i math_bits_RotateLeft32_sh [.pv (.int .u32) a0,.pv (.int .i64) a1]=math_bits_RotateLeft32_r a0 a1:=by kernel_rfl

def f151_con:Con:={ps:=(.pair (.int .u32) K14),sh:=math_bits_RotateLeft32_sh,raw:=fun x=>math_bits_RotateLeft32_r x.1 x.2.1}
theorem f151_conOk:ConOk Tryz.prog 151 f151_con:=con_of_fn (f151_tabs FUEL) (depth:=8) f151_ok fun x y h=>(f151_run x.1 x.2.1).trans h

def f135_l0_cut:Cut:={keep:=[2,3,4,5,14],stk:=[],ids:=[20,30,40,50],own:=[],outs:=[(1,[2,4,5],[20,40,50])]}
def f135_l1_cut:Cut:={keep:=[2,4,5,7,29],stk:=[],ids:=[20,40,50,70],own:=[],outs:=[(3,[2,4,7],[20,40,70])]}
def f135_l2_cut:Cut:={keep:=[2,4,5,7,8,29,32],stk:=[],ids:=[20,40,50,70],own:=[],outs:=[(5,[2,4,5,7,29],[20,40,50,70])]}
def f135_l3_cut:Cut:={keep:=[2,4,7,74],stk:=[],ids:=[20,40,70],own:=[],outs:=[(7,[4,7],[40,70])]}
def f135_cx(k:Nat):Cx:=mkC [] [(150,f150_con),(151,f151_con)] [] [] [(135,[(0,f135_l0_cut),(2,f135_l1_cut),(4,f135_l2_cut),(6,f135_l3_cut)])] k [] false
theorem f135_tabs(k:Nat):TabsOk Tryz.prog (f135_cx k):=mkC_ok ⟨f150_conOk,f151_conOk,trivial⟩ trivial trivial trivial
abbrev impl_MixBlock_sh:List Sh:=[.pl (.arr 8 (.int .u32))]
abbrev Q5:Type:=Option (shDen impl_MixBlock_sh)
def f135_l0_s(a0:(List Int))(a1:(List Int))(x14:Int)(y50:(List Int)):St:={env:=(.dead:: .dead:: .ptr 20 (.arr 8 (.int .u32)) []:: .ptr 30 (.arr 32 (.int .u8)) []:: .ptr 40 (.arr 8 (.int .u32)) []:: .ptr 50 (.arr 8 (.int .u32)) []::(dd 8 (.pv (.int .i64) x14::(dd 72 [])))),stk:=[],heap:=[(20,.var (.arr 8 (.int .u32)) (.pv (.arr 8 (.int .u32)) a0)),(30,.var (.arr 32 (.int .u8)) (.pv (.arr 32 (.int .u8)) a1)),(40,.var (.arr 8 (.int .u32)) (.pv (.arr 8 (.int .u32)) (List.replicate 8 (0:Int)))),(50,.var (.arr 8 (.int .u32)) (.pv (.arr 8 (.int .u32)) y50))]}
def f135_l0_o0(a0:(List Int))(y50:(List Int)):St:={env:=(.dead:: .dead:: .ptr 20 (.arr 8 (.int .u32)) []:: .dead:: .ptr 40 (.arr 8 (.int .u32)) []:: .ptr 50 (.arr 8 (.int .u32)) []::(dd 81 [])),stk:=[],heap:=[(20,.var (.arr 8 (.int .u32)) (.pv (.arr 8 (.int .u32)) a0)),(40,.var (.arr 8 (.int .u32)) (.pv (.arr 8 (.int .u32)) (List.replicate 8 (0:Int)))),(50,.var (.arr 8 (.int .u32)) (.pv (.arr 8 (.int .u32)) y50))]}
def f135_l1_s(a0:(List Int))(y50:(List Int))(x29:Int)(y70:(List Int)):St:={env:=(.dead:: .dead:: .ptr 20 (.arr 8 (.int .u32)) []:: .dead:: .ptr 40 (.arr 8 (.int .u32)) []:: .ptr 50 (.arr 8 (.int .u32)) []:: .dead:: .ptr 70 (.arr 8 (.int .u32)) []::(dd 21 (.pv (.int .i64) x29::(dd 57 [])))),stk:=[],heap:=[(20,.var (.arr 8 (.int .u32)) (.pv (.arr 8 (.int .u32)) a0)),(40,.var (.arr 8 (.int .u32)) (.pv (.arr 8 (.int .u32)) (List.replicate 8 (0:Int)))),(50,.var (.arr 8 (.int .u32)) (.pv (.arr 8 (.int .u32)) y50)),(70,.var (.arr 8 (.int .u32)) (.pv (.arr 8 (.int .u32)) y70))]}
def f135_l1_o2(a0:(List Int))(y70:(List Int)):St:={env:=(.dead:: .dead:: .ptr 20 (.arr 8 (.int .u32)) []:: .dead:: .ptr 40 (.arr 8 (.int .u32)) []:: .dead:: .dead:: .ptr 70 (.arr 8 (.int .u32)) []::(dd 79 [])),stk:=[],heap:=[(20,.var (.arr 8 (.int .u32)) (.pv (.arr 8 (.int .u32)) a0)),(40,.var (.arr 8 (.int .u32)) (.pv (.arr 8 (.int .u32)) (List.replicate 8 (0:Int)))),(70,.var (.arr 8 (.int .u32)) (.pv (.arr 8 (.int .u32)) y70))]}
def f135_l2_s(a0:(List Int))(y50:(List Int))(x29:Int)(x32:Int)(y70:(List Int)):St:={env:=(.dead:: .dead:: .ptr 20 (.arr 8 (.int .u32)) []:: .dead:: .ptr 40 (.arr 8 (.int .u32)) []:: .ptr 50 (.arr 8 (.int .u32)) []:: .dead:: .ptr 70 (.arr 8 (.int .u32)) []:: .pv (.int .i64) x29::(dd 20 (.pv (.int .i64) x29:: .dead:: .dead:: .pv (.int .i64) x32::(dd 54 [])))),stk:=[],heap:=[(20,.var (.arr 8 (.int .u32)) (.pv (.arr 8 (.int .u32)) a0)),(40,.var (.arr 8 (.int .u32)) (.pv (.arr 8 (.int .u32)) (List.replicate 8 (0:Int)))),(50,.var (.arr 8 (.int .u32)) (.pv (.arr 8 (.int .u32)) y50)),(70,.var (.arr 8 (.int .u32)) (.pv (.arr 8 (.int .u32)) y70))]}
def f135_l2_o4(a0:(List Int))(y50:(List Int))(x29:Int)(y70:(List Int)):St:={env:=(.dead:: .dead:: .ptr 20 (.arr 8 (.int .u32)) []:: .dead:: .ptr 40 (.arr 8 (.int .u32)) []:: .ptr 50 (.arr 8 (.int .u32)) []:: .dead:: .ptr 70 (.arr 8 (.int .u32)) []::(dd 21 (.pv (.int .i64) x29::(dd 57 [])))),stk:=[],heap:=[(20,.var (.arr 8 (.int .u32)) (.pv (.arr 8 (.int .u32)) a0)),(40,.var (.arr 8 (.int .u32)) (.pv (.arr 8 (.int .u32)) (List.replicate 8 (0:Int)))),(50,.var (.arr 8 (.int .u32)) (.pv (.arr 8 (.int .u32)) y50)),(70,.var (.arr 8 (.int .u32)) (.pv (.arr 8 (.int .u32)) y70))]}
def f135_l3_s(a0:(List Int))(y70:(List Int))(x74:Int):St:={env:=(.dead:: .dead:: .ptr 20 (.arr 8 (.int .u32)) []:: .dead:: .ptr 40 (.arr 8 (.int .u32)) []:: .dead:: .dead:: .ptr 70 (.arr 8 (.int .u32)) []::(dd 66 (.pv (.int .i64) x74::(dd 12 [])))),stk:=[],heap:=[(20,.var (.arr 8 (.int .u32)) (.pv (.arr 8 (.int .u32)) a0)),(40,.var (.arr 8 (.int .u32)) (.pv (.arr 8 (.int .u32)) (List.replicate 8 (0:Int)))),(70,.var (.arr 8 (.int .u32)) (.pv (.arr 8 (.int .u32)) y70))]}
def f135_l3_o6(y70:(List Int)):St:={env:=(dd 4 (.ptr 40 (.arr 8 (.int .u32)) []:: .dead:: .dead:: .ptr 70 (.arr 8 (.int .u32)) []::(dd 79 []))),stk:=[],heap:=[(40,.var (.arr 8 (.int .u32)) (.pv (.arr 8 (.int .u32)) (List.replicate 8 (0:Int)))),(70,.var (.arr 8 (.int .u32)) (.pv (.arr 8 (.int .u32)) y70))]}
def impl_MixBlock_l3_b(rec:(List Int)→Int→Q5)(ke6:(List Int)→Q5)(a0:(List Int))(y70:(List Int))(x74:Int):Q5:=
 (cond (decide (x74<(8:Int)))
 (cond ((decide ((0:Int)≤x74))&&(decide (x74<(8:Int))))
 (cond ((decide ((0:Int)≤x74))&&(decide (x74<(8:Int))))
 (cond ((decide ((0:Int)≤x74))&&(decide (x74<(8:Int))))
 (rec (y70.set (x74.toNat) (bitI .xor .u32 (y70.getD (x74.toNat) (0:Int)) (a0.getD (x74.toNat) (0:Int)))) (IntKind.wrap .i64 (x74+(1:Int))))
 none)
 none)
 none)
 (ke6 y70))
def impl_MixBlock_l3_L(ke6:(List Int)→Q5)(a0:(List Int)):Nat→(List Int)→Int→Q5
 |0=>fun _ _=>none
 |n+1=>impl_MixBlock_l3_b (impl_MixBlock_l3_L ke6 a0 n) ke6 a0
def impl_MixBlock_l2_b(rec:Int→(List Int)→Q5)(ke4:(List Int)→Q5)(a0:(List Int))(y50:(List Int))(x29:Int)(x32:Int)(y70:(List Int)):Q5:=
 (cond (decide (x32<(8:Int)))
 (cond ((decide ((0:Int)≤x32))&&(decide (x32<(8:Int))))
 (cond ((decide ((0:Int)≤(Int.tmod (IntKind.wrap .i64 (x32+(IntKind.wrap .i64 ((3:Int)*x29)))) (8:Int))))&&(decide ((Int.tmod (IntKind.wrap .i64 (x32+(IntKind.wrap .i64 ((3:Int)*x29)))) (8:Int))<(8:Int))))
 (bindO (math_bits_RotateLeft32_r (IntKind.wrap .u32 ((IntKind.wrap .u32 ((y70.getD (x32.toNat) (0:Int))+(y50.getD ((Int.tmod (IntKind.wrap .i64 (x32+(IntKind.wrap .i64 ((3:Int)*x29)))) (8:Int)).toNat) (0:Int))))+(IntKind.wrap .u32 ((2654435769:Int)*(IntKind.wrap .u32 (IntKind.wrap .i64 ((IntKind.wrap .i64 ((IntKind.wrap .i64 ((8:Int)*x29))+x32))+(1:Int)))))))) (7:Int)) fun(b9:Int)=>(cond ((decide ((0:Int)≤(Int.tmod (IntKind.wrap .i64 (x32+(1:Int))) (8:Int))))&&(decide ((Int.tmod (IntKind.wrap .i64 (x32+(1:Int))) (8:Int))<(8:Int))))
 (cond ((decide ((0:Int)≤(Int.tmod (IntKind.wrap .i64 (x32+(5:Int))) (8:Int))))&&(decide ((Int.tmod (IntKind.wrap .i64 (x32+(5:Int))) (8:Int))<(8:Int))))
 (bindO (math_bits_RotateLeft32_r (y70.getD ((Int.tmod (IntKind.wrap .i64 (x32+(5:Int))) (8:Int)).toNat) (0:Int)) (13:Int)) fun(b10:Int)=>(cond ((decide ((0:Int)≤x32))&&(decide (x32<(8:Int))))
 (rec (IntKind.wrap .i64 (x32+(1:Int))) (y70.set (x32.toNat) (IntKind.wrap .u32 ((bitI .xor .u32 b9 (y70.getD ((Int.tmod (IntKind.wrap .i64 (x32+(1:Int))) (8:Int)).toNat) (0:Int)))+b10))))
 none))
 none)
 none))
 none)
 none)
 (ke4 y70))
def impl_MixBlock_l2_L(ke4:(List Int)→Q5)(a0:(List Int))(y50:(List Int))(x29:Int):Nat→Int→(List Int)→Q5
 |0=>fun _ _=>none
 |n+1=>impl_MixBlock_l2_b (impl_MixBlock_l2_L ke4 a0 y50 x29 n) ke4 a0 y50 x29
def impl_MixBlock_l1_b(rec:(List Int)→Int→(List Int)→Q5)(ke2:(List Int)→Q5)(a0:(List Int))(y50:(List Int))(x29:Int)(y70:(List Int)):Q5:=
 (cond (decide (x29<(12:Int)))
 (impl_MixBlock_l2_L (fun y70=>(rec y50 (IntKind.wrap .i64 (x29+(1:Int))) y70)) a0 y50 x29 FUEL (0:Int) y70)
 (ke2 y70))
def impl_MixBlock_l1_L(ke2:(List Int)→Q5)(a0:(List Int)):Nat→(List Int)→Int→(List Int)→Q5
 |0=>fun _ _ _=>none
 |n+1=>impl_MixBlock_l1_b (impl_MixBlock_l1_L ke2 a0 n) ke2 a0
def impl_MixBlock_l0_b(rec:Int→(List Int)→Q5)(ke0:(List Int)→Q5)(a0:(List Int))(a1:(List Int))(x14:Int)(y50:(List Int)):Q5:=
 (cond (decide (x14<(8:Int)))
 (cond ((decide ((0:Int)≤(IntKind.wrap .i64 ((IntKind.wrap .i64 ((4:Int)*x14))+(4:Int)))))&&(decide ((IntKind.wrap .i64 ((IntKind.wrap .i64 ((4:Int)*x14))+(4:Int)))≤(32:Int))))
 (cond ((decide ((0:Int)≤(IntKind.wrap .i64 ((4:Int)*x14))))&&(decide ((IntKind.wrap .i64 ((4:Int)*x14))≤(IntKind.wrap .i64 ((IntKind.wrap .i64 ((4:Int)*x14))+(4:Int))))))
 (bindO (impl_littleNumber_r (cutL a1 ((IntKind.wrap .i64 ((4:Int)*x14)).toNat) ((IntKind.wrap .i64 ((IntKind.wrap .i64 ((4:Int)*x14))+(4:Int))).toNat))) fun(b2:Int)=>(cond ((decide ((0:Int)≤x14))&&(decide (x14<(8:Int))))
 (rec (IntKind.wrap .i64 (x14+(1:Int))) (y50.set (x14.toNat) (IntKind.wrap .u32 b2)))
 none))
 none)
 none)
 (ke0 y50))
def impl_MixBlock_l0_L(ke0:(List Int)→Q5)(a0:(List Int))(a1:(List Int)):Nat→Int→(List Int)→Q5
 |0=>fun _ _=>none
 |n+1=>impl_MixBlock_l0_b (impl_MixBlock_l0_L ke0 a0 a1 n) ke0 a0 a1
def impl_MixBlock_r(a0:(List Int))(a1:(List Int)):Q5:=
 (impl_MixBlock_l0_L (fun y50=>(impl_MixBlock_l1_L (fun y70=>(impl_MixBlock_l3_L (fun y70=>(some y70)) a0 FUEL y70 (0:Int))) a0 FUEL y50 (0:Int) a0)) a0 a1 FUEL (0:Int) (List.replicate 8 (0:Int)))
def f135_l3_p(k:Nat)(K:Ex→St→Q5)(n:Nat)(a0:(List Int))(y70:(List Int))(x74:Int):Q5:=loopK (f135_cx k) 0 (execK (f135_cx k) (callK (f135_cx k) 8) 0 135 (sub f135_c [1,1,1,1,1,0,1,0,0])) f135_l3_cut K n (f135_l3_s a0 y70 x74)

theorem f135_l3_exit6(k:Nat)(y70:(List Int)):((blkK 6 (seqK (execK (f135_cx k) (callK (f135_cx k) 8) 0 135 (sub f135_c [1,1,1,1,1,1])) (finK (f135_cx k) f135_i impl_MixBlock_sh))) (.exit 6) (f135_l3_o6 y70):Q5)=
 ((some y70):Q5):=by kernel_rfl

theorem f135_l3_round(k:Nat)(K:Ex→St→Q5)(n:Nat)(a0:(List Int))(y70:(List Int))(x74:Int):(f135_l3_p k K (n+1) a0 y70 x74:Q5)=impl_MixBlock_l3_b ((fun y70 x74=>f135_l3_p k K n a0 y70 x74)) (fun y70=>K (.exit 6) (f135_l3_o6 y70)) a0 y70 x74:=by kernel_rfl

theorem f135_l3_L_eq(K:Ex→St→Q5)(a0:(List Int)):∀(n:Nat) (y70:(List Int)) (x74:Int),(f135_l3_p FUEL K n a0 y70 x74:Q5)=impl_MixBlock_l3_L (fun y70=>K (.exit 6) (f135_l3_o6 y70)) a0 n y70 x74:=by
 intro n
 induction n with
 |zero=>intros; rfl
 |succ n ih=>
  intro y70 x74
  exact(f135_l3_round FUEL K n a0 y70 x74).trans (congrArg (fun f=>impl_MixBlock_l3_b f (fun y70=>K (.exit 6) (f135_l3_o6 y70)) a0 y70 x74) (funext fun y70=>funext fun x74=>ih y70 x74))

def f135_l2_p(k:Nat)(K:Ex→St→Q5)(n:Nat)(a0:(List Int))(y50:(List Int))(x29:Int)(x32:Int)(y70:(List Int)):Q5:=loopK (f135_cx k) 0 (execK (f135_cx k) (callK (f135_cx k) 8) 0 135 (sub f135_c [1,1,1,1,0,1,0,0,1,1,0,0,1,1,0,0])) f135_l2_cut K n (f135_l2_s a0 y50 x29 x32 y70)

theorem f135_l2_exit4(k:Nat)(K:Ex→St→Q5)(n:Nat)(a0:(List Int))(y50:(List Int))(x29:Int)(y70:(List Int)):((blkK 4 (blkK 3 (seqK (execK (f135_cx k) (callK (f135_cx k) 8) 0 135 (sub f135_c [1,1,1,1,0,1,0,0,1,1,1])) (iterK (f135_cx k) 0 f135_l1_cut (loopK (f135_cx k) 0 (execK (f135_cx k) (callK (f135_cx k) 8) 0 135 (sub f135_c [1,1,1,1,0,1,0,0])) f135_l1_cut K n) K)))) (.exit 4) (f135_l2_o4 a0 y50 x29 y70):Q5)=
 ((loopK (f135_cx k) 0 (execK (f135_cx k) (callK (f135_cx k) 8) 0 135 (sub f135_c [1,1,1,1,0,1,0,0])) f135_l1_cut K n (f135_l1_s a0 y50 (IntKind.wrap .i64 (x29+(1:Int))) y70)):Q5):=by kernel_rfl

theorem f135_l2_round(k:Nat)(K:Ex→St→Q5)(n:Nat)(a0:(List Int))(y50:(List Int))(x29:Int)(x32:Int)(y70:(List Int)):(f135_l2_p k K (n+1) a0 y50 x29 x32 y70:Q5)=impl_MixBlock_l2_b ((fun x32 y70=>f135_l2_p k K n a0 y50 x29 x32 y70)) (fun y70=>K (.exit 4) (f135_l2_o4 a0 y50 x29 y70)) a0 y50 x29 x32 y70:=by kernel_rfl

theorem f135_l2_L_eq(K:Ex→St→Q5)(a0:(List Int))(y50:(List Int))(x29:Int):∀(n:Nat) (x32:Int) (y70:(List Int)),(f135_l2_p FUEL K n a0 y50 x29 x32 y70:Q5)=impl_MixBlock_l2_L (fun y70=>K (.exit 4) (f135_l2_o4 a0 y50 x29 y70)) a0 y50 x29 n x32 y70:=by
 intro n
 induction n with
 |zero=>intros; rfl
 |succ n ih=>
  intro x32 y70
  exact(f135_l2_round FUEL K n a0 y50 x29 x32 y70).trans (congrArg (fun f=>impl_MixBlock_l2_b f (fun y70=>K (.exit 4) (f135_l2_o4 a0 y50 x29 y70)) a0 y50 x29 x32 y70) (funext fun x32=>funext fun y70=>ih x32 y70))

def f135_l1_p(k:Nat)(K:Ex→St→Q5)(n:Nat)(a0:(List Int))(y50:(List Int))(x29:Int)(y70:(List Int)):Q5:=loopK (f135_cx k) 0 (execK (f135_cx k) (callK (f135_cx k) 8) 0 135 (sub f135_c [1,1,1,1,0,1,0,0])) f135_l1_cut K n (f135_l1_s a0 y50 x29 y70)

theorem f135_l1_round(k:Nat)(K:Ex→St→Q5)(n:Nat)(a0:(List Int))(y50:(List Int))(x29:Int)(y70:(List Int)):(f135_l1_p k K (n+1) a0 y50 x29 y70:Q5)=
 ((cond (decide (x29<(12:Int)))
 (loopK (f135_cx k) 0 (execK (f135_cx k) (callK (f135_cx k) 8) 0 135 (sub f135_c [1,1,1,1,0,1,0,0,1,1,0,0,1,1,0,0])) f135_l2_cut (blkK 4 (blkK 3 (seqK (execK (f135_cx k) (callK (f135_cx k) 8) 0 135 (sub f135_c [1,1,1,1,0,1,0,0,1,1,1])) (iterK (f135_cx k) 0 f135_l1_cut (loopK (f135_cx k) 0 (execK (f135_cx k) (callK (f135_cx k) 8) 0 135 (sub f135_c [1,1,1,1,0,1,0,0])) f135_l1_cut K n) K)))) k (f135_l2_s a0 y50 x29 (0:Int) y70))
 (K (.exit 2) (f135_l1_o2 a0 y70))):Q5):=by kernel_rfl

theorem f135_l1_exit2(k:Nat)(a0:(List Int))(y70:(List Int)):((blkK 2 (seqK (execK (f135_cx k) (callK (f135_cx k) 8) 0 135 (sub f135_c [1,1,1,1,1])) (finK (f135_cx k) f135_i impl_MixBlock_sh))) (.exit 2) (f135_l1_o2 a0 y70):Q5)=
 ((loopK (f135_cx k) 0 (execK (f135_cx k) (callK (f135_cx k) 8) 0 135 (sub f135_c [1,1,1,1,1,0,1,0,0])) f135_l3_cut (blkK 6 (seqK (execK (f135_cx k) (callK (f135_cx k) 8) 0 135 (sub f135_c [1,1,1,1,1,1])) (finK (f135_cx k) f135_i impl_MixBlock_sh))) k (f135_l3_s a0 y70 (0:Int))):Q5):=by kernel_rfl

theorem f135_l1_L_eq(K:Ex→St→Q5)(a0:(List Int)):∀(n:Nat) (y50:(List Int)) (x29:Int) (y70:(List Int)),(f135_l1_p FUEL K n a0 y50 x29 y70:Q5)=impl_MixBlock_l1_L (fun y70=>K (.exit 2) (f135_l1_o2 a0 y70)) a0 n y50 x29 y70:=by
 intro n
 induction n with
 |zero=>intros; rfl
 |succ n ih=>
  intro y50 x29 y70
  exact(f135_l1_round FUEL K n a0 y50 x29 y70).trans (condC ((f135_l2_L_eq _ a0 y50 x29 FUEL (0:Int) y70).trans (congrArg (fun e0=>impl_MixBlock_l2_L e0 a0 y50 x29 FUEL (0:Int) y70) (funext fun y70=>(f135_l2_exit4 FUEL K n a0 y50 x29 y70).trans (ih y50 (IntKind.wrap .i64 (x29+(1:Int))) y70)))) (rfl))

def f135_l0_p(k:Nat)(K:Ex→St→Q5)(n:Nat)(a0:(List Int))(a1:(List Int))(x14:Int)(y50:(List Int)):Q5:=loopK (f135_cx k) 0 (execK (f135_cx k) (callK (f135_cx k) 8) 0 135 (sub f135_c [1,1,0,1,0,0])) f135_l0_cut K n (f135_l0_s a0 a1 x14 y50)

theorem f135_l0_exit0(k:Nat)(a0:(List Int))(y50:(List Int)):((blkK 0 (seqK (execK (f135_cx k) (callK (f135_cx k) 8) 0 135 (sub f135_c [1,1,1])) (finK (f135_cx k) f135_i impl_MixBlock_sh))) (.exit 0) (f135_l0_o0 a0 y50):Q5)=
 ((loopK (f135_cx k) 0 (execK (f135_cx k) (callK (f135_cx k) 8) 0 135 (sub f135_c [1,1,1,1,0,1,0,0])) f135_l1_cut (blkK 2 (seqK (execK (f135_cx k) (callK (f135_cx k) 8) 0 135 (sub f135_c [1,1,1,1,1])) (finK (f135_cx k) f135_i impl_MixBlock_sh))) k (f135_l1_s a0 y50 (0:Int) a0)):Q5):=by kernel_rfl

theorem f135_l0_round(k:Nat)(K:Ex→St→Q5)(n:Nat)(a0:(List Int))(a1:(List Int))(x14:Int)(y50:(List Int)):(f135_l0_p k K (n+1) a0 a1 x14 y50:Q5)=impl_MixBlock_l0_b ((fun x14 y50=>f135_l0_p k K n a0 a1 x14 y50)) (fun y50=>K (.exit 0) (f135_l0_o0 a0 y50)) a0 a1 x14 y50:=by kernel_rfl

theorem f135_l0_L_eq(K:Ex→St→Q5)(a0:(List Int))(a1:(List Int)):∀(n:Nat) (x14:Int) (y50:(List Int)),(f135_l0_p FUEL K n a0 a1 x14 y50:Q5)=impl_MixBlock_l0_L (fun y50=>K (.exit 0) (f135_l0_o0 a0 y50)) a0 a1 n x14 y50:=by
 intro n
 induction n with
 |zero=>intros; rfl
 |succ n ih=>
  intro x14 y50
  exact(f135_l0_round FUEL K n a0 a1 x14 y50).trans (congrArg (fun f=>impl_MixBlock_l0_b f (fun y50=>K (.exit 0) (f135_l0_o0 a0 y50)) a0 a1 x14 y50) (funext fun x14=>funext fun y50=>ih x14 y50))

theorem f135_start(k:Nat)(a0:(List Int))(a1:(List Int)):fnK (f135_cx k) 8 135 f135_i impl_MixBlock_sh [.pv (.arr 8 (.int .u32)) a0,.pv (.arr 32 (.int .u8)) a1]=
 ((loopK (f135_cx k) 0 (execK (f135_cx k) (callK (f135_cx k) 8) 0 135 (sub f135_c [1,1,0,1,0,0])) f135_l0_cut (blkK 0 (seqK (execK (f135_cx k) (callK (f135_cx k) 8) 0 135 (sub f135_c [1,1,1])) (finK (f135_cx k) f135_i impl_MixBlock_sh))) k (f135_l0_s a0 a1 (0:Int) (List.replicate 8 (0:Int)))):Q5):=by kernel_rfl

theorem f135_run(a0:(List Int))(a1:(List Int)):fnK (f135_cx FUEL) 8 135 f135_i impl_MixBlock_sh [.pv (.arr 8 (.int .u32)) a0,.pv (.arr 32 (.int .u8)) a1]=impl_MixBlock_r a0 a1:=
 (f135_start FUEL a0 a1).trans ((f135_l0_L_eq _ a0 a1 FUEL (0:Int) (List.replicate 8 (0:Int))).trans (congrArg (fun e0=>impl_MixBlock_l0_L e0 a0 a1 FUEL (0:Int) (List.replicate 8 (0:Int))) (funext fun y50=>(f135_l0_exit0 FUEL a0 y50).trans ((f135_l1_L_eq _ a0 FUEL y50 (0:Int) a0).trans (congrArg (fun e0=>impl_MixBlock_l1_L e0 a0 FUEL y50 (0:Int) a0) (funext fun y70=>(f135_l1_exit2 FUEL a0 y70).trans ((f135_l3_L_eq _ a0 FUEL y70 (0:Int)).trans (congrArg (fun e0=>impl_MixBlock_l3_L e0 a0 FUEL y70 (0:Int)) (funext fun y70=>(f135_l3_exit6 FUEL y70).trans (rfl))))))))))

def f135_con:Con:={ps:=(.pair (.arr 8 (.int .u32)) K10),sh:=impl_MixBlock_sh,raw:=fun x=>impl_MixBlock_r x.1 x.2.1}
theorem f135_conOk:ConOk Tryz.prog 135 f135_con:=con_of_fn (f135_tabs FUEL) (depth:=8) f135_ok fun x y h=>(f135_run x.1 x.2.1).trans h

def f120_l0_cut:Cut:={keep:=[2,4,7,8,9],stk:=[],ids:=[20,40],own:=[],outs:=[(1,[2,4],[20,40])]}
def f120_cx(k:Nat):Cx:=mkC [] [(135,f135_con)] [] [] [(120,[(0,f120_l0_cut)])] k [] false
theorem f120_tabs(k:Nat):TabsOk Tryz.prog (f120_cx k):=mkC_ok ⟨f135_conOk,trivial⟩ trivial trivial trivial
abbrev impl_mixed_sh:List Sh:=[.pl (.arr 8 (.int .u32))]
abbrev Q19:Type:=Option (shDen impl_mixed_sh)
def f120_l0_s(a1:T7)(x9:Int)(y20:(List Int)):St:={env:=(.dead:: .dead:: .ptr 20 (.arr 8 (.int .u32)) []:: .dead:: .ptr 40 (.arr 8 (.int .u32)) []:: .dead:: .dead:: .pv K12 a1:: .pv (.int .i64) (a1.length:Int):: .pv (.int .i64) x9::(dd 8 [])),stk:=[],heap:=[(20,.var (.arr 8 (.int .u32)) (.pv (.arr 8 (.int .u32)) y20)),(40,.var (.arr 8 (.int .u32)) (.pv (.arr 8 (.int .u32)) (List.replicate 8 (0:Int))))]}
def f120_l0_o0(y20:(List Int)):St:={env:=(.dead:: .dead:: .ptr 20 (.arr 8 (.int .u32)) []:: .dead:: .ptr 40 (.arr 8 (.int .u32)) []::(dd 13 [])),stk:=[],heap:=[(20,.var (.arr 8 (.int .u32)) (.pv (.arr 8 (.int .u32)) y20)),(40,.var (.arr 8 (.int .u32)) (.pv (.arr 8 (.int .u32)) (List.replicate 8 (0:Int))))]}
def impl_mixed_l0_b(rec:Int→(List Int)→Q19)(ke0:(List Int)→Q19)(a1:T7)(x9:Int)(y20:(List Int)):Q19:=
 (cond (decide (x9<(a1.length:Int)))
 (cond ((decide ((0:Int)≤x9))&&(decide (x9<(a1.length:Int))))
 (bindO (impl_MixBlock_r y20 (a1.getD (x9.toNat) (List.replicate 32 (0:Int)))) fun(b2:(List Int))=>(rec (IntKind.wrap .i64 (x9+(1:Int))) b2))
 none)
 (ke0 y20))
def impl_mixed_l0_L(ke0:(List Int)→Q19)(a1:T7):Nat→Int→(List Int)→Q19
 |0=>fun _ _=>none
 |n+1=>impl_mixed_l0_b (impl_mixed_l0_L ke0 a1 n) ke0 a1
def impl_mixed_r(a0:(List Int))(a1:T7):Q19:=
 (impl_mixed_l0_L (fun y20=>(some y20)) a1 FUEL (0:Int) a0)
def f120_l0_p(k:Nat)(K:Ex→St→Q19)(n:Nat)(a1:T7)(x9:Int)(y20:(List Int)):Q19:=loopK (f120_cx k) 0 (execK (f120_cx k) (callK (f120_cx k) 8) 0 120 (sub f120_c [1,0,1,0,0])) f120_l0_cut K n (f120_l0_s a1 x9 y20)

theorem f120_l0_exit0(k:Nat)(y20:(List Int)):((blkK 0 (seqK (execK (f120_cx k) (callK (f120_cx k) 8) 0 120 (sub f120_c [1,1])) (finK (f120_cx k) f120_i impl_mixed_sh))) (.exit 0) (f120_l0_o0 y20):Q19)=
 ((some y20):Q19):=by kernel_rfl

theorem f120_l0_round(k:Nat)(K:Ex→St→Q19)(n:Nat)(a1:T7)(x9:Int)(y20:(List Int)):(f120_l0_p k K (n+1) a1 x9 y20:Q19)=impl_mixed_l0_b ((fun x9 y20=>f120_l0_p k K n a1 x9 y20)) (fun y20=>K (.exit 0) (f120_l0_o0 y20)) a1 x9 y20:=by kernel_rfl

theorem f120_l0_L_eq(K:Ex→St→Q19)(a1:T7):∀(n:Nat) (x9:Int) (y20:(List Int)),(f120_l0_p FUEL K n a1 x9 y20:Q19)=impl_mixed_l0_L (fun y20=>K (.exit 0) (f120_l0_o0 y20)) a1 n x9 y20:=by
 intro n
 induction n with
 |zero=>intros; rfl
 |succ n ih=>
  intro x9 y20
  exact(f120_l0_round FUEL K n a1 x9 y20).trans (congrArg (fun f=>impl_mixed_l0_b f (fun y20=>K (.exit 0) (f120_l0_o0 y20)) a1 x9 y20) (funext fun x9=>funext fun y20=>ih x9 y20))

theorem f120_start(k:Nat)(a0:(List Int))(a1:T7):fnK (f120_cx k) 8 120 f120_i impl_mixed_sh [.pv (.arr 8 (.int .u32)) a0,.pv K12 a1]=
 ((loopK (f120_cx k) 0 (execK (f120_cx k) (callK (f120_cx k) 8) 0 120 (sub f120_c [1,0,1,0,0])) f120_l0_cut (blkK 0 (seqK (execK (f120_cx k) (callK (f120_cx k) 8) 0 120 (sub f120_c [1,1])) (finK (f120_cx k) f120_i impl_mixed_sh))) k (f120_l0_s a1 (0:Int) a0)):Q19):=by kernel_rfl

theorem f120_run(a0:(List Int))(a1:T7):fnK (f120_cx FUEL) 8 120 f120_i impl_mixed_sh [.pv (.arr 8 (.int .u32)) a0,.pv K12 a1]=impl_mixed_r a0 a1:=
 (f120_start FUEL a0 a1).trans ((f120_l0_L_eq _ a1 FUEL (0:Int) a0).trans (congrArg (fun e0=>impl_mixed_l0_L e0 a1 FUEL (0:Int) a0) (funext fun y20=>(f120_l0_exit0 FUEL y20).trans (rfl))))

def f120_con:Con:={ps:=(.pair (.arr 8 (.int .u32)) K9),sh:=impl_mixed_sh,raw:=fun x=>impl_mixed_r x.1 x.2.1}
theorem f120_conOk:ConOk Tryz.prog 120 f120_con:=con_of_fn (f120_tabs FUEL) (depth:=8) f120_ok fun x y h=>(f120_run x.1 x.2.1).trans h

def f119_l0_cut:Cut:={keep:=[2,3,7,8],stk:=[],ids:=[20,30],own:=[],outs:=[(1,[2,3],[20,30])]}
def f119_cx(k:Nat):Cx:=mkC [] [] [(134,f134_tak)] [] [(119,[(0,f119_l0_cut)])] k [] false
theorem f119_tabs(k:Nat):TabsOk Tryz.prog (f119_cx k):=mkC_ok trivial ⟨f134_takOk,trivial⟩ trivial trivial
abbrev impl_keyOf_sh:List Sh:=[.pl (.arr 32 (.int .u8))]
abbrev Q17:Type:=Option (shDen impl_keyOf_sh)
def f119_l0_s(a0:(List Int))(x8:Int)(y30:(List Int)):St:={env:=(.dead:: .dead:: .ptr 20 (.arr 32 (.int .u8)) []:: .ptr 30 (.arr 32 (.int .u8)) []::(dd 3 (.pv (.arr 8 (.int .u32)) a0:: .pv (.int .i64) x8::(dd 12 [])))),stk:=[],heap:=[(20,.var (.arr 32 (.int .u8)) (.pv (.arr 32 (.int .u8)) (List.replicate 32 (0:Int)))),(30,.var (.arr 32 (.int .u8)) (.pv (.arr 32 (.int .u8)) y30))]}
def f119_l0_o0(y30:(List Int)):St:={env:=(.dead:: .dead:: .ptr 20 (.arr 32 (.int .u8)) []:: .ptr 30 (.arr 32 (.int .u8)) []::(dd 17 [])),stk:=[],heap:=[(20,.var (.arr 32 (.int .u8)) (.pv (.arr 32 (.int .u8)) (List.replicate 32 (0:Int)))),(30,.var (.arr 32 (.int .u8)) (.pv (.arr 32 (.int .u8)) y30))]}
def impl_keyOf_l0_b(rec:Int→(List Int)→Q17)(ke0:(List Int)→Q17)(a0:(List Int))(x8:Int)(y30:(List Int)):Q17:=
 (cond (decide (x8<(8:Int)))
 (cond ((decide ((0:Int)≤x8))&&(decide (x8<(8:Int))))
 (cond ((decide ((0:Int)≤(IntKind.wrap .i64 ((4:Int)*x8))))&&(decide ((IntKind.wrap .i64 ((4:Int)*x8))≤(32:Int))))
 (bindO (impl_appendLittle_r [] (IntKind.wrap .u64 (a0.getD (x8.toNat) (0:Int))) (4:Int)) fun(b2:(List Int))=>(rec (IntKind.wrap .i64 (x8+(1:Int))) (splL y30 ((IntKind.wrap .i64 ((4:Int)*x8)).toNat) (List.take (32-((IntKind.wrap .i64 ((4:Int)*x8)).toNat)) b2))))
 none)
 none)
 (ke0 y30))
def impl_keyOf_l0_L(ke0:(List Int)→Q17)(a0:(List Int)):Nat→Int→(List Int)→Q17
 |0=>fun _ _=>none
 |n+1=>impl_keyOf_l0_b (impl_keyOf_l0_L ke0 a0 n) ke0 a0
def impl_keyOf_r(a0:(List Int)):Q17:=
 (impl_keyOf_l0_L (fun y30=>(some y30)) a0 FUEL (0:Int) (List.replicate 32 (0:Int)))
def f119_l0_p(k:Nat)(K:Ex→St→Q17)(n:Nat)(a0:(List Int))(x8:Int)(y30:(List Int)):Q17:=loopK (f119_cx k) 0 (execK (f119_cx k) (callK (f119_cx k) 8) 0 119 (sub f119_c [1,1,0,1,0,0])) f119_l0_cut K n (f119_l0_s a0 x8 y30)

theorem f119_l0_exit0(k:Nat)(y30:(List Int)):((blkK 0 (seqK (execK (f119_cx k) (callK (f119_cx k) 8) 0 119 (sub f119_c [1,1,1])) (finK (f119_cx k) f119_i impl_keyOf_sh))) (.exit 0) (f119_l0_o0 y30):Q17)=
 ((some y30):Q17):=by kernel_rfl

theorem f119_l0_round(k:Nat)(K:Ex→St→Q17)(n:Nat)(a0:(List Int))(x8:Int)(y30:(List Int)):(f119_l0_p k K (n+1) a0 x8 y30:Q17)=impl_keyOf_l0_b ((fun x8 y30=>f119_l0_p k K n a0 x8 y30)) (fun y30=>K (.exit 0) (f119_l0_o0 y30)) a0 x8 y30:=by kernel_rfl

theorem f119_l0_L_eq(K:Ex→St→Q17)(a0:(List Int)):∀(n:Nat) (x8:Int) (y30:(List Int)),(f119_l0_p FUEL K n a0 x8 y30:Q17)=impl_keyOf_l0_L (fun y30=>K (.exit 0) (f119_l0_o0 y30)) a0 n x8 y30:=by
 intro n
 induction n with
 |zero=>intros; rfl
 |succ n ih=>
  intro x8 y30
  exact(f119_l0_round FUEL K n a0 x8 y30).trans (congrArg (fun f=>impl_keyOf_l0_b f (fun y30=>K (.exit 0) (f119_l0_o0 y30)) a0 x8 y30) (funext fun x8=>funext fun y30=>ih x8 y30))

theorem f119_start(k:Nat)(a0:(List Int)):fnK (f119_cx k) 8 119 f119_i impl_keyOf_sh [.pv (.arr 8 (.int .u32)) a0]=
 ((loopK (f119_cx k) 0 (execK (f119_cx k) (callK (f119_cx k) 8) 0 119 (sub f119_c [1,1,0,1,0,0])) f119_l0_cut (blkK 0 (seqK (execK (f119_cx k) (callK (f119_cx k) 8) 0 119 (sub f119_c [1,1,1])) (finK (f119_cx k) f119_i impl_keyOf_sh))) k (f119_l0_s a0 (0:Int) (List.replicate 32 (0:Int)))):Q17):=by kernel_rfl

theorem f119_run(a0:(List Int)):fnK (f119_cx FUEL) 8 119 f119_i impl_keyOf_sh [.pv (.arr 8 (.int .u32)) a0]=impl_keyOf_r a0:=
 (f119_start FUEL a0).trans ((f119_l0_L_eq _ a0 FUEL (0:Int) (List.replicate 32 (0:Int))).trans (congrArg (fun e0=>impl_keyOf_l0_L e0 a0 FUEL (0:Int) (List.replicate 32 (0:Int))) (funext fun y30=>(f119_l0_exit0 FUEL y30).trans (rfl))))

def f119_con:Con:={ps:=(.pair (.arr 8 (.int .u32)) .unit),sh:=impl_keyOf_sh,raw:=fun x=>impl_keyOf_r x.1}
theorem f119_conOk:ConOk Tryz.prog 119 f119_con:=con_of_fn (f119_tabs FUEL) (depth:=8) f119_ok fun x y h=>(f119_run x.1).trans h

def f101_cx(k:Nat):Cx:=mkC [] [(65,f65_con),(116,f116_con),(117,f117_con),(118,f118_con),(119,f119_con),(120,f120_con),(121,f121_con)] [] [] [] k [] false
theorem f101_tabs(k:Nat):TabsOk Tryz.prog (f101_cx k):=mkC_ok ⟨f65_conOk,f116_conOk,f117_conOk,f118_conOk,f119_conOk,f120_conOk,f121_conOk,trivial⟩ trivial trivial trivial
abbrev impl_hash_sh:List Sh:=[.pl (.arr 32 (.int .u8))]
abbrev Q16:Type:=Option (shDen impl_hash_sh)
def impl_hash_r(a0:Int)(a1:(List Int)):Q16:=
 (bindO (impl_size_byte_r a1) fun(b1:Int)=>(bindO (impl_padding_r b1) fun(b2:(List Int))=>(bindO (slices_Concat_byte_byte_r [a1,b2]) fun(b3:(List Int))=>(bindO (impl_blocks_r b3) fun(b4:(T7×(List Int)))=>(bindO (impl_StartState_r a0) fun(b5:(List Int))=>(bindO (impl_mixed_r b5 b4.1) fun(b6:(List Int))=>(bindO (impl_keyOf_r b6) fun(b7:(List Int))=>(some b7))))))))
theorem f101_run(a0:Int)(a1:(List Int)):fnK (f101_cx FUEL) 8 101 f101_i impl_hash_sh [.pv (.int .u8) a0,.pv K16 a1]=impl_hash_r a0 a1:=by kernel_rfl

def f101_con:Con:={ps:=K8,sh:=impl_hash_sh,raw:=fun x=>impl_hash_r x.1 x.2.1}
theorem f101_conOk:ConOk Tryz.prog 101 f101_con:=con_of_fn (f101_tabs FUEL) (depth:=8) f101_ok fun x y h=>(f101_run x.1 x.2.1).trans h

def f85_cx(k:Nat):Cx:=mkC [] [(101,f101_con)] [] [] [] k [] false
theorem f85_tabs(k:Nat):TabsOk Tryz.prog (f85_cx k):=mkC_ok ⟨f101_conOk,trivial⟩ trivial trivial trivial
abbrev impl_Blob_key_sh:List Sh:=[.pl (.arr 32 (.int .u8))]
abbrev Q4:Type:=Option (shDen impl_Blob_key_sh)
def impl_Blob_key_r(a0:T4):Q4:=
 (bindO (impl_hash_r a0.1 a0.2.1) fun(b1:(List Int))=>(some b1))
theorem f85_run(a0:T4):fnK (f85_cx FUEL) 8 85 f85_i impl_Blob_key_sh [.pv K8 a0]=impl_Blob_key_r a0:=by kernel_rfl

def f85_con:Con:={ps:=K4,sh:=impl_Blob_key_sh,raw:=fun x=>impl_Blob_key_r x.1}
theorem f85_conOk:ConOk Tryz.prog 85 f85_con:=con_of_fn (f85_tabs FUEL) (depth:=8) f85_ok fun x y h=>(f85_run x.1).trans h

def f73_l0_cut:Cut:={keep:=[3,8,9,10],stk:=[],ids:=[90030],own:=[(3,90030,34)],outs:=[(1,[3],[90030])]}
def f73_cx(k:Nat):Cx:=mkC [] [(85,f85_con)] [] [] [(73,[(0,f73_l0_cut)])] k [] false
theorem f73_tabs(k:Nat):TabsOk Tryz.prog (f73_cx k):=mkC_ok ⟨f85_conOk,trivial⟩ trivial trivial trivial
abbrev impl_Store_keys_sh:List Sh:=[.own 45 (.arr 32 (.int .u8))]
abbrev Q8:Type:=Option (shDen impl_Store_keys_sh)
def f73_l0_s(a0:T2)(x10:Int)(z90030:T7):St:={env:=(dd 3 (.sl 90030 (.arr 32 (.int .u8))::(dd 4 (.pv K5 a0.1:: .pv (.int .i64) (a0.1.length:Int):: .pv (.int .i64) x10::(dd 10 []))))),stk:=[],heap:=[(90030,.arr 45 (.arr 32 (.int .u8)) z90030)]}
def f73_l0_o0(z90030:T7):St:={env:=(dd 3 (.sl 90030 (.arr 32 (.int .u8))::(dd 17 []))),stk:=[],heap:=[(90030,.arr 45 (.arr 32 (.int .u8)) z90030)]}
def impl_Store_keys_l0_b(rec:Int→T7→Q8)(ke0:T7→Q8)(a0:T2)(x10:Int)(z90030:T7):Q8:=
 (cond (decide (x10<(a0.1.length:Int)))
 (cond ((decide ((0:Int)≤x10))&&(decide (x10<(a0.1.length:Int))))
 (bindO (impl_Blob_key_r (a0.1.getD (x10.toNat) ((0:Int),([],())))) fun(b2:(List Int))=>(cond (decide ((z90030.length+1)*32≤140737488355328)&&decide (z90030.length+1≤9223372036854775807))
 (rec (IntKind.wrap .i64 (x10+(1:Int))) (z90030++[b2]))
 none))
 none)
 (ke0 z90030))
def impl_Store_keys_l0_L(ke0:T7→Q8)(a0:T2):Nat→Int→T7→Q8
 |0=>fun _ _=>none
 |n+1=>impl_Store_keys_l0_b (impl_Store_keys_l0_L ke0 a0 n) ke0 a0
def impl_Store_keys_r(a0:T2):Q8:=
 (impl_Store_keys_l0_L (fun z90030=>(some z90030)) a0 FUEL (0:Int) [])
def f73_l0_p(k:Nat)(K:Ex→St→Q8)(n:Nat)(a0:T2)(x10:Int)(z90030:T7):Q8:=loopK (f73_cx k) 0 (execK (f73_cx k) (callK (f73_cx k) 8) 0 73 (sub f73_c [1,1,0,1,0,0])) f73_l0_cut K n (f73_l0_s a0 x10 z90030)

theorem f73_l0_exit0(k:Nat)(z90030:T7):((blkK 0 (seqK (execK (f73_cx k) (callK (f73_cx k) 8) 0 73 (sub f73_c [1,1,1])) (finK (f73_cx k) f73_i impl_Store_keys_sh))) (.exit 0) (f73_l0_o0 z90030):Q8)=
 ((some z90030):Q8):=by kernel_rfl

theorem f73_l0_round(k:Nat)(K:Ex→St→Q8)(n:Nat)(a0:T2)(x10:Int)(z90030:T7):(f73_l0_p k K (n+1) a0 x10 z90030:Q8)=impl_Store_keys_l0_b ((fun x10 z90030=>f73_l0_p k K n a0 x10 z90030)) (fun z90030=>K (.exit 0) (f73_l0_o0 z90030)) a0 x10 z90030:=by kernel_rfl

theorem f73_l0_L_eq(K:Ex→St→Q8)(a0:T2):∀(n:Nat) (x10:Int) (z90030:T7),(f73_l0_p FUEL K n a0 x10 z90030:Q8)=impl_Store_keys_l0_L (fun z90030=>K (.exit 0) (f73_l0_o0 z90030)) a0 n x10 z90030:=by
 intro n
 induction n with
 |zero=>intros; rfl
 |succ n ih=>
  intro x10 z90030
  exact(f73_l0_round FUEL K n a0 x10 z90030).trans (congrArg (fun f=>impl_Store_keys_l0_b f (fun z90030=>K (.exit 0) (f73_l0_o0 z90030)) a0 x10 z90030) (funext fun x10=>funext fun z90030=>ih x10 z90030))

theorem f73_start(k:Nat)(a0:T2):fnK (f73_cx k) 8 73 f73_i impl_Store_keys_sh [.pv K3 a0]=
 ((loopK (f73_cx k) 0 (execK (f73_cx k) (callK (f73_cx k) 8) 0 73 (sub f73_c [1,1,0,1,0,0])) f73_l0_cut (blkK 0 (seqK (execK (f73_cx k) (callK (f73_cx k) 8) 0 73 (sub f73_c [1,1,1])) (finK (f73_cx k) f73_i impl_Store_keys_sh))) k (f73_l0_s a0 (0:Int) [])):Q8):=by kernel_rfl

theorem f73_run(a0:T2):fnK (f73_cx FUEL) 8 73 f73_i impl_Store_keys_sh [.pv K3 a0]=impl_Store_keys_r a0:=
 (f73_start FUEL a0).trans ((f73_l0_L_eq _ a0 FUEL (0:Int) []).trans (congrArg (fun e0=>impl_Store_keys_l0_L e0 a0 FUEL (0:Int) []) (funext fun z90030=>(f73_l0_exit0 FUEL z90030).trans (rfl))))

def f73_con:Con:={ps:=K2,sh:=impl_Store_keys_sh,raw:=fun x=>impl_Store_keys_r x.1}
theorem f73_conOk:ConOk Tryz.prog 73 f73_con:=con_of_fn (f73_tabs FUEL) (depth:=8) f73_ok fun x y h=>(f73_run x.1).trans h

def f110_cx(k:Nat):Cx:=mkC [] [] [] [] [] k [] false
theorem f110_tabs(k:Nat):TabsOk Tryz.prog (f110_cx k):=mkC_ok trivial trivial trivial trivial
abbrev slices_Clone_impl_Key_impl_Key_sh:List Sh:=[.own 45 (.arr 32 (.int .u8))]
abbrev Q51:Type:=Option (shDen slices_Clone_impl_Key_impl_Key_sh)
def slices_Clone_impl_Key_impl_Key_r(a0:T7):Q51:=
 (cond (List.isEmpty a0) (bothO (some []) (cond (decide ((0+a0.length)*32≤140737488355328)&&decide (0+a0.length≤9223372036854775807))
 (some ([]++a0))
 none)) (cond (decide ((0+a0.length)*32≤140737488355328)&&decide (0+a0.length≤9223372036854775807))
 (some ([]++a0))
 none))
theorem f110_run(a0:T7):fnK (f110_cx FUEL) 8 110 f110_i slices_Clone_impl_Key_impl_Key_sh [.pv K12 a0]=slices_Clone_impl_Key_impl_Key_r a0:=by kernel_rfl

def f110_con:Con:={ps:=K9,sh:=slices_Clone_impl_Key_impl_Key_sh,raw:=fun x=>slices_Clone_impl_Key_impl_Key_r x.1}
theorem f110_conOk:ConOk Tryz.prog 110 f110_con:=con_of_fn (f110_tabs FUEL) (depth:=8) f110_ok fun x y h=>(f110_run x.1).trans h

def f149_cx(k:Nat):Cx:=mkC [] [] [] [] [] k [] false
theorem f149_tabs(k:Nat):TabsOk Tryz.prog (f149_cx k):=mkC_ok trivial trivial trivial trivial
abbrev cmp_isNaN_byte_sh:List Sh:=[.pl .bool]
abbrev Q2:Type:=Option (shDen cmp_isNaN_byte_sh)
def cmp_isNaN_byte_r(a0:Int):Q2:=
 (some (!(decide (a0=a0))))
theorem f149_run(a0:Int):fnK (f149_cx FUEL) 8 149 f149_i cmp_isNaN_byte_sh [.pv (.int .u8) a0]=cmp_isNaN_byte_r a0:=by kernel_rfl

def f149_con:Con:={ps:=K15,sh:=cmp_isNaN_byte_sh,raw:=fun x=>cmp_isNaN_byte_r x.1}
theorem f149_conOk:ConOk Tryz.prog 149 f149_con:=con_of_fn (f149_tabs FUEL) (depth:=8) f149_ok fun x y h=>(f149_run x.1).trans h

def f132_cx(k:Nat):Cx:=mkC [] [(149,f149_con)] [] [] [] k [] false
theorem f132_tabs(k:Nat):TabsOk Tryz.prog (f132_cx k):=mkC_ok ⟨f149_conOk,trivial⟩ trivial trivial trivial
abbrev cmp_Compare_byte_sh:List Sh:=[.pl (.int .i64)]
abbrev Q1:Type:=Option (shDen cmp_Compare_byte_sh)
def cmp_Compare_byte_r(a0:Int)(a1:Int):Q1:=
 (bindO (cmp_isNaN_byte_r a0) fun(b1:Bool)=>(bindO (cmp_isNaN_byte_r a1) fun(b2:Bool)=>(cond b1
 (cond b2
 (some (0:Int))
 (some (-1:Int)))
 (cond b2
 (some (1:Int))
 (cond (decide (a0<a1))
 (some (-1:Int))
 (cond (decide (a1<a0))
 (some (1:Int))
 (some (0:Int))))))))
theorem f132_run(a0:Int)(a1:Int):fnK (f132_cx FUEL) 8 132 f132_i cmp_Compare_byte_sh [.pv (.int .u8) a0,.pv (.int .u8) a1]=cmp_Compare_byte_r a0 a1:=by kernel_rfl

def f132_con:Con:={ps:=(.pair (.int .u8) K15),sh:=cmp_Compare_byte_sh,raw:=fun x=>cmp_Compare_byte_r x.1 x.2.1}
theorem f132_conOk:ConOk Tryz.prog 132 f132_con:=con_of_fn (f132_tabs FUEL) (depth:=8) f132_ok fun x y h=>(f132_run x.1 x.2.1).trans h

def f113_l0_cut:Cut:={keep:=[0,1,9,10,11],stk:=[],ids:=[],own:=[],outs:=[(0,[4],[]),(1,[0,1],[])]}
def f113_cx(k:Nat):Cx:=mkC [] [(132,f132_con)] [] [] [(113,[(0,f113_l0_cut)])] k [] false
theorem f113_tabs(k:Nat):TabsOk Tryz.prog (f113_cx k):=mkC_ok ⟨f132_conOk,trivial⟩ trivial trivial trivial
abbrev slices_Compare_byte_byte_sh:List Sh:=[.pl (.int .i64)]
abbrev Q52:Type:=Option (shDen slices_Compare_byte_byte_sh)
def f113_l0_s(a0:(List Int))(a1:(List Int))(x11:Int):St:={env:=(.pv K16 a0:: .pv K16 a1::(dd 7 (.pv K16 a0:: .pv (.int .i64) (a0.length:Int):: .pv (.int .i64) x11::(dd 24 [])))),stk:=[],heap:=[]}
def f113_l0_o(x4:Int):St:={env:=(dd 4 (.pv (.int .i64) x4::(dd 31 []))),stk:=[],heap:=[]}
def f113_l0_o0(a0:(List Int))(a1:(List Int)):St:={env:=(.pv K16 a0:: .pv K16 a1::(dd 34 [])),stk:=[],heap:=[]}
def slices_Compare_byte_byte_l0_b(rec:Int→Q52)(kr:Int→Q52)(ke0:Q52)(a0:(List Int))(a1:(List Int))(x11:Int):Q52:=
 (cond (decide (x11<(a0.length:Int)))
 (cond ((decide ((0:Int)≤x11))&&(decide (x11<(a0.length:Int))))
 (cond (decide ((a1.length:Int)≤x11))
 (kr (1:Int))
 (cond ((decide ((0:Int)≤x11))&&(decide (x11<(a1.length:Int))))
 (bindO (cmp_Compare_byte_r (a0.getD (x11.toNat) (0:Int)) (a1.getD (x11.toNat) (0:Int))) fun(b2:Int)=>(cond (!(decide (b2=(0:Int))))
 (kr b2)
 (rec (IntKind.wrap .i64 (x11+(1:Int))))))
 none))
 none)
 (ke0))
def slices_Compare_byte_byte_l0_L(kr:Int→Q52)(ke0:Q52)(a0:(List Int))(a1:(List Int)):Nat→Int→Q52
 |0=>fun _=>none
 |n+1=>slices_Compare_byte_byte_l0_b (slices_Compare_byte_byte_l0_L kr ke0 a0 a1 n) kr ke0 a0 a1
def slices_Compare_byte_byte_r(a0:(List Int))(a1:(List Int)):Q52:=
 (slices_Compare_byte_byte_l0_L (fun x4=>(some x4)) (cond (decide ((a0.length:Int)<(a1.length:Int)))
 (some (-1:Int))
 (some (0:Int))) a0 a1 FUEL (0:Int))
def f113_l0_p(k:Nat)(K:Ex→St→Q52)(n:Nat)(a0:(List Int))(a1:(List Int))(x11:Int):Q52:=loopK (f113_cx k) 0 (execK (f113_cx k) (callK (f113_cx k) 8) 0 113 (sub f113_c [1,0,1,0,0])) f113_l0_cut K n (f113_l0_s a0 a1 x11)

theorem f113_l0_ret(k:Nat)(x4:Int):((blkK 0 (seqK (execK (f113_cx k) (callK (f113_cx k) 8) 0 113 (sub f113_c [1,1])) (finK (f113_cx k) f113_i slices_Compare_byte_byte_sh))) .ret (f113_l0_o x4):Q52)=
 ((some x4):Q52):=by kernel_rfl

theorem f113_l0_exit0(k:Nat)(a0:(List Int))(a1:(List Int)):((blkK 0 (seqK (execK (f113_cx k) (callK (f113_cx k) 8) 0 113 (sub f113_c [1,1])) (finK (f113_cx k) f113_i slices_Compare_byte_byte_sh))) (.exit 0) (f113_l0_o0 a0 a1):Q52)=
 ((cond (decide ((a0.length:Int)<(a1.length:Int)))
 (some (-1:Int))
 (some (0:Int))):Q52):=by kernel_rfl

theorem f113_l0_round(k:Nat)(K:Ex→St→Q52)(n:Nat)(a0:(List Int))(a1:(List Int))(x11:Int):(f113_l0_p k K (n+1) a0 a1 x11:Q52)=slices_Compare_byte_byte_l0_b ((fun x11=>f113_l0_p k K n a0 a1 x11)) (fun x4=>K .ret (f113_l0_o x4)) (K (.exit 0) (f113_l0_o0 a0 a1)) a0 a1 x11:=by kernel_rfl

theorem f113_l0_L_eq(K:Ex→St→Q52)(a0:(List Int))(a1:(List Int)):∀(n:Nat) (x11:Int),(f113_l0_p FUEL K n a0 a1 x11:Q52)=slices_Compare_byte_byte_l0_L (fun x4=>K .ret (f113_l0_o x4)) (K (.exit 0) (f113_l0_o0 a0 a1)) a0 a1 n x11:=by
 intro n
 induction n with
 |zero=>intros; rfl
 |succ n ih=>
  intro x11
  exact(f113_l0_round FUEL K n a0 a1 x11).trans (congrArg (fun f=>slices_Compare_byte_byte_l0_b f (fun x4=>K .ret (f113_l0_o x4)) (K (.exit 0) (f113_l0_o0 a0 a1)) a0 a1 x11) (funext fun x11=>ih x11))

theorem f113_start(k:Nat)(a0:(List Int))(a1:(List Int)):fnK (f113_cx k) 8 113 f113_i slices_Compare_byte_byte_sh [.pv K16 a0,.pv K16 a1]=
 ((loopK (f113_cx k) 0 (execK (f113_cx k) (callK (f113_cx k) 8) 0 113 (sub f113_c [1,0,1,0,0])) f113_l0_cut (blkK 0 (seqK (execK (f113_cx k) (callK (f113_cx k) 8) 0 113 (sub f113_c [1,1])) (finK (f113_cx k) f113_i slices_Compare_byte_byte_sh))) k (f113_l0_s a0 a1 (0:Int))):Q52):=by kernel_rfl

theorem f113_run(a0:(List Int))(a1:(List Int)):fnK (f113_cx FUEL) 8 113 f113_i slices_Compare_byte_byte_sh [.pv K16 a0,.pv K16 a1]=slices_Compare_byte_byte_r a0 a1:=
 (f113_start FUEL a0 a1).trans ((f113_l0_L_eq _ a0 a1 FUEL (0:Int)).trans (cong2 (fun e0 e1=>slices_Compare_byte_byte_l0_L e0 e1 a0 a1 FUEL (0:Int)) (funext fun x4=>(f113_l0_ret FUEL x4).trans (rfl)) ((f113_l0_exit0 FUEL a0 a1).trans (rfl))))

def f113_con:Con:={ps:=K6,sh:=slices_Compare_byte_byte_sh,raw:=fun x=>slices_Compare_byte_byte_r x.1 x.2.1}
theorem f113_conOk:ConOk Tryz.prog 113 f113_con:=con_of_fn (f113_tabs FUEL) (depth:=8) f113_ok fun x y h=>(f113_run x.1 x.2.1).trans h

def f97_cx(k:Nat):Cx:=mkC [] [(113,f113_con)] [] [] [] k [] false
theorem f97_tabs(k:Nat):TabsOk Tryz.prog (f97_cx k):=mkC_ok ⟨f113_conOk,trivial⟩ trivial trivial trivial
abbrev impl_compareKeys_sh:List Sh:=[.pl (.int .i64)]
abbrev Q15:Type:=Option (shDen impl_compareKeys_sh)
def impl_compareKeys_r(a0:(List Int))(a1:(List Int)):Q15:=
 (bindO (slices_Compare_byte_byte_r (cutL a0 0 32) (cutL a1 0 32)) fun(b1:Int)=>(some b1))
theorem f97_run(a0:(List Int))(a1:(List Int)):fnK (f97_cx FUEL) 8 97 f97_i impl_compareKeys_sh [.pv (.arr 32 (.int .u8)) a0,.pv (.arr 32 (.int .u8)) a1]=impl_compareKeys_r a0 a1:=by kernel_rfl

def f97_con:Con:={ps:=(.pair (.arr 32 (.int .u8)) K10),sh:=impl_compareKeys_sh,raw:=fun x=>impl_compareKeys_r x.1 x.2.1}
theorem f97_conOk:ConOk Tryz.prog 97 f97_con:=con_of_fn (f97_tabs FUEL) (depth:=8) f97_ok fun x y h=>(f97_run x.1 x.2.1).trans h

def slices_SortFunc_impl_Key_impl_Key_r(a0:List (List Int))(a1:Unit):Option (List (List Int)×Unit):=sortFR 32 .u8 (fun x y=>impl_compareKeys_r x y) a0
def f111_inp:ConI:=sortFC 45 97 32 .u8 (fun x y=>impl_compareKeys_r x y)
theorem f111_inpOk:InpOk Tryz.prog 111 f111_inp:=sortF_inp Tryz.laysSortF111 (by decide) rfl ((tab_mk tabs_ok maps_ok (fun _=>none) (fun _=>none) (fun _=>none) (fun _=>none) (fun _ _=>none) 0 [] false).c.ty 45 _ rfl) f97_ok f97_conOk rfl rfl f111_ok

def f112_l0_cut:Cut:={keep:=[0,3],stk:=[],ids:=[8],own:=[],outs:=[(1,[0],[8]),(0,[2],[8])]}
def f112_l1_cut:Cut:={keep:=[0,3,4,5],stk:=[],ids:=[8],own:=[],outs:=[(3,[0,3],[8])]}
def f112_cx(k:Nat):Cx:=mkC [] [] [] [] [(112,[(0,f112_l0_cut),(2,f112_l1_cut)])] k [] false
theorem f112_tabs(k:Nat):TabsOk Tryz.prog (f112_cx k):=mkC_ok trivial trivial trivial trivial
def f112_l0_s(a0:T7)(x3:Int):St:={env:=(.sl 8 (.arr 32 (.int .u8)):: .dead:: .dead:: .pv (.int .i64) x3::(dd 57 [])),stk:=[],heap:=[(8,.arr 45 (.arr 32 (.int .u8)) a0)]}
def f112_l0_o0(a0:T7):St:={env:=(.sl 8 (.arr 32 (.int .u8))::(dd 60 [])),stk:=[],heap:=[(8,.arr 45 (.arr 32 (.int .u8)) a0)]}
def f112_l0_o(x2v:Nat)(z8:T7):St:={env:=(.dead:: .dead:: .vw 8 K12 [] (.arr 32 (.int .u8)) 0 x2v::(dd 58 [])),stk:=[],heap:=[(8,.arr 45 (.arr 32 (.int .u8)) z8)]}
def f112_l1_s(a0:T7)(x3:Int)(x5:Int)(z8:T7)(x4u:Nat):St:={env:=(.sl 8 (.arr 32 (.int .u8)):: .dead:: .dead:: .pv (.int .i64) x3:: .vw 8 K12 [] (.arr 32 (.int .u8)) x4u (a0.length):: .pv (.int .i64) x5::(dd 55 [])),stk:=[],heap:=[(8,.arr 45 (.arr 32 (.int .u8)) z8)]}
def f112_l1_o2(x3:Int)(z8:T7):St:={env:=(.sl 8 (.arr 32 (.int .u8)):: .dead:: .dead:: .pv (.int .i64) x3::(dd 57 [])),stk:=[],heap:=[(8,.arr 45 (.arr 32 (.int .u8)) z8)]}
def slices_Compact_impl_Key_impl_Key_l1_b(rec:Int→Int→T7→Nat→Option T7)(ke2:Int→T7→Option T7)(a0:T7)(x3:Int)(x5:Int)(z8:T7)(x4u:Nat):Option T7:=
 (cond (decide (x5<(((a0.length)-x4u:Nat):Int)))
 (cond ((decide ((0:Int)≤x5))&&(decide (x5<(((a0.length)-x4u:Nat):Int))))
 (cond ((decide ((0:Int)≤(IntKind.wrap .i64 (x5-(1:Int)))))&&(decide ((IntKind.wrap .i64 (x5-(1:Int)))<(((a0.length)-x4u:Nat):Int))))
 (cond (!(eqd (.arr 32 (.int .u8)) (z8.getD (x4u+(x5.toNat)) (List.replicate 32 (0:Int))) (z8.getD (x4u+((IntKind.wrap .i64 (x5-(1:Int))).toNat)) (List.replicate 32 (0:Int)))))
 (cond ((decide ((0:Int)≤x5))&&(decide (x5<(((a0.length)-x4u:Nat):Int))))
 (cond ((decide ((0:Int)≤x3))&&(decide (x3<(z8.length:Int))))
 (rec (IntKind.wrap .i64 (x3+(1:Int))) (IntKind.wrap .i64 (x5+(1:Int))) (z8.set (x3.toNat) (z8.getD (x4u+(x5.toNat)) (List.replicate 32 (0:Int)))) x4u)
 none)
 none)
 (rec x3 (IntKind.wrap .i64 (x5+(1:Int))) z8 x4u))
 none)
 none)
 (ke2 x3 z8))
def slices_Compact_impl_Key_impl_Key_l1_L(ke2:Int→T7→Option T7)(a0:T7):Nat→Int→Int→T7→Nat→Option T7
 |0=>fun _ _ _ _=>none
 |n+1=>slices_Compact_impl_Key_impl_Key_l1_b (slices_Compact_impl_Key_impl_Key_l1_L ke2 a0 n) ke2 a0
def slices_Compact_impl_Key_impl_Key_l0_b(rec:Int→Option T7)(ke0:Option T7)(kr:Nat→T7→Option T7)(a0:T7)(x3:Int):Option T7:=
 (cond (decide (x3<(a0.length:Int)))
 (cond ((decide ((0:Int)≤x3))&&(decide (x3<(a0.length:Int))))
 (cond ((decide ((0:Int)≤(IntKind.wrap .i64 (x3-(1:Int)))))&&(decide ((IntKind.wrap .i64 (x3-(1:Int)))<(a0.length:Int))))
 (cond (eqd (.arr 32 (.int .u8)) (a0.getD (x3.toNat) (List.replicate 32 (0:Int))) (a0.getD ((IntKind.wrap .i64 (x3-(1:Int))).toNat) (List.replicate 32 (0:Int))))
 (cond ((decide ((0:Int)≤x3))&&(decide (x3≤(a0.length:Int))))
 (slices_Compact_impl_Key_impl_Key_l1_L (fun x3 z8=>(cond ((decide ((0:Int)≤x3))&&(decide (x3≤(z8.length:Int))))
 (cond ((decide ((0:Int)≤x3))&&(decide (x3≤((splL z8 (x3.toNat) (List.take ((z8.length)-(x3.toNat)) (List.replicate ((z8.length)-(x3.toNat)) (List.replicate 32 (0:Int))))).length:Int))))
 (kr (x3.toNat) (splL z8 (x3.toNat) (List.take ((z8.length)-(x3.toNat)) (List.replicate ((z8.length)-(x3.toNat)) (List.replicate 32 (0:Int))))))
 none)
 none)) a0 FUEL x3 (1:Int) a0 (x3.toNat))
 none)
 (rec (IntKind.wrap .i64 (x3+(1:Int)))))
 none)
 none)
 (ke0))
def slices_Compact_impl_Key_impl_Key_l0_L(ke0:Option T7)(kr:Nat→T7→Option T7)(a0:T7):Nat→Int→Option T7
 |0=>fun _=>none
 |n+1=>slices_Compact_impl_Key_impl_Key_l0_b (slices_Compact_impl_Key_impl_Key_l0_L ke0 kr a0 n) ke0 kr a0
def slices_Compact_impl_Key_impl_Key_r(a0:T7):Option T7:=
 (cond (decide ((a0.length:Int)<(2:Int)))
 (some a0)
 (slices_Compact_impl_Key_impl_Key_l0_L (some a0) (fun x2v z8=>(some (List.take x2v z8))) a0 FUEL (1:Int)))
def f112_l1_p(k:Nat)(K:Ex→St→Option T7)(n:Nat)(a0:T7)(x3:Int)(x5:Int)(z8:T7)(x4u:Nat):Option T7:=loopK (f112_cx k) 0 (execK (f112_cx k) (callK (f112_cx k) 8) 0 112 (sub f112_c [1,1,0,1,0,0,1,0,0,1,0,1,0,1,0,0])) f112_l1_cut K n (f112_l1_s a0 x3 x5 z8 x4u)

theorem f112_l1_exit2(k:Nat)(K:Ex→St→Option T7)(n:Nat)(x3:Int)(z8:T7):((blkK 2 (seqK (execK (f112_cx k) (callK (f112_cx k) 8) 0 112 (sub f112_c [1,1,0,1,0,0,1,0,0,1,0,1,1])) (blkK 1 (seqK (execK (f112_cx k) (callK (f112_cx k) 8) 0 112 (sub f112_c [1,1,0,1,0,0,1,1])) (iterK (f112_cx k) 0 f112_l0_cut (loopK (f112_cx k) 0 (execK (f112_cx k) (callK (f112_cx k) 8) 0 112 (sub f112_c [1,1,0,1,0,0])) f112_l0_cut K n) K))))) (.exit 2) (f112_l1_o2 x3 z8):Option T7)=
 ((cond ((decide ((0:Int)≤x3))&&(decide (x3≤(z8.length:Int))))
 (cond ((decide ((0:Int)≤x3))&&(decide (x3≤((splL z8 (x3.toNat) (List.take ((z8.length)-(x3.toNat)) (List.replicate ((z8.length)-(x3.toNat)) (List.replicate 32 (0:Int))))).length:Int))))
 (K .ret (f112_l0_o (x3.toNat) (splL z8 (x3.toNat) (List.take ((z8.length)-(x3.toNat)) (List.replicate ((z8.length)-(x3.toNat)) (List.replicate 32 (0:Int)))))))
 none)
 none):Option T7):=by kernel_rfl

theorem f112_l1_round(k:Nat)(K:Ex→St→Option T7)(n:Nat)(a0:T7)(x3:Int)(x5:Int)(z8:T7)(x4u:Nat):(f112_l1_p k K (n+1) a0 x3 x5 z8 x4u:Option T7)=slices_Compact_impl_Key_impl_Key_l1_b ((fun x3 x5 z8 x4u=>f112_l1_p k K n a0 x3 x5 z8 x4u)) (fun x3 z8=>K (.exit 2) (f112_l1_o2 x3 z8)) a0 x3 x5 z8 x4u:=by kernel_rfl

theorem f112_l1_L_eq(K:Ex→St→Option T7)(a0:T7):∀(n:Nat) (x3:Int) (x5:Int) (z8:T7) (x4u:Nat),(f112_l1_p FUEL K n a0 x3 x5 z8 x4u:Option T7)=slices_Compact_impl_Key_impl_Key_l1_L (fun x3 z8=>K (.exit 2) (f112_l1_o2 x3 z8)) a0 n x3 x5 z8 x4u:=by
 intro n
 induction n with
 |zero=>intros; rfl
 |succ n ih=>
  intro x3 x5 z8 x4u
  exact(f112_l1_round FUEL K n a0 x3 x5 z8 x4u).trans (congrArg (fun f=>slices_Compact_impl_Key_impl_Key_l1_b f (fun x3 z8=>K (.exit 2) (f112_l1_o2 x3 z8)) a0 x3 x5 z8 x4u) (funext fun x3=>funext fun x5=>funext fun z8=>funext fun x4u=>ih x3 x5 z8 x4u))

def f112_l0_p(k:Nat)(K:Ex→St→Option T7)(n:Nat)(a0:T7)(x3:Int):Option T7:=loopK (f112_cx k) 0 (execK (f112_cx k) (callK (f112_cx k) 8) 0 112 (sub f112_c [1,1,0,1,0,0])) f112_l0_cut K n (f112_l0_s a0 x3)

theorem f112_l0_round(k:Nat)(K:Ex→St→Option T7)(n:Nat)(a0:T7)(x3:Int):(f112_l0_p k K (n+1) a0 x3:Option T7)=
 ((cond (decide (x3<(a0.length:Int)))
 (cond ((decide ((0:Int)≤x3))&&(decide (x3<(a0.length:Int))))
 (cond ((decide ((0:Int)≤(IntKind.wrap .i64 (x3-(1:Int)))))&&(decide ((IntKind.wrap .i64 (x3-(1:Int)))<(a0.length:Int))))
 (cond (eqd (.arr 32 (.int .u8)) (a0.getD (x3.toNat) (List.replicate 32 (0:Int))) (a0.getD ((IntKind.wrap .i64 (x3-(1:Int))).toNat) (List.replicate 32 (0:Int))))
 (cond ((decide ((0:Int)≤x3))&&(decide (x3≤(a0.length:Int))))
 (loopK (f112_cx k) 0 (execK (f112_cx k) (callK (f112_cx k) 8) 0 112 (sub f112_c [1,1,0,1,0,0,1,0,0,1,0,1,0,1,0,0])) f112_l1_cut (blkK 2 (seqK (execK (f112_cx k) (callK (f112_cx k) 8) 0 112 (sub f112_c [1,1,0,1,0,0,1,0,0,1,0,1,1])) (blkK 1 (seqK (execK (f112_cx k) (callK (f112_cx k) 8) 0 112 (sub f112_c [1,1,0,1,0,0,1,1])) (iterK (f112_cx k) 0 f112_l0_cut (loopK (f112_cx k) 0 (execK (f112_cx k) (callK (f112_cx k) 8) 0 112 (sub f112_c [1,1,0,1,0,0])) f112_l0_cut K n) K))))) k (f112_l1_s a0 x3 (1:Int) a0 (x3.toNat)))
 none)
 (loopK (f112_cx k) 0 (execK (f112_cx k) (callK (f112_cx k) 8) 0 112 (sub f112_c [1,1,0,1,0,0])) f112_l0_cut K n (f112_l0_s a0 (IntKind.wrap .i64 (x3+(1:Int))))))
 none)
 none)
 (K (.exit 0) (f112_l0_o0 a0))):Option T7):=by kernel_rfl

theorem f112_l0_exit0(k:Nat)(a0:T7):((blkK 0 (seqK (execK (f112_cx k) (callK (f112_cx k) 8) 0 112 (sub f112_c [1,1,1])) (finTK (f112_cx k) f112_i 45 (.arr 32 (.int .u8))))) (.exit 0) (f112_l0_o0 a0):Option T7)=
 ((some a0):Option T7):=by kernel_rfl

theorem f112_l0_ret(k:Nat)(x2v:Nat)(z8:T7):((blkK 0 (seqK (execK (f112_cx k) (callK (f112_cx k) 8) 0 112 (sub f112_c [1,1,1])) (finTK (f112_cx k) f112_i 45 (.arr 32 (.int .u8))))) .ret (f112_l0_o x2v z8):Option T7)=
 ((some (List.take x2v z8)):Option T7):=by kernel_rfl

theorem f112_l0_L_eq(K:Ex→St→Option T7)(a0:T7):∀(n:Nat) (x3:Int),(f112_l0_p FUEL K n a0 x3:Option T7)=slices_Compact_impl_Key_impl_Key_l0_L (K (.exit 0) (f112_l0_o0 a0)) (fun x2v z8=>K .ret (f112_l0_o x2v z8)) a0 n x3:=by
 intro n
 induction n with
 |zero=>intros; rfl
 |succ n ih=>
  intro x3
  exact(f112_l0_round FUEL K n a0 x3).trans (condC (condC (condC (condC (condC ((f112_l1_L_eq _ a0 FUEL x3 (1:Int) a0 (x3.toNat)).trans (congrArg (fun e0=>slices_Compact_impl_Key_impl_Key_l1_L e0 a0 FUEL x3 (1:Int) a0 (x3.toNat)) (funext fun x3=>funext fun z8=>(f112_l1_exit2 FUEL K n x3 z8).trans (condC (condC (rfl) (rfl)) (rfl))))) (rfl)) (ih (IntKind.wrap .i64 (x3+(1:Int))))) (rfl)) (rfl)) (rfl))

theorem f112_start(k:Nat)(a0:T7):fnTK (f112_cx k) 8 112 f112_i 45 (.arr 32 (.int .u8)) a0 []=
 ((cond (decide ((a0.length:Int)<(2:Int)))
 (some a0)
 (loopK (f112_cx k) 0 (execK (f112_cx k) (callK (f112_cx k) 8) 0 112 (sub f112_c [1,1,0,1,0,0])) f112_l0_cut (blkK 0 (seqK (execK (f112_cx k) (callK (f112_cx k) 8) 0 112 (sub f112_c [1,1,1])) (finTK (f112_cx k) f112_i 45 (.arr 32 (.int .u8))))) k (f112_l0_s a0 (1:Int)))):Option T7):=by kernel_rfl

theorem f112_run(a0:T7):fnTK (f112_cx FUEL) 8 112 f112_i 45 (.arr 32 (.int .u8)) a0 []=slices_Compact_impl_Key_impl_Key_r a0:=
 (f112_start FUEL a0).trans (condC (rfl) ((f112_l0_L_eq _ a0 FUEL (1:Int)).trans (cong2 (fun e0 e1=>slices_Compact_impl_Key_impl_Key_l0_L e0 e1 a0 FUEL (1:Int)) ((f112_l0_exit0 FUEL a0).trans (rfl)) (funext fun x2v=>funext fun z8=>(f112_l0_ret FUEL x2v z8).trans (rfl)))))

def f112_tak:ConT:={E:=45,e:=(.arr 32 (.int .u8)),ps:= .unit,raw:=fun x q=>slices_Compact_impl_Key_impl_Key_r x}
theorem f112_takOk:TakOk Tryz.prog 112 f112_tak:=tak_of_fn (f112_tabs FUEL) (depth:=8) f112_ok rfl fun xs q z h=>(f112_run xs).trans h

def f95_cx(k:Nat):Cx:=mkC [] [(110,f110_con)] [(112,f112_tak)] [(111,f111_inp)] [] k [] false
theorem f95_tabs(k:Nat):TabsOk Tryz.prog (f95_cx k):=mkC_ok ⟨f110_conOk,trivial⟩ ⟨f112_takOk,trivial⟩ ⟨f111_inpOk,trivial⟩ trivial
abbrev impl_sorted_sh:List Sh:=[.own 45 (.arr 32 (.int .u8))]
abbrev Q25:Type:=Option (shDen impl_sorted_sh)
def impl_sorted_r(a0:T7):Q25:=
 (bindO (slices_Clone_impl_Key_impl_Key_r a0) fun(b1:T7)=>(bindO (slices_SortFunc_impl_Key_impl_Key_r b1 ()) fun(b2:T5)=>(bindO (slices_Compact_impl_Key_impl_Key_r b2.1) fun(b3:T7)=>(some b3))))
theorem f95_run(a0:T7):fnK (f95_cx FUEL) 8 95 f95_i impl_sorted_sh [.pv K12 a0]=impl_sorted_r a0:=by kernel_rfl

def f95_con:Con:={ps:=K9,sh:=impl_sorted_sh,raw:=fun x=>impl_sorted_r x.1}
theorem f95_conOk:ConOk Tryz.prog 95 f95_con:=con_of_fn (f95_tabs FUEL) (depth:=8) f95_ok fun x y h=>(f95_run x.1).trans h

def f72_l0_cut:Cut:={keep:=[0,1,7,8],stk:=[[],[1,8]],ids:=[10],own:=[],outs:=[(0,[4],[10]),(1,[],[10])]}
def f72_l1_cut:Cut:={keep:=[0,1,5],stk:=[[21]],ids:=[140],own:=[],outs:=[(0,[4],[]),(1,[],[])]}
def f72_cx(k:Nat):Cx:=mkC [(54,f54_i),(84,f84_i),(96,f96_i)] [(73,f73_con),(94,f94_con),(95,f95_con),(97,f97_con)] [] [] [(720011005400070084,[(0,f72_l0_cut)]),(7200230096,[(0,f72_l1_cut)])] k [] false
theorem f72_tabs(k:Nat):TabsOk Tryz.prog (f72_cx k):=mkC_ok ⟨f73_conOk,f94_conOk,f95_conOk,f97_conOk,trivial⟩ trivial trivial ⟨f54_ok,f84_ok,f96_ok,trivial⟩
abbrev impl_ValidStore_sh:List Sh:=[.pl .bool]
abbrev Q13:Type:=Option (shDen impl_ValidStore_sh)
def f72_l0_s(a0:T2)(x8:Int):St:={env:=(.pv K5 a0.1:: .fn 94 (.pv .unit ())::(dd 5 (.pv (.int .i64) (a0.1.length:Int):: .pv (.int .i64) x8::(dd 10 [])))),stk:=[(dd 9 []),(.dead:: .ptr 10 K3 []::(dd 6 (.pv .bool false::(dd 16 []))))],heap:=[(10,.var K3 (.pv K3 a0))]}
def f72_l0_o(a0:T2)(x4:Int):St:={env:=(dd 4 (.pv (.int .i64) x4::(dd 14 []))),stk:=[(dd 9 []),(.dead:: .ptr 10 K3 []::(dd 6 (.pv .bool false::(dd 16 []))))],heap:=[(10,.var K3 (.pv K3 a0))]}
def f72_l0_o0(a0:T2):St:={env:=(dd 19 []),stk:=[(dd 9 []),(.dead:: .ptr 10 K3 []::(dd 6 (.pv .bool false::(dd 16 []))))],heap:=[(10,.var K3 (.pv K3 a0))]}
def f72_l1_s(a0:T2)(x5:Int)(z140:T7)(z160:T7):St:={env:=(.sl 140 (.arr 32 (.int .u8)):: .fn 97 (.pv .unit ())::(dd 3 (.pv (.int .i64) x5::(dd 19 [])))),stk:=[(dd 21 (.pv .bool true::(dd 3 [])))],heap:=[(10,.var K3 (.pv K3 a0)),(140,.arr 45 (.arr 32 (.int .u8)) z140),(160,.arr 45 (.arr 32 (.int .u8)) z160)]}
def f72_l1_o(a0:T2)(z140:T7)(z160:T7):St:={env:=(dd 4 (.pv .bool false::(dd 20 []))),stk:=[(dd 21 (.pv .bool true::(dd 3 [])))],heap:=[(10,.var K3 (.pv K3 a0)),(140,.arr 45 (.arr 32 (.int .u8)) z140),(160,.arr 45 (.arr 32 (.int .u8)) z160)]}
def f72_l1_o0(a0:T2)(z140:T7)(z160:T7):St:={env:=(dd 25 []),stk:=[(dd 21 (.pv .bool true::(dd 3 [])))],heap:=[(10,.var K3 (.pv K3 a0)),(140,.arr 45 (.arr 32 (.int .u8)) z140),(160,.arr 45 (.arr 32 (.int .u8)) z160)]}
def impl_ValidStore_l1_b(rec:Int→T7→T7→Q13)(kr:T7→T7→Q13)(ke0:T7→T7→Q13)(a0:T2)(x5:Int)(z140:T7)(z160:T7):Q13:=
 (cond (decide ((0:Int)<x5))
 (cond ((decide ((0:Int)≤x5))&&(decide (x5<(z140.length:Int))))
 (cond ((decide ((0:Int)≤(IntKind.wrap .i64 (x5-(1:Int)))))&&(decide ((IntKind.wrap .i64 (x5-(1:Int)))<(z140.length:Int))))
 (bindO (impl_compareKeys_r (z140.getD (x5.toNat) (List.replicate 32 (0:Int))) (z140.getD ((IntKind.wrap .i64 (x5-(1:Int))).toNat) (List.replicate 32 (0:Int)))) fun(b7:Int)=>(cond (decide (b7<(0:Int)))
 (kr z140 z160)
 (rec (IntKind.wrap .i64 (x5-(1:Int))) z140 z160)))
 none)
 none)
 (ke0 z140 z160))
def impl_ValidStore_l1_L(kr:T7→T7→Q13)(ke0:T7→T7→Q13)(a0:T2):Nat→Int→T7→T7→Q13
 |0=>fun _ _ _=>none
 |n+1=>impl_ValidStore_l1_b (impl_ValidStore_l1_L kr ke0 a0 n) kr ke0 a0
def impl_ValidStore_l0_b(rec:Int→Q13)(kr:Int→Q13)(ke0:Q13)(a0:T2)(x8:Int):Q13:=
 (cond (decide (x8<(a0.1.length:Int)))
 (cond ((decide ((0:Int)≤x8))&&(decide (x8<(a0.1.length:Int))))
 (bindO (impl_ValidStore_1_r (a0.1.getD (x8.toNat) ((0:Int),([],())))) fun(b2:Bool)=>(cond b2
 (kr x8)
 (rec (IntKind.wrap .i64 (x8+(1:Int))))))
 none)
 (ke0))
def impl_ValidStore_l0_L(kr:Int→Q13)(ke0:Q13)(a0:T2):Nat→Int→Q13
 |0=>fun _=>none
 |n+1=>impl_ValidStore_l0_b (impl_ValidStore_l0_L kr ke0 a0 n) kr ke0 a0
def impl_ValidStore_r(a0:T2):Q13:=
 (cond (decide ((128:Int)<(a0.1.length:Int)))
 (some false)
 (impl_ValidStore_l0_L (fun x4=>(cond (decide ((0:Int)≤x4))
 (some false)
 (bindO (impl_Store_keys_r a0) fun(b3:T7)=>(bindO (impl_sorted_r b3) fun(b4:T7)=>(cond (decide ((b4.length:Int)=(b3.length:Int)))
 (impl_ValidStore_l1_L (fun z140 z160=>(some false)) (fun z140 z160=>(some true)) a0 FUEL (IntKind.wrap .i64 ((b3.length:Int)-(1:Int))) b3 b4)
 (some false)))))) (bindO (impl_Store_keys_r a0) fun(b5:T7)=>(bindO (impl_sorted_r b5) fun(b6:T7)=>(cond (decide ((b6.length:Int)=(b5.length:Int)))
 (impl_ValidStore_l1_L (fun z140 z160=>(some false)) (fun z140 z160=>(some true)) a0 FUEL (IntKind.wrap .i64 ((b5.length:Int)-(1:Int))) b5 b6)
 (some false)))) a0 FUEL (0:Int)))
def f72_l1_p(k:Nat)(K:Ex→St→Q13)(n:Nat)(a0:T2)(x5:Int)(z140:T7)(z160:T7):Q13:=loopK (f72_cx k) 1 (execK (f72_cx k) (callK (f72_cx k) 7) 1 7200230096 (sub f96_c [1,0,1,0,0])) f72_l1_cut K n (f72_l1_s a0 x5 z140 z160)

theorem f72_l1_ret(k:Nat)(a0:T2)(z140:T7)(z160:T7):((blkK 0 (seqK (execK (f72_cx k) (callK (f72_cx k) 7) 1 7200230096 (sub f96_c [1,1])) (retK (f72_cx k) f96_i (some 23) 0 (opsRest (f72_cx k) (callK (f72_cx k) 8) 0 72 false (regOps (sub f72_c [1,1,1,0])) 8 (seqK (execK (f72_cx k) (callK (f72_cx k) 8) 0 72 (sub f72_c [1,1,1,1])) (finK (f72_cx k) f72_i impl_ValidStore_sh)))))) .ret (f72_l1_o a0 z140 z160):Q13)=
 ((some false):Q13):=by kernel_rfl

theorem f72_l1_exit0(k:Nat)(a0:T2)(z140:T7)(z160:T7):((blkK 0 (seqK (execK (f72_cx k) (callK (f72_cx k) 7) 1 7200230096 (sub f96_c [1,1])) (retK (f72_cx k) f96_i (some 23) 0 (opsRest (f72_cx k) (callK (f72_cx k) 8) 0 72 false (regOps (sub f72_c [1,1,1,0])) 8 (seqK (execK (f72_cx k) (callK (f72_cx k) 8) 0 72 (sub f72_c [1,1,1,1])) (finK (f72_cx k) f72_i impl_ValidStore_sh)))))) (.exit 0) (f72_l1_o0 a0 z140 z160):Q13)=
 ((some true):Q13):=by kernel_rfl

theorem f72_l1_round(k:Nat)(K:Ex→St→Q13)(n:Nat)(a0:T2)(x5:Int)(z140:T7)(z160:T7):(f72_l1_p k K (n+1) a0 x5 z140 z160:Q13)=impl_ValidStore_l1_b ((fun x5 z140 z160=>f72_l1_p k K n a0 x5 z140 z160)) (fun z140 z160=>K .ret (f72_l1_o a0 z140 z160)) (fun z140 z160=>K (.exit 0) (f72_l1_o0 a0 z140 z160)) a0 x5 z140 z160:=by kernel_rfl

theorem f72_l1_L_eq(K:Ex→St→Q13)(a0:T2):∀(n:Nat) (x5:Int) (z140:T7) (z160:T7),(f72_l1_p FUEL K n a0 x5 z140 z160:Q13)=impl_ValidStore_l1_L (fun z140 z160=>K .ret (f72_l1_o a0 z140 z160)) (fun z140 z160=>K (.exit 0) (f72_l1_o0 a0 z140 z160)) a0 n x5 z140 z160:=by
 intro n
 induction n with
 |zero=>intros; rfl
 |succ n ih=>
  intro x5 z140 z160
  exact(f72_l1_round FUEL K n a0 x5 z140 z160).trans (congrArg (fun f=>impl_ValidStore_l1_b f (fun z140 z160=>K .ret (f72_l1_o a0 z140 z160)) (fun z140 z160=>K (.exit 0) (f72_l1_o0 a0 z140 z160)) a0 x5 z140 z160) (funext fun x5=>funext fun z140=>funext fun z160=>ih x5 z140 z160))

def f72_l0_p(k:Nat)(K:Ex→St→Q13)(n:Nat)(a0:T2)(x8:Int):Q13:=loopK (f72_cx k) 2 (execK (f72_cx k) (callK (f72_cx k) 6) 2 720011005400070084 (sub f84_c [1,0,1,0,0])) f72_l0_cut K n (f72_l0_s a0 x8)

theorem f72_l0_ret(k:Nat)(a0:T2)(x4:Int):((blkK 0 (seqK (execK (f72_cx k) (callK (f72_cx k) 6) 2 720011005400070084 (sub f84_c [1,1])) (retK (f72_cx k) f84_i (some 7) 1 (opsRest (f72_cx k) (callK (f72_cx k) 7) 1 7200110054 false (regOps (sub f54_c [1,0])) 2 (seqK (execK (f72_cx k) (callK (f72_cx k) 7) 1 7200110054 (sub f54_c [1,1])) (retK (f72_cx k) f54_i (some 11) 0 (opsRest (f72_cx k) (callK (f72_cx k) 8) 0 72 false (regOps (sub f72_c [1,0,0])) 7 (seqK (execK (f72_cx k) (callK (f72_cx k) 8) 0 72 (sub f72_c [1,0,1])) (seqK (execK (f72_cx k) (callK (f72_cx k) 8) 0 72 (sub f72_c [1,1])) (finK (f72_cx k) f72_i impl_ValidStore_sh)))))))))) .ret (f72_l0_o a0 x4):Q13)=
 ((cond (decide ((0:Int)≤x4))
 (some false)
 (bindO (impl_Store_keys_r a0) fun(b3:T7)=>(bindO (impl_sorted_r b3) fun(b4:T7)=>(cond (decide ((b4.length:Int)=(b3.length:Int)))
 (loopK (f72_cx k) 1 (execK (f72_cx k) (callK (f72_cx k) 7) 1 7200230096 (sub f96_c [1,0,1,0,0])) f72_l1_cut (blkK 0 (seqK (execK (f72_cx k) (callK (f72_cx k) 7) 1 7200230096 (sub f96_c [1,1])) (retK (f72_cx k) f96_i (some 23) 0 (opsRest (f72_cx k) (callK (f72_cx k) 8) 0 72 false (regOps (sub f72_c [1,1,1,0])) 8 (seqK (execK (f72_cx k) (callK (f72_cx k) 8) 0 72 (sub f72_c [1,1,1,1])) (finK (f72_cx k) f72_i impl_ValidStore_sh)))))) k (f72_l1_s a0 (IntKind.wrap .i64 ((b3.length:Int)-(1:Int))) b3 b4))
 (some false))))):Q13):=by kernel_rfl

theorem f72_l0_exit0(k:Nat)(a0:T2):((blkK 0 (seqK (execK (f72_cx k) (callK (f72_cx k) 6) 2 720011005400070084 (sub f84_c [1,1])) (retK (f72_cx k) f84_i (some 7) 1 (opsRest (f72_cx k) (callK (f72_cx k) 7) 1 7200110054 false (regOps (sub f54_c [1,0])) 2 (seqK (execK (f72_cx k) (callK (f72_cx k) 7) 1 7200110054 (sub f54_c [1,1])) (retK (f72_cx k) f54_i (some 11) 0 (opsRest (f72_cx k) (callK (f72_cx k) 8) 0 72 false (regOps (sub f72_c [1,0,0])) 7 (seqK (execK (f72_cx k) (callK (f72_cx k) 8) 0 72 (sub f72_c [1,0,1])) (seqK (execK (f72_cx k) (callK (f72_cx k) 8) 0 72 (sub f72_c [1,1])) (finK (f72_cx k) f72_i impl_ValidStore_sh)))))))))) (.exit 0) (f72_l0_o0 a0):Q13)=
 ((bindO (impl_Store_keys_r a0) fun(b5:T7)=>(bindO (impl_sorted_r b5) fun(b6:T7)=>(cond (decide ((b6.length:Int)=(b5.length:Int)))
 (loopK (f72_cx k) 1 (execK (f72_cx k) (callK (f72_cx k) 7) 1 7200230096 (sub f96_c [1,0,1,0,0])) f72_l1_cut (blkK 0 (seqK (execK (f72_cx k) (callK (f72_cx k) 7) 1 7200230096 (sub f96_c [1,1])) (retK (f72_cx k) f96_i (some 23) 0 (opsRest (f72_cx k) (callK (f72_cx k) 8) 0 72 false (regOps (sub f72_c [1,1,1,0])) 8 (seqK (execK (f72_cx k) (callK (f72_cx k) 8) 0 72 (sub f72_c [1,1,1,1])) (finK (f72_cx k) f72_i impl_ValidStore_sh)))))) k (f72_l1_s a0 (IntKind.wrap .i64 ((b5.length:Int)-(1:Int))) b5 b6))
 (some false)))):Q13):=by kernel_rfl

theorem f72_l0_round(k:Nat)(K:Ex→St→Q13)(n:Nat)(a0:T2)(x8:Int):(f72_l0_p k K (n+1) a0 x8:Q13)=impl_ValidStore_l0_b ((fun x8=>f72_l0_p k K n a0 x8)) (fun x4=>K .ret (f72_l0_o a0 x4)) (K (.exit 0) (f72_l0_o0 a0)) a0 x8:=by kernel_rfl

theorem f72_l0_L_eq(K:Ex→St→Q13)(a0:T2):∀(n:Nat) (x8:Int),(f72_l0_p FUEL K n a0 x8:Q13)=impl_ValidStore_l0_L (fun x4=>K .ret (f72_l0_o a0 x4)) (K (.exit 0) (f72_l0_o0 a0)) a0 n x8:=by
 intro n
 induction n with
 |zero=>intros; rfl
 |succ n ih=>
  intro x8
  exact(f72_l0_round FUEL K n a0 x8).trans (congrArg (fun f=>impl_ValidStore_l0_b f (fun x4=>K .ret (f72_l0_o a0 x4)) (K (.exit 0) (f72_l0_o0 a0)) a0 x8) (funext fun x8=>ih x8))

theorem f72_start(k:Nat)(a0:T2):fnK (f72_cx k) 8 72 f72_i impl_ValidStore_sh [.pv K3 a0]=
 ((cond (decide ((128:Int)<(a0.1.length:Int)))
 (some false)
 (loopK (f72_cx k) 2 (execK (f72_cx k) (callK (f72_cx k) 6) 2 720011005400070084 (sub f84_c [1,0,1,0,0])) f72_l0_cut (blkK 0 (seqK (execK (f72_cx k) (callK (f72_cx k) 6) 2 720011005400070084 (sub f84_c [1,1])) (retK (f72_cx k) f84_i (some 7) 1 (opsRest (f72_cx k) (callK (f72_cx k) 7) 1 7200110054 false (regOps (sub f54_c [1,0])) 2 (seqK (execK (f72_cx k) (callK (f72_cx k) 7) 1 7200110054 (sub f54_c [1,1])) (retK (f72_cx k) f54_i (some 11) 0 (opsRest (f72_cx k) (callK (f72_cx k) 8) 0 72 false (regOps (sub f72_c [1,0,0])) 7 (seqK (execK (f72_cx k) (callK (f72_cx k) 8) 0 72 (sub f72_c [1,0,1])) (seqK (execK (f72_cx k) (callK (f72_cx k) 8) 0 72 (sub f72_c [1,1])) (finK (f72_cx k) f72_i impl_ValidStore_sh)))))))))) k (f72_l0_s a0 (0:Int)))):Q13):=by kernel_rfl

theorem f72_run(a0:T2):fnK (f72_cx FUEL) 8 72 f72_i impl_ValidStore_sh [.pv K3 a0]=impl_ValidStore_r a0:=
 (f72_start FUEL a0).trans (condC (rfl) ((f72_l0_L_eq _ a0 FUEL (0:Int)).trans (cong2 (fun e0 e1=>impl_ValidStore_l0_L e0 e1 a0 FUEL (0:Int)) (funext fun x4=>(f72_l0_ret FUEL a0 x4).trans (condC (rfl) (bindC (fun b3=>bindC (fun b4=>condC ((f72_l1_L_eq _ a0 FUEL (IntKind.wrap .i64 ((b3.length:Int)-(1:Int))) b3 b4).trans (cong2 (fun e0 e1=>impl_ValidStore_l1_L e0 e1 a0 FUEL (IntKind.wrap .i64 ((b3.length:Int)-(1:Int))) b3 b4) (funext fun z140=>funext fun z160=>(f72_l1_ret FUEL a0 z140 z160).trans (rfl)) (funext fun z140=>funext fun z160=>(f72_l1_exit0 FUEL a0 z140 z160).trans (rfl)))) (rfl)))))) ((f72_l0_exit0 FUEL a0).trans (bindC (fun b5=>bindC (fun b6=>condC ((f72_l1_L_eq _ a0 FUEL (IntKind.wrap .i64 ((b5.length:Int)-(1:Int))) b5 b6).trans (cong2 (fun e0 e1=>impl_ValidStore_l1_L e0 e1 a0 FUEL (IntKind.wrap .i64 ((b5.length:Int)-(1:Int))) b5 b6) (funext fun z140=>funext fun z160=>(f72_l1_ret FUEL a0 z140 z160).trans (rfl)) (funext fun z140=>funext fun z160=>(f72_l1_exit0 FUEL a0 z140 z160).trans (rfl)))) (rfl))))))))

def f72_con:Con:={ps:=K2,sh:=impl_ValidStore_sh,raw:=fun x=>impl_ValidStore_r x.1}
theorem f72_conOk:ConOk Tryz.prog 72 f72_con:=con_of_fn (f72_tabs FUEL) (depth:=8) f72_ok fun x y h=>(f72_run x.1).trans h

def f74_cx(k:Nat):Cx:=mkC [] [] [] [] [] k [] false
theorem f74_tabs(k:Nat):TabsOk Tryz.prog (f74_cx k):=mkC_ok trivial trivial trivial trivial
abbrev slices_Clone_impl_Blob_impl_Blob_sh:List Sh:=[.own 72 K8]
abbrev Q50:Type:=Option (shDen slices_Clone_impl_Blob_impl_Blob_sh)
def slices_Clone_impl_Blob_impl_Blob_r(a0:T3):Q50:=
 (cond (List.isEmpty a0) (bothO (some []) (cond (decide ((0+a0.length)*32≤140737488355328)&&decide (0+a0.length≤9223372036854775807))
 (some ([]++a0))
 none)) (cond (decide ((0+a0.length)*32≤140737488355328)&&decide (0+a0.length≤9223372036854775807))
 (some ([]++a0))
 none))
theorem f74_run(a0:T3):fnK (f74_cx FUEL) 8 74 f74_i slices_Clone_impl_Blob_impl_Blob_sh [.pv K5 a0]=slices_Clone_impl_Blob_impl_Blob_r a0:=by kernel_rfl

def f74_con:Con:={ps:=K3,sh:=slices_Clone_impl_Blob_impl_Blob_sh,raw:=fun x=>slices_Clone_impl_Blob_impl_Blob_r x.1}
theorem f74_conOk:ConOk Tryz.prog 74 f74_con:=con_of_fn (f74_tabs FUEL) (depth:=8) f74_ok fun x y h=>(f74_run x.1).trans h

def f55_cx(k:Nat):Cx:=mkC [] [(56,f56_con)] [] [] [] k [] false
theorem f55_tabs(k:Nat):TabsOk Tryz.prog (f55_cx k):=mkC_ok ⟨f56_conOk,trivial⟩ trivial trivial trivial
abbrev impl_TakeBlobs_1_sh:List Sh:=[.pl .bool]
abbrev Q9:Type:=Option (shDen impl_TakeBlobs_1_sh)
def impl_TakeBlobs_1_r(a0:T4):Q9:=
 (bindO (impl_ValidBlob_r a0) fun(b1:Bool)=>(some (!b1)))
theorem f55_run(a0:T4):fnK (f55_cx FUEL) 8 55 f55_i impl_TakeBlobs_1_sh [.pv K8 a0]=impl_TakeBlobs_1_r a0:=by kernel_rfl

def f55_con:Con:={ps:=K4,sh:=impl_TakeBlobs_1_sh,raw:=fun x=>impl_TakeBlobs_1_r x.1}
theorem f55_conOk:ConOk Tryz.prog 55 f55_con:=con_of_fn (f55_tabs FUEL) (depth:=8) f55_ok fun x y h=>(f55_run x.1).trans h

def f102_l0_cut:Cut:={keep:=[0,3,7,8],stk:=[],ids:=[30],own:=[],outs:=[(0,[4],[]),(1,[],[])]}
def f102_cx(k:Nat):Cx:=mkC [] [] [] [] [(102,[(0,f102_l0_cut)])] k [] false
theorem f102_tabs(k:Nat):TabsOk Tryz.prog (f102_cx k):=mkC_ok trivial trivial trivial trivial
abbrev slices_Index_impl_Key_impl_Key_sh:List Sh:=[.pl (.int .i64)]
abbrev Q55:Type:=Option (shDen slices_Index_impl_Key_impl_Key_sh)
def f102_l0_s(a0:T7)(a1:(List Int))(x8:Int):St:={env:=(.pv K12 a0:: .dead:: .dead:: .ptr 30 (.arr 32 (.int .u8)) []::(dd 3 (.pv (.int .i64) (a0.length:Int):: .pv (.int .i64) x8::(dd 10 [])))),stk:=[],heap:=[(30,.var (.arr 32 (.int .u8)) (.pv (.arr 32 (.int .u8)) a1))]}
def f102_l0_o(x4:Int):St:={env:=(dd 4 (.pv (.int .i64) x4::(dd 14 []))),stk:=[],heap:=[]}
def f102_l0_o0:St:={env:=(dd 19 []),stk:=[],heap:=[]}
def slices_Index_impl_Key_impl_Key_l0_b(rec:Int→Q55)(kr:Int→Q55)(ke0:Q55)(a0:T7)(a1:(List Int))(x8:Int):Q55:=
 (cond (decide (x8<(a0.length:Int)))
 (cond ((decide ((0:Int)≤x8))&&(decide (x8<(a0.length:Int))))
 (cond (eqd (.arr 32 (.int .u8)) a1 (a0.getD (x8.toNat) (List.replicate 32 (0:Int))))
 (kr x8)
 (rec (IntKind.wrap .i64 (x8+(1:Int)))))
 none)
 (ke0))
def slices_Index_impl_Key_impl_Key_l0_L(kr:Int→Q55)(ke0:Q55)(a0:T7)(a1:(List Int)):Nat→Int→Q55
 |0=>fun _=>none
 |n+1=>slices_Index_impl_Key_impl_Key_l0_b (slices_Index_impl_Key_impl_Key_l0_L kr ke0 a0 a1 n) kr ke0 a0 a1
def slices_Index_impl_Key_impl_Key_r(a0:T7)(a1:(List Int)):Q55:=
 (slices_Index_impl_Key_impl_Key_l0_L (fun x4=>(some x4)) (some (-1:Int)) a0 a1 FUEL (0:Int))
def f102_l0_p(k:Nat)(K:Ex→St→Q55)(n:Nat)(a0:T7)(a1:(List Int))(x8:Int):Q55:=loopK (f102_cx k) 0 (execK (f102_cx k) (callK (f102_cx k) 8) 0 102 (sub f102_c [1,0,1,0,0])) f102_l0_cut K n (f102_l0_s a0 a1 x8)

theorem f102_l0_ret(k:Nat)(x4:Int):((blkK 0 (seqK (execK (f102_cx k) (callK (f102_cx k) 8) 0 102 (sub f102_c [1,1])) (finK (f102_cx k) f102_i slices_Index_impl_Key_impl_Key_sh))) .ret (f102_l0_o x4):Q55)=
 ((some x4):Q55):=by kernel_rfl

theorem f102_l0_exit0(k:Nat):((blkK 0 (seqK (execK (f102_cx k) (callK (f102_cx k) 8) 0 102 (sub f102_c [1,1])) (finK (f102_cx k) f102_i slices_Index_impl_Key_impl_Key_sh))) (.exit 0) (f102_l0_o0):Q55)=
 ((some (-1:Int)):Q55):=by kernel_rfl

theorem f102_l0_round(k:Nat)(K:Ex→St→Q55)(n:Nat)(a0:T7)(a1:(List Int))(x8:Int):(f102_l0_p k K (n+1) a0 a1 x8:Q55)=slices_Index_impl_Key_impl_Key_l0_b ((fun x8=>f102_l0_p k K n a0 a1 x8)) (fun x4=>K .ret (f102_l0_o x4)) (K (.exit 0) (f102_l0_o0)) a0 a1 x8:=by kernel_rfl

theorem f102_l0_L_eq(K:Ex→St→Q55)(a0:T7)(a1:(List Int)):∀(n:Nat) (x8:Int),(f102_l0_p FUEL K n a0 a1 x8:Q55)=slices_Index_impl_Key_impl_Key_l0_L (fun x4=>K .ret (f102_l0_o x4)) (K (.exit 0) (f102_l0_o0)) a0 a1 n x8:=by
 intro n
 induction n with
 |zero=>intros; rfl
 |succ n ih=>
  intro x8
  exact(f102_l0_round FUEL K n a0 a1 x8).trans (congrArg (fun f=>slices_Index_impl_Key_impl_Key_l0_b f (fun x4=>K .ret (f102_l0_o x4)) (K (.exit 0) (f102_l0_o0)) a0 a1 x8) (funext fun x8=>ih x8))

theorem f102_start(k:Nat)(a0:T7)(a1:(List Int)):fnK (f102_cx k) 8 102 f102_i slices_Index_impl_Key_impl_Key_sh [.pv K12 a0,.pv (.arr 32 (.int .u8)) a1]=
 ((loopK (f102_cx k) 0 (execK (f102_cx k) (callK (f102_cx k) 8) 0 102 (sub f102_c [1,0,1,0,0])) f102_l0_cut (blkK 0 (seqK (execK (f102_cx k) (callK (f102_cx k) 8) 0 102 (sub f102_c [1,1])) (finK (f102_cx k) f102_i slices_Index_impl_Key_impl_Key_sh))) k (f102_l0_s a0 a1 (0:Int))):Q55):=by kernel_rfl

theorem f102_run(a0:T7)(a1:(List Int)):fnK (f102_cx FUEL) 8 102 f102_i slices_Index_impl_Key_impl_Key_sh [.pv K12 a0,.pv (.arr 32 (.int .u8)) a1]=slices_Index_impl_Key_impl_Key_r a0 a1:=
 (f102_start FUEL a0 a1).trans ((f102_l0_L_eq _ a0 a1 FUEL (0:Int)).trans (cong2 (fun e0 e1=>slices_Index_impl_Key_impl_Key_l0_L e0 e1 a0 a1 FUEL (0:Int)) (funext fun x4=>(f102_l0_ret FUEL x4).trans (rfl)) ((f102_l0_exit0 FUEL).trans (rfl))))

def f102_con:Con:={ps:=(.pair K12 K10),sh:=slices_Index_impl_Key_impl_Key_sh,raw:=fun x=>slices_Index_impl_Key_impl_Key_r x.1 x.2.1}
theorem f102_conOk:ConOk Tryz.prog 102 f102_con:=con_of_fn (f102_tabs FUEL) (depth:=8) f102_ok fun x y h=>(f102_run x.1 x.2.1).trans h

def f86_cx(k:Nat):Cx:=mkC [] [(102,f102_con)] [] [] [] k [] false
theorem f86_tabs(k:Nat):TabsOk Tryz.prog (f86_cx k):=mkC_ok ⟨f102_conOk,trivial⟩ trivial trivial trivial
abbrev slices_Contains_impl_Key_impl_Key_sh:List Sh:=[.pl .bool]
abbrev Q54:Type:=Option (shDen slices_Contains_impl_Key_impl_Key_sh)
def slices_Contains_impl_Key_impl_Key_r(a0:T7)(a1:(List Int)):Q54:=
 (bindO (slices_Index_impl_Key_impl_Key_r a0 a1) fun(b1:Int)=>(some (decide ((0:Int)≤b1))))
theorem f86_run(a0:T7)(a1:(List Int)):fnK (f86_cx FUEL) 8 86 f86_i slices_Contains_impl_Key_impl_Key_sh [.pv K12 a0,.pv (.arr 32 (.int .u8)) a1]=slices_Contains_impl_Key_impl_Key_r a0 a1:=by kernel_rfl

def f86_con:Con:={ps:=(.pair K12 K10),sh:=slices_Contains_impl_Key_impl_Key_sh,raw:=fun x=>slices_Contains_impl_Key_impl_Key_r x.1 x.2.1}
theorem f86_conOk:ConOk Tryz.prog 86 f86_con:=con_of_fn (f86_tabs FUEL) (depth:=8) f86_ok fun x y h=>(f86_run x.1 x.2.1).trans h

def f106_l0_cut:Cut:={keep:=[0,2,4,8,9,10],stk:=[],ids:=[40],own:=[],outs:=[(1,[0,2,4,8,9],[40])]}
def f106_cx(k:Nat):Cx:=mkC [] [(97,f97_con)] [] [] [(106,[(0,f106_l0_cut)])] k [] false
theorem f106_tabs(k:Nat):TabsOk Tryz.prog (f106_cx k):=mkC_ok ⟨f97_conOk,trivial⟩ trivial trivial trivial
abbrev slices_BinarySearchFunc_impl_Key_impl_Key_impl_Key_sh:List Sh:=[.pl (.int .i64),.pl .bool]
abbrev Q48:Type:=Option (shDen slices_BinarySearchFunc_impl_Key_impl_Key_impl_Key_sh)
def f106_l0_s(a0:T7)(a1:(List Int))(x9:Int)(x10:Int):St:={env:=(.pv K12 a0:: .dead:: .fn 97 (.pv .unit ()):: .dead:: .ptr 40 (.arr 32 (.int .u8)) []::(dd 3 (.pv (.int .i64) (a0.length:Int):: .pv (.int .i64) x9:: .pv (.int .i64) x10::(dd 38 [])))),stk:=[],heap:=[(40,.var (.arr 32 (.int .u8)) (.pv (.arr 32 (.int .u8)) a1))]}
def f106_l0_o0(a0:T7)(a1:(List Int))(x9:Int):St:={env:=(.pv K12 a0:: .dead:: .fn 97 (.pv .unit ()):: .dead:: .ptr 40 (.arr 32 (.int .u8)) []::(dd 3 (.pv (.int .i64) (a0.length:Int):: .pv (.int .i64) x9::(dd 39 [])))),stk:=[],heap:=[(40,.var (.arr 32 (.int .u8)) (.pv (.arr 32 (.int .u8)) a1))]}
def slices_BinarySearchFunc_impl_Key_impl_Key_impl_Key_l0_b(rec:Int→Int→Q48)(ke0:Int→Q48)(a0:T7)(a1:(List Int))(x9:Int)(x10:Int):Q48:=
 (cond (decide (x9<x10))
 (cond ((decide ((0:Int)≤(IntKind.wrap .i64 (shrI .u64 (IntKind.wrap .u64 (IntKind.wrap .i64 (x9+x10))) (1:Int)))))&&(decide ((IntKind.wrap .i64 (shrI .u64 (IntKind.wrap .u64 (IntKind.wrap .i64 (x9+x10))) (1:Int)))<(a0.length:Int))))
 (bindO (impl_compareKeys_r (a0.getD ((IntKind.wrap .i64 (shrI .u64 (IntKind.wrap .u64 (IntKind.wrap .i64 (x9+x10))) (1:Int))).toNat) (List.replicate 32 (0:Int))) a1) fun(b2:Int)=>(cond (decide (b2<(0:Int)))
 (rec (IntKind.wrap .i64 ((IntKind.wrap .i64 (shrI .u64 (IntKind.wrap .u64 (IntKind.wrap .i64 (x9+x10))) (1:Int)))+(1:Int))) x10)
 (rec x9 (IntKind.wrap .i64 (shrI .u64 (IntKind.wrap .u64 (IntKind.wrap .i64 (x9+x10))) (1:Int))))))
 none)
 (ke0 x9))
def slices_BinarySearchFunc_impl_Key_impl_Key_impl_Key_l0_L(ke0:Int→Q48)(a0:T7)(a1:(List Int)):Nat→Int→Int→Q48
 |0=>fun _ _=>none
 |n+1=>slices_BinarySearchFunc_impl_Key_impl_Key_impl_Key_l0_b (slices_BinarySearchFunc_impl_Key_impl_Key_impl_Key_l0_L ke0 a0 a1 n) ke0 a0 a1
def slices_BinarySearchFunc_impl_Key_impl_Key_impl_Key_r(a0:T7)(a1:(List Int))(a2:Unit):Q48:=
 (slices_BinarySearchFunc_impl_Key_impl_Key_impl_Key_l0_L (fun x9=>(cond (decide (x9<(a0.length:Int)))
 (cond ((decide ((0:Int)≤x9))&&(decide (x9<(a0.length:Int))))
 (bindO (impl_compareKeys_r (a0.getD (x9.toNat) (List.replicate 32 (0:Int))) a1) fun(b3:Int)=>(some (x9,(decide (b3=(0:Int))))))
 none)
 (some (x9,false)))) a0 a1 FUEL (0:Int) (a0.length:Int))
def f106_l0_p(k:Nat)(K:Ex→St→Q48)(n:Nat)(a0:T7)(a1:(List Int))(x9:Int)(x10:Int):Q48:=loopK (f106_cx k) 0 (execK (f106_cx k) (callK (f106_cx k) 8) 0 106 (sub f106_c [1,1,1,0,0,0])) f106_l0_cut K n (f106_l0_s a0 a1 x9 x10)

theorem f106_l0_exit0(k:Nat)(a0:T7)(a1:(List Int))(x9:Int):((blkK 0 (seqK (execK (f106_cx k) (callK (f106_cx k) 8) 0 106 (sub f106_c [1,1,1,1])) (finK (f106_cx k) f106_i slices_BinarySearchFunc_impl_Key_impl_Key_impl_Key_sh))) (.exit 0) (f106_l0_o0 a0 a1 x9):Q48)=
 ((cond (decide (x9<(a0.length:Int)))
 (cond ((decide ((0:Int)≤x9))&&(decide (x9<(a0.length:Int))))
 (bindO (impl_compareKeys_r (a0.getD (x9.toNat) (List.replicate 32 (0:Int))) a1) fun(b3:Int)=>(some (x9,(decide (b3=(0:Int))))))
 none)
 (some (x9,false))):Q48):=by kernel_rfl

theorem f106_l0_round(k:Nat)(K:Ex→St→Q48)(n:Nat)(a0:T7)(a1:(List Int))(x9:Int)(x10:Int):(f106_l0_p k K (n+1) a0 a1 x9 x10:Q48)=slices_BinarySearchFunc_impl_Key_impl_Key_impl_Key_l0_b ((fun x9 x10=>f106_l0_p k K n a0 a1 x9 x10)) (fun x9=>K (.exit 0) (f106_l0_o0 a0 a1 x9)) a0 a1 x9 x10:=by kernel_rfl

theorem f106_l0_L_eq(K:Ex→St→Q48)(a0:T7)(a1:(List Int)):∀(n:Nat) (x9:Int) (x10:Int),(f106_l0_p FUEL K n a0 a1 x9 x10:Q48)=slices_BinarySearchFunc_impl_Key_impl_Key_impl_Key_l0_L (fun x9=>K (.exit 0) (f106_l0_o0 a0 a1 x9)) a0 a1 n x9 x10:=by
 intro n
 induction n with
 |zero=>intros; rfl
 |succ n ih=>
  intro x9 x10
  exact(f106_l0_round FUEL K n a0 a1 x9 x10).trans (congrArg (fun f=>slices_BinarySearchFunc_impl_Key_impl_Key_impl_Key_l0_b f (fun x9=>K (.exit 0) (f106_l0_o0 a0 a1 x9)) a0 a1 x9 x10) (funext fun x9=>funext fun x10=>ih x9 x10))

theorem f106_start(k:Nat)(a0:T7)(a1:(List Int))(a2:Unit):fnK (f106_cx k) 8 106 f106_i slices_BinarySearchFunc_impl_Key_impl_Key_impl_Key_sh [.pv K12 a0,.pv (.arr 32 (.int .u8)) a1,.fn 97 (.pv .unit ())]=
 ((loopK (f106_cx k) 0 (execK (f106_cx k) (callK (f106_cx k) 8) 0 106 (sub f106_c [1,1,1,0,0,0])) f106_l0_cut (blkK 0 (seqK (execK (f106_cx k) (callK (f106_cx k) 8) 0 106 (sub f106_c [1,1,1,1])) (finK (f106_cx k) f106_i slices_BinarySearchFunc_impl_Key_impl_Key_impl_Key_sh))) k (f106_l0_s a0 a1 (0:Int) (a0.length:Int))):Q48):=by kernel_rfl

theorem f106_run(a0:T7)(a1:(List Int))(a2:Unit):fnK (f106_cx FUEL) 8 106 f106_i slices_BinarySearchFunc_impl_Key_impl_Key_impl_Key_sh [.pv K12 a0,.pv (.arr 32 (.int .u8)) a1,.fn 97 (.pv .unit ())]=slices_BinarySearchFunc_impl_Key_impl_Key_impl_Key_r a0 a1 a2:=
 (f106_start FUEL a0 a1 a2).trans ((f106_l0_L_eq _ a0 a1 FUEL (0:Int) (a0.length:Int)).trans (congrArg (fun e0=>slices_BinarySearchFunc_impl_Key_impl_Key_impl_Key_l0_L e0 a0 a1 FUEL (0:Int) (a0.length:Int)) (funext fun x9=>(f106_l0_exit0 FUEL a0 a1 x9).trans (rfl))))

def f106_con:Con:={ps:=(.pair K12 (.pair (.arr 32 (.int .u8)) (.pair (.fnc 97) .unit))),sh:=slices_BinarySearchFunc_impl_Key_impl_Key_impl_Key_sh,raw:=fun x=>slices_BinarySearchFunc_impl_Key_impl_Key_impl_Key_r x.1 x.2.1 x.2.2.1}
theorem f106_conOk:ConOk Tryz.prog 106 f106_con:=con_of_fn (f106_tabs FUEL) (depth:=8) f106_ok fun x y h=>(f106_run x.1 x.2.1 x.2.2.1).trans h

def f90_cx(k:Nat):Cx:=mkC [] [(106,f106_con)] [] [] [] k [] false
theorem f90_tabs(k:Nat):TabsOk Tryz.prog (f90_cx k):=mkC_ok ⟨f106_conOk,trivial⟩ trivial trivial trivial
abbrev impl_shop_find_sh:List Sh:=[.pl (.int .i64),.pl .bool]
abbrev Q21:Type:=Option (shDen impl_shop_find_sh)
def impl_shop_find_r(a0:T1)(a1:(List Int)):Q21:=
 (bindO (slices_BinarySearchFunc_impl_Key_impl_Key_impl_Key_r a0.1 a1 ()) fun(b1:(Int×Bool))=>(some (b1.1,b1.2)))
theorem f90_run(a0:T1)(a1:(List Int)):fnK (f90_cx FUEL) 8 90 f90_i impl_shop_find_sh [.pv (.ref K1) a0,.pv (.arr 32 (.int .u8)) a1]=impl_shop_find_r a0 a1:=by kernel_rfl

def f90_con:Con:={ps:=(.pair (.ref K1) K10),sh:=impl_shop_find_sh,raw:=fun x=>impl_shop_find_r x.1 x.2.1}
theorem f90_conOk:ConOk Tryz.prog 90 f90_con:=con_of_fn (f90_tabs FUEL) (depth:=8) f90_ok fun x y h=>(f90_run x.1 x.2.1).trans h

def f87_cx(k:Nat):Cx:=mkC [] [(90,f90_con)] [] [] [] k [] false
theorem f87_tabs(k:Nat):TabsOk Tryz.prog (f87_cx k):=mkC_ok ⟨f90_conOk,trivial⟩ trivial trivial trivial
abbrev impl_shop_has_sh:List Sh:=[.pl .bool]
abbrev Q22:Type:=Option (shDen impl_shop_has_sh)
def impl_shop_has_r(a0:T1)(a1:(List Int)):Q22:=
 (bindO (impl_shop_find_r a0 a1) fun(b1:(Int×Bool))=>(some b1.2))
theorem f87_run(a0:T1)(a1:(List Int)):fnK (f87_cx FUEL) 8 87 f87_i impl_shop_has_sh [.pv (.ref K1) a0,.pv (.arr 32 (.int .u8)) a1]=impl_shop_has_r a0 a1:=by kernel_rfl

def f87_con:Con:={ps:=(.pair (.ref K1) K10),sh:=impl_shop_has_sh,raw:=fun x=>impl_shop_has_r x.1 x.2.1}
theorem f87_conOk:ConOk Tryz.prog 87 f87_con:=con_of_fn (f87_tabs FUEL) (depth:=8) f87_ok fun x y h=>(f87_run x.1 x.2.1).trans h

def f122_cx(k:Nat):Cx:=mkC [] [] [] [] [] k [] false
theorem f122_tabs(k:Nat):TabsOk Tryz.prog (f122_cx k):=mkC_ok trivial trivial trivial trivial
abbrev bytes_Equal_sh:List Sh:=[.pl .bool]
abbrev Q0:Type:=Option (shDen bytes_Equal_sh)
def bytes_Equal_r(a0:(List Int))(a1:(List Int)):Q0:=
 (some (decide (a0=a1)))
theorem f122_run(a0:(List Int))(a1:(List Int)):fnK (f122_cx FUEL) 8 122 f122_i bytes_Equal_sh [.pv K16 a0,.pv K16 a1]=bytes_Equal_r a0 a1:=by kernel_rfl

def f122_con:Con:={ps:=K6,sh:=bytes_Equal_sh,raw:=fun x=>bytes_Equal_r x.1 x.2.1}
theorem f122_conOk:ConOk Tryz.prog 122 f122_con:=con_of_fn (f122_tabs FUEL) (depth:=8) f122_ok fun x y h=>(f122_run x.1 x.2.1).trans h

def f103_cx(k:Nat):Cx:=mkC [] [(122,f122_con)] [] [] [] k [] false
theorem f103_tabs(k:Nat):TabsOk Tryz.prog (f103_cx k):=mkC_ok ⟨f122_conOk,trivial⟩ trivial trivial trivial
abbrev impl_SameBlob_sh:List Sh:=[.pl .bool]
abbrev Q6:Type:=Option (shDen impl_SameBlob_sh)
def impl_SameBlob_r(a0:T4)(a1:T4):Q6:=
 (cond (decide (a0.1=a1.1))
 (bindO (bytes_Equal_r a0.2.1 a1.2.1) fun(b1:Bool)=>(some b1))
 (some false))
theorem f103_run(a0:T4)(a1:T4):fnK (f103_cx FUEL) 8 103 f103_i impl_SameBlob_sh [.pv K8 a0,.pv K8 a1]=impl_SameBlob_r a0 a1:=by kernel_rfl

def f103_con:Con:={ps:=(.pair K8 K4),sh:=impl_SameBlob_sh,raw:=fun x=>impl_SameBlob_r x.1 x.2.1}
theorem f103_conOk:ConOk Tryz.prog 103 f103_con:=con_of_fn (f103_tabs FUEL) (depth:=8) f103_ok fun x y h=>(f103_run x.1 x.2.1).trans h

def f91_cx(k:Nat):Cx:=mkC [] [] [] [] [] k [] false
theorem f91_tabs(k:Nat):TabsOk Tryz.prog (f91_cx k):=mkC_ok trivial trivial trivial trivial
abbrev slices_Clone_byte_byte_sh:List Sh:=[.own 5 (.int .u8)]
abbrev Q49:Type:=Option (shDen slices_Clone_byte_byte_sh)
def slices_Clone_byte_byte_r(a0:(List Int)):Q49:=
 (cond (List.isEmpty a0) (bothO (some []) (cond (decide ((0+a0.length)*1≤140737488355328)&&decide (0+a0.length≤9223372036854775807))
 (some ([]++a0))
 none)) (cond (decide ((0+a0.length)*1≤140737488355328)&&decide (0+a0.length≤9223372036854775807))
 (some ([]++a0))
 none))
theorem f91_run(a0:(List Int)):fnK (f91_cx FUEL) 8 91 f91_i slices_Clone_byte_byte_sh [.pv K16 a0]=slices_Clone_byte_byte_r a0:=by kernel_rfl

def f91_con:Con:={ps:=K11,sh:=slices_Clone_byte_byte_sh,raw:=fun x=>slices_Clone_byte_byte_r x.1}
theorem f91_conOk:ConOk Tryz.prog 91 f91_con:=con_of_fn (f91_tabs FUEL) (depth:=8) f91_ok fun x y h=>(f91_run x.1).trans h

def f66_cx(k:Nat):Cx:=mkC [] [(91,f91_con)] [] [] [] k [] false
theorem f66_tabs(k:Nat):TabsOk Tryz.prog (f66_cx k):=mkC_ok ⟨f91_conOk,trivial⟩ trivial trivial trivial
abbrev impl_Blob_copied_sh:List Sh:=[.pr (.pl (.int .u8)) (.pr (.own 5 (.int .u8)) (.pl .unit))]
abbrev Q3:Type:=Option (shDen impl_Blob_copied_sh)
def impl_Blob_copied_r(a0:T4):Q3:=
 (bindO (slices_Clone_byte_byte_r a0.2.1) fun(b1:(List Int))=>(some (a0.1,(b1,()))))
theorem f66_run(a0:T4):fnK (f66_cx FUEL) 8 66 f66_i impl_Blob_copied_sh [.pv K8 a0]=impl_Blob_copied_r a0:=by kernel_rfl

def f66_con:Con:={ps:=K4,sh:=impl_Blob_copied_sh,raw:=fun x=>impl_Blob_copied_r x.1}
theorem f66_conOk:ConOk Tryz.prog 66 f66_con:=con_of_fn (f66_tabs FUEL) (depth:=8) f66_ok fun x y h=>(f66_run x.1).trans h

def f58_d_l0_cut:Cut:={keep:=[2,3,10,11,12],stk:=[],ids:=[20,30,80005],own:=[],outs:=[(1,[2,3],[20,30,80005])],fown:=[(30,[.fld 0],80005,28)]}
def f58_d_cx(k:Nat):Cx:=mkC [] [(66,f66_con)] [] [] [(58,[(0,f58_d_l0_cut)])] k dps false
theorem f58_d_tabs(k:Nat):TabsOk Tryz.prog (f58_d_cx k):=mkC_ok ⟨f66_conOk,trivial⟩ trivial trivial trivial
abbrev impl_shop_store_d_sh:List Sh:=[.pr (.tre 72 (.pr (.pl (.int .u8)) (.pr (.sl 5 (.pl (.int .u8))) (.pl .unit)))) (.pl .unit)]
abbrev Q23:Type:=Option (shDen impl_shop_store_d_sh)
def f58_d_l0_s(a0:T1)(x12:Int)(z80005:T3):St:={env:=(.dead:: .dead:: .ptr 20 K3 []:: .ptr 30 K3 []::(dd 6 (.pv K5 a0.2.1:: .pv (.int .i64) (a0.2.1.length:Int):: .pv (.int .i64) x12::(dd 12 [])))),stk:=[],heap:=[(20,.var K3 (.pr (.nilsl) (.pv .unit ()))),(30,.var K3 (.pr (.inn 80005 [] K8) (.pv .unit ()))),(80005,.tre 72 (.pr (.pl (.int .u8)) (.pr (.sl 5 (.pl (.int .u8))) (.pl .unit))) z80005)]}
def f58_d_l0_o0(z80005:T3):St:={env:=(.dead:: .dead:: .ptr 20 K3 []:: .ptr 30 K3 []::(dd 21 [])),stk:=[],heap:=[(20,.var K3 (.pr (.nilsl) (.pv .unit ()))),(30,.var K3 (.pr (.inn 80005 [] K8) (.pv .unit ()))),(80005,.tre 72 (.pr (.pl (.int .u8)) (.pr (.sl 5 (.pl (.int .u8))) (.pl .unit))) z80005)]}
def impl_shop_store_d_l0_b(rec:Int→T3→Q23)(ke0:T3→Q23)(a0:T1)(x12:Int)(z80005:T3):Q23:=
 (cond (decide (x12<(a0.2.1.length:Int)))
 (cond ((decide ((0:Int)≤x12))&&(decide (x12<(a0.2.1.length:Int))))
 (bindO (impl_Blob_copied_r (a0.2.1.getD (x12.toNat) ((0:Int),([],())))) fun(b2:T4)=>(cond (decide ((z80005.length+1)*32≤140737488355328)&&decide (z80005.length+1≤9223372036854775807))
 (rec (IntKind.wrap .i64 (x12+(1:Int))) (z80005++[(b2.1,(b2.2.1,()))]))
 none))
 none)
 (ke0 z80005))
def impl_shop_store_d_l0_L(ke0:T3→Q23)(a0:T1):Nat→Int→T3→Q23
 |0=>fun _ _=>none
 |n+1=>impl_shop_store_d_l0_b (impl_shop_store_d_l0_L ke0 a0 n) ke0 a0
def impl_shop_store_d_r(a0:T1):Q23:=
 (impl_shop_store_d_l0_L (fun z80005=>(some (z80005,()))) a0 FUEL (0:Int) [])
def f58_d_l0_p(k:Nat)(K:Ex→St→Q23)(n:Nat)(a0:T1)(x12:Int)(z80005:T3):Q23:=loopK (f58_d_cx k) 0 (execK (f58_d_cx k) (callK (f58_d_cx k) 8) 0 58 (sub f58_c [1,1,0,1,0,0])) f58_d_l0_cut K n (f58_d_l0_s a0 x12 z80005)

theorem f58_d_l0_exit0(k:Nat)(z80005:T3):((blkK 0 (seqK (execK (f58_d_cx k) (callK (f58_d_cx k) 8) 0 58 (sub f58_c [1,1,1])) (finK (f58_d_cx k) f58_i impl_shop_store_d_sh))) (.exit 0) (f58_d_l0_o0 z80005):Q23)=
 ((some (z80005,())):Q23):=by kernel_rfl

theorem f58_d_l0_round(k:Nat)(K:Ex→St→Q23)(n:Nat)(a0:T1)(x12:Int)(z80005:T3):(f58_d_l0_p k K (n+1) a0 x12 z80005:Q23)=impl_shop_store_d_l0_b ((fun x12 z80005=>f58_d_l0_p k K n a0 x12 z80005)) (fun z80005=>K (.exit 0) (f58_d_l0_o0 z80005)) a0 x12 z80005:=by kernel_rfl

theorem f58_d_l0_L_eq(K:Ex→St→Q23)(a0:T1):∀(n:Nat) (x12:Int) (z80005:T3),(f58_d_l0_p FUEL K n a0 x12 z80005:Q23)=impl_shop_store_d_l0_L (fun z80005=>K (.exit 0) (f58_d_l0_o0 z80005)) a0 n x12 z80005:=by
 intro n
 induction n with
 |zero=>intros; rfl
 |succ n ih=>
  intro x12 z80005
  exact(f58_d_l0_round FUEL K n a0 x12 z80005).trans (congrArg (fun f=>impl_shop_store_d_l0_b f (fun z80005=>K (.exit 0) (f58_d_l0_o0 z80005)) a0 x12 z80005) (funext fun x12=>funext fun z80005=>ih x12 z80005))

theorem f58_d_start(k:Nat)(a0:T1):fnK (f58_d_cx k) 8 58 f58_i impl_shop_store_d_sh [.pv (.ref K1) a0]=
 ((loopK (f58_d_cx k) 0 (execK (f58_d_cx k) (callK (f58_d_cx k) 8) 0 58 (sub f58_c [1,1,0,1,0,0])) f58_d_l0_cut (blkK 0 (seqK (execK (f58_d_cx k) (callK (f58_d_cx k) 8) 0 58 (sub f58_c [1,1,1])) (finK (f58_d_cx k) f58_i impl_shop_store_d_sh))) k (f58_d_l0_s a0 (0:Int) [])):Q23):=by kernel_rfl

theorem f58_d_run(a0:T1):fnK (f58_d_cx FUEL) 8 58 f58_i impl_shop_store_d_sh [.pv (.ref K1) a0]=impl_shop_store_d_r a0:=
 (f58_d_start FUEL a0).trans ((f58_d_l0_L_eq _ a0 FUEL (0:Int) []).trans (congrArg (fun e0=>impl_shop_store_d_l0_L e0 a0 FUEL (0:Int) []) (funext fun z80005=>(f58_d_l0_exit0 FUEL z80005).trans (rfl))))

def f58_d_con:Con:={ps:=(.pair (.ref K1) .unit),sh:=impl_shop_store_d_sh,raw:=fun x=>impl_shop_store_d_r x.1}
theorem f58_d_conOk:ConOk Tryz.prog 58 f58_d_con:=con_of_fn (f58_d_tabs FUEL) (depth:=8) f58_ok fun x y h=>(f58_d_run x.1).trans h

def f29_d_l0_cut:Cut:={keep:=[0,1,7,8],stk:=[[],[1,2,6,9,22]],ids:=[60,160,161,162],own:=[],outs:=[(0,[4],[60,160,161,162]),(1,[],[60,160,161,162])]}
def f29_d_l1_cut:Cut:={keep:=[0,1,9,10,17,18,19],stk:=[[6,9]],ids:=[60,160,162,180000],own:=[],outs:=[(0,[6,7,8],[60,160,162,180000]),(1,[9,10],[60,160,162,180000])],fown:=[(160,[.fld 0],180000,34)]}
def f29_d_cx(k:Nat):Cx:=mkC [(43,f43_i),(54,f54_i),(57,f57_i),(84,f84_i),(88,f88_i)] [(55,f55_con),(58,f58_d_con),(65,f65_con),(72,f72_con),(73,f73_con),(74,f74_con),(85,f85_con),(86,f86_con),(87,f87_con),(90,f90_con),(103,f103_con)] [(104,f104_tak),(105,f105_tak)] [] [(290024005400070084,[(0,f29_d_l0_cut)]),(2900410057,[(0,f29_d_l1_cut)])] k dps false
theorem f29_d_tabs(k:Nat):TabsOk Tryz.prog (f29_d_cx k):=mkC_ok ⟨f55_conOk,f58_d_conOk,f65_conOk,f72_conOk,f73_conOk,f74_conOk,f85_conOk,f86_conOk,f87_conOk,f90_conOk,f103_conOk,trivial⟩ ⟨f104_takOk,f105_takOk,trivial⟩ trivial ⟨f43_ok,f54_ok,f57_ok,f84_ok,f88_ok,trivial⟩
abbrev impl_TakeBlobs_d_sh:List Sh:=[.pr (.tre 72 (.pr (.pl (.int .u8)) (.pr (.sl 5 (.pl (.int .u8))) (.pl .unit)))) (.pl .unit),.pl (.int .i64),.pl (.int .i64)]
abbrev Q10:Type:=Option (shDen impl_TakeBlobs_d_sh)
def f29_d_l0_s(a0:T2)(a1:T7)(a2:T3)(z161:T7)(z162:T3)(x8:Int):St:={env:=(.pv K5 a2:: .fn 55 (.pv .unit ())::(dd 5 (.pv (.int .i64) (a2.length:Int):: .pv (.int .i64) x8::(dd 10 [])))),stk:=[(dd 9 []),(.dead:: .pv K12 a1:: .pv K5 a2::(dd 3 (.ptr 60 K3 []:: .dead:: .dead:: .ptr 160 K1 []::(dd 12 (.pv .bool false::(dd 29 []))))))],heap:=[(30,.var K3 (.pv K3 a0)),(60,.var K3 (.pr (.nilsl) (.pv .unit ()))),(160,.var K1 (.pr (.sl 161 (.arr 32 (.int .u8))) (.pr (.sl 162 K8) (.pv .unit ())))),(161,.arr 45 (.arr 32 (.int .u8)) z161),(162,.arr 72 K8 z162)]}
def f29_d_l0_o(a0:T2)(a1:T7)(a2:T3)(z161:T7)(z162:T3)(x4:Int):St:={env:=(dd 4 (.pv (.int .i64) x4::(dd 14 []))),stk:=[(dd 9 []),(.dead:: .pv K12 a1:: .pv K5 a2::(dd 3 (.ptr 60 K3 []:: .dead:: .dead:: .ptr 160 K1 []::(dd 12 (.pv .bool false::(dd 29 []))))))],heap:=[(30,.var K3 (.pv K3 a0)),(60,.var K3 (.pr (.nilsl) (.pv .unit ()))),(160,.var K1 (.pr (.sl 161 (.arr 32 (.int .u8))) (.pr (.sl 162 K8) (.pv .unit ())))),(161,.arr 45 (.arr 32 (.int .u8)) z161),(162,.arr 72 K8 z162)]}
def f29_d_l0_o0(a0:T2)(a1:T7)(a2:T3)(z161:T7)(z162:T3):St:={env:=(dd 19 []),stk:=[(dd 9 []),(.dead:: .pv K12 a1:: .pv K5 a2::(dd 3 (.ptr 60 K3 []:: .dead:: .dead:: .ptr 160 K1 []::(dd 12 (.pv .bool false::(dd 29 []))))))],heap:=[(30,.var K3 (.pv K3 a0)),(60,.var K3 (.pr (.nilsl) (.pv .unit ()))),(160,.var K1 (.pr (.sl 161 (.arr 32 (.int .u8))) (.pr (.sl 162 K8) (.pv .unit ())))),(161,.arr 45 (.arr 32 (.int .u8)) z161),(162,.arr 72 K8 z162)]}
def f29_d_l1_s(a0:T2)(a1:T7)(a2:T3)(z162:T3)(z180000:T7)(x9:Int)(x10:Int)(x19:Int):St:={env:=(.ptr 160 K1 []:: .pv K12 a1::(dd 7 (.pv (.int .i64) x9:: .pv (.int .i64) x10::(dd 6 (.pv K5 a2:: .pv (.int .i64) (a2.length:Int):: .pv (.int .i64) x19::(dd 33 [])))))),stk:=[(dd 6 (.ptr 60 K3 []:: .dead:: .dead:: .ptr 160 K1 []::(dd 42 [])))],heap:=[(30,.var K3 (.pv K3 a0)),(60,.var K3 (.pr (.nilsl) (.pv .unit ()))),(160,.var K1 (.pr (.sl 180000 (.arr 32 (.int .u8))) (.pr (.sl 162 K8) (.pv .unit ())))),(162,.arr 72 K8 z162),(180000,.arr 45 (.arr 32 (.int .u8)) z180000)]}
def f29_d_l1_o(a0:T2)(z162:T3)(z180000:T7)(x8:Int):St:={env:=(dd 6 (.pv (.int .i64) (0:Int):: .pv (.int .i64) (0:Int):: .pv (.int .i64) x8::(dd 44 []))),stk:=[(dd 6 (.ptr 60 K3 []:: .dead:: .dead:: .ptr 160 K1 []::(dd 42 [])))],heap:=[(30,.var K3 (.pv K3 a0)),(60,.var K3 (.pr (.nilsl) (.pv .unit ()))),(160,.var K1 (.pr (.sl 180000 (.arr 32 (.int .u8))) (.pr (.sl 162 K8) (.pv .unit ())))),(162,.arr 72 K8 z162),(180000,.arr 45 (.arr 32 (.int .u8)) z180000)]}
def f29_d_l1_o0(a0:T2)(z162:T3)(z180000:T7)(x9:Int)(x10:Int):St:={env:=(dd 9 (.pv (.int .i64) x9:: .pv (.int .i64) x10::(dd 42 []))),stk:=[(dd 6 (.ptr 60 K3 []:: .dead:: .dead:: .ptr 160 K1 []::(dd 42 [])))],heap:=[(30,.var K3 (.pv K3 a0)),(60,.var K3 (.pr (.nilsl) (.pv .unit ()))),(160,.var K1 (.pr (.sl 180000 (.arr 32 (.int .u8))) (.pr (.sl 162 K8) (.pv .unit ())))),(162,.arr 72 K8 z162),(180000,.arr 45 (.arr 32 (.int .u8)) z180000)]}
def impl_TakeBlobs_d_l1_b(rec:T3→T7→Int→Int→Int→Q10)(kr:T3→T7→Int→Q10)(ke0:T3→T7→Int→Int→Q10)(a0:T2)(a1:T7)(a2:T3)(z162:T3)(z180000:T7)(x9:Int)(x10:Int)(x19:Int):Q10:=
 (cond (decide (x19<(a2.length:Int)))
 (cond ((decide ((0:Int)≤x19))&&(decide (x19<(a2.length:Int))))
 (bindO (impl_Blob_key_r (a2.getD (x19.toNat) ((0:Int),([],())))) fun(b20:(List Int))=>(bindO (slices_Contains_impl_Key_impl_Key_r a1 b20) fun(b21:Bool)=>(cond (!b21)
 (rec z162 z180000 x9 x10 (IntKind.wrap .i64 (x19+(1:Int))))
 (bindO (impl_shop_has_r (z180000,(z162,())) b20) fun(b22:Bool)=>(bindO (impl_Blob_key_r (a2.getD (x19.toNat) ((0:Int),([],())))) fun(b23:(List Int))=>(bindO (impl_shop_find_r (z180000,(z162,())) b23) fun(b24:(Int×Bool))=>(cond b24.2
 (cond ((decide ((0:Int)≤b24.1))&&(decide (b24.1<(z162.length:Int))))
 (bindO (impl_SameBlob_r (z162.getD (b24.1.toNat) ((0:Int),([],()))) (a2.getD (x19.toNat) ((0:Int),([],())))) fun(b25:Bool)=>(cond (!b25)
 (kr z162 z180000 (8:Int))
 (cond b24.2
 (cond (!b22)
 (bindO (impl_size_byte_r (((a2.getD (x19.toNat) ((0:Int),([],()))).2).1)) fun(b26:Int)=>(rec z162 z180000 (IntKind.wrap .i64 (x9+(1:Int))) (IntKind.wrap .i64 (x10+b26)) (IntKind.wrap .i64 (x19+(1:Int)))))
 (rec z162 z180000 x9 x10 (IntKind.wrap .i64 (x19+(1:Int)))))
 (cond (decide ((z180000.length:Int)=(128:Int)))
 (kr z162 z180000 (3:Int))
 (bindO (slices_Insert_impl_Key_impl_Key_tr z180000 b24.1 [b23]) fun(b27:T7)=>(bindO (slices_Insert_impl_Blob_impl_Blob_tr z162 b24.1 ([(a2.getD (x19.toNat) ((0:Int),([],())))])) fun(b28:T3)=>(cond (!b22)
 (bindO (impl_size_byte_r (((a2.getD (x19.toNat) ((0:Int),([],()))).2).1)) fun(b29:Int)=>(rec b28 b27 (IntKind.wrap .i64 (x9+(1:Int))) (IntKind.wrap .i64 (x10+b29)) (IntKind.wrap .i64 (x19+(1:Int)))))
 (rec b28 b27 x9 x10 (IntKind.wrap .i64 (x19+(1:Int)))))))))))
 none)
 (cond b24.2
 (cond (!b22)
 (bindO (impl_size_byte_r (((a2.getD (x19.toNat) ((0:Int),([],()))).2).1)) fun(b30:Int)=>(rec z162 z180000 (IntKind.wrap .i64 (x9+(1:Int))) (IntKind.wrap .i64 (x10+b30)) (IntKind.wrap .i64 (x19+(1:Int)))))
 (rec z162 z180000 x9 x10 (IntKind.wrap .i64 (x19+(1:Int)))))
 (cond (decide ((z180000.length:Int)=(128:Int)))
 (kr z162 z180000 (3:Int))
 (bindO (slices_Insert_impl_Key_impl_Key_tr z180000 b24.1 [b23]) fun(b31:T7)=>(bindO (slices_Insert_impl_Blob_impl_Blob_tr z162 b24.1 ([(a2.getD (x19.toNat) ((0:Int),([],())))])) fun(b32:T3)=>(cond (!b22)
 (bindO (impl_size_byte_r (((a2.getD (x19.toNat) ((0:Int),([],()))).2).1)) fun(b33:Int)=>(rec b32 b31 (IntKind.wrap .i64 (x9+(1:Int))) (IntKind.wrap .i64 (x10+b33)) (IntKind.wrap .i64 (x19+(1:Int)))))
 (rec b32 b31 x9 x10 (IntKind.wrap .i64 (x19+(1:Int))))))))))))))))
 none)
 (ke0 z162 z180000 x9 x10))
def impl_TakeBlobs_d_l1_L(kr:T3→T7→Int→Q10)(ke0:T3→T7→Int→Int→Q10)(a0:T2)(a1:T7)(a2:T3):Nat→T3→T7→Int→Int→Int→Q10
 |0=>fun _ _ _ _ _=>none
 |n+1=>impl_TakeBlobs_d_l1_b (impl_TakeBlobs_d_l1_L kr ke0 a0 a1 a2 n) kr ke0 a0 a1 a2
def impl_TakeBlobs_d_l0_b(rec:T7→T3→Int→Q10)(kr:T7→T3→Int→Q10)(ke0:T7→T3→Q10)(a0:T2)(a1:T7)(a2:T3)(z161:T7)(z162:T3)(x8:Int):Q10:=
 (cond (decide (x8<(a2.length:Int)))
 (cond ((decide ((0:Int)≤x8))&&(decide (x8<(a2.length:Int))))
 (bindO (impl_TakeBlobs_1_r (a2.getD (x8.toNat) ((0:Int),([],())))) fun(b5:Bool)=>(cond b5
 (kr z161 z162 x8)
 (rec z161 z162 (IntKind.wrap .i64 (x8+(1:Int))))))
 none)
 (ke0 z161 z162))
def impl_TakeBlobs_d_l0_L(kr:T7→T3→Int→Q10)(ke0:T7→T3→Q10)(a0:T2)(a1:T7)(a2:T3):Nat→T7→T3→Int→Q10
 |0=>fun _ _ _=>none
 |n+1=>impl_TakeBlobs_d_l0_b (impl_TakeBlobs_d_l0_L kr ke0 a0 a1 a2 n) kr ke0 a0 a1 a2
def impl_TakeBlobs_d_r(a0:T2)(a1:T7)(a2:T3):Q10:=
 (bindO (impl_ValidStore_r a0) fun(b1:Bool)=>(cond (!b1)
 (some (([],()),((0:Int),(1:Int))))
 (bindO (impl_Store_keys_r a0) fun(b2:T7)=>(bindO (slices_Clone_impl_Blob_impl_Blob_r a0.1) fun(b3:T3)=>(impl_TakeBlobs_d_l0_L (fun z161 z162 x4=>(cond (decide ((0:Int)≤x4))
 (some (([],()),((0:Int),(1:Int))))
 (cond (decide ((256:Int)<(a1.length:Int)))
 (some (([],()),((0:Int),(3:Int))))
 (cond (decide ((128:Int)<(a2.length:Int)))
 (some (([],()),((0:Int),(3:Int))))
 (impl_TakeBlobs_d_l1_L (fun z162 z180000 x8=>(cond (!(decide (x8=(0:Int))))
 (some (([],()),((0:Int),x8)))
 (bindO (impl_shop_store_d_r (z180000,(z162,()))) fun(b34:T2)=>(some ((b34.1,()),((0:Int),(0:Int))))))) (fun z162 z180000 x9 x10=>(bindO (impl_shop_store_d_r (z180000,(z162,()))) fun(b35:T2)=>(some ((b35.1,()),(x9,(0:Int)))))) a0 a1 a2 FUEL z162 z161 (0:Int) (0:Int) (0:Int)))))) (fun z161 z162=>(cond (decide ((256:Int)<(a1.length:Int)))
 (some (([],()),((0:Int),(3:Int))))
 (cond (decide ((128:Int)<(a2.length:Int)))
 (some (([],()),((0:Int),(3:Int))))
 (impl_TakeBlobs_d_l1_L (fun z162 z180000 x8=>(cond (!(decide (x8=(0:Int))))
 (some (([],()),((0:Int),x8)))
 (bindO (impl_shop_store_d_r (z180000,(z162,()))) fun(b34:T2)=>(some ((b34.1,()),((0:Int),(0:Int))))))) (fun z162 z180000 x9 x10=>(bindO (impl_shop_store_d_r (z180000,(z162,()))) fun(b35:T2)=>(some ((b35.1,()),(x9,(0:Int)))))) a0 a1 a2 FUEL z162 z161 (0:Int) (0:Int) (0:Int))))) a0 a1 a2 FUEL b2 b3 (0:Int))))))
def f29_d_l1_p(k:Nat)(K:Ex→St→Q10)(n:Nat)(a0:T2)(a1:T7)(a2:T3)(z162:T3)(z180000:T7)(x9:Int)(x10:Int)(x19:Int):Q10:=loopK (f29_d_cx k) 1 (execK (f29_d_cx k) (callK (f29_d_cx k) 7) 1 2900410057 (sub f57_c [1,1,0,1,0,0])) f29_d_l1_cut K n (f29_d_l1_s a0 a1 a2 z162 z180000 x9 x10 x19)

theorem f29_d_l1_ret(k:Nat)(a0:T2)(z162:T3)(z180000:T7)(x8:Int):((blkK 0 (seqK (execK (f29_d_cx k) (callK (f29_d_cx k) 7) 1 2900410057 (sub f57_c [1,1,1])) (retK (f29_d_cx k) f57_i (some 41) 0 (opsRest (f29_d_cx k) (callK (f29_d_cx k) 8) 0 29 false (regOps (sub f29_c [1,1,1,0])) 3 (seqK (execK (f29_d_cx k) (callK (f29_d_cx k) 8) 0 29 (sub f29_c [1,1,1,1])) (finK (f29_d_cx k) f29_i impl_TakeBlobs_d_sh)))))) .ret (f29_d_l1_o a0 z162 z180000 x8):Q10)=
 ((cond (!(decide (x8=(0:Int))))
 (some (([],()),((0:Int),x8)))
 (bindO (impl_shop_store_d_r (z180000,(z162,()))) fun(b34:T2)=>(some ((b34.1,()),((0:Int),(0:Int)))))):Q10):=by kernel_rfl

theorem f29_d_l1_exit0(k:Nat)(a0:T2)(z162:T3)(z180000:T7)(x9:Int)(x10:Int):((blkK 0 (seqK (execK (f29_d_cx k) (callK (f29_d_cx k) 7) 1 2900410057 (sub f57_c [1,1,1])) (retK (f29_d_cx k) f57_i (some 41) 0 (opsRest (f29_d_cx k) (callK (f29_d_cx k) 8) 0 29 false (regOps (sub f29_c [1,1,1,0])) 3 (seqK (execK (f29_d_cx k) (callK (f29_d_cx k) 8) 0 29 (sub f29_c [1,1,1,1])) (finK (f29_d_cx k) f29_i impl_TakeBlobs_d_sh)))))) (.exit 0) (f29_d_l1_o0 a0 z162 z180000 x9 x10):Q10)=
 ((bindO (impl_shop_store_d_r (z180000,(z162,()))) fun(b35:T2)=>(some ((b35.1,()),(x9,(0:Int))))):Q10):=by kernel_rfl

theorem f29_d_l1_round(k:Nat)(K:Ex→St→Q10)(n:Nat)(a0:T2)(a1:T7)(a2:T3)(z162:T3)(z180000:T7)(x9:Int)(x10:Int)(x19:Int):(f29_d_l1_p k K (n+1) a0 a1 a2 z162 z180000 x9 x10 x19:Q10)=impl_TakeBlobs_d_l1_b ((fun z162 z180000 x9 x10 x19=>f29_d_l1_p k K n a0 a1 a2 z162 z180000 x9 x10 x19)) (fun z162 z180000 x8=>K .ret (f29_d_l1_o a0 z162 z180000 x8)) (fun z162 z180000 x9 x10=>K (.exit 0) (f29_d_l1_o0 a0 z162 z180000 x9 x10)) a0 a1 a2 z162 z180000 x9 x10 x19:=by kernel_rfl

theorem f29_d_l1_L_eq(K:Ex→St→Q10)(a0:T2)(a1:T7)(a2:T3):∀(n:Nat) (z162:T3) (z180000:T7) (x9:Int) (x10:Int) (x19:Int),(f29_d_l1_p FUEL K n a0 a1 a2 z162 z180000 x9 x10 x19:Q10)=impl_TakeBlobs_d_l1_L (fun z162 z180000 x8=>K .ret (f29_d_l1_o a0 z162 z180000 x8)) (fun z162 z180000 x9 x10=>K (.exit 0) (f29_d_l1_o0 a0 z162 z180000 x9 x10)) a0 a1 a2 n z162 z180000 x9 x10 x19:=by
 intro n
 induction n with
 |zero=>intros; rfl
 |succ n ih=>
  intro z162 z180000 x9 x10 x19
  exact(f29_d_l1_round FUEL K n a0 a1 a2 z162 z180000 x9 x10 x19).trans (congrArg (fun f=>impl_TakeBlobs_d_l1_b f (fun z162 z180000 x8=>K .ret (f29_d_l1_o a0 z162 z180000 x8)) (fun z162 z180000 x9 x10=>K (.exit 0) (f29_d_l1_o0 a0 z162 z180000 x9 x10)) a0 a1 a2 z162 z180000 x9 x10 x19) (funext fun z162=>funext fun z180000=>funext fun x9=>funext fun x10=>funext fun x19=>ih z162 z180000 x9 x10 x19))

def f29_d_l0_p(k:Nat)(K:Ex→St→Q10)(n:Nat)(a0:T2)(a1:T7)(a2:T3)(z161:T7)(z162:T3)(x8:Int):Q10:=loopK (f29_d_cx k) 2 (execK (f29_d_cx k) (callK (f29_d_cx k) 6) 2 290024005400070084 (sub f84_c [1,0,1,0,0])) f29_d_l0_cut K n (f29_d_l0_s a0 a1 a2 z161 z162 x8)

theorem f29_d_l0_ret(k:Nat)(a0:T2)(a1:T7)(a2:T3)(z161:T7)(z162:T3)(x4:Int):((blkK 0 (seqK (execK (f29_d_cx k) (callK (f29_d_cx k) 6) 2 290024005400070084 (sub f84_c [1,1])) (retK (f29_d_cx k) f84_i (some 7) 1 (opsRest (f29_d_cx k) (callK (f29_d_cx k) 7) 1 2900240054 false (regOps (sub f54_c [1,0])) 2 (seqK (execK (f29_d_cx k) (callK (f29_d_cx k) 7) 1 2900240054 (sub f54_c [1,1])) (retK (f29_d_cx k) f54_i (some 24) 0 (opsRest (f29_d_cx k) (callK (f29_d_cx k) 8) 0 29 false (regOps (sub f29_c [1,1,0,0,0])) 4 (seqK (execK (f29_d_cx k) (callK (f29_d_cx k) 8) 0 29 (sub f29_c [1,1,0,0,1])) (blkK 0 (seqK (execK (f29_d_cx k) (callK (f29_d_cx k) 8) 0 29 (sub f29_c [1,1,1])) (finK (f29_d_cx k) f29_i impl_TakeBlobs_d_sh))))))))))) .ret (f29_d_l0_o a0 a1 a2 z161 z162 x4):Q10)=
 ((cond (decide ((0:Int)≤x4))
 (some (([],()),((0:Int),(1:Int))))
 (cond (decide ((256:Int)<(a1.length:Int)))
 (some (([],()),((0:Int),(3:Int))))
 (cond (decide ((128:Int)<(a2.length:Int)))
 (some (([],()),((0:Int),(3:Int))))
 (loopK (f29_d_cx k) 1 (execK (f29_d_cx k) (callK (f29_d_cx k) 7) 1 2900410057 (sub f57_c [1,1,0,1,0,0])) f29_d_l1_cut (blkK 0 (seqK (execK (f29_d_cx k) (callK (f29_d_cx k) 7) 1 2900410057 (sub f57_c [1,1,1])) (retK (f29_d_cx k) f57_i (some 41) 0 (opsRest (f29_d_cx k) (callK (f29_d_cx k) 8) 0 29 false (regOps (sub f29_c [1,1,1,0])) 3 (seqK (execK (f29_d_cx k) (callK (f29_d_cx k) 8) 0 29 (sub f29_c [1,1,1,1])) (finK (f29_d_cx k) f29_i impl_TakeBlobs_d_sh)))))) k (f29_d_l1_s a0 a1 a2 z162 z161 (0:Int) (0:Int) (0:Int)))))):Q10):=by kernel_rfl

theorem f29_d_l0_exit0(k:Nat)(a0:T2)(a1:T7)(a2:T3)(z161:T7)(z162:T3):((blkK 0 (seqK (execK (f29_d_cx k) (callK (f29_d_cx k) 6) 2 290024005400070084 (sub f84_c [1,1])) (retK (f29_d_cx k) f84_i (some 7) 1 (opsRest (f29_d_cx k) (callK (f29_d_cx k) 7) 1 2900240054 false (regOps (sub f54_c [1,0])) 2 (seqK (execK (f29_d_cx k) (callK (f29_d_cx k) 7) 1 2900240054 (sub f54_c [1,1])) (retK (f29_d_cx k) f54_i (some 24) 0 (opsRest (f29_d_cx k) (callK (f29_d_cx k) 8) 0 29 false (regOps (sub f29_c [1,1,0,0,0])) 4 (seqK (execK (f29_d_cx k) (callK (f29_d_cx k) 8) 0 29 (sub f29_c [1,1,0,0,1])) (blkK 0 (seqK (execK (f29_d_cx k) (callK (f29_d_cx k) 8) 0 29 (sub f29_c [1,1,1])) (finK (f29_d_cx k) f29_i impl_TakeBlobs_d_sh))))))))))) (.exit 0) (f29_d_l0_o0 a0 a1 a2 z161 z162):Q10)=
 ((cond (decide ((256:Int)<(a1.length:Int)))
 (some (([],()),((0:Int),(3:Int))))
 (cond (decide ((128:Int)<(a2.length:Int)))
 (some (([],()),((0:Int),(3:Int))))
 (loopK (f29_d_cx k) 1 (execK (f29_d_cx k) (callK (f29_d_cx k) 7) 1 2900410057 (sub f57_c [1,1,0,1,0,0])) f29_d_l1_cut (blkK 0 (seqK (execK (f29_d_cx k) (callK (f29_d_cx k) 7) 1 2900410057 (sub f57_c [1,1,1])) (retK (f29_d_cx k) f57_i (some 41) 0 (opsRest (f29_d_cx k) (callK (f29_d_cx k) 8) 0 29 false (regOps (sub f29_c [1,1,1,0])) 3 (seqK (execK (f29_d_cx k) (callK (f29_d_cx k) 8) 0 29 (sub f29_c [1,1,1,1])) (finK (f29_d_cx k) f29_i impl_TakeBlobs_d_sh)))))) k (f29_d_l1_s a0 a1 a2 z162 z161 (0:Int) (0:Int) (0:Int))))):Q10):=by kernel_rfl

theorem f29_d_l0_round(k:Nat)(K:Ex→St→Q10)(n:Nat)(a0:T2)(a1:T7)(a2:T3)(z161:T7)(z162:T3)(x8:Int):(f29_d_l0_p k K (n+1) a0 a1 a2 z161 z162 x8:Q10)=impl_TakeBlobs_d_l0_b ((fun z161 z162 x8=>f29_d_l0_p k K n a0 a1 a2 z161 z162 x8)) (fun z161 z162 x4=>K .ret (f29_d_l0_o a0 a1 a2 z161 z162 x4)) (fun z161 z162=>K (.exit 0) (f29_d_l0_o0 a0 a1 a2 z161 z162)) a0 a1 a2 z161 z162 x8:=by kernel_rfl

theorem f29_d_l0_L_eq(K:Ex→St→Q10)(a0:T2)(a1:T7)(a2:T3):∀(n:Nat) (z161:T7) (z162:T3) (x8:Int),(f29_d_l0_p FUEL K n a0 a1 a2 z161 z162 x8:Q10)=impl_TakeBlobs_d_l0_L (fun z161 z162 x4=>K .ret (f29_d_l0_o a0 a1 a2 z161 z162 x4)) (fun z161 z162=>K (.exit 0) (f29_d_l0_o0 a0 a1 a2 z161 z162)) a0 a1 a2 n z161 z162 x8:=by
 intro n
 induction n with
 |zero=>intros; rfl
 |succ n ih=>
  intro z161 z162 x8
  exact(f29_d_l0_round FUEL K n a0 a1 a2 z161 z162 x8).trans (congrArg (fun f=>impl_TakeBlobs_d_l0_b f (fun z161 z162 x4=>K .ret (f29_d_l0_o a0 a1 a2 z161 z162 x4)) (fun z161 z162=>K (.exit 0) (f29_d_l0_o0 a0 a1 a2 z161 z162)) a0 a1 a2 z161 z162 x8) (funext fun z161=>funext fun z162=>funext fun x8=>ih z161 z162 x8))

theorem f29_d_start(k:Nat)(a0:T2)(a1:T7)(a2:T3):fnK (f29_d_cx k) 8 29 f29_i impl_TakeBlobs_d_sh [.pv K3 a0,.pv K12 a1,.pv K5 a2]=
 ((bindO (impl_ValidStore_r a0) fun(b1:Bool)=>(cond (!b1)
 (some (([],()),((0:Int),(1:Int))))
 (bindO (impl_Store_keys_r a0) fun(b2:T7)=>(bindO (slices_Clone_impl_Blob_impl_Blob_r a0.1) fun(b3:T3)=>(loopK (f29_d_cx k) 2 (execK (f29_d_cx k) (callK (f29_d_cx k) 6) 2 290024005400070084 (sub f84_c [1,0,1,0,0])) f29_d_l0_cut (blkK 0 (seqK (execK (f29_d_cx k) (callK (f29_d_cx k) 6) 2 290024005400070084 (sub f84_c [1,1])) (retK (f29_d_cx k) f84_i (some 7) 1 (opsRest (f29_d_cx k) (callK (f29_d_cx k) 7) 1 2900240054 false (regOps (sub f54_c [1,0])) 2 (seqK (execK (f29_d_cx k) (callK (f29_d_cx k) 7) 1 2900240054 (sub f54_c [1,1])) (retK (f29_d_cx k) f54_i (some 24) 0 (opsRest (f29_d_cx k) (callK (f29_d_cx k) 8) 0 29 false (regOps (sub f29_c [1,1,0,0,0])) 4 (seqK (execK (f29_d_cx k) (callK (f29_d_cx k) 8) 0 29 (sub f29_c [1,1,0,0,1])) (blkK 0 (seqK (execK (f29_d_cx k) (callK (f29_d_cx k) 8) 0 29 (sub f29_c [1,1,1])) (finK (f29_d_cx k) f29_i impl_TakeBlobs_d_sh))))))))))) k (f29_d_l0_s a0 a1 a2 b2 b3 (0:Int))))))):Q10):=by kernel_rfl

theorem f29_d_run(a0:T2)(a1:T7)(a2:T3):fnK (f29_d_cx FUEL) 8 29 f29_i impl_TakeBlobs_d_sh [.pv K3 a0,.pv K12 a1,.pv K5 a2]=impl_TakeBlobs_d_r a0 a1 a2:=
 (f29_d_start FUEL a0 a1 a2).trans (bindC (fun b1=>condC (rfl) (bindC (fun b2=>bindC (fun b3=>(f29_d_l0_L_eq _ a0 a1 a2 FUEL b2 b3 (0:Int)).trans (cong2 (fun e0 e1=>impl_TakeBlobs_d_l0_L e0 e1 a0 a1 a2 FUEL b2 b3 (0:Int)) (funext fun z161=>funext fun z162=>funext fun x4=>(f29_d_l0_ret FUEL a0 a1 a2 z161 z162 x4).trans (condC (rfl) (condC (rfl) (condC (rfl) ((f29_d_l1_L_eq _ a0 a1 a2 FUEL z162 z161 (0:Int) (0:Int) (0:Int)).trans (cong2 (fun e0 e1=>impl_TakeBlobs_d_l1_L e0 e1 a0 a1 a2 FUEL z162 z161 (0:Int) (0:Int) (0:Int)) (funext fun z162=>funext fun z180000=>funext fun x8=>(f29_d_l1_ret FUEL a0 z162 z180000 x8).trans (rfl)) (funext fun z162=>funext fun z180000=>funext fun x9=>funext fun x10=>(f29_d_l1_exit0 FUEL a0 z162 z180000 x9 x10).trans (rfl)))))))) (funext fun z161=>funext fun z162=>(f29_d_l0_exit0 FUEL a0 a1 a2 z161 z162).trans (condC (rfl) (condC (rfl) ((f29_d_l1_L_eq _ a0 a1 a2 FUEL z162 z161 (0:Int) (0:Int) (0:Int)).trans (cong2 (fun e0 e1=>impl_TakeBlobs_d_l1_L e0 e1 a0 a1 a2 FUEL z162 z161 (0:Int) (0:Int) (0:Int)) (funext fun z162=>funext fun z180000=>funext fun x8=>(f29_d_l1_ret FUEL a0 z162 z180000 x8).trans (rfl)) (funext fun z162=>funext fun z180000=>funext fun x9=>funext fun x10=>(f29_d_l1_exit0 FUEL a0 z162 z180000 x9 x10).trans (rfl)))))))))))))

def f29_d_con:Con:={ps:=(.pair K3 K1),sh:=impl_TakeBlobs_d_sh,raw:=fun x=>impl_TakeBlobs_d_r x.1 x.2.1 x.2.2.1}
theorem f29_d_conOk:ConOk Tryz.prog 29 f29_d_con:=con_of_fn (f29_d_tabs FUEL) (depth:=8) f29_ok fun x y h=>(f29_d_run x.1 x.2.1 x.2.2.1).trans h

def f67_l0_cut:Cut:={keep:=[0,1,5],stk:=[],ids:=[],own:=[],outs:=[(0,[4],[]),(1,[],[])]}
def f67_cx(k:Nat):Cx:=mkC [] [] [] [] [(67,[(0,f67_l0_cut)])] k [] false
theorem f67_tabs(k:Nat):TabsOk Tryz.prog (f67_cx k):=mkC_ok trivial trivial trivial trivial
abbrev laws_eqByteS_sh:List Sh:=[.pl .bool]
abbrev Q29:Type:=Option (shDen laws_eqByteS_sh)
def f67_l0_s(a0:(List Int))(a1:(List Int))(x5:Int):St:={env:=(.pv K16 a0:: .pv K16 a1::(dd 3 (.pv (.int .i64) x5::(dd 20 [])))),stk:=[],heap:=[]}
def f67_l0_o:St:={env:=(dd 4 (.pv .bool false::(dd 21 []))),stk:=[],heap:=[]}
def f67_l0_o0:St:={env:=(dd 26 []),stk:=[],heap:=[]}
def laws_eqByteS_l0_b(rec:Int→Q29)(kr:Q29)(ke0:Q29)(a0:(List Int))(a1:(List Int))(x5:Int):Q29:=
 (cond (decide (x5<(a0.length:Int)))
 (cond ((decide ((0:Int)≤x5))&&(decide (x5<(a0.length:Int))))
 (cond ((decide ((0:Int)≤x5))&&(decide (x5<(a1.length:Int))))
 (cond (!(decide ((a0.getD (x5.toNat) (0:Int))=(a1.getD (x5.toNat) (0:Int)))))
 (kr)
 (rec (IntKind.wrap .i64 (x5+(1:Int)))))
 none)
 none)
 (ke0))
def laws_eqByteS_l0_L(kr:Q29)(ke0:Q29)(a0:(List Int))(a1:(List Int)):Nat→Int→Q29
 |0=>fun _=>none
 |n+1=>laws_eqByteS_l0_b (laws_eqByteS_l0_L kr ke0 a0 a1 n) kr ke0 a0 a1
def laws_eqByteS_r(a0:(List Int))(a1:(List Int)):Q29:=
 (cond (!(decide ((a0.length:Int)=(a1.length:Int))))
 (some false)
 (laws_eqByteS_l0_L (some false) (some true) a0 a1 FUEL (0:Int)))
def f67_l0_p(k:Nat)(K:Ex→St→Q29)(n:Nat)(a0:(List Int))(a1:(List Int))(x5:Int):Q29:=loopK (f67_cx k) 0 (execK (f67_cx k) (callK (f67_cx k) 8) 0 67 (sub f67_c [1,1,0,1,0,0])) f67_l0_cut K n (f67_l0_s a0 a1 x5)

theorem f67_l0_ret(k:Nat):((blkK 0 (seqK (execK (f67_cx k) (callK (f67_cx k) 8) 0 67 (sub f67_c [1,1,1])) (finK (f67_cx k) f67_i laws_eqByteS_sh))) .ret (f67_l0_o):Q29)=
 ((some false):Q29):=by kernel_rfl

theorem f67_l0_exit0(k:Nat):((blkK 0 (seqK (execK (f67_cx k) (callK (f67_cx k) 8) 0 67 (sub f67_c [1,1,1])) (finK (f67_cx k) f67_i laws_eqByteS_sh))) (.exit 0) (f67_l0_o0):Q29)=
 ((some true):Q29):=by kernel_rfl

theorem f67_l0_round(k:Nat)(K:Ex→St→Q29)(n:Nat)(a0:(List Int))(a1:(List Int))(x5:Int):(f67_l0_p k K (n+1) a0 a1 x5:Q29)=laws_eqByteS_l0_b ((fun x5=>f67_l0_p k K n a0 a1 x5)) (K .ret (f67_l0_o)) (K (.exit 0) (f67_l0_o0)) a0 a1 x5:=by kernel_rfl

theorem f67_l0_L_eq(K:Ex→St→Q29)(a0:(List Int))(a1:(List Int)):∀(n:Nat) (x5:Int),(f67_l0_p FUEL K n a0 a1 x5:Q29)=laws_eqByteS_l0_L (K .ret (f67_l0_o)) (K (.exit 0) (f67_l0_o0)) a0 a1 n x5:=by
 intro n
 induction n with
 |zero=>intros; rfl
 |succ n ih=>
  intro x5
  exact(f67_l0_round FUEL K n a0 a1 x5).trans (congrArg (fun f=>laws_eqByteS_l0_b f (K .ret (f67_l0_o)) (K (.exit 0) (f67_l0_o0)) a0 a1 x5) (funext fun x5=>ih x5))

theorem f67_start(k:Nat)(a0:(List Int))(a1:(List Int)):fnK (f67_cx k) 8 67 f67_i laws_eqByteS_sh [.pv K16 a0,.pv K16 a1]=
 ((cond (!(decide ((a0.length:Int)=(a1.length:Int))))
 (some false)
 (loopK (f67_cx k) 0 (execK (f67_cx k) (callK (f67_cx k) 8) 0 67 (sub f67_c [1,1,0,1,0,0])) f67_l0_cut (blkK 0 (seqK (execK (f67_cx k) (callK (f67_cx k) 8) 0 67 (sub f67_c [1,1,1])) (finK (f67_cx k) f67_i laws_eqByteS_sh))) k (f67_l0_s a0 a1 (0:Int)))):Q29):=by kernel_rfl

theorem f67_run(a0:(List Int))(a1:(List Int)):fnK (f67_cx FUEL) 8 67 f67_i laws_eqByteS_sh [.pv K16 a0,.pv K16 a1]=laws_eqByteS_r a0 a1:=
 (f67_start FUEL a0 a1).trans (condC (rfl) ((f67_l0_L_eq _ a0 a1 FUEL (0:Int)).trans (cong2 (fun e0 e1=>laws_eqByteS_l0_L e0 e1 a0 a1 FUEL (0:Int)) ((f67_l0_ret FUEL).trans (rfl)) ((f67_l0_exit0 FUEL).trans (rfl)))))

def f67_con:Con:={ps:=K6,sh:=laws_eqByteS_sh,raw:=fun x=>laws_eqByteS_r x.1 x.2.1}
theorem f67_conOk:ConOk Tryz.prog 67 f67_con:=con_of_fn (f67_tabs FUEL) (depth:=8) f67_ok fun x y h=>(f67_run x.1 x.2.1).trans h

def f37_cx(k:Nat):Cx:=mkC [] [(67,f67_con)] [] [] [] k [] false
theorem f37_tabs(k:Nat):TabsOk Tryz.prog (f37_cx k):=mkC_ok ⟨f67_conOk,trivial⟩ trivial trivial trivial
abbrev laws_eqBlob_sh:List Sh:=[.pl .bool]
abbrev Q28:Type:=Option (shDen laws_eqBlob_sh)
def laws_eqBlob_r(a0:T4)(a1:T4):Q28:=
 (cond (!(decide (a0.1=a1.1)))
 (some false)
 (bindO (laws_eqByteS_r a0.2.1 a1.2.1) fun(b1:Bool)=>(cond (!b1)
 (some false)
 (some true))))
theorem f37_run(a0:T4)(a1:T4):fnK (f37_cx FUEL) 8 37 f37_i laws_eqBlob_sh [.pv K8 a0,.pv K8 a1]=laws_eqBlob_r a0 a1:=by kernel_rfl

def f37_con:Con:={ps:=(.pair K8 K4),sh:=laws_eqBlob_sh,raw:=fun x=>laws_eqBlob_r x.1 x.2.1}
theorem f37_conOk:ConOk Tryz.prog 37 f37_con:=con_of_fn (f37_tabs FUEL) (depth:=8) f37_ok fun x y h=>(f37_run x.1 x.2.1).trans h

def f12_l0_cut:Cut:={keep:=[0,1,5],stk:=[],ids:=[],own:=[],outs:=[(0,[4],[]),(1,[],[])]}
def f12_cx(k:Nat):Cx:=mkC [] [(37,f37_con)] [] [] [(12,[(0,f12_l0_cut)])] k [] false
theorem f12_tabs(k:Nat):TabsOk Tryz.prog (f12_cx k):=mkC_ok ⟨f37_conOk,trivial⟩ trivial trivial trivial
abbrev laws_eqBlobS_sh:List Sh:=[.pl .bool]
abbrev Q27:Type:=Option (shDen laws_eqBlobS_sh)
def f12_l0_s(a0:T3)(a1:T3)(x5:Int):St:={env:=(.pv K5 a0:: .pv K5 a1::(dd 3 (.pv (.int .i64) x5::(dd 21 [])))),stk:=[],heap:=[]}
def f12_l0_o:St:={env:=(dd 4 (.pv .bool false::(dd 22 []))),stk:=[],heap:=[]}
def f12_l0_o0:St:={env:=(dd 27 []),stk:=[],heap:=[]}
def laws_eqBlobS_l0_b(rec:Int→Q27)(kr:Q27)(ke0:Q27)(a0:T3)(a1:T3)(x5:Int):Q27:=
 (cond (decide (x5<(a0.length:Int)))
 (cond ((decide ((0:Int)≤x5))&&(decide (x5<(a0.length:Int))))
 (cond ((decide ((0:Int)≤x5))&&(decide (x5<(a1.length:Int))))
 (bindO (laws_eqBlob_r (a0.getD (x5.toNat) ((0:Int),([],()))) (a1.getD (x5.toNat) ((0:Int),([],())))) fun(b2:Bool)=>(cond (!b2)
 (kr)
 (rec (IntKind.wrap .i64 (x5+(1:Int))))))
 none)
 none)
 (ke0))
def laws_eqBlobS_l0_L(kr:Q27)(ke0:Q27)(a0:T3)(a1:T3):Nat→Int→Q27
 |0=>fun _=>none
 |n+1=>laws_eqBlobS_l0_b (laws_eqBlobS_l0_L kr ke0 a0 a1 n) kr ke0 a0 a1
def laws_eqBlobS_r(a0:T3)(a1:T3):Q27:=
 (cond (!(decide ((a0.length:Int)=(a1.length:Int))))
 (some false)
 (laws_eqBlobS_l0_L (some false) (some true) a0 a1 FUEL (0:Int)))
def f12_l0_p(k:Nat)(K:Ex→St→Q27)(n:Nat)(a0:T3)(a1:T3)(x5:Int):Q27:=loopK (f12_cx k) 0 (execK (f12_cx k) (callK (f12_cx k) 8) 0 12 (sub f12_c [1,1,0,1,0,0])) f12_l0_cut K n (f12_l0_s a0 a1 x5)

theorem f12_l0_ret(k:Nat):((blkK 0 (seqK (execK (f12_cx k) (callK (f12_cx k) 8) 0 12 (sub f12_c [1,1,1])) (finK (f12_cx k) f12_i laws_eqBlobS_sh))) .ret (f12_l0_o):Q27)=
 ((some false):Q27):=by kernel_rfl

theorem f12_l0_exit0(k:Nat):((blkK 0 (seqK (execK (f12_cx k) (callK (f12_cx k) 8) 0 12 (sub f12_c [1,1,1])) (finK (f12_cx k) f12_i laws_eqBlobS_sh))) (.exit 0) (f12_l0_o0):Q27)=
 ((some true):Q27):=by kernel_rfl

theorem f12_l0_round(k:Nat)(K:Ex→St→Q27)(n:Nat)(a0:T3)(a1:T3)(x5:Int):(f12_l0_p k K (n+1) a0 a1 x5:Q27)=laws_eqBlobS_l0_b ((fun x5=>f12_l0_p k K n a0 a1 x5)) (K .ret (f12_l0_o)) (K (.exit 0) (f12_l0_o0)) a0 a1 x5:=by kernel_rfl

theorem f12_l0_L_eq(K:Ex→St→Q27)(a0:T3)(a1:T3):∀(n:Nat) (x5:Int),(f12_l0_p FUEL K n a0 a1 x5:Q27)=laws_eqBlobS_l0_L (K .ret (f12_l0_o)) (K (.exit 0) (f12_l0_o0)) a0 a1 n x5:=by
 intro n
 induction n with
 |zero=>intros; rfl
 |succ n ih=>
  intro x5
  exact(f12_l0_round FUEL K n a0 a1 x5).trans (congrArg (fun f=>laws_eqBlobS_l0_b f (K .ret (f12_l0_o)) (K (.exit 0) (f12_l0_o0)) a0 a1 x5) (funext fun x5=>ih x5))

theorem f12_start(k:Nat)(a0:T3)(a1:T3):fnK (f12_cx k) 8 12 f12_i laws_eqBlobS_sh [.pv K5 a0,.pv K5 a1]=
 ((cond (!(decide ((a0.length:Int)=(a1.length:Int))))
 (some false)
 (loopK (f12_cx k) 0 (execK (f12_cx k) (callK (f12_cx k) 8) 0 12 (sub f12_c [1,1,0,1,0,0])) f12_l0_cut (blkK 0 (seqK (execK (f12_cx k) (callK (f12_cx k) 8) 0 12 (sub f12_c [1,1,1])) (finK (f12_cx k) f12_i laws_eqBlobS_sh))) k (f12_l0_s a0 a1 (0:Int)))):Q27):=by kernel_rfl

theorem f12_run(a0:T3)(a1:T3):fnK (f12_cx FUEL) 8 12 f12_i laws_eqBlobS_sh [.pv K5 a0,.pv K5 a1]=laws_eqBlobS_r a0 a1:=
 (f12_start FUEL a0 a1).trans (condC (rfl) ((f12_l0_L_eq _ a0 a1 FUEL (0:Int)).trans (cong2 (fun e0 e1=>laws_eqBlobS_l0_L e0 e1 a0 a1 FUEL (0:Int)) ((f12_l0_ret FUEL).trans (rfl)) ((f12_l0_exit0 FUEL).trans (rfl)))))

def f12_con:Con:={ps:=(.pair K5 K3),sh:=laws_eqBlobS_sh,raw:=fun x=>laws_eqBlobS_r x.1 x.2.1}
theorem f12_conOk:ConOk Tryz.prog 12 f12_con:=con_of_fn (f12_tabs FUEL) (depth:=8) f12_ok fun x y h=>(f12_run x.1 x.2.1).trans h

def f13_cx(k:Nat):Cx:=mkC [] [(12,f12_con)] [] [] [] k [] false
theorem f13_tabs(k:Nat):TabsOk Tryz.prog (f13_cx k):=mkC_ok ⟨f12_conOk,trivial⟩ trivial trivial trivial
abbrev laws_eqStore_sh:List Sh:=[.pl .bool]
abbrev Q32:Type:=Option (shDen laws_eqStore_sh)
def laws_eqStore_r(a0:T2)(a1:T2):Q32:=
 (bindO (laws_eqBlobS_r a0.1 a1.1) fun(b1:Bool)=>(cond (!b1)
 (some false)
 (some true)))
theorem f13_run(a0:T2)(a1:T2):fnK (f13_cx FUEL) 8 13 f13_i laws_eqStore_sh [.pv K3 a0,.pv K3 a1]=laws_eqStore_r a0 a1:=by kernel_rfl

def f13_con:Con:={ps:=(.pair K3 K2),sh:=laws_eqStore_sh,raw:=fun x=>laws_eqStore_r x.1 x.2.1}
theorem f13_conOk:ConOk Tryz.prog 13 f13_con:=con_of_fn (f13_tabs FUEL) (depth:=8) f13_ok fun x y h=>(f13_run x.1 x.2.1).trans h

def f23_l0_cut:Cut:={keep:=[2,3,5],stk:=[],ids:=[20,30],own:=[],outs:=[(0,[4],[]),(1,[],[])]}
def f23_cx(k:Nat):Cx:=mkC [] [] [] [] [(23,[(0,f23_l0_cut)])] k [] false
theorem f23_tabs(k:Nat):TabsOk Tryz.prog (f23_cx k):=mkC_ok trivial trivial trivial trivial
abbrev laws_eqKey_sh:List Sh:=[.pl .bool]
abbrev Q31:Type:=Option (shDen laws_eqKey_sh)
def f23_l0_s(a0:(List Int))(a1:(List Int))(x5:Int):St:={env:=(.dead:: .dead:: .ptr 20 (.arr 32 (.int .u8)) []:: .ptr 30 (.arr 32 (.int .u8)) []:: .dead:: .pv (.int .i64) x5::(dd 11 [])),stk:=[],heap:=[(20,.var (.arr 32 (.int .u8)) (.pv (.arr 32 (.int .u8)) a0)),(30,.var (.arr 32 (.int .u8)) (.pv (.arr 32 (.int .u8)) a1))]}
def f23_l0_o:St:={env:=(dd 4 (.pv .bool false::(dd 12 []))),stk:=[],heap:=[]}
def f23_l0_o0:St:={env:=(dd 17 []),stk:=[],heap:=[]}
def laws_eqKey_l0_b(rec:Int→Q31)(kr:Q31)(ke0:Q31)(a0:(List Int))(a1:(List Int))(x5:Int):Q31:=
 (cond (decide (x5<(32:Int)))
 (cond ((decide ((0:Int)≤x5))&&(decide (x5<(32:Int))))
 (cond ((decide ((0:Int)≤x5))&&(decide (x5<(32:Int))))
 (cond (!(decide ((a0.getD (x5.toNat) (0:Int))=(a1.getD (x5.toNat) (0:Int)))))
 (kr)
 (rec (IntKind.wrap .i64 (x5+(1:Int)))))
 none)
 none)
 (ke0))
def laws_eqKey_l0_L(kr:Q31)(ke0:Q31)(a0:(List Int))(a1:(List Int)):Nat→Int→Q31
 |0=>fun _=>none
 |n+1=>laws_eqKey_l0_b (laws_eqKey_l0_L kr ke0 a0 a1 n) kr ke0 a0 a1
def laws_eqKey_r(a0:(List Int))(a1:(List Int)):Q31:=
 (laws_eqKey_l0_L (some false) (some true) a0 a1 FUEL (0:Int))
def f23_l0_p(k:Nat)(K:Ex→St→Q31)(n:Nat)(a0:(List Int))(a1:(List Int))(x5:Int):Q31:=loopK (f23_cx k) 0 (execK (f23_cx k) (callK (f23_cx k) 8) 0 23 (sub f23_c [1,0,1,0,0])) f23_l0_cut K n (f23_l0_s a0 a1 x5)

theorem f23_l0_ret(k:Nat):((blkK 0 (seqK (execK (f23_cx k) (callK (f23_cx k) 8) 0 23 (sub f23_c [1,1])) (finK (f23_cx k) f23_i laws_eqKey_sh))) .ret (f23_l0_o):Q31)=
 ((some false):Q31):=by kernel_rfl

theorem f23_l0_exit0(k:Nat):((blkK 0 (seqK (execK (f23_cx k) (callK (f23_cx k) 8) 0 23 (sub f23_c [1,1])) (finK (f23_cx k) f23_i laws_eqKey_sh))) (.exit 0) (f23_l0_o0):Q31)=
 ((some true):Q31):=by kernel_rfl

theorem f23_l0_round(k:Nat)(K:Ex→St→Q31)(n:Nat)(a0:(List Int))(a1:(List Int))(x5:Int):(f23_l0_p k K (n+1) a0 a1 x5:Q31)=laws_eqKey_l0_b ((fun x5=>f23_l0_p k K n a0 a1 x5)) (K .ret (f23_l0_o)) (K (.exit 0) (f23_l0_o0)) a0 a1 x5:=by kernel_rfl

theorem f23_l0_L_eq(K:Ex→St→Q31)(a0:(List Int))(a1:(List Int)):∀(n:Nat) (x5:Int),(f23_l0_p FUEL K n a0 a1 x5:Q31)=laws_eqKey_l0_L (K .ret (f23_l0_o)) (K (.exit 0) (f23_l0_o0)) a0 a1 n x5:=by
 intro n
 induction n with
 |zero=>intros; rfl
 |succ n ih=>
  intro x5
  exact(f23_l0_round FUEL K n a0 a1 x5).trans (congrArg (fun f=>laws_eqKey_l0_b f (K .ret (f23_l0_o)) (K (.exit 0) (f23_l0_o0)) a0 a1 x5) (funext fun x5=>ih x5))

theorem f23_start(k:Nat)(a0:(List Int))(a1:(List Int)):fnK (f23_cx k) 8 23 f23_i laws_eqKey_sh [.pv (.arr 32 (.int .u8)) a0,.pv (.arr 32 (.int .u8)) a1]=
 ((loopK (f23_cx k) 0 (execK (f23_cx k) (callK (f23_cx k) 8) 0 23 (sub f23_c [1,0,1,0,0])) f23_l0_cut (blkK 0 (seqK (execK (f23_cx k) (callK (f23_cx k) 8) 0 23 (sub f23_c [1,1])) (finK (f23_cx k) f23_i laws_eqKey_sh))) k (f23_l0_s a0 a1 (0:Int))):Q31):=by kernel_rfl

theorem f23_run(a0:(List Int))(a1:(List Int)):fnK (f23_cx FUEL) 8 23 f23_i laws_eqKey_sh [.pv (.arr 32 (.int .u8)) a0,.pv (.arr 32 (.int .u8)) a1]=laws_eqKey_r a0 a1:=
 (f23_start FUEL a0 a1).trans ((f23_l0_L_eq _ a0 a1 FUEL (0:Int)).trans (cong2 (fun e0 e1=>laws_eqKey_l0_L e0 e1 a0 a1 FUEL (0:Int)) ((f23_l0_ret FUEL).trans (rfl)) ((f23_l0_exit0 FUEL).trans (rfl))))

def f23_con:Con:={ps:=(.pair (.arr 32 (.int .u8)) K10),sh:=laws_eqKey_sh,raw:=fun x=>laws_eqKey_r x.1 x.2.1}
theorem f23_conOk:ConOk Tryz.prog 23 f23_con:=con_of_fn (f23_tabs FUEL) (depth:=8) f23_ok fun x y h=>(f23_run x.1 x.2.1).trans h

def f14_l0_cut:Cut:={keep:=[0,1,5],stk:=[],ids:=[],own:=[],outs:=[(0,[4],[]),(1,[],[])]}
def f14_cx(k:Nat):Cx:=mkC [] [(23,f23_con)] [] [] [(14,[(0,f14_l0_cut)])] k [] false
theorem f14_tabs(k:Nat):TabsOk Tryz.prog (f14_cx k):=mkC_ok ⟨f23_conOk,trivial⟩ trivial trivial trivial
abbrev laws_eqKeyS_sh:List Sh:=[.pl .bool]
abbrev Q30:Type:=Option (shDen laws_eqKeyS_sh)
def f14_l0_s(a0:T7)(a1:T7)(x5:Int):St:={env:=(.pv K12 a0:: .pv K12 a1::(dd 3 (.pv (.int .i64) x5::(dd 21 [])))),stk:=[],heap:=[]}
def f14_l0_o:St:={env:=(dd 4 (.pv .bool false::(dd 22 []))),stk:=[],heap:=[]}
def f14_l0_o0:St:={env:=(dd 27 []),stk:=[],heap:=[]}
def laws_eqKeyS_l0_b(rec:Int→Q30)(kr:Q30)(ke0:Q30)(a0:T7)(a1:T7)(x5:Int):Q30:=
 (cond (decide (x5<(a0.length:Int)))
 (cond ((decide ((0:Int)≤x5))&&(decide (x5<(a0.length:Int))))
 (cond ((decide ((0:Int)≤x5))&&(decide (x5<(a1.length:Int))))
 (bindO (laws_eqKey_r (a0.getD (x5.toNat) (List.replicate 32 (0:Int))) (a1.getD (x5.toNat) (List.replicate 32 (0:Int)))) fun(b2:Bool)=>(cond (!b2)
 (kr)
 (rec (IntKind.wrap .i64 (x5+(1:Int))))))
 none)
 none)
 (ke0))
def laws_eqKeyS_l0_L(kr:Q30)(ke0:Q30)(a0:T7)(a1:T7):Nat→Int→Q30
 |0=>fun _=>none
 |n+1=>laws_eqKeyS_l0_b (laws_eqKeyS_l0_L kr ke0 a0 a1 n) kr ke0 a0 a1
def laws_eqKeyS_r(a0:T7)(a1:T7):Q30:=
 (cond (!(decide ((a0.length:Int)=(a1.length:Int))))
 (some false)
 (laws_eqKeyS_l0_L (some false) (some true) a0 a1 FUEL (0:Int)))
def f14_l0_p(k:Nat)(K:Ex→St→Q30)(n:Nat)(a0:T7)(a1:T7)(x5:Int):Q30:=loopK (f14_cx k) 0 (execK (f14_cx k) (callK (f14_cx k) 8) 0 14 (sub f14_c [1,1,0,1,0,0])) f14_l0_cut K n (f14_l0_s a0 a1 x5)

theorem f14_l0_ret(k:Nat):((blkK 0 (seqK (execK (f14_cx k) (callK (f14_cx k) 8) 0 14 (sub f14_c [1,1,1])) (finK (f14_cx k) f14_i laws_eqKeyS_sh))) .ret (f14_l0_o):Q30)=
 ((some false):Q30):=by kernel_rfl

theorem f14_l0_exit0(k:Nat):((blkK 0 (seqK (execK (f14_cx k) (callK (f14_cx k) 8) 0 14 (sub f14_c [1,1,1])) (finK (f14_cx k) f14_i laws_eqKeyS_sh))) (.exit 0) (f14_l0_o0):Q30)=
 ((some true):Q30):=by kernel_rfl

theorem f14_l0_round(k:Nat)(K:Ex→St→Q30)(n:Nat)(a0:T7)(a1:T7)(x5:Int):(f14_l0_p k K (n+1) a0 a1 x5:Q30)=laws_eqKeyS_l0_b ((fun x5=>f14_l0_p k K n a0 a1 x5)) (K .ret (f14_l0_o)) (K (.exit 0) (f14_l0_o0)) a0 a1 x5:=by kernel_rfl

theorem f14_l0_L_eq(K:Ex→St→Q30)(a0:T7)(a1:T7):∀(n:Nat) (x5:Int),(f14_l0_p FUEL K n a0 a1 x5:Q30)=laws_eqKeyS_l0_L (K .ret (f14_l0_o)) (K (.exit 0) (f14_l0_o0)) a0 a1 n x5:=by
 intro n
 induction n with
 |zero=>intros; rfl
 |succ n ih=>
  intro x5
  exact(f14_l0_round FUEL K n a0 a1 x5).trans (congrArg (fun f=>laws_eqKeyS_l0_b f (K .ret (f14_l0_o)) (K (.exit 0) (f14_l0_o0)) a0 a1 x5) (funext fun x5=>ih x5))

theorem f14_start(k:Nat)(a0:T7)(a1:T7):fnK (f14_cx k) 8 14 f14_i laws_eqKeyS_sh [.pv K12 a0,.pv K12 a1]=
 ((cond (!(decide ((a0.length:Int)=(a1.length:Int))))
 (some false)
 (loopK (f14_cx k) 0 (execK (f14_cx k) (callK (f14_cx k) 8) 0 14 (sub f14_c [1,1,0,1,0,0])) f14_l0_cut (blkK 0 (seqK (execK (f14_cx k) (callK (f14_cx k) 8) 0 14 (sub f14_c [1,1,1])) (finK (f14_cx k) f14_i laws_eqKeyS_sh))) k (f14_l0_s a0 a1 (0:Int)))):Q30):=by kernel_rfl

theorem f14_run(a0:T7)(a1:T7):fnK (f14_cx FUEL) 8 14 f14_i laws_eqKeyS_sh [.pv K12 a0,.pv K12 a1]=laws_eqKeyS_r a0 a1:=
 (f14_start FUEL a0 a1).trans (condC (rfl) ((f14_l0_L_eq _ a0 a1 FUEL (0:Int)).trans (cong2 (fun e0 e1=>laws_eqKeyS_l0_L e0 e1 a0 a1 FUEL (0:Int)) ((f14_l0_ret FUEL).trans (rfl)) ((f14_l0_exit0 FUEL).trans (rfl)))))

def f14_con:Con:={ps:=(.pair K12 K9),sh:=laws_eqKeyS_sh,raw:=fun x=>laws_eqKeyS_r x.1 x.2.1}
theorem f14_conOk:ConOk Tryz.prog 14 f14_con:=con_of_fn (f14_tabs FUEL) (depth:=8) f14_ok fun x y h=>(f14_run x.1 x.2.1).trans h

end
end Go.Ai.G
