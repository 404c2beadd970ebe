/- Made by a program of this work out of the program: tables and plain functions,with the proof that each Go function does what its plain function says. No conditions. -/
import Derived.Test.YtkpacjofafjonaaGreatExactBlobsForFn0
namespace Go.Ai.G
noncomputable section
open Go.Proofs
open Go.Ai
set_option linter.unusedVariables false
set_option linter.unusedSimpArgs false
set_option maxRecDepth 100000

def f192_cx(k:Nat):Cx:=mkC [] [] [] [] [] k [] false
theorem f192_tabs(k:Nat):TabsOk Tryz.prog (f192_cx k):=mkC_ok trivial trivial trivial trivial
abbrev math_bits_RotateLeft32_sh:List Sh:=[.pl (.int .u32)]
abbrev Q53:Type:=Option (shDen math_bits_RotateLeft32_sh)
def math_bits_RotateLeft32_r(a0:Int)(a1:Int):Q53:=
 (cond (decide ((bitI .and .u64 (IntKind.wrap .u64 a1) (31:Int))<(0:Int)))
 none
 (cond (decide ((IntKind.wrap .u64 ((32:Int)-(bitI .and .u64 (IntKind.wrap .u64 a1) (31:Int))))<(0:Int)))
 none
 (some (bitI .or .u32 (shlI .u32 a0 (bitI .and .u64 (IntKind.wrap .u64 a1) (31:Int))) (shrI .u32 a0 (IntKind.wrap .u64 ((32:Int)-(bitI .and .u64 (IntKind.wrap .u64 a1) (31:Int)))))))))
theorem f192_run(a0:Int)(a1:Int):fnK (f192_cx FUEL) 8 192 f192_i math_bits_RotateLeft32_sh [.pv (.int .u32) a0,.pv (.int .i64) a1]=math_bits_RotateLeft32_r a0 a1:=by kernel_rfl

def f192_con:Con:={ps:=(.pair (.int .u32) K18),sh:=math_bits_RotateLeft32_sh,raw:=fun x=>math_bits_RotateLeft32_r x.1 x.2.1}
theorem f192_conOk:ConOk Tryz.prog 192 f192_con:=con_of_fn (f192_tabs FUEL) (depth:=8) f192_ok fun x y h=>(f192_run x.1 x.2.1).trans h

def f177_l0_cut:Cut:={keep:=[2,3,4,5,14],stk:=[],ids:=[20,30,40,50],own:=[],outs:=[(1,[2,4,5],[20,40,50])]}
def f177_l1_cut:Cut:={keep:=[2,4,5,7,29],stk:=[],ids:=[20,40,50,70],own:=[],outs:=[(3,[2,4,7],[20,40,70])]}
def f177_l2_cut:Cut:={keep:=[2,4,5,7,8,29,32],stk:=[],ids:=[20,40,50,70],own:=[],outs:=[(5,[2,4,5,7,29],[20,40,50,70])]}
def f177_l3_cut:Cut:={keep:=[2,4,7,74],stk:=[],ids:=[20,40,70],own:=[],outs:=[(7,[4,7],[40,70])]}
def f177_cx(k:Nat):Cx:=mkC [] [(191,f191_con),(192,f192_con)] [] [] [(177,[(0,f177_l0_cut),(2,f177_l1_cut),(4,f177_l2_cut),(6,f177_l3_cut)])] k [] false
theorem f177_tabs(k:Nat):TabsOk Tryz.prog (f177_cx k):=mkC_ok ⟨f191_conOk,f192_conOk,trivial⟩ trivial trivial trivial
abbrev impl_MixBlock_sh:List Sh:=[.pl (.arr 8 (.int .u32))]
abbrev Q7:Type:=Option (shDen impl_MixBlock_sh)
def f177_l0_s(a0:(List Int))(a1:(List Int))(x14:Int)(y50:(List Int)):St:={env:=(.dead:: .dead:: .ptr 20 (.arr 8 (.int .u32)) []:: .ptr 30 (.arr 32 (.int .u8)) []:: .ptr 40 (.arr 8 (.int .u32)) []:: .ptr 50 (.arr 8 (.int .u32)) []::(dd 8 (.pv (.int .i64) x14::(dd 72 [])))),stk:=[],heap:=[(20,.var (.arr 8 (.int .u32)) (.pv (.arr 8 (.int .u32)) a0)),(30,.var (.arr 32 (.int .u8)) (.pv (.arr 32 (.int .u8)) a1)),(40,.var (.arr 8 (.int .u32)) (.pv (.arr 8 (.int .u32)) (List.replicate 8 (0:Int)))),(50,.var (.arr 8 (.int .u32)) (.pv (.arr 8 (.int .u32)) y50))]}
def f177_l0_o0(a0:(List Int))(y50:(List Int)):St:={env:=(.dead:: .dead:: .ptr 20 (.arr 8 (.int .u32)) []:: .dead:: .ptr 40 (.arr 8 (.int .u32)) []:: .ptr 50 (.arr 8 (.int .u32)) []::(dd 81 [])),stk:=[],heap:=[(20,.var (.arr 8 (.int .u32)) (.pv (.arr 8 (.int .u32)) a0)),(40,.var (.arr 8 (.int .u32)) (.pv (.arr 8 (.int .u32)) (List.replicate 8 (0:Int)))),(50,.var (.arr 8 (.int .u32)) (.pv (.arr 8 (.int .u32)) y50))]}
def f177_l1_s(a0:(List Int))(y50:(List Int))(x29:Int)(y70:(List Int)):St:={env:=(.dead:: .dead:: .ptr 20 (.arr 8 (.int .u32)) []:: .dead:: .ptr 40 (.arr 8 (.int .u32)) []:: .ptr 50 (.arr 8 (.int .u32)) []:: .dead:: .ptr 70 (.arr 8 (.int .u32)) []::(dd 21 (.pv (.int .i64) x29::(dd 57 [])))),stk:=[],heap:=[(20,.var (.arr 8 (.int .u32)) (.pv (.arr 8 (.int .u32)) a0)),(40,.var (.arr 8 (.int .u32)) (.pv (.arr 8 (.int .u32)) (List.replicate 8 (0:Int)))),(50,.var (.arr 8 (.int .u32)) (.pv (.arr 8 (.int .u32)) y50)),(70,.var (.arr 8 (.int .u32)) (.pv (.arr 8 (.int .u32)) y70))]}
def f177_l1_o2(a0:(List Int))(y70:(List Int)):St:={env:=(.dead:: .dead:: .ptr 20 (.arr 8 (.int .u32)) []:: .dead:: .ptr 40 (.arr 8 (.int .u32)) []:: .dead:: .dead:: .ptr 70 (.arr 8 (.int .u32)) []::(dd 79 [])),stk:=[],heap:=[(20,.var (.arr 8 (.int .u32)) (.pv (.arr 8 (.int .u32)) a0)),(40,.var (.arr 8 (.int .u32)) (.pv (.arr 8 (.int .u32)) (List.replicate 8 (0:Int)))),(70,.var (.arr 8 (.int .u32)) (.pv (.arr 8 (.int .u32)) y70))]}
def f177_l2_s(a0:(List Int))(y50:(List Int))(x29:Int)(x32:Int)(y70:(List Int)):St:={env:=(.dead:: .dead:: .ptr 20 (.arr 8 (.int .u32)) []:: .dead:: .ptr 40 (.arr 8 (.int .u32)) []:: .ptr 50 (.arr 8 (.int .u32)) []:: .dead:: .ptr 70 (.arr 8 (.int .u32)) []:: .pv (.int .i64) x29::(dd 20 (.pv (.int .i64) x29:: .dead:: .dead:: .pv (.int .i64) x32::(dd 54 [])))),stk:=[],heap:=[(20,.var (.arr 8 (.int .u32)) (.pv (.arr 8 (.int .u32)) a0)),(40,.var (.arr 8 (.int .u32)) (.pv (.arr 8 (.int .u32)) (List.replicate 8 (0:Int)))),(50,.var (.arr 8 (.int .u32)) (.pv (.arr 8 (.int .u32)) y50)),(70,.var (.arr 8 (.int .u32)) (.pv (.arr 8 (.int .u32)) y70))]}
def f177_l2_o4(a0:(List Int))(y50:(List Int))(x29:Int)(y70:(List Int)):St:={env:=(.dead:: .dead:: .ptr 20 (.arr 8 (.int .u32)) []:: .dead:: .ptr 40 (.arr 8 (.int .u32)) []:: .ptr 50 (.arr 8 (.int .u32)) []:: .dead:: .ptr 70 (.arr 8 (.int .u32)) []::(dd 21 (.pv (.int .i64) x29::(dd 57 [])))),stk:=[],heap:=[(20,.var (.arr 8 (.int .u32)) (.pv (.arr 8 (.int .u32)) a0)),(40,.var (.arr 8 (.int .u32)) (.pv (.arr 8 (.int .u32)) (List.replicate 8 (0:Int)))),(50,.var (.arr 8 (.int .u32)) (.pv (.arr 8 (.int .u32)) y50)),(70,.var (.arr 8 (.int .u32)) (.pv (.arr 8 (.int .u32)) y70))]}
def f177_l3_s(a0:(List Int))(y70:(List Int))(x74:Int):St:={env:=(.dead:: .dead:: .ptr 20 (.arr 8 (.int .u32)) []:: .dead:: .ptr 40 (.arr 8 (.int .u32)) []:: .dead:: .dead:: .ptr 70 (.arr 8 (.int .u32)) []::(dd 66 (.pv (.int .i64) x74::(dd 12 [])))),stk:=[],heap:=[(20,.var (.arr 8 (.int .u32)) (.pv (.arr 8 (.int .u32)) a0)),(40,.var (.arr 8 (.int .u32)) (.pv (.arr 8 (.int .u32)) (List.replicate 8 (0:Int)))),(70,.var (.arr 8 (.int .u32)) (.pv (.arr 8 (.int .u32)) y70))]}
def f177_l3_o6(y70:(List Int)):St:={env:=(dd 4 (.ptr 40 (.arr 8 (.int .u32)) []:: .dead:: .dead:: .ptr 70 (.arr 8 (.int .u32)) []::(dd 79 []))),stk:=[],heap:=[(40,.var (.arr 8 (.int .u32)) (.pv (.arr 8 (.int .u32)) (List.replicate 8 (0:Int)))),(70,.var (.arr 8 (.int .u32)) (.pv (.arr 8 (.int .u32)) y70))]}
def impl_MixBlock_l3_b(rec:(List Int)→Int→Q7)(ke6:(List Int)→Q7)(a0:(List Int))(y70:(List Int))(x74:Int):Q7:=
 (cond (decide (x74<(8:Int)))
 (cond ((decide ((0:Int)≤x74))&&(decide (x74<(8:Int))))
 (cond ((decide ((0:Int)≤x74))&&(decide (x74<(8:Int))))
 (cond ((decide ((0:Int)≤x74))&&(decide (x74<(8:Int))))
 (rec (y70.set (x74.toNat) (bitI .xor .u32 (y70.getD (x74.toNat) (0:Int)) (a0.getD (x74.toNat) (0:Int)))) (IntKind.wrap .i64 (x74+(1:Int))))
 none)
 none)
 none)
 (ke6 y70))
def impl_MixBlock_l3_L(ke6:(List Int)→Q7)(a0:(List Int)):Nat→(List Int)→Int→Q7
 |0=>fun _ _=>none
 |n+1=>impl_MixBlock_l3_b (impl_MixBlock_l3_L ke6 a0 n) ke6 a0
def impl_MixBlock_l2_b(rec:Int→(List Int)→Q7)(ke4:(List Int)→Q7)(a0:(List Int))(y50:(List Int))(x29:Int)(x32:Int)(y70:(List Int)):Q7:=
 (cond (decide (x32<(8:Int)))
 (cond ((decide ((0:Int)≤x32))&&(decide (x32<(8:Int))))
 (cond ((decide ((0:Int)≤(Int.tmod (IntKind.wrap .i64 (x32+(IntKind.wrap .i64 ((3:Int)*x29)))) (8:Int))))&&(decide ((Int.tmod (IntKind.wrap .i64 (x32+(IntKind.wrap .i64 ((3:Int)*x29)))) (8:Int))<(8:Int))))
 (bindO (math_bits_RotateLeft32_r (IntKind.wrap .u32 ((IntKind.wrap .u32 ((y70.getD (x32.toNat) (0:Int))+(y50.getD ((Int.tmod (IntKind.wrap .i64 (x32+(IntKind.wrap .i64 ((3:Int)*x29)))) (8:Int)).toNat) (0:Int))))+(IntKind.wrap .u32 ((2654435769:Int)*(IntKind.wrap .u32 (IntKind.wrap .i64 ((IntKind.wrap .i64 ((IntKind.wrap .i64 ((8:Int)*x29))+x32))+(1:Int)))))))) (7:Int)) fun(b9:Int)=>(cond ((decide ((0:Int)≤(Int.tmod (IntKind.wrap .i64 (x32+(1:Int))) (8:Int))))&&(decide ((Int.tmod (IntKind.wrap .i64 (x32+(1:Int))) (8:Int))<(8:Int))))
 (cond ((decide ((0:Int)≤(Int.tmod (IntKind.wrap .i64 (x32+(5:Int))) (8:Int))))&&(decide ((Int.tmod (IntKind.wrap .i64 (x32+(5:Int))) (8:Int))<(8:Int))))
 (bindO (math_bits_RotateLeft32_r (y70.getD ((Int.tmod (IntKind.wrap .i64 (x32+(5:Int))) (8:Int)).toNat) (0:Int)) (13:Int)) fun(b10:Int)=>(cond ((decide ((0:Int)≤x32))&&(decide (x32<(8:Int))))
 (rec (IntKind.wrap .i64 (x32+(1:Int))) (y70.set (x32.toNat) (IntKind.wrap .u32 ((bitI .xor .u32 b9 (y70.getD ((Int.tmod (IntKind.wrap .i64 (x32+(1:Int))) (8:Int)).toNat) (0:Int)))+b10))))
 none))
 none)
 none))
 none)
 none)
 (ke4 y70))
def impl_MixBlock_l2_L(ke4:(List Int)→Q7)(a0:(List Int))(y50:(List Int))(x29:Int):Nat→Int→(List Int)→Q7
 |0=>fun _ _=>none
 |n+1=>impl_MixBlock_l2_b (impl_MixBlock_l2_L ke4 a0 y50 x29 n) ke4 a0 y50 x29
def impl_MixBlock_l1_b(rec:(List Int)→Int→(List Int)→Q7)(ke2:(List Int)→Q7)(a0:(List Int))(y50:(List Int))(x29:Int)(y70:(List Int)):Q7:=
 (cond (decide (x29<(12:Int)))
 (impl_MixBlock_l2_L (fun y70=>(rec y50 (IntKind.wrap .i64 (x29+(1:Int))) y70)) a0 y50 x29 FUEL (0:Int) y70)
 (ke2 y70))
def impl_MixBlock_l1_L(ke2:(List Int)→Q7)(a0:(List Int)):Nat→(List Int)→Int→(List Int)→Q7
 |0=>fun _ _ _=>none
 |n+1=>impl_MixBlock_l1_b (impl_MixBlock_l1_L ke2 a0 n) ke2 a0
def impl_MixBlock_l0_b(rec:Int→(List Int)→Q7)(ke0:(List Int)→Q7)(a0:(List Int))(a1:(List Int))(x14:Int)(y50:(List Int)):Q7:=
 (cond (decide (x14<(8:Int)))
 (cond ((decide ((0:Int)≤(IntKind.wrap .i64 ((IntKind.wrap .i64 ((4:Int)*x14))+(4:Int)))))&&(decide ((IntKind.wrap .i64 ((IntKind.wrap .i64 ((4:Int)*x14))+(4:Int)))≤(32:Int))))
 (cond ((decide ((0:Int)≤(IntKind.wrap .i64 ((4:Int)*x14))))&&(decide ((IntKind.wrap .i64 ((4:Int)*x14))≤(IntKind.wrap .i64 ((IntKind.wrap .i64 ((4:Int)*x14))+(4:Int))))))
 (bindO (impl_littleNumber_r (cutL a1 ((IntKind.wrap .i64 ((4:Int)*x14)).toNat) ((IntKind.wrap .i64 ((IntKind.wrap .i64 ((4:Int)*x14))+(4:Int))).toNat))) fun(b2:Int)=>(cond ((decide ((0:Int)≤x14))&&(decide (x14<(8:Int))))
 (rec (IntKind.wrap .i64 (x14+(1:Int))) (y50.set (x14.toNat) (IntKind.wrap .u32 b2)))
 none))
 none)
 none)
 (ke0 y50))
def impl_MixBlock_l0_L(ke0:(List Int)→Q7)(a0:(List Int))(a1:(List Int)):Nat→Int→(List Int)→Q7
 |0=>fun _ _=>none
 |n+1=>impl_MixBlock_l0_b (impl_MixBlock_l0_L ke0 a0 a1 n) ke0 a0 a1
def impl_MixBlock_r(a0:(List Int))(a1:(List Int)):Q7:=
 (impl_MixBlock_l0_L (fun y50=>(impl_MixBlock_l1_L (fun y70=>(impl_MixBlock_l3_L (fun y70=>(some y70)) a0 FUEL y70 (0:Int))) a0 FUEL y50 (0:Int) a0)) a0 a1 FUEL (0:Int) (List.replicate 8 (0:Int)))
def f177_l3_p(k:Nat)(K:Ex→St→Q7)(n:Nat)(a0:(List Int))(y70:(List Int))(x74:Int):Q7:=loopK (f177_cx k) 0 (execK (f177_cx k) (callK (f177_cx k) 8) 0 177 (sub f177_c [1,1,1,1,1,0,1,0,0])) f177_l3_cut K n (f177_l3_s a0 y70 x74)

theorem f177_l3_exit6(k:Nat)(y70:(List Int)):((blkK 6 (seqK (execK (f177_cx k) (callK (f177_cx k) 8) 0 177 (sub f177_c [1,1,1,1,1,1])) (finK (f177_cx k) f177_i impl_MixBlock_sh))) (.exit 6) (f177_l3_o6 y70):Q7)=
 ((some y70):Q7):=by kernel_rfl

theorem f177_l3_round(k:Nat)(K:Ex→St→Q7)(n:Nat)(a0:(List Int))(y70:(List Int))(x74:Int):(f177_l3_p k K (n+1) a0 y70 x74:Q7)=impl_MixBlock_l3_b ((fun y70 x74=>f177_l3_p k K n a0 y70 x74)) (fun y70=>K (.exit 6) (f177_l3_o6 y70)) a0 y70 x74:=by kernel_rfl

theorem f177_l3_L_eq(K:Ex→St→Q7)(a0:(List Int)):∀(n:Nat) (y70:(List Int)) (x74:Int),(f177_l3_p FUEL K n a0 y70 x74:Q7)=impl_MixBlock_l3_L (fun y70=>K (.exit 6) (f177_l3_o6 y70)) a0 n y70 x74:=by
 intro n
 induction n with
 |zero=>intros; rfl
 |succ n ih=>
  intro y70 x74
  exact(f177_l3_round FUEL K n a0 y70 x74).trans (congrArg (fun f=>impl_MixBlock_l3_b f (fun y70=>K (.exit 6) (f177_l3_o6 y70)) a0 y70 x74) (funext fun y70=>funext fun x74=>ih y70 x74))

def f177_l2_p(k:Nat)(K:Ex→St→Q7)(n:Nat)(a0:(List Int))(y50:(List Int))(x29:Int)(x32:Int)(y70:(List Int)):Q7:=loopK (f177_cx k) 0 (execK (f177_cx k) (callK (f177_cx k) 8) 0 177 (sub f177_c [1,1,1,1,0,1,0,0,1,1,0,0,1,1,0,0])) f177_l2_cut K n (f177_l2_s a0 y50 x29 x32 y70)

theorem f177_l2_exit4(k:Nat)(K:Ex→St→Q7)(n:Nat)(a0:(List Int))(y50:(List Int))(x29:Int)(y70:(List Int)):((blkK 4 (blkK 3 (seqK (execK (f177_cx k) (callK (f177_cx k) 8) 0 177 (sub f177_c [1,1,1,1,0,1,0,0,1,1,1])) (iterK (f177_cx k) 0 f177_l1_cut (loopK (f177_cx k) 0 (execK (f177_cx k) (callK (f177_cx k) 8) 0 177 (sub f177_c [1,1,1,1,0,1,0,0])) f177_l1_cut K n) K)))) (.exit 4) (f177_l2_o4 a0 y50 x29 y70):Q7)=
 ((loopK (f177_cx k) 0 (execK (f177_cx k) (callK (f177_cx k) 8) 0 177 (sub f177_c [1,1,1,1,0,1,0,0])) f177_l1_cut K n (f177_l1_s a0 y50 (IntKind.wrap .i64 (x29+(1:Int))) y70)):Q7):=by kernel_rfl

theorem f177_l2_round(k:Nat)(K:Ex→St→Q7)(n:Nat)(a0:(List Int))(y50:(List Int))(x29:Int)(x32:Int)(y70:(List Int)):(f177_l2_p k K (n+1) a0 y50 x29 x32 y70:Q7)=impl_MixBlock_l2_b ((fun x32 y70=>f177_l2_p k K n a0 y50 x29 x32 y70)) (fun y70=>K (.exit 4) (f177_l2_o4 a0 y50 x29 y70)) a0 y50 x29 x32 y70:=by kernel_rfl

theorem f177_l2_L_eq(K:Ex→St→Q7)(a0:(List Int))(y50:(List Int))(x29:Int):∀(n:Nat) (x32:Int) (y70:(List Int)),(f177_l2_p FUEL K n a0 y50 x29 x32 y70:Q7)=impl_MixBlock_l2_L (fun y70=>K (.exit 4) (f177_l2_o4 a0 y50 x29 y70)) a0 y50 x29 n x32 y70:=by
 intro n
 induction n with
 |zero=>intros; rfl
 |succ n ih=>
  intro x32 y70
  exact(f177_l2_round FUEL K n a0 y50 x29 x32 y70).trans (congrArg (fun f=>impl_MixBlock_l2_b f (fun y70=>K (.exit 4) (f177_l2_o4 a0 y50 x29 y70)) a0 y50 x29 x32 y70) (funext fun x32=>funext fun y70=>ih x32 y70))

def f177_l1_p(k:Nat)(K:Ex→St→Q7)(n:Nat)(a0:(List Int))(y50:(List Int))(x29:Int)(y70:(List Int)):Q7:=loopK (f177_cx k) 0 (execK (f177_cx k) (callK (f177_cx k) 8) 0 177 (sub f177_c [1,1,1,1,0,1,0,0])) f177_l1_cut K n (f177_l1_s a0 y50 x29 y70)

theorem f177_l1_round(k:Nat)(K:Ex→St→Q7)(n:Nat)(a0:(List Int))(y50:(List Int))(x29:Int)(y70:(List Int)):(f177_l1_p k K (n+1) a0 y50 x29 y70:Q7)=
 ((cond (decide (x29<(12:Int)))
 (loopK (f177_cx k) 0 (execK (f177_cx k) (callK (f177_cx k) 8) 0 177 (sub f177_c [1,1,1,1,0,1,0,0,1,1,0,0,1,1,0,0])) f177_l2_cut (blkK 4 (blkK 3 (seqK (execK (f177_cx k) (callK (f177_cx k) 8) 0 177 (sub f177_c [1,1,1,1,0,1,0,0,1,1,1])) (iterK (f177_cx k) 0 f177_l1_cut (loopK (f177_cx k) 0 (execK (f177_cx k) (callK (f177_cx k) 8) 0 177 (sub f177_c [1,1,1,1,0,1,0,0])) f177_l1_cut K n) K)))) k (f177_l2_s a0 y50 x29 (0:Int) y70))
 (K (.exit 2) (f177_l1_o2 a0 y70))):Q7):=by kernel_rfl

theorem f177_l1_exit2(k:Nat)(a0:(List Int))(y70:(List Int)):((blkK 2 (seqK (execK (f177_cx k) (callK (f177_cx k) 8) 0 177 (sub f177_c [1,1,1,1,1])) (finK (f177_cx k) f177_i impl_MixBlock_sh))) (.exit 2) (f177_l1_o2 a0 y70):Q7)=
 ((loopK (f177_cx k) 0 (execK (f177_cx k) (callK (f177_cx k) 8) 0 177 (sub f177_c [1,1,1,1,1,0,1,0,0])) f177_l3_cut (blkK 6 (seqK (execK (f177_cx k) (callK (f177_cx k) 8) 0 177 (sub f177_c [1,1,1,1,1,1])) (finK (f177_cx k) f177_i impl_MixBlock_sh))) k (f177_l3_s a0 y70 (0:Int))):Q7):=by kernel_rfl

theorem f177_l1_L_eq(K:Ex→St→Q7)(a0:(List Int)):∀(n:Nat) (y50:(List Int)) (x29:Int) (y70:(List Int)),(f177_l1_p FUEL K n a0 y50 x29 y70:Q7)=impl_MixBlock_l1_L (fun y70=>K (.exit 2) (f177_l1_o2 a0 y70)) a0 n y50 x29 y70:=by
 intro n
 induction n with
 |zero=>intros; rfl
 |succ n ih=>
  intro y50 x29 y70
  exact(f177_l1_round FUEL K n a0 y50 x29 y70).trans (condC ((f177_l2_L_eq _ a0 y50 x29 FUEL (0:Int) y70).trans (congrArg (fun e0=>impl_MixBlock_l2_L e0 a0 y50 x29 FUEL (0:Int) y70) (funext fun y70=>(f177_l2_exit4 FUEL K n a0 y50 x29 y70).trans (ih y50 (IntKind.wrap .i64 (x29+(1:Int))) y70)))) (rfl))

def f177_l0_p(k:Nat)(K:Ex→St→Q7)(n:Nat)(a0:(List Int))(a1:(List Int))(x14:Int)(y50:(List Int)):Q7:=loopK (f177_cx k) 0 (execK (f177_cx k) (callK (f177_cx k) 8) 0 177 (sub f177_c [1,1,0,1,0,0])) f177_l0_cut K n (f177_l0_s a0 a1 x14 y50)

theorem f177_l0_exit0(k:Nat)(a0:(List Int))(y50:(List Int)):((blkK 0 (seqK (execK (f177_cx k) (callK (f177_cx k) 8) 0 177 (sub f177_c [1,1,1])) (finK (f177_cx k) f177_i impl_MixBlock_sh))) (.exit 0) (f177_l0_o0 a0 y50):Q7)=
 ((loopK (f177_cx k) 0 (execK (f177_cx k) (callK (f177_cx k) 8) 0 177 (sub f177_c [1,1,1,1,0,1,0,0])) f177_l1_cut (blkK 2 (seqK (execK (f177_cx k) (callK (f177_cx k) 8) 0 177 (sub f177_c [1,1,1,1,1])) (finK (f177_cx k) f177_i impl_MixBlock_sh))) k (f177_l1_s a0 y50 (0:Int) a0)):Q7):=by kernel_rfl

theorem f177_l0_round(k:Nat)(K:Ex→St→Q7)(n:Nat)(a0:(List Int))(a1:(List Int))(x14:Int)(y50:(List Int)):(f177_l0_p k K (n+1) a0 a1 x14 y50:Q7)=impl_MixBlock_l0_b ((fun x14 y50=>f177_l0_p k K n a0 a1 x14 y50)) (fun y50=>K (.exit 0) (f177_l0_o0 a0 y50)) a0 a1 x14 y50:=by kernel_rfl

theorem f177_l0_L_eq(K:Ex→St→Q7)(a0:(List Int))(a1:(List Int)):∀(n:Nat) (x14:Int) (y50:(List Int)),(f177_l0_p FUEL K n a0 a1 x14 y50:Q7)=impl_MixBlock_l0_L (fun y50=>K (.exit 0) (f177_l0_o0 a0 y50)) a0 a1 n x14 y50:=by
 intro n
 induction n with
 |zero=>intros; rfl
 |succ n ih=>
  intro x14 y50
  exact(f177_l0_round FUEL K n a0 a1 x14 y50).trans (congrArg (fun f=>impl_MixBlock_l0_b f (fun y50=>K (.exit 0) (f177_l0_o0 a0 y50)) a0 a1 x14 y50) (funext fun x14=>funext fun y50=>ih x14 y50))

theorem f177_start(k:Nat)(a0:(List Int))(a1:(List Int)):fnK (f177_cx k) 8 177 f177_i impl_MixBlock_sh [.pv (.arr 8 (.int .u32)) a0,.pv (.arr 32 (.int .u8)) a1]=
 ((loopK (f177_cx k) 0 (execK (f177_cx k) (callK (f177_cx k) 8) 0 177 (sub f177_c [1,1,0,1,0,0])) f177_l0_cut (blkK 0 (seqK (execK (f177_cx k) (callK (f177_cx k) 8) 0 177 (sub f177_c [1,1,1])) (finK (f177_cx k) f177_i impl_MixBlock_sh))) k (f177_l0_s a0 a1 (0:Int) (List.replicate 8 (0:Int)))):Q7):=by kernel_rfl

theorem f177_run(a0:(List Int))(a1:(List Int)):fnK (f177_cx FUEL) 8 177 f177_i impl_MixBlock_sh [.pv (.arr 8 (.int .u32)) a0,.pv (.arr 32 (.int .u8)) a1]=impl_MixBlock_r a0 a1:=
 (f177_start FUEL a0 a1).trans ((f177_l0_L_eq _ a0 a1 FUEL (0:Int) (List.replicate 8 (0:Int))).trans (congrArg (fun e0=>impl_MixBlock_l0_L e0 a0 a1 FUEL (0:Int) (List.replicate 8 (0:Int))) (funext fun y50=>(f177_l0_exit0 FUEL a0 y50).trans ((f177_l1_L_eq _ a0 FUEL y50 (0:Int) a0).trans (congrArg (fun e0=>impl_MixBlock_l1_L e0 a0 FUEL y50 (0:Int) a0) (funext fun y70=>(f177_l1_exit2 FUEL a0 y70).trans ((f177_l3_L_eq _ a0 FUEL y70 (0:Int)).trans (congrArg (fun e0=>impl_MixBlock_l3_L e0 a0 FUEL y70 (0:Int)) (funext fun y70=>(f177_l3_exit6 FUEL y70).trans (rfl))))))))))

def f177_con:Con:={ps:=(.pair (.arr 8 (.int .u32)) K13),sh:=impl_MixBlock_sh,raw:=fun x=>impl_MixBlock_r x.1 x.2.1}
theorem f177_conOk:ConOk Tryz.prog 177 f177_con:=con_of_fn (f177_tabs FUEL) (depth:=8) f177_ok fun x y h=>(f177_run x.1 x.2.1).trans h

def f153_l0_cut:Cut:={keep:=[2,4,7,8,9],stk:=[],ids:=[20,40],own:=[],outs:=[(1,[2,4],[20,40])]}
def f153_cx(k:Nat):Cx:=mkC [] [(177,f177_con)] [] [] [(153,[(0,f153_l0_cut)])] k [] false
theorem f153_tabs(k:Nat):TabsOk Tryz.prog (f153_cx k):=mkC_ok ⟨f177_conOk,trivial⟩ trivial trivial trivial
abbrev impl_mixed_sh:List Sh:=[.pl (.arr 8 (.int .u32))]
abbrev Q22:Type:=Option (shDen impl_mixed_sh)
def f153_l0_s(a1:T15)(x9:Int)(y20:(List Int)):St:={env:=(.dead:: .dead:: .ptr 20 (.arr 8 (.int .u32)) []:: .dead:: .ptr 40 (.arr 8 (.int .u32)) []:: .dead:: .dead:: .pv K16 a1:: .pv (.int .i64) (a1.length:Int):: .pv (.int .i64) x9::(dd 8 [])),stk:=[],heap:=[(20,.var (.arr 8 (.int .u32)) (.pv (.arr 8 (.int .u32)) y20)),(40,.var (.arr 8 (.int .u32)) (.pv (.arr 8 (.int .u32)) (List.replicate 8 (0:Int))))]}
def f153_l0_o0(y20:(List Int)):St:={env:=(.dead:: .dead:: .ptr 20 (.arr 8 (.int .u32)) []:: .dead:: .ptr 40 (.arr 8 (.int .u32)) []::(dd 13 [])),stk:=[],heap:=[(20,.var (.arr 8 (.int .u32)) (.pv (.arr 8 (.int .u32)) y20)),(40,.var (.arr 8 (.int .u32)) (.pv (.arr 8 (.int .u32)) (List.replicate 8 (0:Int))))]}
def impl_mixed_l0_b(rec:Int→(List Int)→Q22)(ke0:(List Int)→Q22)(a1:T15)(x9:Int)(y20:(List Int)):Q22:=
 (cond (decide (x9<(a1.length:Int)))
 (cond ((decide ((0:Int)≤x9))&&(decide (x9<(a1.length:Int))))
 (bindO (impl_MixBlock_r y20 (a1.getD (x9.toNat) (List.replicate 32 (0:Int)))) fun(b2:(List Int))=>(rec (IntKind.wrap .i64 (x9+(1:Int))) b2))
 none)
 (ke0 y20))
def impl_mixed_l0_L(ke0:(List Int)→Q22)(a1:T15):Nat→Int→(List Int)→Q22
 |0=>fun _ _=>none
 |n+1=>impl_mixed_l0_b (impl_mixed_l0_L ke0 a1 n) ke0 a1
def impl_mixed_r(a0:(List Int))(a1:T15):Q22:=
 (impl_mixed_l0_L (fun y20=>(some y20)) a1 FUEL (0:Int) a0)
def f153_l0_p(k:Nat)(K:Ex→St→Q22)(n:Nat)(a1:T15)(x9:Int)(y20:(List Int)):Q22:=loopK (f153_cx k) 0 (execK (f153_cx k) (callK (f153_cx k) 8) 0 153 (sub f153_c [1,0,1,0,0])) f153_l0_cut K n (f153_l0_s a1 x9 y20)

theorem f153_l0_exit0(k:Nat)(y20:(List Int)):((blkK 0 (seqK (execK (f153_cx k) (callK (f153_cx k) 8) 0 153 (sub f153_c [1,1])) (finK (f153_cx k) f153_i impl_mixed_sh))) (.exit 0) (f153_l0_o0 y20):Q22)=
 ((some y20):Q22):=by kernel_rfl

theorem f153_l0_round(k:Nat)(K:Ex→St→Q22)(n:Nat)(a1:T15)(x9:Int)(y20:(List Int)):(f153_l0_p k K (n+1) a1 x9 y20:Q22)=impl_mixed_l0_b ((fun x9 y20=>f153_l0_p k K n a1 x9 y20)) (fun y20=>K (.exit 0) (f153_l0_o0 y20)) a1 x9 y20:=by kernel_rfl

theorem f153_l0_L_eq(K:Ex→St→Q22)(a1:T15):∀(n:Nat) (x9:Int) (y20:(List Int)),(f153_l0_p FUEL K n a1 x9 y20:Q22)=impl_mixed_l0_L (fun y20=>K (.exit 0) (f153_l0_o0 y20)) a1 n x9 y20:=by
 intro n
 induction n with
 |zero=>intros; rfl
 |succ n ih=>
  intro x9 y20
  exact(f153_l0_round FUEL K n a1 x9 y20).trans (congrArg (fun f=>impl_mixed_l0_b f (fun y20=>K (.exit 0) (f153_l0_o0 y20)) a1 x9 y20) (funext fun x9=>funext fun y20=>ih x9 y20))

theorem f153_start(k:Nat)(a0:(List Int))(a1:T15):fnK (f153_cx k) 8 153 f153_i impl_mixed_sh [.pv (.arr 8 (.int .u32)) a0,.pv K16 a1]=
 ((loopK (f153_cx k) 0 (execK (f153_cx k) (callK (f153_cx k) 8) 0 153 (sub f153_c [1,0,1,0,0])) f153_l0_cut (blkK 0 (seqK (execK (f153_cx k) (callK (f153_cx k) 8) 0 153 (sub f153_c [1,1])) (finK (f153_cx k) f153_i impl_mixed_sh))) k (f153_l0_s a1 (0:Int) a0)):Q22):=by kernel_rfl

theorem f153_run(a0:(List Int))(a1:T15):fnK (f153_cx FUEL) 8 153 f153_i impl_mixed_sh [.pv (.arr 8 (.int .u32)) a0,.pv K16 a1]=impl_mixed_r a0 a1:=
 (f153_start FUEL a0 a1).trans ((f153_l0_L_eq _ a1 FUEL (0:Int) a0).trans (congrArg (fun e0=>impl_mixed_l0_L e0 a1 FUEL (0:Int) a0) (funext fun y20=>(f153_l0_exit0 FUEL y20).trans (rfl))))

def f153_con:Con:={ps:=(.pair (.arr 8 (.int .u32)) K12),sh:=impl_mixed_sh,raw:=fun x=>impl_mixed_r x.1 x.2.1}
theorem f153_conOk:ConOk Tryz.prog 153 f153_con:=con_of_fn (f153_tabs FUEL) (depth:=8) f153_ok fun x y h=>(f153_run x.1 x.2.1).trans h

def f152_l0_cut:Cut:={keep:=[2,3,7,8],stk:=[],ids:=[20,30],own:=[],outs:=[(1,[2,3],[20,30])]}
def f152_cx(k:Nat):Cx:=mkC [] [] [(176,f176_tak)] [] [(152,[(0,f152_l0_cut)])] k [] false
theorem f152_tabs(k:Nat):TabsOk Tryz.prog (f152_cx k):=mkC_ok trivial ⟨f176_takOk,trivial⟩ trivial trivial
abbrev impl_keyOf_sh:List Sh:=[.pl (.arr 32 (.int .u8))]
abbrev Q19:Type:=Option (shDen impl_keyOf_sh)
def f152_l0_s(a0:(List Int))(x8:Int)(y30:(List Int)):St:={env:=(.dead:: .dead:: .ptr 20 (.arr 32 (.int .u8)) []:: .ptr 30 (.arr 32 (.int .u8)) []::(dd 3 (.pv (.arr 8 (.int .u32)) a0:: .pv (.int .i64) x8::(dd 12 [])))),stk:=[],heap:=[(20,.var (.arr 32 (.int .u8)) (.pv (.arr 32 (.int .u8)) (List.replicate 32 (0:Int)))),(30,.var (.arr 32 (.int .u8)) (.pv (.arr 32 (.int .u8)) y30))]}
def f152_l0_o0(y30:(List Int)):St:={env:=(.dead:: .dead:: .ptr 20 (.arr 32 (.int .u8)) []:: .ptr 30 (.arr 32 (.int .u8)) []::(dd 17 [])),stk:=[],heap:=[(20,.var (.arr 32 (.int .u8)) (.pv (.arr 32 (.int .u8)) (List.replicate 32 (0:Int)))),(30,.var (.arr 32 (.int .u8)) (.pv (.arr 32 (.int .u8)) y30))]}
def impl_keyOf_l0_b(rec:Int→(List Int)→Q19)(ke0:(List Int)→Q19)(a0:(List Int))(x8:Int)(y30:(List Int)):Q19:=
 (cond (decide (x8<(8:Int)))
 (cond ((decide ((0:Int)≤x8))&&(decide (x8<(8:Int))))
 (cond ((decide ((0:Int)≤(IntKind.wrap .i64 ((4:Int)*x8))))&&(decide ((IntKind.wrap .i64 ((4:Int)*x8))≤(32:Int))))
 (bindO (impl_appendLittle_r [] (IntKind.wrap .u64 (a0.getD (x8.toNat) (0:Int))) (4:Int)) fun(b2:(List Int))=>(rec (IntKind.wrap .i64 (x8+(1:Int))) (splL y30 ((IntKind.wrap .i64 ((4:Int)*x8)).toNat) (List.take (32-((IntKind.wrap .i64 ((4:Int)*x8)).toNat)) b2))))
 none)
 none)
 (ke0 y30))
def impl_keyOf_l0_L(ke0:(List Int)→Q19)(a0:(List Int)):Nat→Int→(List Int)→Q19
 |0=>fun _ _=>none
 |n+1=>impl_keyOf_l0_b (impl_keyOf_l0_L ke0 a0 n) ke0 a0
def impl_keyOf_r(a0:(List Int)):Q19:=
 (impl_keyOf_l0_L (fun y30=>(some y30)) a0 FUEL (0:Int) (List.replicate 32 (0:Int)))
def f152_l0_p(k:Nat)(K:Ex→St→Q19)(n:Nat)(a0:(List Int))(x8:Int)(y30:(List Int)):Q19:=loopK (f152_cx k) 0 (execK (f152_cx k) (callK (f152_cx k) 8) 0 152 (sub f152_c [1,1,0,1,0,0])) f152_l0_cut K n (f152_l0_s a0 x8 y30)

theorem f152_l0_exit0(k:Nat)(y30:(List Int)):((blkK 0 (seqK (execK (f152_cx k) (callK (f152_cx k) 8) 0 152 (sub f152_c [1,1,1])) (finK (f152_cx k) f152_i impl_keyOf_sh))) (.exit 0) (f152_l0_o0 y30):Q19)=
 ((some y30):Q19):=by kernel_rfl

theorem f152_l0_round(k:Nat)(K:Ex→St→Q19)(n:Nat)(a0:(List Int))(x8:Int)(y30:(List Int)):(f152_l0_p k K (n+1) a0 x8 y30:Q19)=impl_keyOf_l0_b ((fun x8 y30=>f152_l0_p k K n a0 x8 y30)) (fun y30=>K (.exit 0) (f152_l0_o0 y30)) a0 x8 y30:=by kernel_rfl

theorem f152_l0_L_eq(K:Ex→St→Q19)(a0:(List Int)):∀(n:Nat) (x8:Int) (y30:(List Int)),(f152_l0_p FUEL K n a0 x8 y30:Q19)=impl_keyOf_l0_L (fun y30=>K (.exit 0) (f152_l0_o0 y30)) a0 n x8 y30:=by
 intro n
 induction n with
 |zero=>intros; rfl
 |succ n ih=>
  intro x8 y30
  exact(f152_l0_round FUEL K n a0 x8 y30).trans (congrArg (fun f=>impl_keyOf_l0_b f (fun y30=>K (.exit 0) (f152_l0_o0 y30)) a0 x8 y30) (funext fun x8=>funext fun y30=>ih x8 y30))

theorem f152_start(k:Nat)(a0:(List Int)):fnK (f152_cx k) 8 152 f152_i impl_keyOf_sh [.pv (.arr 8 (.int .u32)) a0]=
 ((loopK (f152_cx k) 0 (execK (f152_cx k) (callK (f152_cx k) 8) 0 152 (sub f152_c [1,1,0,1,0,0])) f152_l0_cut (blkK 0 (seqK (execK (f152_cx k) (callK (f152_cx k) 8) 0 152 (sub f152_c [1,1,1])) (finK (f152_cx k) f152_i impl_keyOf_sh))) k (f152_l0_s a0 (0:Int) (List.replicate 32 (0:Int)))):Q19):=by kernel_rfl

theorem f152_run(a0:(List Int)):fnK (f152_cx FUEL) 8 152 f152_i impl_keyOf_sh [.pv (.arr 8 (.int .u32)) a0]=impl_keyOf_r a0:=
 (f152_start FUEL a0).trans ((f152_l0_L_eq _ a0 FUEL (0:Int) (List.replicate 32 (0:Int))).trans (congrArg (fun e0=>impl_keyOf_l0_L e0 a0 FUEL (0:Int) (List.replicate 32 (0:Int))) (funext fun y30=>(f152_l0_exit0 FUEL y30).trans (rfl))))

def f152_con:Con:={ps:=(.pair (.arr 8 (.int .u32)) .unit),sh:=impl_keyOf_sh,raw:=fun x=>impl_keyOf_r x.1}
theorem f152_conOk:ConOk Tryz.prog 152 f152_con:=con_of_fn (f152_tabs FUEL) (depth:=8) f152_ok fun x y h=>(f152_run x.1).trans h

def f108_cx(k:Nat):Cx:=mkC [] [(148,f148_con),(149,f149_con),(150,f150_con),(151,f151_con),(152,f152_con),(153,f153_con),(154,f154_con)] [] [] [] k [] false
theorem f108_tabs(k:Nat):TabsOk Tryz.prog (f108_cx k):=mkC_ok ⟨f148_conOk,f149_conOk,f150_conOk,f151_conOk,f152_conOk,f153_conOk,f154_conOk,trivial⟩ trivial trivial trivial
abbrev impl_hash_sh:List Sh:=[.pl (.arr 32 (.int .u8))]
abbrev Q17:Type:=Option (shDen impl_hash_sh)
def impl_hash_r(a0:Int)(a1:(List Int)):Q17:=
 (bindO (impl_size_byte_r a1) fun(b1:Int)=>(bindO (impl_padding_r b1) fun(b2:(List Int))=>(bindO (slices_Concat_byte_byte_r [a1,b2]) fun(b3:(List Int))=>(bindO (impl_blocks_r b3) fun(b4:(T15×(List Int)))=>(bindO (impl_StartState_r a0) fun(b5:(List Int))=>(bindO (impl_mixed_r b5 b4.1) fun(b6:(List Int))=>(bindO (impl_keyOf_r b6) fun(b7:(List Int))=>(some b7))))))))
theorem f108_run(a0:Int)(a1:(List Int)):fnK (f108_cx FUEL) 8 108 f108_i impl_hash_sh [.pv (.int .u8) a0,.pv K20 a1]=impl_hash_r a0 a1:=by kernel_rfl

def f108_con:Con:={ps:=K10,sh:=impl_hash_sh,raw:=fun x=>impl_hash_r x.1 x.2.1}
theorem f108_conOk:ConOk Tryz.prog 108 f108_con:=con_of_fn (f108_tabs FUEL) (depth:=8) f108_ok fun x y h=>(f108_run x.1 x.2.1).trans h

def f143_cx(k:Nat):Cx:=mkC [] [(108,f108_con)] [] [] [] k [] false
theorem f143_tabs(k:Nat):TabsOk Tryz.prog (f143_cx k):=mkC_ok ⟨f108_conOk,trivial⟩ trivial trivial trivial
abbrev impl_Blob_key_sh:List Sh:=[.pl (.arr 32 (.int .u8))]
abbrev Q3:Type:=Option (shDen impl_Blob_key_sh)
def impl_Blob_key_r(a0:T10):Q3:=
 (bindO (impl_hash_r a0.1 a0.2.1) fun(b1:(List Int))=>(some b1))
theorem f143_run(a0:T10):fnK (f143_cx FUEL) 8 143 f143_i impl_Blob_key_sh [.pv K10 a0]=impl_Blob_key_r a0:=by kernel_rfl

def f143_con:Con:={ps:=K7,sh:=impl_Blob_key_sh,raw:=fun x=>impl_Blob_key_r x.1}
theorem f143_conOk:ConOk Tryz.prog 143 f143_con:=con_of_fn (f143_tabs FUEL) (depth:=8) f143_ok fun x y h=>(f143_run x.1).trans h

def f98_l0_cut:Cut:={keep:=[3,8,9,10],stk:=[],ids:=[90030],own:=[(3,90030,28)],outs:=[(1,[3],[90030])]}
def f98_cx(k:Nat):Cx:=mkC [] [(143,f143_con)] [] [] [(98,[(0,f98_l0_cut)])] k [] false
theorem f98_tabs(k:Nat):TabsOk Tryz.prog (f98_cx k):=mkC_ok ⟨f143_conOk,trivial⟩ trivial trivial trivial
abbrev impl_Store_keys_sh:List Sh:=[.own 35 (.arr 32 (.int .u8))]
abbrev Q10:Type:=Option (shDen impl_Store_keys_sh)
def f98_l0_s(a0:T4)(x10:Int)(z90030:T15):St:={env:=(dd 3 (.sl 90030 (.arr 32 (.int .u8))::(dd 4 (.pv K8 a0.1:: .pv (.int .i64) (a0.1.length:Int):: .pv (.int .i64) x10::(dd 10 []))))),stk:=[],heap:=[(90030,.arr 35 (.arr 32 (.int .u8)) z90030)]}
def f98_l0_o0(z90030:T15):St:={env:=(dd 3 (.sl 90030 (.arr 32 (.int .u8))::(dd 17 []))),stk:=[],heap:=[(90030,.arr 35 (.arr 32 (.int .u8)) z90030)]}
def impl_Store_keys_l0_b(rec:Int→T15→Q10)(ke0:T15→Q10)(a0:T4)(x10:Int)(z90030:T15):Q10:=
 (cond (decide (x10<(a0.1.length:Int)))
 (cond ((decide ((0:Int)≤x10))&&(decide (x10<(a0.1.length:Int))))
 (bindO (impl_Blob_key_r (a0.1.getD (x10.toNat) ((0:Int),([],())))) fun(b2:(List Int))=>(cond (decide ((z90030.length+1)*32≤140737488355328)&&decide (z90030.length+1≤9223372036854775807))
 (rec (IntKind.wrap .i64 (x10+(1:Int))) (z90030++[b2]))
 none))
 none)
 (ke0 z90030))
def impl_Store_keys_l0_L(ke0:T15→Q10)(a0:T4):Nat→Int→T15→Q10
 |0=>fun _ _=>none
 |n+1=>impl_Store_keys_l0_b (impl_Store_keys_l0_L ke0 a0 n) ke0 a0
def impl_Store_keys_r(a0:T4):Q10:=
 (impl_Store_keys_l0_L (fun z90030=>(some z90030)) a0 FUEL (0:Int) [])
def f98_l0_p(k:Nat)(K:Ex→St→Q10)(n:Nat)(a0:T4)(x10:Int)(z90030:T15):Q10:=loopK (f98_cx k) 0 (execK (f98_cx k) (callK (f98_cx k) 8) 0 98 (sub f98_c [1,1,0,1,0,0])) f98_l0_cut K n (f98_l0_s a0 x10 z90030)

theorem f98_l0_exit0(k:Nat)(z90030:T15):((blkK 0 (seqK (execK (f98_cx k) (callK (f98_cx k) 8) 0 98 (sub f98_c [1,1,1])) (finK (f98_cx k) f98_i impl_Store_keys_sh))) (.exit 0) (f98_l0_o0 z90030):Q10)=
 ((some z90030):Q10):=by kernel_rfl

theorem f98_l0_round(k:Nat)(K:Ex→St→Q10)(n:Nat)(a0:T4)(x10:Int)(z90030:T15):(f98_l0_p k K (n+1) a0 x10 z90030:Q10)=impl_Store_keys_l0_b ((fun x10 z90030=>f98_l0_p k K n a0 x10 z90030)) (fun z90030=>K (.exit 0) (f98_l0_o0 z90030)) a0 x10 z90030:=by kernel_rfl

theorem f98_l0_L_eq(K:Ex→St→Q10)(a0:T4):∀(n:Nat) (x10:Int) (z90030:T15),(f98_l0_p FUEL K n a0 x10 z90030:Q10)=impl_Store_keys_l0_L (fun z90030=>K (.exit 0) (f98_l0_o0 z90030)) a0 n x10 z90030:=by
 intro n
 induction n with
 |zero=>intros; rfl
 |succ n ih=>
  intro x10 z90030
  exact(f98_l0_round FUEL K n a0 x10 z90030).trans (congrArg (fun f=>impl_Store_keys_l0_b f (fun z90030=>K (.exit 0) (f98_l0_o0 z90030)) a0 x10 z90030) (funext fun x10=>funext fun z90030=>ih x10 z90030))

theorem f98_start(k:Nat)(a0:T4):fnK (f98_cx k) 8 98 f98_i impl_Store_keys_sh [.pv K5 a0]=
 ((loopK (f98_cx k) 0 (execK (f98_cx k) (callK (f98_cx k) 8) 0 98 (sub f98_c [1,1,0,1,0,0])) f98_l0_cut (blkK 0 (seqK (execK (f98_cx k) (callK (f98_cx k) 8) 0 98 (sub f98_c [1,1,1])) (finK (f98_cx k) f98_i impl_Store_keys_sh))) k (f98_l0_s a0 (0:Int) [])):Q10):=by kernel_rfl

theorem f98_run(a0:T4):fnK (f98_cx FUEL) 8 98 f98_i impl_Store_keys_sh [.pv K5 a0]=impl_Store_keys_r a0:=
 (f98_start FUEL a0).trans ((f98_l0_L_eq _ a0 FUEL (0:Int) []).trans (congrArg (fun e0=>impl_Store_keys_l0_L e0 a0 FUEL (0:Int) []) (funext fun z90030=>(f98_l0_exit0 FUEL z90030).trans (rfl))))

def f98_con:Con:={ps:=K3,sh:=impl_Store_keys_sh,raw:=fun x=>impl_Store_keys_r x.1}
theorem f98_conOk:ConOk Tryz.prog 98 f98_con:=con_of_fn (f98_tabs FUEL) (depth:=8) f98_ok fun x y h=>(f98_run x.1).trans h

def f157_cx(k:Nat):Cx:=mkC [] [] [] [] [] k [] false
theorem f157_tabs(k:Nat):TabsOk Tryz.prog (f157_cx k):=mkC_ok trivial trivial trivial trivial
abbrev slices_Clone_impl_Key_impl_Key_sh:List Sh:=[.own 35 (.arr 32 (.int .u8))]
abbrev Q57:Type:=Option (shDen slices_Clone_impl_Key_impl_Key_sh)
def slices_Clone_impl_Key_impl_Key_r(a0:T15):Q57:=
 (cond (List.isEmpty a0) (bothO (some []) (cond (decide ((0+a0.length)*32≤140737488355328)&&decide (0+a0.length≤9223372036854775807))
 (some ([]++a0))
 none)) (cond (decide ((0+a0.length)*32≤140737488355328)&&decide (0+a0.length≤9223372036854775807))
 (some ([]++a0))
 none))
theorem f157_run(a0:T15):fnK (f157_cx FUEL) 8 157 f157_i slices_Clone_impl_Key_impl_Key_sh [.pv K16 a0]=slices_Clone_impl_Key_impl_Key_r a0:=by kernel_rfl

def f157_con:Con:={ps:=K12,sh:=slices_Clone_impl_Key_impl_Key_sh,raw:=fun x=>slices_Clone_impl_Key_impl_Key_r x.1}
theorem f157_conOk:ConOk Tryz.prog 157 f157_con:=con_of_fn (f157_tabs FUEL) (depth:=8) f157_ok fun x y h=>(f157_run x.1).trans h

def f204_cx(k:Nat):Cx:=mkC [] [] [] [] [] k [] false
theorem f204_tabs(k:Nat):TabsOk Tryz.prog (f204_cx k):=mkC_ok trivial trivial trivial trivial
abbrev cmp_isNaN_byte_sh:List Sh:=[.pl .bool]
abbrev Q1:Type:=Option (shDen cmp_isNaN_byte_sh)
def cmp_isNaN_byte_r(a0:Int):Q1:=
 (some (!(decide (a0=a0))))
theorem f204_run(a0:Int):fnK (f204_cx FUEL) 8 204 f204_i cmp_isNaN_byte_sh [.pv (.int .u8) a0]=cmp_isNaN_byte_r a0:=by kernel_rfl

def f204_con:Con:={ps:=K19,sh:=cmp_isNaN_byte_sh,raw:=fun x=>cmp_isNaN_byte_r x.1}
theorem f204_conOk:ConOk Tryz.prog 204 f204_con:=con_of_fn (f204_tabs FUEL) (depth:=8) f204_ok fun x y h=>(f204_run x.1).trans h

def f189_cx(k:Nat):Cx:=mkC [] [(204,f204_con)] [] [] [] k [] false
theorem f189_tabs(k:Nat):TabsOk Tryz.prog (f189_cx k):=mkC_ok ⟨f204_conOk,trivial⟩ trivial trivial trivial
abbrev cmp_Compare_byte_sh:List Sh:=[.pl (.int .i64)]
abbrev Q0:Type:=Option (shDen cmp_Compare_byte_sh)
def cmp_Compare_byte_r(a0:Int)(a1:Int):Q0:=
 (bindO (cmp_isNaN_byte_r a0) fun(b1:Bool)=>(bindO (cmp_isNaN_byte_r a1) fun(b2:Bool)=>(cond b1
 (cond b2
 (some (0:Int))
 (some (-1:Int)))
 (cond b2
 (some (1:Int))
 (cond (decide (a0<a1))
 (some (-1:Int))
 (cond (decide (a1<a0))
 (some (1:Int))
 (some (0:Int))))))))
theorem f189_run(a0:Int)(a1:Int):fnK (f189_cx FUEL) 8 189 f189_i cmp_Compare_byte_sh [.pv (.int .u8) a0,.pv (.int .u8) a1]=cmp_Compare_byte_r a0 a1:=by kernel_rfl

def f189_con:Con:={ps:=(.pair (.int .u8) K19),sh:=cmp_Compare_byte_sh,raw:=fun x=>cmp_Compare_byte_r x.1 x.2.1}
theorem f189_conOk:ConOk Tryz.prog 189 f189_con:=con_of_fn (f189_tabs FUEL) (depth:=8) f189_ok fun x y h=>(f189_run x.1 x.2.1).trans h

def f171_l0_cut:Cut:={keep:=[0,1,9,10,11],stk:=[],ids:=[],own:=[],outs:=[(0,[4],[]),(1,[0,1],[])]}
def f171_cx(k:Nat):Cx:=mkC [] [(189,f189_con)] [] [] [(171,[(0,f171_l0_cut)])] k [] false
theorem f171_tabs(k:Nat):TabsOk Tryz.prog (f171_cx k):=mkC_ok ⟨f189_conOk,trivial⟩ trivial trivial trivial
abbrev slices_Compare_byte_byte_sh:List Sh:=[.pl (.int .i64)]
abbrev Q58:Type:=Option (shDen slices_Compare_byte_byte_sh)
def f171_l0_s(a0:(List Int))(a1:(List Int))(x11:Int):St:={env:=(.pv K20 a0:: .pv K20 a1::(dd 7 (.pv K20 a0:: .pv (.int .i64) (a0.length:Int):: .pv (.int .i64) x11::(dd 24 [])))),stk:=[],heap:=[]}
def f171_l0_o(x4:Int):St:={env:=(dd 4 (.pv (.int .i64) x4::(dd 31 []))),stk:=[],heap:=[]}
def f171_l0_o0(a0:(List Int))(a1:(List Int)):St:={env:=(.pv K20 a0:: .pv K20 a1::(dd 34 [])),stk:=[],heap:=[]}
def slices_Compare_byte_byte_l0_b(rec:Int→Q58)(kr:Int→Q58)(ke0:Q58)(a0:(List Int))(a1:(List Int))(x11:Int):Q58:=
 (cond (decide (x11<(a0.length:Int)))
 (cond ((decide ((0:Int)≤x11))&&(decide (x11<(a0.length:Int))))
 (cond (decide ((a1.length:Int)≤x11))
 (kr (1:Int))
 (cond ((decide ((0:Int)≤x11))&&(decide (x11<(a1.length:Int))))
 (bindO (cmp_Compare_byte_r (a0.getD (x11.toNat) (0:Int)) (a1.getD (x11.toNat) (0:Int))) fun(b2:Int)=>(cond (!(decide (b2=(0:Int))))
 (kr b2)
 (rec (IntKind.wrap .i64 (x11+(1:Int))))))
 none))
 none)
 (ke0))
def slices_Compare_byte_byte_l0_L(kr:Int→Q58)(ke0:Q58)(a0:(List Int))(a1:(List Int)):Nat→Int→Q58
 |0=>fun _=>none
 |n+1=>slices_Compare_byte_byte_l0_b (slices_Compare_byte_byte_l0_L kr ke0 a0 a1 n) kr ke0 a0 a1
def slices_Compare_byte_byte_r(a0:(List Int))(a1:(List Int)):Q58:=
 (slices_Compare_byte_byte_l0_L (fun x4=>(some x4)) (cond (decide ((a0.length:Int)<(a1.length:Int)))
 (some (-1:Int))
 (some (0:Int))) a0 a1 FUEL (0:Int))
def f171_l0_p(k:Nat)(K:Ex→St→Q58)(n:Nat)(a0:(List Int))(a1:(List Int))(x11:Int):Q58:=loopK (f171_cx k) 0 (execK (f171_cx k) (callK (f171_cx k) 8) 0 171 (sub f171_c [1,0,1,0,0])) f171_l0_cut K n (f171_l0_s a0 a1 x11)

theorem f171_l0_ret(k:Nat)(x4:Int):((blkK 0 (seqK (execK (f171_cx k) (callK (f171_cx k) 8) 0 171 (sub f171_c [1,1])) (finK (f171_cx k) f171_i slices_Compare_byte_byte_sh))) .ret (f171_l0_o x4):Q58)=
 ((some x4):Q58):=by kernel_rfl

theorem f171_l0_exit0(k:Nat)(a0:(List Int))(a1:(List Int)):((blkK 0 (seqK (execK (f171_cx k) (callK (f171_cx k) 8) 0 171 (sub f171_c [1,1])) (finK (f171_cx k) f171_i slices_Compare_byte_byte_sh))) (.exit 0) (f171_l0_o0 a0 a1):Q58)=
 ((cond (decide ((a0.length:Int)<(a1.length:Int)))
 (some (-1:Int))
 (some (0:Int))):Q58):=by kernel_rfl

theorem f171_l0_round(k:Nat)(K:Ex→St→Q58)(n:Nat)(a0:(List Int))(a1:(List Int))(x11:Int):(f171_l0_p k K (n+1) a0 a1 x11:Q58)=slices_Compare_byte_byte_l0_b ((fun x11=>f171_l0_p k K n a0 a1 x11)) (fun x4=>K .ret (f171_l0_o x4)) (K (.exit 0) (f171_l0_o0 a0 a1)) a0 a1 x11:=by kernel_rfl

theorem f171_l0_L_eq(K:Ex→St→Q58)(a0:(List Int))(a1:(List Int)):∀(n:Nat) (x11:Int),(f171_l0_p FUEL K n a0 a1 x11:Q58)=slices_Compare_byte_byte_l0_L (fun x4=>K .ret (f171_l0_o x4)) (K (.exit 0) (f171_l0_o0 a0 a1)) a0 a1 n x11:=by
 intro n
 induction n with
 |zero=>intros; rfl
 |succ n ih=>
  intro x11
  exact(f171_l0_round FUEL K n a0 a1 x11).trans (congrArg (fun f=>slices_Compare_byte_byte_l0_b f (fun x4=>K .ret (f171_l0_o x4)) (K (.exit 0) (f171_l0_o0 a0 a1)) a0 a1 x11) (funext fun x11=>ih x11))

theorem f171_start(k:Nat)(a0:(List Int))(a1:(List Int)):fnK (f171_cx k) 8 171 f171_i slices_Compare_byte_byte_sh [.pv K20 a0,.pv K20 a1]=
 ((loopK (f171_cx k) 0 (execK (f171_cx k) (callK (f171_cx k) 8) 0 171 (sub f171_c [1,0,1,0,0])) f171_l0_cut (blkK 0 (seqK (execK (f171_cx k) (callK (f171_cx k) 8) 0 171 (sub f171_c [1,1])) (finK (f171_cx k) f171_i slices_Compare_byte_byte_sh))) k (f171_l0_s a0 a1 (0:Int))):Q58):=by kernel_rfl

theorem f171_run(a0:(List Int))(a1:(List Int)):fnK (f171_cx FUEL) 8 171 f171_i slices_Compare_byte_byte_sh [.pv K20 a0,.pv K20 a1]=slices_Compare_byte_byte_r a0 a1:=
 (f171_start FUEL a0 a1).trans ((f171_l0_L_eq _ a0 a1 FUEL (0:Int)).trans (cong2 (fun e0 e1=>slices_Compare_byte_byte_l0_L e0 e1 a0 a1 FUEL (0:Int)) (funext fun x4=>(f171_l0_ret FUEL x4).trans (rfl)) ((f171_l0_exit0 FUEL a0 a1).trans (rfl))))

def f171_con:Con:={ps:=(.pair K20 K14),sh:=slices_Compare_byte_byte_sh,raw:=fun x=>slices_Compare_byte_byte_r x.1 x.2.1}
theorem f171_conOk:ConOk Tryz.prog 171 f171_con:=con_of_fn (f171_tabs FUEL) (depth:=8) f171_ok fun x y h=>(f171_run x.1 x.2.1).trans h

def f142_cx(k:Nat):Cx:=mkC [] [(171,f171_con)] [] [] [] k [] false
theorem f142_tabs(k:Nat):TabsOk Tryz.prog (f142_cx k):=mkC_ok ⟨f171_conOk,trivial⟩ trivial trivial trivial
abbrev impl_compareKeys_sh:List Sh:=[.pl (.int .i64)]
abbrev Q16:Type:=Option (shDen impl_compareKeys_sh)
def impl_compareKeys_r(a0:(List Int))(a1:(List Int)):Q16:=
 (bindO (slices_Compare_byte_byte_r (cutL a0 0 32) (cutL a1 0 32)) fun(b1:Int)=>(some b1))
theorem f142_run(a0:(List Int))(a1:(List Int)):fnK (f142_cx FUEL) 8 142 f142_i impl_compareKeys_sh [.pv (.arr 32 (.int .u8)) a0,.pv (.arr 32 (.int .u8)) a1]=impl_compareKeys_r a0 a1:=by kernel_rfl

def f142_con:Con:={ps:=(.pair (.arr 32 (.int .u8)) K13),sh:=impl_compareKeys_sh,raw:=fun x=>impl_compareKeys_r x.1 x.2.1}
theorem f142_conOk:ConOk Tryz.prog 142 f142_con:=con_of_fn (f142_tabs FUEL) (depth:=8) f142_ok fun x y h=>(f142_run x.1 x.2.1).trans h

def slices_SortFunc_impl_Key_impl_Key_r(a0:List (List Int))(a1:Unit):Option (List (List Int)×Unit):=sortFR 32 .u8 (fun x y=>impl_compareKeys_r x y) a0
def f158_inp:ConI:=sortFC 35 142 32 .u8 (fun x y=>impl_compareKeys_r x y)
theorem f158_inpOk:InpOk Tryz.prog 158 f158_inp:=sortF_inp Tryz.laysSortF158 (by decide) rfl ((tab_mk tabs_ok maps_ok (fun _=>none) (fun _=>none) (fun _=>none) (fun _=>none) (fun _ _=>none) 0 [] false).c.ty 35 _ rfl) f142_ok f142_conOk rfl rfl f158_ok

def f159_l0_cut:Cut:={keep:=[0,3],stk:=[],ids:=[8],own:=[],outs:=[(1,[0],[8]),(0,[2],[8])]}
def f159_l1_cut:Cut:={keep:=[0,3,4,5],stk:=[],ids:=[8],own:=[],outs:=[(3,[0,3],[8])]}
def f159_cx(k:Nat):Cx:=mkC [] [] [] [] [(159,[(0,f159_l0_cut),(2,f159_l1_cut)])] k [] false
theorem f159_tabs(k:Nat):TabsOk Tryz.prog (f159_cx k):=mkC_ok trivial trivial trivial trivial
def f159_l0_s(a0:T15)(x3:Int):St:={env:=(.sl 8 (.arr 32 (.int .u8)):: .dead:: .dead:: .pv (.int .i64) x3::(dd 57 [])),stk:=[],heap:=[(8,.arr 35 (.arr 32 (.int .u8)) a0)]}
def f159_l0_o0(a0:T15):St:={env:=(.sl 8 (.arr 32 (.int .u8))::(dd 60 [])),stk:=[],heap:=[(8,.arr 35 (.arr 32 (.int .u8)) a0)]}
def f159_l0_o(x2v:Nat)(z8:T15):St:={env:=(.dead:: .dead:: .vw 8 K16 [] (.arr 32 (.int .u8)) 0 x2v::(dd 58 [])),stk:=[],heap:=[(8,.arr 35 (.arr 32 (.int .u8)) z8)]}
def f159_l1_s(a0:T15)(x3:Int)(x5:Int)(z8:T15)(x4u:Nat):St:={env:=(.sl 8 (.arr 32 (.int .u8)):: .dead:: .dead:: .pv (.int .i64) x3:: .vw 8 K16 [] (.arr 32 (.int .u8)) x4u (a0.length):: .pv (.int .i64) x5::(dd 55 [])),stk:=[],heap:=[(8,.arr 35 (.arr 32 (.int .u8)) z8)]}
def f159_l1_o2(x3:Int)(z8:T15):St:={env:=(.sl 8 (.arr 32 (.int .u8)):: .dead:: .dead:: .pv (.int .i64) x3::(dd 57 [])),stk:=[],heap:=[(8,.arr 35 (.arr 32 (.int .u8)) z8)]}
def slices_Compact_impl_Key_impl_Key_l1_b(rec:Int→Int→T15→Nat→Option T15)(ke2:Int→T15→Option T15)(a0:T15)(x3:Int)(x5:Int)(z8:T15)(x4u:Nat):Option T15:=
 (cond (decide (x5<(((a0.length)-x4u:Nat):Int)))
 (cond ((decide ((0:Int)≤x5))&&(decide (x5<(((a0.length)-x4u:Nat):Int))))
 (cond ((decide ((0:Int)≤(IntKind.wrap .i64 (x5-(1:Int)))))&&(decide ((IntKind.wrap .i64 (x5-(1:Int)))<(((a0.length)-x4u:Nat):Int))))
 (cond (!(eqd (.arr 32 (.int .u8)) (z8.getD (x4u+(x5.toNat)) (List.replicate 32 (0:Int))) (z8.getD (x4u+((IntKind.wrap .i64 (x5-(1:Int))).toNat)) (List.replicate 32 (0:Int)))))
 (cond ((decide ((0:Int)≤x5))&&(decide (x5<(((a0.length)-x4u:Nat):Int))))
 (cond ((decide ((0:Int)≤x3))&&(decide (x3<(z8.length:Int))))
 (rec (IntKind.wrap .i64 (x3+(1:Int))) (IntKind.wrap .i64 (x5+(1:Int))) (z8.set (x3.toNat) (z8.getD (x4u+(x5.toNat)) (List.replicate 32 (0:Int)))) x4u)
 none)
 none)
 (rec x3 (IntKind.wrap .i64 (x5+(1:Int))) z8 x4u))
 none)
 none)
 (ke2 x3 z8))
def slices_Compact_impl_Key_impl_Key_l1_L(ke2:Int→T15→Option T15)(a0:T15):Nat→Int→Int→T15→Nat→Option T15
 |0=>fun _ _ _ _=>none
 |n+1=>slices_Compact_impl_Key_impl_Key_l1_b (slices_Compact_impl_Key_impl_Key_l1_L ke2 a0 n) ke2 a0
def slices_Compact_impl_Key_impl_Key_l0_b(rec:Int→Option T15)(ke0:Option T15)(kr:Nat→T15→Option T15)(a0:T15)(x3:Int):Option T15:=
 (cond (decide (x3<(a0.length:Int)))
 (cond ((decide ((0:Int)≤x3))&&(decide (x3<(a0.length:Int))))
 (cond ((decide ((0:Int)≤(IntKind.wrap .i64 (x3-(1:Int)))))&&(decide ((IntKind.wrap .i64 (x3-(1:Int)))<(a0.length:Int))))
 (cond (eqd (.arr 32 (.int .u8)) (a0.getD (x3.toNat) (List.replicate 32 (0:Int))) (a0.getD ((IntKind.wrap .i64 (x3-(1:Int))).toNat) (List.replicate 32 (0:Int))))
 (cond ((decide ((0:Int)≤x3))&&(decide (x3≤(a0.length:Int))))
 (slices_Compact_impl_Key_impl_Key_l1_L (fun x3 z8=>(cond ((decide ((0:Int)≤x3))&&(decide (x3≤(z8.length:Int))))
 (cond ((decide ((0:Int)≤x3))&&(decide (x3≤((splL z8 (x3.toNat) (List.take ((z8.length)-(x3.toNat)) (List.replicate ((z8.length)-(x3.toNat)) (List.replicate 32 (0:Int))))).length:Int))))
 (kr (x3.toNat) (splL z8 (x3.toNat) (List.take ((z8.length)-(x3.toNat)) (List.replicate ((z8.length)-(x3.toNat)) (List.replicate 32 (0:Int))))))
 none)
 none)) a0 FUEL x3 (1:Int) a0 (x3.toNat))
 none)
 (rec (IntKind.wrap .i64 (x3+(1:Int)))))
 none)
 none)
 (ke0))
def slices_Compact_impl_Key_impl_Key_l0_L(ke0:Option T15)(kr:Nat→T15→Option T15)(a0:T15):Nat→Int→Option T15
 |0=>fun _=>none
 |n+1=>slices_Compact_impl_Key_impl_Key_l0_b (slices_Compact_impl_Key_impl_Key_l0_L ke0 kr a0 n) ke0 kr a0
def slices_Compact_impl_Key_impl_Key_r(a0:T15):Option T15:=
 (cond (decide ((a0.length:Int)<(2:Int)))
 (some a0)
 (slices_Compact_impl_Key_impl_Key_l0_L (some a0) (fun x2v z8=>(some (List.take x2v z8))) a0 FUEL (1:Int)))
def f159_l1_p(k:Nat)(K:Ex→St→Option T15)(n:Nat)(a0:T15)(x3:Int)(x5:Int)(z8:T15)(x4u:Nat):Option T15:=loopK (f159_cx k) 0 (execK (f159_cx k) (callK (f159_cx k) 8) 0 159 (sub f159_c [1,1,0,1,0,0,1,0,0,1,0,1,0,1,0,0])) f159_l1_cut K n (f159_l1_s a0 x3 x5 z8 x4u)

theorem f159_l1_exit2(k:Nat)(K:Ex→St→Option T15)(n:Nat)(x3:Int)(z8:T15):((blkK 2 (seqK (execK (f159_cx k) (callK (f159_cx k) 8) 0 159 (sub f159_c [1,1,0,1,0,0,1,0,0,1,0,1,1])) (blkK 1 (seqK (execK (f159_cx k) (callK (f159_cx k) 8) 0 159 (sub f159_c [1,1,0,1,0,0,1,1])) (iterK (f159_cx k) 0 f159_l0_cut (loopK (f159_cx k) 0 (execK (f159_cx k) (callK (f159_cx k) 8) 0 159 (sub f159_c [1,1,0,1,0,0])) f159_l0_cut K n) K))))) (.exit 2) (f159_l1_o2 x3 z8):Option T15)=
 ((cond ((decide ((0:Int)≤x3))&&(decide (x3≤(z8.length:Int))))
 (cond ((decide ((0:Int)≤x3))&&(decide (x3≤((splL z8 (x3.toNat) (List.take ((z8.length)-(x3.toNat)) (List.replicate ((z8.length)-(x3.toNat)) (List.replicate 32 (0:Int))))).length:Int))))
 (K .ret (f159_l0_o (x3.toNat) (splL z8 (x3.toNat) (List.take ((z8.length)-(x3.toNat)) (List.replicate ((z8.length)-(x3.toNat)) (List.replicate 32 (0:Int)))))))
 none)
 none):Option T15):=by kernel_rfl

theorem f159_l1_round(k:Nat)(K:Ex→St→Option T15)(n:Nat)(a0:T15)(x3:Int)(x5:Int)(z8:T15)(x4u:Nat):(f159_l1_p k K (n+1) a0 x3 x5 z8 x4u:Option T15)=slices_Compact_impl_Key_impl_Key_l1_b ((fun x3 x5 z8 x4u=>f159_l1_p k K n a0 x3 x5 z8 x4u)) (fun x3 z8=>K (.exit 2) (f159_l1_o2 x3 z8)) a0 x3 x5 z8 x4u:=by kernel_rfl

theorem f159_l1_L_eq(K:Ex→St→Option T15)(a0:T15):∀(n:Nat) (x3:Int) (x5:Int) (z8:T15) (x4u:Nat),(f159_l1_p FUEL K n a0 x3 x5 z8 x4u:Option T15)=slices_Compact_impl_Key_impl_Key_l1_L (fun x3 z8=>K (.exit 2) (f159_l1_o2 x3 z8)) a0 n x3 x5 z8 x4u:=by
 intro n
 induction n with
 |zero=>intros; rfl
 |succ n ih=>
  intro x3 x5 z8 x4u
  exact(f159_l1_round FUEL K n a0 x3 x5 z8 x4u).trans (congrArg (fun f=>slices_Compact_impl_Key_impl_Key_l1_b f (fun x3 z8=>K (.exit 2) (f159_l1_o2 x3 z8)) a0 x3 x5 z8 x4u) (funext fun x3=>funext fun x5=>funext fun z8=>funext fun x4u=>ih x3 x5 z8 x4u))

def f159_l0_p(k:Nat)(K:Ex→St→Option T15)(n:Nat)(a0:T15)(x3:Int):Option T15:=loopK (f159_cx k) 0 (execK (f159_cx k) (callK (f159_cx k) 8) 0 159 (sub f159_c [1,1,0,1,0,0])) f159_l0_cut K n (f159_l0_s a0 x3)

theorem f159_l0_round(k:Nat)(K:Ex→St→Option T15)(n:Nat)(a0:T15)(x3:Int):(f159_l0_p k K (n+1) a0 x3:Option T15)=
 ((cond (decide (x3<(a0.length:Int)))
 (cond ((decide ((0:Int)≤x3))&&(decide (x3<(a0.length:Int))))
 (cond ((decide ((0:Int)≤(IntKind.wrap .i64 (x3-(1:Int)))))&&(decide ((IntKind.wrap .i64 (x3-(1:Int)))<(a0.length:Int))))
 (cond (eqd (.arr 32 (.int .u8)) (a0.getD (x3.toNat) (List.replicate 32 (0:Int))) (a0.getD ((IntKind.wrap .i64 (x3-(1:Int))).toNat) (List.replicate 32 (0:Int))))
 (cond ((decide ((0:Int)≤x3))&&(decide (x3≤(a0.length:Int))))
 (loopK (f159_cx k) 0 (execK (f159_cx k) (callK (f159_cx k) 8) 0 159 (sub f159_c [1,1,0,1,0,0,1,0,0,1,0,1,0,1,0,0])) f159_l1_cut (blkK 2 (seqK (execK (f159_cx k) (callK (f159_cx k) 8) 0 159 (sub f159_c [1,1,0,1,0,0,1,0,0,1,0,1,1])) (blkK 1 (seqK (execK (f159_cx k) (callK (f159_cx k) 8) 0 159 (sub f159_c [1,1,0,1,0,0,1,1])) (iterK (f159_cx k) 0 f159_l0_cut (loopK (f159_cx k) 0 (execK (f159_cx k) (callK (f159_cx k) 8) 0 159 (sub f159_c [1,1,0,1,0,0])) f159_l0_cut K n) K))))) k (f159_l1_s a0 x3 (1:Int) a0 (x3.toNat)))
 none)
 (loopK (f159_cx k) 0 (execK (f159_cx k) (callK (f159_cx k) 8) 0 159 (sub f159_c [1,1,0,1,0,0])) f159_l0_cut K n (f159_l0_s a0 (IntKind.wrap .i64 (x3+(1:Int))))))
 none)
 none)
 (K (.exit 0) (f159_l0_o0 a0))):Option T15):=by kernel_rfl

theorem f159_l0_exit0(k:Nat)(a0:T15):((blkK 0 (seqK (execK (f159_cx k) (callK (f159_cx k) 8) 0 159 (sub f159_c [1,1,1])) (finTK (f159_cx k) f159_i 35 (.arr 32 (.int .u8))))) (.exit 0) (f159_l0_o0 a0):Option T15)=
 ((some a0):Option T15):=by kernel_rfl

theorem f159_l0_ret(k:Nat)(x2v:Nat)(z8:T15):((blkK 0 (seqK (execK (f159_cx k) (callK (f159_cx k) 8) 0 159 (sub f159_c [1,1,1])) (finTK (f159_cx k) f159_i 35 (.arr 32 (.int .u8))))) .ret (f159_l0_o x2v z8):Option T15)=
 ((some (List.take x2v z8)):Option T15):=by kernel_rfl

theorem f159_l0_L_eq(K:Ex→St→Option T15)(a0:T15):∀(n:Nat) (x3:Int),(f159_l0_p FUEL K n a0 x3:Option T15)=slices_Compact_impl_Key_impl_Key_l0_L (K (.exit 0) (f159_l0_o0 a0)) (fun x2v z8=>K .ret (f159_l0_o x2v z8)) a0 n x3:=by
 intro n
 induction n with
 |zero=>intros; rfl
 |succ n ih=>
  intro x3
  exact(f159_l0_round FUEL K n a0 x3).trans (condC (condC (condC (condC (condC ((f159_l1_L_eq _ a0 FUEL x3 (1:Int) a0 (x3.toNat)).trans (congrArg (fun e0=>slices_Compact_impl_Key_impl_Key_l1_L e0 a0 FUEL x3 (1:Int) a0 (x3.toNat)) (funext fun x3=>funext fun z8=>(f159_l1_exit2 FUEL K n x3 z8).trans (condC (condC (rfl) (rfl)) (rfl))))) (rfl)) (ih (IntKind.wrap .i64 (x3+(1:Int))))) (rfl)) (rfl)) (rfl))

theorem f159_start(k:Nat)(a0:T15):fnTK (f159_cx k) 8 159 f159_i 35 (.arr 32 (.int .u8)) a0 []=
 ((cond (decide ((a0.length:Int)<(2:Int)))
 (some a0)
 (loopK (f159_cx k) 0 (execK (f159_cx k) (callK (f159_cx k) 8) 0 159 (sub f159_c [1,1,0,1,0,0])) f159_l0_cut (blkK 0 (seqK (execK (f159_cx k) (callK (f159_cx k) 8) 0 159 (sub f159_c [1,1,1])) (finTK (f159_cx k) f159_i 35 (.arr 32 (.int .u8))))) k (f159_l0_s a0 (1:Int)))):Option T15):=by kernel_rfl

theorem f159_run(a0:T15):fnTK (f159_cx FUEL) 8 159 f159_i 35 (.arr 32 (.int .u8)) a0 []=slices_Compact_impl_Key_impl_Key_r a0:=
 (f159_start FUEL a0).trans (condC (rfl) ((f159_l0_L_eq _ a0 FUEL (1:Int)).trans (cong2 (fun e0 e1=>slices_Compact_impl_Key_impl_Key_l0_L e0 e1 a0 FUEL (1:Int)) ((f159_l0_exit0 FUEL a0).trans (rfl)) (funext fun x2v=>funext fun z8=>(f159_l0_ret FUEL x2v z8).trans (rfl)))))

def f159_tak:ConT:={E:=35,e:=(.arr 32 (.int .u8)),ps:= .unit,raw:=fun x q=>slices_Compact_impl_Key_impl_Key_r x}
theorem f159_takOk:TakOk Tryz.prog 159 f159_tak:=tak_of_fn (f159_tabs FUEL) (depth:=8) f159_ok rfl fun xs q z h=>(f159_run xs).trans h

def f117_cx(k:Nat):Cx:=mkC [] [(157,f157_con)] [(159,f159_tak)] [(158,f158_inp)] [] k [] false
theorem f117_tabs(k:Nat):TabsOk Tryz.prog (f117_cx k):=mkC_ok ⟨f157_conOk,trivial⟩ ⟨f159_takOk,trivial⟩ ⟨f158_inpOk,trivial⟩ trivial
abbrev impl_sorted_sh:List Sh:=[.own 35 (.arr 32 (.int .u8))]
abbrev Q31:Type:=Option (shDen impl_sorted_sh)
def impl_sorted_r(a0:T15):Q31:=
 (bindO (slices_Clone_impl_Key_impl_Key_r a0) fun(b1:T15)=>(bindO (slices_SortFunc_impl_Key_impl_Key_r b1 ()) fun(b2:T11)=>(bindO (slices_Compact_impl_Key_impl_Key_r b2.1) fun(b3:T15)=>(some b3))))
theorem f117_run(a0:T15):fnK (f117_cx FUEL) 8 117 f117_i impl_sorted_sh [.pv K16 a0]=impl_sorted_r a0:=by kernel_rfl

def f117_con:Con:={ps:=K12,sh:=impl_sorted_sh,raw:=fun x=>impl_sorted_r x.1}
theorem f117_conOk:ConOk Tryz.prog 117 f117_con:=con_of_fn (f117_tabs FUEL) (depth:=8) f117_ok fun x y h=>(f117_run x.1).trans h

def f97_l0_cut:Cut:={keep:=[0,1,7,8],stk:=[[],[1,8]],ids:=[10],own:=[],outs:=[(0,[4],[10]),(1,[],[10])]}
def f97_l1_cut:Cut:={keep:=[0,1,5],stk:=[[21]],ids:=[140],own:=[],outs:=[(0,[4],[]),(1,[],[])]}
def f97_cx(k:Nat):Cx:=mkC [(138,f138_i),(141,f141_i),(170,f170_i)] [(98,f98_con),(117,f117_con),(139,f139_con),(142,f142_con)] [] [] [(970011013800070170,[(0,f97_l0_cut)]),(9700230141,[(0,f97_l1_cut)])] k [] false
theorem f97_tabs(k:Nat):TabsOk Tryz.prog (f97_cx k):=mkC_ok ⟨f98_conOk,f117_conOk,f139_conOk,f142_conOk,trivial⟩ trivial trivial ⟨f138_ok,f141_ok,f170_ok,trivial⟩
abbrev impl_ValidStore_sh:List Sh:=[.pl .bool]
abbrev Q14:Type:=Option (shDen impl_ValidStore_sh)
def f97_l0_s(a0:T4)(x8:Int):St:={env:=(.pv K8 a0.1:: .fn 139 (.pv .unit ())::(dd 5 (.pv (.int .i64) (a0.1.length:Int):: .pv (.int .i64) x8::(dd 10 [])))),stk:=[(dd 9 []),(.dead:: .ptr 10 K5 []::(dd 6 (.pv .bool false::(dd 16 []))))],heap:=[(10,.var K5 (.pv K5 a0))]}
def f97_l0_o(a0:T4)(x4:Int):St:={env:=(dd 4 (.pv (.int .i64) x4::(dd 14 []))),stk:=[(dd 9 []),(.dead:: .ptr 10 K5 []::(dd 6 (.pv .bool false::(dd 16 []))))],heap:=[(10,.var K5 (.pv K5 a0))]}
def f97_l0_o0(a0:T4):St:={env:=(dd 19 []),stk:=[(dd 9 []),(.dead:: .ptr 10 K5 []::(dd 6 (.pv .bool false::(dd 16 []))))],heap:=[(10,.var K5 (.pv K5 a0))]}
def f97_l1_s(a0:T4)(x5:Int)(z140:T15)(z160:T15):St:={env:=(.sl 140 (.arr 32 (.int .u8)):: .fn 142 (.pv .unit ())::(dd 3 (.pv (.int .i64) x5::(dd 19 [])))),stk:=[(dd 21 (.pv .bool true::(dd 3 [])))],heap:=[(10,.var K5 (.pv K5 a0)),(140,.arr 35 (.arr 32 (.int .u8)) z140),(160,.arr 35 (.arr 32 (.int .u8)) z160)]}
def f97_l1_o(a0:T4)(z140:T15)(z160:T15):St:={env:=(dd 4 (.pv .bool false::(dd 20 []))),stk:=[(dd 21 (.pv .bool true::(dd 3 [])))],heap:=[(10,.var K5 (.pv K5 a0)),(140,.arr 35 (.arr 32 (.int .u8)) z140),(160,.arr 35 (.arr 32 (.int .u8)) z160)]}
def f97_l1_o0(a0:T4)(z140:T15)(z160:T15):St:={env:=(dd 25 []),stk:=[(dd 21 (.pv .bool true::(dd 3 [])))],heap:=[(10,.var K5 (.pv K5 a0)),(140,.arr 35 (.arr 32 (.int .u8)) z140),(160,.arr 35 (.arr 32 (.int .u8)) z160)]}
def impl_ValidStore_l1_b(rec:Int→T15→T15→Q14)(kr:T15→T15→Q14)(ke0:T15→T15→Q14)(a0:T4)(x5:Int)(z140:T15)(z160:T15):Q14:=
 (cond (decide ((0:Int)<x5))
 (cond ((decide ((0:Int)≤x5))&&(decide (x5<(z140.length:Int))))
 (cond ((decide ((0:Int)≤(IntKind.wrap .i64 (x5-(1:Int)))))&&(decide ((IntKind.wrap .i64 (x5-(1:Int)))<(z140.length:Int))))
 (bindO (impl_compareKeys_r (z140.getD (x5.toNat) (List.replicate 32 (0:Int))) (z140.getD ((IntKind.wrap .i64 (x5-(1:Int))).toNat) (List.replicate 32 (0:Int)))) fun(b7:Int)=>(cond (decide (b7<(0:Int)))
 (kr z140 z160)
 (rec (IntKind.wrap .i64 (x5-(1:Int))) z140 z160)))
 none)
 none)
 (ke0 z140 z160))
def impl_ValidStore_l1_L(kr:T15→T15→Q14)(ke0:T15→T15→Q14)(a0:T4):Nat→Int→T15→T15→Q14
 |0=>fun _ _ _=>none
 |n+1=>impl_ValidStore_l1_b (impl_ValidStore_l1_L kr ke0 a0 n) kr ke0 a0
def impl_ValidStore_l0_b(rec:Int→Q14)(kr:Int→Q14)(ke0:Q14)(a0:T4)(x8:Int):Q14:=
 (cond (decide (x8<(a0.1.length:Int)))
 (cond ((decide ((0:Int)≤x8))&&(decide (x8<(a0.1.length:Int))))
 (bindO (impl_ValidStore_1_r (a0.1.getD (x8.toNat) ((0:Int),([],())))) fun(b2:Bool)=>(cond b2
 (kr x8)
 (rec (IntKind.wrap .i64 (x8+(1:Int))))))
 none)
 (ke0))
def impl_ValidStore_l0_L(kr:Int→Q14)(ke0:Q14)(a0:T4):Nat→Int→Q14
 |0=>fun _=>none
 |n+1=>impl_ValidStore_l0_b (impl_ValidStore_l0_L kr ke0 a0 n) kr ke0 a0
def impl_ValidStore_r(a0:T4):Q14:=
 (cond (decide ((128:Int)<(a0.1.length:Int)))
 (some false)
 (impl_ValidStore_l0_L (fun x4=>(cond (decide ((0:Int)≤x4))
 (some false)
 (bindO (impl_Store_keys_r a0) fun(b3:T15)=>(bindO (impl_sorted_r b3) fun(b4:T15)=>(cond (decide ((b4.length:Int)=(b3.length:Int)))
 (impl_ValidStore_l1_L (fun z140 z160=>(some false)) (fun z140 z160=>(some true)) a0 FUEL (IntKind.wrap .i64 ((b3.length:Int)-(1:Int))) b3 b4)
 (some false)))))) (bindO (impl_Store_keys_r a0) fun(b5:T15)=>(bindO (impl_sorted_r b5) fun(b6:T15)=>(cond (decide ((b6.length:Int)=(b5.length:Int)))
 (impl_ValidStore_l1_L (fun z140 z160=>(some false)) (fun z140 z160=>(some true)) a0 FUEL (IntKind.wrap .i64 ((b5.length:Int)-(1:Int))) b5 b6)
 (some false)))) a0 FUEL (0:Int)))
def f97_l1_p(k:Nat)(K:Ex→St→Q14)(n:Nat)(a0:T4)(x5:Int)(z140:T15)(z160:T15):Q14:=loopK (f97_cx k) 1 (execK (f97_cx k) (callK (f97_cx k) 7) 1 9700230141 (sub f141_c [1,0,1,0,0])) f97_l1_cut K n (f97_l1_s a0 x5 z140 z160)

theorem f97_l1_ret(k:Nat)(a0:T4)(z140:T15)(z160:T15):((blkK 0 (seqK (execK (f97_cx k) (callK (f97_cx k) 7) 1 9700230141 (sub f141_c [1,1])) (retK (f97_cx k) f141_i (some 23) 0 (opsRest (f97_cx k) (callK (f97_cx k) 8) 0 97 false (regOps (sub f97_c [1,1,1,0])) 8 (seqK (execK (f97_cx k) (callK (f97_cx k) 8) 0 97 (sub f97_c [1,1,1,1])) (finK (f97_cx k) f97_i impl_ValidStore_sh)))))) .ret (f97_l1_o a0 z140 z160):Q14)=
 ((some false):Q14):=by kernel_rfl

theorem f97_l1_exit0(k:Nat)(a0:T4)(z140:T15)(z160:T15):((blkK 0 (seqK (execK (f97_cx k) (callK (f97_cx k) 7) 1 9700230141 (sub f141_c [1,1])) (retK (f97_cx k) f141_i (some 23) 0 (opsRest (f97_cx k) (callK (f97_cx k) 8) 0 97 false (regOps (sub f97_c [1,1,1,0])) 8 (seqK (execK (f97_cx k) (callK (f97_cx k) 8) 0 97 (sub f97_c [1,1,1,1])) (finK (f97_cx k) f97_i impl_ValidStore_sh)))))) (.exit 0) (f97_l1_o0 a0 z140 z160):Q14)=
 ((some true):Q14):=by kernel_rfl

theorem f97_l1_round(k:Nat)(K:Ex→St→Q14)(n:Nat)(a0:T4)(x5:Int)(z140:T15)(z160:T15):(f97_l1_p k K (n+1) a0 x5 z140 z160:Q14)=impl_ValidStore_l1_b ((fun x5 z140 z160=>f97_l1_p k K n a0 x5 z140 z160)) (fun z140 z160=>K .ret (f97_l1_o a0 z140 z160)) (fun z140 z160=>K (.exit 0) (f97_l1_o0 a0 z140 z160)) a0 x5 z140 z160:=by kernel_rfl

theorem f97_l1_L_eq(K:Ex→St→Q14)(a0:T4):∀(n:Nat) (x5:Int) (z140:T15) (z160:T15),(f97_l1_p FUEL K n a0 x5 z140 z160:Q14)=impl_ValidStore_l1_L (fun z140 z160=>K .ret (f97_l1_o a0 z140 z160)) (fun z140 z160=>K (.exit 0) (f97_l1_o0 a0 z140 z160)) a0 n x5 z140 z160:=by
 intro n
 induction n with
 |zero=>intros; rfl
 |succ n ih=>
  intro x5 z140 z160
  exact(f97_l1_round FUEL K n a0 x5 z140 z160).trans (congrArg (fun f=>impl_ValidStore_l1_b f (fun z140 z160=>K .ret (f97_l1_o a0 z140 z160)) (fun z140 z160=>K (.exit 0) (f97_l1_o0 a0 z140 z160)) a0 x5 z140 z160) (funext fun x5=>funext fun z140=>funext fun z160=>ih x5 z140 z160))

def f97_l0_p(k:Nat)(K:Ex→St→Q14)(n:Nat)(a0:T4)(x8:Int):Q14:=loopK (f97_cx k) 2 (execK (f97_cx k) (callK (f97_cx k) 6) 2 970011013800070170 (sub f170_c [1,0,1,0,0])) f97_l0_cut K n (f97_l0_s a0 x8)

theorem f97_l0_ret(k:Nat)(a0:T4)(x4:Int):((blkK 0 (seqK (execK (f97_cx k) (callK (f97_cx k) 6) 2 970011013800070170 (sub f170_c [1,1])) (retK (f97_cx k) f170_i (some 7) 1 (opsRest (f97_cx k) (callK (f97_cx k) 7) 1 9700110138 false (regOps (sub f138_c [1,0])) 2 (seqK (execK (f97_cx k) (callK (f97_cx k) 7) 1 9700110138 (sub f138_c [1,1])) (retK (f97_cx k) f138_i (some 11) 0 (opsRest (f97_cx k) (callK (f97_cx k) 8) 0 97 false (regOps (sub f97_c [1,0,0])) 7 (seqK (execK (f97_cx k) (callK (f97_cx k) 8) 0 97 (sub f97_c [1,0,1])) (seqK (execK (f97_cx k) (callK (f97_cx k) 8) 0 97 (sub f97_c [1,1])) (finK (f97_cx k) f97_i impl_ValidStore_sh)))))))))) .ret (f97_l0_o a0 x4):Q14)=
 ((cond (decide ((0:Int)≤x4))
 (some false)
 (bindO (impl_Store_keys_r a0) fun(b3:T15)=>(bindO (impl_sorted_r b3) fun(b4:T15)=>(cond (decide ((b4.length:Int)=(b3.length:Int)))
 (loopK (f97_cx k) 1 (execK (f97_cx k) (callK (f97_cx k) 7) 1 9700230141 (sub f141_c [1,0,1,0,0])) f97_l1_cut (blkK 0 (seqK (execK (f97_cx k) (callK (f97_cx k) 7) 1 9700230141 (sub f141_c [1,1])) (retK (f97_cx k) f141_i (some 23) 0 (opsRest (f97_cx k) (callK (f97_cx k) 8) 0 97 false (regOps (sub f97_c [1,1,1,0])) 8 (seqK (execK (f97_cx k) (callK (f97_cx k) 8) 0 97 (sub f97_c [1,1,1,1])) (finK (f97_cx k) f97_i impl_ValidStore_sh)))))) k (f97_l1_s a0 (IntKind.wrap .i64 ((b3.length:Int)-(1:Int))) b3 b4))
 (some false))))):Q14):=by kernel_rfl

theorem f97_l0_exit0(k:Nat)(a0:T4):((blkK 0 (seqK (execK (f97_cx k) (callK (f97_cx k) 6) 2 970011013800070170 (sub f170_c [1,1])) (retK (f97_cx k) f170_i (some 7) 1 (opsRest (f97_cx k) (callK (f97_cx k) 7) 1 9700110138 false (regOps (sub f138_c [1,0])) 2 (seqK (execK (f97_cx k) (callK (f97_cx k) 7) 1 9700110138 (sub f138_c [1,1])) (retK (f97_cx k) f138_i (some 11) 0 (opsRest (f97_cx k) (callK (f97_cx k) 8) 0 97 false (regOps (sub f97_c [1,0,0])) 7 (seqK (execK (f97_cx k) (callK (f97_cx k) 8) 0 97 (sub f97_c [1,0,1])) (seqK (execK (f97_cx k) (callK (f97_cx k) 8) 0 97 (sub f97_c [1,1])) (finK (f97_cx k) f97_i impl_ValidStore_sh)))))))))) (.exit 0) (f97_l0_o0 a0):Q14)=
 ((bindO (impl_Store_keys_r a0) fun(b5:T15)=>(bindO (impl_sorted_r b5) fun(b6:T15)=>(cond (decide ((b6.length:Int)=(b5.length:Int)))
 (loopK (f97_cx k) 1 (execK (f97_cx k) (callK (f97_cx k) 7) 1 9700230141 (sub f141_c [1,0,1,0,0])) f97_l1_cut (blkK 0 (seqK (execK (f97_cx k) (callK (f97_cx k) 7) 1 9700230141 (sub f141_c [1,1])) (retK (f97_cx k) f141_i (some 23) 0 (opsRest (f97_cx k) (callK (f97_cx k) 8) 0 97 false (regOps (sub f97_c [1,1,1,0])) 8 (seqK (execK (f97_cx k) (callK (f97_cx k) 8) 0 97 (sub f97_c [1,1,1,1])) (finK (f97_cx k) f97_i impl_ValidStore_sh)))))) k (f97_l1_s a0 (IntKind.wrap .i64 ((b5.length:Int)-(1:Int))) b5 b6))
 (some false)))):Q14):=by kernel_rfl

theorem f97_l0_round(k:Nat)(K:Ex→St→Q14)(n:Nat)(a0:T4)(x8:Int):(f97_l0_p k K (n+1) a0 x8:Q14)=impl_ValidStore_l0_b ((fun x8=>f97_l0_p k K n a0 x8)) (fun x4=>K .ret (f97_l0_o a0 x4)) (K (.exit 0) (f97_l0_o0 a0)) a0 x8:=by kernel_rfl

theorem f97_l0_L_eq(K:Ex→St→Q14)(a0:T4):∀(n:Nat) (x8:Int),(f97_l0_p FUEL K n a0 x8:Q14)=impl_ValidStore_l0_L (fun x4=>K .ret (f97_l0_o a0 x4)) (K (.exit 0) (f97_l0_o0 a0)) a0 n x8:=by
 intro n
 induction n with
 |zero=>intros; rfl
 |succ n ih=>
  intro x8
  exact(f97_l0_round FUEL K n a0 x8).trans (congrArg (fun f=>impl_ValidStore_l0_b f (fun x4=>K .ret (f97_l0_o a0 x4)) (K (.exit 0) (f97_l0_o0 a0)) a0 x8) (funext fun x8=>ih x8))

theorem f97_start(k:Nat)(a0:T4):fnK (f97_cx k) 8 97 f97_i impl_ValidStore_sh [.pv K5 a0]=
 ((cond (decide ((128:Int)<(a0.1.length:Int)))
 (some false)
 (loopK (f97_cx k) 2 (execK (f97_cx k) (callK (f97_cx k) 6) 2 970011013800070170 (sub f170_c [1,0,1,0,0])) f97_l0_cut (blkK 0 (seqK (execK (f97_cx k) (callK (f97_cx k) 6) 2 970011013800070170 (sub f170_c [1,1])) (retK (f97_cx k) f170_i (some 7) 1 (opsRest (f97_cx k) (callK (f97_cx k) 7) 1 9700110138 false (regOps (sub f138_c [1,0])) 2 (seqK (execK (f97_cx k) (callK (f97_cx k) 7) 1 9700110138 (sub f138_c [1,1])) (retK (f97_cx k) f138_i (some 11) 0 (opsRest (f97_cx k) (callK (f97_cx k) 8) 0 97 false (regOps (sub f97_c [1,0,0])) 7 (seqK (execK (f97_cx k) (callK (f97_cx k) 8) 0 97 (sub f97_c [1,0,1])) (seqK (execK (f97_cx k) (callK (f97_cx k) 8) 0 97 (sub f97_c [1,1])) (finK (f97_cx k) f97_i impl_ValidStore_sh)))))))))) k (f97_l0_s a0 (0:Int)))):Q14):=by kernel_rfl

theorem f97_run(a0:T4):fnK (f97_cx FUEL) 8 97 f97_i impl_ValidStore_sh [.pv K5 a0]=impl_ValidStore_r a0:=
 (f97_start FUEL a0).trans (condC (rfl) ((f97_l0_L_eq _ a0 FUEL (0:Int)).trans (cong2 (fun e0 e1=>impl_ValidStore_l0_L e0 e1 a0 FUEL (0:Int)) (funext fun x4=>(f97_l0_ret FUEL a0 x4).trans (condC (rfl) (bindC (fun b3=>bindC (fun b4=>condC ((f97_l1_L_eq _ a0 FUEL (IntKind.wrap .i64 ((b3.length:Int)-(1:Int))) b3 b4).trans (cong2 (fun e0 e1=>impl_ValidStore_l1_L e0 e1 a0 FUEL (IntKind.wrap .i64 ((b3.length:Int)-(1:Int))) b3 b4) (funext fun z140=>funext fun z160=>(f97_l1_ret FUEL a0 z140 z160).trans (rfl)) (funext fun z140=>funext fun z160=>(f97_l1_exit0 FUEL a0 z140 z160).trans (rfl)))) (rfl)))))) ((f97_l0_exit0 FUEL a0).trans (bindC (fun b5=>bindC (fun b6=>condC ((f97_l1_L_eq _ a0 FUEL (IntKind.wrap .i64 ((b5.length:Int)-(1:Int))) b5 b6).trans (cong2 (fun e0 e1=>impl_ValidStore_l1_L e0 e1 a0 FUEL (IntKind.wrap .i64 ((b5.length:Int)-(1:Int))) b5 b6) (funext fun z140=>funext fun z160=>(f97_l1_ret FUEL a0 z140 z160).trans (rfl)) (funext fun z140=>funext fun z160=>(f97_l1_exit0 FUEL a0 z140 z160).trans (rfl)))) (rfl))))))))

def f97_con:Con:={ps:=K3,sh:=impl_ValidStore_sh,raw:=fun x=>impl_ValidStore_r x.1}
theorem f97_conOk:ConOk Tryz.prog 97 f97_con:=con_of_fn (f97_tabs FUEL) (depth:=8) f97_ok fun x y h=>(f97_run x.1).trans h

def f99_cx(k:Nat):Cx:=mkC [] [] [] [] [] k [] false
theorem f99_tabs(k:Nat):TabsOk Tryz.prog (f99_cx k):=mkC_ok trivial trivial trivial trivial
abbrev slices_Clone_impl_Blob_impl_Blob_sh:List Sh:=[.own 125 K10]
abbrev Q56:Type:=Option (shDen slices_Clone_impl_Blob_impl_Blob_sh)
def slices_Clone_impl_Blob_impl_Blob_r(a0:T7):Q56:=
 (cond (List.isEmpty a0) (bothO (some []) (cond (decide ((0+a0.length)*32≤140737488355328)&&decide (0+a0.length≤9223372036854775807))
 (some ([]++a0))
 none)) (cond (decide ((0+a0.length)*32≤140737488355328)&&decide (0+a0.length≤9223372036854775807))
 (some ([]++a0))
 none))
theorem f99_run(a0:T7):fnK (f99_cx FUEL) 8 99 f99_i slices_Clone_impl_Blob_impl_Blob_sh [.pv K8 a0]=slices_Clone_impl_Blob_impl_Blob_r a0:=by kernel_rfl

def f99_con:Con:={ps:=K5,sh:=slices_Clone_impl_Blob_impl_Blob_sh,raw:=fun x=>slices_Clone_impl_Blob_impl_Blob_r x.1}
theorem f99_conOk:ConOk Tryz.prog 99 f99_con:=con_of_fn (f99_tabs FUEL) (depth:=8) f99_ok fun x y h=>(f99_run x.1).trans h

def f113_cx(k:Nat):Cx:=mkC [] [] [] [] [] k [] false
theorem f113_tabs(k:Nat):TabsOk Tryz.prog (f113_cx k):=mkC_ok trivial trivial trivial trivial
abbrev impl_reachCode_1_sh:List Sh:=[.pl .bool]
abbrev Q24:Type:=Option (shDen impl_reachCode_1_sh)
def impl_reachCode_1_r(a0:T15):Q24:=
 (some (decide ((256:Int)<(a0.length:Int))))
theorem f113_run(a0:T15):fnK (f113_cx FUEL) 8 113 f113_i impl_reachCode_1_sh [.pv K16 a0]=impl_reachCode_1_r a0:=by kernel_rfl

def f113_con:Con:={ps:=K12,sh:=impl_reachCode_1_sh,raw:=fun x=>impl_reachCode_1_r x.1}
theorem f113_conOk:ConOk Tryz.prog 113 f113_con:=con_of_fn (f113_tabs FUEL) (depth:=8) f113_ok fun x y h=>(f113_run x.1).trans h

def f163_l0_cut:Cut:={keep:=[0,2,4,8,9,10],stk:=[],ids:=[40],own:=[],outs:=[(1,[0,2,4,8,9],[40])]}
def f163_cx(k:Nat):Cx:=mkC [] [(142,f142_con)] [] [] [(163,[(0,f163_l0_cut)])] k [] false
theorem f163_tabs(k:Nat):TabsOk Tryz.prog (f163_cx k):=mkC_ok ⟨f142_conOk,trivial⟩ trivial trivial trivial
abbrev slices_BinarySearchFunc_impl_Key_impl_Key_impl_Key_sh:List Sh:=[.pl (.int .i64),.pl .bool]
abbrev Q54:Type:=Option (shDen slices_BinarySearchFunc_impl_Key_impl_Key_impl_Key_sh)
def f163_l0_s(a0:T15)(a1:(List Int))(x9:Int)(x10:Int):St:={env:=(.pv K16 a0:: .dead:: .fn 142 (.pv .unit ()):: .dead:: .ptr 40 (.arr 32 (.int .u8)) []::(dd 3 (.pv (.int .i64) (a0.length:Int):: .pv (.int .i64) x9:: .pv (.int .i64) x10::(dd 38 [])))),stk:=[],heap:=[(40,.var (.arr 32 (.int .u8)) (.pv (.arr 32 (.int .u8)) a1))]}
def f163_l0_o0(a0:T15)(a1:(List Int))(x9:Int):St:={env:=(.pv K16 a0:: .dead:: .fn 142 (.pv .unit ()):: .dead:: .ptr 40 (.arr 32 (.int .u8)) []::(dd 3 (.pv (.int .i64) (a0.length:Int):: .pv (.int .i64) x9::(dd 39 [])))),stk:=[],heap:=[(40,.var (.arr 32 (.int .u8)) (.pv (.arr 32 (.int .u8)) a1))]}
def slices_BinarySearchFunc_impl_Key_impl_Key_impl_Key_l0_b(rec:Int→Int→Q54)(ke0:Int→Q54)(a0:T15)(a1:(List Int))(x9:Int)(x10:Int):Q54:=
 (cond (decide (x9<x10))
 (cond ((decide ((0:Int)≤(IntKind.wrap .i64 (shrI .u64 (IntKind.wrap .u64 (IntKind.wrap .i64 (x9+x10))) (1:Int)))))&&(decide ((IntKind.wrap .i64 (shrI .u64 (IntKind.wrap .u64 (IntKind.wrap .i64 (x9+x10))) (1:Int)))<(a0.length:Int))))
 (bindO (impl_compareKeys_r (a0.getD ((IntKind.wrap .i64 (shrI .u64 (IntKind.wrap .u64 (IntKind.wrap .i64 (x9+x10))) (1:Int))).toNat) (List.replicate 32 (0:Int))) a1) fun(b2:Int)=>(cond (decide (b2<(0:Int)))
 (rec (IntKind.wrap .i64 ((IntKind.wrap .i64 (shrI .u64 (IntKind.wrap .u64 (IntKind.wrap .i64 (x9+x10))) (1:Int)))+(1:Int))) x10)
 (rec x9 (IntKind.wrap .i64 (shrI .u64 (IntKind.wrap .u64 (IntKind.wrap .i64 (x9+x10))) (1:Int))))))
 none)
 (ke0 x9))
def slices_BinarySearchFunc_impl_Key_impl_Key_impl_Key_l0_L(ke0:Int→Q54)(a0:T15)(a1:(List Int)):Nat→Int→Int→Q54
 |0=>fun _ _=>none
 |n+1=>slices_BinarySearchFunc_impl_Key_impl_Key_impl_Key_l0_b (slices_BinarySearchFunc_impl_Key_impl_Key_impl_Key_l0_L ke0 a0 a1 n) ke0 a0 a1
def slices_BinarySearchFunc_impl_Key_impl_Key_impl_Key_r(a0:T15)(a1:(List Int))(a2:Unit):Q54:=
 (slices_BinarySearchFunc_impl_Key_impl_Key_impl_Key_l0_L (fun x9=>(cond (decide (x9<(a0.length:Int)))
 (cond ((decide ((0:Int)≤x9))&&(decide (x9<(a0.length:Int))))
 (bindO (impl_compareKeys_r (a0.getD (x9.toNat) (List.replicate 32 (0:Int))) a1) fun(b3:Int)=>(some (x9,(decide (b3=(0:Int))))))
 none)
 (some (x9,false)))) a0 a1 FUEL (0:Int) (a0.length:Int))
def f163_l0_p(k:Nat)(K:Ex→St→Q54)(n:Nat)(a0:T15)(a1:(List Int))(x9:Int)(x10:Int):Q54:=loopK (f163_cx k) 0 (execK (f163_cx k) (callK (f163_cx k) 8) 0 163 (sub f163_c [1,1,1,0,0,0])) f163_l0_cut K n (f163_l0_s a0 a1 x9 x10)

theorem f163_l0_exit0(k:Nat)(a0:T15)(a1:(List Int))(x9:Int):((blkK 0 (seqK (execK (f163_cx k) (callK (f163_cx k) 8) 0 163 (sub f163_c [1,1,1,1])) (finK (f163_cx k) f163_i slices_BinarySearchFunc_impl_Key_impl_Key_impl_Key_sh))) (.exit 0) (f163_l0_o0 a0 a1 x9):Q54)=
 ((cond (decide (x9<(a0.length:Int)))
 (cond ((decide ((0:Int)≤x9))&&(decide (x9<(a0.length:Int))))
 (bindO (impl_compareKeys_r (a0.getD (x9.toNat) (List.replicate 32 (0:Int))) a1) fun(b3:Int)=>(some (x9,(decide (b3=(0:Int))))))
 none)
 (some (x9,false))):Q54):=by kernel_rfl

theorem f163_l0_round(k:Nat)(K:Ex→St→Q54)(n:Nat)(a0:T15)(a1:(List Int))(x9:Int)(x10:Int):(f163_l0_p k K (n+1) a0 a1 x9 x10:Q54)=slices_BinarySearchFunc_impl_Key_impl_Key_impl_Key_l0_b ((fun x9 x10=>f163_l0_p k K n a0 a1 x9 x10)) (fun x9=>K (.exit 0) (f163_l0_o0 a0 a1 x9)) a0 a1 x9 x10:=by kernel_rfl

theorem f163_l0_L_eq(K:Ex→St→Q54)(a0:T15)(a1:(List Int)):∀(n:Nat) (x9:Int) (x10:Int),(f163_l0_p FUEL K n a0 a1 x9 x10:Q54)=slices_BinarySearchFunc_impl_Key_impl_Key_impl_Key_l0_L (fun x9=>K (.exit 0) (f163_l0_o0 a0 a1 x9)) a0 a1 n x9 x10:=by
 intro n
 induction n with
 |zero=>intros; rfl
 |succ n ih=>
  intro x9 x10
  exact(f163_l0_round FUEL K n a0 a1 x9 x10).trans (congrArg (fun f=>slices_BinarySearchFunc_impl_Key_impl_Key_impl_Key_l0_b f (fun x9=>K (.exit 0) (f163_l0_o0 a0 a1 x9)) a0 a1 x9 x10) (funext fun x9=>funext fun x10=>ih x9 x10))

theorem f163_start(k:Nat)(a0:T15)(a1:(List Int))(a2:Unit):fnK (f163_cx k) 8 163 f163_i slices_BinarySearchFunc_impl_Key_impl_Key_impl_Key_sh [.pv K16 a0,.pv (.arr 32 (.int .u8)) a1,.fn 142 (.pv .unit ())]=
 ((loopK (f163_cx k) 0 (execK (f163_cx k) (callK (f163_cx k) 8) 0 163 (sub f163_c [1,1,1,0,0,0])) f163_l0_cut (blkK 0 (seqK (execK (f163_cx k) (callK (f163_cx k) 8) 0 163 (sub f163_c [1,1,1,1])) (finK (f163_cx k) f163_i slices_BinarySearchFunc_impl_Key_impl_Key_impl_Key_sh))) k (f163_l0_s a0 a1 (0:Int) (a0.length:Int))):Q54):=by kernel_rfl

theorem f163_run(a0:T15)(a1:(List Int))(a2:Unit):fnK (f163_cx FUEL) 8 163 f163_i slices_BinarySearchFunc_impl_Key_impl_Key_impl_Key_sh [.pv K16 a0,.pv (.arr 32 (.int .u8)) a1,.fn 142 (.pv .unit ())]=slices_BinarySearchFunc_impl_Key_impl_Key_impl_Key_r a0 a1 a2:=
 (f163_start FUEL a0 a1 a2).trans ((f163_l0_L_eq _ a0 a1 FUEL (0:Int) (a0.length:Int)).trans (congrArg (fun e0=>slices_BinarySearchFunc_impl_Key_impl_Key_impl_Key_l0_L e0 a0 a1 FUEL (0:Int) (a0.length:Int)) (funext fun x9=>(f163_l0_exit0 FUEL a0 a1 x9).trans (rfl))))

def f163_con:Con:={ps:=(.pair K16 (.pair (.arr 32 (.int .u8)) (.pair (.fnc 142) .unit))),sh:=slices_BinarySearchFunc_impl_Key_impl_Key_impl_Key_sh,raw:=fun x=>slices_BinarySearchFunc_impl_Key_impl_Key_impl_Key_r x.1 x.2.1 x.2.2.1}
theorem f163_conOk:ConOk Tryz.prog 163 f163_con:=con_of_fn (f163_tabs FUEL) (depth:=8) f163_ok fun x y h=>(f163_run x.1 x.2.1 x.2.2.1).trans h

def f123_cx(k:Nat):Cx:=mkC [] [(163,f163_con)] [] [] [] k [] false
theorem f123_tabs(k:Nat):TabsOk Tryz.prog (f123_cx k):=mkC_ok ⟨f163_conOk,trivial⟩ trivial trivial trivial
abbrev impl_shop_find_sh:List Sh:=[.pl (.int .i64),.pl .bool]
abbrev Q25:Type:=Option (shDen impl_shop_find_sh)
def impl_shop_find_r(a0:T2)(a1:(List Int)):Q25:=
 (bindO (slices_BinarySearchFunc_impl_Key_impl_Key_impl_Key_r a0.1 a1 ()) fun(b1:(Int×Bool))=>(some (b1.1,b1.2)))
theorem f123_run(a0:T2)(a1:(List Int)):fnK (f123_cx FUEL) 8 123 f123_i impl_shop_find_sh [.pv (.ref K1) a0,.pv (.arr 32 (.int .u8)) a1]=impl_shop_find_r a0 a1:=by kernel_rfl

def f123_con:Con:={ps:=(.pair (.ref K1) K13),sh:=impl_shop_find_sh,raw:=fun x=>impl_shop_find_r x.1 x.2.1}
theorem f123_conOk:ConOk Tryz.prog 123 f123_con:=con_of_fn (f123_tabs FUEL) (depth:=8) f123_ok fun x y h=>(f123_run x.1 x.2.1).trans h

def f76_cx(k:Nat):Cx:=mkC [] [(123,f123_con)] [] [] [] k [] false
theorem f76_tabs(k:Nat):TabsOk Tryz.prog (f76_cx k):=mkC_ok ⟨f123_conOk,trivial⟩ trivial trivial trivial
abbrev impl_shop_get_sh:List Sh:=[.pl K10,.pl .bool]
abbrev Q26:Type:=Option (shDen impl_shop_get_sh)
def impl_shop_get_r(a0:T2)(a1:(List Int)):Q26:=
 (bindO (impl_shop_find_r a0 a1) fun(b1:(Int×Bool))=>(cond (!b1.2)
 (some (((0:Int),([],())),false))
 (cond ((decide ((0:Int)≤b1.1))&&(decide (b1.1<(a0.2.1.length:Int))))
 (some ((a0.2.1.getD (b1.1.toNat) ((0:Int),([],()))),true))
 none)))
theorem f76_run(a0:T2)(a1:(List Int)):fnK (f76_cx FUEL) 8 76 f76_i impl_shop_get_sh [.pv (.ref K1) a0,.pv (.arr 32 (.int .u8)) a1]=impl_shop_get_r a0 a1:=by kernel_rfl

def f76_con:Con:={ps:=(.pair (.ref K1) K13),sh:=impl_shop_get_sh,raw:=fun x=>impl_shop_get_r x.1 x.2.1}
theorem f76_conOk:ConOk Tryz.prog 76 f76_con:=con_of_fn (f76_tabs FUEL) (depth:=8) f76_ok fun x y h=>(f76_run x.1 x.2.1).trans h

def f181_l0_cut:Cut:={keep:=[0,3],stk:=[],ids:=[90030],own:=[(3,90030,28)],outs:=[(1,[3],[90030])]}
def f181_cx(k:Nat):Cx:=mkC [] [] [] [] [(181,[(0,f181_l0_cut)])] k [] false
theorem f181_tabs(k:Nat):TabsOk Tryz.prog (f181_cx k):=mkC_ok trivial trivial trivial trivial
abbrev impl_keysIn_sh:List Sh:=[.own 35 (.arr 32 (.int .u8))]
abbrev Q20:Type:=Option (shDen impl_keysIn_sh)
def f181_l0_s(x0:(List Int))(z90030:T15):St:={env:=(.pv K20 x0:: .dead:: .dead:: .sl 90030 (.arr 32 (.int .u8))::(dd 13 [])),stk:=[],heap:=[(90030,.arr 35 (.arr 32 (.int .u8)) z90030)]}
def f181_l0_o0(z90030:T15):St:={env:=(dd 3 (.sl 90030 (.arr 32 (.int .u8))::(dd 13 []))),stk:=[],heap:=[(90030,.arr 35 (.arr 32 (.int .u8)) z90030)]}
def impl_keysIn_l0_b(rec:(List Int)→T15→Q20)(ke0:T15→Q20)(x0:(List Int))(z90030:T15):Q20:=
 (cond (decide ((32:Int)≤(x0.length:Int)))
 (cond (decide (32≤x0.length))
 (cond (decide ((z90030.length+1)*32≤140737488355328)&&decide (z90030.length+1≤9223372036854775807))
 (cond (decide ((32:Int)≤(x0.length:Int)))
 (rec (cutL x0 32 (x0.length)) (z90030++[(x0.take 32)]))
 none)
 none)
 none)
 (ke0 z90030))
def impl_keysIn_l0_L(ke0:T15→Q20):Nat→(List Int)→T15→Q20
 |0=>fun _ _=>none
 |n+1=>impl_keysIn_l0_b (impl_keysIn_l0_L ke0 n) ke0
def impl_keysIn_r(a0:(List Int)):Q20:=
 (impl_keysIn_l0_L (fun z90030=>(some z90030)) FUEL a0 [])
def f181_l0_p(k:Nat)(K:Ex→St→Q20)(n:Nat)(x0:(List Int))(z90030:T15):Q20:=loopK (f181_cx k) 0 (execK (f181_cx k) (callK (f181_cx k) 8) 0 181 (sub f181_c [1,1,0,0,0])) f181_l0_cut K n (f181_l0_s x0 z90030)

theorem f181_l0_exit0(k:Nat)(z90030:T15):((blkK 0 (seqK (execK (f181_cx k) (callK (f181_cx k) 8) 0 181 (sub f181_c [1,1,1])) (finK (f181_cx k) f181_i impl_keysIn_sh))) (.exit 0) (f181_l0_o0 z90030):Q20)=
 ((some z90030):Q20):=by kernel_rfl

theorem f181_l0_round(k:Nat)(K:Ex→St→Q20)(n:Nat)(x0:(List Int))(z90030:T15):(f181_l0_p k K (n+1) x0 z90030:Q20)=impl_keysIn_l0_b ((fun x0 z90030=>f181_l0_p k K n x0 z90030)) (fun z90030=>K (.exit 0) (f181_l0_o0 z90030)) x0 z90030:=by kernel_rfl

theorem f181_l0_L_eq(K:Ex→St→Q20):∀(n:Nat) (x0:(List Int)) (z90030:T15),(f181_l0_p FUEL K n x0 z90030:Q20)=impl_keysIn_l0_L (fun z90030=>K (.exit 0) (f181_l0_o0 z90030)) n x0 z90030:=by
 intro n
 induction n with
 |zero=>intros; rfl
 |succ n ih=>
  intro x0 z90030
  exact(f181_l0_round FUEL K n x0 z90030).trans (congrArg (fun f=>impl_keysIn_l0_b f (fun z90030=>K (.exit 0) (f181_l0_o0 z90030)) x0 z90030) (funext fun x0=>funext fun z90030=>ih x0 z90030))

theorem f181_start(k:Nat)(a0:(List Int)):fnK (f181_cx k) 8 181 f181_i impl_keysIn_sh [.pv K20 a0]=
 ((loopK (f181_cx k) 0 (execK (f181_cx k) (callK (f181_cx k) 8) 0 181 (sub f181_c [1,1,0,0,0])) f181_l0_cut (blkK 0 (seqK (execK (f181_cx k) (callK (f181_cx k) 8) 0 181 (sub f181_c [1,1,1])) (finK (f181_cx k) f181_i impl_keysIn_sh))) k (f181_l0_s a0 [])):Q20):=by kernel_rfl

theorem f181_run(a0:(List Int)):fnK (f181_cx FUEL) 8 181 f181_i impl_keysIn_sh [.pv K20 a0]=impl_keysIn_r a0:=
 (f181_start FUEL a0).trans ((f181_l0_L_eq _ FUEL a0 []).trans (congrArg (fun e0=>impl_keysIn_l0_L e0 FUEL a0 []) (funext fun z90030=>(f181_l0_exit0 FUEL z90030).trans (rfl))))

def f181_con:Con:={ps:=K14,sh:=impl_keysIn_sh,raw:=fun x=>impl_keysIn_r x.1}
theorem f181_conOk:ConOk Tryz.prog 181 f181_con:=con_of_fn (f181_tabs FUEL) (depth:=8) f181_ok fun x y h=>(f181_run x.1).trans h

def f105_cx(k:Nat):Cx:=mkC [] [] [] [] [] k [] false
theorem f105_tabs(k:Nat):TabsOk Tryz.prog (f105_cx k):=mkC_ok trivial trivial trivial trivial
abbrev impl_within_sh:List Sh:=[.pl .bool]
abbrev Q32:Type:=Option (shDen impl_within_sh)
def impl_within_r(a0:Int)(a1:Int)(a2:Int):Q32:=
 (cond (decide (a1≤a0))
 (some (decide (a0≤a2)))
 (some false))
theorem f105_run(a0:Int)(a1:Int)(a2:Int):fnK (f105_cx FUEL) 8 105 f105_i impl_within_sh [.pv (.int .i64) a0,.pv (.int .i64) a1,.pv (.int .i64) a2]=impl_within_r a0 a1 a2:=by kernel_rfl

def f105_con:Con:={ps:=(.pair (.int .i64) (.pair (.int .i64) K18)),sh:=impl_within_sh,raw:=fun x=>impl_within_r x.1 x.2.1 x.2.2.1}
theorem f105_conOk:ConOk Tryz.prog 105 f105_con:=con_of_fn (f105_tabs FUEL) (depth:=8) f105_ok fun x y h=>(f105_run x.1 x.2.1 x.2.2.1).trans h

def f61_cx(k:Nat):Cx:=mkC [] [(105,f105_con)] [] [] [] k [] false
theorem f61_tabs(k:Nat):TabsOk Tryz.prog (f61_cx k):=mkC_ok ⟨f105_conOk,trivial⟩ trivial trivial trivial
abbrev impl_isName_sh:List Sh:=[.pl .bool]
abbrev Q18:Type:=Option (shDen impl_isName_sh)
def impl_isName_r(a0:List Int):Q18:=
 (bindO (impl_within_r (a0.length:Int) (1:Int) (24:Int)) fun(b1:Bool)=>(some b1))
theorem f61_run(a0:List Int):fnK (f61_cx FUEL) 8 61 f61_i impl_isName_sh [.pv .str a0]=impl_isName_r a0:=by kernel_rfl

def f61_con:Con:={ps:=K21,sh:=impl_isName_sh,raw:=fun x=>impl_isName_r x.1}
theorem f61_conOk:ConOk Tryz.prog 61 f61_con:=con_of_fn (f61_tabs FUEL) (depth:=8) f61_ok fun x y h=>(f61_run x.1).trans h

def f145_cx(k:Nat):Cx:=mkC [] [(61,f61_con)] [] [] [] k [] false
theorem f145_tabs(k:Nat):TabsOk Tryz.prog (f145_cx k):=mkC_ok ⟨f61_conOk,trivial⟩ trivial trivial trivial
abbrev impl_ValidEntry_sh:List Sh:=[.pl .bool]
abbrev Q12:Type:=Option (shDen impl_ValidEntry_sh)
def impl_ValidEntry_r(a0:T9):Q12:=
 (bindO (impl_isName_r a0.1) fun(b1:Bool)=>(cond b1
 (some (decide ((a0.2.1.length:Int)≤(64:Int))))
 (some false)))
theorem f145_run(a0:T9):fnK (f145_cx FUEL) 8 145 f145_i impl_ValidEntry_sh [.pv K15 a0]=impl_ValidEntry_r a0:=by kernel_rfl

def f145_con:Con:={ps:=K11,sh:=impl_ValidEntry_sh,raw:=fun x=>impl_ValidEntry_r x.1}
theorem f145_conOk:ConOk Tryz.prog 145 f145_con:=con_of_fn (f145_tabs FUEL) (depth:=8) f145_ok fun x y h=>(f145_run x.1).trans h

def f101_cx(k:Nat):Cx:=mkC [] [(145,f145_con)] [] [] [] k [] false
theorem f101_tabs(k:Nat):TabsOk Tryz.prog (f101_cx k):=mkC_ok ⟨f145_conOk,trivial⟩ trivial trivial trivial
abbrev impl_ReadMapNode_sh:List Sh:=[.pl K2,.pl (.int .i64)]
abbrev Q8:Type:=Option (shDen impl_ReadMapNode_sh)
def impl_ReadMapNode_r(a0:(List Int)):Q8:=
 (cond (decide ((a0.length:Int)<(65:Int)))
 (some (((List.replicate 32 (0:Int)),((List.replicate 32 (0:Int)),(([],([],())),()))),(5:Int)))
 (cond (decide ((64:Int)<(a0.length:Int)))
 (cond (decide ((a0.length:Int)<(IntKind.wrap .i64 ((65:Int)+(IntKind.wrap .i64 (a0.getD 64 (0:Int)))))))
 (some (((List.replicate 32 (0:Int)),((List.replicate 32 (0:Int)),(([],([],())),()))),(5:Int)))
 (cond (decide ((64:Int)<(a0.length:Int)))
 (cond (decide (32≤a0.length))
 (cond (decide ((32:Int)≤(a0.length:Int)))
 (cond (decide (32≤(cutL a0 32 (a0.length)).length))
 (cond ((decide ((0:Int)≤(IntKind.wrap .i64 ((65:Int)+(IntKind.wrap .i64 (a0.getD 64 (0:Int)))))))&&(decide ((IntKind.wrap .i64 ((65:Int)+(IntKind.wrap .i64 (a0.getD 64 (0:Int)))))≤(a0.length:Int))))
 (cond (decide ((65:Int)≤(IntKind.wrap .i64 ((65:Int)+(IntKind.wrap .i64 (a0.getD 64 (0:Int)))))))
 (cond ((decide ((0:Int)≤(IntKind.wrap .i64 ((65:Int)+(IntKind.wrap .i64 (a0.getD 64 (0:Int)))))))&&(decide ((IntKind.wrap .i64 ((65:Int)+(IntKind.wrap .i64 (a0.getD 64 (0:Int)))))≤(a0.length:Int))))
 (bindO (impl_ValidEntry_r ((cutL a0 65 ((IntKind.wrap .i64 ((65:Int)+(IntKind.wrap .i64 (a0.getD 64 (0:Int))))).toNat)),((cutL a0 ((IntKind.wrap .i64 ((65:Int)+(IntKind.wrap .i64 (a0.getD 64 (0:Int))))).toNat) (a0.length)),()))) fun(b1:Bool)=>(cond (!b1)
 (some (((List.replicate 32 (0:Int)),((List.replicate 32 (0:Int)),(([],([],())),()))),(5:Int)))
 (some (((a0.take 32),(((cutL a0 32 (a0.length)).take 32),(((cutL a0 65 ((IntKind.wrap .i64 ((65:Int)+(IntKind.wrap .i64 (a0.getD 64 (0:Int))))).toNat)),((cutL a0 ((IntKind.wrap .i64 ((65:Int)+(IntKind.wrap .i64 (a0.getD 64 (0:Int))))).toNat) (a0.length)),())),()))),(0:Int)))))
 none)
 none)
 none)
 none)
 none)
 none)
 none))
 none))
theorem f101_run(a0:(List Int)):fnK (f101_cx FUEL) 8 101 f101_i impl_ReadMapNode_sh [.pv K20 a0]=impl_ReadMapNode_r a0:=by kernel_rfl

def f101_con:Con:={ps:=K14,sh:=impl_ReadMapNode_sh,raw:=fun x=>impl_ReadMapNode_r x.1}
theorem f101_conOk:ConOk Tryz.prog 101 f101_con:=con_of_fn (f101_tabs FUEL) (depth:=8) f101_ok fun x y h=>(f101_run x.1).trans h

def f144_cx(k:Nat):Cx:=mkC [] [(108,f108_con)] [] [] [] k [] false
theorem f144_tabs(k:Nat):TabsOk Tryz.prog (f144_cx k):=mkC_ok ⟨f108_conOk,trivial⟩ trivial trivial trivial
abbrev impl_EmptyMapKey_sh:List Sh:=[.pl (.arr 32 (.int .u8))]
abbrev Q6:Type:=Option (shDen impl_EmptyMapKey_sh)
def impl_EmptyMapKey_r:Q6:=
 (bindO (impl_hash_r (5:Int) []) fun(b1:(List Int))=>(some b1))
theorem f144_run:fnK (f144_cx FUEL) 8 144 f144_i impl_EmptyMapKey_sh []=impl_EmptyMapKey_r:=by kernel_rfl

def f144_con:Con:={ps:= .unit,sh:=impl_EmptyMapKey_sh,raw:=fun x=>impl_EmptyMapKey_r}
theorem f144_conOk:ConOk Tryz.prog 144 f144_con:=con_of_fn (f144_tabs FUEL) (depth:=8) f144_ok fun x y h=>(f144_run).trans h

def f162_l0_cut:Cut:={keep:=[0,1,7,8],stk:=[[0,1],[]],ids:=[60,340],own:=[],outs:=[(0,[4],[60,340]),(1,[],[60,340])]}
def f162_l1_cut:Cut:={keep:=[0,1,5,6],stk:=[[]],ids:=[60,340],own:=[],outs:=[(1,[0,5],[340])]}
def f162_cx(k:Nat):Cx:=mkC [(118,f118_i),(160,f160_i),(182,f182_i)] [(101,f101_con),(144,f144_con),(181,f181_con)] [] [] [(1620036011800100160,[(0,f162_l0_cut)]),(16200360118,[(0,f162_l1_cut)])] k [] false
theorem f162_tabs(k:Nat):TabsOk Tryz.prog (f162_cx k):=mkC_ok ⟨f101_conOk,f144_conOk,f181_conOk,trivial⟩ trivial trivial ⟨f118_ok,f160_ok,f182_ok,trivial⟩
abbrev impl_Blob_links_sh:List Sh:=[.own 35 (.arr 32 (.int .u8))]
abbrev Q4:Type:=Option (shDen impl_Blob_links_sh)
def f162_l0_s(a0:T10)(y40:T0)(y60:(List Int))(z340:T15)(x8:Int):St:={env:=(.sl 340 (.arr 32 (.int .u8)):: .fn 182 (.pr (.ptr 60 (.arr 32 (.int .u8)) []) (.pv .unit ()))::(dd 5 (.pv (.int .i64) (2:Int):: .pv (.int .i64) x8::(dd 10 [])))),stk:=[(.sl 340 (.arr 32 (.int .u8)):: .fn 182 (.pr (.ptr 60 (.arr 32 (.int .u8)) []) (.pv .unit ()))::(dd 40 [])),(dd 71 [])],heap:=[(10,.var K10 (.pv K10 a0)),(40,.var K2 (.pv K2 y40)),(60,.var (.arr 32 (.int .u8)) (.pv (.arr 32 (.int .u8)) y60)),(340,.arr 35 (.arr 32 (.int .u8)) z340)]}
def f162_l0_o(a0:T10)(y40:T0)(y60:(List Int))(z340:T15)(x4:Int):St:={env:=(dd 4 (.pv (.int .i64) x4::(dd 14 []))),stk:=[(.sl 340 (.arr 32 (.int .u8)):: .fn 182 (.pr (.ptr 60 (.arr 32 (.int .u8)) []) (.pv .unit ()))::(dd 40 [])),(dd 71 [])],heap:=[(10,.var K10 (.pv K10 a0)),(40,.var K2 (.pv K2 y40)),(60,.var (.arr 32 (.int .u8)) (.pv (.arr 32 (.int .u8)) y60)),(340,.arr 35 (.arr 32 (.int .u8)) z340)]}
def f162_l0_o0(a0:T10)(y40:T0)(y60:(List Int))(z340:T15):St:={env:=(dd 19 []),stk:=[(.sl 340 (.arr 32 (.int .u8)):: .fn 182 (.pr (.ptr 60 (.arr 32 (.int .u8)) []) (.pv .unit ()))::(dd 40 [])),(dd 71 [])],heap:=[(10,.var K10 (.pv K10 a0)),(40,.var K2 (.pv K2 y40)),(60,.var (.arr 32 (.int .u8)) (.pv (.arr 32 (.int .u8)) y60)),(340,.arr 35 (.arr 32 (.int .u8)) z340)]}
def f162_l1_s(a0:T10)(x5:Int)(x6:Int)(y40:T0)(y60:(List Int))(z340:T15):St:={env:=(.sl 340 (.arr 32 (.int .u8)):: .fn 182 (.pr (.ptr 60 (.arr 32 (.int .u8)) []) (.pv .unit ()))::(dd 3 (.pv (.int .i64) x5:: .pv (.int .i64) x6::(dd 35 [])))),stk:=[(dd 71 [])],heap:=[(10,.var K10 (.pv K10 a0)),(40,.var K2 (.pv K2 y40)),(60,.var (.arr 32 (.int .u8)) (.pv (.arr 32 (.int .u8)) y60)),(340,.arr 35 (.arr 32 (.int .u8)) z340)]}
def f162_l1_o0(a0:T10)(x5:Int)(y40:T0)(y60:(List Int))(z340:T15):St:={env:=(.sl 340 (.arr 32 (.int .u8))::(dd 4 (.pv (.int .i64) x5::(dd 36 [])))),stk:=[(dd 71 [])],heap:=[(10,.var K10 (.pv K10 a0)),(40,.var K2 (.pv K2 y40)),(60,.var (.arr 32 (.int .u8)) (.pv (.arr 32 (.int .u8)) y60)),(340,.arr 35 (.arr 32 (.int .u8)) z340)]}
def impl_Blob_links_l1_b(rec:Int→Int→T0→(List Int)→T15→Q4)(ke0:Int→T0→(List Int)→T15→Q4)(a0:T10)(x5:Int)(x6:Int)(y40:T0)(y60:(List Int))(z340:T15):Q4:=
 (cond (decide (x6<(z340.length:Int)))
 (cond ((decide ((0:Int)≤x6))&&(decide (x6<(z340.length:Int))))
 (cond (!(eqd (.arr 32 (.int .u8)) (z340.getD (x6.toNat) (List.replicate 32 (0:Int))) y60))
 (cond ((decide ((0:Int)≤x5))&&(decide (x5<(z340.length:Int))))
 (rec (IntKind.wrap .i64 (x5+(1:Int))) (IntKind.wrap .i64 (x6+(1:Int))) y40 y60 (z340.set (x5.toNat) (z340.getD (x6.toNat) (List.replicate 32 (0:Int)))))
 none)
 (rec x5 (IntKind.wrap .i64 (x6+(1:Int))) y40 y60 z340))
 none)
 (ke0 x5 y40 y60 z340))
def impl_Blob_links_l1_L(ke0:Int→T0→(List Int)→T15→Q4)(a0:T10):Nat→Int→Int→T0→(List Int)→T15→Q4
 |0=>fun _ _ _ _ _=>none
 |n+1=>impl_Blob_links_l1_b (impl_Blob_links_l1_L ke0 a0 n) ke0 a0
def impl_Blob_links_l0_b(rec:T0→(List Int)→T15→Int→Q4)(kr:T0→(List Int)→T15→Int→Q4)(ke0:T0→(List Int)→T15→Q4)(a0:T10)(y40:T0)(y60:(List Int))(z340:T15)(x8:Int):Q4:=
 (cond (decide (x8<(2:Int)))
 (cond ((decide ((0:Int)≤x8))&&(decide (x8<(z340.length:Int))))
 (cond (eqd (.arr 32 (.int .u8)) (z340.getD (x8.toNat) (List.replicate 32 (0:Int))) y60)
 (kr y40 y60 z340 x8)
 (rec y40 y60 z340 (IntKind.wrap .i64 (x8+(1:Int)))))
 none)
 (ke0 y40 y60 z340))
def impl_Blob_links_l0_L(kr:T0→(List Int)→T15→Int→Q4)(ke0:T0→(List Int)→T15→Q4)(a0:T10):Nat→T0→(List Int)→T15→Int→Q4
 |0=>fun _ _ _ _=>none
 |n+1=>impl_Blob_links_l0_b (impl_Blob_links_l0_L kr ke0 a0 n) kr ke0 a0
def impl_Blob_links_r(a0:T10):Q4:=
 (cond (decide (a0.1=(2:Int)))
 (cond (decide ((a0.2.1.length:Int)=(64:Int)))
 (bindO (impl_keysIn_r a0.2.1) fun(b1:T15)=>(some b1))
 (some []))
 (cond (decide (a0.1=(5:Int)))
 (bindO (impl_ReadMapNode_r a0.2.1) fun(b2:(T0×Int))=>(cond (decide (b2.2=(0:Int)))
 (bindO (impl_EmptyMapKey_r) fun(b3:(List Int))=>(impl_Blob_links_l0_L (fun y40 y60 z340 x4=>(cond (decide (x4=(-1:Int)))
 (some z340)
 (impl_Blob_links_l1_L (fun x5 y40 y60 z340=>(cond ((decide ((0:Int)≤x5))&&(decide (x5≤(z340.length:Int))))
 (cond ((decide ((0:Int)≤x5))&&(decide (x5≤((splL z340 (x5.toNat) (List.take ((z340.length)-(x5.toNat)) (List.replicate ((z340.length)-(x5.toNat)) (List.replicate 32 (0:Int))))).length:Int))))
 (some (List.take (x5.toNat) (splL z340 (x5.toNat) (List.take ((z340.length)-(x5.toNat)) (List.replicate ((z340.length)-(x5.toNat)) (List.replicate 32 (0:Int)))))))
 none)
 none)) a0 FUEL x4 (IntKind.wrap .i64 (x4+(1:Int))) y40 y60 z340))) (fun y40 y60 z340=>(some z340)) a0 FUEL b2.1 b3 [b2.1.1,b2.1.2.1] (0:Int)))
 (some [])))
 (cond (decide (a0.1=(6:Int)))
 (cond (decide ((Int.tmod (a0.2.1.length:Int) (32:Int))=(0:Int)))
 (bindO (impl_keysIn_r a0.2.1) fun(b4:T15)=>(some b4))
 (some []))
 (cond (decide (a0.1=(7:Int)))
 (cond (decide ((0:Int)<(a0.2.1.length:Int)))
 (cond (decide ((0:Int)<(a0.2.1.length:Int)))
 (cond (decide ((IntKind.wrap .i64 ((1:Int)+(IntKind.wrap .i64 ((32:Int)*(IntKind.wrap .i64 (a0.2.1.getD 0 (0:Int)))))))≤(a0.2.1.length:Int)))
 (cond (decide ((0:Int)<(a0.2.1.length:Int)))
 (cond ((decide ((0:Int)≤(IntKind.wrap .i64 ((1:Int)+(IntKind.wrap .i64 ((32:Int)*(IntKind.wrap .i64 (a0.2.1.getD 0 (0:Int)))))))))&&(decide ((IntKind.wrap .i64 ((1:Int)+(IntKind.wrap .i64 ((32:Int)*(IntKind.wrap .i64 (a0.2.1.getD 0 (0:Int)))))))≤(a0.2.1.length:Int))))
 (cond (decide ((1:Int)≤(IntKind.wrap .i64 ((1:Int)+(IntKind.wrap .i64 ((32:Int)*(IntKind.wrap .i64 (a0.2.1.getD 0 (0:Int)))))))))
 (bindO (impl_keysIn_r (cutL a0.2.1 1 ((IntKind.wrap .i64 ((1:Int)+(IntKind.wrap .i64 ((32:Int)*(IntKind.wrap .i64 (a0.2.1.getD 0 (0:Int))))))).toNat))) fun(b5:T15)=>(some b5))
 none)
 none)
 none)
 (some []))
 none)
 (some []))
 (some [])))))
def f162_l1_p(k:Nat)(K:Ex→St→Q4)(n:Nat)(a0:T10)(x5:Int)(x6:Int)(y40:T0)(y60:(List Int))(z340:T15):Q4:=loopK (f162_cx k) 1 (execK (f162_cx k) (callK (f162_cx k) 7) 1 16200360118 (sub f118_c [1,1,1,0,1,0,0])) f162_l1_cut K n (f162_l1_s a0 x5 x6 y40 y60 z340)

theorem f162_l1_exit0(k:Nat)(a0:T10)(x5:Int)(y40:T0)(y60:(List Int))(z340:T15):((blkK 0 (seqK (execK (f162_cx k) (callK (f162_cx k) 7) 1 16200360118 (sub f118_c [1,1,1,1])) (retK (f162_cx k) f118_i (some 36) 0 (opsRest (f162_cx k) (callK (f162_cx k) 8) 0 162 false (regOps (sub f162_c [1,0,1,1,0,1,1,1,0,1,1,0,1,0])) 6 (seqK (execK (f162_cx k) (callK (f162_cx k) 8) 0 162 (sub f162_c [1,0,1,1,0,1,1,1,0,1,1,0,1,1])) (blkK 0 (seqK (execK (f162_cx k) (callK (f162_cx k) 8) 0 162 (sub f162_c [1,1])) (finK (f162_cx k) f162_i impl_Blob_links_sh)))))))) (.exit 0) (f162_l1_o0 a0 x5 y40 y60 z340):Q4)=
 ((cond ((decide ((0:Int)≤x5))&&(decide (x5≤(z340.length:Int))))
 (cond ((decide ((0:Int)≤x5))&&(decide (x5≤((splL z340 (x5.toNat) (List.take ((z340.length)-(x5.toNat)) (List.replicate ((z340.length)-(x5.toNat)) (List.replicate 32 (0:Int))))).length:Int))))
 (some (List.take (x5.toNat) (splL z340 (x5.toNat) (List.take ((z340.length)-(x5.toNat)) (List.replicate ((z340.length)-(x5.toNat)) (List.replicate 32 (0:Int)))))))
 none)
 none):Q4):=by kernel_rfl

theorem f162_l1_round(k:Nat)(K:Ex→St→Q4)(n:Nat)(a0:T10)(x5:Int)(x6:Int)(y40:T0)(y60:(List Int))(z340:T15):(f162_l1_p k K (n+1) a0 x5 x6 y40 y60 z340:Q4)=impl_Blob_links_l1_b ((fun x5 x6 y40 y60 z340=>f162_l1_p k K n a0 x5 x6 y40 y60 z340)) (fun x5 y40 y60 z340=>K (.exit 0) (f162_l1_o0 a0 x5 y40 y60 z340)) a0 x5 x6 y40 y60 z340:=by kernel_rfl

theorem f162_l1_L_eq(K:Ex→St→Q4)(a0:T10):∀(n:Nat) (x5:Int) (x6:Int) (y40:T0) (y60:(List Int)) (z340:T15),(f162_l1_p FUEL K n a0 x5 x6 y40 y60 z340:Q4)=impl_Blob_links_l1_L (fun x5 y40 y60 z340=>K (.exit 0) (f162_l1_o0 a0 x5 y40 y60 z340)) a0 n x5 x6 y40 y60 z340:=by
 intro n
 induction n with
 |zero=>intros; rfl
 |succ n ih=>
  intro x5 x6 y40 y60 z340
  exact(f162_l1_round FUEL K n a0 x5 x6 y40 y60 z340).trans (congrArg (fun f=>impl_Blob_links_l1_b f (fun x5 y40 y60 z340=>K (.exit 0) (f162_l1_o0 a0 x5 y40 y60 z340)) a0 x5 x6 y40 y60 z340) (funext fun x5=>funext fun x6=>funext fun y40=>funext fun y60=>funext fun z340=>ih x5 x6 y40 y60 z340))

def f162_l0_p(k:Nat)(K:Ex→St→Q4)(n:Nat)(a0:T10)(y40:T0)(y60:(List Int))(z340:T15)(x8:Int):Q4:=loopK (f162_cx k) 2 (execK (f162_cx k) (callK (f162_cx k) 6) 2 1620036011800100160 (sub f160_c [1,0,1,0,0])) f162_l0_cut K n (f162_l0_s a0 y40 y60 z340 x8)

theorem f162_l0_ret(k:Nat)(a0:T10)(y40:T0)(y60:(List Int))(z340:T15)(x4:Int):((blkK 0 (seqK (execK (f162_cx k) (callK (f162_cx k) 6) 2 1620036011800100160 (sub f160_c [1,1])) (retK (f162_cx k) f160_i (some 10) 1 (opsRest (f162_cx k) (callK (f162_cx k) 7) 1 16200360118 false (regOps (sub f118_c [1,0])) 2 (seqK (execK (f162_cx k) (callK (f162_cx k) 7) 1 16200360118 (sub f118_c [1,1])) (retK (f162_cx k) f118_i (some 36) 0 (opsRest (f162_cx k) (callK (f162_cx k) 8) 0 162 false (regOps (sub f162_c [1,0,1,1,0,1,1,1,0,1,1,0,1,0])) 6 (seqK (execK (f162_cx k) (callK (f162_cx k) 8) 0 162 (sub f162_c [1,0,1,1,0,1,1,1,0,1,1,0,1,1])) (blkK 0 (seqK (execK (f162_cx k) (callK (f162_cx k) 8) 0 162 (sub f162_c [1,1])) (finK (f162_cx k) f162_i impl_Blob_links_sh))))))))))) .ret (f162_l0_o a0 y40 y60 z340 x4):Q4)=
 ((cond (decide (x4=(-1:Int)))
 (some z340)
 (loopK (f162_cx k) 1 (execK (f162_cx k) (callK (f162_cx k) 7) 1 16200360118 (sub f118_c [1,1,1,0,1,0,0])) f162_l1_cut (blkK 0 (seqK (execK (f162_cx k) (callK (f162_cx k) 7) 1 16200360118 (sub f118_c [1,1,1,1])) (retK (f162_cx k) f118_i (some 36) 0 (opsRest (f162_cx k) (callK (f162_cx k) 8) 0 162 false (regOps (sub f162_c [1,0,1,1,0,1,1,1,0,1,1,0,1,0])) 6 (seqK (execK (f162_cx k) (callK (f162_cx k) 8) 0 162 (sub f162_c [1,0,1,1,0,1,1,1,0,1,1,0,1,1])) (blkK 0 (seqK (execK (f162_cx k) (callK (f162_cx k) 8) 0 162 (sub f162_c [1,1])) (finK (f162_cx k) f162_i impl_Blob_links_sh)))))))) k (f162_l1_s a0 x4 (IntKind.wrap .i64 (x4+(1:Int))) y40 y60 z340))):Q4):=by kernel_rfl

theorem f162_l0_exit0(k:Nat)(a0:T10)(y40:T0)(y60:(List Int))(z340:T15):((blkK 0 (seqK (execK (f162_cx k) (callK (f162_cx k) 6) 2 1620036011800100160 (sub f160_c [1,1])) (retK (f162_cx k) f160_i (some 10) 1 (opsRest (f162_cx k) (callK (f162_cx k) 7) 1 16200360118 false (regOps (sub f118_c [1,0])) 2 (seqK (execK (f162_cx k) (callK (f162_cx k) 7) 1 16200360118 (sub f118_c [1,1])) (retK (f162_cx k) f118_i (some 36) 0 (opsRest (f162_cx k) (callK (f162_cx k) 8) 0 162 false (regOps (sub f162_c [1,0,1,1,0,1,1,1,0,1,1,0,1,0])) 6 (seqK (execK (f162_cx k) (callK (f162_cx k) 8) 0 162 (sub f162_c [1,0,1,1,0,1,1,1,0,1,1,0,1,1])) (blkK 0 (seqK (execK (f162_cx k) (callK (f162_cx k) 8) 0 162 (sub f162_c [1,1])) (finK (f162_cx k) f162_i impl_Blob_links_sh))))))))))) (.exit 0) (f162_l0_o0 a0 y40 y60 z340):Q4)=
 ((some z340):Q4):=by kernel_rfl

theorem f162_l0_round(k:Nat)(K:Ex→St→Q4)(n:Nat)(a0:T10)(y40:T0)(y60:(List Int))(z340:T15)(x8:Int):(f162_l0_p k K (n+1) a0 y40 y60 z340 x8:Q4)=impl_Blob_links_l0_b ((fun y40 y60 z340 x8=>f162_l0_p k K n a0 y40 y60 z340 x8)) (fun y40 y60 z340 x4=>K .ret (f162_l0_o a0 y40 y60 z340 x4)) (fun y40 y60 z340=>K (.exit 0) (f162_l0_o0 a0 y40 y60 z340)) a0 y40 y60 z340 x8:=by kernel_rfl

theorem f162_l0_L_eq(K:Ex→St→Q4)(a0:T10):∀(n:Nat) (y40:T0) (y60:(List Int)) (z340:T15) (x8:Int),(f162_l0_p FUEL K n a0 y40 y60 z340 x8:Q4)=impl_Blob_links_l0_L (fun y40 y60 z340 x4=>K .ret (f162_l0_o a0 y40 y60 z340 x4)) (fun y40 y60 z340=>K (.exit 0) (f162_l0_o0 a0 y40 y60 z340)) a0 n y40 y60 z340 x8:=by
 intro n
 induction n with
 |zero=>intros; rfl
 |succ n ih=>
  intro y40 y60 z340 x8
  exact(f162_l0_round FUEL K n a0 y40 y60 z340 x8).trans (congrArg (fun f=>impl_Blob_links_l0_b f (fun y40 y60 z340 x4=>K .ret (f162_l0_o a0 y40 y60 z340 x4)) (fun y40 y60 z340=>K (.exit 0) (f162_l0_o0 a0 y40 y60 z340)) a0 y40 y60 z340 x8) (funext fun y40=>funext fun y60=>funext fun z340=>funext fun x8=>ih y40 y60 z340 x8))

theorem f162_start(k:Nat)(a0:T10):fnK (f162_cx k) 8 162 f162_i impl_Blob_links_sh [.pv K10 a0]=
 ((cond (decide (a0.1=(2:Int)))
 (cond (decide ((a0.2.1.length:Int)=(64:Int)))
 (bindO (impl_keysIn_r a0.2.1) fun(b1:T15)=>(some b1))
 (some []))
 (cond (decide (a0.1=(5:Int)))
 (bindO (impl_ReadMapNode_r a0.2.1) fun(b2:(T0×Int))=>(cond (decide (b2.2=(0:Int)))
 (bindO (impl_EmptyMapKey_r) fun(b3:(List Int))=>(loopK (f162_cx k) 2 (execK (f162_cx k) (callK (f162_cx k) 6) 2 1620036011800100160 (sub f160_c [1,0,1,0,0])) f162_l0_cut (blkK 0 (seqK (execK (f162_cx k) (callK (f162_cx k) 6) 2 1620036011800100160 (sub f160_c [1,1])) (retK (f162_cx k) f160_i (some 10) 1 (opsRest (f162_cx k) (callK (f162_cx k) 7) 1 16200360118 false (regOps (sub f118_c [1,0])) 2 (seqK (execK (f162_cx k) (callK (f162_cx k) 7) 1 16200360118 (sub f118_c [1,1])) (retK (f162_cx k) f118_i (some 36) 0 (opsRest (f162_cx k) (callK (f162_cx k) 8) 0 162 false (regOps (sub f162_c [1,0,1,1,0,1,1,1,0,1,1,0,1,0])) 6 (seqK (execK (f162_cx k) (callK (f162_cx k) 8) 0 162 (sub f162_c [1,0,1,1,0,1,1,1,0,1,1,0,1,1])) (blkK 0 (seqK (execK (f162_cx k) (callK (f162_cx k) 8) 0 162 (sub f162_c [1,1])) (finK (f162_cx k) f162_i impl_Blob_links_sh))))))))))) k (f162_l0_s a0 b2.1 b3 [b2.1.1,b2.1.2.1] (0:Int))))
 (some [])))
 (cond (decide (a0.1=(6:Int)))
 (cond (decide ((Int.tmod (a0.2.1.length:Int) (32:Int))=(0:Int)))
 (bindO (impl_keysIn_r a0.2.1) fun(b4:T15)=>(some b4))
 (some []))
 (cond (decide (a0.1=(7:Int)))
 (cond (decide ((0:Int)<(a0.2.1.length:Int)))
 (cond (decide ((0:Int)<(a0.2.1.length:Int)))
 (cond (decide ((IntKind.wrap .i64 ((1:Int)+(IntKind.wrap .i64 ((32:Int)*(IntKind.wrap .i64 (a0.2.1.getD 0 (0:Int)))))))≤(a0.2.1.length:Int)))
 (cond (decide ((0:Int)<(a0.2.1.length:Int)))
 (cond ((decide ((0:Int)≤(IntKind.wrap .i64 ((1:Int)+(IntKind.wrap .i64 ((32:Int)*(IntKind.wrap .i64 (a0.2.1.getD 0 (0:Int)))))))))&&(decide ((IntKind.wrap .i64 ((1:Int)+(IntKind.wrap .i64 ((32:Int)*(IntKind.wrap .i64 (a0.2.1.getD 0 (0:Int)))))))≤(a0.2.1.length:Int))))
 (cond (decide ((1:Int)≤(IntKind.wrap .i64 ((1:Int)+(IntKind.wrap .i64 ((32:Int)*(IntKind.wrap .i64 (a0.2.1.getD 0 (0:Int)))))))))
 (bindO (impl_keysIn_r (cutL a0.2.1 1 ((IntKind.wrap .i64 ((1:Int)+(IntKind.wrap .i64 ((32:Int)*(IntKind.wrap .i64 (a0.2.1.getD 0 (0:Int))))))).toNat))) fun(b5:T15)=>(some b5))
 none)
 none)
 none)
 (some []))
 none)
 (some []))
 (some []))))):Q4):=by kernel_rfl

theorem f162_run(a0:T10):fnK (f162_cx FUEL) 8 162 f162_i impl_Blob_links_sh [.pv K10 a0]=impl_Blob_links_r a0:=
 (f162_start FUEL a0).trans (condC (rfl) (condC (bindC (fun b2=>condC (bindC (fun b3=>(f162_l0_L_eq _ a0 FUEL b2.1 b3 [b2.1.1,b2.1.2.1] (0:Int)).trans (cong2 (fun e0 e1=>impl_Blob_links_l0_L e0 e1 a0 FUEL b2.1 b3 [b2.1.1,b2.1.2.1] (0:Int)) (funext fun y40=>funext fun y60=>funext fun z340=>funext fun x4=>(f162_l0_ret FUEL a0 y40 y60 z340 x4).trans (condC (rfl) ((f162_l1_L_eq _ a0 FUEL x4 (IntKind.wrap .i64 (x4+(1:Int))) y40 y60 z340).trans (congrArg (fun e0=>impl_Blob_links_l1_L e0 a0 FUEL x4 (IntKind.wrap .i64 (x4+(1:Int))) y40 y60 z340) (funext fun x5=>funext fun y40=>funext fun y60=>funext fun z340=>(f162_l1_exit0 FUEL a0 x5 y40 y60 z340).trans (rfl)))))) (funext fun y40=>funext fun y60=>funext fun z340=>(f162_l0_exit0 FUEL a0 y40 y60 z340).trans (rfl))))) (rfl))) (rfl)))

def f162_con:Con:={ps:=K7,sh:=impl_Blob_links_sh,raw:=fun x=>impl_Blob_links_r x.1}
theorem f162_conOk:ConOk Tryz.prog 162 f162_con:=con_of_fn (f162_tabs FUEL) (depth:=8) f162_ok fun x y h=>(f162_run x.1).trans h

def f119_l0_cut:Cut:={keep:=[0,5,7,18,19,20],stk:=[],ids:=[50,60,150,160],own:=[],outs:=[(1,[0,5,7],[50,60,150,160])]}
def f119_l1_cut:Cut:={keep:=[0,5,7,10],stk:=[],ids:=[50,60,150,160],own:=[],outs:=[(3,[5],[50,150])]}
def f119_l2_cut:Cut:={keep:=[0,5,7,10,45,46,47],stk:=[],ids:=[50,60,150,160,450],own:=[],outs:=[(5,[0,5,7,10],[50,60,150,160])]}
def f119_cx(k:Nat):Cx:=mkC [(161,f161_i)] [(76,f76_con),(162,f162_con)] [] [] [(119,[(0,f119_l0_cut),(2,f119_l1_cut),(4,f119_l2_cut)])] k [] false
theorem f119_tabs(k:Nat):TabsOk Tryz.prog (f119_cx k):=mkC_ok ⟨f76_conOk,f162_conOk,trivial⟩ trivial trivial ⟨f161_ok,trivial⟩
abbrev impl_shop_reach_sh:List Sh:=[.own 35 (.arr 32 (.int .u8))]
abbrev Q28:Type:=Option (shDen impl_shop_reach_sh)
def f119_l0_s(a0:T2)(a1:T15)(x20:Int)(z150:T15)(z160:T12):St:={env:=(.pv (.ref K1) a0::(dd 4 (.ptr 50 K16 []:: .dead:: .fn 161 (.pr (.ptr 60 (.opt .unit) []) (.pr (.ptr 50 K16 []) (.pv .unit ())))::(dd 10 (.pv K16 a1:: .pv (.int .i64) (a1.length:Int):: .pv (.int .i64) x20::(dd 35 [])))))),stk:=[],heap:=[(50,.var K16 (.sl 150 (.arr 32 (.int .u8)))),(60,.var (.opt .unit) (.inn 160 [.fld 0] .bool)),(150,.arr 35 (.arr 32 (.int .u8)) z150),(160,.map (.arr 32 (.int .u8)) .bool z160)]}
def f119_l0_o0(a0:T2)(z150:T15)(z160:T12):St:={env:=(.pv (.ref K1) a0::(dd 4 (.ptr 50 K16 []:: .dead:: .fn 161 (.pr (.ptr 60 (.opt .unit) []) (.pr (.ptr 50 K16 []) (.pv .unit ())))::(dd 48 [])))),stk:=[],heap:=[(50,.var K16 (.sl 150 (.arr 32 (.int .u8)))),(60,.var (.opt .unit) (.inn 160 [.fld 0] .bool)),(150,.arr 35 (.arr 32 (.int .u8)) z150),(160,.map (.arr 32 (.int .u8)) .bool z160)]}
def f119_l1_s(a0:T2)(z150:T15)(z160:T12)(x10:Int):St:={env:=(.pv (.ref K1) a0::(dd 4 (.ptr 50 K16 []:: .dead:: .fn 161 (.pr (.ptr 60 (.opt .unit) []) (.pr (.ptr 50 K16 []) (.pv .unit ()))):: .dead:: .dead:: .pv (.int .i64) x10::(dd 45 [])))),stk:=[],heap:=[(50,.var K16 (.sl 150 (.arr 32 (.int .u8)))),(60,.var (.opt .unit) (.inn 160 [.fld 0] .bool)),(150,.arr 35 (.arr 32 (.int .u8)) z150),(160,.map (.arr 32 (.int .u8)) .bool z160)]}
def f119_l1_o2(z150:T15):St:={env:=(dd 5 (.ptr 50 K16 []::(dd 50 []))),stk:=[],heap:=[(50,.var K16 (.sl 150 (.arr 32 (.int .u8)))),(150,.arr 35 (.arr 32 (.int .u8)) z150)]}
def f119_l2_s(a0:T2)(x10:Int)(x46:Int)(z450:T15)(x47:Int)(z150:T15)(z160:T12):St:={env:=(.pv (.ref K1) a0::(dd 4 (.ptr 50 K16 []:: .dead:: .fn 161 (.pr (.ptr 60 (.opt .unit) []) (.pr (.ptr 50 K16 []) (.pv .unit ()))):: .dead:: .dead:: .pv (.int .i64) x10::(dd 34 (.sl 450 (.arr 32 (.int .u8)):: .pv (.int .i64) x46:: .pv (.int .i64) x47::(dd 8 [])))))),stk:=[],heap:=[(50,.var K16 (.sl 150 (.arr 32 (.int .u8)))),(60,.var (.opt .unit) (.inn 160 [.fld 0] .bool)),(150,.arr 35 (.arr 32 (.int .u8)) z150),(160,.map (.arr 32 (.int .u8)) .bool z160),(450,.arr 35 (.arr 32 (.int .u8)) z450)]}
def f119_l2_o4(a0:T2)(x10:Int)(z150:T15)(z160:T12):St:={env:=(.pv (.ref K1) a0::(dd 4 (.ptr 50 K16 []:: .dead:: .fn 161 (.pr (.ptr 60 (.opt .unit) []) (.pr (.ptr 50 K16 []) (.pv .unit ()))):: .dead:: .dead:: .pv (.int .i64) x10::(dd 45 [])))),stk:=[],heap:=[(50,.var K16 (.sl 150 (.arr 32 (.int .u8)))),(60,.var (.opt .unit) (.inn 160 [.fld 0] .bool)),(150,.arr 35 (.arr 32 (.int .u8)) z150),(160,.map (.arr 32 (.int .u8)) .bool z160)]}
def impl_shop_reach_l2_b(rec:Int→T15→Int→T15→T12→Q28)(ke4:T15→T12→Q28)(a0:T2)(x10:Int)(x46:Int)(z450:T15)(x47:Int)(z150:T15)(z160:T12):Q28:=
 (cond (decide (x47<x46))
 (cond ((decide ((0:Int)≤x47))&&(decide (x47<(z450.length:Int))))
 (cond (!((lookM (.arr 32 (.int .u8)) .bool z160 (z450.getD (x47.toNat) (List.replicate 32 (0:Int)))).getD false))
 (cond (decide ((z150.length+1)*32≤140737488355328)&&decide (z150.length+1≤9223372036854775807))
 (rec x46 z450 (IntKind.wrap .i64 (x47+(1:Int))) (z150++[(z450.getD (x47.toNat) (List.replicate 32 (0:Int)))]) (setM (.arr 32 (.int .u8)) .bool z160 (z450.getD (x47.toNat) (List.replicate 32 (0:Int))) true))
 none)
 (rec x46 z450 (IntKind.wrap .i64 (x47+(1:Int))) z150 z160))
 none)
 (ke4 z150 z160))
def impl_shop_reach_l2_L(ke4:T15→T12→Q28)(a0:T2)(x10:Int):Nat→Int→T15→Int→T15→T12→Q28
 |0=>fun _ _ _ _ _=>none
 |n+1=>impl_shop_reach_l2_b (impl_shop_reach_l2_L ke4 a0 x10 n) ke4 a0 x10
def impl_shop_reach_l1_b(rec:T15→T12→Int→Q28)(ke2:T15→Q28)(a0:T2)(z150:T15)(z160:T12)(x10:Int):Q28:=
 (cond (decide (x10<(z150.length:Int)))
 (cond ((decide ((0:Int)≤x10))&&(decide (x10<(z150.length:Int))))
 (bindO (impl_shop_get_r a0 (z150.getD (x10.toNat) (List.replicate 32 (0:Int)))) fun(b3:(T10×Bool))=>(cond b3.2
 (bindO (impl_Blob_links_r b3.1) fun(b4:T15)=>(impl_shop_reach_l2_L (fun z150 z160=>(rec z150 z160 (IntKind.wrap .i64 (x10+(1:Int))))) a0 x10 FUEL (b4.length:Int) b4 (0:Int) z150 z160))
 (rec z150 z160 (IntKind.wrap .i64 (x10+(1:Int))))))
 none)
 (ke2 z150))
def impl_shop_reach_l1_L(ke2:T15→Q28)(a0:T2):Nat→T15→T12→Int→Q28
 |0=>fun _ _ _=>none
 |n+1=>impl_shop_reach_l1_b (impl_shop_reach_l1_L ke2 a0 n) ke2 a0
def impl_shop_reach_l0_b(rec:Int→T15→T12→Q28)(ke0:T15→T12→Q28)(a0:T2)(a1:T15)(x20:Int)(z150:T15)(z160:T12):Q28:=
 (cond (decide (x20<(a1.length:Int)))
 (cond ((decide ((0:Int)≤x20))&&(decide (x20<(a1.length:Int))))
 (cond (!((lookM (.arr 32 (.int .u8)) .bool z160 (a1.getD (x20.toNat) (List.replicate 32 (0:Int)))).getD false))
 (cond (decide ((z150.length+1)*32≤140737488355328)&&decide (z150.length+1≤9223372036854775807))
 (rec (IntKind.wrap .i64 (x20+(1:Int))) (z150++[(a1.getD (x20.toNat) (List.replicate 32 (0:Int)))]) (setM (.arr 32 (.int .u8)) .bool z160 (a1.getD (x20.toNat) (List.replicate 32 (0:Int))) true))
 none)
 (rec (IntKind.wrap .i64 (x20+(1:Int))) z150 z160))
 none)
 (ke0 z150 z160))
def impl_shop_reach_l0_L(ke0:T15→T12→Q28)(a0:T2)(a1:T15):Nat→Int→T15→T12→Q28
 |0=>fun _ _ _=>none
 |n+1=>impl_shop_reach_l0_b (impl_shop_reach_l0_L ke0 a0 a1 n) ke0 a0 a1
def impl_shop_reach_r(a0:T2)(a1:T15):Q28:=
 (impl_shop_reach_l0_L (fun z150 z160=>(impl_shop_reach_l1_L (fun z150=>(some z150)) a0 FUEL z150 z160 (0:Int))) a0 a1 FUEL (0:Int) [] [])
def f119_l2_p(k:Nat)(K:Ex→St→Q28)(n:Nat)(a0:T2)(x10:Int)(x46:Int)(z450:T15)(x47:Int)(z150:T15)(z160:T12):Q28:=loopK (f119_cx k) 0 (execK (f119_cx k) (callK (f119_cx k) 8) 0 119 (sub f119_c [1,1,1,1,0,1,0,0,1,0,0,1,1,0,1,0,0])) f119_l2_cut K n (f119_l2_s a0 x10 x46 z450 x47 z150 z160)

theorem f119_l2_exit4(k:Nat)(K:Ex→St→Q28)(n:Nat)(a0:T2)(x10:Int)(z150:T15)(z160:T12):((blkK 4 (blkK 3 (seqK (execK (f119_cx k) (callK (f119_cx k) 8) 0 119 (sub f119_c [1,1,1,1,0,1,0,0,1,1])) (iterK (f119_cx k) 0 f119_l1_cut (loopK (f119_cx k) 0 (execK (f119_cx k) (callK (f119_cx k) 8) 0 119 (sub f119_c [1,1,1,1,0,1,0,0])) f119_l1_cut K n) K)))) (.exit 4) (f119_l2_o4 a0 x10 z150 z160):Q28)=
 ((loopK (f119_cx k) 0 (execK (f119_cx k) (callK (f119_cx k) 8) 0 119 (sub f119_c [1,1,1,1,0,1,0,0])) f119_l1_cut K n (f119_l1_s a0 z150 z160 (IntKind.wrap .i64 (x10+(1:Int))))):Q28):=by kernel_rfl

theorem f119_l2_round(k:Nat)(K:Ex→St→Q28)(n:Nat)(a0:T2)(x10:Int)(x46:Int)(z450:T15)(x47:Int)(z150:T15)(z160:T12):(f119_l2_p k K (n+1) a0 x10 x46 z450 x47 z150 z160:Q28)=impl_shop_reach_l2_b ((fun x46 z450 x47 z150 z160=>f119_l2_p k K n a0 x10 x46 z450 x47 z150 z160)) (fun z150 z160=>K (.exit 4) (f119_l2_o4 a0 x10 z150 z160)) a0 x10 x46 z450 x47 z150 z160:=by kernel_rfl

theorem f119_l2_L_eq(K:Ex→St→Q28)(a0:T2)(x10:Int):∀(n:Nat) (x46:Int) (z450:T15) (x47:Int) (z150:T15) (z160:T12),(f119_l2_p FUEL K n a0 x10 x46 z450 x47 z150 z160:Q28)=impl_shop_reach_l2_L (fun z150 z160=>K (.exit 4) (f119_l2_o4 a0 x10 z150 z160)) a0 x10 n x46 z450 x47 z150 z160:=by
 intro n
 induction n with
 |zero=>intros; rfl
 |succ n ih=>
  intro x46 z450 x47 z150 z160
  exact(f119_l2_round FUEL K n a0 x10 x46 z450 x47 z150 z160).trans (congrArg (fun f=>impl_shop_reach_l2_b f (fun z150 z160=>K (.exit 4) (f119_l2_o4 a0 x10 z150 z160)) a0 x10 x46 z450 x47 z150 z160) (funext fun x46=>funext fun z450=>funext fun x47=>funext fun z150=>funext fun z160=>ih x46 z450 x47 z150 z160))

def f119_l1_p(k:Nat)(K:Ex→St→Q28)(n:Nat)(a0:T2)(z150:T15)(z160:T12)(x10:Int):Q28:=loopK (f119_cx k) 0 (execK (f119_cx k) (callK (f119_cx k) 8) 0 119 (sub f119_c [1,1,1,1,0,1,0,0])) f119_l1_cut K n (f119_l1_s a0 z150 z160 x10)

theorem f119_l1_round(k:Nat)(K:Ex→St→Q28)(n:Nat)(a0:T2)(z150:T15)(z160:T12)(x10:Int):(f119_l1_p k K (n+1) a0 z150 z160 x10:Q28)=
 ((cond (decide (x10<(z150.length:Int)))
 (cond ((decide ((0:Int)≤x10))&&(decide (x10<(z150.length:Int))))
 (bindO (impl_shop_get_r a0 (z150.getD (x10.toNat) (List.replicate 32 (0:Int)))) fun(b3:(T10×Bool))=>(cond b3.2
 (bindO (impl_Blob_links_r b3.1) fun(b4:T15)=>(loopK (f119_cx k) 0 (execK (f119_cx k) (callK (f119_cx k) 8) 0 119 (sub f119_c [1,1,1,1,0,1,0,0,1,0,0,1,1,0,1,0,0])) f119_l2_cut (blkK 4 (blkK 3 (seqK (execK (f119_cx k) (callK (f119_cx k) 8) 0 119 (sub f119_c [1,1,1,1,0,1,0,0,1,1])) (iterK (f119_cx k) 0 f119_l1_cut (loopK (f119_cx k) 0 (execK (f119_cx k) (callK (f119_cx k) 8) 0 119 (sub f119_c [1,1,1,1,0,1,0,0])) f119_l1_cut K n) K)))) k (f119_l2_s a0 x10 (b4.length:Int) b4 (0:Int) z150 z160)))
 (loopK (f119_cx k) 0 (execK (f119_cx k) (callK (f119_cx k) 8) 0 119 (sub f119_c [1,1,1,1,0,1,0,0])) f119_l1_cut K n (f119_l1_s a0 z150 z160 (IntKind.wrap .i64 (x10+(1:Int)))))))
 none)
 (K (.exit 2) (f119_l1_o2 z150))):Q28):=by kernel_rfl

theorem f119_l1_exit2(k:Nat)(z150:T15):((blkK 2 (seqK (execK (f119_cx k) (callK (f119_cx k) 8) 0 119 (sub f119_c [1,1,1,1,1])) (finK (f119_cx k) f119_i impl_shop_reach_sh))) (.exit 2) (f119_l1_o2 z150):Q28)=
 ((some z150):Q28):=by kernel_rfl

theorem f119_l1_L_eq(K:Ex→St→Q28)(a0:T2):∀(n:Nat) (z150:T15) (z160:T12) (x10:Int),(f119_l1_p FUEL K n a0 z150 z160 x10:Q28)=impl_shop_reach_l1_L (fun z150=>K (.exit 2) (f119_l1_o2 z150)) a0 n z150 z160 x10:=by
 intro n
 induction n with
 |zero=>intros; rfl
 |succ n ih=>
  intro z150 z160 x10
  exact(f119_l1_round FUEL K n a0 z150 z160 x10).trans (condC (condC (bindC (fun b3=>condC (bindC (fun b4=>(f119_l2_L_eq _ a0 x10 FUEL (b4.length:Int) b4 (0:Int) z150 z160).trans (congrArg (fun e0=>impl_shop_reach_l2_L e0 a0 x10 FUEL (b4.length:Int) b4 (0:Int) z150 z160) (funext fun z150=>funext fun z160=>(f119_l2_exit4 FUEL K n a0 x10 z150 z160).trans (ih z150 z160 (IntKind.wrap .i64 (x10+(1:Int)))))))) (ih z150 z160 (IntKind.wrap .i64 (x10+(1:Int)))))) (rfl)) (rfl))

def f119_l0_p(k:Nat)(K:Ex→St→Q28)(n:Nat)(a0:T2)(a1:T15)(x20:Int)(z150:T15)(z160:T12):Q28:=loopK (f119_cx k) 0 (execK (f119_cx k) (callK (f119_cx k) 8) 0 119 (sub f119_c [1,1,1,0,1,0,0])) f119_l0_cut K n (f119_l0_s a0 a1 x20 z150 z160)

theorem f119_l0_exit0(k:Nat)(a0:T2)(z150:T15)(z160:T12):((blkK 0 (seqK (execK (f119_cx k) (callK (f119_cx k) 8) 0 119 (sub f119_c [1,1,1,1])) (finK (f119_cx k) f119_i impl_shop_reach_sh))) (.exit 0) (f119_l0_o0 a0 z150 z160):Q28)=
 ((loopK (f119_cx k) 0 (execK (f119_cx k) (callK (f119_cx k) 8) 0 119 (sub f119_c [1,1,1,1,0,1,0,0])) f119_l1_cut (blkK 2 (seqK (execK (f119_cx k) (callK (f119_cx k) 8) 0 119 (sub f119_c [1,1,1,1,1])) (finK (f119_cx k) f119_i impl_shop_reach_sh))) k (f119_l1_s a0 z150 z160 (0:Int))):Q28):=by kernel_rfl

theorem f119_l0_round(k:Nat)(K:Ex→St→Q28)(n:Nat)(a0:T2)(a1:T15)(x20:Int)(z150:T15)(z160:T12):(f119_l0_p k K (n+1) a0 a1 x20 z150 z160:Q28)=impl_shop_reach_l0_b ((fun x20 z150 z160=>f119_l0_p k K n a0 a1 x20 z150 z160)) (fun z150 z160=>K (.exit 0) (f119_l0_o0 a0 z150 z160)) a0 a1 x20 z150 z160:=by kernel_rfl

theorem f119_l0_L_eq(K:Ex→St→Q28)(a0:T2)(a1:T15):∀(n:Nat) (x20:Int) (z150:T15) (z160:T12),(f119_l0_p FUEL K n a0 a1 x20 z150 z160:Q28)=impl_shop_reach_l0_L (fun z150 z160=>K (.exit 0) (f119_l0_o0 a0 z150 z160)) a0 a1 n x20 z150 z160:=by
 intro n
 induction n with
 |zero=>intros; rfl
 |succ n ih=>
  intro x20 z150 z160
  exact(f119_l0_round FUEL K n a0 a1 x20 z150 z160).trans (congrArg (fun f=>impl_shop_reach_l0_b f (fun z150 z160=>K (.exit 0) (f119_l0_o0 a0 z150 z160)) a0 a1 x20 z150 z160) (funext fun x20=>funext fun z150=>funext fun z160=>ih x20 z150 z160))

theorem f119_start(k:Nat)(a0:T2)(a1:T15):fnK (f119_cx k) 8 119 f119_i impl_shop_reach_sh [.pv (.ref K1) a0,.pv K16 a1]=
 ((loopK (f119_cx k) 0 (execK (f119_cx k) (callK (f119_cx k) 8) 0 119 (sub f119_c [1,1,1,0,1,0,0])) f119_l0_cut (blkK 0 (seqK (execK (f119_cx k) (callK (f119_cx k) 8) 0 119 (sub f119_c [1,1,1,1])) (finK (f119_cx k) f119_i impl_shop_reach_sh))) k (f119_l0_s a0 a1 (0:Int) [] [])):Q28):=by kernel_rfl

theorem f119_run(a0:T2)(a1:T15):fnK (f119_cx FUEL) 8 119 f119_i impl_shop_reach_sh [.pv (.ref K1) a0,.pv K16 a1]=impl_shop_reach_r a0 a1:=
 (f119_start FUEL a0 a1).trans ((f119_l0_L_eq _ a0 a1 FUEL (0:Int) [] []).trans (congrArg (fun e0=>impl_shop_reach_l0_L e0 a0 a1 FUEL (0:Int) [] []) (funext fun z150=>funext fun z160=>(f119_l0_exit0 FUEL a0 z150 z160).trans ((f119_l1_L_eq _ a0 FUEL z150 z160 (0:Int)).trans (congrArg (fun e0=>impl_shop_reach_l1_L e0 a0 FUEL z150 z160 (0:Int)) (funext fun z150=>(f119_l1_exit2 FUEL z150).trans (rfl)))))))

def f119_con:Con:={ps:=(.pair (.ref K1) K12),sh:=impl_shop_reach_sh,raw:=fun x=>impl_shop_reach_r x.1 x.2.1}
theorem f119_conOk:ConOk Tryz.prog 119 f119_con:=con_of_fn (f119_tabs FUEL) (depth:=8) f119_ok fun x y h=>(f119_run x.1 x.2.1).trans h

def f121_cx(k:Nat):Cx:=mkC [] [(123,f123_con)] [] [] [] k [] false
theorem f121_tabs(k:Nat):TabsOk Tryz.prog (f121_cx k):=mkC_ok ⟨f123_conOk,trivial⟩ trivial trivial trivial
abbrev impl_shop_has_sh:List Sh:=[.pl .bool]
abbrev Q27:Type:=Option (shDen impl_shop_has_sh)
def impl_shop_has_r(a0:T2)(a1:(List Int)):Q27:=
 (bindO (impl_shop_find_r a0 a1) fun(b1:(Int×Bool))=>(some b1.2))
theorem f121_run(a0:T2)(a1:(List Int)):fnK (f121_cx FUEL) 8 121 f121_i impl_shop_has_sh [.pv (.ref K1) a0,.pv (.arr 32 (.int .u8)) a1]=impl_shop_has_r a0 a1:=by kernel_rfl

def f121_con:Con:={ps:=(.pair (.ref K1) K13),sh:=impl_shop_has_sh,raw:=fun x=>impl_shop_has_r x.1 x.2.1}
theorem f121_conOk:ConOk Tryz.prog 121 f121_con:=con_of_fn (f121_tabs FUEL) (depth:=8) f121_ok fun x y h=>(f121_run x.1 x.2.1).trans h

def f74_l0_cut:Cut:={keep:=[0,1,7,8],stk:=[[0,1],[]],ids:=[30,50,90],own:=[],outs:=[(0,[4],[30,50,90]),(1,[],[30,50,90])]}
def f74_l1_cut:Cut:={keep:=[0,1,5,6],stk:=[[]],ids:=[30,50,90],own:=[],outs:=[(1,[0,5],[90])]}
def f74_cx(k:Nat):Cx:=mkC [(118,f118_i),(120,f120_i),(160,f160_i)] [(117,f117_con),(119,f119_con),(121,f121_con)] [] [] [(740011011800100160,[(0,f74_l0_cut)]),(7400110118,[(0,f74_l1_cut)])] k [] false
theorem f74_tabs(k:Nat):TabsOk Tryz.prog (f74_cx k):=mkC_ok ⟨f117_conOk,f119_conOk,f121_conOk,trivial⟩ trivial trivial ⟨f118_ok,f120_ok,f160_ok,trivial⟩
abbrev impl_shop_reached_sh:List Sh:=[.own 35 (.arr 32 (.int .u8))]
abbrev Q29:Type:=Option (shDen impl_shop_reached_sh)
def f74_l0_s(a0:T2)(a2:Bool)(x7:Int)(z90:T15)(x8:Int):St:={env:=(.sl 90 (.arr 32 (.int .u8)):: .fn 120 (.pr (.ptr 30 (.opt K1) []) (.pr (.ptr 50 .bool []) (.pv .unit ())))::(dd 5 (.pv (.int .i64) x7:: .pv (.int .i64) x8::(dd 10 [])))),stk:=[(.sl 90 (.arr 32 (.int .u8)):: .fn 120 (.pr (.ptr 30 (.opt K1) []) (.pr (.ptr 50 .bool []) (.pv .unit ())))::(dd 40 [])),(dd 13 [])],heap:=[(30,.var (.opt K1) (.pv (.opt K1) (some a0))),(50,.var .bool (.pv .bool a2)),(90,.arr 35 (.arr 32 (.int .u8)) z90)]}
def f74_l0_o(a0:T2)(a2:Bool)(z90:T15)(x4:Int):St:={env:=(dd 4 (.pv (.int .i64) x4::(dd 14 []))),stk:=[(.sl 90 (.arr 32 (.int .u8)):: .fn 120 (.pr (.ptr 30 (.opt K1) []) (.pr (.ptr 50 .bool []) (.pv .unit ())))::(dd 40 [])),(dd 13 [])],heap:=[(30,.var (.opt K1) (.pv (.opt K1) (some a0))),(50,.var .bool (.pv .bool a2)),(90,.arr 35 (.arr 32 (.int .u8)) z90)]}
def f74_l0_o0(a0:T2)(a2:Bool)(z90:T15):St:={env:=(dd 19 []),stk:=[(.sl 90 (.arr 32 (.int .u8)):: .fn 120 (.pr (.ptr 30 (.opt K1) []) (.pr (.ptr 50 .bool []) (.pv .unit ())))::(dd 40 [])),(dd 13 [])],heap:=[(30,.var (.opt K1) (.pv (.opt K1) (some a0))),(50,.var .bool (.pv .bool a2)),(90,.arr 35 (.arr 32 (.int .u8)) z90)]}
def f74_l1_s(a0:T2)(a2:Bool)(x5:Int)(x6:Int)(z90:T15):St:={env:=(.sl 90 (.arr 32 (.int .u8)):: .fn 120 (.pr (.ptr 30 (.opt K1) []) (.pr (.ptr 50 .bool []) (.pv .unit ())))::(dd 3 (.pv (.int .i64) x5:: .pv (.int .i64) x6::(dd 35 [])))),stk:=[(dd 13 [])],heap:=[(30,.var (.opt K1) (.pv (.opt K1) (some a0))),(50,.var .bool (.pv .bool a2)),(90,.arr 35 (.arr 32 (.int .u8)) z90)]}
def f74_l1_o0(a0:T2)(a2:Bool)(x5:Int)(z90:T15):St:={env:=(.sl 90 (.arr 32 (.int .u8))::(dd 4 (.pv (.int .i64) x5::(dd 36 [])))),stk:=[(dd 13 [])],heap:=[(30,.var (.opt K1) (.pv (.opt K1) (some a0))),(50,.var .bool (.pv .bool a2)),(90,.arr 35 (.arr 32 (.int .u8)) z90)]}
def impl_shop_reached_l1_b(rec:Int→Int→T15→Q29)(ke0:Int→T15→Q29)(a0:T2)(a2:Bool)(x5:Int)(x6:Int)(z90:T15):Q29:=
 (cond (decide (x6<(z90.length:Int)))
 (cond ((decide ((0:Int)≤x6))&&(decide (x6<(z90.length:Int))))
 (bindO (impl_shop_has_r a0 (z90.getD (x6.toNat) (List.replicate 32 (0:Int)))) fun(b6:Bool)=>(cond (!(!(decide (b6=a2))))
 (cond ((decide ((0:Int)≤x5))&&(decide (x5<(z90.length:Int))))
 (rec (IntKind.wrap .i64 (x5+(1:Int))) (IntKind.wrap .i64 (x6+(1:Int))) (z90.set (x5.toNat) (z90.getD (x6.toNat) (List.replicate 32 (0:Int)))))
 none)
 (rec x5 (IntKind.wrap .i64 (x6+(1:Int))) z90)))
 none)
 (ke0 x5 z90))
def impl_shop_reached_l1_L(ke0:Int→T15→Q29)(a0:T2)(a2:Bool):Nat→Int→Int→T15→Q29
 |0=>fun _ _ _=>none
 |n+1=>impl_shop_reached_l1_b (impl_shop_reached_l1_L ke0 a0 a2 n) ke0 a0 a2
def impl_shop_reached_l0_b(rec:Int→T15→Int→Q29)(kr:T15→Int→Q29)(ke0:T15→Q29)(a0:T2)(a2:Bool)(x7:Int)(z90:T15)(x8:Int):Q29:=
 (cond (decide (x8<x7))
 (cond ((decide ((0:Int)≤x8))&&(decide (x8<(z90.length:Int))))
 (bindO (impl_shop_has_r a0 (z90.getD (x8.toNat) (List.replicate 32 (0:Int)))) fun(b3:Bool)=>(cond (!(decide (b3=a2)))
 (kr z90 x8)
 (rec x7 z90 (IntKind.wrap .i64 (x8+(1:Int))))))
 none)
 (ke0 z90))
def impl_shop_reached_l0_L(kr:T15→Int→Q29)(ke0:T15→Q29)(a0:T2)(a2:Bool):Nat→Int→T15→Int→Q29
 |0=>fun _ _ _=>none
 |n+1=>impl_shop_reached_l0_b (impl_shop_reached_l0_L kr ke0 a0 a2 n) kr ke0 a0 a2
def impl_shop_reached_r(a0:T2)(a1:T15)(a2:Bool):Q29:=
 (bindO (impl_shop_reach_r a0 a1) fun(b1:T15)=>(impl_shop_reached_l0_L (fun z90 x4=>(cond (decide (x4=(-1:Int)))
 (bindO (impl_sorted_r z90) fun(b4:T15)=>(some b4))
 (impl_shop_reached_l1_L (fun x5 z90=>(cond ((decide ((0:Int)≤x5))&&(decide (x5≤(z90.length:Int))))
 (cond ((decide ((0:Int)≤x5))&&(decide (x5≤((splL z90 (x5.toNat) (List.take ((z90.length)-(x5.toNat)) (List.replicate ((z90.length)-(x5.toNat)) (List.replicate 32 (0:Int))))).length:Int))))
 (bindO (impl_sorted_r (List.take (x5.toNat) (splL z90 (x5.toNat) (List.take ((z90.length)-(x5.toNat)) (List.replicate ((z90.length)-(x5.toNat)) (List.replicate 32 (0:Int))))))) fun(b7:T15)=>(some b7))
 none)
 none)) a0 a2 FUEL x4 (IntKind.wrap .i64 (x4+(1:Int))) z90))) (fun z90=>(bindO (impl_sorted_r z90) fun(b5:T15)=>(some b5))) a0 a2 FUEL (b1.length:Int) b1 (0:Int)))
def f74_l1_p(k:Nat)(K:Ex→St→Q29)(n:Nat)(a0:T2)(a2:Bool)(x5:Int)(x6:Int)(z90:T15):Q29:=loopK (f74_cx k) 1 (execK (f74_cx k) (callK (f74_cx k) 7) 1 7400110118 (sub f118_c [1,1,1,0,1,0,0])) f74_l1_cut K n (f74_l1_s a0 a2 x5 x6 z90)

theorem f74_l1_exit0(k:Nat)(a0:T2)(a2:Bool)(x5:Int)(z90:T15):((blkK 0 (seqK (execK (f74_cx k) (callK (f74_cx k) 7) 1 7400110118 (sub f118_c [1,1,1,1])) (retK (f74_cx k) f118_i (some 11) 0 (opsRest (f74_cx k) (callK (f74_cx k) 8) 0 74 false (regOps (sub f74_c [1,0])) 4 (seqK (execK (f74_cx k) (callK (f74_cx k) 8) 0 74 (sub f74_c [1,1])) (finK (f74_cx k) f74_i impl_shop_reached_sh)))))) (.exit 0) (f74_l1_o0 a0 a2 x5 z90):Q29)=
 ((cond ((decide ((0:Int)≤x5))&&(decide (x5≤(z90.length:Int))))
 (cond ((decide ((0:Int)≤x5))&&(decide (x5≤((splL z90 (x5.toNat) (List.take ((z90.length)-(x5.toNat)) (List.replicate ((z90.length)-(x5.toNat)) (List.replicate 32 (0:Int))))).length:Int))))
 (bindO (impl_sorted_r (List.take (x5.toNat) (splL z90 (x5.toNat) (List.take ((z90.length)-(x5.toNat)) (List.replicate ((z90.length)-(x5.toNat)) (List.replicate 32 (0:Int))))))) fun(b7:T15)=>(some b7))
 none)
 none):Q29):=by kernel_rfl

theorem f74_l1_round(k:Nat)(K:Ex→St→Q29)(n:Nat)(a0:T2)(a2:Bool)(x5:Int)(x6:Int)(z90:T15):(f74_l1_p k K (n+1) a0 a2 x5 x6 z90:Q29)=impl_shop_reached_l1_b ((fun x5 x6 z90=>f74_l1_p k K n a0 a2 x5 x6 z90)) (fun x5 z90=>K (.exit 0) (f74_l1_o0 a0 a2 x5 z90)) a0 a2 x5 x6 z90:=by kernel_rfl

theorem f74_l1_L_eq(K:Ex→St→Q29)(a0:T2)(a2:Bool):∀(n:Nat) (x5:Int) (x6:Int) (z90:T15),(f74_l1_p FUEL K n a0 a2 x5 x6 z90:Q29)=impl_shop_reached_l1_L (fun x5 z90=>K (.exit 0) (f74_l1_o0 a0 a2 x5 z90)) a0 a2 n x5 x6 z90:=by
 intro n
 induction n with
 |zero=>intros; rfl
 |succ n ih=>
  intro x5 x6 z90
  exact(f74_l1_round FUEL K n a0 a2 x5 x6 z90).trans (congrArg (fun f=>impl_shop_reached_l1_b f (fun x5 z90=>K (.exit 0) (f74_l1_o0 a0 a2 x5 z90)) a0 a2 x5 x6 z90) (funext fun x5=>funext fun x6=>funext fun z90=>ih x5 x6 z90))

def f74_l0_p(k:Nat)(K:Ex→St→Q29)(n:Nat)(a0:T2)(a2:Bool)(x7:Int)(z90:T15)(x8:Int):Q29:=loopK (f74_cx k) 2 (execK (f74_cx k) (callK (f74_cx k) 6) 2 740011011800100160 (sub f160_c [1,0,1,0,0])) f74_l0_cut K n (f74_l0_s a0 a2 x7 z90 x8)

theorem f74_l0_ret(k:Nat)(a0:T2)(a2:Bool)(z90:T15)(x4:Int):((blkK 0 (seqK (execK (f74_cx k) (callK (f74_cx k) 6) 2 740011011800100160 (sub f160_c [1,1])) (retK (f74_cx k) f160_i (some 10) 1 (opsRest (f74_cx k) (callK (f74_cx k) 7) 1 7400110118 false (regOps (sub f118_c [1,0])) 2 (seqK (execK (f74_cx k) (callK (f74_cx k) 7) 1 7400110118 (sub f118_c [1,1])) (retK (f74_cx k) f118_i (some 11) 0 (opsRest (f74_cx k) (callK (f74_cx k) 8) 0 74 false (regOps (sub f74_c [1,0])) 4 (seqK (execK (f74_cx k) (callK (f74_cx k) 8) 0 74 (sub f74_c [1,1])) (finK (f74_cx k) f74_i impl_shop_reached_sh))))))))) .ret (f74_l0_o a0 a2 z90 x4):Q29)=
 ((cond (decide (x4=(-1:Int)))
 (bindO (impl_sorted_r z90) fun(b4:T15)=>(some b4))
 (loopK (f74_cx k) 1 (execK (f74_cx k) (callK (f74_cx k) 7) 1 7400110118 (sub f118_c [1,1,1,0,1,0,0])) f74_l1_cut (blkK 0 (seqK (execK (f74_cx k) (callK (f74_cx k) 7) 1 7400110118 (sub f118_c [1,1,1,1])) (retK (f74_cx k) f118_i (some 11) 0 (opsRest (f74_cx k) (callK (f74_cx k) 8) 0 74 false (regOps (sub f74_c [1,0])) 4 (seqK (execK (f74_cx k) (callK (f74_cx k) 8) 0 74 (sub f74_c [1,1])) (finK (f74_cx k) f74_i impl_shop_reached_sh)))))) k (f74_l1_s a0 a2 x4 (IntKind.wrap .i64 (x4+(1:Int))) z90))):Q29):=by kernel_rfl

theorem f74_l0_exit0(k:Nat)(a0:T2)(a2:Bool)(z90:T15):((blkK 0 (seqK (execK (f74_cx k) (callK (f74_cx k) 6) 2 740011011800100160 (sub f160_c [1,1])) (retK (f74_cx k) f160_i (some 10) 1 (opsRest (f74_cx k) (callK (f74_cx k) 7) 1 7400110118 false (regOps (sub f118_c [1,0])) 2 (seqK (execK (f74_cx k) (callK (f74_cx k) 7) 1 7400110118 (sub f118_c [1,1])) (retK (f74_cx k) f118_i (some 11) 0 (opsRest (f74_cx k) (callK (f74_cx k) 8) 0 74 false (regOps (sub f74_c [1,0])) 4 (seqK (execK (f74_cx k) (callK (f74_cx k) 8) 0 74 (sub f74_c [1,1])) (finK (f74_cx k) f74_i impl_shop_reached_sh))))))))) (.exit 0) (f74_l0_o0 a0 a2 z90):Q29)=
 ((bindO (impl_sorted_r z90) fun(b5:T15)=>(some b5)):Q29):=by kernel_rfl

theorem f74_l0_round(k:Nat)(K:Ex→St→Q29)(n:Nat)(a0:T2)(a2:Bool)(x7:Int)(z90:T15)(x8:Int):(f74_l0_p k K (n+1) a0 a2 x7 z90 x8:Q29)=impl_shop_reached_l0_b ((fun x7 z90 x8=>f74_l0_p k K n a0 a2 x7 z90 x8)) (fun z90 x4=>K .ret (f74_l0_o a0 a2 z90 x4)) (fun z90=>K (.exit 0) (f74_l0_o0 a0 a2 z90)) a0 a2 x7 z90 x8:=by kernel_rfl

theorem f74_l0_L_eq(K:Ex→St→Q29)(a0:T2)(a2:Bool):∀(n:Nat) (x7:Int) (z90:T15) (x8:Int),(f74_l0_p FUEL K n a0 a2 x7 z90 x8:Q29)=impl_shop_reached_l0_L (fun z90 x4=>K .ret (f74_l0_o a0 a2 z90 x4)) (fun z90=>K (.exit 0) (f74_l0_o0 a0 a2 z90)) a0 a2 n x7 z90 x8:=by
 intro n
 induction n with
 |zero=>intros; rfl
 |succ n ih=>
  intro x7 z90 x8
  exact(f74_l0_round FUEL K n a0 a2 x7 z90 x8).trans (congrArg (fun f=>impl_shop_reached_l0_b f (fun z90 x4=>K .ret (f74_l0_o a0 a2 z90 x4)) (fun z90=>K (.exit 0) (f74_l0_o0 a0 a2 z90)) a0 a2 x7 z90 x8) (funext fun x7=>funext fun z90=>funext fun x8=>ih x7 z90 x8))

theorem f74_start(k:Nat)(a0:T2)(a1:T15)(a2:Bool):fnK (f74_cx k) 8 74 f74_i impl_shop_reached_sh [.pv (.ref K1) a0,.pv K16 a1,.pv .bool a2]=
 ((bindO (impl_shop_reach_r a0 a1) fun(b1:T15)=>(loopK (f74_cx k) 2 (execK (f74_cx k) (callK (f74_cx k) 6) 2 740011011800100160 (sub f160_c [1,0,1,0,0])) f74_l0_cut (blkK 0 (seqK (execK (f74_cx k) (callK (f74_cx k) 6) 2 740011011800100160 (sub f160_c [1,1])) (retK (f74_cx k) f160_i (some 10) 1 (opsRest (f74_cx k) (callK (f74_cx k) 7) 1 7400110118 false (regOps (sub f118_c [1,0])) 2 (seqK (execK (f74_cx k) (callK (f74_cx k) 7) 1 7400110118 (sub f118_c [1,1])) (retK (f74_cx k) f118_i (some 11) 0 (opsRest (f74_cx k) (callK (f74_cx k) 8) 0 74 false (regOps (sub f74_c [1,0])) 4 (seqK (execK (f74_cx k) (callK (f74_cx k) 8) 0 74 (sub f74_c [1,1])) (finK (f74_cx k) f74_i impl_shop_reached_sh))))))))) k (f74_l0_s a0 a2 (b1.length:Int) b1 (0:Int)))):Q29):=by kernel_rfl

theorem f74_run(a0:T2)(a1:T15)(a2:Bool):fnK (f74_cx FUEL) 8 74 f74_i impl_shop_reached_sh [.pv (.ref K1) a0,.pv K16 a1,.pv .bool a2]=impl_shop_reached_r a0 a1 a2:=
 (f74_start FUEL a0 a1 a2).trans (bindC (fun b1=>(f74_l0_L_eq _ a0 a2 FUEL (b1.length:Int) b1 (0:Int)).trans (cong2 (fun e0 e1=>impl_shop_reached_l0_L e0 e1 a0 a2 FUEL (b1.length:Int) b1 (0:Int)) (funext fun z90=>funext fun x4=>(f74_l0_ret FUEL a0 a2 z90 x4).trans (condC (rfl) ((f74_l1_L_eq _ a0 a2 FUEL x4 (IntKind.wrap .i64 (x4+(1:Int))) z90).trans (congrArg (fun e0=>impl_shop_reached_l1_L e0 a0 a2 FUEL x4 (IntKind.wrap .i64 (x4+(1:Int))) z90) (funext fun x5=>funext fun z90=>(f74_l1_exit0 FUEL a0 a2 x5 z90).trans (rfl)))))) (funext fun z90=>(f74_l0_exit0 FUEL a0 a2 z90).trans (rfl)))))

def f74_con:Con:={ps:=(.pair (.ref K1) (.pair K16 (.pair .bool .unit))),sh:=impl_shop_reached_sh,raw:=fun x=>impl_shop_reached_r x.1 x.2.1 x.2.2.1}
theorem f74_conOk:ConOk Tryz.prog 74 f74_con:=con_of_fn (f74_tabs FUEL) (depth:=8) f74_ok fun x y h=>(f74_run x.1 x.2.1 x.2.2.1).trans h

def f122_l0_cut:Cut:={keep:=[0,3,7,8],stk:=[],ids:=[30],own:=[],outs:=[(0,[4],[]),(1,[],[])]}
def f122_cx(k:Nat):Cx:=mkC [] [] [] [] [(122,[(0,f122_l0_cut)])] k [] false
theorem f122_tabs(k:Nat):TabsOk Tryz.prog (f122_cx k):=mkC_ok trivial trivial trivial trivial
abbrev slices_Index_impl_Key_impl_Key_sh:List Sh:=[.pl (.int .i64)]
abbrev Q61:Type:=Option (shDen slices_Index_impl_Key_impl_Key_sh)
def f122_l0_s(a0:T15)(a1:(List Int))(x8:Int):St:={env:=(.pv K16 a0:: .dead:: .dead:: .ptr 30 (.arr 32 (.int .u8)) []::(dd 3 (.pv (.int .i64) (a0.length:Int):: .pv (.int .i64) x8::(dd 10 [])))),stk:=[],heap:=[(30,.var (.arr 32 (.int .u8)) (.pv (.arr 32 (.int .u8)) a1))]}
def f122_l0_o(x4:Int):St:={env:=(dd 4 (.pv (.int .i64) x4::(dd 14 []))),stk:=[],heap:=[]}
def f122_l0_o0:St:={env:=(dd 19 []),stk:=[],heap:=[]}
def slices_Index_impl_Key_impl_Key_l0_b(rec:Int→Q61)(kr:Int→Q61)(ke0:Q61)(a0:T15)(a1:(List Int))(x8:Int):Q61:=
 (cond (decide (x8<(a0.length:Int)))
 (cond ((decide ((0:Int)≤x8))&&(decide (x8<(a0.length:Int))))
 (cond (eqd (.arr 32 (.int .u8)) a1 (a0.getD (x8.toNat) (List.replicate 32 (0:Int))))
 (kr x8)
 (rec (IntKind.wrap .i64 (x8+(1:Int)))))
 none)
 (ke0))
def slices_Index_impl_Key_impl_Key_l0_L(kr:Int→Q61)(ke0:Q61)(a0:T15)(a1:(List Int)):Nat→Int→Q61
 |0=>fun _=>none
 |n+1=>slices_Index_impl_Key_impl_Key_l0_b (slices_Index_impl_Key_impl_Key_l0_L kr ke0 a0 a1 n) kr ke0 a0 a1
def slices_Index_impl_Key_impl_Key_r(a0:T15)(a1:(List Int)):Q61:=
 (slices_Index_impl_Key_impl_Key_l0_L (fun x4=>(some x4)) (some (-1:Int)) a0 a1 FUEL (0:Int))
def f122_l0_p(k:Nat)(K:Ex→St→Q61)(n:Nat)(a0:T15)(a1:(List Int))(x8:Int):Q61:=loopK (f122_cx k) 0 (execK (f122_cx k) (callK (f122_cx k) 8) 0 122 (sub f122_c [1,0,1,0,0])) f122_l0_cut K n (f122_l0_s a0 a1 x8)

theorem f122_l0_ret(k:Nat)(x4:Int):((blkK 0 (seqK (execK (f122_cx k) (callK (f122_cx k) 8) 0 122 (sub f122_c [1,1])) (finK (f122_cx k) f122_i slices_Index_impl_Key_impl_Key_sh))) .ret (f122_l0_o x4):Q61)=
 ((some x4):Q61):=by kernel_rfl

theorem f122_l0_exit0(k:Nat):((blkK 0 (seqK (execK (f122_cx k) (callK (f122_cx k) 8) 0 122 (sub f122_c [1,1])) (finK (f122_cx k) f122_i slices_Index_impl_Key_impl_Key_sh))) (.exit 0) (f122_l0_o0):Q61)=
 ((some (-1:Int)):Q61):=by kernel_rfl

theorem f122_l0_round(k:Nat)(K:Ex→St→Q61)(n:Nat)(a0:T15)(a1:(List Int))(x8:Int):(f122_l0_p k K (n+1) a0 a1 x8:Q61)=slices_Index_impl_Key_impl_Key_l0_b ((fun x8=>f122_l0_p k K n a0 a1 x8)) (fun x4=>K .ret (f122_l0_o x4)) (K (.exit 0) (f122_l0_o0)) a0 a1 x8:=by kernel_rfl

theorem f122_l0_L_eq(K:Ex→St→Q61)(a0:T15)(a1:(List Int)):∀(n:Nat) (x8:Int),(f122_l0_p FUEL K n a0 a1 x8:Q61)=slices_Index_impl_Key_impl_Key_l0_L (fun x4=>K .ret (f122_l0_o x4)) (K (.exit 0) (f122_l0_o0)) a0 a1 n x8:=by
 intro n
 induction n with
 |zero=>intros; rfl
 |succ n ih=>
  intro x8
  exact(f122_l0_round FUEL K n a0 a1 x8).trans (congrArg (fun f=>slices_Index_impl_Key_impl_Key_l0_b f (fun x4=>K .ret (f122_l0_o x4)) (K (.exit 0) (f122_l0_o0)) a0 a1 x8) (funext fun x8=>ih x8))

theorem f122_start(k:Nat)(a0:T15)(a1:(List Int)):fnK (f122_cx k) 8 122 f122_i slices_Index_impl_Key_impl_Key_sh [.pv K16 a0,.pv (.arr 32 (.int .u8)) a1]=
 ((loopK (f122_cx k) 0 (execK (f122_cx k) (callK (f122_cx k) 8) 0 122 (sub f122_c [1,0,1,0,0])) f122_l0_cut (blkK 0 (seqK (execK (f122_cx k) (callK (f122_cx k) 8) 0 122 (sub f122_c [1,1])) (finK (f122_cx k) f122_i slices_Index_impl_Key_impl_Key_sh))) k (f122_l0_s a0 a1 (0:Int))):Q61):=by kernel_rfl

theorem f122_run(a0:T15)(a1:(List Int)):fnK (f122_cx FUEL) 8 122 f122_i slices_Index_impl_Key_impl_Key_sh [.pv K16 a0,.pv (.arr 32 (.int .u8)) a1]=slices_Index_impl_Key_impl_Key_r a0 a1:=
 (f122_start FUEL a0 a1).trans ((f122_l0_L_eq _ a0 a1 FUEL (0:Int)).trans (cong2 (fun e0 e1=>slices_Index_impl_Key_impl_Key_l0_L e0 e1 a0 a1 FUEL (0:Int)) (funext fun x4=>(f122_l0_ret FUEL x4).trans (rfl)) ((f122_l0_exit0 FUEL).trans (rfl))))

def f122_con:Con:={ps:=(.pair K16 K13),sh:=slices_Index_impl_Key_impl_Key_sh,raw:=fun x=>slices_Index_impl_Key_impl_Key_r x.1 x.2.1}
theorem f122_conOk:ConOk Tryz.prog 122 f122_con:=con_of_fn (f122_tabs FUEL) (depth:=8) f122_ok fun x y h=>(f122_run x.1 x.2.1).trans h

def f75_cx(k:Nat):Cx:=mkC [] [(122,f122_con)] [] [] [] k [] false
theorem f75_tabs(k:Nat):TabsOk Tryz.prog (f75_cx k):=mkC_ok ⟨f122_conOk,trivial⟩ trivial trivial trivial
abbrev slices_Contains_impl_Key_impl_Key_sh:List Sh:=[.pl .bool]
abbrev Q60:Type:=Option (shDen slices_Contains_impl_Key_impl_Key_sh)
def slices_Contains_impl_Key_impl_Key_r(a0:T15)(a1:(List Int)):Q60:=
 (bindO (slices_Index_impl_Key_impl_Key_r a0 a1) fun(b1:Int)=>(some (decide ((0:Int)≤b1))))
theorem f75_run(a0:T15)(a1:(List Int)):fnK (f75_cx FUEL) 8 75 f75_i slices_Contains_impl_Key_impl_Key_sh [.pv K16 a0,.pv (.arr 32 (.int .u8)) a1]=slices_Contains_impl_Key_impl_Key_r a0 a1:=by kernel_rfl

def f75_con:Con:={ps:=(.pair K16 K13),sh:=slices_Contains_impl_Key_impl_Key_sh,raw:=fun x=>slices_Contains_impl_Key_impl_Key_r x.1 x.2.1}
theorem f75_conOk:ConOk Tryz.prog 75 f75_con:=con_of_fn (f75_tabs FUEL) (depth:=8) f75_ok fun x y h=>(f75_run x.1 x.2.1).trans h

def f124_cx(k:Nat):Cx:=mkC [] [] [] [] [] k [] false
theorem f124_tabs(k:Nat):TabsOk Tryz.prog (f124_cx k):=mkC_ok trivial trivial trivial trivial
abbrev slices_Clone_byte_byte_sh:List Sh:=[.own 5 (.int .u8)]
abbrev Q55:Type:=Option (shDen slices_Clone_byte_byte_sh)
def slices_Clone_byte_byte_r(a0:(List Int)):Q55:=
 (cond (List.isEmpty a0) (bothO (some []) (cond (decide ((0+a0.length)*1≤140737488355328)&&decide (0+a0.length≤9223372036854775807))
 (some ([]++a0))
 none)) (cond (decide ((0+a0.length)*1≤140737488355328)&&decide (0+a0.length≤9223372036854775807))
 (some ([]++a0))
 none))
theorem f124_run(a0:(List Int)):fnK (f124_cx FUEL) 8 124 f124_i slices_Clone_byte_byte_sh [.pv K20 a0]=slices_Clone_byte_byte_r a0:=by kernel_rfl

def f124_con:Con:={ps:=K14,sh:=slices_Clone_byte_byte_sh,raw:=fun x=>slices_Clone_byte_byte_r x.1}
theorem f124_conOk:ConOk Tryz.prog 124 f124_con:=con_of_fn (f124_tabs FUEL) (depth:=8) f124_ok fun x y h=>(f124_run x.1).trans h

def f77_cx(k:Nat):Cx:=mkC [] [(124,f124_con)] [] [] [] k [] false
theorem f77_tabs(k:Nat):TabsOk Tryz.prog (f77_cx k):=mkC_ok ⟨f124_conOk,trivial⟩ trivial trivial trivial
abbrev impl_Blob_copied_sh:List Sh:=[.pr (.pl (.int .u8)) (.pr (.own 5 (.int .u8)) (.pl .unit))]
abbrev Q2:Type:=Option (shDen impl_Blob_copied_sh)
def impl_Blob_copied_r(a0:T10):Q2:=
 (bindO (slices_Clone_byte_byte_r a0.2.1) fun(b1:(List Int))=>(some (a0.1,(b1,()))))
theorem f77_run(a0:T10):fnK (f77_cx FUEL) 8 77 f77_i impl_Blob_copied_sh [.pv K10 a0]=impl_Blob_copied_r a0:=by kernel_rfl

def f77_con:Con:={ps:=K7,sh:=impl_Blob_copied_sh,raw:=fun x=>impl_Blob_copied_r x.1}
theorem f77_conOk:ConOk Tryz.prog 77 f77_con:=con_of_fn (f77_tabs FUEL) (depth:=8) f77_ok fun x y h=>(f77_run x.1).trans h

end
end Go.Ai.G
