/- Made by a program of this work out of the program: tables and plain functions,with the proof that each Go function does what its plain function says. No conditions. -/
import Derived.Test.YtkpacjofafjonaaGreatExactBlobsForFn1
namespace Go.Ai.G
noncomputable section
open Go.Proofs
open Go.Ai
set_option linter.unusedVariables false
set_option linter.unusedSimpArgs false
set_option maxRecDepth 100000

def f34_d_l0_cut:Cut:={keep:=[0,1,7,8],stk:=[[],[6],[1,2]],ids:=[200,100100,100101,100102],own:=[],outs:=[(0,[4],[100100,100101,100102]),(1,[],[100100,100101,100102])]}
def f34_d_l1_cut:Cut:={keep:=[8,10,11,33,34,35],stk:=[],ids:=[210,211,212,300,330,90100],own:=[(10,90100,31)],outs:=[(1,[10],[90100])],fix:=[211,212,210]}
def f34_d_cx(k:Nat):Cx:=mkC [(46,f46_i),(69,f69_i),(112,f112_i),(156,f156_i)] [(74,f74_con),(75,f75_con),(76,f76_con),(77,f77_con),(97,f97_con),(98,f98_con),(99,f99_con),(113,f113_con)] [] [] [(34002100690018011200070156,[(0,f34_d_l0_cut)]),(34,[(0,f34_d_l1_cut)])] k dps false
theorem f34_d_tabs(k:Nat):TabsOk Tryz.prog (f34_d_cx k):=mkC_ok ⟨f74_conOk,f75_conOk,f76_conOk,f77_conOk,f97_conOk,f98_conOk,f99_conOk,f113_conOk,trivial⟩ trivial trivial ⟨f46_ok,f69_ok,f112_ok,f156_ok,trivial⟩
abbrev impl_BlobsFor_d_sh:List Sh:=[.tre 125 (.pr (.pl (.int .u8)) (.pr (.sl 5 (.pl (.int .u8))) (.pl .unit))),.pl (.int .i64)]
abbrev Q5:Type:=Option (shDen impl_BlobsFor_d_sh)
def f34_d_l0_s(a0:T4)(a1:T15)(a2:T15)(z100101:T15)(z100102:T7)(x8:Int):St:={env:=(.sl 200 K16:: .fn 113 (.pv .unit ())::(dd 5 (.pv (.int .i64) (2:Int):: .pv (.int .i64) x8::(dd 10 [])))),stk:=[(dd 9 []),(dd 6 (.ptr 100100 K1 []::(dd 13 []))),(.dead:: .pv K16 a1:: .pv K16 a2::(dd 53 []))],heap:=[(30,.var K5 (.pv K5 a0)),(200,.arr 28 K16 [a1,a2]),(100020,.var K5 (.pv K5 a0)),(100100,.var K1 (.pr (.sl 100101 (.arr 32 (.int .u8))) (.pr (.sl 100102 K10) (.pv .unit ())))),(100101,.arr 35 (.arr 32 (.int .u8)) z100101),(100102,.arr 125 K10 z100102)]}
def f34_d_l0_o(a0:T4)(a1:T15)(a2:T15)(z100101:T15)(z100102:T7)(x4:Int):St:={env:=(dd 4 (.pv (.int .i64) x4::(dd 14 []))),stk:=[(dd 9 []),(dd 6 (.ptr 100100 K1 []::(dd 13 []))),(.dead:: .pv K16 a1:: .pv K16 a2::(dd 53 []))],heap:=[(30,.var K5 (.pv K5 a0)),(200,.arr 28 K16 [a1,a2]),(100020,.var K5 (.pv K5 a0)),(100100,.var K1 (.pr (.sl 100101 (.arr 32 (.int .u8))) (.pr (.sl 100102 K10) (.pv .unit ())))),(100101,.arr 35 (.arr 32 (.int .u8)) z100101),(100102,.arr 125 K10 z100102)]}
def f34_d_l0_o0(a0:T4)(a1:T15)(a2:T15)(z100101:T15)(z100102:T7):St:={env:=(dd 19 []),stk:=[(dd 9 []),(dd 6 (.ptr 100100 K1 []::(dd 13 []))),(.dead:: .pv K16 a1:: .pv K16 a2::(dd 53 []))],heap:=[(30,.var K5 (.pv K5 a0)),(200,.arr 28 K16 [a1,a2]),(100020,.var K5 (.pv K5 a0)),(100100,.var K1 (.pr (.sl 100101 (.arr 32 (.int .u8))) (.pr (.sl 100102 K10) (.pv .unit ())))),(100101,.arr 35 (.arr 32 (.int .u8)) z100101),(100102,.arr 125 K10 z100102)]}
def f34_d_l1_s(x8:T2)(x34:Int)(z300:T15)(z330:T15)(x35:Int)(z90100:T7):St:={env:=(dd 8 (.pv (.ref K1) x8:: .dead:: .inn 90100 [] K10:: .sl 300 (.arr 32 (.int .u8))::(dd 21 (.sl 330 (.arr 32 (.int .u8)):: .pv (.int .i64) x34:: .pv (.int .i64) x35::(dd 20 []))))),stk:=[],heap:=[(300,.arr 35 (.arr 32 (.int .u8)) z300),(330,.arr 35 (.arr 32 (.int .u8)) z330),(90100,.tre 125 (.pr (.pl (.int .u8)) (.pr (.sl 5 (.pl (.int .u8))) (.pl .unit))) z90100)]}
def f34_d_l1_o0(z90100:T7):St:={env:=(dd 10 (.inn 90100 [] K10::(dd 45 []))),stk:=[],heap:=[(90100,.tre 125 (.pr (.pl (.int .u8)) (.pr (.sl 5 (.pl (.int .u8))) (.pl .unit))) z90100)]}
def impl_BlobsFor_d_l1_b(rec:T2→Int→T15→T15→Int→T7→Q5)(ke0:T7→Q5)(x8:T2)(x34:Int)(z300:T15)(z330:T15)(x35:Int)(z90100:T7):Q5:=
 (cond (decide (x35<x34))
 (cond ((decide ((0:Int)≤x35))&&(decide (x35<(z330.length:Int))))
 (bindO (slices_Contains_impl_Key_impl_Key_r z300 (z330.getD (x35.toNat) (List.replicate 32 (0:Int)))) fun(b13:Bool)=>(cond (!b13)
 (bindO (impl_shop_get_r x8 (z330.getD (x35.toNat) (List.replicate 32 (0:Int)))) fun(b14:(T10×Bool))=>(bindO (impl_Blob_copied_r b14.1) fun(b15:T10)=>(cond (decide ((z90100.length+1)*32≤140737488355328)&&decide (z90100.length+1≤9223372036854775807))
 (rec x8 x34 z300 z330 (IntKind.wrap .i64 (x35+(1:Int))) (z90100++[(b15.1,(b15.2.1,()))]))
 none)))
 (rec x8 x34 z300 z330 (IntKind.wrap .i64 (x35+(1:Int))) z90100)))
 none)
 (ke0 z90100))
def impl_BlobsFor_d_l1_L(ke0:T7→Q5):Nat→T2→Int→T15→T15→Int→T7→Q5
 |0=>fun _ _ _ _ _ _=>none
 |n+1=>impl_BlobsFor_d_l1_b (impl_BlobsFor_d_l1_L ke0 n) ke0
def impl_BlobsFor_d_l0_b(rec:T15→T7→Int→Q5)(kr:T15→T7→Int→Q5)(ke0:T15→T7→Q5)(a0:T4)(a1:T15)(a2:T15)(z100101:T15)(z100102:T7)(x8:Int):Q5:=
 (cond (decide (x8<(2:Int)))
 (cond ((decide ((0:Int)≤x8))&&(decide (x8<(2:Int))))
 (bindO (impl_reachCode_1_r ([a1,a2].getD (x8.toNat) [])) fun(b5:Bool)=>(cond b5
 (kr z100101 z100102 x8)
 (rec z100101 z100102 (IntKind.wrap .i64 (x8+(1:Int))))))
 none)
 (ke0 z100101 z100102))
def impl_BlobsFor_d_l0_L(kr:T15→T7→Int→Q5)(ke0:T15→T7→Q5)(a0:T4)(a1:T15)(a2:T15):Nat→T15→T7→Int→Q5
 |0=>fun _ _ _=>none
 |n+1=>impl_BlobsFor_d_l0_b (impl_BlobsFor_d_l0_L kr ke0 a0 a1 a2 n) kr ke0 a0 a1 a2
def impl_BlobsFor_d_r(a0:T4)(a1:T15)(a2:T15):Q5:=
 (bindO (impl_ValidStore_r a0) fun(b1:Bool)=>(cond (!b1)
 (some ([],(1:Int)))
 (bindO (impl_Store_keys_r a0) fun(b2:T15)=>(bindO (slices_Clone_impl_Blob_impl_Blob_r a0.1) fun(b3:T7)=>(impl_BlobsFor_d_l0_L (fun z100101 z100102 x4=>(cond (decide ((0:Int)≤x4))
 (some ([],(3:Int)))
 (bindO (impl_shop_reached_r (z100101,(z100102,())) a2 true) fun(b6:T15)=>(bindO (impl_shop_reached_r (z100101,(z100102,())) a1 true) fun(b7:T15)=>(impl_BlobsFor_d_l1_L (fun z90100=>(some (z90100,(0:Int)))) FUEL (z100101,(z100102,())) (b7.length:Int) b6 b7 (0:Int) []))))) (fun z100101 z100102=>(bindO (impl_shop_reached_r (z100101,(z100102,())) a2 true) fun(b8:T15)=>(bindO (impl_shop_reached_r (z100101,(z100102,())) a1 true) fun(b9:T15)=>(impl_BlobsFor_d_l1_L (fun z90100=>(some (z90100,(0:Int)))) FUEL (z100101,(z100102,())) (b9.length:Int) b8 b9 (0:Int) [])))) a0 a1 a2 FUEL b2 b3 (0:Int))))))
def f34_d_l1_p(k:Nat)(K:Ex→St→Q5)(n:Nat)(x8:T2)(x34:Int)(z300:T15)(z330:T15)(x35:Int)(z90100:T7):Q5:=loopK (f34_d_cx k) 0 (execK (f34_d_cx k) (callK (f34_d_cx k) 8) 0 34 (sub f34_c [1,1,1,1,0,1,0,0])) f34_d_l1_cut K n (f34_d_l1_s x8 x34 z300 z330 x35 z90100)

theorem f34_d_l1_exit0(k:Nat)(z90100:T7):((blkK 0 (seqK (execK (f34_d_cx k) (callK (f34_d_cx k) 8) 0 34 (sub f34_c [1,1,1,1,1])) (finK (f34_d_cx k) f34_i impl_BlobsFor_d_sh))) (.exit 0) (f34_d_l1_o0 z90100):Q5)=
 ((some (z90100,(0:Int))):Q5):=by kernel_rfl

theorem f34_d_l1_round(k:Nat)(K:Ex→St→Q5)(n:Nat)(x8:T2)(x34:Int)(z300:T15)(z330:T15)(x35:Int)(z90100:T7):(f34_d_l1_p k K (n+1) x8 x34 z300 z330 x35 z90100:Q5)=impl_BlobsFor_d_l1_b ((fun x8 x34 z300 z330 x35 z90100=>f34_d_l1_p k K n x8 x34 z300 z330 x35 z90100)) (fun z90100=>K (.exit 0) (f34_d_l1_o0 z90100)) x8 x34 z300 z330 x35 z90100:=by kernel_rfl

theorem f34_d_l1_L_eq(K:Ex→St→Q5):∀(n:Nat) (x8:T2) (x34:Int) (z300:T15) (z330:T15) (x35:Int) (z90100:T7),(f34_d_l1_p FUEL K n x8 x34 z300 z330 x35 z90100:Q5)=impl_BlobsFor_d_l1_L (fun z90100=>K (.exit 0) (f34_d_l1_o0 z90100)) n x8 x34 z300 z330 x35 z90100:=by
 intro n
 induction n with
 |zero=>intros; rfl
 |succ n ih=>
  intro x8 x34 z300 z330 x35 z90100
  exact(f34_d_l1_round FUEL K n x8 x34 z300 z330 x35 z90100).trans (congrArg (fun f=>impl_BlobsFor_d_l1_b f (fun z90100=>K (.exit 0) (f34_d_l1_o0 z90100)) x8 x34 z300 z330 x35 z90100) (funext fun x8=>funext fun x34=>funext fun z300=>funext fun z330=>funext fun x35=>funext fun z90100=>ih x8 x34 z300 z330 x35 z90100))

def f34_d_l0_p(k:Nat)(K:Ex→St→Q5)(n:Nat)(a0:T4)(a1:T15)(a2:T15)(z100101:T15)(z100102:T7)(x8:Int):Q5:=loopK (f34_d_cx k) 3 (execK (f34_d_cx k) (callK (f34_d_cx k) 5) 3 34002100690018011200070156 (sub f156_c [1,0,1,0,0])) f34_d_l0_cut K n (f34_d_l0_s a0 a1 a2 z100101 z100102 x8)

theorem f34_d_l0_ret(k:Nat)(a0:T4)(a1:T15)(a2:T15)(z100101:T15)(z100102:T7)(x4:Int):((blkK 0 (seqK (execK (f34_d_cx k) (callK (f34_d_cx k) 5) 3 34002100690018011200070156 (sub f156_c [1,1])) (retK (f34_d_cx k) f156_i (some 7) 2 (opsRest (f34_d_cx k) (callK (f34_d_cx k) 6) 2 340021006900180112 false (regOps (sub f112_c [1,0])) 2 (seqK (execK (f34_d_cx k) (callK (f34_d_cx k) 6) 2 340021006900180112 (sub f112_c [1,1])) (retK (f34_d_cx k) f112_i (some 18) 1 (opsRest (f34_d_cx k) (callK (f34_d_cx k) 7) 1 3400210069 false (regOps (sub f69_c [1,1,0,0,1,1,0])) 1 (seqK (execK (f34_d_cx k) (callK (f34_d_cx k) 7) 1 3400210069 (sub f69_c [1,1,0,0,1,1,1])) (blkK 0 (seqK (execK (f34_d_cx k) (callK (f34_d_cx k) 7) 1 3400210069 (sub f69_c [1,1,1])) (retK (f34_d_cx k) f69_i (some 21) 0 (opsRest (f34_d_cx k) (callK (f34_d_cx k) 8) 0 34 false (regOps (sub f34_c [1,0])) 4 (seqK (execK (f34_d_cx k) (callK (f34_d_cx k) 8) 0 34 (sub f34_c [1,1])) (finK (f34_d_cx k) f34_i impl_BlobsFor_d_sh)))))))))))))) .ret (f34_d_l0_o a0 a1 a2 z100101 z100102 x4):Q5)=
 ((cond (decide ((0:Int)≤x4))
 (some ([],(3:Int)))
 (bindO (impl_shop_reached_r (z100101,(z100102,())) a2 true) fun(b6:T15)=>(bindO (impl_shop_reached_r (z100101,(z100102,())) a1 true) fun(b7:T15)=>(loopK (f34_d_cx k) 0 (execK (f34_d_cx k) (callK (f34_d_cx k) 8) 0 34 (sub f34_c [1,1,1,1,0,1,0,0])) f34_d_l1_cut (blkK 0 (seqK (execK (f34_d_cx k) (callK (f34_d_cx k) 8) 0 34 (sub f34_c [1,1,1,1,1])) (finK (f34_d_cx k) f34_i impl_BlobsFor_d_sh))) k (f34_d_l1_s (z100101,(z100102,())) (b7.length:Int) b6 b7 (0:Int) []))))):Q5):=by kernel_rfl

theorem f34_d_l0_exit0(k:Nat)(a0:T4)(a1:T15)(a2:T15)(z100101:T15)(z100102:T7):((blkK 0 (seqK (execK (f34_d_cx k) (callK (f34_d_cx k) 5) 3 34002100690018011200070156 (sub f156_c [1,1])) (retK (f34_d_cx k) f156_i (some 7) 2 (opsRest (f34_d_cx k) (callK (f34_d_cx k) 6) 2 340021006900180112 false (regOps (sub f112_c [1,0])) 2 (seqK (execK (f34_d_cx k) (callK (f34_d_cx k) 6) 2 340021006900180112 (sub f112_c [1,1])) (retK (f34_d_cx k) f112_i (some 18) 1 (opsRest (f34_d_cx k) (callK (f34_d_cx k) 7) 1 3400210069 false (regOps (sub f69_c [1,1,0,0,1,1,0])) 1 (seqK (execK (f34_d_cx k) (callK (f34_d_cx k) 7) 1 3400210069 (sub f69_c [1,1,0,0,1,1,1])) (blkK 0 (seqK (execK (f34_d_cx k) (callK (f34_d_cx k) 7) 1 3400210069 (sub f69_c [1,1,1])) (retK (f34_d_cx k) f69_i (some 21) 0 (opsRest (f34_d_cx k) (callK (f34_d_cx k) 8) 0 34 false (regOps (sub f34_c [1,0])) 4 (seqK (execK (f34_d_cx k) (callK (f34_d_cx k) 8) 0 34 (sub f34_c [1,1])) (finK (f34_d_cx k) f34_i impl_BlobsFor_d_sh)))))))))))))) (.exit 0) (f34_d_l0_o0 a0 a1 a2 z100101 z100102):Q5)=
 ((bindO (impl_shop_reached_r (z100101,(z100102,())) a2 true) fun(b8:T15)=>(bindO (impl_shop_reached_r (z100101,(z100102,())) a1 true) fun(b9:T15)=>(loopK (f34_d_cx k) 0 (execK (f34_d_cx k) (callK (f34_d_cx k) 8) 0 34 (sub f34_c [1,1,1,1,0,1,0,0])) f34_d_l1_cut (blkK 0 (seqK (execK (f34_d_cx k) (callK (f34_d_cx k) 8) 0 34 (sub f34_c [1,1,1,1,1])) (finK (f34_d_cx k) f34_i impl_BlobsFor_d_sh))) k (f34_d_l1_s (z100101,(z100102,())) (b9.length:Int) b8 b9 (0:Int) [])))):Q5):=by kernel_rfl

theorem f34_d_l0_round(k:Nat)(K:Ex→St→Q5)(n:Nat)(a0:T4)(a1:T15)(a2:T15)(z100101:T15)(z100102:T7)(x8:Int):(f34_d_l0_p k K (n+1) a0 a1 a2 z100101 z100102 x8:Q5)=impl_BlobsFor_d_l0_b ((fun z100101 z100102 x8=>f34_d_l0_p k K n a0 a1 a2 z100101 z100102 x8)) (fun z100101 z100102 x4=>K .ret (f34_d_l0_o a0 a1 a2 z100101 z100102 x4)) (fun z100101 z100102=>K (.exit 0) (f34_d_l0_o0 a0 a1 a2 z100101 z100102)) a0 a1 a2 z100101 z100102 x8:=by kernel_rfl

theorem f34_d_l0_L_eq(K:Ex→St→Q5)(a0:T4)(a1:T15)(a2:T15):∀(n:Nat) (z100101:T15) (z100102:T7) (x8:Int),(f34_d_l0_p FUEL K n a0 a1 a2 z100101 z100102 x8:Q5)=impl_BlobsFor_d_l0_L (fun z100101 z100102 x4=>K .ret (f34_d_l0_o a0 a1 a2 z100101 z100102 x4)) (fun z100101 z100102=>K (.exit 0) (f34_d_l0_o0 a0 a1 a2 z100101 z100102)) a0 a1 a2 n z100101 z100102 x8:=by
 intro n
 induction n with
 |zero=>intros; rfl
 |succ n ih=>
  intro z100101 z100102 x8
  exact(f34_d_l0_round FUEL K n a0 a1 a2 z100101 z100102 x8).trans (congrArg (fun f=>impl_BlobsFor_d_l0_b f (fun z100101 z100102 x4=>K .ret (f34_d_l0_o a0 a1 a2 z100101 z100102 x4)) (fun z100101 z100102=>K (.exit 0) (f34_d_l0_o0 a0 a1 a2 z100101 z100102)) a0 a1 a2 z100101 z100102 x8) (funext fun z100101=>funext fun z100102=>funext fun x8=>ih z100101 z100102 x8))

theorem f34_d_start(k:Nat)(a0:T4)(a1:T15)(a2:T15):fnK (f34_d_cx k) 8 34 f34_i impl_BlobsFor_d_sh [.pv K5 a0,.pv K16 a1,.pv K16 a2]=
 ((bindO (impl_ValidStore_r a0) fun(b1:Bool)=>(cond (!b1)
 (some ([],(1:Int)))
 (bindO (impl_Store_keys_r a0) fun(b2:T15)=>(bindO (slices_Clone_impl_Blob_impl_Blob_r a0.1) fun(b3:T7)=>(loopK (f34_d_cx k) 3 (execK (f34_d_cx k) (callK (f34_d_cx k) 5) 3 34002100690018011200070156 (sub f156_c [1,0,1,0,0])) f34_d_l0_cut (blkK 0 (seqK (execK (f34_d_cx k) (callK (f34_d_cx k) 5) 3 34002100690018011200070156 (sub f156_c [1,1])) (retK (f34_d_cx k) f156_i (some 7) 2 (opsRest (f34_d_cx k) (callK (f34_d_cx k) 6) 2 340021006900180112 false (regOps (sub f112_c [1,0])) 2 (seqK (execK (f34_d_cx k) (callK (f34_d_cx k) 6) 2 340021006900180112 (sub f112_c [1,1])) (retK (f34_d_cx k) f112_i (some 18) 1 (opsRest (f34_d_cx k) (callK (f34_d_cx k) 7) 1 3400210069 false (regOps (sub f69_c [1,1,0,0,1,1,0])) 1 (seqK (execK (f34_d_cx k) (callK (f34_d_cx k) 7) 1 3400210069 (sub f69_c [1,1,0,0,1,1,1])) (blkK 0 (seqK (execK (f34_d_cx k) (callK (f34_d_cx k) 7) 1 3400210069 (sub f69_c [1,1,1])) (retK (f34_d_cx k) f69_i (some 21) 0 (opsRest (f34_d_cx k) (callK (f34_d_cx k) 8) 0 34 false (regOps (sub f34_c [1,0])) 4 (seqK (execK (f34_d_cx k) (callK (f34_d_cx k) 8) 0 34 (sub f34_c [1,1])) (finK (f34_d_cx k) f34_i impl_BlobsFor_d_sh)))))))))))))) k (f34_d_l0_s a0 a1 a2 b2 b3 (0:Int))))))):Q5):=by kernel_rfl

theorem f34_d_run(a0:T4)(a1:T15)(a2:T15):fnK (f34_d_cx FUEL) 8 34 f34_i impl_BlobsFor_d_sh [.pv K5 a0,.pv K16 a1,.pv K16 a2]=impl_BlobsFor_d_r a0 a1 a2:=
 (f34_d_start FUEL a0 a1 a2).trans (bindC (fun b1=>condC (rfl) (bindC (fun b2=>bindC (fun b3=>(f34_d_l0_L_eq _ a0 a1 a2 FUEL b2 b3 (0:Int)).trans (cong2 (fun e0 e1=>impl_BlobsFor_d_l0_L e0 e1 a0 a1 a2 FUEL b2 b3 (0:Int)) (funext fun z100101=>funext fun z100102=>funext fun x4=>(f34_d_l0_ret FUEL a0 a1 a2 z100101 z100102 x4).trans (condC (rfl) (bindC (fun b6=>bindC (fun b7=>(f34_d_l1_L_eq _ FUEL (z100101,(z100102,())) (b7.length:Int) b6 b7 (0:Int) []).trans (congrArg (fun e0=>impl_BlobsFor_d_l1_L e0 FUEL (z100101,(z100102,())) (b7.length:Int) b6 b7 (0:Int) []) (funext fun z90100=>(f34_d_l1_exit0 FUEL z90100).trans (rfl)))))))) (funext fun z100101=>funext fun z100102=>(f34_d_l0_exit0 FUEL a0 a1 a2 z100101 z100102).trans (bindC (fun b8=>bindC (fun b9=>(f34_d_l1_L_eq _ FUEL (z100101,(z100102,())) (b9.length:Int) b8 b9 (0:Int) []).trans (congrArg (fun e0=>impl_BlobsFor_d_l1_L e0 FUEL (z100101,(z100102,())) (b9.length:Int) b8 b9 (0:Int) []) (funext fun z90100=>(f34_d_l1_exit0 FUEL z90100).trans (rfl)))))))))))))

def f34_d_con:Con:={ps:=(.pair K5 K4),sh:=impl_BlobsFor_d_sh,raw:=fun x=>impl_BlobsFor_d_r x.1 x.2.1 x.2.2.1}
theorem f34_d_conOk:ConOk Tryz.prog 34 f34_d_con:=con_of_fn (f34_d_tabs FUEL) (depth:=8) f34_ok fun x y h=>(f34_d_run x.1 x.2.1 x.2.2.1).trans h

def f125_l0_cut:Cut:={keep:=[0,1,5],stk:=[],ids:=[],own:=[],outs:=[(0,[4],[]),(1,[],[])]}
def f125_cx(k:Nat):Cx:=mkC [] [] [] [] [(125,[(0,f125_l0_cut)])] k [] false
theorem f125_tabs(k:Nat):TabsOk Tryz.prog (f125_cx k):=mkC_ok trivial trivial trivial trivial
abbrev laws_eqByteS_sh:List Sh:=[.pl .bool]
abbrev Q36:Type:=Option (shDen laws_eqByteS_sh)
def f125_l0_s(a0:(List Int))(a1:(List Int))(x5:Int):St:={env:=(.pv K20 a0:: .pv K20 a1::(dd 3 (.pv (.int .i64) x5::(dd 20 [])))),stk:=[],heap:=[]}
def f125_l0_o:St:={env:=(dd 4 (.pv .bool false::(dd 21 []))),stk:=[],heap:=[]}
def f125_l0_o0:St:={env:=(dd 26 []),stk:=[],heap:=[]}
def laws_eqByteS_l0_b(rec:Int→Q36)(kr:Q36)(ke0:Q36)(a0:(List Int))(a1:(List Int))(x5:Int):Q36:=
 (cond (decide (x5<(a0.length:Int)))
 (cond ((decide ((0:Int)≤x5))&&(decide (x5<(a0.length:Int))))
 (cond ((decide ((0:Int)≤x5))&&(decide (x5<(a1.length:Int))))
 (cond (!(decide ((a0.getD (x5.toNat) (0:Int))=(a1.getD (x5.toNat) (0:Int)))))
 (kr)
 (rec (IntKind.wrap .i64 (x5+(1:Int)))))
 none)
 none)
 (ke0))
def laws_eqByteS_l0_L(kr:Q36)(ke0:Q36)(a0:(List Int))(a1:(List Int)):Nat→Int→Q36
 |0=>fun _=>none
 |n+1=>laws_eqByteS_l0_b (laws_eqByteS_l0_L kr ke0 a0 a1 n) kr ke0 a0 a1
def laws_eqByteS_r(a0:(List Int))(a1:(List Int)):Q36:=
 (cond (!(decide ((a0.length:Int)=(a1.length:Int))))
 (some false)
 (laws_eqByteS_l0_L (some false) (some true) a0 a1 FUEL (0:Int)))
def f125_l0_p(k:Nat)(K:Ex→St→Q36)(n:Nat)(a0:(List Int))(a1:(List Int))(x5:Int):Q36:=loopK (f125_cx k) 0 (execK (f125_cx k) (callK (f125_cx k) 8) 0 125 (sub f125_c [1,1,0,1,0,0])) f125_l0_cut K n (f125_l0_s a0 a1 x5)

theorem f125_l0_ret(k:Nat):((blkK 0 (seqK (execK (f125_cx k) (callK (f125_cx k) 8) 0 125 (sub f125_c [1,1,1])) (finK (f125_cx k) f125_i laws_eqByteS_sh))) .ret (f125_l0_o):Q36)=
 ((some false):Q36):=by kernel_rfl

theorem f125_l0_exit0(k:Nat):((blkK 0 (seqK (execK (f125_cx k) (callK (f125_cx k) 8) 0 125 (sub f125_c [1,1,1])) (finK (f125_cx k) f125_i laws_eqByteS_sh))) (.exit 0) (f125_l0_o0):Q36)=
 ((some true):Q36):=by kernel_rfl

theorem f125_l0_round(k:Nat)(K:Ex→St→Q36)(n:Nat)(a0:(List Int))(a1:(List Int))(x5:Int):(f125_l0_p k K (n+1) a0 a1 x5:Q36)=laws_eqByteS_l0_b ((fun x5=>f125_l0_p k K n a0 a1 x5)) (K .ret (f125_l0_o)) (K (.exit 0) (f125_l0_o0)) a0 a1 x5:=by kernel_rfl

theorem f125_l0_L_eq(K:Ex→St→Q36)(a0:(List Int))(a1:(List Int)):∀(n:Nat) (x5:Int),(f125_l0_p FUEL K n a0 a1 x5:Q36)=laws_eqByteS_l0_L (K .ret (f125_l0_o)) (K (.exit 0) (f125_l0_o0)) a0 a1 n x5:=by
 intro n
 induction n with
 |zero=>intros; rfl
 |succ n ih=>
  intro x5
  exact(f125_l0_round FUEL K n a0 a1 x5).trans (congrArg (fun f=>laws_eqByteS_l0_b f (K .ret (f125_l0_o)) (K (.exit 0) (f125_l0_o0)) a0 a1 x5) (funext fun x5=>ih x5))

theorem f125_start(k:Nat)(a0:(List Int))(a1:(List Int)):fnK (f125_cx k) 8 125 f125_i laws_eqByteS_sh [.pv K20 a0,.pv K20 a1]=
 ((cond (!(decide ((a0.length:Int)=(a1.length:Int))))
 (some false)
 (loopK (f125_cx k) 0 (execK (f125_cx k) (callK (f125_cx k) 8) 0 125 (sub f125_c [1,1,0,1,0,0])) f125_l0_cut (blkK 0 (seqK (execK (f125_cx k) (callK (f125_cx k) 8) 0 125 (sub f125_c [1,1,1])) (finK (f125_cx k) f125_i laws_eqByteS_sh))) k (f125_l0_s a0 a1 (0:Int)))):Q36):=by kernel_rfl

theorem f125_run(a0:(List Int))(a1:(List Int)):fnK (f125_cx FUEL) 8 125 f125_i laws_eqByteS_sh [.pv K20 a0,.pv K20 a1]=laws_eqByteS_r a0 a1:=
 (f125_start FUEL a0 a1).trans (condC (rfl) ((f125_l0_L_eq _ a0 a1 FUEL (0:Int)).trans (cong2 (fun e0 e1=>laws_eqByteS_l0_L e0 e1 a0 a1 FUEL (0:Int)) ((f125_l0_ret FUEL).trans (rfl)) ((f125_l0_exit0 FUEL).trans (rfl)))))

def f125_con:Con:={ps:=(.pair K20 K14),sh:=laws_eqByteS_sh,raw:=fun x=>laws_eqByteS_r x.1 x.2.1}
theorem f125_conOk:ConOk Tryz.prog 125 f125_con:=con_of_fn (f125_tabs FUEL) (depth:=8) f125_ok fun x y h=>(f125_run x.1 x.2.1).trans h

def f78_cx(k:Nat):Cx:=mkC [] [(125,f125_con)] [] [] [] k [] false
theorem f78_tabs(k:Nat):TabsOk Tryz.prog (f78_cx k):=mkC_ok ⟨f125_conOk,trivial⟩ trivial trivial trivial
abbrev laws_eqBlob_sh:List Sh:=[.pl .bool]
abbrev Q35:Type:=Option (shDen laws_eqBlob_sh)
def laws_eqBlob_r(a0:T10)(a1:T10):Q35:=
 (cond (!(decide (a0.1=a1.1)))
 (some false)
 (bindO (laws_eqByteS_r a0.2.1 a1.2.1) fun(b1:Bool)=>(cond (!b1)
 (some false)
 (some true))))
theorem f78_run(a0:T10)(a1:T10):fnK (f78_cx FUEL) 8 78 f78_i laws_eqBlob_sh [.pv K10 a0,.pv K10 a1]=laws_eqBlob_r a0 a1:=by kernel_rfl

def f78_con:Con:={ps:=(.pair K10 K7),sh:=laws_eqBlob_sh,raw:=fun x=>laws_eqBlob_r x.1 x.2.1}
theorem f78_conOk:ConOk Tryz.prog 78 f78_con:=con_of_fn (f78_tabs FUEL) (depth:=8) f78_ok fun x y h=>(f78_run x.1 x.2.1).trans h

def f35_l0_cut:Cut:={keep:=[0,1,5],stk:=[],ids:=[],own:=[],outs:=[(0,[4],[]),(1,[],[])]}
def f35_cx(k:Nat):Cx:=mkC [] [(78,f78_con)] [] [] [(35,[(0,f35_l0_cut)])] k [] false
theorem f35_tabs(k:Nat):TabsOk Tryz.prog (f35_cx k):=mkC_ok ⟨f78_conOk,trivial⟩ trivial trivial trivial
abbrev laws_eqBlobS_sh:List Sh:=[.pl .bool]
abbrev Q34:Type:=Option (shDen laws_eqBlobS_sh)
def f35_l0_s(a0:T7)(a1:T7)(x5:Int):St:={env:=(.pv K8 a0:: .pv K8 a1::(dd 3 (.pv (.int .i64) x5::(dd 21 [])))),stk:=[],heap:=[]}
def f35_l0_o:St:={env:=(dd 4 (.pv .bool false::(dd 22 []))),stk:=[],heap:=[]}
def f35_l0_o0:St:={env:=(dd 27 []),stk:=[],heap:=[]}
def laws_eqBlobS_l0_b(rec:Int→Q34)(kr:Q34)(ke0:Q34)(a0:T7)(a1:T7)(x5:Int):Q34:=
 (cond (decide (x5<(a0.length:Int)))
 (cond ((decide ((0:Int)≤x5))&&(decide (x5<(a0.length:Int))))
 (cond ((decide ((0:Int)≤x5))&&(decide (x5<(a1.length:Int))))
 (bindO (laws_eqBlob_r (a0.getD (x5.toNat) ((0:Int),([],()))) (a1.getD (x5.toNat) ((0:Int),([],())))) fun(b2:Bool)=>(cond (!b2)
 (kr)
 (rec (IntKind.wrap .i64 (x5+(1:Int))))))
 none)
 none)
 (ke0))
def laws_eqBlobS_l0_L(kr:Q34)(ke0:Q34)(a0:T7)(a1:T7):Nat→Int→Q34
 |0=>fun _=>none
 |n+1=>laws_eqBlobS_l0_b (laws_eqBlobS_l0_L kr ke0 a0 a1 n) kr ke0 a0 a1
def laws_eqBlobS_r(a0:T7)(a1:T7):Q34:=
 (cond (!(decide ((a0.length:Int)=(a1.length:Int))))
 (some false)
 (laws_eqBlobS_l0_L (some false) (some true) a0 a1 FUEL (0:Int)))
def f35_l0_p(k:Nat)(K:Ex→St→Q34)(n:Nat)(a0:T7)(a1:T7)(x5:Int):Q34:=loopK (f35_cx k) 0 (execK (f35_cx k) (callK (f35_cx k) 8) 0 35 (sub f35_c [1,1,0,1,0,0])) f35_l0_cut K n (f35_l0_s a0 a1 x5)

theorem f35_l0_ret(k:Nat):((blkK 0 (seqK (execK (f35_cx k) (callK (f35_cx k) 8) 0 35 (sub f35_c [1,1,1])) (finK (f35_cx k) f35_i laws_eqBlobS_sh))) .ret (f35_l0_o):Q34)=
 ((some false):Q34):=by kernel_rfl

theorem f35_l0_exit0(k:Nat):((blkK 0 (seqK (execK (f35_cx k) (callK (f35_cx k) 8) 0 35 (sub f35_c [1,1,1])) (finK (f35_cx k) f35_i laws_eqBlobS_sh))) (.exit 0) (f35_l0_o0):Q34)=
 ((some true):Q34):=by kernel_rfl

theorem f35_l0_round(k:Nat)(K:Ex→St→Q34)(n:Nat)(a0:T7)(a1:T7)(x5:Int):(f35_l0_p k K (n+1) a0 a1 x5:Q34)=laws_eqBlobS_l0_b ((fun x5=>f35_l0_p k K n a0 a1 x5)) (K .ret (f35_l0_o)) (K (.exit 0) (f35_l0_o0)) a0 a1 x5:=by kernel_rfl

theorem f35_l0_L_eq(K:Ex→St→Q34)(a0:T7)(a1:T7):∀(n:Nat) (x5:Int),(f35_l0_p FUEL K n a0 a1 x5:Q34)=laws_eqBlobS_l0_L (K .ret (f35_l0_o)) (K (.exit 0) (f35_l0_o0)) a0 a1 n x5:=by
 intro n
 induction n with
 |zero=>intros; rfl
 |succ n ih=>
  intro x5
  exact(f35_l0_round FUEL K n a0 a1 x5).trans (congrArg (fun f=>laws_eqBlobS_l0_b f (K .ret (f35_l0_o)) (K (.exit 0) (f35_l0_o0)) a0 a1 x5) (funext fun x5=>ih x5))

theorem f35_start(k:Nat)(a0:T7)(a1:T7):fnK (f35_cx k) 8 35 f35_i laws_eqBlobS_sh [.pv K8 a0,.pv K8 a1]=
 ((cond (!(decide ((a0.length:Int)=(a1.length:Int))))
 (some false)
 (loopK (f35_cx k) 0 (execK (f35_cx k) (callK (f35_cx k) 8) 0 35 (sub f35_c [1,1,0,1,0,0])) f35_l0_cut (blkK 0 (seqK (execK (f35_cx k) (callK (f35_cx k) 8) 0 35 (sub f35_c [1,1,1])) (finK (f35_cx k) f35_i laws_eqBlobS_sh))) k (f35_l0_s a0 a1 (0:Int)))):Q34):=by kernel_rfl

theorem f35_run(a0:T7)(a1:T7):fnK (f35_cx FUEL) 8 35 f35_i laws_eqBlobS_sh [.pv K8 a0,.pv K8 a1]=laws_eqBlobS_r a0 a1:=
 (f35_start FUEL a0 a1).trans (condC (rfl) ((f35_l0_L_eq _ a0 a1 FUEL (0:Int)).trans (cong2 (fun e0 e1=>laws_eqBlobS_l0_L e0 e1 a0 a1 FUEL (0:Int)) ((f35_l0_ret FUEL).trans (rfl)) ((f35_l0_exit0 FUEL).trans (rfl)))))

def f35_con:Con:={ps:=(.pair K8 K5),sh:=laws_eqBlobS_sh,raw:=fun x=>laws_eqBlobS_r x.1 x.2.1}
theorem f35_conOk:ConOk Tryz.prog 35 f35_con:=con_of_fn (f35_tabs FUEL) (depth:=8) f35_ok fun x y h=>(f35_run x.1 x.2.1).trans h

def f16_cx(k:Nat):Cx:=mkC [] [(35,f35_con)] [] [] [] k [] false
theorem f16_tabs(k:Nat):TabsOk Tryz.prog (f16_cx k):=mkC_ok ⟨f35_conOk,trivial⟩ trivial trivial trivial
abbrev laws_eqStore_sh:List Sh:=[.pl .bool]
abbrev Q39:Type:=Option (shDen laws_eqStore_sh)
def laws_eqStore_r(a0:T4)(a1:T4):Q39:=
 (bindO (laws_eqBlobS_r a0.1 a1.1) fun(b1:Bool)=>(cond (!b1)
 (some false)
 (some true)))
theorem f16_run(a0:T4)(a1:T4):fnK (f16_cx FUEL) 8 16 f16_i laws_eqStore_sh [.pv K5 a0,.pv K5 a1]=laws_eqStore_r a0 a1:=by kernel_rfl

def f16_con:Con:={ps:=(.pair K5 K3),sh:=laws_eqStore_sh,raw:=fun x=>laws_eqStore_r x.1 x.2.1}
theorem f16_conOk:ConOk Tryz.prog 16 f16_con:=con_of_fn (f16_tabs FUEL) (depth:=8) f16_ok fun x y h=>(f16_run x.1 x.2.1).trans h

def f51_l0_cut:Cut:={keep:=[2,3,5],stk:=[],ids:=[20,30],own:=[],outs:=[(0,[4],[]),(1,[],[])]}
def f51_cx(k:Nat):Cx:=mkC [] [] [] [] [(51,[(0,f51_l0_cut)])] k [] false
theorem f51_tabs(k:Nat):TabsOk Tryz.prog (f51_cx k):=mkC_ok trivial trivial trivial trivial
abbrev laws_eqKey_sh:List Sh:=[.pl .bool]
abbrev Q38:Type:=Option (shDen laws_eqKey_sh)
def f51_l0_s(a0:(List Int))(a1:(List Int))(x5:Int):St:={env:=(.dead:: .dead:: .ptr 20 (.arr 32 (.int .u8)) []:: .ptr 30 (.arr 32 (.int .u8)) []:: .dead:: .pv (.int .i64) x5::(dd 11 [])),stk:=[],heap:=[(20,.var (.arr 32 (.int .u8)) (.pv (.arr 32 (.int .u8)) a0)),(30,.var (.arr 32 (.int .u8)) (.pv (.arr 32 (.int .u8)) a1))]}
def f51_l0_o:St:={env:=(dd 4 (.pv .bool false::(dd 12 []))),stk:=[],heap:=[]}
def f51_l0_o0:St:={env:=(dd 17 []),stk:=[],heap:=[]}
def laws_eqKey_l0_b(rec:Int→Q38)(kr:Q38)(ke0:Q38)(a0:(List Int))(a1:(List Int))(x5:Int):Q38:=
 (cond (decide (x5<(32:Int)))
 (cond ((decide ((0:Int)≤x5))&&(decide (x5<(32:Int))))
 (cond ((decide ((0:Int)≤x5))&&(decide (x5<(32:Int))))
 (cond (!(decide ((a0.getD (x5.toNat) (0:Int))=(a1.getD (x5.toNat) (0:Int)))))
 (kr)
 (rec (IntKind.wrap .i64 (x5+(1:Int)))))
 none)
 none)
 (ke0))
def laws_eqKey_l0_L(kr:Q38)(ke0:Q38)(a0:(List Int))(a1:(List Int)):Nat→Int→Q38
 |0=>fun _=>none
 |n+1=>laws_eqKey_l0_b (laws_eqKey_l0_L kr ke0 a0 a1 n) kr ke0 a0 a1
def laws_eqKey_r(a0:(List Int))(a1:(List Int)):Q38:=
 (laws_eqKey_l0_L (some false) (some true) a0 a1 FUEL (0:Int))
def f51_l0_p(k:Nat)(K:Ex→St→Q38)(n:Nat)(a0:(List Int))(a1:(List Int))(x5:Int):Q38:=loopK (f51_cx k) 0 (execK (f51_cx k) (callK (f51_cx k) 8) 0 51 (sub f51_c [1,0,1,0,0])) f51_l0_cut K n (f51_l0_s a0 a1 x5)

theorem f51_l0_ret(k:Nat):((blkK 0 (seqK (execK (f51_cx k) (callK (f51_cx k) 8) 0 51 (sub f51_c [1,1])) (finK (f51_cx k) f51_i laws_eqKey_sh))) .ret (f51_l0_o):Q38)=
 ((some false):Q38):=by kernel_rfl

theorem f51_l0_exit0(k:Nat):((blkK 0 (seqK (execK (f51_cx k) (callK (f51_cx k) 8) 0 51 (sub f51_c [1,1])) (finK (f51_cx k) f51_i laws_eqKey_sh))) (.exit 0) (f51_l0_o0):Q38)=
 ((some true):Q38):=by kernel_rfl

theorem f51_l0_round(k:Nat)(K:Ex→St→Q38)(n:Nat)(a0:(List Int))(a1:(List Int))(x5:Int):(f51_l0_p k K (n+1) a0 a1 x5:Q38)=laws_eqKey_l0_b ((fun x5=>f51_l0_p k K n a0 a1 x5)) (K .ret (f51_l0_o)) (K (.exit 0) (f51_l0_o0)) a0 a1 x5:=by kernel_rfl

theorem f51_l0_L_eq(K:Ex→St→Q38)(a0:(List Int))(a1:(List Int)):∀(n:Nat) (x5:Int),(f51_l0_p FUEL K n a0 a1 x5:Q38)=laws_eqKey_l0_L (K .ret (f51_l0_o)) (K (.exit 0) (f51_l0_o0)) a0 a1 n x5:=by
 intro n
 induction n with
 |zero=>intros; rfl
 |succ n ih=>
  intro x5
  exact(f51_l0_round FUEL K n a0 a1 x5).trans (congrArg (fun f=>laws_eqKey_l0_b f (K .ret (f51_l0_o)) (K (.exit 0) (f51_l0_o0)) a0 a1 x5) (funext fun x5=>ih x5))

theorem f51_start(k:Nat)(a0:(List Int))(a1:(List Int)):fnK (f51_cx k) 8 51 f51_i laws_eqKey_sh [.pv (.arr 32 (.int .u8)) a0,.pv (.arr 32 (.int .u8)) a1]=
 ((loopK (f51_cx k) 0 (execK (f51_cx k) (callK (f51_cx k) 8) 0 51 (sub f51_c [1,0,1,0,0])) f51_l0_cut (blkK 0 (seqK (execK (f51_cx k) (callK (f51_cx k) 8) 0 51 (sub f51_c [1,1])) (finK (f51_cx k) f51_i laws_eqKey_sh))) k (f51_l0_s a0 a1 (0:Int))):Q38):=by kernel_rfl

theorem f51_run(a0:(List Int))(a1:(List Int)):fnK (f51_cx FUEL) 8 51 f51_i laws_eqKey_sh [.pv (.arr 32 (.int .u8)) a0,.pv (.arr 32 (.int .u8)) a1]=laws_eqKey_r a0 a1:=
 (f51_start FUEL a0 a1).trans ((f51_l0_L_eq _ a0 a1 FUEL (0:Int)).trans (cong2 (fun e0 e1=>laws_eqKey_l0_L e0 e1 a0 a1 FUEL (0:Int)) ((f51_l0_ret FUEL).trans (rfl)) ((f51_l0_exit0 FUEL).trans (rfl))))

def f51_con:Con:={ps:=(.pair (.arr 32 (.int .u8)) K13),sh:=laws_eqKey_sh,raw:=fun x=>laws_eqKey_r x.1 x.2.1}
theorem f51_conOk:ConOk Tryz.prog 51 f51_con:=con_of_fn (f51_tabs FUEL) (depth:=8) f51_ok fun x y h=>(f51_run x.1 x.2.1).trans h

def f15_l0_cut:Cut:={keep:=[0,1,5],stk:=[],ids:=[],own:=[],outs:=[(0,[4],[]),(1,[],[])]}
def f15_cx(k:Nat):Cx:=mkC [] [(51,f51_con)] [] [] [(15,[(0,f15_l0_cut)])] k [] false
theorem f15_tabs(k:Nat):TabsOk Tryz.prog (f15_cx k):=mkC_ok ⟨f51_conOk,trivial⟩ trivial trivial trivial
abbrev laws_eqKeyS_sh:List Sh:=[.pl .bool]
abbrev Q37:Type:=Option (shDen laws_eqKeyS_sh)
def f15_l0_s(a0:T15)(a1:T15)(x5:Int):St:={env:=(.pv K16 a0:: .pv K16 a1::(dd 3 (.pv (.int .i64) x5::(dd 21 [])))),stk:=[],heap:=[]}
def f15_l0_o:St:={env:=(dd 4 (.pv .bool false::(dd 22 []))),stk:=[],heap:=[]}
def f15_l0_o0:St:={env:=(dd 27 []),stk:=[],heap:=[]}
def laws_eqKeyS_l0_b(rec:Int→Q37)(kr:Q37)(ke0:Q37)(a0:T15)(a1:T15)(x5:Int):Q37:=
 (cond (decide (x5<(a0.length:Int)))
 (cond ((decide ((0:Int)≤x5))&&(decide (x5<(a0.length:Int))))
 (cond ((decide ((0:Int)≤x5))&&(decide (x5<(a1.length:Int))))
 (bindO (laws_eqKey_r (a0.getD (x5.toNat) (List.replicate 32 (0:Int))) (a1.getD (x5.toNat) (List.replicate 32 (0:Int)))) fun(b2:Bool)=>(cond (!b2)
 (kr)
 (rec (IntKind.wrap .i64 (x5+(1:Int))))))
 none)
 none)
 (ke0))
def laws_eqKeyS_l0_L(kr:Q37)(ke0:Q37)(a0:T15)(a1:T15):Nat→Int→Q37
 |0=>fun _=>none
 |n+1=>laws_eqKeyS_l0_b (laws_eqKeyS_l0_L kr ke0 a0 a1 n) kr ke0 a0 a1
def laws_eqKeyS_r(a0:T15)(a1:T15):Q37:=
 (cond (!(decide ((a0.length:Int)=(a1.length:Int))))
 (some false)
 (laws_eqKeyS_l0_L (some false) (some true) a0 a1 FUEL (0:Int)))
def f15_l0_p(k:Nat)(K:Ex→St→Q37)(n:Nat)(a0:T15)(a1:T15)(x5:Int):Q37:=loopK (f15_cx k) 0 (execK (f15_cx k) (callK (f15_cx k) 8) 0 15 (sub f15_c [1,1,0,1,0,0])) f15_l0_cut K n (f15_l0_s a0 a1 x5)

theorem f15_l0_ret(k:Nat):((blkK 0 (seqK (execK (f15_cx k) (callK (f15_cx k) 8) 0 15 (sub f15_c [1,1,1])) (finK (f15_cx k) f15_i laws_eqKeyS_sh))) .ret (f15_l0_o):Q37)=
 ((some false):Q37):=by kernel_rfl

theorem f15_l0_exit0(k:Nat):((blkK 0 (seqK (execK (f15_cx k) (callK (f15_cx k) 8) 0 15 (sub f15_c [1,1,1])) (finK (f15_cx k) f15_i laws_eqKeyS_sh))) (.exit 0) (f15_l0_o0):Q37)=
 ((some true):Q37):=by kernel_rfl

theorem f15_l0_round(k:Nat)(K:Ex→St→Q37)(n:Nat)(a0:T15)(a1:T15)(x5:Int):(f15_l0_p k K (n+1) a0 a1 x5:Q37)=laws_eqKeyS_l0_b ((fun x5=>f15_l0_p k K n a0 a1 x5)) (K .ret (f15_l0_o)) (K (.exit 0) (f15_l0_o0)) a0 a1 x5:=by kernel_rfl

theorem f15_l0_L_eq(K:Ex→St→Q37)(a0:T15)(a1:T15):∀(n:Nat) (x5:Int),(f15_l0_p FUEL K n a0 a1 x5:Q37)=laws_eqKeyS_l0_L (K .ret (f15_l0_o)) (K (.exit 0) (f15_l0_o0)) a0 a1 n x5:=by
 intro n
 induction n with
 |zero=>intros; rfl
 |succ n ih=>
  intro x5
  exact(f15_l0_round FUEL K n a0 a1 x5).trans (congrArg (fun f=>laws_eqKeyS_l0_b f (K .ret (f15_l0_o)) (K (.exit 0) (f15_l0_o0)) a0 a1 x5) (funext fun x5=>ih x5))

theorem f15_start(k:Nat)(a0:T15)(a1:T15):fnK (f15_cx k) 8 15 f15_i laws_eqKeyS_sh [.pv K16 a0,.pv K16 a1]=
 ((cond (!(decide ((a0.length:Int)=(a1.length:Int))))
 (some false)
 (loopK (f15_cx k) 0 (execK (f15_cx k) (callK (f15_cx k) 8) 0 15 (sub f15_c [1,1,0,1,0,0])) f15_l0_cut (blkK 0 (seqK (execK (f15_cx k) (callK (f15_cx k) 8) 0 15 (sub f15_c [1,1,1])) (finK (f15_cx k) f15_i laws_eqKeyS_sh))) k (f15_l0_s a0 a1 (0:Int)))):Q37):=by kernel_rfl

theorem f15_run(a0:T15)(a1:T15):fnK (f15_cx FUEL) 8 15 f15_i laws_eqKeyS_sh [.pv K16 a0,.pv K16 a1]=laws_eqKeyS_r a0 a1:=
 (f15_start FUEL a0 a1).trans (condC (rfl) ((f15_l0_L_eq _ a0 a1 FUEL (0:Int)).trans (cong2 (fun e0 e1=>laws_eqKeyS_l0_L e0 e1 a0 a1 FUEL (0:Int)) ((f15_l0_ret FUEL).trans (rfl)) ((f15_l0_exit0 FUEL).trans (rfl)))))

def f15_con:Con:={ps:=K4,sh:=laws_eqKeyS_sh,raw:=fun x=>laws_eqKeyS_r x.1 x.2.1}
theorem f15_conOk:ConOk Tryz.prog 15 f15_con:=con_of_fn (f15_tabs FUEL) (depth:=8) f15_ok fun x y h=>(f15_run x.1 x.2.1).trans h

def f79_l0_cut:Cut:={keep:=[0,1,5],stk:=[],ids:=[7],own:=[],outs:=[(1,[1],[7])]}
def f79_cx(k:Nat):Cx:=mkC [] [] [] [] [(79,[(0,f79_l0_cut)])] k [] false
theorem f79_tabs(k:Nat):TabsOk Tryz.prog (f79_cx k):=mkC_ok trivial trivial trivial trivial
abbrev laws_markByteS_sh:List Sh:=[.pl (.int .i64)]
def f79_l0_s(x1:Int)(x5:Int)(z7:(List Int)):St:={env:=(.sl 7 (.int .u8):: .pv (.int .i64) x1::(dd 3 (.pv (.int .i64) x5::(dd 14 [])))),stk:=[],heap:=[(7,.arr 5 (.int .u8) z7)]}
def f79_l0_o0(x1:Int)(z7:(List Int)):St:={env:=(.dead:: .pv (.int .i64) x1::(dd 18 [])),stk:=[],heap:=[(7,.arr 5 (.int .u8) z7)]}
def laws_markByteS_l0_b(rec:Int→Int→(List Int)→Option ((List Int)×shDen laws_markByteS_sh))(ke0:Int→(List Int)→Option ((List Int)×shDen laws_markByteS_sh))(x1:Int)(x5:Int)(z7:(List Int)):Option ((List Int)×shDen laws_markByteS_sh):=
 (cond (decide (x5<(z7.length:Int)))
 (cond ((decide ((0:Int)≤x5))&&(decide (x5<(z7.length:Int))))
 (rec (IntKind.wrap .i64 (x1+(1:Int))) (IntKind.wrap .i64 (x5+(1:Int))) (z7.set (x5.toNat) (IntKind.wrap .u8 x1)))
 none)
 (ke0 x1 z7))
def laws_markByteS_l0_L(ke0:Int→(List Int)→Option ((List Int)×shDen laws_markByteS_sh)):Nat→Int→Int→(List Int)→Option ((List Int)×shDen laws_markByteS_sh)
 |0=>fun _ _ _=>none
 |n+1=>laws_markByteS_l0_b (laws_markByteS_l0_L ke0 n) ke0
def laws_markByteS_r(a0:(List Int))(a1:Int):Option ((List Int)×shDen laws_markByteS_sh):=
 (laws_markByteS_l0_L (fun x1 z7=>(some (z7,x1))) FUEL a1 (0:Int) a0)
def f79_l0_p(k:Nat)(K:Ex→St→Option ((List Int)×shDen laws_markByteS_sh))(n:Nat)(x1:Int)(x5:Int)(z7:(List Int)):Option ((List Int)×shDen laws_markByteS_sh):=loopK (f79_cx k) 0 (execK (f79_cx k) (callK (f79_cx k) 8) 0 79 (sub f79_c [1,0,1,0,0])) f79_l0_cut K n (f79_l0_s x1 x5 z7)

theorem f79_l0_exit0(k:Nat)(x1:Int)(z7:(List Int)):((blkK 0 (seqK (execK (f79_cx k) (callK (f79_cx k) 8) 0 79 (sub f79_c [1,1])) (finIK (f79_cx k) f79_i (.arr 5 (.int .u8)) laws_markByteS_sh))) (.exit 0) (f79_l0_o0 x1 z7):Option ((List Int)×shDen laws_markByteS_sh))=
 ((some (z7,x1)):Option ((List Int)×shDen laws_markByteS_sh)):=by kernel_rfl

theorem f79_l0_round(k:Nat)(K:Ex→St→Option ((List Int)×shDen laws_markByteS_sh))(n:Nat)(x1:Int)(x5:Int)(z7:(List Int)):(f79_l0_p k K (n+1) x1 x5 z7:Option ((List Int)×shDen laws_markByteS_sh))=laws_markByteS_l0_b ((fun x1 x5 z7=>f79_l0_p k K n x1 x5 z7)) (fun x1 z7=>K (.exit 0) (f79_l0_o0 x1 z7)) x1 x5 z7:=by kernel_rfl

theorem f79_l0_L_eq(K:Ex→St→Option ((List Int)×shDen laws_markByteS_sh)):∀(n:Nat) (x1:Int) (x5:Int) (z7:(List Int)),(f79_l0_p FUEL K n x1 x5 z7:Option ((List Int)×shDen laws_markByteS_sh))=laws_markByteS_l0_L (fun x1 z7=>K (.exit 0) (f79_l0_o0 x1 z7)) n x1 x5 z7:=by
 intro n
 induction n with
 |zero=>intros; rfl
 |succ n ih=>
  intro x1 x5 z7
  exact(f79_l0_round FUEL K n x1 x5 z7).trans (congrArg (fun f=>laws_markByteS_l0_b f (fun x1 z7=>K (.exit 0) (f79_l0_o0 x1 z7)) x1 x5 z7) (funext fun x1=>funext fun x5=>funext fun z7=>ih x1 x5 z7))

theorem f79_start(k:Nat)(a0:(List Int))(a1:Int):fnIK (f79_cx k) 8 79 f79_i (.arr 5 (.int .u8)) laws_markByteS_sh a0 [.pv (.int .i64) a1]=
 ((loopK (f79_cx k) 0 (execK (f79_cx k) (callK (f79_cx k) 8) 0 79 (sub f79_c [1,0,1,0,0])) f79_l0_cut (blkK 0 (seqK (execK (f79_cx k) (callK (f79_cx k) 8) 0 79 (sub f79_c [1,1])) (finIK (f79_cx k) f79_i (.arr 5 (.int .u8)) laws_markByteS_sh))) k (f79_l0_s a1 (0:Int) a0)):Option ((List Int)×shDen laws_markByteS_sh)):=by kernel_rfl

theorem f79_run(a0:(List Int))(a1:Int):fnIK (f79_cx FUEL) 8 79 f79_i (.arr 5 (.int .u8)) laws_markByteS_sh a0 [.pv (.int .i64) a1]=laws_markByteS_r a0 a1:=
 (f79_start FUEL a0 a1).trans ((f79_l0_L_eq _ FUEL a1 (0:Int) a0).trans (congrArg (fun e0=>laws_markByteS_l0_L e0 FUEL a1 (0:Int) a0) (funext fun x1=>funext fun z7=>(f79_l0_exit0 FUEL x1 z7).trans (rfl))))

def f79_inp:ConI:={k:=(.arr 5 (.int .u8)),ps:=K18,sh:=laws_markByteS_sh,raw:=fun x q=>laws_markByteS_r x q.1}
theorem f79_inpOk:InpOk Tryz.prog 79 f79_inp:=inp_of_fn (f79_tabs FUEL) (depth:=8) f79_ok fun x q z h=>(f79_run x q.1).trans h

def f36_d_l0_cut:Cut:={keep:=[0,1,5],stk:=[],ids:=[7],own:=[],outs:=[(1,[1],[7])]}
def f36_d_cx(k:Nat):Cx:=mkC [] [] [] [(79,f79_inp)] [(36,[(0,f36_d_l0_cut)])] k dps false
theorem f36_d_tabs(k:Nat):TabsOk Tryz.prog (f36_d_cx k):=mkC_ok trivial trivial ⟨f79_inpOk,trivial⟩ trivial
abbrev laws_markBlobS_d_sh:List Sh:=[.pl (.int .i64)]
def f36_d_l0_s(x1:Int)(x5:Int)(z7:T7):St:={env:=(.inn 7 [] K10:: .pv (.int .i64) x1::(dd 3 (.pv (.int .i64) x5::(dd 22 [])))),stk:=[],heap:=[(7,.tre 125 (.pr (.pl (.int .u8)) (.pr (.sl 5 (.pl (.int .u8))) (.pl .unit))) z7)]}
def f36_d_l0_o0(x1:Int)(z7:T7):St:={env:=(.dead:: .pv (.int .i64) x1::(dd 26 [])),stk:=[],heap:=[(7,.tre 125 (.pr (.pl (.int .u8)) (.pr (.sl 5 (.pl (.int .u8))) (.pl .unit))) z7)]}
def laws_markBlobS_d_l0_b(rec:Int→Int→T7→Option (T7×shDen laws_markBlobS_d_sh))(ke0:Int→T7→Option (T7×shDen laws_markBlobS_d_sh))(x1:Int)(x5:Int)(z7:T7):Option (T7×shDen laws_markBlobS_d_sh):=
 (cond (decide (x5<(z7.length:Int)))
 (cond ((decide ((0:Int)≤x5))&&(decide (x5<(z7.length:Int))))
 (cond ((decide ((0:Int)≤x5))&&(decide (x5<((z7.set (x5.toNat) ((IntKind.wrap .u8 x1),(z7.getD (x5.toNat) ((0:Int),([],()))).2)).length:Int))))
 (cond (decide ((x5.toNat)<List.length (z7.set (x5.toNat) ((IntKind.wrap .u8 x1),(z7.getD (x5.toNat) ((0:Int),([],()))).2)))&&true) (bindO (laws_markByteS_r ((((z7.set (x5.toNat) ((IntKind.wrap .u8 x1),(z7.getD (x5.toNat) ((0:Int),([],()))).2)).getD (x5.toNat) ((0:Int),([],()))).2).1) (IntKind.wrap .i64 (x1+(1:Int)))) fun(b2:((List Int)×Int))=>(rec b2.2 (IntKind.wrap .i64 (x5+(1:Int))) ((z7.set (x5.toNat) ((IntKind.wrap .u8 x1),(z7.getD (x5.toNat) ((0:Int),([],()))).2)).set (x5.toNat) (((z7.set (x5.toNat) ((IntKind.wrap .u8 x1),(z7.getD (x5.toNat) ((0:Int),([],()))).2)).getD (x5.toNat) ((0:Int),([],()))).1,(b2.1,(((z7.set (x5.toNat) ((IntKind.wrap .u8 x1),(z7.getD (x5.toNat) ((0:Int),([],()))).2)).getD (x5.toNat) ((0:Int),([],()))).2).2))))) none)
 none)
 none)
 (ke0 x1 z7))
def laws_markBlobS_d_l0_L(ke0:Int→T7→Option (T7×shDen laws_markBlobS_d_sh)):Nat→Int→Int→T7→Option (T7×shDen laws_markBlobS_d_sh)
 |0=>fun _ _ _=>none
 |n+1=>laws_markBlobS_d_l0_b (laws_markBlobS_d_l0_L ke0 n) ke0
def laws_markBlobS_d_r(a0:T7)(a1:Int):Option (T7×shDen laws_markBlobS_d_sh):=
 (laws_markBlobS_d_l0_L (fun x1 z7=>(some (z7,x1))) FUEL a1 (0:Int) a0)
def f36_d_l0_p(k:Nat)(K:Ex→St→Option (T7×shDen laws_markBlobS_d_sh))(n:Nat)(x1:Int)(x5:Int)(z7:T7):Option (T7×shDen laws_markBlobS_d_sh):=loopK (f36_d_cx k) 0 (execK (f36_d_cx k) (callK (f36_d_cx k) 8) 0 36 (sub f36_c [1,0,1,0,0])) f36_d_l0_cut K n (f36_d_l0_s x1 x5 z7)

theorem f36_d_l0_exit0(k:Nat)(x1:Int)(z7:T7):((blkK 0 (seqK (execK (f36_d_cx k) (callK (f36_d_cx k) 8) 0 36 (sub f36_c [1,1])) (finIK (f36_d_cx k) f36_i (.tre 125 (.pr (.pl (.int .u8)) (.pr (.sl 5 (.pl (.int .u8))) (.pl .unit)))) laws_markBlobS_d_sh))) (.exit 0) (f36_d_l0_o0 x1 z7):Option (T7×shDen laws_markBlobS_d_sh))=
 ((some (z7,x1)):Option (T7×shDen laws_markBlobS_d_sh)):=by kernel_rfl

theorem f36_d_l0_round(k:Nat)(K:Ex→St→Option (T7×shDen laws_markBlobS_d_sh))(n:Nat)(x1:Int)(x5:Int)(z7:T7):(f36_d_l0_p k K (n+1) x1 x5 z7:Option (T7×shDen laws_markBlobS_d_sh))=laws_markBlobS_d_l0_b ((fun x1 x5 z7=>f36_d_l0_p k K n x1 x5 z7)) (fun x1 z7=>K (.exit 0) (f36_d_l0_o0 x1 z7)) x1 x5 z7:=by kernel_rfl

theorem f36_d_l0_L_eq(K:Ex→St→Option (T7×shDen laws_markBlobS_d_sh)):∀(n:Nat) (x1:Int) (x5:Int) (z7:T7),(f36_d_l0_p FUEL K n x1 x5 z7:Option (T7×shDen laws_markBlobS_d_sh))=laws_markBlobS_d_l0_L (fun x1 z7=>K (.exit 0) (f36_d_l0_o0 x1 z7)) n x1 x5 z7:=by
 intro n
 induction n with
 |zero=>intros; rfl
 |succ n ih=>
  intro x1 x5 z7
  exact(f36_d_l0_round FUEL K n x1 x5 z7).trans (congrArg (fun f=>laws_markBlobS_d_l0_b f (fun x1 z7=>K (.exit 0) (f36_d_l0_o0 x1 z7)) x1 x5 z7) (funext fun x1=>funext fun x5=>funext fun z7=>ih x1 x5 z7))

theorem f36_d_start(k:Nat)(a0:T7)(a1:Int):fnIK (f36_d_cx k) 8 36 f36_i (.tre 125 (.pr (.pl (.int .u8)) (.pr (.sl 5 (.pl (.int .u8))) (.pl .unit)))) laws_markBlobS_d_sh a0 [.pv (.int .i64) a1]=
 ((loopK (f36_d_cx k) 0 (execK (f36_d_cx k) (callK (f36_d_cx k) 8) 0 36 (sub f36_c [1,0,1,0,0])) f36_d_l0_cut (blkK 0 (seqK (execK (f36_d_cx k) (callK (f36_d_cx k) 8) 0 36 (sub f36_c [1,1])) (finIK (f36_d_cx k) f36_i (.tre 125 (.pr (.pl (.int .u8)) (.pr (.sl 5 (.pl (.int .u8))) (.pl .unit)))) laws_markBlobS_d_sh))) k (f36_d_l0_s a1 (0:Int) a0)):Option (T7×shDen laws_markBlobS_d_sh)):=by kernel_rfl

theorem f36_d_run(a0:T7)(a1:Int):fnIK (f36_d_cx FUEL) 8 36 f36_i (.tre 125 (.pr (.pl (.int .u8)) (.pr (.sl 5 (.pl (.int .u8))) (.pl .unit)))) laws_markBlobS_d_sh a0 [.pv (.int .i64) a1]=laws_markBlobS_d_r a0 a1:=
 (f36_d_start FUEL a0 a1).trans ((f36_d_l0_L_eq _ FUEL a1 (0:Int) a0).trans (congrArg (fun e0=>laws_markBlobS_d_l0_L e0 FUEL a1 (0:Int) a0) (funext fun x1=>funext fun z7=>(f36_d_l0_exit0 FUEL x1 z7).trans (rfl))))

def f36_d_inp:ConI:={k:=(.tre 125 (.pr (.pl (.int .u8)) (.pr (.sl 5 (.pl (.int .u8))) (.pl .unit)))),ps:=K18,sh:=laws_markBlobS_d_sh,raw:=fun x q=>laws_markBlobS_d_r x q.1}
theorem f36_d_inpOk:InpOk Tryz.prog 36 f36_d_inp:=inp_of_fn (f36_d_tabs FUEL) (depth:=8) f36_ok fun x q z h=>(f36_d_run x q.1).trans h

def f19_l0_cut:Cut:={keep:=[0,1,5],stk:=[],ids:=[7],own:=[],outs:=[(1,[1],[7])]}
def f19_l1_cut:Cut:={keep:=[0,1,5,6],stk:=[],ids:=[7],own:=[],outs:=[(3,[0,1,5],[7])]}
def f19_cx(k:Nat):Cx:=mkC [] [] [] [] [(19,[(0,f19_l0_cut),(2,f19_l1_cut)])] k [] false
theorem f19_tabs(k:Nat):TabsOk Tryz.prog (f19_cx k):=mkC_ok trivial trivial trivial trivial
abbrev laws_markKeyS_sh:List Sh:=[.pl (.int .i64)]
def f19_l0_s(x1:Int)(x5:Int)(z7:T15):St:={env:=(.sl 7 (.arr 32 (.int .u8)):: .pv (.int .i64) x1::(dd 3 (.pv (.int .i64) x5::(dd 21 [])))),stk:=[],heap:=[(7,.arr 35 (.arr 32 (.int .u8)) z7)]}
def f19_l0_o0(x1:Int)(z7:T15):St:={env:=(.dead:: .pv (.int .i64) x1::(dd 25 [])),stk:=[],heap:=[(7,.arr 35 (.arr 32 (.int .u8)) z7)]}
def f19_l1_s(x5:Int)(x1:Int)(x6:Int)(z7:T15):St:={env:=(.sl 7 (.arr 32 (.int .u8)):: .pv (.int .i64) x1::(dd 3 (.pv (.int .i64) x5:: .pv (.int .i64) x6::(dd 20 [])))),stk:=[],heap:=[(7,.arr 35 (.arr 32 (.int .u8)) z7)]}
def f19_l1_o2(x5:Int)(x1:Int)(z7:T15):St:={env:=(.sl 7 (.arr 32 (.int .u8)):: .pv (.int .i64) x1::(dd 3 (.pv (.int .i64) x5::(dd 21 [])))),stk:=[],heap:=[(7,.arr 35 (.arr 32 (.int .u8)) z7)]}
def laws_markKeyS_l1_b(rec:Int→Int→T15→Option (T15×shDen laws_markKeyS_sh))(ke2:Int→T15→Option (T15×shDen laws_markKeyS_sh))(x5:Int)(x1:Int)(x6:Int)(z7:T15):Option (T15×shDen laws_markKeyS_sh):=
 (cond (decide (x6<(32:Int)))
 (cond ((decide ((0:Int)≤x5))&&(decide (x5<(z7.length:Int))))
 (cond ((decide ((0:Int)≤x6))&&(decide (x6<(32:Int))))
 (rec (IntKind.wrap .i64 (x1+(1:Int))) (IntKind.wrap .i64 (x6+(1:Int))) (z7.set (x5.toNat) ((z7.getD (x5.toNat) (List.replicate 32 (0:Int))).set (x6.toNat) (IntKind.wrap .u8 x1))))
 none)
 none)
 (ke2 x1 z7))
def laws_markKeyS_l1_L(ke2:Int→T15→Option (T15×shDen laws_markKeyS_sh))(x5:Int):Nat→Int→Int→T15→Option (T15×shDen laws_markKeyS_sh)
 |0=>fun _ _ _=>none
 |n+1=>laws_markKeyS_l1_b (laws_markKeyS_l1_L ke2 x5 n) ke2 x5
def laws_markKeyS_l0_b(rec:Int→Int→T15→Option (T15×shDen laws_markKeyS_sh))(ke0:Int→T15→Option (T15×shDen laws_markKeyS_sh))(x1:Int)(x5:Int)(z7:T15):Option (T15×shDen laws_markKeyS_sh):=
 (cond (decide (x5<(z7.length:Int)))
 (laws_markKeyS_l1_L (fun x1 z7=>(rec x1 (IntKind.wrap .i64 (x5+(1:Int))) z7)) x5 FUEL x1 (0:Int) z7)
 (ke0 x1 z7))
def laws_markKeyS_l0_L(ke0:Int→T15→Option (T15×shDen laws_markKeyS_sh)):Nat→Int→Int→T15→Option (T15×shDen laws_markKeyS_sh)
 |0=>fun _ _ _=>none
 |n+1=>laws_markKeyS_l0_b (laws_markKeyS_l0_L ke0 n) ke0
def laws_markKeyS_r(a0:T15)(a1:Int):Option (T15×shDen laws_markKeyS_sh):=
 (laws_markKeyS_l0_L (fun x1 z7=>(some (z7,x1))) FUEL a1 (0:Int) a0)
def f19_l1_p(k:Nat)(K:Ex→St→Option (T15×shDen laws_markKeyS_sh))(n:Nat)(x5:Int)(x1:Int)(x6:Int)(z7:T15):Option (T15×shDen laws_markKeyS_sh):=loopK (f19_cx k) 0 (execK (f19_cx k) (callK (f19_cx k) 8) 0 19 (sub f19_c [1,0,1,0,0,1,0,0,1,0,0])) f19_l1_cut K n (f19_l1_s x5 x1 x6 z7)

theorem f19_l1_exit2(k:Nat)(K:Ex→St→Option (T15×shDen laws_markKeyS_sh))(n:Nat)(x5:Int)(x1:Int)(z7:T15):((blkK 2 (blkK 1 (seqK (execK (f19_cx k) (callK (f19_cx k) 8) 0 19 (sub f19_c [1,0,1,0,0,1,1])) (iterK (f19_cx k) 0 f19_l0_cut (loopK (f19_cx k) 0 (execK (f19_cx k) (callK (f19_cx k) 8) 0 19 (sub f19_c [1,0,1,0,0])) f19_l0_cut K n) K)))) (.exit 2) (f19_l1_o2 x5 x1 z7):Option (T15×shDen laws_markKeyS_sh))=
 ((loopK (f19_cx k) 0 (execK (f19_cx k) (callK (f19_cx k) 8) 0 19 (sub f19_c [1,0,1,0,0])) f19_l0_cut K n (f19_l0_s x1 (IntKind.wrap .i64 (x5+(1:Int))) z7)):Option (T15×shDen laws_markKeyS_sh)):=by kernel_rfl

theorem f19_l1_round(k:Nat)(K:Ex→St→Option (T15×shDen laws_markKeyS_sh))(n:Nat)(x5:Int)(x1:Int)(x6:Int)(z7:T15):(f19_l1_p k K (n+1) x5 x1 x6 z7:Option (T15×shDen laws_markKeyS_sh))=laws_markKeyS_l1_b ((fun x1 x6 z7=>f19_l1_p k K n x5 x1 x6 z7)) (fun x1 z7=>K (.exit 2) (f19_l1_o2 x5 x1 z7)) x5 x1 x6 z7:=by kernel_rfl

theorem f19_l1_L_eq(K:Ex→St→Option (T15×shDen laws_markKeyS_sh))(x5:Int):∀(n:Nat) (x1:Int) (x6:Int) (z7:T15),(f19_l1_p FUEL K n x5 x1 x6 z7:Option (T15×shDen laws_markKeyS_sh))=laws_markKeyS_l1_L (fun x1 z7=>K (.exit 2) (f19_l1_o2 x5 x1 z7)) x5 n x1 x6 z7:=by
 intro n
 induction n with
 |zero=>intros; rfl
 |succ n ih=>
  intro x1 x6 z7
  exact(f19_l1_round FUEL K n x5 x1 x6 z7).trans (congrArg (fun f=>laws_markKeyS_l1_b f (fun x1 z7=>K (.exit 2) (f19_l1_o2 x5 x1 z7)) x5 x1 x6 z7) (funext fun x1=>funext fun x6=>funext fun z7=>ih x1 x6 z7))

def f19_l0_p(k:Nat)(K:Ex→St→Option (T15×shDen laws_markKeyS_sh))(n:Nat)(x1:Int)(x5:Int)(z7:T15):Option (T15×shDen laws_markKeyS_sh):=loopK (f19_cx k) 0 (execK (f19_cx k) (callK (f19_cx k) 8) 0 19 (sub f19_c [1,0,1,0,0])) f19_l0_cut K n (f19_l0_s x1 x5 z7)

theorem f19_l0_round(k:Nat)(K:Ex→St→Option (T15×shDen laws_markKeyS_sh))(n:Nat)(x1:Int)(x5:Int)(z7:T15):(f19_l0_p k K (n+1) x1 x5 z7:Option (T15×shDen laws_markKeyS_sh))=
 ((cond (decide (x5<(z7.length:Int)))
 (loopK (f19_cx k) 0 (execK (f19_cx k) (callK (f19_cx k) 8) 0 19 (sub f19_c [1,0,1,0,0,1,0,0,1,0,0])) f19_l1_cut (blkK 2 (blkK 1 (seqK (execK (f19_cx k) (callK (f19_cx k) 8) 0 19 (sub f19_c [1,0,1,0,0,1,1])) (iterK (f19_cx k) 0 f19_l0_cut (loopK (f19_cx k) 0 (execK (f19_cx k) (callK (f19_cx k) 8) 0 19 (sub f19_c [1,0,1,0,0])) f19_l0_cut K n) K)))) k (f19_l1_s x5 x1 (0:Int) z7))
 (K (.exit 0) (f19_l0_o0 x1 z7))):Option (T15×shDen laws_markKeyS_sh)):=by kernel_rfl

theorem f19_l0_exit0(k:Nat)(x1:Int)(z7:T15):((blkK 0 (seqK (execK (f19_cx k) (callK (f19_cx k) 8) 0 19 (sub f19_c [1,1])) (finIK (f19_cx k) f19_i (.arr 35 (.arr 32 (.int .u8))) laws_markKeyS_sh))) (.exit 0) (f19_l0_o0 x1 z7):Option (T15×shDen laws_markKeyS_sh))=
 ((some (z7,x1)):Option (T15×shDen laws_markKeyS_sh)):=by kernel_rfl

theorem f19_l0_L_eq(K:Ex→St→Option (T15×shDen laws_markKeyS_sh)):∀(n:Nat) (x1:Int) (x5:Int) (z7:T15),(f19_l0_p FUEL K n x1 x5 z7:Option (T15×shDen laws_markKeyS_sh))=laws_markKeyS_l0_L (fun x1 z7=>K (.exit 0) (f19_l0_o0 x1 z7)) n x1 x5 z7:=by
 intro n
 induction n with
 |zero=>intros; rfl
 |succ n ih=>
  intro x1 x5 z7
  exact(f19_l0_round FUEL K n x1 x5 z7).trans (condC ((f19_l1_L_eq _ x5 FUEL x1 (0:Int) z7).trans (congrArg (fun e0=>laws_markKeyS_l1_L e0 x5 FUEL x1 (0:Int) z7) (funext fun x1=>funext fun z7=>(f19_l1_exit2 FUEL K n x5 x1 z7).trans (ih x1 (IntKind.wrap .i64 (x5+(1:Int))) z7)))) (rfl))

theorem f19_start(k:Nat)(a0:T15)(a1:Int):fnIK (f19_cx k) 8 19 f19_i (.arr 35 (.arr 32 (.int .u8))) laws_markKeyS_sh a0 [.pv (.int .i64) a1]=
 ((loopK (f19_cx k) 0 (execK (f19_cx k) (callK (f19_cx k) 8) 0 19 (sub f19_c [1,0,1,0,0])) f19_l0_cut (blkK 0 (seqK (execK (f19_cx k) (callK (f19_cx k) 8) 0 19 (sub f19_c [1,1])) (finIK (f19_cx k) f19_i (.arr 35 (.arr 32 (.int .u8))) laws_markKeyS_sh))) k (f19_l0_s a1 (0:Int) a0)):Option (T15×shDen laws_markKeyS_sh)):=by kernel_rfl

theorem f19_run(a0:T15)(a1:Int):fnIK (f19_cx FUEL) 8 19 f19_i (.arr 35 (.arr 32 (.int .u8))) laws_markKeyS_sh a0 [.pv (.int .i64) a1]=laws_markKeyS_r a0 a1:=
 (f19_start FUEL a0 a1).trans ((f19_l0_L_eq _ FUEL a1 (0:Int) a0).trans (congrArg (fun e0=>laws_markKeyS_l0_L e0 FUEL a1 (0:Int) a0) (funext fun x1=>funext fun z7=>(f19_l0_exit0 FUEL x1 z7).trans (rfl))))

def f19_inp:ConI:={k:=(.arr 35 (.arr 32 (.int .u8))),ps:=K18,sh:=laws_markKeyS_sh,raw:=fun x q=>laws_markKeyS_r x q.1}
theorem f19_inpOk:InpOk Tryz.prog 19 f19_inp:=inp_of_fn (f19_tabs FUEL) (depth:=8) f19_ok fun x q z h=>(f19_run x q.1).trans h

def f80_l0_cut:Cut:={keep:=[0,1,5],stk:=[],ids:=[],own:=[],outs:=[(0,[4],[]),(1,[1],[])]}
def f80_cx(k:Nat):Cx:=mkC [] [] [] [] [(80,[(0,f80_l0_cut)])] k [] false
theorem f80_tabs(k:Nat):TabsOk Tryz.prog (f80_cx k):=mkC_ok trivial trivial trivial trivial
abbrev laws_heldByteS_sh:List Sh:=[.pl (.int .i64)]
abbrev Q41:Type:=Option (shDen laws_heldByteS_sh)
def f80_l0_s(a0:(List Int))(x1:Int)(x5:Int):St:={env:=(.pv K20 a0:: .pv (.int .i64) x1::(dd 3 (.pv (.int .i64) x5::(dd 16 [])))),stk:=[],heap:=[]}
def f80_l0_o:St:={env:=(dd 4 (.pv (.int .i64) (-1:Int)::(dd 17 []))),stk:=[],heap:=[]}
def f80_l0_o0(x1:Int):St:={env:=(.dead:: .pv (.int .i64) x1::(dd 20 [])),stk:=[],heap:=[]}
def laws_heldByteS_l0_b(rec:Int→Int→Q41)(kr:Q41)(ke0:Int→Q41)(a0:(List Int))(x1:Int)(x5:Int):Q41:=
 (cond (decide (x5<(a0.length:Int)))
 (cond ((decide ((0:Int)≤x5))&&(decide (x5<(a0.length:Int))))
 (cond (!(decide ((a0.getD (x5.toNat) (0:Int))=(IntKind.wrap .u8 x1))))
 (kr)
 (rec (IntKind.wrap .i64 (x1+(1:Int))) (IntKind.wrap .i64 (x5+(1:Int)))))
 none)
 (ke0 x1))
def laws_heldByteS_l0_L(kr:Q41)(ke0:Int→Q41)(a0:(List Int)):Nat→Int→Int→Q41
 |0=>fun _ _=>none
 |n+1=>laws_heldByteS_l0_b (laws_heldByteS_l0_L kr ke0 a0 n) kr ke0 a0
def laws_heldByteS_r(a0:(List Int))(a1:Int):Q41:=
 (laws_heldByteS_l0_L (some (-1:Int)) (fun x1=>(some x1)) a0 FUEL a1 (0:Int))
def f80_l0_p(k:Nat)(K:Ex→St→Q41)(n:Nat)(a0:(List Int))(x1:Int)(x5:Int):Q41:=loopK (f80_cx k) 0 (execK (f80_cx k) (callK (f80_cx k) 8) 0 80 (sub f80_c [1,0,1,0,0])) f80_l0_cut K n (f80_l0_s a0 x1 x5)

theorem f80_l0_ret(k:Nat):((blkK 0 (seqK (execK (f80_cx k) (callK (f80_cx k) 8) 0 80 (sub f80_c [1,1])) (finK (f80_cx k) f80_i laws_heldByteS_sh))) .ret (f80_l0_o):Q41)=
 ((some (-1:Int)):Q41):=by kernel_rfl

theorem f80_l0_exit0(k:Nat)(x1:Int):((blkK 0 (seqK (execK (f80_cx k) (callK (f80_cx k) 8) 0 80 (sub f80_c [1,1])) (finK (f80_cx k) f80_i laws_heldByteS_sh))) (.exit 0) (f80_l0_o0 x1):Q41)=
 ((some x1):Q41):=by kernel_rfl

theorem f80_l0_round(k:Nat)(K:Ex→St→Q41)(n:Nat)(a0:(List Int))(x1:Int)(x5:Int):(f80_l0_p k K (n+1) a0 x1 x5:Q41)=laws_heldByteS_l0_b ((fun x1 x5=>f80_l0_p k K n a0 x1 x5)) (K .ret (f80_l0_o)) (fun x1=>K (.exit 0) (f80_l0_o0 x1)) a0 x1 x5:=by kernel_rfl

theorem f80_l0_L_eq(K:Ex→St→Q41)(a0:(List Int)):∀(n:Nat) (x1:Int) (x5:Int),(f80_l0_p FUEL K n a0 x1 x5:Q41)=laws_heldByteS_l0_L (K .ret (f80_l0_o)) (fun x1=>K (.exit 0) (f80_l0_o0 x1)) a0 n x1 x5:=by
 intro n
 induction n with
 |zero=>intros; rfl
 |succ n ih=>
  intro x1 x5
  exact(f80_l0_round FUEL K n a0 x1 x5).trans (congrArg (fun f=>laws_heldByteS_l0_b f (K .ret (f80_l0_o)) (fun x1=>K (.exit 0) (f80_l0_o0 x1)) a0 x1 x5) (funext fun x1=>funext fun x5=>ih x1 x5))

theorem f80_start(k:Nat)(a0:(List Int))(a1:Int):fnK (f80_cx k) 8 80 f80_i laws_heldByteS_sh [.pv K20 a0,.pv (.int .i64) a1]=
 ((loopK (f80_cx k) 0 (execK (f80_cx k) (callK (f80_cx k) 8) 0 80 (sub f80_c [1,0,1,0,0])) f80_l0_cut (blkK 0 (seqK (execK (f80_cx k) (callK (f80_cx k) 8) 0 80 (sub f80_c [1,1])) (finK (f80_cx k) f80_i laws_heldByteS_sh))) k (f80_l0_s a0 a1 (0:Int))):Q41):=by kernel_rfl

theorem f80_run(a0:(List Int))(a1:Int):fnK (f80_cx FUEL) 8 80 f80_i laws_heldByteS_sh [.pv K20 a0,.pv (.int .i64) a1]=laws_heldByteS_r a0 a1:=
 (f80_start FUEL a0 a1).trans ((f80_l0_L_eq _ a0 FUEL a1 (0:Int)).trans (cong2 (fun e0 e1=>laws_heldByteS_l0_L e0 e1 a0 FUEL a1 (0:Int)) ((f80_l0_ret FUEL).trans (rfl)) (funext fun x1=>(f80_l0_exit0 FUEL x1).trans (rfl))))

def f80_con:Con:={ps:=K9,sh:=laws_heldByteS_sh,raw:=fun x=>laws_heldByteS_r x.1 x.2.1}
theorem f80_conOk:ConOk Tryz.prog 80 f80_con:=con_of_fn (f80_tabs FUEL) (depth:=8) f80_ok fun x y h=>(f80_run x.1 x.2.1).trans h

def f37_l0_cut:Cut:={keep:=[0,1,5],stk:=[],ids:=[],own:=[],outs:=[(0,[4],[]),(1,[1],[])]}
def f37_cx(k:Nat):Cx:=mkC [] [(80,f80_con)] [] [] [(37,[(0,f37_l0_cut)])] k [] false
theorem f37_tabs(k:Nat):TabsOk Tryz.prog (f37_cx k):=mkC_ok ⟨f80_conOk,trivial⟩ trivial trivial trivial
abbrev laws_heldBlobS_sh:List Sh:=[.pl (.int .i64)]
abbrev Q40:Type:=Option (shDen laws_heldBlobS_sh)
def f37_l0_s(a0:T7)(x1:Int)(x5:Int):St:={env:=(.pv K8 a0:: .pv (.int .i64) x1::(dd 3 (.pv (.int .i64) x5::(dd 26 [])))),stk:=[],heap:=[]}
def f37_l0_o:St:={env:=(dd 4 (.pv (.int .i64) (-1:Int)::(dd 27 []))),stk:=[],heap:=[]}
def f37_l0_o0(x1:Int):St:={env:=(.dead:: .pv (.int .i64) x1::(dd 30 [])),stk:=[],heap:=[]}
def laws_heldBlobS_l0_b(rec:Int→Int→Q40)(kr:Q40)(ke0:Int→Q40)(a0:T7)(x1:Int)(x5:Int):Q40:=
 (cond (decide (x5<(a0.length:Int)))
 (cond ((decide ((0:Int)≤x5))&&(decide (x5<(a0.length:Int))))
 (cond (!(decide ((a0.getD (x5.toNat) ((0:Int),([],()))).1=(IntKind.wrap .u8 x1))))
 (kr)
 (cond ((decide ((0:Int)≤x5))&&(decide (x5<(a0.length:Int))))
 (bindO (laws_heldByteS_r (((a0.getD (x5.toNat) ((0:Int),([],()))).2).1) (IntKind.wrap .i64 (x1+(1:Int)))) fun(b2:Int)=>(cond (decide (b2<(0:Int)))
 (kr)
 (rec b2 (IntKind.wrap .i64 (x5+(1:Int))))))
 none))
 none)
 (ke0 x1))
def laws_heldBlobS_l0_L(kr:Q40)(ke0:Int→Q40)(a0:T7):Nat→Int→Int→Q40
 |0=>fun _ _=>none
 |n+1=>laws_heldBlobS_l0_b (laws_heldBlobS_l0_L kr ke0 a0 n) kr ke0 a0
def laws_heldBlobS_r(a0:T7)(a1:Int):Q40:=
 (laws_heldBlobS_l0_L (some (-1:Int)) (fun x1=>(some x1)) a0 FUEL a1 (0:Int))
def f37_l0_p(k:Nat)(K:Ex→St→Q40)(n:Nat)(a0:T7)(x1:Int)(x5:Int):Q40:=loopK (f37_cx k) 0 (execK (f37_cx k) (callK (f37_cx k) 8) 0 37 (sub f37_c [1,0,1,0,0])) f37_l0_cut K n (f37_l0_s a0 x1 x5)

theorem f37_l0_ret(k:Nat):((blkK 0 (seqK (execK (f37_cx k) (callK (f37_cx k) 8) 0 37 (sub f37_c [1,1])) (finK (f37_cx k) f37_i laws_heldBlobS_sh))) .ret (f37_l0_o):Q40)=
 ((some (-1:Int)):Q40):=by kernel_rfl

theorem f37_l0_exit0(k:Nat)(x1:Int):((blkK 0 (seqK (execK (f37_cx k) (callK (f37_cx k) 8) 0 37 (sub f37_c [1,1])) (finK (f37_cx k) f37_i laws_heldBlobS_sh))) (.exit 0) (f37_l0_o0 x1):Q40)=
 ((some x1):Q40):=by kernel_rfl

theorem f37_l0_round(k:Nat)(K:Ex→St→Q40)(n:Nat)(a0:T7)(x1:Int)(x5:Int):(f37_l0_p k K (n+1) a0 x1 x5:Q40)=laws_heldBlobS_l0_b ((fun x1 x5=>f37_l0_p k K n a0 x1 x5)) (K .ret (f37_l0_o)) (fun x1=>K (.exit 0) (f37_l0_o0 x1)) a0 x1 x5:=by kernel_rfl

theorem f37_l0_L_eq(K:Ex→St→Q40)(a0:T7):∀(n:Nat) (x1:Int) (x5:Int),(f37_l0_p FUEL K n a0 x1 x5:Q40)=laws_heldBlobS_l0_L (K .ret (f37_l0_o)) (fun x1=>K (.exit 0) (f37_l0_o0 x1)) a0 n x1 x5:=by
 intro n
 induction n with
 |zero=>intros; rfl
 |succ n ih=>
  intro x1 x5
  exact(f37_l0_round FUEL K n a0 x1 x5).trans (congrArg (fun f=>laws_heldBlobS_l0_b f (K .ret (f37_l0_o)) (fun x1=>K (.exit 0) (f37_l0_o0 x1)) a0 x1 x5) (funext fun x1=>funext fun x5=>ih x1 x5))

theorem f37_start(k:Nat)(a0:T7)(a1:Int):fnK (f37_cx k) 8 37 f37_i laws_heldBlobS_sh [.pv K8 a0,.pv (.int .i64) a1]=
 ((loopK (f37_cx k) 0 (execK (f37_cx k) (callK (f37_cx k) 8) 0 37 (sub f37_c [1,0,1,0,0])) f37_l0_cut (blkK 0 (seqK (execK (f37_cx k) (callK (f37_cx k) 8) 0 37 (sub f37_c [1,1])) (finK (f37_cx k) f37_i laws_heldBlobS_sh))) k (f37_l0_s a0 a1 (0:Int))):Q40):=by kernel_rfl

theorem f37_run(a0:T7)(a1:Int):fnK (f37_cx FUEL) 8 37 f37_i laws_heldBlobS_sh [.pv K8 a0,.pv (.int .i64) a1]=laws_heldBlobS_r a0 a1:=
 (f37_start FUEL a0 a1).trans ((f37_l0_L_eq _ a0 FUEL a1 (0:Int)).trans (cong2 (fun e0 e1=>laws_heldBlobS_l0_L e0 e1 a0 FUEL a1 (0:Int)) ((f37_l0_ret FUEL).trans (rfl)) (funext fun x1=>(f37_l0_exit0 FUEL x1).trans (rfl))))

def f37_con:Con:={ps:=(.pair K8 K18),sh:=laws_heldBlobS_sh,raw:=fun x=>laws_heldBlobS_r x.1 x.2.1}
theorem f37_conOk:ConOk Tryz.prog 37 f37_con:=con_of_fn (f37_tabs FUEL) (depth:=8) f37_ok fun x y h=>(f37_run x.1 x.2.1).trans h

def laws_FnExactBlobsFor_d_cx(k:Nat):Cx:=mkC [(17,f17_i)] [(9,f9_con),(11,f11_d_con),(15,f15_con),(16,f16_con),(29,f29_con),(31,f31_con),(33,f33_d_con),(34,f34_d_con),(35,f35_con),(37,f37_con)] [] [(19,f19_inp),(36,f36_d_inp)] [] k dps false
theorem laws_FnExactBlobsFor_d_tabs(k:Nat):TabsOk Tryz.prog (laws_FnExactBlobsFor_d_cx k):=mkC_ok ⟨f9_conOk,f11_d_conOk,f15_conOk,f16_conOk,f29_conOk,f31_conOk,f33_d_conOk,f34_d_conOk,f35_conOk,f37_conOk,trivial⟩ trivial ⟨f19_inpOk,f36_d_inpOk,trivial⟩ ⟨f17_ok,trivial⟩
abbrev laws_FnExactBlobsFor_d_sh:List Sh:=[.pl .bool]
abbrev Q33:Type:=Option (shDen laws_FnExactBlobsFor_d_sh)
def laws_FnExactBlobsFor_d_r(a0:T4)(a1:T15)(a2:T15):Q33:=
 (bindO (laws_szStore_r a0 (1048576:Int)) fun(b1:Int)=>(cond (decide (b1<(0:Int)))
 (some true)
 (bindO (laws_szKeyS_r a1 b1) fun(b2:Int)=>(cond (decide (b2<(0:Int)))
 (some true)
 (bindO (laws_szKeyS_r a2 b2) fun(b3:Int)=>(cond (decide (b3<(0:Int)))
 (some true)
 (bindO (laws_toStore_d_r a0) fun(b4:T4)=>(bindO (laws_toKeyS_r a1) fun(b5:T15)=>(bindO (laws_toKeyS_r a2) fun(b6:T15)=>(bindO (spec_BlobsFor_d_r (b4.1,()) b5 b6) fun(b7:T5)=>(bindO (laws_toStore_d_r a0) fun(b8:T4)=>(bindO (laws_toKeyS_r a1) fun(b9:T15)=>(bindO (laws_toKeyS_r a2) fun(b10:T15)=>(bindO (impl_BlobsFor_d_r (b8.1,()) b9 b10) fun(b11:T5)=>(bindO (laws_eqBlobS_r b11.1 b7.1) fun(b12:Bool)=>(cond (!b12)
 (some false)
 (cond (!(decide (b11.2=b7.2)))
 (some false)
 (bindO (laws_toStore_d_r a0) fun(b13:T4)=>(bindO (laws_eqStore_r (b8.1,()) (b13.1,())) fun(b14:Bool)=>(cond (!b14)
 (some false)
 (bindO (laws_toKeyS_r a1) fun(b15:T15)=>(bindO (laws_eqKeyS_r b9 b15) fun(b16:Bool)=>(cond (!b16)
 (some false)
 (bindO (laws_toKeyS_r a2) fun(b17:T15)=>(bindO (laws_eqKeyS_r b10 b17) fun(b18:Bool)=>(cond (!b18)
 (some false)
 (bindO (laws_markBlobS_d_r b8.1 (1:Int)) fun(b19:T5)=>(bindO (laws_markKeyS_r b9 b19.2) fun(b20:(T15×Int))=>(bindO (laws_markKeyS_r b10 b20.2) fun(b21:(T15×Int))=>(cond (decide (b21.2<(0:Int)))
 (some false)
 (bindO (laws_eqBlobS_r b11.1 b7.1) fun(b22:Bool)=>(cond (!b22)
 (some false)
 (cond (!(decide (b11.2=b7.2)))
 (some false)
 (bindO (laws_markBlobS_d_r b11.1 (1:Int)) fun(b23:T5)=>(bindO (laws_heldBlobS_r b23.1 (1:Int)) fun(b24:Int)=>(cond (decide (b24<(0:Int)))
 (some false)
 (cond (!(decide (b24=b23.2)))
 (some false)
 (bindO (laws_toStore_d_r a0) fun(b25:T4)=>(bindO (laws_toKeyS_r a1) fun(b26:T15)=>(bindO (laws_toKeyS_r a2) fun(b27:T15)=>(bindO (impl_BlobsFor_d_r (b25.1,()) b26 b27) fun(b28:T5)=>(bindO (laws_eqBlobS_r b28.1 b7.1) fun(b29:Bool)=>(cond (!b29)
 (some false)
 (cond (!(decide (b28.2=b7.2)))
 (some false)
 (bindO (laws_heldBlobS_r b23.1 (1:Int)) fun(b30:Int)=>(cond (decide (b30<(0:Int)))
 (some false)
 (cond (!(decide (b30=b23.2)))
 (some false)
 (some true))))))))))))))))))))))))))))))))))))))))))))))))
theorem laws_FnExactBlobsFor_d_run(a0:T4)(a1:T15)(a2:T15):fnK (laws_FnExactBlobsFor_d_cx FUEL) 8 6 laws_FnExactBlobsFor_i laws_FnExactBlobsFor_d_sh [.pv K5 a0,.pv K16 a1,.pv K16 a2]=laws_FnExactBlobsFor_d_r a0 a1 a2:=by kernel_rfl

def laws_FnExactBlobsFor_d_con:Con:={ps:=(.pair K5 K4),sh:=laws_FnExactBlobsFor_d_sh,raw:=fun x=>laws_FnExactBlobsFor_d_r x.1 x.2.1 x.2.2.1}
theorem laws_FnExactBlobsFor_d_conOk:ConOk Tryz.prog 6 laws_FnExactBlobsFor_d_con:=con_of_fn (laws_FnExactBlobsFor_d_tabs FUEL) (depth:=8) laws_FnExactBlobsFor_ok fun x y h=>(laws_FnExactBlobsFor_d_run x.1 x.2.1 x.2.2.1).trans h

end
end Go.Ai.G
