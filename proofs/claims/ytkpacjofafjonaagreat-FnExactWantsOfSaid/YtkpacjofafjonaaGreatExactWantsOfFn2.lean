/- Made by a program of this work out of the program: tables and plain functions,with the proof that each Go function does what its plain function says. No conditions. -/
import Derived.Test.YtkpacjofafjonaaGreatExactWantsOfFn1
namespace Go.Ai.G
noncomputable section
open Go.Proofs
open Go.Ai
set_option linter.unusedVariables false
set_option linter.unusedSimpArgs false
set_option maxRecDepth 100000

def f32_l0_cut:Cut:={keep:=[0,1,7,8],stk:=[[],[6],[1,2]],ids:=[130,100100,100101,100102],own:=[],outs:=[(0,[4],[100100,100101,100102]),(1,[],[100100,100101,100102])]}
def f32_cx(k:Nat):Cx:=mkC [(46,f46_i),(69,f69_i),(112,f112_i),(156,f156_i)] [(70,f70_con),(71,f71_con),(97,f97_con),(98,f98_con),(99,f99_con),(113,f113_con)] [] [] [(32001400690018011200070156,[(0,f32_l0_cut)])] k [] false
theorem f32_tabs(k:Nat):TabsOk Tryz.prog (f32_cx k):=mkC_ok ⟨f70_conOk,f71_conOk,f97_conOk,f98_conOk,f99_conOk,f113_conOk,trivial⟩ trivial trivial ⟨f46_ok,f69_ok,f112_ok,f156_ok,trivial⟩
abbrev impl_WantsOf_sh:List Sh:=[.own 35 (.arr 32 (.int .u8)),.pl (.int .i64)]
abbrev Q13:Type:=Option (shDen impl_WantsOf_sh)
def f32_l0_s(a0:T4)(a1:T14)(a2:Int)(z100101:T14)(z100102:T6)(x8:Int):St:={env:=(.sl 130 K17:: .fn 113 (.pv .unit ())::(dd 5 (.pv (.int .i64) (1:Int):: .pv (.int .i64) x8::(dd 10 [])))),stk:=[(dd 9 []),(dd 6 (.ptr 100100 K1 []::(dd 13 []))),(.dead:: .pv K17 a1:: .pv (.int .i64) a2::(dd 26 []))],heap:=[(30,.var K4 (.pv K4 a0)),(130,.arr 28 K17 [a1]),(100020,.var K4 (.pv K4 a0)),(100100,.var K1 (.pr (.sl 100101 (.arr 32 (.int .u8))) (.pr (.sl 100102 K11) (.pv .unit ())))),(100101,.arr 35 (.arr 32 (.int .u8)) z100101),(100102,.arr 125 K11 z100102)]}
def f32_l0_o(a0:T4)(a1:T14)(a2:Int)(z100101:T14)(z100102:T6)(x4:Int):St:={env:=(dd 4 (.pv (.int .i64) x4::(dd 14 []))),stk:=[(dd 9 []),(dd 6 (.ptr 100100 K1 []::(dd 13 []))),(.dead:: .pv K17 a1:: .pv (.int .i64) a2::(dd 26 []))],heap:=[(30,.var K4 (.pv K4 a0)),(130,.arr 28 K17 [a1]),(100020,.var K4 (.pv K4 a0)),(100100,.var K1 (.pr (.sl 100101 (.arr 32 (.int .u8))) (.pr (.sl 100102 K11) (.pv .unit ())))),(100101,.arr 35 (.arr 32 (.int .u8)) z100101),(100102,.arr 125 K11 z100102)]}
def f32_l0_o0(a0:T4)(a1:T14)(a2:Int)(z100101:T14)(z100102:T6):St:={env:=(dd 19 []),stk:=[(dd 9 []),(dd 6 (.ptr 100100 K1 []::(dd 13 []))),(.dead:: .pv K17 a1:: .pv (.int .i64) a2::(dd 26 []))],heap:=[(30,.var K4 (.pv K4 a0)),(130,.arr 28 K17 [a1]),(100020,.var K4 (.pv K4 a0)),(100100,.var K1 (.pr (.sl 100101 (.arr 32 (.int .u8))) (.pr (.sl 100102 K11) (.pv .unit ())))),(100101,.arr 35 (.arr 32 (.int .u8)) z100101),(100102,.arr 125 K11 z100102)]}
def impl_WantsOf_l0_b(rec:T14→T6→Int→Q13)(kr:T14→T6→Int→Q13)(ke0:T14→T6→Q13)(a0:T4)(a1:T14)(a2:Int)(z100101:T14)(z100102:T6)(x8:Int):Q13:=
 (cond (decide (x8<(1:Int)))
 (cond ((decide ((0:Int)≤x8))&&(decide (x8<(1:Int))))
 (bindO (impl_reachCode_1_r ([a1].getD (x8.toNat) [])) fun(b5:Bool)=>(cond b5
 (kr z100101 z100102 x8)
 (rec z100101 z100102 (IntKind.wrap .i64 (x8+(1:Int))))))
 none)
 (ke0 z100101 z100102))
def impl_WantsOf_l0_L(kr:T14→T6→Int→Q13)(ke0:T14→T6→Q13)(a0:T4)(a1:T14)(a2:Int):Nat→T14→T6→Int→Q13
 |0=>fun _ _ _=>none
 |n+1=>impl_WantsOf_l0_b (impl_WantsOf_l0_L kr ke0 a0 a1 a2 n) kr ke0 a0 a1 a2
def impl_WantsOf_r(a0:T4)(a1:T14)(a2:Int):Q13:=
 (bindO (impl_ValidStore_r a0) fun(b1:Bool)=>(cond (!b1)
 (some ([],(1:Int)))
 (bindO (impl_Store_keys_r a0) fun(b2:T14)=>(bindO (slices_Clone_impl_Blob_impl_Blob_r a0.1) fun(b3:T6)=>(impl_WantsOf_l0_L (fun z100101 z100102 x4=>(cond (decide ((0:Int)≤x4))
 (some ([],(3:Int)))
 (bindO (impl_isMost_r a2) fun(b6:Bool)=>(cond (!b6)
 (some ([],(2:Int)))
 (bindO (impl_shop_wants_r (z100101,(z100102,())) a1 a2) fun(b7:T14)=>(some (b7,(0:Int)))))))) (fun z100101 z100102=>(bindO (impl_isMost_r a2) fun(b8:Bool)=>(cond (!b8)
 (some ([],(2:Int)))
 (bindO (impl_shop_wants_r (z100101,(z100102,())) a1 a2) fun(b9:T14)=>(some (b9,(0:Int))))))) a0 a1 a2 FUEL b2 b3 (0:Int))))))
def f32_l0_p(k:Nat)(K:Ex→St→Q13)(n:Nat)(a0:T4)(a1:T14)(a2:Int)(z100101:T14)(z100102:T6)(x8:Int):Q13:=loopK (f32_cx k) 3 (execK (f32_cx k) (callK (f32_cx k) 5) 3 32001400690018011200070156 (sub f156_c [1,0,1,0,0])) f32_l0_cut K n (f32_l0_s a0 a1 a2 z100101 z100102 x8)

theorem f32_l0_ret(k:Nat)(a0:T4)(a1:T14)(a2:Int)(z100101:T14)(z100102:T6)(x4:Int):((blkK 0 (seqK (execK (f32_cx k) (callK (f32_cx k) 5) 3 32001400690018011200070156 (sub f156_c [1,1])) (retK (f32_cx k) f156_i (some 7) 2 (opsRest (f32_cx k) (callK (f32_cx k) 6) 2 320014006900180112 false (regOps (sub f112_c [1,0])) 2 (seqK (execK (f32_cx k) (callK (f32_cx k) 6) 2 320014006900180112 (sub f112_c [1,1])) (retK (f32_cx k) f112_i (some 18) 1 (opsRest (f32_cx k) (callK (f32_cx k) 7) 1 3200140069 false (regOps (sub f69_c [1,1,0,0,1,1,0])) 1 (seqK (execK (f32_cx k) (callK (f32_cx k) 7) 1 3200140069 (sub f69_c [1,1,0,0,1,1,1])) (blkK 0 (seqK (execK (f32_cx k) (callK (f32_cx k) 7) 1 3200140069 (sub f69_c [1,1,1])) (retK (f32_cx k) f69_i (some 14) 0 (opsRest (f32_cx k) (callK (f32_cx k) 8) 0 32 false (regOps (sub f32_c [1,0])) 3 (seqK (execK (f32_cx k) (callK (f32_cx k) 8) 0 32 (sub f32_c [1,1])) (finK (f32_cx k) f32_i impl_WantsOf_sh)))))))))))))) .ret (f32_l0_o a0 a1 a2 z100101 z100102 x4):Q13)=
 ((cond (decide ((0:Int)≤x4))
 (some ([],(3:Int)))
 (bindO (impl_isMost_r a2) fun(b6:Bool)=>(cond (!b6)
 (some ([],(2:Int)))
 (bindO (impl_shop_wants_r (z100101,(z100102,())) a1 a2) fun(b7:T14)=>(some (b7,(0:Int))))))):Q13):=by kernel_rfl

theorem f32_l0_exit0(k:Nat)(a0:T4)(a1:T14)(a2:Int)(z100101:T14)(z100102:T6):((blkK 0 (seqK (execK (f32_cx k) (callK (f32_cx k) 5) 3 32001400690018011200070156 (sub f156_c [1,1])) (retK (f32_cx k) f156_i (some 7) 2 (opsRest (f32_cx k) (callK (f32_cx k) 6) 2 320014006900180112 false (regOps (sub f112_c [1,0])) 2 (seqK (execK (f32_cx k) (callK (f32_cx k) 6) 2 320014006900180112 (sub f112_c [1,1])) (retK (f32_cx k) f112_i (some 18) 1 (opsRest (f32_cx k) (callK (f32_cx k) 7) 1 3200140069 false (regOps (sub f69_c [1,1,0,0,1,1,0])) 1 (seqK (execK (f32_cx k) (callK (f32_cx k) 7) 1 3200140069 (sub f69_c [1,1,0,0,1,1,1])) (blkK 0 (seqK (execK (f32_cx k) (callK (f32_cx k) 7) 1 3200140069 (sub f69_c [1,1,1])) (retK (f32_cx k) f69_i (some 14) 0 (opsRest (f32_cx k) (callK (f32_cx k) 8) 0 32 false (regOps (sub f32_c [1,0])) 3 (seqK (execK (f32_cx k) (callK (f32_cx k) 8) 0 32 (sub f32_c [1,1])) (finK (f32_cx k) f32_i impl_WantsOf_sh)))))))))))))) (.exit 0) (f32_l0_o0 a0 a1 a2 z100101 z100102):Q13)=
 ((bindO (impl_isMost_r a2) fun(b8:Bool)=>(cond (!b8)
 (some ([],(2:Int)))
 (bindO (impl_shop_wants_r (z100101,(z100102,())) a1 a2) fun(b9:T14)=>(some (b9,(0:Int)))))):Q13):=by kernel_rfl

theorem f32_l0_round(k:Nat)(K:Ex→St→Q13)(n:Nat)(a0:T4)(a1:T14)(a2:Int)(z100101:T14)(z100102:T6)(x8:Int):(f32_l0_p k K (n+1) a0 a1 a2 z100101 z100102 x8:Q13)=impl_WantsOf_l0_b ((fun z100101 z100102 x8=>f32_l0_p k K n a0 a1 a2 z100101 z100102 x8)) (fun z100101 z100102 x4=>K .ret (f32_l0_o a0 a1 a2 z100101 z100102 x4)) (fun z100101 z100102=>K (.exit 0) (f32_l0_o0 a0 a1 a2 z100101 z100102)) a0 a1 a2 z100101 z100102 x8:=by kernel_rfl

theorem f32_l0_L_eq(K:Ex→St→Q13)(a0:T4)(a1:T14)(a2:Int):∀(n:Nat) (z100101:T14) (z100102:T6) (x8:Int),(f32_l0_p FUEL K n a0 a1 a2 z100101 z100102 x8:Q13)=impl_WantsOf_l0_L (fun z100101 z100102 x4=>K .ret (f32_l0_o a0 a1 a2 z100101 z100102 x4)) (fun z100101 z100102=>K (.exit 0) (f32_l0_o0 a0 a1 a2 z100101 z100102)) a0 a1 a2 n z100101 z100102 x8:=by
 intro n
 induction n with
 |zero=>intros; rfl
 |succ n ih=>
  intro z100101 z100102 x8
  exact(f32_l0_round FUEL K n a0 a1 a2 z100101 z100102 x8).trans (congrArg (fun f=>impl_WantsOf_l0_b f (fun z100101 z100102 x4=>K .ret (f32_l0_o a0 a1 a2 z100101 z100102 x4)) (fun z100101 z100102=>K (.exit 0) (f32_l0_o0 a0 a1 a2 z100101 z100102)) a0 a1 a2 z100101 z100102 x8) (funext fun z100101=>funext fun z100102=>funext fun x8=>ih z100101 z100102 x8))

theorem f32_start(k:Nat)(a0:T4)(a1:T14)(a2:Int):fnK (f32_cx k) 8 32 f32_i impl_WantsOf_sh [.pv K4 a0,.pv K17 a1,.pv (.int .i64) a2]=
 ((bindO (impl_ValidStore_r a0) fun(b1:Bool)=>(cond (!b1)
 (some ([],(1:Int)))
 (bindO (impl_Store_keys_r a0) fun(b2:T14)=>(bindO (slices_Clone_impl_Blob_impl_Blob_r a0.1) fun(b3:T6)=>(loopK (f32_cx k) 3 (execK (f32_cx k) (callK (f32_cx k) 5) 3 32001400690018011200070156 (sub f156_c [1,0,1,0,0])) f32_l0_cut (blkK 0 (seqK (execK (f32_cx k) (callK (f32_cx k) 5) 3 32001400690018011200070156 (sub f156_c [1,1])) (retK (f32_cx k) f156_i (some 7) 2 (opsRest (f32_cx k) (callK (f32_cx k) 6) 2 320014006900180112 false (regOps (sub f112_c [1,0])) 2 (seqK (execK (f32_cx k) (callK (f32_cx k) 6) 2 320014006900180112 (sub f112_c [1,1])) (retK (f32_cx k) f112_i (some 18) 1 (opsRest (f32_cx k) (callK (f32_cx k) 7) 1 3200140069 false (regOps (sub f69_c [1,1,0,0,1,1,0])) 1 (seqK (execK (f32_cx k) (callK (f32_cx k) 7) 1 3200140069 (sub f69_c [1,1,0,0,1,1,1])) (blkK 0 (seqK (execK (f32_cx k) (callK (f32_cx k) 7) 1 3200140069 (sub f69_c [1,1,1])) (retK (f32_cx k) f69_i (some 14) 0 (opsRest (f32_cx k) (callK (f32_cx k) 8) 0 32 false (regOps (sub f32_c [1,0])) 3 (seqK (execK (f32_cx k) (callK (f32_cx k) 8) 0 32 (sub f32_c [1,1])) (finK (f32_cx k) f32_i impl_WantsOf_sh)))))))))))))) k (f32_l0_s a0 a1 a2 b2 b3 (0:Int))))))):Q13):=by kernel_rfl

theorem f32_run(a0:T4)(a1:T14)(a2:Int):fnK (f32_cx FUEL) 8 32 f32_i impl_WantsOf_sh [.pv K4 a0,.pv K17 a1,.pv (.int .i64) a2]=impl_WantsOf_r a0 a1 a2:=
 (f32_start FUEL a0 a1 a2).trans (bindC (fun b1=>condC (rfl) (bindC (fun b2=>bindC (fun b3=>(f32_l0_L_eq _ a0 a1 a2 FUEL b2 b3 (0:Int)).trans (cong2 (fun e0 e1=>impl_WantsOf_l0_L e0 e1 a0 a1 a2 FUEL b2 b3 (0:Int)) (funext fun z100101=>funext fun z100102=>funext fun x4=>(f32_l0_ret FUEL a0 a1 a2 z100101 z100102 x4).trans (rfl)) (funext fun z100101=>funext fun z100102=>(f32_l0_exit0 FUEL a0 a1 a2 z100101 z100102).trans (rfl))))))))

def f32_con:Con:={ps:=(.pair K4 K7),sh:=impl_WantsOf_sh,raw:=fun x=>impl_WantsOf_r x.1 x.2.1 x.2.2.1}
theorem f32_conOk:ConOk Tryz.prog 32 f32_con:=con_of_fn (f32_tabs FUEL) (depth:=8) f32_ok fun x y h=>(f32_run x.1 x.2.1 x.2.2.1).trans h

def f51_l0_cut:Cut:={keep:=[2,3,5],stk:=[],ids:=[20,30],own:=[],outs:=[(0,[4],[]),(1,[],[])]}
def f51_cx(k:Nat):Cx:=mkC [] [] [] [] [(51,[(0,f51_l0_cut)])] k [] false
theorem f51_tabs(k:Nat):TabsOk Tryz.prog (f51_cx k):=mkC_ok trivial trivial trivial trivial
abbrev laws_eqKey_sh:List Sh:=[.pl .bool]
abbrev Q40:Type:=Option (shDen laws_eqKey_sh)
def f51_l0_s(a0:(List Int))(a1:(List Int))(x5:Int):St:={env:=(.dead:: .dead:: .ptr 20 (.arr 32 (.int .u8)) []:: .ptr 30 (.arr 32 (.int .u8)) []:: .dead:: .pv (.int .i64) x5::(dd 11 [])),stk:=[],heap:=[(20,.var (.arr 32 (.int .u8)) (.pv (.arr 32 (.int .u8)) a0)),(30,.var (.arr 32 (.int .u8)) (.pv (.arr 32 (.int .u8)) a1))]}
def f51_l0_o:St:={env:=(dd 4 (.pv .bool false::(dd 12 []))),stk:=[],heap:=[]}
def f51_l0_o0:St:={env:=(dd 17 []),stk:=[],heap:=[]}
def laws_eqKey_l0_b(rec:Int→Q40)(kr:Q40)(ke0:Q40)(a0:(List Int))(a1:(List Int))(x5:Int):Q40:=
 (cond (decide (x5<(32:Int)))
 (cond ((decide ((0:Int)≤x5))&&(decide (x5<(32:Int))))
 (cond ((decide ((0:Int)≤x5))&&(decide (x5<(32:Int))))
 (cond (!(decide ((a0.getD (x5.toNat) (0:Int))=(a1.getD (x5.toNat) (0:Int)))))
 (kr)
 (rec (IntKind.wrap .i64 (x5+(1:Int)))))
 none)
 none)
 (ke0))
def laws_eqKey_l0_L(kr:Q40)(ke0:Q40)(a0:(List Int))(a1:(List Int)):Nat→Int→Q40
 |0=>fun _=>none
 |n+1=>laws_eqKey_l0_b (laws_eqKey_l0_L kr ke0 a0 a1 n) kr ke0 a0 a1
def laws_eqKey_r(a0:(List Int))(a1:(List Int)):Q40:=
 (laws_eqKey_l0_L (some false) (some true) a0 a1 FUEL (0:Int))
def f51_l0_p(k:Nat)(K:Ex→St→Q40)(n:Nat)(a0:(List Int))(a1:(List Int))(x5:Int):Q40:=loopK (f51_cx k) 0 (execK (f51_cx k) (callK (f51_cx k) 8) 0 51 (sub f51_c [1,0,1,0,0])) f51_l0_cut K n (f51_l0_s a0 a1 x5)

theorem f51_l0_ret(k:Nat):((blkK 0 (seqK (execK (f51_cx k) (callK (f51_cx k) 8) 0 51 (sub f51_c [1,1])) (finK (f51_cx k) f51_i laws_eqKey_sh))) .ret (f51_l0_o):Q40)=
 ((some false):Q40):=by kernel_rfl

theorem f51_l0_exit0(k:Nat):((blkK 0 (seqK (execK (f51_cx k) (callK (f51_cx k) 8) 0 51 (sub f51_c [1,1])) (finK (f51_cx k) f51_i laws_eqKey_sh))) (.exit 0) (f51_l0_o0):Q40)=
 ((some true):Q40):=by kernel_rfl

theorem f51_l0_round(k:Nat)(K:Ex→St→Q40)(n:Nat)(a0:(List Int))(a1:(List Int))(x5:Int):(f51_l0_p k K (n+1) a0 a1 x5:Q40)=laws_eqKey_l0_b ((fun x5=>f51_l0_p k K n a0 a1 x5)) (K .ret (f51_l0_o)) (K (.exit 0) (f51_l0_o0)) a0 a1 x5:=by kernel_rfl

theorem f51_l0_L_eq(K:Ex→St→Q40)(a0:(List Int))(a1:(List Int)):∀(n:Nat) (x5:Int),(f51_l0_p FUEL K n a0 a1 x5:Q40)=laws_eqKey_l0_L (K .ret (f51_l0_o)) (K (.exit 0) (f51_l0_o0)) a0 a1 n x5:=by
 intro n
 induction n with
 |zero=>intros; rfl
 |succ n ih=>
  intro x5
  exact(f51_l0_round FUEL K n a0 a1 x5).trans (congrArg (fun f=>laws_eqKey_l0_b f (K .ret (f51_l0_o)) (K (.exit 0) (f51_l0_o0)) a0 a1 x5) (funext fun x5=>ih x5))

theorem f51_start(k:Nat)(a0:(List Int))(a1:(List Int)):fnK (f51_cx k) 8 51 f51_i laws_eqKey_sh [.pv (.arr 32 (.int .u8)) a0,.pv (.arr 32 (.int .u8)) a1]=
 ((loopK (f51_cx k) 0 (execK (f51_cx k) (callK (f51_cx k) 8) 0 51 (sub f51_c [1,0,1,0,0])) f51_l0_cut (blkK 0 (seqK (execK (f51_cx k) (callK (f51_cx k) 8) 0 51 (sub f51_c [1,1])) (finK (f51_cx k) f51_i laws_eqKey_sh))) k (f51_l0_s a0 a1 (0:Int))):Q40):=by kernel_rfl

theorem f51_run(a0:(List Int))(a1:(List Int)):fnK (f51_cx FUEL) 8 51 f51_i laws_eqKey_sh [.pv (.arr 32 (.int .u8)) a0,.pv (.arr 32 (.int .u8)) a1]=laws_eqKey_r a0 a1:=
 (f51_start FUEL a0 a1).trans ((f51_l0_L_eq _ a0 a1 FUEL (0:Int)).trans (cong2 (fun e0 e1=>laws_eqKey_l0_L e0 e1 a0 a1 FUEL (0:Int)) ((f51_l0_ret FUEL).trans (rfl)) ((f51_l0_exit0 FUEL).trans (rfl))))

def f51_con:Con:={ps:=K8,sh:=laws_eqKey_sh,raw:=fun x=>laws_eqKey_r x.1 x.2.1}
theorem f51_conOk:ConOk Tryz.prog 51 f51_con:=con_of_fn (f51_tabs FUEL) (depth:=8) f51_ok fun x y h=>(f51_run x.1 x.2.1).trans h

def f15_l0_cut:Cut:={keep:=[0,1,5],stk:=[],ids:=[],own:=[],outs:=[(0,[4],[]),(1,[],[])]}
def f15_cx(k:Nat):Cx:=mkC [] [(51,f51_con)] [] [] [(15,[(0,f15_l0_cut)])] k [] false
theorem f15_tabs(k:Nat):TabsOk Tryz.prog (f15_cx k):=mkC_ok ⟨f51_conOk,trivial⟩ trivial trivial trivial
abbrev laws_eqKeyS_sh:List Sh:=[.pl .bool]
abbrev Q39:Type:=Option (shDen laws_eqKeyS_sh)
def f15_l0_s(a0:T14)(a1:T14)(x5:Int):St:={env:=(.pv K17 a0:: .pv K17 a1::(dd 3 (.pv (.int .i64) x5::(dd 21 [])))),stk:=[],heap:=[]}
def f15_l0_o:St:={env:=(dd 4 (.pv .bool false::(dd 22 []))),stk:=[],heap:=[]}
def f15_l0_o0:St:={env:=(dd 27 []),stk:=[],heap:=[]}
def laws_eqKeyS_l0_b(rec:Int→Q39)(kr:Q39)(ke0:Q39)(a0:T14)(a1:T14)(x5:Int):Q39:=
 (cond (decide (x5<(a0.length:Int)))
 (cond ((decide ((0:Int)≤x5))&&(decide (x5<(a0.length:Int))))
 (cond ((decide ((0:Int)≤x5))&&(decide (x5<(a1.length:Int))))
 (bindO (laws_eqKey_r (a0.getD (x5.toNat) (List.replicate 32 (0:Int))) (a1.getD (x5.toNat) (List.replicate 32 (0:Int)))) fun(b2:Bool)=>(cond (!b2)
 (kr)
 (rec (IntKind.wrap .i64 (x5+(1:Int))))))
 none)
 none)
 (ke0))
def laws_eqKeyS_l0_L(kr:Q39)(ke0:Q39)(a0:T14)(a1:T14):Nat→Int→Q39
 |0=>fun _=>none
 |n+1=>laws_eqKeyS_l0_b (laws_eqKeyS_l0_L kr ke0 a0 a1 n) kr ke0 a0 a1
def laws_eqKeyS_r(a0:T14)(a1:T14):Q39:=
 (cond (!(decide ((a0.length:Int)=(a1.length:Int))))
 (some false)
 (laws_eqKeyS_l0_L (some false) (some true) a0 a1 FUEL (0:Int)))
def f15_l0_p(k:Nat)(K:Ex→St→Q39)(n:Nat)(a0:T14)(a1:T14)(x5:Int):Q39:=loopK (f15_cx k) 0 (execK (f15_cx k) (callK (f15_cx k) 8) 0 15 (sub f15_c [1,1,0,1,0,0])) f15_l0_cut K n (f15_l0_s a0 a1 x5)

theorem f15_l0_ret(k:Nat):((blkK 0 (seqK (execK (f15_cx k) (callK (f15_cx k) 8) 0 15 (sub f15_c [1,1,1])) (finK (f15_cx k) f15_i laws_eqKeyS_sh))) .ret (f15_l0_o):Q39)=
 ((some false):Q39):=by kernel_rfl

theorem f15_l0_exit0(k:Nat):((blkK 0 (seqK (execK (f15_cx k) (callK (f15_cx k) 8) 0 15 (sub f15_c [1,1,1])) (finK (f15_cx k) f15_i laws_eqKeyS_sh))) (.exit 0) (f15_l0_o0):Q39)=
 ((some true):Q39):=by kernel_rfl

theorem f15_l0_round(k:Nat)(K:Ex→St→Q39)(n:Nat)(a0:T14)(a1:T14)(x5:Int):(f15_l0_p k K (n+1) a0 a1 x5:Q39)=laws_eqKeyS_l0_b ((fun x5=>f15_l0_p k K n a0 a1 x5)) (K .ret (f15_l0_o)) (K (.exit 0) (f15_l0_o0)) a0 a1 x5:=by kernel_rfl

theorem f15_l0_L_eq(K:Ex→St→Q39)(a0:T14)(a1:T14):∀(n:Nat) (x5:Int),(f15_l0_p FUEL K n a0 a1 x5:Q39)=laws_eqKeyS_l0_L (K .ret (f15_l0_o)) (K (.exit 0) (f15_l0_o0)) a0 a1 n x5:=by
 intro n
 induction n with
 |zero=>intros; rfl
 |succ n ih=>
  intro x5
  exact(f15_l0_round FUEL K n a0 a1 x5).trans (congrArg (fun f=>laws_eqKeyS_l0_b f (K .ret (f15_l0_o)) (K (.exit 0) (f15_l0_o0)) a0 a1 x5) (funext fun x5=>ih x5))

theorem f15_start(k:Nat)(a0:T14)(a1:T14):fnK (f15_cx k) 8 15 f15_i laws_eqKeyS_sh [.pv K17 a0,.pv K17 a1]=
 ((cond (!(decide ((a0.length:Int)=(a1.length:Int))))
 (some false)
 (loopK (f15_cx k) 0 (execK (f15_cx k) (callK (f15_cx k) 8) 0 15 (sub f15_c [1,1,0,1,0,0])) f15_l0_cut (blkK 0 (seqK (execK (f15_cx k) (callK (f15_cx k) 8) 0 15 (sub f15_c [1,1,1])) (finK (f15_cx k) f15_i laws_eqKeyS_sh))) k (f15_l0_s a0 a1 (0:Int)))):Q39):=by kernel_rfl

theorem f15_run(a0:T14)(a1:T14):fnK (f15_cx FUEL) 8 15 f15_i laws_eqKeyS_sh [.pv K17 a0,.pv K17 a1]=laws_eqKeyS_r a0 a1:=
 (f15_start FUEL a0 a1).trans (condC (rfl) ((f15_l0_L_eq _ a0 a1 FUEL (0:Int)).trans (cong2 (fun e0 e1=>laws_eqKeyS_l0_L e0 e1 a0 a1 FUEL (0:Int)) ((f15_l0_ret FUEL).trans (rfl)) ((f15_l0_exit0 FUEL).trans (rfl)))))

def f15_con:Con:={ps:=(.pair K17 K13),sh:=laws_eqKeyS_sh,raw:=fun x=>laws_eqKeyS_r x.1 x.2.1}
theorem f15_conOk:ConOk Tryz.prog 15 f15_con:=con_of_fn (f15_tabs FUEL) (depth:=8) f15_ok fun x y h=>(f15_run x.1 x.2.1).trans h

def f125_l0_cut:Cut:={keep:=[0,1,5],stk:=[],ids:=[],own:=[],outs:=[(0,[4],[]),(1,[],[])]}
def f125_cx(k:Nat):Cx:=mkC [] [] [] [] [(125,[(0,f125_l0_cut)])] k [] false
theorem f125_tabs(k:Nat):TabsOk Tryz.prog (f125_cx k):=mkC_ok trivial trivial trivial trivial
abbrev laws_eqByteS_sh:List Sh:=[.pl .bool]
abbrev Q38:Type:=Option (shDen laws_eqByteS_sh)
def f125_l0_s(a0:(List Int))(a1:(List Int))(x5:Int):St:={env:=(.pv K21 a0:: .pv K21 a1::(dd 3 (.pv (.int .i64) x5::(dd 20 [])))),stk:=[],heap:=[]}
def f125_l0_o:St:={env:=(dd 4 (.pv .bool false::(dd 21 []))),stk:=[],heap:=[]}
def f125_l0_o0:St:={env:=(dd 26 []),stk:=[],heap:=[]}
def laws_eqByteS_l0_b(rec:Int→Q38)(kr:Q38)(ke0:Q38)(a0:(List Int))(a1:(List Int))(x5:Int):Q38:=
 (cond (decide (x5<(a0.length:Int)))
 (cond ((decide ((0:Int)≤x5))&&(decide (x5<(a0.length:Int))))
 (cond ((decide ((0:Int)≤x5))&&(decide (x5<(a1.length:Int))))
 (cond (!(decide ((a0.getD (x5.toNat) (0:Int))=(a1.getD (x5.toNat) (0:Int)))))
 (kr)
 (rec (IntKind.wrap .i64 (x5+(1:Int)))))
 none)
 none)
 (ke0))
def laws_eqByteS_l0_L(kr:Q38)(ke0:Q38)(a0:(List Int))(a1:(List Int)):Nat→Int→Q38
 |0=>fun _=>none
 |n+1=>laws_eqByteS_l0_b (laws_eqByteS_l0_L kr ke0 a0 a1 n) kr ke0 a0 a1
def laws_eqByteS_r(a0:(List Int))(a1:(List Int)):Q38:=
 (cond (!(decide ((a0.length:Int)=(a1.length:Int))))
 (some false)
 (laws_eqByteS_l0_L (some false) (some true) a0 a1 FUEL (0:Int)))
def f125_l0_p(k:Nat)(K:Ex→St→Q38)(n:Nat)(a0:(List Int))(a1:(List Int))(x5:Int):Q38:=loopK (f125_cx k) 0 (execK (f125_cx k) (callK (f125_cx k) 8) 0 125 (sub f125_c [1,1,0,1,0,0])) f125_l0_cut K n (f125_l0_s a0 a1 x5)

theorem f125_l0_ret(k:Nat):((blkK 0 (seqK (execK (f125_cx k) (callK (f125_cx k) 8) 0 125 (sub f125_c [1,1,1])) (finK (f125_cx k) f125_i laws_eqByteS_sh))) .ret (f125_l0_o):Q38)=
 ((some false):Q38):=by kernel_rfl

theorem f125_l0_exit0(k:Nat):((blkK 0 (seqK (execK (f125_cx k) (callK (f125_cx k) 8) 0 125 (sub f125_c [1,1,1])) (finK (f125_cx k) f125_i laws_eqByteS_sh))) (.exit 0) (f125_l0_o0):Q38)=
 ((some true):Q38):=by kernel_rfl

theorem f125_l0_round(k:Nat)(K:Ex→St→Q38)(n:Nat)(a0:(List Int))(a1:(List Int))(x5:Int):(f125_l0_p k K (n+1) a0 a1 x5:Q38)=laws_eqByteS_l0_b ((fun x5=>f125_l0_p k K n a0 a1 x5)) (K .ret (f125_l0_o)) (K (.exit 0) (f125_l0_o0)) a0 a1 x5:=by kernel_rfl

theorem f125_l0_L_eq(K:Ex→St→Q38)(a0:(List Int))(a1:(List Int)):∀(n:Nat) (x5:Int),(f125_l0_p FUEL K n a0 a1 x5:Q38)=laws_eqByteS_l0_L (K .ret (f125_l0_o)) (K (.exit 0) (f125_l0_o0)) a0 a1 n x5:=by
 intro n
 induction n with
 |zero=>intros; rfl
 |succ n ih=>
  intro x5
  exact(f125_l0_round FUEL K n a0 a1 x5).trans (congrArg (fun f=>laws_eqByteS_l0_b f (K .ret (f125_l0_o)) (K (.exit 0) (f125_l0_o0)) a0 a1 x5) (funext fun x5=>ih x5))

theorem f125_start(k:Nat)(a0:(List Int))(a1:(List Int)):fnK (f125_cx k) 8 125 f125_i laws_eqByteS_sh [.pv K21 a0,.pv K21 a1]=
 ((cond (!(decide ((a0.length:Int)=(a1.length:Int))))
 (some false)
 (loopK (f125_cx k) 0 (execK (f125_cx k) (callK (f125_cx k) 8) 0 125 (sub f125_c [1,1,0,1,0,0])) f125_l0_cut (blkK 0 (seqK (execK (f125_cx k) (callK (f125_cx k) 8) 0 125 (sub f125_c [1,1,1])) (finK (f125_cx k) f125_i laws_eqByteS_sh))) k (f125_l0_s a0 a1 (0:Int)))):Q38):=by kernel_rfl

theorem f125_run(a0:(List Int))(a1:(List Int)):fnK (f125_cx FUEL) 8 125 f125_i laws_eqByteS_sh [.pv K21 a0,.pv K21 a1]=laws_eqByteS_r a0 a1:=
 (f125_start FUEL a0 a1).trans (condC (rfl) ((f125_l0_L_eq _ a0 a1 FUEL (0:Int)).trans (cong2 (fun e0 e1=>laws_eqByteS_l0_L e0 e1 a0 a1 FUEL (0:Int)) ((f125_l0_ret FUEL).trans (rfl)) ((f125_l0_exit0 FUEL).trans (rfl)))))

def f125_con:Con:={ps:=(.pair K21 K15),sh:=laws_eqByteS_sh,raw:=fun x=>laws_eqByteS_r x.1 x.2.1}
theorem f125_conOk:ConOk Tryz.prog 125 f125_con:=con_of_fn (f125_tabs FUEL) (depth:=8) f125_ok fun x y h=>(f125_run x.1 x.2.1).trans h

def f78_cx(k:Nat):Cx:=mkC [] [(125,f125_con)] [] [] [] k [] false
theorem f78_tabs(k:Nat):TabsOk Tryz.prog (f78_cx k):=mkC_ok ⟨f125_conOk,trivial⟩ trivial trivial trivial
abbrev laws_eqBlob_sh:List Sh:=[.pl .bool]
abbrev Q37:Type:=Option (shDen laws_eqBlob_sh)
def laws_eqBlob_r(a0:T8)(a1:T8):Q37:=
 (cond (!(decide (a0.1=a1.1)))
 (some false)
 (bindO (laws_eqByteS_r a0.2.1 a1.2.1) fun(b1:Bool)=>(cond (!b1)
 (some false)
 (some true))))
theorem f78_run(a0:T8)(a1:T8):fnK (f78_cx FUEL) 8 78 f78_i laws_eqBlob_sh [.pv K11 a0,.pv K11 a1]=laws_eqBlob_r a0 a1:=by kernel_rfl

def f78_con:Con:={ps:=(.pair K11 K6),sh:=laws_eqBlob_sh,raw:=fun x=>laws_eqBlob_r x.1 x.2.1}
theorem f78_conOk:ConOk Tryz.prog 78 f78_con:=con_of_fn (f78_tabs FUEL) (depth:=8) f78_ok fun x y h=>(f78_run x.1 x.2.1).trans h

def f35_l0_cut:Cut:={keep:=[0,1,5],stk:=[],ids:=[],own:=[],outs:=[(0,[4],[]),(1,[],[])]}
def f35_cx(k:Nat):Cx:=mkC [] [(78,f78_con)] [] [] [(35,[(0,f35_l0_cut)])] k [] false
theorem f35_tabs(k:Nat):TabsOk Tryz.prog (f35_cx k):=mkC_ok ⟨f78_conOk,trivial⟩ trivial trivial trivial
abbrev laws_eqBlobS_sh:List Sh:=[.pl .bool]
abbrev Q36:Type:=Option (shDen laws_eqBlobS_sh)
def f35_l0_s(a0:T6)(a1:T6)(x5:Int):St:={env:=(.pv K9 a0:: .pv K9 a1::(dd 3 (.pv (.int .i64) x5::(dd 21 [])))),stk:=[],heap:=[]}
def f35_l0_o:St:={env:=(dd 4 (.pv .bool false::(dd 22 []))),stk:=[],heap:=[]}
def f35_l0_o0:St:={env:=(dd 27 []),stk:=[],heap:=[]}
def laws_eqBlobS_l0_b(rec:Int→Q36)(kr:Q36)(ke0:Q36)(a0:T6)(a1:T6)(x5:Int):Q36:=
 (cond (decide (x5<(a0.length:Int)))
 (cond ((decide ((0:Int)≤x5))&&(decide (x5<(a0.length:Int))))
 (cond ((decide ((0:Int)≤x5))&&(decide (x5<(a1.length:Int))))
 (bindO (laws_eqBlob_r (a0.getD (x5.toNat) ((0:Int),([],()))) (a1.getD (x5.toNat) ((0:Int),([],())))) fun(b2:Bool)=>(cond (!b2)
 (kr)
 (rec (IntKind.wrap .i64 (x5+(1:Int))))))
 none)
 none)
 (ke0))
def laws_eqBlobS_l0_L(kr:Q36)(ke0:Q36)(a0:T6)(a1:T6):Nat→Int→Q36
 |0=>fun _=>none
 |n+1=>laws_eqBlobS_l0_b (laws_eqBlobS_l0_L kr ke0 a0 a1 n) kr ke0 a0 a1
def laws_eqBlobS_r(a0:T6)(a1:T6):Q36:=
 (cond (!(decide ((a0.length:Int)=(a1.length:Int))))
 (some false)
 (laws_eqBlobS_l0_L (some false) (some true) a0 a1 FUEL (0:Int)))
def f35_l0_p(k:Nat)(K:Ex→St→Q36)(n:Nat)(a0:T6)(a1:T6)(x5:Int):Q36:=loopK (f35_cx k) 0 (execK (f35_cx k) (callK (f35_cx k) 8) 0 35 (sub f35_c [1,1,0,1,0,0])) f35_l0_cut K n (f35_l0_s a0 a1 x5)

theorem f35_l0_ret(k:Nat):((blkK 0 (seqK (execK (f35_cx k) (callK (f35_cx k) 8) 0 35 (sub f35_c [1,1,1])) (finK (f35_cx k) f35_i laws_eqBlobS_sh))) .ret (f35_l0_o):Q36)=
 ((some false):Q36):=by kernel_rfl

theorem f35_l0_exit0(k:Nat):((blkK 0 (seqK (execK (f35_cx k) (callK (f35_cx k) 8) 0 35 (sub f35_c [1,1,1])) (finK (f35_cx k) f35_i laws_eqBlobS_sh))) (.exit 0) (f35_l0_o0):Q36)=
 ((some true):Q36):=by kernel_rfl

theorem f35_l0_round(k:Nat)(K:Ex→St→Q36)(n:Nat)(a0:T6)(a1:T6)(x5:Int):(f35_l0_p k K (n+1) a0 a1 x5:Q36)=laws_eqBlobS_l0_b ((fun x5=>f35_l0_p k K n a0 a1 x5)) (K .ret (f35_l0_o)) (K (.exit 0) (f35_l0_o0)) a0 a1 x5:=by kernel_rfl

theorem f35_l0_L_eq(K:Ex→St→Q36)(a0:T6)(a1:T6):∀(n:Nat) (x5:Int),(f35_l0_p FUEL K n a0 a1 x5:Q36)=laws_eqBlobS_l0_L (K .ret (f35_l0_o)) (K (.exit 0) (f35_l0_o0)) a0 a1 n x5:=by
 intro n
 induction n with
 |zero=>intros; rfl
 |succ n ih=>
  intro x5
  exact(f35_l0_round FUEL K n a0 a1 x5).trans (congrArg (fun f=>laws_eqBlobS_l0_b f (K .ret (f35_l0_o)) (K (.exit 0) (f35_l0_o0)) a0 a1 x5) (funext fun x5=>ih x5))

theorem f35_start(k:Nat)(a0:T6)(a1:T6):fnK (f35_cx k) 8 35 f35_i laws_eqBlobS_sh [.pv K9 a0,.pv K9 a1]=
 ((cond (!(decide ((a0.length:Int)=(a1.length:Int))))
 (some false)
 (loopK (f35_cx k) 0 (execK (f35_cx k) (callK (f35_cx k) 8) 0 35 (sub f35_c [1,1,0,1,0,0])) f35_l0_cut (blkK 0 (seqK (execK (f35_cx k) (callK (f35_cx k) 8) 0 35 (sub f35_c [1,1,1])) (finK (f35_cx k) f35_i laws_eqBlobS_sh))) k (f35_l0_s a0 a1 (0:Int)))):Q36):=by kernel_rfl

theorem f35_run(a0:T6)(a1:T6):fnK (f35_cx FUEL) 8 35 f35_i laws_eqBlobS_sh [.pv K9 a0,.pv K9 a1]=laws_eqBlobS_r a0 a1:=
 (f35_start FUEL a0 a1).trans (condC (rfl) ((f35_l0_L_eq _ a0 a1 FUEL (0:Int)).trans (cong2 (fun e0 e1=>laws_eqBlobS_l0_L e0 e1 a0 a1 FUEL (0:Int)) ((f35_l0_ret FUEL).trans (rfl)) ((f35_l0_exit0 FUEL).trans (rfl)))))

def f35_con:Con:={ps:=(.pair K9 K4),sh:=laws_eqBlobS_sh,raw:=fun x=>laws_eqBlobS_r x.1 x.2.1}
theorem f35_conOk:ConOk Tryz.prog 35 f35_con:=con_of_fn (f35_tabs FUEL) (depth:=8) f35_ok fun x y h=>(f35_run x.1 x.2.1).trans h

def f16_cx(k:Nat):Cx:=mkC [] [(35,f35_con)] [] [] [] k [] false
theorem f16_tabs(k:Nat):TabsOk Tryz.prog (f16_cx k):=mkC_ok ⟨f35_conOk,trivial⟩ trivial trivial trivial
abbrev laws_eqStore_sh:List Sh:=[.pl .bool]
abbrev Q41:Type:=Option (shDen laws_eqStore_sh)
def laws_eqStore_r(a0:T4)(a1:T4):Q41:=
 (bindO (laws_eqBlobS_r a0.1 a1.1) fun(b1:Bool)=>(cond (!b1)
 (some false)
 (some true)))
theorem f16_run(a0:T4)(a1:T4):fnK (f16_cx FUEL) 8 16 f16_i laws_eqStore_sh [.pv K4 a0,.pv K4 a1]=laws_eqStore_r a0 a1:=by kernel_rfl

def f16_con:Con:={ps:=(.pair K4 K3),sh:=laws_eqStore_sh,raw:=fun x=>laws_eqStore_r x.1 x.2.1}
theorem f16_conOk:ConOk Tryz.prog 16 f16_con:=con_of_fn (f16_tabs FUEL) (depth:=8) f16_ok fun x y h=>(f16_run x.1 x.2.1).trans h

def f79_l0_cut:Cut:={keep:=[0,1,5],stk:=[],ids:=[7],own:=[],outs:=[(1,[1],[7])]}
def f79_cx(k:Nat):Cx:=mkC [] [] [] [] [(79,[(0,f79_l0_cut)])] k [] false
theorem f79_tabs(k:Nat):TabsOk Tryz.prog (f79_cx k):=mkC_ok trivial trivial trivial trivial
abbrev laws_markByteS_sh:List Sh:=[.pl (.int .i64)]
def f79_l0_s(x1:Int)(x5:Int)(z7:(List Int)):St:={env:=(.sl 7 (.int .u8):: .pv (.int .i64) x1::(dd 3 (.pv (.int .i64) x5::(dd 14 [])))),stk:=[],heap:=[(7,.arr 5 (.int .u8) z7)]}
def f79_l0_o0(x1:Int)(z7:(List Int)):St:={env:=(.dead:: .pv (.int .i64) x1::(dd 18 [])),stk:=[],heap:=[(7,.arr 5 (.int .u8) z7)]}
def laws_markByteS_l0_b(rec:Int→Int→(List Int)→Option ((List Int)×shDen laws_markByteS_sh))(ke0:Int→(List Int)→Option ((List Int)×shDen laws_markByteS_sh))(x1:Int)(x5:Int)(z7:(List Int)):Option ((List Int)×shDen laws_markByteS_sh):=
 (cond (decide (x5<(z7.length:Int)))
 (cond ((decide ((0:Int)≤x5))&&(decide (x5<(z7.length:Int))))
 (rec (IntKind.wrap .i64 (x1+(1:Int))) (IntKind.wrap .i64 (x5+(1:Int))) (z7.set (x5.toNat) (IntKind.wrap .u8 x1)))
 none)
 (ke0 x1 z7))
def laws_markByteS_l0_L(ke0:Int→(List Int)→Option ((List Int)×shDen laws_markByteS_sh)):Nat→Int→Int→(List Int)→Option ((List Int)×shDen laws_markByteS_sh)
 |0=>fun _ _ _=>none
 |n+1=>laws_markByteS_l0_b (laws_markByteS_l0_L ke0 n) ke0
def laws_markByteS_r(a0:(List Int))(a1:Int):Option ((List Int)×shDen laws_markByteS_sh):=
 (laws_markByteS_l0_L (fun x1 z7=>(some (z7,x1))) FUEL a1 (0:Int) a0)
def f79_l0_p(k:Nat)(K:Ex→St→Option ((List Int)×shDen laws_markByteS_sh))(n:Nat)(x1:Int)(x5:Int)(z7:(List Int)):Option ((List Int)×shDen laws_markByteS_sh):=loopK (f79_cx k) 0 (execK (f79_cx k) (callK (f79_cx k) 8) 0 79 (sub f79_c [1,0,1,0,0])) f79_l0_cut K n (f79_l0_s x1 x5 z7)

theorem f79_l0_exit0(k:Nat)(x1:Int)(z7:(List Int)):((blkK 0 (seqK (execK (f79_cx k) (callK (f79_cx k) 8) 0 79 (sub f79_c [1,1])) (finIK (f79_cx k) f79_i (.arr 5 (.int .u8)) laws_markByteS_sh))) (.exit 0) (f79_l0_o0 x1 z7):Option ((List Int)×shDen laws_markByteS_sh))=
 ((some (z7,x1)):Option ((List Int)×shDen laws_markByteS_sh)):=by kernel_rfl

theorem f79_l0_round(k:Nat)(K:Ex→St→Option ((List Int)×shDen laws_markByteS_sh))(n:Nat)(x1:Int)(x5:Int)(z7:(List Int)):(f79_l0_p k K (n+1) x1 x5 z7:Option ((List Int)×shDen laws_markByteS_sh))=laws_markByteS_l0_b ((fun x1 x5 z7=>f79_l0_p k K n x1 x5 z7)) (fun x1 z7=>K (.exit 0) (f79_l0_o0 x1 z7)) x1 x5 z7:=by kernel_rfl

theorem f79_l0_L_eq(K:Ex→St→Option ((List Int)×shDen laws_markByteS_sh)):∀(n:Nat) (x1:Int) (x5:Int) (z7:(List Int)),(f79_l0_p FUEL K n x1 x5 z7:Option ((List Int)×shDen laws_markByteS_sh))=laws_markByteS_l0_L (fun x1 z7=>K (.exit 0) (f79_l0_o0 x1 z7)) n x1 x5 z7:=by
 intro n
 induction n with
 |zero=>intros; rfl
 |succ n ih=>
  intro x1 x5 z7
  exact(f79_l0_round FUEL K n x1 x5 z7).trans (congrArg (fun f=>laws_markByteS_l0_b f (fun x1 z7=>K (.exit 0) (f79_l0_o0 x1 z7)) x1 x5 z7) (funext fun x1=>funext fun x5=>funext fun z7=>ih x1 x5 z7))

theorem f79_start(k:Nat)(a0:(List Int))(a1:Int):fnIK (f79_cx k) 8 79 f79_i (.arr 5 (.int .u8)) laws_markByteS_sh a0 [.pv (.int .i64) a1]=
 ((loopK (f79_cx k) 0 (execK (f79_cx k) (callK (f79_cx k) 8) 0 79 (sub f79_c [1,0,1,0,0])) f79_l0_cut (blkK 0 (seqK (execK (f79_cx k) (callK (f79_cx k) 8) 0 79 (sub f79_c [1,1])) (finIK (f79_cx k) f79_i (.arr 5 (.int .u8)) laws_markByteS_sh))) k (f79_l0_s a1 (0:Int) a0)):Option ((List Int)×shDen laws_markByteS_sh)):=by kernel_rfl

theorem f79_run(a0:(List Int))(a1:Int):fnIK (f79_cx FUEL) 8 79 f79_i (.arr 5 (.int .u8)) laws_markByteS_sh a0 [.pv (.int .i64) a1]=laws_markByteS_r a0 a1:=
 (f79_start FUEL a0 a1).trans ((f79_l0_L_eq _ FUEL a1 (0:Int) a0).trans (congrArg (fun e0=>laws_markByteS_l0_L e0 FUEL a1 (0:Int) a0) (funext fun x1=>funext fun z7=>(f79_l0_exit0 FUEL x1 z7).trans (rfl))))

def f79_inp:ConI:={k:=(.arr 5 (.int .u8)),ps:=K19,sh:=laws_markByteS_sh,raw:=fun x q=>laws_markByteS_r x q.1}
theorem f79_inpOk:InpOk Tryz.prog 79 f79_inp:=inp_of_fn (f79_tabs FUEL) (depth:=8) f79_ok fun x q z h=>(f79_run x q.1).trans h

def f36_d_l0_cut:Cut:={keep:=[0,1,5],stk:=[],ids:=[7],own:=[],outs:=[(1,[1],[7])]}
def f36_d_cx(k:Nat):Cx:=mkC [] [] [] [(79,f79_inp)] [(36,[(0,f36_d_l0_cut)])] k dps false
theorem f36_d_tabs(k:Nat):TabsOk Tryz.prog (f36_d_cx k):=mkC_ok trivial trivial ⟨f79_inpOk,trivial⟩ trivial
abbrev laws_markBlobS_d_sh:List Sh:=[.pl (.int .i64)]
def f36_d_l0_s(x1:Int)(x5:Int)(z7:T6):St:={env:=(.inn 7 [] K11:: .pv (.int .i64) x1::(dd 3 (.pv (.int .i64) x5::(dd 22 [])))),stk:=[],heap:=[(7,.tre 125 (.pr (.pl (.int .u8)) (.pr (.sl 5 (.pl (.int .u8))) (.pl .unit))) z7)]}
def f36_d_l0_o0(x1:Int)(z7:T6):St:={env:=(.dead:: .pv (.int .i64) x1::(dd 26 [])),stk:=[],heap:=[(7,.tre 125 (.pr (.pl (.int .u8)) (.pr (.sl 5 (.pl (.int .u8))) (.pl .unit))) z7)]}
def laws_markBlobS_d_l0_b(rec:Int→Int→T6→Option (T6×shDen laws_markBlobS_d_sh))(ke0:Int→T6→Option (T6×shDen laws_markBlobS_d_sh))(x1:Int)(x5:Int)(z7:T6):Option (T6×shDen laws_markBlobS_d_sh):=
 (cond (decide (x5<(z7.length:Int)))
 (cond ((decide ((0:Int)≤x5))&&(decide (x5<(z7.length:Int))))
 (cond ((decide ((0:Int)≤x5))&&(decide (x5<((z7.set (x5.toNat) ((IntKind.wrap .u8 x1),(z7.getD (x5.toNat) ((0:Int),([],()))).2)).length:Int))))
 (cond (decide ((x5.toNat)<List.length (z7.set (x5.toNat) ((IntKind.wrap .u8 x1),(z7.getD (x5.toNat) ((0:Int),([],()))).2)))&&true) (bindO (laws_markByteS_r ((((z7.set (x5.toNat) ((IntKind.wrap .u8 x1),(z7.getD (x5.toNat) ((0:Int),([],()))).2)).getD (x5.toNat) ((0:Int),([],()))).2).1) (IntKind.wrap .i64 (x1+(1:Int)))) fun(b2:((List Int)×Int))=>(rec b2.2 (IntKind.wrap .i64 (x5+(1:Int))) ((z7.set (x5.toNat) ((IntKind.wrap .u8 x1),(z7.getD (x5.toNat) ((0:Int),([],()))).2)).set (x5.toNat) (((z7.set (x5.toNat) ((IntKind.wrap .u8 x1),(z7.getD (x5.toNat) ((0:Int),([],()))).2)).getD (x5.toNat) ((0:Int),([],()))).1,(b2.1,(((z7.set (x5.toNat) ((IntKind.wrap .u8 x1),(z7.getD (x5.toNat) ((0:Int),([],()))).2)).getD (x5.toNat) ((0:Int),([],()))).2).2))))) none)
 none)
 none)
 (ke0 x1 z7))
def laws_markBlobS_d_l0_L(ke0:Int→T6→Option (T6×shDen laws_markBlobS_d_sh)):Nat→Int→Int→T6→Option (T6×shDen laws_markBlobS_d_sh)
 |0=>fun _ _ _=>none
 |n+1=>laws_markBlobS_d_l0_b (laws_markBlobS_d_l0_L ke0 n) ke0
def laws_markBlobS_d_r(a0:T6)(a1:Int):Option (T6×shDen laws_markBlobS_d_sh):=
 (laws_markBlobS_d_l0_L (fun x1 z7=>(some (z7,x1))) FUEL a1 (0:Int) a0)
def f36_d_l0_p(k:Nat)(K:Ex→St→Option (T6×shDen laws_markBlobS_d_sh))(n:Nat)(x1:Int)(x5:Int)(z7:T6):Option (T6×shDen laws_markBlobS_d_sh):=loopK (f36_d_cx k) 0 (execK (f36_d_cx k) (callK (f36_d_cx k) 8) 0 36 (sub f36_c [1,0,1,0,0])) f36_d_l0_cut K n (f36_d_l0_s x1 x5 z7)

theorem f36_d_l0_exit0(k:Nat)(x1:Int)(z7:T6):((blkK 0 (seqK (execK (f36_d_cx k) (callK (f36_d_cx k) 8) 0 36 (sub f36_c [1,1])) (finIK (f36_d_cx k) f36_i (.tre 125 (.pr (.pl (.int .u8)) (.pr (.sl 5 (.pl (.int .u8))) (.pl .unit)))) laws_markBlobS_d_sh))) (.exit 0) (f36_d_l0_o0 x1 z7):Option (T6×shDen laws_markBlobS_d_sh))=
 ((some (z7,x1)):Option (T6×shDen laws_markBlobS_d_sh)):=by kernel_rfl

theorem f36_d_l0_round(k:Nat)(K:Ex→St→Option (T6×shDen laws_markBlobS_d_sh))(n:Nat)(x1:Int)(x5:Int)(z7:T6):(f36_d_l0_p k K (n+1) x1 x5 z7:Option (T6×shDen laws_markBlobS_d_sh))=laws_markBlobS_d_l0_b ((fun x1 x5 z7=>f36_d_l0_p k K n x1 x5 z7)) (fun x1 z7=>K (.exit 0) (f36_d_l0_o0 x1 z7)) x1 x5 z7:=by kernel_rfl

theorem f36_d_l0_L_eq(K:Ex→St→Option (T6×shDen laws_markBlobS_d_sh)):∀(n:Nat) (x1:Int) (x5:Int) (z7:T6),(f36_d_l0_p FUEL K n x1 x5 z7:Option (T6×shDen laws_markBlobS_d_sh))=laws_markBlobS_d_l0_L (fun x1 z7=>K (.exit 0) (f36_d_l0_o0 x1 z7)) n x1 x5 z7:=by
 intro n
 induction n with
 |zero=>intros; rfl
 |succ n ih=>
  intro x1 x5 z7
  exact(f36_d_l0_round FUEL K n x1 x5 z7).trans (congrArg (fun f=>laws_markBlobS_d_l0_b f (fun x1 z7=>K (.exit 0) (f36_d_l0_o0 x1 z7)) x1 x5 z7) (funext fun x1=>funext fun x5=>funext fun z7=>ih x1 x5 z7))

theorem f36_d_start(k:Nat)(a0:T6)(a1:Int):fnIK (f36_d_cx k) 8 36 f36_i (.tre 125 (.pr (.pl (.int .u8)) (.pr (.sl 5 (.pl (.int .u8))) (.pl .unit)))) laws_markBlobS_d_sh a0 [.pv (.int .i64) a1]=
 ((loopK (f36_d_cx k) 0 (execK (f36_d_cx k) (callK (f36_d_cx k) 8) 0 36 (sub f36_c [1,0,1,0,0])) f36_d_l0_cut (blkK 0 (seqK (execK (f36_d_cx k) (callK (f36_d_cx k) 8) 0 36 (sub f36_c [1,1])) (finIK (f36_d_cx k) f36_i (.tre 125 (.pr (.pl (.int .u8)) (.pr (.sl 5 (.pl (.int .u8))) (.pl .unit)))) laws_markBlobS_d_sh))) k (f36_d_l0_s a1 (0:Int) a0)):Option (T6×shDen laws_markBlobS_d_sh)):=by kernel_rfl

theorem f36_d_run(a0:T6)(a1:Int):fnIK (f36_d_cx FUEL) 8 36 f36_i (.tre 125 (.pr (.pl (.int .u8)) (.pr (.sl 5 (.pl (.int .u8))) (.pl .unit)))) laws_markBlobS_d_sh a0 [.pv (.int .i64) a1]=laws_markBlobS_d_r a0 a1:=
 (f36_d_start FUEL a0 a1).trans ((f36_d_l0_L_eq _ FUEL a1 (0:Int) a0).trans (congrArg (fun e0=>laws_markBlobS_d_l0_L e0 FUEL a1 (0:Int) a0) (funext fun x1=>funext fun z7=>(f36_d_l0_exit0 FUEL x1 z7).trans (rfl))))

def f36_d_inp:ConI:={k:=(.tre 125 (.pr (.pl (.int .u8)) (.pr (.sl 5 (.pl (.int .u8))) (.pl .unit)))),ps:=K19,sh:=laws_markBlobS_d_sh,raw:=fun x q=>laws_markBlobS_d_r x q.1}
theorem f36_d_inpOk:InpOk Tryz.prog 36 f36_d_inp:=inp_of_fn (f36_d_tabs FUEL) (depth:=8) f36_ok fun x q z h=>(f36_d_run x q.1).trans h

def f19_l0_cut:Cut:={keep:=[0,1,5],stk:=[],ids:=[7],own:=[],outs:=[(1,[1],[7])]}
def f19_l1_cut:Cut:={keep:=[0,1,5,6],stk:=[],ids:=[7],own:=[],outs:=[(3,[0,1,5],[7])]}
def f19_cx(k:Nat):Cx:=mkC [] [] [] [] [(19,[(0,f19_l0_cut),(2,f19_l1_cut)])] k [] false
theorem f19_tabs(k:Nat):TabsOk Tryz.prog (f19_cx k):=mkC_ok trivial trivial trivial trivial
abbrev laws_markKeyS_sh:List Sh:=[.pl (.int .i64)]
def f19_l0_s(x1:Int)(x5:Int)(z7:T14):St:={env:=(.sl 7 (.arr 32 (.int .u8)):: .pv (.int .i64) x1::(dd 3 (.pv (.int .i64) x5::(dd 21 [])))),stk:=[],heap:=[(7,.arr 35 (.arr 32 (.int .u8)) z7)]}
def f19_l0_o0(x1:Int)(z7:T14):St:={env:=(.dead:: .pv (.int .i64) x1::(dd 25 [])),stk:=[],heap:=[(7,.arr 35 (.arr 32 (.int .u8)) z7)]}
def f19_l1_s(x5:Int)(x1:Int)(x6:Int)(z7:T14):St:={env:=(.sl 7 (.arr 32 (.int .u8)):: .pv (.int .i64) x1::(dd 3 (.pv (.int .i64) x5:: .pv (.int .i64) x6::(dd 20 [])))),stk:=[],heap:=[(7,.arr 35 (.arr 32 (.int .u8)) z7)]}
def f19_l1_o2(x5:Int)(x1:Int)(z7:T14):St:={env:=(.sl 7 (.arr 32 (.int .u8)):: .pv (.int .i64) x1::(dd 3 (.pv (.int .i64) x5::(dd 21 [])))),stk:=[],heap:=[(7,.arr 35 (.arr 32 (.int .u8)) z7)]}
def laws_markKeyS_l1_b(rec:Int→Int→T14→Option (T14×shDen laws_markKeyS_sh))(ke2:Int→T14→Option (T14×shDen laws_markKeyS_sh))(x5:Int)(x1:Int)(x6:Int)(z7:T14):Option (T14×shDen laws_markKeyS_sh):=
 (cond (decide (x6<(32:Int)))
 (cond ((decide ((0:Int)≤x5))&&(decide (x5<(z7.length:Int))))
 (cond ((decide ((0:Int)≤x6))&&(decide (x6<(32:Int))))
 (rec (IntKind.wrap .i64 (x1+(1:Int))) (IntKind.wrap .i64 (x6+(1:Int))) (z7.set (x5.toNat) ((z7.getD (x5.toNat) (List.replicate 32 (0:Int))).set (x6.toNat) (IntKind.wrap .u8 x1))))
 none)
 none)
 (ke2 x1 z7))
def laws_markKeyS_l1_L(ke2:Int→T14→Option (T14×shDen laws_markKeyS_sh))(x5:Int):Nat→Int→Int→T14→Option (T14×shDen laws_markKeyS_sh)
 |0=>fun _ _ _=>none
 |n+1=>laws_markKeyS_l1_b (laws_markKeyS_l1_L ke2 x5 n) ke2 x5
def laws_markKeyS_l0_b(rec:Int→Int→T14→Option (T14×shDen laws_markKeyS_sh))(ke0:Int→T14→Option (T14×shDen laws_markKeyS_sh))(x1:Int)(x5:Int)(z7:T14):Option (T14×shDen laws_markKeyS_sh):=
 (cond (decide (x5<(z7.length:Int)))
 (laws_markKeyS_l1_L (fun x1 z7=>(rec x1 (IntKind.wrap .i64 (x5+(1:Int))) z7)) x5 FUEL x1 (0:Int) z7)
 (ke0 x1 z7))
def laws_markKeyS_l0_L(ke0:Int→T14→Option (T14×shDen laws_markKeyS_sh)):Nat→Int→Int→T14→Option (T14×shDen laws_markKeyS_sh)
 |0=>fun _ _ _=>none
 |n+1=>laws_markKeyS_l0_b (laws_markKeyS_l0_L ke0 n) ke0
def laws_markKeyS_r(a0:T14)(a1:Int):Option (T14×shDen laws_markKeyS_sh):=
 (laws_markKeyS_l0_L (fun x1 z7=>(some (z7,x1))) FUEL a1 (0:Int) a0)
def f19_l1_p(k:Nat)(K:Ex→St→Option (T14×shDen laws_markKeyS_sh))(n:Nat)(x5:Int)(x1:Int)(x6:Int)(z7:T14):Option (T14×shDen laws_markKeyS_sh):=loopK (f19_cx k) 0 (execK (f19_cx k) (callK (f19_cx k) 8) 0 19 (sub f19_c [1,0,1,0,0,1,0,0,1,0,0])) f19_l1_cut K n (f19_l1_s x5 x1 x6 z7)

theorem f19_l1_exit2(k:Nat)(K:Ex→St→Option (T14×shDen laws_markKeyS_sh))(n:Nat)(x5:Int)(x1:Int)(z7:T14):((blkK 2 (blkK 1 (seqK (execK (f19_cx k) (callK (f19_cx k) 8) 0 19 (sub f19_c [1,0,1,0,0,1,1])) (iterK (f19_cx k) 0 f19_l0_cut (loopK (f19_cx k) 0 (execK (f19_cx k) (callK (f19_cx k) 8) 0 19 (sub f19_c [1,0,1,0,0])) f19_l0_cut K n) K)))) (.exit 2) (f19_l1_o2 x5 x1 z7):Option (T14×shDen laws_markKeyS_sh))=
 ((loopK (f19_cx k) 0 (execK (f19_cx k) (callK (f19_cx k) 8) 0 19 (sub f19_c [1,0,1,0,0])) f19_l0_cut K n (f19_l0_s x1 (IntKind.wrap .i64 (x5+(1:Int))) z7)):Option (T14×shDen laws_markKeyS_sh)):=by kernel_rfl

theorem f19_l1_round(k:Nat)(K:Ex→St→Option (T14×shDen laws_markKeyS_sh))(n:Nat)(x5:Int)(x1:Int)(x6:Int)(z7:T14):(f19_l1_p k K (n+1) x5 x1 x6 z7:Option (T14×shDen laws_markKeyS_sh))=laws_markKeyS_l1_b ((fun x1 x6 z7=>f19_l1_p k K n x5 x1 x6 z7)) (fun x1 z7=>K (.exit 2) (f19_l1_o2 x5 x1 z7)) x5 x1 x6 z7:=by kernel_rfl

theorem f19_l1_L_eq(K:Ex→St→Option (T14×shDen laws_markKeyS_sh))(x5:Int):∀(n:Nat) (x1:Int) (x6:Int) (z7:T14),(f19_l1_p FUEL K n x5 x1 x6 z7:Option (T14×shDen laws_markKeyS_sh))=laws_markKeyS_l1_L (fun x1 z7=>K (.exit 2) (f19_l1_o2 x5 x1 z7)) x5 n x1 x6 z7:=by
 intro n
 induction n with
 |zero=>intros; rfl
 |succ n ih=>
  intro x1 x6 z7
  exact(f19_l1_round FUEL K n x5 x1 x6 z7).trans (congrArg (fun f=>laws_markKeyS_l1_b f (fun x1 z7=>K (.exit 2) (f19_l1_o2 x5 x1 z7)) x5 x1 x6 z7) (funext fun x1=>funext fun x6=>funext fun z7=>ih x1 x6 z7))

def f19_l0_p(k:Nat)(K:Ex→St→Option (T14×shDen laws_markKeyS_sh))(n:Nat)(x1:Int)(x5:Int)(z7:T14):Option (T14×shDen laws_markKeyS_sh):=loopK (f19_cx k) 0 (execK (f19_cx k) (callK (f19_cx k) 8) 0 19 (sub f19_c [1,0,1,0,0])) f19_l0_cut K n (f19_l0_s x1 x5 z7)

theorem f19_l0_round(k:Nat)(K:Ex→St→Option (T14×shDen laws_markKeyS_sh))(n:Nat)(x1:Int)(x5:Int)(z7:T14):(f19_l0_p k K (n+1) x1 x5 z7:Option (T14×shDen laws_markKeyS_sh))=
 ((cond (decide (x5<(z7.length:Int)))
 (loopK (f19_cx k) 0 (execK (f19_cx k) (callK (f19_cx k) 8) 0 19 (sub f19_c [1,0,1,0,0,1,0,0,1,0,0])) f19_l1_cut (blkK 2 (blkK 1 (seqK (execK (f19_cx k) (callK (f19_cx k) 8) 0 19 (sub f19_c [1,0,1,0,0,1,1])) (iterK (f19_cx k) 0 f19_l0_cut (loopK (f19_cx k) 0 (execK (f19_cx k) (callK (f19_cx k) 8) 0 19 (sub f19_c [1,0,1,0,0])) f19_l0_cut K n) K)))) k (f19_l1_s x5 x1 (0:Int) z7))
 (K (.exit 0) (f19_l0_o0 x1 z7))):Option (T14×shDen laws_markKeyS_sh)):=by kernel_rfl

theorem f19_l0_exit0(k:Nat)(x1:Int)(z7:T14):((blkK 0 (seqK (execK (f19_cx k) (callK (f19_cx k) 8) 0 19 (sub f19_c [1,1])) (finIK (f19_cx k) f19_i (.arr 35 (.arr 32 (.int .u8))) laws_markKeyS_sh))) (.exit 0) (f19_l0_o0 x1 z7):Option (T14×shDen laws_markKeyS_sh))=
 ((some (z7,x1)):Option (T14×shDen laws_markKeyS_sh)):=by kernel_rfl

theorem f19_l0_L_eq(K:Ex→St→Option (T14×shDen laws_markKeyS_sh)):∀(n:Nat) (x1:Int) (x5:Int) (z7:T14),(f19_l0_p FUEL K n x1 x5 z7:Option (T14×shDen laws_markKeyS_sh))=laws_markKeyS_l0_L (fun x1 z7=>K (.exit 0) (f19_l0_o0 x1 z7)) n x1 x5 z7:=by
 intro n
 induction n with
 |zero=>intros; rfl
 |succ n ih=>
  intro x1 x5 z7
  exact(f19_l0_round FUEL K n x1 x5 z7).trans (condC ((f19_l1_L_eq _ x5 FUEL x1 (0:Int) z7).trans (congrArg (fun e0=>laws_markKeyS_l1_L e0 x5 FUEL x1 (0:Int) z7) (funext fun x1=>funext fun z7=>(f19_l1_exit2 FUEL K n x5 x1 z7).trans (ih x1 (IntKind.wrap .i64 (x5+(1:Int))) z7)))) (rfl))

theorem f19_start(k:Nat)(a0:T14)(a1:Int):fnIK (f19_cx k) 8 19 f19_i (.arr 35 (.arr 32 (.int .u8))) laws_markKeyS_sh a0 [.pv (.int .i64) a1]=
 ((loopK (f19_cx k) 0 (execK (f19_cx k) (callK (f19_cx k) 8) 0 19 (sub f19_c [1,0,1,0,0])) f19_l0_cut (blkK 0 (seqK (execK (f19_cx k) (callK (f19_cx k) 8) 0 19 (sub f19_c [1,1])) (finIK (f19_cx k) f19_i (.arr 35 (.arr 32 (.int .u8))) laws_markKeyS_sh))) k (f19_l0_s a1 (0:Int) a0)):Option (T14×shDen laws_markKeyS_sh)):=by kernel_rfl

theorem f19_run(a0:T14)(a1:Int):fnIK (f19_cx FUEL) 8 19 f19_i (.arr 35 (.arr 32 (.int .u8))) laws_markKeyS_sh a0 [.pv (.int .i64) a1]=laws_markKeyS_r a0 a1:=
 (f19_start FUEL a0 a1).trans ((f19_l0_L_eq _ FUEL a1 (0:Int) a0).trans (congrArg (fun e0=>laws_markKeyS_l0_L e0 FUEL a1 (0:Int) a0) (funext fun x1=>funext fun z7=>(f19_l0_exit0 FUEL x1 z7).trans (rfl))))

def f19_inp:ConI:={k:=(.arr 35 (.arr 32 (.int .u8))),ps:=K19,sh:=laws_markKeyS_sh,raw:=fun x q=>laws_markKeyS_r x q.1}
theorem f19_inpOk:InpOk Tryz.prog 19 f19_inp:=inp_of_fn (f19_tabs FUEL) (depth:=8) f19_ok fun x q z h=>(f19_run x q.1).trans h

def f21_l0_cut:Cut:={keep:=[0,1,5],stk:=[],ids:=[],own:=[],outs:=[(1,[1],[]),(0,[4],[])]}
def f21_l1_cut:Cut:={keep:=[0,1,5,6],stk:=[],ids:=[],own:=[],outs:=[(0,[4],[]),(3,[0,1,5],[])]}
def f21_cx(k:Nat):Cx:=mkC [] [] [] [] [(21,[(0,f21_l0_cut),(2,f21_l1_cut)])] k [] false
theorem f21_tabs(k:Nat):TabsOk Tryz.prog (f21_cx k):=mkC_ok trivial trivial trivial trivial
abbrev laws_heldKeyS_sh:List Sh:=[.pl (.int .i64)]
abbrev Q42:Type:=Option (shDen laws_heldKeyS_sh)
def f21_l0_s(a0:T14)(x1:Int)(x5:Int):St:={env:=(.pv K17 a0:: .pv (.int .i64) x1::(dd 3 (.pv (.int .i64) x5::(dd 23 [])))),stk:=[],heap:=[]}
def f21_l0_o0(x1:Int):St:={env:=(.dead:: .pv (.int .i64) x1::(dd 27 [])),stk:=[],heap:=[]}
def f21_l0_o:St:={env:=(dd 4 (.pv (.int .i64) (-1:Int)::(dd 24 []))),stk:=[],heap:=[]}
def f21_l1_s(a0:T14)(x5:Int)(x1:Int)(x6:Int):St:={env:=(.pv K17 a0:: .pv (.int .i64) x1::(dd 3 (.pv (.int .i64) x5:: .pv (.int .i64) x6::(dd 22 [])))),stk:=[],heap:=[]}
def f21_l1_o:St:={env:=(dd 4 (.pv (.int .i64) (-1:Int)::(dd 24 []))),stk:=[],heap:=[]}
def f21_l1_o2(a0:T14)(x5:Int)(x1:Int):St:={env:=(.pv K17 a0:: .pv (.int .i64) x1::(dd 3 (.pv (.int .i64) x5::(dd 23 [])))),stk:=[],heap:=[]}
def laws_heldKeyS_l1_b(rec:Int→Int→Q42)(kr:Q42)(ke2:Int→Q42)(a0:T14)(x5:Int)(x1:Int)(x6:Int):Q42:=
 (cond (decide (x6<(32:Int)))
 (cond ((decide ((0:Int)≤x5))&&(decide (x5<(a0.length:Int))))
 (cond ((decide ((0:Int)≤x6))&&(decide (x6<(32:Int))))
 (cond (!(decide (((a0.getD (x5.toNat) (List.replicate 32 (0:Int))).getD (x6.toNat) (0:Int))=(IntKind.wrap .u8 x1))))
 (kr)
 (rec (IntKind.wrap .i64 (x1+(1:Int))) (IntKind.wrap .i64 (x6+(1:Int)))))
 none)
 none)
 (ke2 x1))
def laws_heldKeyS_l1_L(kr:Q42)(ke2:Int→Q42)(a0:T14)(x5:Int):Nat→Int→Int→Q42
 |0=>fun _ _=>none
 |n+1=>laws_heldKeyS_l1_b (laws_heldKeyS_l1_L kr ke2 a0 x5 n) kr ke2 a0 x5
def laws_heldKeyS_l0_b(rec:Int→Int→Q42)(ke0:Int→Q42)(kr:Q42)(a0:T14)(x1:Int)(x5:Int):Q42:=
 (cond (decide (x5<(a0.length:Int)))
 (laws_heldKeyS_l1_L (kr) (fun x1=>(rec x1 (IntKind.wrap .i64 (x5+(1:Int))))) a0 x5 FUEL x1 (0:Int))
 (ke0 x1))
def laws_heldKeyS_l0_L(ke0:Int→Q42)(kr:Q42)(a0:T14):Nat→Int→Int→Q42
 |0=>fun _ _=>none
 |n+1=>laws_heldKeyS_l0_b (laws_heldKeyS_l0_L ke0 kr a0 n) ke0 kr a0
def laws_heldKeyS_r(a0:T14)(a1:Int):Q42:=
 (laws_heldKeyS_l0_L (fun x1=>(some x1)) (some (-1:Int)) a0 FUEL a1 (0:Int))
def f21_l1_p(k:Nat)(K:Ex→St→Q42)(n:Nat)(a0:T14)(x5:Int)(x1:Int)(x6:Int):Q42:=loopK (f21_cx k) 0 (execK (f21_cx k) (callK (f21_cx k) 8) 0 21 (sub f21_c [1,0,1,0,0,1,0,0,1,0,0])) f21_l1_cut K n (f21_l1_s a0 x5 x1 x6)

theorem f21_l1_ret(k:Nat)(K:Ex→St→Q42)(n:Nat):((blkK 2 (blkK 1 (seqK (execK (f21_cx k) (callK (f21_cx k) 8) 0 21 (sub f21_c [1,0,1,0,0,1,1])) (iterK (f21_cx k) 0 f21_l0_cut (loopK (f21_cx k) 0 (execK (f21_cx k) (callK (f21_cx k) 8) 0 21 (sub f21_c [1,0,1,0,0])) f21_l0_cut K n) K)))) .ret (f21_l1_o):Q42)=
 ((K .ret (f21_l0_o)):Q42):=by kernel_rfl

theorem f21_l1_exit2(k:Nat)(K:Ex→St→Q42)(n:Nat)(a0:T14)(x5:Int)(x1:Int):((blkK 2 (blkK 1 (seqK (execK (f21_cx k) (callK (f21_cx k) 8) 0 21 (sub f21_c [1,0,1,0,0,1,1])) (iterK (f21_cx k) 0 f21_l0_cut (loopK (f21_cx k) 0 (execK (f21_cx k) (callK (f21_cx k) 8) 0 21 (sub f21_c [1,0,1,0,0])) f21_l0_cut K n) K)))) (.exit 2) (f21_l1_o2 a0 x5 x1):Q42)=
 ((loopK (f21_cx k) 0 (execK (f21_cx k) (callK (f21_cx k) 8) 0 21 (sub f21_c [1,0,1,0,0])) f21_l0_cut K n (f21_l0_s a0 x1 (IntKind.wrap .i64 (x5+(1:Int))))):Q42):=by kernel_rfl

theorem f21_l1_round(k:Nat)(K:Ex→St→Q42)(n:Nat)(a0:T14)(x5:Int)(x1:Int)(x6:Int):(f21_l1_p k K (n+1) a0 x5 x1 x6:Q42)=laws_heldKeyS_l1_b ((fun x1 x6=>f21_l1_p k K n a0 x5 x1 x6)) (K .ret (f21_l1_o)) (fun x1=>K (.exit 2) (f21_l1_o2 a0 x5 x1)) a0 x5 x1 x6:=by kernel_rfl

theorem f21_l1_L_eq(K:Ex→St→Q42)(a0:T14)(x5:Int):∀(n:Nat) (x1:Int) (x6:Int),(f21_l1_p FUEL K n a0 x5 x1 x6:Q42)=laws_heldKeyS_l1_L (K .ret (f21_l1_o)) (fun x1=>K (.exit 2) (f21_l1_o2 a0 x5 x1)) a0 x5 n x1 x6:=by
 intro n
 induction n with
 |zero=>intros; rfl
 |succ n ih=>
  intro x1 x6
  exact(f21_l1_round FUEL K n a0 x5 x1 x6).trans (congrArg (fun f=>laws_heldKeyS_l1_b f (K .ret (f21_l1_o)) (fun x1=>K (.exit 2) (f21_l1_o2 a0 x5 x1)) a0 x5 x1 x6) (funext fun x1=>funext fun x6=>ih x1 x6))

def f21_l0_p(k:Nat)(K:Ex→St→Q42)(n:Nat)(a0:T14)(x1:Int)(x5:Int):Q42:=loopK (f21_cx k) 0 (execK (f21_cx k) (callK (f21_cx k) 8) 0 21 (sub f21_c [1,0,1,0,0])) f21_l0_cut K n (f21_l0_s a0 x1 x5)

theorem f21_l0_round(k:Nat)(K:Ex→St→Q42)(n:Nat)(a0:T14)(x1:Int)(x5:Int):(f21_l0_p k K (n+1) a0 x1 x5:Q42)=
 ((cond (decide (x5<(a0.length:Int)))
 (loopK (f21_cx k) 0 (execK (f21_cx k) (callK (f21_cx k) 8) 0 21 (sub f21_c [1,0,1,0,0,1,0,0,1,0,0])) f21_l1_cut (blkK 2 (blkK 1 (seqK (execK (f21_cx k) (callK (f21_cx k) 8) 0 21 (sub f21_c [1,0,1,0,0,1,1])) (iterK (f21_cx k) 0 f21_l0_cut (loopK (f21_cx k) 0 (execK (f21_cx k) (callK (f21_cx k) 8) 0 21 (sub f21_c [1,0,1,0,0])) f21_l0_cut K n) K)))) k (f21_l1_s a0 x5 x1 (0:Int)))
 (K (.exit 0) (f21_l0_o0 x1))):Q42):=by kernel_rfl

theorem f21_l0_exit0(k:Nat)(x1:Int):((blkK 0 (seqK (execK (f21_cx k) (callK (f21_cx k) 8) 0 21 (sub f21_c [1,1])) (finK (f21_cx k) f21_i laws_heldKeyS_sh))) (.exit 0) (f21_l0_o0 x1):Q42)=
 ((some x1):Q42):=by kernel_rfl

theorem f21_l0_ret(k:Nat):((blkK 0 (seqK (execK (f21_cx k) (callK (f21_cx k) 8) 0 21 (sub f21_c [1,1])) (finK (f21_cx k) f21_i laws_heldKeyS_sh))) .ret (f21_l0_o):Q42)=
 ((some (-1:Int)):Q42):=by kernel_rfl

theorem f21_l0_L_eq(K:Ex→St→Q42)(a0:T14):∀(n:Nat) (x1:Int) (x5:Int),(f21_l0_p FUEL K n a0 x1 x5:Q42)=laws_heldKeyS_l0_L (fun x1=>K (.exit 0) (f21_l0_o0 x1)) (K .ret (f21_l0_o)) a0 n x1 x5:=by
 intro n
 induction n with
 |zero=>intros; rfl
 |succ n ih=>
  intro x1 x5
  exact(f21_l0_round FUEL K n a0 x1 x5).trans (condC ((f21_l1_L_eq _ a0 x5 FUEL x1 (0:Int)).trans (cong2 (fun e0 e1=>laws_heldKeyS_l1_L e0 e1 a0 x5 FUEL x1 (0:Int)) ((f21_l1_ret FUEL K n).trans (rfl)) (funext fun x1=>(f21_l1_exit2 FUEL K n a0 x5 x1).trans (ih x1 (IntKind.wrap .i64 (x5+(1:Int))))))) (rfl))

theorem f21_start(k:Nat)(a0:T14)(a1:Int):fnK (f21_cx k) 8 21 f21_i laws_heldKeyS_sh [.pv K17 a0,.pv (.int .i64) a1]=
 ((loopK (f21_cx k) 0 (execK (f21_cx k) (callK (f21_cx k) 8) 0 21 (sub f21_c [1,0,1,0,0])) f21_l0_cut (blkK 0 (seqK (execK (f21_cx k) (callK (f21_cx k) 8) 0 21 (sub f21_c [1,1])) (finK (f21_cx k) f21_i laws_heldKeyS_sh))) k (f21_l0_s a0 a1 (0:Int))):Q42):=by kernel_rfl

theorem f21_run(a0:T14)(a1:Int):fnK (f21_cx FUEL) 8 21 f21_i laws_heldKeyS_sh [.pv K17 a0,.pv (.int .i64) a1]=laws_heldKeyS_r a0 a1:=
 (f21_start FUEL a0 a1).trans ((f21_l0_L_eq _ a0 FUEL a1 (0:Int)).trans (cong2 (fun e0 e1=>laws_heldKeyS_l0_L e0 e1 a0 FUEL a1 (0:Int)) (funext fun x1=>(f21_l0_exit0 FUEL x1).trans (rfl)) ((f21_l0_ret FUEL).trans (rfl))))

def f21_con:Con:={ps:=K7,sh:=laws_heldKeyS_sh,raw:=fun x=>laws_heldKeyS_r x.1 x.2.1}
theorem f21_conOk:ConOk Tryz.prog 21 f21_con:=con_of_fn (f21_tabs FUEL) (depth:=8) f21_ok fun x y h=>(f21_run x.1 x.2.1).trans h

def laws_FnExactWantsOf_d_cx(k:Nat):Cx:=mkC [(17,f17_i)] [(9,f9_con),(11,f11_d_con),(15,f15_con),(16,f16_con),(21,f21_con),(29,f29_con),(30,f30_con),(31,f31_con),(32,f32_con)] [] [(19,f19_inp),(36,f36_d_inp)] [] k dps false
theorem laws_FnExactWantsOf_d_tabs(k:Nat):TabsOk Tryz.prog (laws_FnExactWantsOf_d_cx k):=mkC_ok ⟨f9_conOk,f11_d_conOk,f15_conOk,f16_conOk,f21_conOk,f29_conOk,f30_conOk,f31_conOk,f32_conOk,trivial⟩ trivial ⟨f19_inpOk,f36_d_inpOk,trivial⟩ ⟨f17_ok,trivial⟩
abbrev laws_FnExactWantsOf_d_sh:List Sh:=[.pl .bool]
abbrev Q35:Type:=Option (shDen laws_FnExactWantsOf_d_sh)
def laws_FnExactWantsOf_d_r(a0:T4)(a1:T14)(a2:Int):Q35:=
 (bindO (laws_szStore_r a0 (1048576:Int)) fun(b1:Int)=>(cond (decide (b1<(0:Int)))
 (some true)
 (bindO (laws_szKeyS_r a1 b1) fun(b2:Int)=>(cond (decide (b2<(0:Int)))
 (some true)
 (bindO (laws_toStore_d_r a0) fun(b3:T4)=>(bindO (laws_toKeyS_r a1) fun(b4:T14)=>(bindO (spec_WantsOf_r (b3.1,()) b4 a2) fun(b5:T11)=>(bindO (laws_toStore_d_r a0) fun(b6:T4)=>(bindO (laws_toKeyS_r a1) fun(b7:T14)=>(bindO (impl_WantsOf_r (b6.1,()) b7 a2) fun(b8:T11)=>(bindO (laws_eqKeyS_r b8.1 b5.1) fun(b9:Bool)=>(cond (!b9)
 (some false)
 (cond (!(decide (b8.2=b5.2)))
 (some false)
 (bindO (laws_toStore_d_r a0) fun(b10:T4)=>(bindO (laws_eqStore_r (b6.1,()) (b10.1,())) fun(b11:Bool)=>(cond (!b11)
 (some false)
 (bindO (laws_toKeyS_r a1) fun(b12:T14)=>(bindO (laws_eqKeyS_r b7 b12) fun(b13:Bool)=>(cond (!b13)
 (some false)
 (bindO (laws_markBlobS_d_r b6.1 (1:Int)) fun(b14:(T6×Int))=>(bindO (laws_markKeyS_r b7 b14.2) fun(b15:T11)=>(cond (decide (b15.2<(0:Int)))
 (some false)
 (bindO (laws_eqKeyS_r b8.1 b5.1) fun(b16:Bool)=>(cond (!b16)
 (some false)
 (cond (!(decide (b8.2=b5.2)))
 (some false)
 (bindO (laws_markKeyS_r b8.1 (1:Int)) fun(b17:T11)=>(bindO (laws_heldKeyS_r b17.1 (1:Int)) fun(b18:Int)=>(cond (decide (b18<(0:Int)))
 (some false)
 (cond (!(decide (b18=b17.2)))
 (some false)
 (bindO (laws_toStore_d_r a0) fun(b19:T4)=>(bindO (laws_toKeyS_r a1) fun(b20:T14)=>(bindO (impl_WantsOf_r (b19.1,()) b20 a2) fun(b21:T11)=>(bindO (laws_eqKeyS_r b21.1 b5.1) fun(b22:Bool)=>(cond (!b22)
 (some false)
 (cond (!(decide (b21.2=b5.2)))
 (some false)
 (bindO (laws_heldKeyS_r b17.1 (1:Int)) fun(b23:Int)=>(cond (decide (b23<(0:Int)))
 (some false)
 (cond (!(decide (b23=b17.2)))
 (some false)
 (some true)))))))))))))))))))))))))))))))))))))))
theorem laws_FnExactWantsOf_d_run(a0:T4)(a1:T14)(a2:Int):fnK (laws_FnExactWantsOf_d_cx FUEL) 8 5 laws_FnExactWantsOf_i laws_FnExactWantsOf_d_sh [.pv K4 a0,.pv K17 a1,.pv (.int .i64) a2]=laws_FnExactWantsOf_d_r a0 a1 a2:=by kernel_rfl

def laws_FnExactWantsOf_d_con:Con:={ps:=(.pair K4 K7),sh:=laws_FnExactWantsOf_d_sh,raw:=fun x=>laws_FnExactWantsOf_d_r x.1 x.2.1 x.2.2.1}
theorem laws_FnExactWantsOf_d_conOk:ConOk Tryz.prog 5 laws_FnExactWantsOf_d_con:=con_of_fn (laws_FnExactWantsOf_d_tabs FUEL) (depth:=8) laws_FnExactWantsOf_ok fun x y h=>(laws_FnExactWantsOf_d_run x.1 x.2.1 x.2.2.1).trans h

end
end Go.Ai.G
