/- Printed: plain functions,and that the Go functions do what they say. No conditions. -/
import Derived.Test.YtkpacjofafjonabGreatExactFetchAllFn0
namespace Go.Ai.G
noncomputable section
open Go.Proofs
open Go.Ai
set_option linter.unusedVariables false
set_option linter.unusedSimpArgs false
set_option maxRecDepth 100000
def a5h:Cut:={keep:=[0,4,5],stk:=[[2,3,4,5,12,13,15,16]],ids:=[70,120,130,260,100080,180000,180010,180020,180030],own:=[],outs:=[(0,[2,3],[120,130,260,100080,180000,180010,180020,180030]),(1,[4],[120,130,260,100080,180000,180010,180020,180030])],fown:=[(100080,[.fld 0],180000,24),(100080,[.fld 1],180010,43),(260,[.fld 0],180020,24),(260,[.fld 1],180030,43)]}
def a9K:Cut:={keep:=[0,4,5],stk:=[[2,3,4,5,7,12,13]],ids:=[60,70,120,130,100080,180000,180010],own:=[],outs:=[(0,[2,3],[70,120,130,100080,180000,180010]),(1,[4],[70,120,130,100080,180000,180010])],fown:=[(100080,[.fld 0],180000,24),(100080,[.fld 1],180010,43)]}
def a0K:Cut:={keep:=[2,3,4,5,12,13,15,17,19,20],stk:=[],ids:=[120,130,190,200,260,300,301,302,80000,80010],own:=[],outs:=[(0,[12,13,14],[120,130,710])],fown:=[(260,[.fld 0],80000,24),(260,[.fld 1],80010,43)],fix:=[301,302,300]}
def Z2:Cut:={keep:=[0,1,2,9,10,11],stk:=[[2,3,4,5,12,13,15,17,19,20]],ids:=[120,130,190,200,260,850,180000,180010],own:=[],outs:=[(1,[9,10],[120,130,190,200,260,180000,180010]),(0,[6,7,8],[120,130,190,200,260,180000,180010])],fown:=[(260,[.fld 0],180000,24),(260,[.fld 1],180010,43)]}
def a9M:Cut:={keep:=[0,3,4,6,7],stk:=[[0,1,2,9,10,11,13],[2,3,4,5,12,13,15,17,19,20]],ids:=[120,130,190,200,260,850,180000,180010,200030,200040,200060],own:=[],outs:=[(1,[0,3,4,6,7],[120,130,190,200,260,850,180000,180010,200030,200040,200060])]}
def B0(k:Nat):Cx:=y7 [(40,a9s),(42,c7P),(64,c3C)] [(41,c7O),(44,c7Q),(57,c0F),(59,b8n),(62,c0K),(63,c7U),(65,c7V),(91,c8f),(106,b0m),(107,b0n)] [] [] [(2500300040,[(0,a5h)]),(2500260040,[(0,a9K)]),(25,[(0,a0K)]),(2500860064,[(0,Z2)]),(250086006400400042,[(0,a9M)])] k [] false
theorem d2H(k:Nat):A9E D8 (B0 k):=C4 ⟨c9P,c9Q,b8l,c3x,b8q,c9Y,c9Z,d0s,a9w,a9x,C5⟩ C5 C5 ⟨d8v,d8x,d8O,C5⟩
abbrev C3:List Sh:=[.pr (.tre 29 (.pr (.pl (.int .u8)) (.pr (.sl 5 (.pl (.int .u8))) (.pl .unit)))) (.pl .unit),.pl K9,.pl (.int .i64)]
abbrev Q71:Type:=Option (A2K C3)
def b0s(a0:T4)(a1:T4)(a2:B5)(a3:Int)(a4:Int)(a5:Int)(x5:Int)(A0:T6)(A4:B5)(I4:Bool)(D3:T6)(D4:B5):St:={env:=(.ptr 70 K4 []::(dd 3 (.ptr 100080 K0 []:: .pv E8 x5::(dd 78 [])))),stk:=[(.dead:: .dead:: .pv K22 a2:: .pv E8 a3:: .pv E8 a4:: .pv E8 a5::(dd 6 (.ptr 120 K4 []:: .ptr 130 K9 []:: .dead:: .ptr 260 K0 []:: .pv .bool I4::(dd 98 []))))],heap:=[(60,.var K4 (.pv K4 a0)),(70,.var K4 (.pv K4 a1)),(120,.var K4 (.pr (.nilsl) (.pv .unit ()))),(130,.var K9 (.pv K9 ((0:Int),((0:Int),((0:Int),()))))),(260,.var K0 (.pr (.sl 180020 o4) (.pr (.sl 180030 D9) (.pv .unit ())))),(100080,.var K0 (.pr (.sl 180000 o4) (.pr (.sl 180010 D9) (.pv .unit ())))),(180000,.arr 29 o4 A0),(180010,.arr 32 D9 A4),(180020,.arr 29 o4 D3),(180030,.arr 32 D9 D4)]}
def b0r(a0:T4)(a1:T4)(a2:B5)(a3:Int)(a4:Int)(a5:Int)(A0:T6)(A4:B5)(I4:Bool)(D3:T6)(D4:B5):St:={env:=(.dead:: .dead:: .ptr 100080 K0 []:: .pv .bool false::(dd 80 [])),stk:=[(.dead:: .dead:: .pv K22 a2:: .pv E8 a3:: .pv E8 a4:: .pv E8 a5::(dd 6 (.ptr 120 K4 []:: .ptr 130 K9 []:: .dead:: .ptr 260 K0 []:: .pv .bool I4::(dd 98 []))))],heap:=[(60,.var K4 (.pv K4 a0)),(70,.var K4 (.pv K4 a1)),(120,.var K4 (.pr (.nilsl) (.pv .unit ()))),(130,.var K9 (.pv K9 ((0:Int),((0:Int),((0:Int),()))))),(260,.var K0 (.pr (.sl 180020 o4) (.pr (.sl 180030 D9) (.pv .unit ())))),(100080,.var K0 (.pr (.sl 180000 o4) (.pr (.sl 180010 D9) (.pv .unit ())))),(180000,.arr 29 o4 A0),(180010,.arr 32 D9 A4),(180020,.arr 29 o4 D3),(180030,.arr 32 D9 D4)]}
def a8R(a0:T4)(a1:T4)(a2:B5)(a3:Int)(a4:Int)(a5:Int)(A0:T6)(A4:B5)(I4:Bool)(D3:T6)(D4:B5):St:={env:=(dd 4 (.ptr 100080 K0 []::(dd 79 []))),stk:=[(.dead:: .dead:: .pv K22 a2:: .pv E8 a3:: .pv E8 a4:: .pv E8 a5::(dd 6 (.ptr 120 K4 []:: .ptr 130 K9 []:: .dead:: .ptr 260 K0 []:: .pv .bool I4::(dd 98 []))))],heap:=[(60,.var K4 (.pv K4 a0)),(70,.var K4 (.pv K4 a1)),(120,.var K4 (.pr (.nilsl) (.pv .unit ()))),(130,.var K9 (.pv K9 ((0:Int),((0:Int),((0:Int),()))))),(260,.var K0 (.pr (.sl 180020 o4) (.pr (.sl 180030 D9) (.pv .unit ())))),(100080,.var K0 (.pr (.sl 180000 o4) (.pr (.sl 180010 D9) (.pv .unit ())))),(180000,.arr 29 o4 A0),(180010,.arr 32 D9 A4),(180020,.arr 29 o4 D3),(180030,.arr 32 D9 D4)]}
def c2T(a0:T4)(a1:T4)(a2:B5)(a3:Int)(a4:Int)(a5:Int)(x5:Int)(A0:T6)(A4:B5):St:={env:=(.ptr 60 K4 []::(dd 3 (.ptr 100080 K0 []:: .pv E8 x5::(dd 78 [])))),stk:=[(.dead:: .dead:: .pv K22 a2:: .pv E8 a3:: .pv E8 a4:: .pv E8 a5:: .dead:: .ptr 70 K4 []::(dd 4 (.ptr 120 K4 []:: .ptr 130 K9 []::(dd 101 []))))],heap:=[(60,.var K4 (.pv K4 a0)),(70,.var K4 (.pv K4 a1)),(120,.var K4 (.pr (.nilsl) (.pv .unit ()))),(130,.var K9 (.pv K9 ((0:Int),((0:Int),((0:Int),()))))),(100080,.var K0 (.pr (.sl 180000 o4) (.pr (.sl 180010 D9) (.pv .unit ())))),(180000,.arr 29 o4 A0),(180010,.arr 32 D9 A4)]}
def b0t(a0:T4)(a1:T4)(a2:B5)(a3:Int)(a4:Int)(a5:Int)(A0:T6)(A4:B5):St:={env:=(.dead:: .dead:: .ptr 100080 K0 []:: .pv .bool false::(dd 80 [])),stk:=[(.dead:: .dead:: .pv K22 a2:: .pv E8 a3:: .pv E8 a4:: .pv E8 a5:: .dead:: .ptr 70 K4 []::(dd 4 (.ptr 120 K4 []:: .ptr 130 K9 []::(dd 101 []))))],heap:=[(60,.var K4 (.pv K4 a0)),(70,.var K4 (.pv K4 a1)),(120,.var K4 (.pr (.nilsl) (.pv .unit ()))),(130,.var K9 (.pv K9 ((0:Int),((0:Int),((0:Int),()))))),(100080,.var K0 (.pr (.sl 180000 o4) (.pr (.sl 180010 D9) (.pv .unit ())))),(180000,.arr 29 o4 A0),(180010,.arr 32 D9 A4)]}
def a8S(a0:T4)(a1:T4)(a2:B5)(a3:Int)(a4:Int)(a5:Int)(A0:T6)(A4:B5):St:={env:=(dd 4 (.ptr 100080 K0 []::(dd 79 []))),stk:=[(.dead:: .dead:: .pv K22 a2:: .pv E8 a3:: .pv E8 a4:: .pv E8 a5:: .dead:: .ptr 70 K4 []::(dd 4 (.ptr 120 K4 []:: .ptr 130 K9 []::(dd 101 []))))],heap:=[(60,.var K4 (.pv K4 a0)),(70,.var K4 (.pv K4 a1)),(120,.var K4 (.pr (.nilsl) (.pv .unit ()))),(130,.var K9 (.pv K9 ((0:Int),((0:Int),((0:Int),()))))),(100080,.var K0 (.pr (.sl 180000 o4) (.pr (.sl 180010 D9) (.pv .unit ())))),(180000,.arr 29 o4 A0),(180010,.arr 32 D9 A4)]}
def b0u(a2:B5)(a3:Int)(a4:Int)(a5:Int)(R5:T1)(O8:T6)(a2t:B5)(H3:T8):St:={env:=(.dead:: .dead:: .pv K22 a2:: .pv E8 a3:: .pv E8 a4:: .pv E8 a5::(dd 6 (.ptr 120 K4 []:: .ptr 130 K9 []:: .dead:: .ptr 260 K0 []:: .dead:: .pv (.ref K0) R5:: .dead:: .ptr 190 K4 []:: .ptr 200 K9 []::(dd 94 [])))),stk:=[],heap:=[(120,.var K4 (.pr (.nilsl) (.pv .unit ()))),(130,.var K9 (.pv K9 ((0:Int),((0:Int),((0:Int),()))))),(190,.var K4 (.pr (.nilsl) (.pv .unit ()))),(200,.var K9 (.pv K9 H3)),(260,.var K0 (.pr (.sl 80000 o4) (.pr (.sl 80010 D9) (.pv .unit ())))),(80000,.arr 29 o4 O8),(80010,.arr 32 D9 a2t)]}
def b3I(a4g:T8)(a7t:T6):St:={env:=(dd 12 (.ptr 120 K4 []:: .ptr 130 K9 []:: .pv E8 (0:Int)::(dd 100 []))),stk:=[],heap:=[(120,.var K4 (.pr (.inn 710 [] o4) (.pv .unit ()))),(130,.var K9 (.pv K9 a4g)),(710,.tre 29 (.pr (.pl (.int .u8)) (.pr (.sl 5 (.pl (.int .u8))) (.pl .unit))) a7t)]}
def W3(x14:Int):St:={env:=(dd 12 (.ptr 120 K4 []:: .ptr 130 K9 []:: .pv E8 x14::(dd 100 []))),stk:=[],heap:=[(120,.var K4 (.pr (.nilsl) (.pv .unit ()))),(130,.var K9 (.pv K9 ((0:Int),((0:Int),((0:Int),())))))]}
def a3S(a2:B5)(a3:Int)(a4:Int)(a5:Int)(R5:T1)(H3:T8)(x1:B5)(F3:T6)(x9:Int)(E4:Int)(M9:Int)(A0:T6)(A4:B5):St:={env:=(.ptr 260 K0 []:: .pv K22 x1:: .sl 850 o4::(dd 6 (.pv E8 x9:: .pv E8 E4:: .pv E8 M9::(dd 47 [])))),stk:=[(.dead:: .dead:: .pv K22 a2:: .pv E8 a3:: .pv E8 a4:: .pv E8 a5::(dd 6 (.ptr 120 K4 []:: .ptr 130 K9 []:: .dead:: .ptr 260 K0 []:: .dead:: .pv (.ref K0) R5:: .dead:: .ptr 190 K4 []:: .ptr 200 K9 []::(dd 94 []))))],heap:=[(120,.var K4 (.pr (.nilsl) (.pv .unit ()))),(130,.var K9 (.pv K9 ((0:Int),((0:Int),((0:Int),()))))),(190,.var K4 (.pr (.nilsl) (.pv .unit ()))),(200,.var K9 (.pv K9 H3)),(260,.var K0 (.pr (.sl 180000 o4) (.pr (.sl 180010 D9) (.pv .unit ())))),(850,.arr 29 o4 F3),(180000,.arr 29 o4 A0),(180010,.arr 32 D9 A4)]}
def b2a(a2:B5)(a3:Int)(a4:Int)(a5:Int)(R5:T1)(H3:T8)(F3:T6)(x9:Int)(E4:Int)(A0:T6)(A4:B5):St:={env:=(dd 9 (.pv E8 x9:: .pv E8 E4::(dd 48 []))),stk:=[(.dead:: .dead:: .pv K22 a2:: .pv E8 a3:: .pv E8 a4:: .pv E8 a5::(dd 6 (.ptr 120 K4 []:: .ptr 130 K9 []:: .dead:: .ptr 260 K0 []:: .dead:: .pv (.ref K0) R5:: .dead:: .ptr 190 K4 []:: .ptr 200 K9 []::(dd 94 []))))],heap:=[(120,.var K4 (.pr (.nilsl) (.pv .unit ()))),(130,.var K9 (.pv K9 ((0:Int),((0:Int),((0:Int),()))))),(190,.var K4 (.pr (.nilsl) (.pv .unit ()))),(200,.var K9 (.pv K9 H3)),(260,.var K0 (.pr (.sl 180000 o4) (.pr (.sl 180010 D9) (.pv .unit ())))),(850,.arr 29 o4 F3),(180000,.arr 29 o4 A0),(180010,.arr 32 D9 A4)]}
def a8t(a2:B5)(a3:Int)(a4:Int)(a5:Int)(R5:T1)(H3:T8)(F3:T6)(A0:T6)(A4:B5)(x8:Int):St:={env:=(dd 6 (.pv E8 (0:Int):: .pv E8 (0:Int):: .pv E8 x8::(dd 50 []))),stk:=[(.dead:: .dead:: .pv K22 a2:: .pv E8 a3:: .pv E8 a4:: .pv E8 a5::(dd 6 (.ptr 120 K4 []:: .ptr 130 K9 []:: .dead:: .ptr 260 K0 []:: .dead:: .pv (.ref K0) R5:: .dead:: .ptr 190 K4 []:: .ptr 200 K9 []::(dd 94 []))))],heap:=[(120,.var K4 (.pr (.nilsl) (.pv .unit ()))),(130,.var K9 (.pv K9 ((0:Int),((0:Int),((0:Int),()))))),(190,.var K4 (.pr (.nilsl) (.pv .unit ()))),(200,.var K9 (.pv K9 H3)),(260,.var K0 (.pr (.sl 180000 o4) (.pr (.sl 180010 D9) (.pv .unit ())))),(850,.arr 29 o4 F3),(180000,.arr 29 o4 A0),(180010,.arr 32 D9 A4)]}
def c2Y(a2:B5)(a3:Int)(a4:Int)(a5:Int)(R5:T1)(H3:T8)(x1:B5)(F3:T6)(x9:Int)(E4:Int)(M9:Int)(A0:T6)(A4:B5)(l6:Bool)(N1:A7)(F0:A7)(x7:Int):St:={env:=(.ptr 260 K0 []:: .dead:: .dead:: .ptr 200030 o4 []:: .ptr 200040 D9 []:: .dead:: .ptr 200060 D9 []:: .pv E8 x7::(dd 104 [])),stk:=[(.ptr 260 K0 []:: .pv K22 x1:: .sl 850 o4::(dd 6 (.pv E8 x9:: .pv E8 E4:: .pv E8 M9:: .dead:: .pv .bool l6::(dd 45 [])))),(.dead:: .dead:: .pv K22 a2:: .pv E8 a3:: .pv E8 a4:: .pv E8 a5::(dd 6 (.ptr 120 K4 []:: .ptr 130 K9 []:: .dead:: .ptr 260 K0 []:: .dead:: .pv (.ref K0) R5:: .dead:: .ptr 190 K4 []:: .ptr 200 K9 []::(dd 94 []))))],heap:=[(120,.var K4 (.pr (.nilsl) (.pv .unit ()))),(130,.var K9 (.pv K9 ((0:Int),((0:Int),((0:Int),()))))),(190,.var K4 (.pr (.nilsl) (.pv .unit ()))),(200,.var K9 (.pv K9 H3)),(260,.var K0 (.pr (.sl 180000 o4) (.pr (.sl 180010 D9) (.pv .unit ())))),(850,.arr 29 o4 F3),(100120,.var D9 (.pv D9 N1)),(180000,.arr 29 o4 A0),(180010,.arr 32 D9 A4),(200030,.var o4 (.pv o4 (F3.getD (M9.toNat) ((0:Int),([],()))))),(200040,.var D9 (.pv D9 (List.replicate 32 (0:Int)))),(200060,.var D9 (.pv D9 F0))]}
def a8T(a2:B5)(a3:Int)(a4:Int)(a5:Int)(R5:T1)(H3:T8)(x1:B5)(F3:T6)(x9:Int)(E4:Int)(M9:Int)(A0:T6)(A4:B5)(l6:Bool)(N1:A7)(F0:A7)(x7:Int):St:={env:=(.ptr 260 K0 []:: .dead:: .dead:: .ptr 200030 o4 []:: .ptr 200040 D9 []:: .dead:: .ptr 200060 D9 []:: .pv E8 x7::(dd 104 [])),stk:=[(.ptr 260 K0 []:: .pv K22 x1:: .sl 850 o4::(dd 6 (.pv E8 x9:: .pv E8 E4:: .pv E8 M9:: .dead:: .pv .bool l6::(dd 45 [])))),(.dead:: .dead:: .pv K22 a2:: .pv E8 a3:: .pv E8 a4:: .pv E8 a5::(dd 6 (.ptr 120 K4 []:: .ptr 130 K9 []:: .dead:: .ptr 260 K0 []:: .dead:: .pv (.ref K0) R5:: .dead:: .ptr 190 K4 []:: .ptr 200 K9 []::(dd 94 []))))],heap:=[(120,.var K4 (.pr (.nilsl) (.pv .unit ()))),(130,.var K9 (.pv K9 ((0:Int),((0:Int),((0:Int),()))))),(190,.var K4 (.pr (.nilsl) (.pv .unit ()))),(200,.var K9 (.pv K9 H3)),(260,.var K0 (.pr (.sl 180000 o4) (.pr (.sl 180010 D9) (.pv .unit ())))),(850,.arr 29 o4 F3),(100120,.var D9 (.pv D9 N1)),(180000,.arr 29 o4 A0),(180010,.arr 32 D9 A4),(200030,.var o4 (.pv o4 (F3.getD (M9.toNat) ((0:Int),([],()))))),(200040,.var D9 (.pv D9 (List.replicate 32 (0:Int)))),(200060,.var D9 (.pv D9 F0))]}
def X8(rec:Bool→A7→A7→Int→Q71)(ke0:Bool→A7→A7→Int→Q71)(a2:B5)(a3:Int)(a4:Int)(a5:Int)(R5:T1)(H3:T8)(x1:B5)(F3:T6)(x9:Int)(E4:Int)(M9:Int)(A0:T6)(A4:B5)(l6:Bool)(N1:A7)(F0:A7)(x7:Int):Q71:=
 (cond (decide (x7<(A4.length:Int)))
 (cond ((decide ((0:Int)≤x7))&&(decide (x7<(A4.length:Int))))
 (A1w (R0 (A4.getD (x7.toNat) (List.replicate 32 (0:Int))) F0) fun(b44:Int)=>(cond (decide (b44<(0:Int)))
 (rec l6 N1 F0 (IntKind.wrap .i64 (x7+(1:Int))))
 (ke0 l6 N1 F0 x7)))
 none)
 (ke0 l6 N1 F0 x7))
def r9(ke0:Bool→A7→A7→Int→Q71)(a2:B5)(a3:Int)(a4:Int)(a5:Int)(R5:T1)(H3:T8)(x1:B5)(F3:T6)(x9:Int)(E4:Int)(M9:Int)(A0:T6)(A4:B5):Nat→Bool→A7→A7→Int→Q71
 |0=>fun _ _ _ _=>none
 |n+1=>X8 (r9 ke0 a2 a3 a4 a5 R5 H3 x1 F3 x9 E4 M9 A0 A4 n) ke0 a2 a3 a4 a5 R5 H3 x1 F3 x9 E4 M9 A0 A4
def a0V(rec:B5→T6→Int→Int→Int→T6→B5→Q71)(ke0:T6→Int→Int→T6→B5→Q71)(kr:T6→T6→B5→Int→Q71)(a2:B5)(a3:Int)(a4:Int)(a5:Int)(R5:T1)(H3:T8)(x1:B5)(F3:T6)(x9:Int)(E4:Int)(M9:Int)(A0:T6)(A4:B5):Q71:=
 (cond (decide (M9<(F3.length:Int)))
 (cond ((decide ((0:Int)≤M9))&&(decide (M9<(F3.length:Int))))
 (A1w (W8 (F3.getD (M9.toNat) ((0:Int),([],())))) fun(b39:A7)=>(A1w (w7 x1 b39) fun(b40:Bool)=>(cond (!b40)
 (rec x1 F3 x9 E4 (IntKind.wrap .i64 (M9+(1:Int))) A0 A4)
 (A1w (N9 (A0,(A4,())) b39) fun(b41:Int)=>(cond ((decide ((0:Int)≤M9))&&(decide (M9<(F3.length:Int))))
 (A1w (W8 (F3.getD (M9.toNat) ((0:Int),([],())))) fun(b42:A7)=>(r9 (fun l6 N1 F0 x7=>(cond (decide (x7<(A4.length:Int)))
 (cond ((decide ((0:Int)≤x7))&&(decide (x7<(A4.length:Int))))
 (cond (eqd (.arr 32 k0B) (A4.getD (x7.toNat) (List.replicate 32 (0:Int))) F0)
 (cond ((decide ((0:Int)≤x7))&&(decide (x7<(A0.length:Int))))
 (A1w (u9 (A0.getD (x7.toNat) ((0:Int),([],()))) (F3.getD (M9.toNat) ((0:Int),([],())))) fun(b45:Bool)=>(cond (!b45)
 (kr F3 A0 A4 (8:Int))
 (cond l6
 (cond ((decide ((0:Int)≤M9))&&(decide (M9<(F3.length:Int))))
 (rec x1 F3 (IntKind.wrap .i64 (x9+(1:Int))) (IntKind.wrap .i64 (E4+((((F3.getD (M9.toNat) ((0:Int),([],()))).2).1).length:Int))) (IntKind.wrap .i64 (M9+(1:Int))) A0 A4)
 none)
 (rec x1 F3 x9 E4 (IntKind.wrap .i64 (M9+(1:Int))) A0 A4))))
 none)
 (cond (decide ((128:Int)≤(A4.length:Int)))
 (kr F3 A0 A4 (3:Int))
 (cond ((decide ((0:Int)≤x7))&&(decide (x7≤(A0.length:Int))))
 (cond (decide ((1+(A3F A0 (x7.toNat) (A0.length)).length)*32≤140737488355328)&&decide (1+(A3F A0 (x7.toNat) (A0.length)).length≤9223372036854775807))
 (cond ((decide ((0:Int)≤x7))&&(decide (x7≤(A0.length:Int))))
 (cond (decide ((0+(A3F A0 0 (x7.toNat)).length)*32≤140737488355328)&&decide (0+(A3F A0 0 (x7.toNat)).length≤9223372036854775807))
 (cond (decide ((([]++(A3F A0 0 (x7.toNat))).length+([(F3.getD (M9.toNat) ((0:Int),([],())))]++(A3F A0 (x7.toNat) (A0.length))).length)*32≤140737488355328)&&decide (([]++(A3F A0 0 (x7.toNat))).length+([(F3.getD (M9.toNat) ((0:Int),([],())))]++(A3F A0 (x7.toNat) (A0.length))).length≤9223372036854775807))
 (cond ((decide ((0:Int)≤x7))&&(decide (x7≤(A4.length:Int))))
 (cond (decide ((1+(A3F A4 (x7.toNat) (A4.length)).length)*32≤140737488355328)&&decide (1+(A3F A4 (x7.toNat) (A4.length)).length≤9223372036854775807))
 (cond ((decide ((0:Int)≤x7))&&(decide (x7≤(A4.length:Int))))
 (cond (decide ((0+(A3F A4 0 (x7.toNat)).length)*32≤140737488355328)&&decide (0+(A3F A4 0 (x7.toNat)).length≤9223372036854775807))
 (cond (decide ((([]++(A3F A4 0 (x7.toNat))).length+([F0]++(A3F A4 (x7.toNat) (A4.length))).length)*32≤140737488355328)&&decide (([]++(A3F A4 0 (x7.toNat))).length+([F0]++(A3F A4 (x7.toNat) (A4.length))).length≤9223372036854775807))
 (cond l6
 (cond ((decide ((0:Int)≤M9))&&(decide (M9<(F3.length:Int))))
 (rec x1 F3 (IntKind.wrap .i64 (x9+(1:Int))) (IntKind.wrap .i64 (E4+((((F3.getD (M9.toNat) ((0:Int),([],()))).2).1).length:Int))) (IntKind.wrap .i64 (M9+(1:Int))) (([]++(A3F A0 0 (x7.toNat)))++([(F3.getD (M9.toNat) ((0:Int),([],())))]++(A3F A0 (x7.toNat) (A0.length)))) (([]++(A3F A4 0 (x7.toNat)))++([F0]++(A3F A4 (x7.toNat) (A4.length)))))
 none)
 (rec x1 F3 x9 E4 (IntKind.wrap .i64 (M9+(1:Int))) (([]++(A3F A0 0 (x7.toNat)))++([(F3.getD (M9.toNat) ((0:Int),([],())))]++(A3F A0 (x7.toNat) (A0.length)))) (([]++(A3F A4 0 (x7.toNat)))++([F0]++(A3F A4 (x7.toNat) (A4.length))))))
 none)
 none)
 none)
 none)
 none)
 none)
 none)
 none)
 none)
 none)))
 none)
 (cond (decide ((128:Int)≤(A4.length:Int)))
 (kr F3 A0 A4 (3:Int))
 (cond ((decide ((0:Int)≤x7))&&(decide (x7≤(A0.length:Int))))
 (cond (decide ((1+(A3F A0 (x7.toNat) (A0.length)).length)*32≤140737488355328)&&decide (1+(A3F A0 (x7.toNat) (A0.length)).length≤9223372036854775807))
 (cond ((decide ((0:Int)≤x7))&&(decide (x7≤(A0.length:Int))))
 (cond (decide ((0+(A3F A0 0 (x7.toNat)).length)*32≤140737488355328)&&decide (0+(A3F A0 0 (x7.toNat)).length≤9223372036854775807))
 (cond (decide ((([]++(A3F A0 0 (x7.toNat))).length+([(F3.getD (M9.toNat) ((0:Int),([],())))]++(A3F A0 (x7.toNat) (A0.length))).length)*32≤140737488355328)&&decide (([]++(A3F A0 0 (x7.toNat))).length+([(F3.getD (M9.toNat) ((0:Int),([],())))]++(A3F A0 (x7.toNat) (A0.length))).length≤9223372036854775807))
 (cond ((decide ((0:Int)≤x7))&&(decide (x7≤(A4.length:Int))))
 (cond (decide ((1+(A3F A4 (x7.toNat) (A4.length)).length)*32≤140737488355328)&&decide (1+(A3F A4 (x7.toNat) (A4.length)).length≤9223372036854775807))
 (cond ((decide ((0:Int)≤x7))&&(decide (x7≤(A4.length:Int))))
 (cond (decide ((0+(A3F A4 0 (x7.toNat)).length)*32≤140737488355328)&&decide (0+(A3F A4 0 (x7.toNat)).length≤9223372036854775807))
 (cond (decide ((([]++(A3F A4 0 (x7.toNat))).length+([F0]++(A3F A4 (x7.toNat) (A4.length))).length)*32≤140737488355328)&&decide (([]++(A3F A4 0 (x7.toNat))).length+([F0]++(A3F A4 (x7.toNat) (A4.length))).length≤9223372036854775807))
 (cond l6
 (cond ((decide ((0:Int)≤M9))&&(decide (M9<(F3.length:Int))))
 (rec x1 F3 (IntKind.wrap .i64 (x9+(1:Int))) (IntKind.wrap .i64 (E4+((((F3.getD (M9.toNat) ((0:Int),([],()))).2).1).length:Int))) (IntKind.wrap .i64 (M9+(1:Int))) (([]++(A3F A0 0 (x7.toNat)))++([(F3.getD (M9.toNat) ((0:Int),([],())))]++(A3F A0 (x7.toNat) (A0.length)))) (([]++(A3F A4 0 (x7.toNat)))++([F0]++(A3F A4 (x7.toNat) (A4.length)))))
 none)
 (rec x1 F3 x9 E4 (IntKind.wrap .i64 (M9+(1:Int))) (([]++(A3F A0 0 (x7.toNat)))++([(F3.getD (M9.toNat) ((0:Int),([],())))]++(A3F A0 (x7.toNat) (A0.length)))) (([]++(A3F A4 0 (x7.toNat)))++([F0]++(A3F A4 (x7.toNat) (A4.length))))))
 none)
 none)
 none)
 none)
 none)
 none)
 none)
 none)
 none)
 none)))) a2 a3 a4 a5 R5 H3 x1 F3 x9 E4 M9 A0 A4 FUEL (decide (b41<(0:Int))) b39 b42 (0:Int)))
 none)))))
 none)
 (ke0 F3 x9 E4 A0 A4))
def S7(ke0:T6→Int→Int→T6→B5→Q71)(kr:T6→T6→B5→Int→Q71)(a2:B5)(a3:Int)(a4:Int)(a5:Int)(R5:T1)(H3:T8):Nat→B5→T6→Int→Int→Int→T6→B5→Q71
 |0=>fun _ _ _ _ _ _ _=>none
 |n+1=>a0V (S7 ke0 kr a2 a3 a4 a5 R5 H3 n) ke0 kr a2 a3 a4 a5 R5 H3
def a3K(rec:T1→T6→B5→T8→Q71)(kr:T8→T6→Q71)(kr_v1:Int→Q71)(a2:B5)(a3:Int)(a4:Int)(a5:Int)(R5:T1)(O8:T6)(a2t:B5)(H3:T8):Q71:=
 (A1w (a1o (O8,(a2t,())) a2 a3) fun(b29:B5)=>(cond (decide ((b29.length:Int)=(0:Int)))
 (A1w (R4 (O8,(a2t,()))) fun(b30:T4)=>(kr H3 b30.1))
 (cond (decide (H3.1=a5))
 (kr_v1 (7:Int))
 (A1w (a0I R5 b29 a4) fun(b31:T6)=>(S7 (fun F3 x9 E4 A0 A4=>(cond (decide (x9=(0:Int)))
 (kr_v1 (6:Int))
 (rec R5 A0 A4 ((IntKind.wrap .i64 (H3.1+(1:Int))),((IntKind.wrap .i64 (H3.2.1+x9)),((IntKind.wrap .i64 (H3.2.2.1+E4)),H3.2.2.2)))))) (fun F3 A0 A4 x8=>(cond (decide (x8=(0:Int)))
 (kr_v1 (6:Int))
 (cond (!(decide (x8=(0:Int))))
 (kr_v1 x8)
 (rec R5 A0 A4 ((IntKind.wrap .i64 (H3.1+(1:Int))),((IntKind.wrap .i64 (H3.2.1+(0:Int))),((IntKind.wrap .i64 (H3.2.2.1+(0:Int))),H3.2.2.2))))))) a2 a3 a4 a5 R5 H3 FUEL b29 b31 (0:Int) (0:Int) (0:Int) O8 a2t)))))
def I3(kr:T8→T6→Q71)(kr_v1:Int→Q71)(a2:B5)(a3:Int)(a4:Int)(a5:Int):Nat→T1→T6→B5→T8→Q71
 |0=>fun _ _ _ _=>none
 |n+1=>a3K (I3 kr kr_v1 a2 a3 a4 a5 n) kr kr_v1 a2 a3 a4 a5
def a3J(rec:Int→T6→B5→Q71)(kr:T6→B5→Q71)(ke0:T6→B5→Q71)(a0:T4)(a1:T4)(a2:B5)(a3:Int)(a4:Int)(a5:Int)(x5:Int)(A0:T6)(A4:B5):Q71:=
 (cond (decide (x5<(a0.1.length:Int)))
 (cond ((decide ((0:Int)≤x5))&&(decide (x5<(a0.1.length:Int))))
 (A1w (a1V (a0.1.getD (x5.toNat) ((0:Int),([],())))) fun(b9:Bool)=>(cond (!b9)
 (kr A0 A4)
 (cond ((decide ((0:Int)≤x5))&&(decide (x5<(a0.1.length:Int))))
 (A1w (W8 (a0.1.getD (x5.toNat) ((0:Int),([],())))) fun(b10:A7)=>(cond (decide ((0:Int)<x5))
 (cond ((decide ((0:Int)≤(IntKind.wrap .i64 (x5-(1:Int)))))&&(decide ((IntKind.wrap .i64 (x5-(1:Int)))<(A4.length:Int))))
 (A1w (R0 (A4.getD ((IntKind.wrap .i64 (x5-(1:Int))).toNat) (List.replicate 32 (0:Int))) b10) fun(b11:Int)=>(cond (decide ((0:Int)≤b11))
 (kr A0 A4)
 (cond ((decide ((0:Int)≤x5))&&(decide (x5<(a0.1.length:Int))))
 (cond (decide ((A0.length+1)*32≤140737488355328)&&decide (A0.length+1≤9223372036854775807))
 (cond (decide ((A4.length+1)*32≤140737488355328)&&decide (A4.length+1≤9223372036854775807))
 (rec (IntKind.wrap .i64 (x5+(1:Int))) (A0++[(a0.1.getD (x5.toNat) ((0:Int),([],())))]) (A4++[b10]))
 none)
 none)
 none)))
 none)
 (cond ((decide ((0:Int)≤x5))&&(decide (x5<(a0.1.length:Int))))
 (cond (decide ((A0.length+1)*32≤140737488355328)&&decide (A0.length+1≤9223372036854775807))
 (cond (decide ((A4.length+1)*32≤140737488355328)&&decide (A4.length+1≤9223372036854775807))
 (rec (IntKind.wrap .i64 (x5+(1:Int))) (A0++[(a0.1.getD (x5.toNat) ((0:Int),([],())))]) (A4++[b10]))
 none)
 none)
 none)))
 none)))
 none)
 (ke0 A0 A4))
def S6(kr:T6→B5→Q71)(ke0:T6→B5→Q71)(a0:T4)(a1:T4)(a2:B5)(a3:Int)(a4:Int)(a5:Int):Nat→Int→T6→B5→Q71
 |0=>fun _ _ _=>none
 |n+1=>a3J (S6 kr ke0 a0 a1 a2 a3 a4 a5 n) kr ke0 a0 a1 a2 a3 a4 a5
def a3I(rec:Int→T6→B5→Bool→T6→B5→Q71)(kr:T6→B5→Bool→T6→B5→Q71)(ke0:T6→B5→Bool→T6→B5→Q71)(a0:T4)(a1:T4)(a2:B5)(a3:Int)(a4:Int)(a5:Int)(x5:Int)(A0:T6)(A4:B5)(I4:Bool)(D3:T6)(D4:B5):Q71:=
 (cond (decide (x5<(a1.1.length:Int)))
 (cond ((decide ((0:Int)≤x5))&&(decide (x5<(a1.1.length:Int))))
 (A1w (a1V (a1.1.getD (x5.toNat) ((0:Int),([],())))) fun(b1:Bool)=>(cond (!b1)
 (kr A0 A4 I4 D3 D4)
 (cond ((decide ((0:Int)≤x5))&&(decide (x5<(a1.1.length:Int))))
 (A1w (W8 (a1.1.getD (x5.toNat) ((0:Int),([],())))) fun(b2:A7)=>(cond (decide ((0:Int)<x5))
 (cond ((decide ((0:Int)≤(IntKind.wrap .i64 (x5-(1:Int)))))&&(decide ((IntKind.wrap .i64 (x5-(1:Int)))<(A4.length:Int))))
 (A1w (R0 (A4.getD ((IntKind.wrap .i64 (x5-(1:Int))).toNat) (List.replicate 32 (0:Int))) b2) fun(b3:Int)=>(cond (decide ((0:Int)≤b3))
 (kr A0 A4 I4 D3 D4)
 (cond ((decide ((0:Int)≤x5))&&(decide (x5<(a1.1.length:Int))))
 (cond (decide ((A0.length+1)*32≤140737488355328)&&decide (A0.length+1≤9223372036854775807))
 (cond (decide ((A4.length+1)*32≤140737488355328)&&decide (A4.length+1≤9223372036854775807))
 (rec (IntKind.wrap .i64 (x5+(1:Int))) (A0++[(a1.1.getD (x5.toNat) ((0:Int),([],())))]) (A4++[b2]) I4 D3 D4)
 none)
 none)
 none)))
 none)
 (cond ((decide ((0:Int)≤x5))&&(decide (x5<(a1.1.length:Int))))
 (cond (decide ((A0.length+1)*32≤140737488355328)&&decide (A0.length+1≤9223372036854775807))
 (cond (decide ((A4.length+1)*32≤140737488355328)&&decide (A4.length+1≤9223372036854775807))
 (rec (IntKind.wrap .i64 (x5+(1:Int))) (A0++[(a1.1.getD (x5.toNat) ((0:Int),([],())))]) (A4++[b2]) I4 D3 D4)
 none)
 none)
 none)))
 none)))
 none)
 (ke0 A0 A4 I4 D3 D4))
def H1(kr:T6→B5→Bool→T6→B5→Q71)(ke0:T6→B5→Bool→T6→B5→Q71)(a0:T4)(a1:T4)(a2:B5)(a3:Int)(a4:Int)(a5:Int):Nat→Int→T6→B5→Bool→T6→B5→Q71
 |0=>fun _ _ _ _ _ _=>none
 |n+1=>a3I (H1 kr ke0 a0 a1 a2 a3 a4 a5 n) kr ke0 a0 a1 a2 a3 a4 a5
def a2z(a0:T4)(a1:T4)(a2:B5)(a3:Int)(a4:Int)(a5:Int):Q71:=
 (cond (decide ((128:Int)<(a0.1.length:Int)))
 (cond (decide ((128:Int)<(a1.1.length:Int)))
 (some (([],()),(((0:Int),((0:Int),((0:Int),()))),(1:Int))))
 (H1 (fun A0 A4 I4 D3 D4=>(cond (!I4)
 (some (([],()),(((0:Int),((0:Int),((0:Int),()))),(1:Int))))
 (some (([],()),(((0:Int),((0:Int),((0:Int),()))),(1:Int)))))) (fun A0 A4 I4 D3 D4=>(cond (!I4)
 (some (([],()),(((0:Int),((0:Int),((0:Int),()))),(1:Int))))
 (cond (decide ((256:Int)<(a2.length:Int)))
 (some (([],()),(((0:Int),((0:Int),((0:Int),()))),(3:Int))))
 (A1w (M5 a3 (1:Int) (256:Int)) fun(b4:Bool)=>(cond (!b4)
 (some (([],()),(((0:Int),((0:Int),((0:Int),()))),(2:Int))))
 (A1w (M5 a4 (0:Int) (1000000:Int)) fun(b5:Bool)=>(cond (!b5)
 (some (([],()),(((0:Int),((0:Int),((0:Int),()))),(2:Int))))
 (A1w (M5 a5 (0:Int) (64:Int)) fun(b6:Bool)=>(cond (!b6)
 (some (([],()),(((0:Int),((0:Int),((0:Int),()))),(2:Int))))
 (I3 (fun a4g a7t=>(some ((a7t,()),(a4g,(0:Int))))) (fun x14=>(some (([],()),(((0:Int),((0:Int),((0:Int),()))),x14)))) a2 a3 a4 a5 FUEL (A0,(A4,())) D3 D4 ((0:Int),((0:Int),((0:Int),()))))))))))))) a0 a1 a2 a3 a4 a5 FUEL (0:Int) [] [] false [] []))
 (S6 (fun A0 A4=>(cond (decide ((128:Int)<(a1.1.length:Int)))
 (some (([],()),(((0:Int),((0:Int),((0:Int),()))),(1:Int))))
 (H1 (fun A0 A4 I4 D3 D4=>(cond (!I4)
 (some (([],()),(((0:Int),((0:Int),((0:Int),()))),(1:Int))))
 (some (([],()),(((0:Int),((0:Int),((0:Int),()))),(1:Int)))))) (fun A0 A4 I4 D3 D4=>(cond (!I4)
 (some (([],()),(((0:Int),((0:Int),((0:Int),()))),(1:Int))))
 (cond (decide ((256:Int)<(a2.length:Int)))
 (some (([],()),(((0:Int),((0:Int),((0:Int),()))),(3:Int))))
 (A1w (M5 a3 (1:Int) (256:Int)) fun(b4:Bool)=>(cond (!b4)
 (some (([],()),(((0:Int),((0:Int),((0:Int),()))),(2:Int))))
 (A1w (M5 a4 (0:Int) (1000000:Int)) fun(b5:Bool)=>(cond (!b5)
 (some (([],()),(((0:Int),((0:Int),((0:Int),()))),(2:Int))))
 (A1w (M5 a5 (0:Int) (64:Int)) fun(b6:Bool)=>(cond (!b6)
 (some (([],()),(((0:Int),((0:Int),((0:Int),()))),(2:Int))))
 (I3 (fun a4g a7t=>(some ((a7t,()),(a4g,(0:Int))))) (fun x14=>(some (([],()),(((0:Int),((0:Int),((0:Int),()))),x14)))) a2 a3 a4 a5 FUEL (A0,(A4,())) D3 D4 ((0:Int),((0:Int),((0:Int),()))))))))))))) a0 a1 a2 a3 a4 a5 FUEL (0:Int) [] [] false A0 A4))) (fun A0 A4=>(cond (decide ((128:Int)<(a1.1.length:Int)))
 (some (([],()),(((0:Int),((0:Int),((0:Int),()))),(1:Int))))
 (H1 (fun A0 A4 I4 D3 D4=>(cond (!I4)
 (some (([],()),(((0:Int),((0:Int),((0:Int),()))),(1:Int))))
 (some (([],()),(((0:Int),((0:Int),((0:Int),()))),(1:Int)))))) (fun A0 A4 I4 D3 D4=>(cond (!I4)
 (some (([],()),(((0:Int),((0:Int),((0:Int),()))),(1:Int))))
 (cond (decide ((256:Int)<(a2.length:Int)))
 (some (([],()),(((0:Int),((0:Int),((0:Int),()))),(3:Int))))
 (A1w (M5 a3 (1:Int) (256:Int)) fun(b4:Bool)=>(cond (!b4)
 (some (([],()),(((0:Int),((0:Int),((0:Int),()))),(2:Int))))
 (A1w (M5 a4 (0:Int) (1000000:Int)) fun(b5:Bool)=>(cond (!b5)
 (some (([],()),(((0:Int),((0:Int),((0:Int),()))),(2:Int))))
 (A1w (M5 a5 (0:Int) (64:Int)) fun(b6:Bool)=>(cond (!b6)
 (some (([],()),(((0:Int),((0:Int),((0:Int),()))),(2:Int))))
 (I3 (fun a4g a7t=>(some ((a7t,()),(a4g,(0:Int))))) (fun x14=>(some (([],()),(((0:Int),((0:Int),((0:Int),()))),x14)))) a2 a3 a4 a5 FUEL (A0,(A4,())) D3 D4 ((0:Int),((0:Int),((0:Int),()))))))))))))) a0 a1 a2 a3 a4 a5 FUEL (0:Int) [] [] true A0 A4))) a0 a1 a2 a3 a4 a5 FUEL (0:Int) [] []))
def b3J(k:Nat)(K:Ex→St→Q71)(n:Nat)(a2:B5)(a3:Int)(a4:Int)(a5:Int)(R5:T1)(H3:T8)(x1:B5)(F3:T6)(x9:Int)(E4:Int)(M9:Int)(A0:T6)(A4:B5)(l6:Bool)(N1:A7)(F0:A7)(x7:Int):Q71:=A9j (B0 k) 2 (A0Z (B0 k) (A7s (B0 k) 6) 2 250086006400400042 (sub c3o [1,1,1,0,0,0])) a9M K n (c2Y a2 a3 a4 a5 R5 H3 x1 F3 x9 E4 M9 A0 A4 l6 N1 F0 x7)
theorem c0k(k:Nat)(K:Ex→St→Q71)(n:Nat)(a2:B5)(a3:Int)(a4:Int)(a5:Int)(R5:T1)(H3:T8)(x1:B5)(F3:T6)(x9:Int)(E4:Int)(M9:Int)(A0:T6)(A4:B5)(l6:Bool)(N1:A7)(F0:A7)(x7:Int):((B4x 0 (B5Q (A0Z (B0 k) (A7s (B0 k) 6) 2 250086006400400042 (sub c3o [1,1,1,1])) (B4P (B0 k) c7P (some 40) 1 (B5J (B0 k) (A7s (B0 k) 7) 1 2500860064 false (B5P (sub a3u [1,1,1,0,1,0,0,1,0,0,1,1,1,0])) 5 (B5Q (A0Z (B0 k) (A7s (B0 k) 7) 1 2500860064 (sub a3u [1,1,1,0,1,0,0,1,0,0,1,1,1,1])) (B4x 1 (B5Q (A0Z (B0 k) (A7s (B0 k) 7) 1 2500860064 (sub a3u [1,1,1,0,1,0,0,1,1])) (B2m (B0 k) 1 Z2 (A9j (B0 k) 1 (A0Z (B0 k) (A7s (B0 k) 7) 1 2500860064 (sub a3u [1,1,1,0,1,0,0])) Z2 K n) K)))))))) (.exit 0) (a8T a2 a3 a4 a5 R5 H3 x1 F3 x9 E4 M9 A0 A4 l6 N1 F0 x7):Q71)=
 ((cond (decide (x7<(A4.length:Int)))
 (cond ((decide ((0:Int)≤x7))&&(decide (x7<(A4.length:Int))))
 (cond (eqd (.arr 32 k0B) (A4.getD (x7.toNat) (List.replicate 32 (0:Int))) F0)
 (cond ((decide ((0:Int)≤x7))&&(decide (x7<(A0.length:Int))))
 (A1w (u9 (A0.getD (x7.toNat) ((0:Int),([],()))) (F3.getD (M9.toNat) ((0:Int),([],())))) fun(b45:Bool)=>(cond (!b45)
 (K .ret (a8t a2 a3 a4 a5 R5 H3 F3 A0 A4 (8:Int)))
 (cond l6
 (cond ((decide ((0:Int)≤M9))&&(decide (M9<(F3.length:Int))))
 (A9j (B0 k) 1 (A0Z (B0 k) (A7s (B0 k) 7) 1 2500860064 (sub a3u [1,1,1,0,1,0,0])) Z2 K n (a3S a2 a3 a4 a5 R5 H3 x1 F3 (IntKind.wrap .i64 (x9+(1:Int))) (IntKind.wrap .i64 (E4+((((F3.getD (M9.toNat) ((0:Int),([],()))).2).1).length:Int))) (IntKind.wrap .i64 (M9+(1:Int))) A0 A4))
 none)
 (A9j (B0 k) 1 (A0Z (B0 k) (A7s (B0 k) 7) 1 2500860064 (sub a3u [1,1,1,0,1,0,0])) Z2 K n (a3S a2 a3 a4 a5 R5 H3 x1 F3 x9 E4 (IntKind.wrap .i64 (M9+(1:Int))) A0 A4)))))
 none)
 (cond (decide ((128:Int)≤(A4.length:Int)))
 (K .ret (a8t a2 a3 a4 a5 R5 H3 F3 A0 A4 (3:Int)))
 (cond ((decide ((0:Int)≤x7))&&(decide (x7≤(A0.length:Int))))
 (cond (decide ((1+(A3F A0 (x7.toNat) (A0.length)).length)*32≤140737488355328)&&decide (1+(A3F A0 (x7.toNat) (A0.length)).length≤9223372036854775807))
 (cond ((decide ((0:Int)≤x7))&&(decide (x7≤(A0.length:Int))))
 (cond (decide ((0+(A3F A0 0 (x7.toNat)).length)*32≤140737488355328)&&decide (0+(A3F A0 0 (x7.toNat)).length≤9223372036854775807))
 (cond (decide ((([]++(A3F A0 0 (x7.toNat))).length+([(F3.getD (M9.toNat) ((0:Int),([],())))]++(A3F A0 (x7.toNat) (A0.length))).length)*32≤140737488355328)&&decide (([]++(A3F A0 0 (x7.toNat))).length+([(F3.getD (M9.toNat) ((0:Int),([],())))]++(A3F A0 (x7.toNat) (A0.length))).length≤9223372036854775807))
 (cond ((decide ((0:Int)≤x7))&&(decide (x7≤(A4.length:Int))))
 (cond (decide ((1+(A3F A4 (x7.toNat) (A4.length)).length)*32≤140737488355328)&&decide (1+(A3F A4 (x7.toNat) (A4.length)).length≤9223372036854775807))
 (cond ((decide ((0:Int)≤x7))&&(decide (x7≤(A4.length:Int))))
 (cond (decide ((0+(A3F A4 0 (x7.toNat)).length)*32≤140737488355328)&&decide (0+(A3F A4 0 (x7.toNat)).length≤9223372036854775807))
 (cond (decide ((([]++(A3F A4 0 (x7.toNat))).length+([F0]++(A3F A4 (x7.toNat) (A4.length))).length)*32≤140737488355328)&&decide (([]++(A3F A4 0 (x7.toNat))).length+([F0]++(A3F A4 (x7.toNat) (A4.length))).length≤9223372036854775807))
 (cond l6
 (cond ((decide ((0:Int)≤M9))&&(decide (M9<(F3.length:Int))))
 (A9j (B0 k) 1 (A0Z (B0 k) (A7s (B0 k) 7) 1 2500860064 (sub a3u [1,1,1,0,1,0,0])) Z2 K n (a3S a2 a3 a4 a5 R5 H3 x1 F3 (IntKind.wrap .i64 (x9+(1:Int))) (IntKind.wrap .i64 (E4+((((F3.getD (M9.toNat) ((0:Int),([],()))).2).1).length:Int))) (IntKind.wrap .i64 (M9+(1:Int))) (([]++(A3F A0 0 (x7.toNat)))++([(F3.getD (M9.toNat) ((0:Int),([],())))]++(A3F A0 (x7.toNat) (A0.length)))) (([]++(A3F A4 0 (x7.toNat)))++([F0]++(A3F A4 (x7.toNat) (A4.length))))))
 none)
 (A9j (B0 k) 1 (A0Z (B0 k) (A7s (B0 k) 7) 1 2500860064 (sub a3u [1,1,1,0,1,0,0])) Z2 K n (a3S a2 a3 a4 a5 R5 H3 x1 F3 x9 E4 (IntKind.wrap .i64 (M9+(1:Int))) (([]++(A3F A0 0 (x7.toNat)))++([(F3.getD (M9.toNat) ((0:Int),([],())))]++(A3F A0 (x7.toNat) (A0.length)))) (([]++(A3F A4 0 (x7.toNat)))++([F0]++(A3F A4 (x7.toNat) (A4.length)))))))
 none)
 none)
 none)
 none)
 none)
 none)
 none)
 none)
 none)
 none)))
 none)
 (cond (decide ((128:Int)≤(A4.length:Int)))
 (K .ret (a8t a2 a3 a4 a5 R5 H3 F3 A0 A4 (3:Int)))
 (cond ((decide ((0:Int)≤x7))&&(decide (x7≤(A0.length:Int))))
 (cond (decide ((1+(A3F A0 (x7.toNat) (A0.length)).length)*32≤140737488355328)&&decide (1+(A3F A0 (x7.toNat) (A0.length)).length≤9223372036854775807))
 (cond ((decide ((0:Int)≤x7))&&(decide (x7≤(A0.length:Int))))
 (cond (decide ((0+(A3F A0 0 (x7.toNat)).length)*32≤140737488355328)&&decide (0+(A3F A0 0 (x7.toNat)).length≤9223372036854775807))
 (cond (decide ((([]++(A3F A0 0 (x7.toNat))).length+([(F3.getD (M9.toNat) ((0:Int),([],())))]++(A3F A0 (x7.toNat) (A0.length))).length)*32≤140737488355328)&&decide (([]++(A3F A0 0 (x7.toNat))).length+([(F3.getD (M9.toNat) ((0:Int),([],())))]++(A3F A0 (x7.toNat) (A0.length))).length≤9223372036854775807))
 (cond ((decide ((0:Int)≤x7))&&(decide (x7≤(A4.length:Int))))
 (cond (decide ((1+(A3F A4 (x7.toNat) (A4.length)).length)*32≤140737488355328)&&decide (1+(A3F A4 (x7.toNat) (A4.length)).length≤9223372036854775807))
 (cond ((decide ((0:Int)≤x7))&&(decide (x7≤(A4.length:Int))))
 (cond (decide ((0+(A3F A4 0 (x7.toNat)).length)*32≤140737488355328)&&decide (0+(A3F A4 0 (x7.toNat)).length≤9223372036854775807))
 (cond (decide ((([]++(A3F A4 0 (x7.toNat))).length+([F0]++(A3F A4 (x7.toNat) (A4.length))).length)*32≤140737488355328)&&decide (([]++(A3F A4 0 (x7.toNat))).length+([F0]++(A3F A4 (x7.toNat) (A4.length))).length≤9223372036854775807))
 (cond l6
 (cond ((decide ((0:Int)≤M9))&&(decide (M9<(F3.length:Int))))
 (A9j (B0 k) 1 (A0Z (B0 k) (A7s (B0 k) 7) 1 2500860064 (sub a3u [1,1,1,0,1,0,0])) Z2 K n (a3S a2 a3 a4 a5 R5 H3 x1 F3 (IntKind.wrap .i64 (x9+(1:Int))) (IntKind.wrap .i64 (E4+((((F3.getD (M9.toNat) ((0:Int),([],()))).2).1).length:Int))) (IntKind.wrap .i64 (M9+(1:Int))) (([]++(A3F A0 0 (x7.toNat)))++([(F3.getD (M9.toNat) ((0:Int),([],())))]++(A3F A0 (x7.toNat) (A0.length)))) (([]++(A3F A4 0 (x7.toNat)))++([F0]++(A3F A4 (x7.toNat) (A4.length))))))
 none)
 (A9j (B0 k) 1 (A0Z (B0 k) (A7s (B0 k) 7) 1 2500860064 (sub a3u [1,1,1,0,1,0,0])) Z2 K n (a3S a2 a3 a4 a5 R5 H3 x1 F3 x9 E4 (IntKind.wrap .i64 (M9+(1:Int))) (([]++(A3F A0 0 (x7.toNat)))++([(F3.getD (M9.toNat) ((0:Int),([],())))]++(A3F A0 (x7.toNat) (A0.length)))) (([]++(A3F A4 0 (x7.toNat)))++([F0]++(A3F A4 (x7.toNat) (A4.length)))))))
 none)
 none)
 none)
 none)
 none)
 none)
 none)
 none)
 none)
 none))):Q71):=by kernel_rfl
theorem c0l(k:Nat)(K:Ex→St→Q71)(n:Nat)(a2:B5)(a3:Int)(a4:Int)(a5:Int)(R5:T1)(H3:T8)(x1:B5)(F3:T6)(x9:Int)(E4:Int)(M9:Int)(A0:T6)(A4:B5)(l6:Bool)(N1:A7)(F0:A7)(x7:Int):(b3J k K (n+1) a2 a3 a4 a5 R5 H3 x1 F3 x9 E4 M9 A0 A4 l6 N1 F0 x7:Q71)=X8 ((fun l6 N1 F0 x7=>b3J k K n a2 a3 a4 a5 R5 H3 x1 F3 x9 E4 M9 A0 A4 l6 N1 F0 x7)) (fun l6 N1 F0 x7=>K (.exit 0) (a8T a2 a3 a4 a5 R5 H3 x1 F3 x9 E4 M9 A0 A4 l6 N1 F0 x7)) a2 a3 a4 a5 R5 H3 x1 F3 x9 E4 M9 A0 A4 l6 N1 F0 x7:=by kernel_rfl
theorem c2X(K:Ex→St→Q71)(a2:B5)(a3:Int)(a4:Int)(a5:Int)(R5:T1)(H3:T8)(x1:B5)(F3:T6)(x9:Int)(E4:Int)(M9:Int)(A0:T6)(A4:B5):∀(n:Nat) (l6:Bool) (N1:A7) (F0:A7) (x7:Int),(b3J FUEL K n a2 a3 a4 a5 R5 H3 x1 F3 x9 E4 M9 A0 A4 l6 N1 F0 x7:Q71)=r9 (fun l6 N1 F0 x7=>K (.exit 0) (a8T a2 a3 a4 a5 R5 H3 x1 F3 x9 E4 M9 A0 A4 l6 N1 F0 x7)) a2 a3 a4 a5 R5 H3 x1 F3 x9 E4 M9 A0 A4 n l6 N1 F0 x7:=by
 intro n
 induction n with
 |zero=>intros; rfl
 |succ n ih=>
  intro l6 N1 F0 x7
  exact(c0l FUEL K n a2 a3 a4 a5 R5 H3 x1 F3 x9 E4 M9 A0 A4 l6 N1 F0 x7).trans (congrArg (fun f=>X8 f (fun l6 N1 F0 x7=>K (.exit 0) (a8T a2 a3 a4 a5 R5 H3 x1 F3 x9 E4 M9 A0 A4 l6 N1 F0 x7)) a2 a3 a4 a5 R5 H3 x1 F3 x9 E4 M9 A0 A4 l6 N1 F0 x7) (funext fun l6=>funext fun N1=>funext fun F0=>funext fun x7=>ih l6 N1 F0 x7))
def c2W(k:Nat)(K:Ex→St→Q71)(n:Nat)(a2:B5)(a3:Int)(a4:Int)(a5:Int)(R5:T1)(H3:T8)(x1:B5)(F3:T6)(x9:Int)(E4:Int)(M9:Int)(A0:T6)(A4:B5):Q71:=A9j (B0 k) 1 (A0Z (B0 k) (A7s (B0 k) 7) 1 2500860064 (sub a3u [1,1,1,0,1,0,0])) Z2 K n (a3S a2 a3 a4 a5 R5 H3 x1 F3 x9 E4 M9 A0 A4)
theorem c0j(k:Nat)(K:Ex→St→Q71)(n:Nat)(a2:B5)(a3:Int)(a4:Int)(a5:Int)(R5:T1)(H3:T8)(x1:B5)(F3:T6)(x9:Int)(E4:Int)(M9:Int)(A0:T6)(A4:B5):(c2W k K (n+1) a2 a3 a4 a5 R5 H3 x1 F3 x9 E4 M9 A0 A4:Q71)=
 ((cond (decide (M9<(F3.length:Int)))
 (cond ((decide ((0:Int)≤M9))&&(decide (M9<(F3.length:Int))))
 (A1w (W8 (F3.getD (M9.toNat) ((0:Int),([],())))) fun(b39:A7)=>(A1w (w7 x1 b39) fun(b40:Bool)=>(cond (!b40)
 (A9j (B0 k) 1 (A0Z (B0 k) (A7s (B0 k) 7) 1 2500860064 (sub a3u [1,1,1,0,1,0,0])) Z2 K n (a3S a2 a3 a4 a5 R5 H3 x1 F3 x9 E4 (IntKind.wrap .i64 (M9+(1:Int))) A0 A4))
 (A1w (N9 (A0,(A4,())) b39) fun(b41:Int)=>(cond ((decide ((0:Int)≤M9))&&(decide (M9<(F3.length:Int))))
 (A1w (W8 (F3.getD (M9.toNat) ((0:Int),([],())))) fun(b42:A7)=>(A9j (B0 k) 2 (A0Z (B0 k) (A7s (B0 k) 6) 2 250086006400400042 (sub c3o [1,1,1,0,0,0])) a9M (B4x 0 (B5Q (A0Z (B0 k) (A7s (B0 k) 6) 2 250086006400400042 (sub c3o [1,1,1,1])) (B4P (B0 k) c7P (some 40) 1 (B5J (B0 k) (A7s (B0 k) 7) 1 2500860064 false (B5P (sub a3u [1,1,1,0,1,0,0,1,0,0,1,1,1,0])) 5 (B5Q (A0Z (B0 k) (A7s (B0 k) 7) 1 2500860064 (sub a3u [1,1,1,0,1,0,0,1,0,0,1,1,1,1])) (B4x 1 (B5Q (A0Z (B0 k) (A7s (B0 k) 7) 1 2500860064 (sub a3u [1,1,1,0,1,0,0,1,1])) (B2m (B0 k) 1 Z2 (A9j (B0 k) 1 (A0Z (B0 k) (A7s (B0 k) 7) 1 2500860064 (sub a3u [1,1,1,0,1,0,0])) Z2 K n) K)))))))) k (c2Y a2 a3 a4 a5 R5 H3 x1 F3 x9 E4 M9 A0 A4 (decide (b41<(0:Int))) b39 b42 (0:Int))))
 none)))))
 none)
 (K (.exit 0) (b2a a2 a3 a4 a5 R5 H3 F3 x9 E4 A0 A4))):Q71):=by kernel_rfl
theorem c0i(k:Nat)(K:Ex→St→Q71)(n:Nat)(a2:B5)(a3:Int)(a4:Int)(a5:Int)(R5:T1)(H3:T8)(F3:T6)(x9:Int)(E4:Int)(A0:T6)(A4:B5):((B4x 0 (B5Q (A0Z (B0 k) (A7s (B0 k) 7) 1 2500860064 (sub a3u [1,1,1,1])) (B4P (B0 k) c3C (some 86) 0 (B5J (B0 k) (A7s (B0 k) 8) 0 25 false (B5P (sub a1g [1,1,1,1,1,1,1,1,0,0,0,1,1,1,0])) 6 (B5Q (A0Z (B0 k) (A7s (B0 k) 8) 0 25 (sub a1g [1,1,1,1,1,1,1,1,0,0,0,1,1,1,1])) (B4x 1 (B2m (B0 k) 0 a0K (A9j (B0 k) 0 (A0Z (B0 k) (A7s (B0 k) 8) 0 25 (sub a1g [1,1,1,1,1,1,1,1,0,0])) a0K K n) K))))))) (.exit 0) (b2a a2 a3 a4 a5 R5 H3 F3 x9 E4 A0 A4):Q71)=
 ((cond (decide (x9=(0:Int)))
 (K .ret (W3 (6:Int)))
 (A9j (B0 k) 0 (A0Z (B0 k) (A7s (B0 k) 8) 0 25 (sub a1g [1,1,1,1,1,1,1,1,0,0])) a0K K n (b0u a2 a3 a4 a5 R5 A0 A4 ((IntKind.wrap .i64 (H3.1+(1:Int))),((IntKind.wrap .i64 (H3.2.1+x9)),((IntKind.wrap .i64 (H3.2.2.1+E4)),H3.2.2.2)))))):Q71):=by kernel_rfl
theorem c6x(k:Nat)(K:Ex→St→Q71)(n:Nat)(a2:B5)(a3:Int)(a4:Int)(a5:Int)(R5:T1)(H3:T8)(F3:T6)(A0:T6)(A4:B5)(x8:Int):((B4x 0 (B5Q (A0Z (B0 k) (A7s (B0 k) 7) 1 2500860064 (sub a3u [1,1,1,1])) (B4P (B0 k) c3C (some 86) 0 (B5J (B0 k) (A7s (B0 k) 8) 0 25 false (B5P (sub a1g [1,1,1,1,1,1,1,1,0,0,0,1,1,1,0])) 6 (B5Q (A0Z (B0 k) (A7s (B0 k) 8) 0 25 (sub a1g [1,1,1,1,1,1,1,1,0,0,0,1,1,1,1])) (B4x 1 (B2m (B0 k) 0 a0K (A9j (B0 k) 0 (A0Z (B0 k) (A7s (B0 k) 8) 0 25 (sub a1g [1,1,1,1,1,1,1,1,0,0])) a0K K n) K))))))) .ret (a8t a2 a3 a4 a5 R5 H3 F3 A0 A4 x8):Q71)=
 ((cond (decide (x8=(0:Int)))
 (K .ret (W3 (6:Int)))
 (cond (!(decide (x8=(0:Int))))
 (K .ret (W3 x8))
 (A9j (B0 k) 0 (A0Z (B0 k) (A7s (B0 k) 8) 0 25 (sub a1g [1,1,1,1,1,1,1,1,0,0])) a0K K n (b0u a2 a3 a4 a5 R5 A0 A4 ((IntKind.wrap .i64 (H3.1+(1:Int))),((IntKind.wrap .i64 (H3.2.1+(0:Int))),((IntKind.wrap .i64 (H3.2.2.1+(0:Int))),H3.2.2.2))))))):Q71):=by kernel_rfl
theorem c2V(K:Ex→St→Q71)(a2:B5)(a3:Int)(a4:Int)(a5:Int)(R5:T1)(H3:T8):∀(n:Nat) (x1:B5) (F3:T6) (x9:Int) (E4:Int) (M9:Int) (A0:T6) (A4:B5),(c2W FUEL K n a2 a3 a4 a5 R5 H3 x1 F3 x9 E4 M9 A0 A4:Q71)=S7 (fun F3 x9 E4 A0 A4=>K (.exit 0) (b2a a2 a3 a4 a5 R5 H3 F3 x9 E4 A0 A4)) (fun F3 A0 A4 x8=>K .ret (a8t a2 a3 a4 a5 R5 H3 F3 A0 A4 x8)) a2 a3 a4 a5 R5 H3 n x1 F3 x9 E4 M9 A0 A4:=by
 intro n
 induction n with
 |zero=>intros; rfl
 |succ n ih=>
  intro x1 F3 x9 E4 M9 A0 A4
  exact(c0j FUEL K n a2 a3 a4 a5 R5 H3 x1 F3 x9 E4 M9 A0 A4).trans (B5U (B5U (B5S (fun b39=>B5S (fun b40=>B5U (ih x1 F3 x9 E4 (IntKind.wrap .i64 (M9+(1:Int))) A0 A4) (B5S (fun b41=>B5U (B5S (fun b42=>(c2X _ a2 a3 a4 a5 R5 H3 x1 F3 x9 E4 M9 A0 A4 FUEL (decide (b41<(0:Int))) b39 b42 (0:Int)).trans (congrArg (fun e0=>r9 e0 a2 a3 a4 a5 R5 H3 x1 F3 x9 E4 M9 A0 A4 FUEL (decide (b41<(0:Int))) b39 b42 (0:Int)) (funext fun l6=>funext fun N1=>funext fun F0=>funext fun x7=>(c0k FUEL K n a2 a3 a4 a5 R5 H3 x1 F3 x9 E4 M9 A0 A4 l6 N1 F0 x7).trans (B5U (B5U (B5U (B5U (B5S (fun b45=>B5U (rfl) (B5U (B5U (ih x1 F3 (IntKind.wrap .i64 (x9+(1:Int))) (IntKind.wrap .i64 (E4+((((F3.getD (M9.toNat) ((0:Int),([],()))).2).1).length:Int))) (IntKind.wrap .i64 (M9+(1:Int))) A0 A4) (rfl)) (ih x1 F3 x9 E4 (IntKind.wrap .i64 (M9+(1:Int))) A0 A4)))) (rfl)) (B5U (rfl) (B5U (B5U (B5U (B5U (B5U (B5U (B5U (B5U (B5U (B5U (B5U (B5U (ih x1 F3 (IntKind.wrap .i64 (x9+(1:Int))) (IntKind.wrap .i64 (E4+((((F3.getD (M9.toNat) ((0:Int),([],()))).2).1).length:Int))) (IntKind.wrap .i64 (M9+(1:Int))) (([]++(A3F A0 0 (x7.toNat)))++([(F3.getD (M9.toNat) ((0:Int),([],())))]++(A3F A0 (x7.toNat) (A0.length)))) (([]++(A3F A4 0 (x7.toNat)))++([F0]++(A3F A4 (x7.toNat) (A4.length))))) (rfl)) (ih x1 F3 x9 E4 (IntKind.wrap .i64 (M9+(1:Int))) (([]++(A3F A0 0 (x7.toNat)))++([(F3.getD (M9.toNat) ((0:Int),([],())))]++(A3F A0 (x7.toNat) (A0.length)))) (([]++(A3F A4 0 (x7.toNat)))++([F0]++(A3F A4 (x7.toNat) (A4.length)))))) (rfl)) (rfl)) (rfl)) (rfl)) (rfl)) (rfl)) (rfl)) (rfl)) (rfl)) (rfl)))) (rfl)) (B5U (rfl) (B5U (B5U (B5U (B5U (B5U (B5U (B5U (B5U (B5U (B5U (B5U (B5U (ih x1 F3 (IntKind.wrap .i64 (x9+(1:Int))) (IntKind.wrap .i64 (E4+((((F3.getD (M9.toNat) ((0:Int),([],()))).2).1).length:Int))) (IntKind.wrap .i64 (M9+(1:Int))) (([]++(A3F A0 0 (x7.toNat)))++([(F3.getD (M9.toNat) ((0:Int),([],())))]++(A3F A0 (x7.toNat) (A0.length)))) (([]++(A3F A4 0 (x7.toNat)))++([F0]++(A3F A4 (x7.toNat) (A4.length))))) (rfl)) (ih x1 F3 x9 E4 (IntKind.wrap .i64 (M9+(1:Int))) (([]++(A3F A0 0 (x7.toNat)))++([(F3.getD (M9.toNat) ((0:Int),([],())))]++(A3F A0 (x7.toNat) (A0.length)))) (([]++(A3F A4 0 (x7.toNat)))++([F0]++(A3F A4 (x7.toNat) (A4.length)))))) (rfl)) (rfl)) (rfl)) (rfl)) (rfl)) (rfl)) (rfl)) (rfl)) (rfl)) (rfl)))))))) (rfl)))))) (rfl)) (rfl))
def c2U(k:Nat)(K:Ex→St→Q71)(n:Nat)(a2:B5)(a3:Int)(a4:Int)(a5:Int)(R5:T1)(O8:T6)(a2t:B5)(H3:T8):Q71:=A9j (B0 k) 0 (A0Z (B0 k) (A7s (B0 k) 8) 0 25 (sub a1g [1,1,1,1,1,1,1,1,0,0])) a0K K n (b0u a2 a3 a4 a5 R5 O8 a2t H3)
theorem c0h(k:Nat)(K:Ex→St→Q71)(n:Nat)(a2:B5)(a3:Int)(a4:Int)(a5:Int)(R5:T1)(O8:T6)(a2t:B5)(H3:T8):(c2U k K (n+1) a2 a3 a4 a5 R5 O8 a2t H3:Q71)=
 ((A1w (a1o (O8,(a2t,())) a2 a3) fun(b29:B5)=>(cond (decide ((b29.length:Int)=(0:Int)))
 (A1w (R4 (O8,(a2t,()))) fun(b30:T4)=>(K .ret (b3I H3 b30.1)))
 (cond (decide (H3.1=a5))
 (K .ret (W3 (7:Int)))
 (A1w (a0I R5 b29 a4) fun(b31:T6)=>(A9j (B0 k) 1 (A0Z (B0 k) (A7s (B0 k) 7) 1 2500860064 (sub a3u [1,1,1,0,1,0,0])) Z2 (B4x 0 (B5Q (A0Z (B0 k) (A7s (B0 k) 7) 1 2500860064 (sub a3u [1,1,1,1])) (B4P (B0 k) c3C (some 86) 0 (B5J (B0 k) (A7s (B0 k) 8) 0 25 false (B5P (sub a1g [1,1,1,1,1,1,1,1,0,0,0,1,1,1,0])) 6 (B5Q (A0Z (B0 k) (A7s (B0 k) 8) 0 25 (sub a1g [1,1,1,1,1,1,1,1,0,0,0,1,1,1,1])) (B4x 1 (B2m (B0 k) 0 a0K (A9j (B0 k) 0 (A0Z (B0 k) (A7s (B0 k) 8) 0 25 (sub a1g [1,1,1,1,1,1,1,1,0,0])) a0K K n) K))))))) k (a3S a2 a3 a4 a5 R5 H3 b29 b31 (0:Int) (0:Int) (0:Int) O8 a2t)))))):Q71):=by kernel_rfl
theorem a9L(k:Nat)(a4g:T8)(a7t:T6):((B4x 0 (B4C (B0 k) a5A C3)) .ret (b3I a4g a7t):Q71)=
 ((some ((a7t,()),(a4g,(0:Int)))):Q71):=by kernel_rfl
theorem a1M(k:Nat)(x14:Int):((B4x 0 (B4C (B0 k) a5A C3)) .ret (W3 x14):Q71)=
 ((some (([],()),(((0:Int),((0:Int),((0:Int),()))),x14))):Q71):=by kernel_rfl
theorem a8s(K:Ex→St→Q71)(a2:B5)(a3:Int)(a4:Int)(a5:Int):∀(n:Nat) (R5:T1) (O8:T6) (a2t:B5) (H3:T8),(c2U FUEL K n a2 a3 a4 a5 R5 O8 a2t H3:Q71)=I3 (fun a4g a7t=>K .ret (b3I a4g a7t)) (fun x14=>K .ret (W3 x14)) a2 a3 a4 a5 n R5 O8 a2t H3:=by
 intro n
 induction n with
 |zero=>intros; rfl
 |succ n ih=>
  intro R5 O8 a2t H3
  exact(c0h FUEL K n a2 a3 a4 a5 R5 O8 a2t H3).trans (B5S (fun b29=>B5U (B5S (fun b30=>rfl)) (B5U (rfl) (B5S (fun b31=>(c2V _ a2 a3 a4 a5 R5 H3 FUEL b29 b31 (0:Int) (0:Int) (0:Int) O8 a2t).trans (B5V (fun e0 e1=>S7 e0 e1 a2 a3 a4 a5 R5 H3 FUEL b29 b31 (0:Int) (0:Int) (0:Int) O8 a2t) (funext fun F3=>funext fun x9=>funext fun E4=>funext fun A0=>funext fun A4=>(c0i FUEL K n a2 a3 a4 a5 R5 H3 F3 x9 E4 A0 A4).trans (B5U (rfl) (ih R5 A0 A4 ((IntKind.wrap .i64 (H3.1+(1:Int))),((IntKind.wrap .i64 (H3.2.1+x9)),((IntKind.wrap .i64 (H3.2.2.1+E4)),H3.2.2.2)))))) (funext fun F3=>funext fun A0=>funext fun A4=>funext fun x8=>(c6x FUEL K n a2 a3 a4 a5 R5 H3 F3 A0 A4 x8).trans (B5U (rfl) (B5U (rfl) (ih R5 A0 A4 ((IntKind.wrap .i64 (H3.1+(1:Int))),((IntKind.wrap .i64 (H3.2.1+(0:Int))),((IntKind.wrap .i64 (H3.2.2.1+(0:Int))),H3.2.2.2)))))))))))))
def b3H(k:Nat)(K:Ex→St→Q71)(n:Nat)(a0:T4)(a1:T4)(a2:B5)(a3:Int)(a4:Int)(a5:Int)(x5:Int)(A0:T6)(A4:B5):Q71:=A9j (B0 k) 1 (A0Z (B0 k) (A7s (B0 k) 7) 1 2500260040 (sub a5i [1,1,1,0,1,0,0])) a9K K n (c2T a0 a1 a2 a3 a4 a5 x5 A0 A4)
theorem c6w(k:Nat)(a0:T4)(a1:T4)(a2:B5)(a3:Int)(a4:Int)(a5:Int)(A0:T6)(A4:B5):((B4x 0 (B5Q (A0Z (B0 k) (A7s (B0 k) 7) 1 2500260040 (sub a5i [1,1,1,1])) (B4P (B0 k) a9s (some 26) 0 (B5J (B0 k) (A7s (B0 k) 8) 0 25 false (B5P (sub a1g [1,0])) 0 (B5Q (A0Z (B0 k) (A7s (B0 k) 8) 0 25 (sub a1g [1,1])) (B4C (B0 k) a5A C3)))))) .ret (b0t a0 a1 a2 a3 a4 a5 A0 A4):Q71)=
 ((cond (decide ((128:Int)<(a1.1.length:Int)))
 (some (([],()),(((0:Int),((0:Int),((0:Int),()))),(1:Int))))
 (A9j (B0 k) 1 (A0Z (B0 k) (A7s (B0 k) 7) 1 2500300040 (sub a5i [1,1,1,0,1,0,0])) a5h (B4x 0 (B5Q (A0Z (B0 k) (A7s (B0 k) 7) 1 2500300040 (sub a5i [1,1,1,1])) (B4P (B0 k) a9s (some 30) 0 (B5J (B0 k) (A7s (B0 k) 8) 0 25 false (B5P (sub a1g [1,1,0])) 0 (B5Q (A0Z (B0 k) (A7s (B0 k) 8) 0 25 (sub a1g [1,1,1])) (B4C (B0 k) a5A C3)))))) k (b0s a0 a1 a2 a3 a4 a5 (0:Int) [] [] false A0 A4))):Q71):=by kernel_rfl
theorem c0f(k:Nat)(a0:T4)(a1:T4)(a2:B5)(a3:Int)(a4:Int)(a5:Int)(A0:T6)(A4:B5):((B4x 0 (B5Q (A0Z (B0 k) (A7s (B0 k) 7) 1 2500260040 (sub a5i [1,1,1,1])) (B4P (B0 k) a9s (some 26) 0 (B5J (B0 k) (A7s (B0 k) 8) 0 25 false (B5P (sub a1g [1,0])) 0 (B5Q (A0Z (B0 k) (A7s (B0 k) 8) 0 25 (sub a1g [1,1])) (B4C (B0 k) a5A C3)))))) (.exit 0) (a8S a0 a1 a2 a3 a4 a5 A0 A4):Q71)=
 ((cond (decide ((128:Int)<(a1.1.length:Int)))
 (some (([],()),(((0:Int),((0:Int),((0:Int),()))),(1:Int))))
 (A9j (B0 k) 1 (A0Z (B0 k) (A7s (B0 k) 7) 1 2500300040 (sub a5i [1,1,1,0,1,0,0])) a5h (B4x 0 (B5Q (A0Z (B0 k) (A7s (B0 k) 7) 1 2500300040 (sub a5i [1,1,1,1])) (B4P (B0 k) a9s (some 30) 0 (B5J (B0 k) (A7s (B0 k) 8) 0 25 false (B5P (sub a1g [1,1,0])) 0 (B5Q (A0Z (B0 k) (A7s (B0 k) 8) 0 25 (sub a1g [1,1,1])) (B4C (B0 k) a5A C3)))))) k (b0s a0 a1 a2 a3 a4 a5 (0:Int) [] [] true A0 A4))):Q71):=by kernel_rfl
theorem c0g(k:Nat)(K:Ex→St→Q71)(n:Nat)(a0:T4)(a1:T4)(a2:B5)(a3:Int)(a4:Int)(a5:Int)(x5:Int)(A0:T6)(A4:B5):(b3H k K (n+1) a0 a1 a2 a3 a4 a5 x5 A0 A4:Q71)=a3J ((fun x5 A0 A4=>b3H k K n a0 a1 a2 a3 a4 a5 x5 A0 A4)) (fun A0 A4=>K .ret (b0t a0 a1 a2 a3 a4 a5 A0 A4)) (fun A0 A4=>K (.exit 0) (a8S a0 a1 a2 a3 a4 a5 A0 A4)) a0 a1 a2 a3 a4 a5 x5 A0 A4:=by kernel_rfl
theorem c2S(K:Ex→St→Q71)(a0:T4)(a1:T4)(a2:B5)(a3:Int)(a4:Int)(a5:Int):∀(n:Nat) (x5:Int) (A0:T6) (A4:B5),(b3H FUEL K n a0 a1 a2 a3 a4 a5 x5 A0 A4:Q71)=S6 (fun A0 A4=>K .ret (b0t a0 a1 a2 a3 a4 a5 A0 A4)) (fun A0 A4=>K (.exit 0) (a8S a0 a1 a2 a3 a4 a5 A0 A4)) a0 a1 a2 a3 a4 a5 n x5 A0 A4:=by
 intro n
 induction n with
 |zero=>intros; rfl
 |succ n ih=>
  intro x5 A0 A4
  exact(c0g FUEL K n a0 a1 a2 a3 a4 a5 x5 A0 A4).trans (congrArg (fun f=>a3J f (fun A0 A4=>K .ret (b0t a0 a1 a2 a3 a4 a5 A0 A4)) (fun A0 A4=>K (.exit 0) (a8S a0 a1 a2 a3 a4 a5 A0 A4)) a0 a1 a2 a3 a4 a5 x5 A0 A4) (funext fun x5=>funext fun A0=>funext fun A4=>ih x5 A0 A4))
def b3G(k:Nat)(K:Ex→St→Q71)(n:Nat)(a0:T4)(a1:T4)(a2:B5)(a3:Int)(a4:Int)(a5:Int)(x5:Int)(A0:T6)(A4:B5)(I4:Bool)(D3:T6)(D4:B5):Q71:=A9j (B0 k) 1 (A0Z (B0 k) (A7s (B0 k) 7) 1 2500300040 (sub a5i [1,1,1,0,1,0,0])) a5h K n (b0s a0 a1 a2 a3 a4 a5 x5 A0 A4 I4 D3 D4)
theorem a9J(k:Nat)(a0:T4)(a1:T4)(a2:B5)(a3:Int)(a4:Int)(a5:Int)(A0:T6)(A4:B5)(I4:Bool)(D3:T6)(D4:B5):((B4x 0 (B5Q (A0Z (B0 k) (A7s (B0 k) 7) 1 2500300040 (sub a5i [1,1,1,1])) (B4P (B0 k) a9s (some 30) 0 (B5J (B0 k) (A7s (B0 k) 8) 0 25 false (B5P (sub a1g [1,1,0])) 0 (B5Q (A0Z (B0 k) (A7s (B0 k) 8) 0 25 (sub a1g [1,1,1])) (B4C (B0 k) a5A C3)))))) .ret (b0r a0 a1 a2 a3 a4 a5 A0 A4 I4 D3 D4):Q71)=
 ((cond (!I4)
 (some (([],()),(((0:Int),((0:Int),((0:Int),()))),(1:Int))))
 (some (([],()),(((0:Int),((0:Int),((0:Int),()))),(1:Int))))):Q71):=by kernel_rfl
theorem a6V(k:Nat)(a0:T4)(a1:T4)(a2:B5)(a3:Int)(a4:Int)(a5:Int)(A0:T6)(A4:B5)(I4:Bool)(D3:T6)(D4:B5):((B4x 0 (B5Q (A0Z (B0 k) (A7s (B0 k) 7) 1 2500300040 (sub a5i [1,1,1,1])) (B4P (B0 k) a9s (some 30) 0 (B5J (B0 k) (A7s (B0 k) 8) 0 25 false (B5P (sub a1g [1,1,0])) 0 (B5Q (A0Z (B0 k) (A7s (B0 k) 8) 0 25 (sub a1g [1,1,1])) (B4C (B0 k) a5A C3)))))) (.exit 0) (a8R a0 a1 a2 a3 a4 a5 A0 A4 I4 D3 D4):Q71)=
 ((cond (!I4)
 (some (([],()),(((0:Int),((0:Int),((0:Int),()))),(1:Int))))
 (cond (decide ((256:Int)<(a2.length:Int)))
 (some (([],()),(((0:Int),((0:Int),((0:Int),()))),(3:Int))))
 (A1w (M5 a3 (1:Int) (256:Int)) fun(b4:Bool)=>(cond (!b4)
 (some (([],()),(((0:Int),((0:Int),((0:Int),()))),(2:Int))))
 (A1w (M5 a4 (0:Int) (1000000:Int)) fun(b5:Bool)=>(cond (!b5)
 (some (([],()),(((0:Int),((0:Int),((0:Int),()))),(2:Int))))
 (A1w (M5 a5 (0:Int) (64:Int)) fun(b6:Bool)=>(cond (!b6)
 (some (([],()),(((0:Int),((0:Int),((0:Int),()))),(2:Int))))
 (A9j (B0 k) 0 (A0Z (B0 k) (A7s (B0 k) 8) 0 25 (sub a1g [1,1,1,1,1,1,1,1,0,0])) a0K (B4x 0 (B4C (B0 k) a5A C3)) k (b0u a2 a3 a4 a5 (A0,(A4,())) D3 D4 ((0:Int),((0:Int),((0:Int),()))))))))))))):Q71):=by kernel_rfl
theorem c0e(k:Nat)(K:Ex→St→Q71)(n:Nat)(a0:T4)(a1:T4)(a2:B5)(a3:Int)(a4:Int)(a5:Int)(x5:Int)(A0:T6)(A4:B5)(I4:Bool)(D3:T6)(D4:B5):(b3G k K (n+1) a0 a1 a2 a3 a4 a5 x5 A0 A4 I4 D3 D4:Q71)=a3I ((fun x5 A0 A4 I4 D3 D4=>b3G k K n a0 a1 a2 a3 a4 a5 x5 A0 A4 I4 D3 D4)) (fun A0 A4 I4 D3 D4=>K .ret (b0r a0 a1 a2 a3 a4 a5 A0 A4 I4 D3 D4)) (fun A0 A4 I4 D3 D4=>K (.exit 0) (a8R a0 a1 a2 a3 a4 a5 A0 A4 I4 D3 D4)) a0 a1 a2 a3 a4 a5 x5 A0 A4 I4 D3 D4:=by kernel_rfl
theorem a8r(K:Ex→St→Q71)(a0:T4)(a1:T4)(a2:B5)(a3:Int)(a4:Int)(a5:Int):∀(n:Nat) (x5:Int) (A0:T6) (A4:B5) (I4:Bool) (D3:T6) (D4:B5),(b3G FUEL K n a0 a1 a2 a3 a4 a5 x5 A0 A4 I4 D3 D4:Q71)=H1 (fun A0 A4 I4 D3 D4=>K .ret (b0r a0 a1 a2 a3 a4 a5 A0 A4 I4 D3 D4)) (fun A0 A4 I4 D3 D4=>K (.exit 0) (a8R a0 a1 a2 a3 a4 a5 A0 A4 I4 D3 D4)) a0 a1 a2 a3 a4 a5 n x5 A0 A4 I4 D3 D4:=by
 intro n
 induction n with
 |zero=>intros; rfl
 |succ n ih=>
  intro x5 A0 A4 I4 D3 D4
  exact(c0e FUEL K n a0 a1 a2 a3 a4 a5 x5 A0 A4 I4 D3 D4).trans (congrArg (fun f=>a3I f (fun A0 A4 I4 D3 D4=>K .ret (b0r a0 a1 a2 a3 a4 a5 A0 A4 I4 D3 D4)) (fun A0 A4 I4 D3 D4=>K (.exit 0) (a8R a0 a1 a2 a3 a4 a5 A0 A4 I4 D3 D4)) a0 a1 a2 a3 a4 a5 x5 A0 A4 I4 D3 D4) (funext fun x5=>funext fun A0=>funext fun A4=>funext fun I4=>funext fun D3=>funext fun D4=>ih x5 A0 A4 I4 D3 D4))
theorem c9D(k:Nat)(a0:T4)(a1:T4)(a2:B5)(a3:Int)(a4:Int)(a5:Int):fnK (B0 k) 8 25 a5A C3 [.pv K4 a0,.pv K4 a1,.pv K22 a2,.pv E8 a3,.pv E8 a4,.pv E8 a5]=
 ((cond (decide ((128:Int)<(a0.1.length:Int)))
 (cond (decide ((128:Int)<(a1.1.length:Int)))
 (some (([],()),(((0:Int),((0:Int),((0:Int),()))),(1:Int))))
 (A9j (B0 k) 1 (A0Z (B0 k) (A7s (B0 k) 7) 1 2500300040 (sub a5i [1,1,1,0,1,0,0])) a5h (B4x 0 (B5Q (A0Z (B0 k) (A7s (B0 k) 7) 1 2500300040 (sub a5i [1,1,1,1])) (B4P (B0 k) a9s (some 30) 0 (B5J (B0 k) (A7s (B0 k) 8) 0 25 false (B5P (sub a1g [1,1,0])) 0 (B5Q (A0Z (B0 k) (A7s (B0 k) 8) 0 25 (sub a1g [1,1,1])) (B4C (B0 k) a5A C3)))))) k (b0s a0 a1 a2 a3 a4 a5 (0:Int) [] [] false [] [])))
 (A9j (B0 k) 1 (A0Z (B0 k) (A7s (B0 k) 7) 1 2500260040 (sub a5i [1,1,1,0,1,0,0])) a9K (B4x 0 (B5Q (A0Z (B0 k) (A7s (B0 k) 7) 1 2500260040 (sub a5i [1,1,1,1])) (B4P (B0 k) a9s (some 26) 0 (B5J (B0 k) (A7s (B0 k) 8) 0 25 false (B5P (sub a1g [1,0])) 0 (B5Q (A0Z (B0 k) (A7s (B0 k) 8) 0 25 (sub a1g [1,1])) (B4C (B0 k) a5A C3)))))) k (c2T a0 a1 a2 a3 a4 a5 (0:Int) [] []))):Q71):=by kernel_rfl
theorem d5I(a0:T4)(a1:T4)(a2:B5)(a3:Int)(a4:Int)(a5:Int):fnK (B0 FUEL) 8 25 a5A C3 [.pv K4 a0,.pv K4 a1,.pv K22 a2,.pv E8 a3,.pv E8 a4,.pv E8 a5]=a2z a0 a1 a2 a3 a4 a5:=
 (c9D FUEL a0 a1 a2 a3 a4 a5).trans (B5U (B5U (rfl) ((a8r _ a0 a1 a2 a3 a4 a5 FUEL (0:Int) [] [] false [] []).trans (B5V (fun e0 e1=>H1 e0 e1 a0 a1 a2 a3 a4 a5 FUEL (0:Int) [] [] false [] []) (funext fun A0=>funext fun A4=>funext fun I4=>funext fun D3=>funext fun D4=>(a9J FUEL a0 a1 a2 a3 a4 a5 A0 A4 I4 D3 D4).trans (rfl)) (funext fun A0=>funext fun A4=>funext fun I4=>funext fun D3=>funext fun D4=>(a6V FUEL a0 a1 a2 a3 a4 a5 A0 A4 I4 D3 D4).trans (B5U (rfl) (B5U (rfl) (B5S (fun b4=>B5U (rfl) (B5S (fun b5=>B5U (rfl) (B5S (fun b6=>B5U (rfl) ((a8s _ a2 a3 a4 a5 FUEL (A0,(A4,())) D3 D4 ((0:Int),((0:Int),((0:Int),())))).trans (B5V (fun e0 e1=>I3 e0 e1 a2 a3 a4 a5 FUEL (A0,(A4,())) D3 D4 ((0:Int),((0:Int),((0:Int),())))) (funext fun a4g=>funext fun a7t=>(a9L FUEL a4g a7t).trans (rfl)) (funext fun x14=>(a1M FUEL x14).trans (rfl)))))))))))))))) ((c2S _ a0 a1 a2 a3 a4 a5 FUEL (0:Int) [] []).trans (B5V (fun e0 e1=>S6 e0 e1 a0 a1 a2 a3 a4 a5 FUEL (0:Int) [] []) (funext fun A0=>funext fun A4=>(c6w FUEL a0 a1 a2 a3 a4 a5 A0 A4).trans (B5U (rfl) ((a8r _ a0 a1 a2 a3 a4 a5 FUEL (0:Int) [] [] false A0 A4).trans (B5V (fun e0 e1=>H1 e0 e1 a0 a1 a2 a3 a4 a5 FUEL (0:Int) [] [] false A0 A4) (funext fun A0=>funext fun A4=>funext fun I4=>funext fun D3=>funext fun D4=>(a9J FUEL a0 a1 a2 a3 a4 a5 A0 A4 I4 D3 D4).trans (rfl)) (funext fun A0=>funext fun A4=>funext fun I4=>funext fun D3=>funext fun D4=>(a6V FUEL a0 a1 a2 a3 a4 a5 A0 A4 I4 D3 D4).trans (B5U (rfl) (B5U (rfl) (B5S (fun b4=>B5U (rfl) (B5S (fun b5=>B5U (rfl) (B5S (fun b6=>B5U (rfl) ((a8s _ a2 a3 a4 a5 FUEL (A0,(A4,())) D3 D4 ((0:Int),((0:Int),((0:Int),())))).trans (B5V (fun e0 e1=>I3 e0 e1 a2 a3 a4 a5 FUEL (A0,(A4,())) D3 D4 ((0:Int),((0:Int),((0:Int),())))) (funext fun a4g=>funext fun a7t=>(a9L FUEL a4g a7t).trans (rfl)) (funext fun x14=>(a1M FUEL x14).trans (rfl))))))))))))))))) (funext fun A0=>funext fun A4=>(c0f FUEL a0 a1 a2 a3 a4 a5 A0 A4).trans (B5U (rfl) ((a8r _ a0 a1 a2 a3 a4 a5 FUEL (0:Int) [] [] true A0 A4).trans (B5V (fun e0 e1=>H1 e0 e1 a0 a1 a2 a3 a4 a5 FUEL (0:Int) [] [] true A0 A4) (funext fun A0=>funext fun A4=>funext fun I4=>funext fun D3=>funext fun D4=>(a9J FUEL a0 a1 a2 a3 a4 a5 A0 A4 I4 D3 D4).trans (rfl)) (funext fun A0=>funext fun A4=>funext fun I4=>funext fun D3=>funext fun D4=>(a6V FUEL a0 a1 a2 a3 a4 a5 A0 A4 I4 D3 D4).trans (B5U (rfl) (B5U (rfl) (B5S (fun b4=>B5U (rfl) (B5S (fun b5=>B5U (rfl) (B5S (fun b6=>B5U (rfl) ((a8s _ a2 a3 a4 a5 FUEL (A0,(A4,())) D3 D4 ((0:Int),((0:Int),((0:Int),())))).trans (B5V (fun e0 e1=>I3 e0 e1 a2 a3 a4 a5 FUEL (A0,(A4,())) D3 D4 ((0:Int),((0:Int),((0:Int),())))) (funext fun a4g=>funext fun a7t=>(a9L FUEL a4g a7t).trans (rfl)) (funext fun x14=>(a1M FUEL x14).trans (rfl))))))))))))))))))))
def c7H:Con:={ps:=(.pair K4 (.pair K4 (.pair K22 K9))),sh:=C3,raw:=fun x=>a2z x.1 x.2.1 x.2.2.1 x.2.2.2.1 x.2.2.2.2.1 x.2.2.2.2.2.1}
theorem c9C:A8C D8 25 c7H:=B5n (d2H FUEL) (depth:=8) d8k fun x y h=>(d5I x.1 x.2.1 x.2.2.1 x.2.2.2.1 x.2.2.2.2.1 x.2.2.2.2.2.1).trans h
def d1w(k:Nat):Cx:=y7 [] [] [] [] [] k [] false
theorem d1x(k:Nat):A9E D8 (d1w k):=C4 C5 C5 C5 C5
abbrev a3T:List Sh:=[.pl .bool]
abbrev Q13:Type:=Option (A2K a3T)
def a3j(a0:T9):Q13:=
 (some (decide ((a0.2.1.length:Int)≤(1024:Int))))
theorem d4L(a0:T9):fnK (d1w FUEL) 8 11 d6P a3T [.pv o4 a0]=a3j a0:=by kernel_rfl
def c7n:Con:={ps:=K8,sh:=a3T,raw:=fun x=>a3j x.1}
theorem c8K:A8C D8 11 c7n:=B5n (d1x FUEL) (depth:=8) d7J fun x y h=>(d4L x.1).trans h
def d3d(k:Nat):Cx:=y7 [] [(11,c7n)] [] [] [] k [] false
theorem d3e(k:Nat):A9E D8 (d3d k):=C4 ⟨c8K,C5⟩ C5 C5 C5
abbrev a3a:List Sh:=[.pl .bool]
abbrev Q15:Type:=Option (A2K a3a)
def a1A(a0:T9):Q15:=
 (A1w (a3j a0) fun(b1:Bool)=>(some (!b1)))
theorem d5V(a0:T9):fnK (d3d FUEL) 8 52 d7e a3a [.pv o4 a0]=a1A a0:=by kernel_rfl
def c7R:Con:={ps:=K8,sh:=a3a,raw:=fun x=>a1A x.1}
theorem c9R:A8C D8 52 c7R:=B5n (d3e FUEL) (depth:=8) d8E fun x y h=>(d5V x.1).trans h
def c7l(k:Nat):Cx:=y7 [] [] [] [] [] k [] false
theorem c8G(k:Nat):A9E D8 (c7l k):=C4 C5 C5 C5 C5
abbrev a3X:List Sh:=[.pl (.int .i64)]
abbrev Q36:Type:=Option (A2K a3X)
def H8(a0:A7):Q36:=
 (some (a0.length:Int))
theorem d1r(a0:A7):fnK (c7l FUEL) 8 112 d1q a3X [.pv K26 a0]=H8 a0:=by kernel_rfl
def a7F:Con:={ps:=K20,sh:=a3X,raw:=fun x=>H8 x.1}
theorem a6d:A8C D8 112 a7F:=B5n (c8G FUEL) (depth:=8) d4H fun x y h=>(d1r x.1).trans h
def a7Z:Cut:={keep:=[0,1,8,9],stk:=[],ids:=[90000],own:=[(0,90000,22)],outs:=[(1,[0],[90000])]}
def a2n(k:Nat):Cx:=y7 [] [] [] [] [(159,[(0,a7Z)])] k [] false
theorem c9f(k:Nat):A9E D8 (a2n k):=C4 C5 C5 C5 C5
def b7D(a1:Int)(a2:Int)(x9:Int)(L4:A7):St:={env:=(.sl 90000 k0B:: .pv (.int .u64) a1::(dd 6 (.pv E8 a2:: .pv E8 x9::(dd 12 [])))),stk:=[],heap:=[(90000,.arr 5 k0B L4)]}
def a6z(L4:A7):St:={env:=(.sl 90000 k0B::(dd 21 [])),stk:=[],heap:=[(90000,.arr 5 k0B L4)]}
def O1(rec:Int→A7→Option A7)(ke0:A7→Option A7)(a1:Int)(a2:Int)(x9:Int)(L4:A7):Option A7:=
 (cond (decide (x9<a2))
 (cond (decide ((IntKind.wrap .i64 ((8:Int)*x9))<(0:Int)))
 none
 (cond (decide ((L4.length+1)*1≤140737488355328)&&decide (L4.length+1≤9223372036854775807))
 (rec (IntKind.wrap .i64 (x9+(1:Int))) (L4++[(IntKind.wrap .u8 (B5H .u64 a1 (IntKind.wrap .i64 ((8:Int)*x9))))]))
 none))
 (ke0 L4))
def O0(ke0:A7→Option A7)(a1:Int)(a2:Int):Nat→Int→A7→Option A7
 |0=>fun _ _=>none
 |n+1=>O1 (O0 ke0 a1 a2 n) ke0 a1 a2
def L6(a0:A7)(a1:Int)(a2:Int):Option A7:=
 (O0 (fun L4=>(some L4)) a1 a2 FUEL (0:Int) a0)
def b1F(k:Nat)(K:Ex→St→Option A7)(n:Nat)(a1:Int)(a2:Int)(x9:Int)(L4:A7):Option A7:=A9j (a2n k) 0 (A0Z (a2n k) (A7s (a2n k) 8) 0 159 (sub b3n [1,0,1,0,0])) a7Z K n (b7D a1 a2 x9 L4)
theorem b5M(k:Nat)(L4:A7):((B4x 0 (B5Q (A0Z (a2n k) (A7s (a2n k) 8) 0 159 (sub b3n [1,1])) (B2g (a2n k) b3o 5 (.int .u8)))) (.exit 0) (a6z L4):Option A7)=
 ((some L4):Option A7):=by kernel_rfl
theorem b5N(k:Nat)(K:Ex→St→Option A7)(n:Nat)(a1:Int)(a2:Int)(x9:Int)(L4:A7):(b1F k K (n+1) a1 a2 x9 L4:Option A7)=O1 ((fun x9 L4=>b1F k K n a1 a2 x9 L4)) (fun L4=>K (.exit 0) (a6z L4)) a1 a2 x9 L4:=by kernel_rfl
theorem b9G(K:Ex→St→Option A7)(a1:Int)(a2:Int):∀(n:Nat) (x9:Int) (L4:A7),(b1F FUEL K n a1 a2 x9 L4:Option A7)=O0 (fun L4=>K (.exit 0) (a6z L4)) a1 a2 n x9 L4:=by
 intro n
 induction n with
 |zero=>intros; rfl
 |succ n ih=>
  intro x9 L4
  exact(b5N FUEL K n a1 a2 x9 L4).trans (congrArg (fun f=>O1 f (fun L4=>K (.exit 0) (a6z L4)) a1 a2 x9 L4) (funext fun x9=>funext fun L4=>ih x9 L4))
theorem c5S(k:Nat)(a0:A7)(a1:Int)(a2:Int):B5M (a2n k) 8 159 b3o 5 (.int .u8) a0 [.pv (.int .u64) a1,.pv E8 a2]=
 ((A9j (a2n k) 0 (A0Z (a2n k) (A7s (a2n k) 8) 0 159 (sub b3n [1,0,1,0,0])) a7Z (B4x 0 (B5Q (A0Z (a2n k) (A7s (a2n k) 8) 0 159 (sub b3n [1,1])) (B2g (a2n k) b3o 5 (.int .u8)))) k (b7D a1 a2 (0:Int) a0)):Option A7):=by kernel_rfl
theorem d1Z(a0:A7)(a1:Int)(a2:Int):B5M (a2n FUEL) 8 159 b3o 5 (.int .u8) a0 [.pv (.int .u64) a1,.pv E8 a2]=L6 a0 a1 a2:=
 (c5S FUEL a0 a1 a2).trans ((b9G _ a1 a2 FUEL (0:Int) a0).trans (congrArg (fun e0=>O0 e0 a1 a2 FUEL (0:Int) a0) (funext fun L4=>(b5M FUEL L4).trans (rfl))))
def b3p:A5M:={E:=5,e:=(.int .u8),ps:=(.pair (.int .u64) K24),raw:=fun x q=>L6 x q.1 q.2.1}
theorem b3q:A6I D8 159 b3p:=B5r (c9f FUEL) (depth:=8) d5k rfl fun xs q z h=>(d1Z xs q.1 q.2.1).trans h
def a7M:Cut:={keep:=[0,3],stk:=[],ids:=[90030],own:=[(3,90030,22)],outs:=[(1,[0,3],[90030])]}
def a2h(k:Nat):Cx:=y7 [] [(112,a7F)] [(159,b3p)] [] [(130,[(0,a7M)])] k [] false
theorem c8P(k:Nat):A9E D8 (a2h k):=C4 ⟨a6d,C5⟩ ⟨b3q,C5⟩ C5 C5
abbrev a0j:List Sh:=[.own 5 (.int .u8)]
abbrev Q27:Type:=Option (A2K a0j)
def b7o(a0:Int)(B9:A7):St:={env:=(.pv E8 a0:: .dead:: .dead:: .sl 90030 k0B::(dd 14 [])),stk:=[],heap:=[(90030,.arr 5 k0B B9)]}
def a6l(a0:Int)(B9:A7):St:={env:=(.pv E8 a0:: .dead:: .dead:: .sl 90030 k0B::(dd 14 [])),stk:=[],heap:=[(90030,.arr 5 k0B B9)]}
def Z6(rec:A7→Q27)(ke0:A7→Q27)(a0:Int)(B9:A7):Q27:=
 (A1w (H8 B9) fun(b2:Int)=>(cond (!(decide ((Int.tmod (IntKind.wrap .i64 (a0+b2)) (32:Int))=(24:Int))))
 (cond (decide ((B9.length+1)*1≤140737488355328)&&decide (B9.length+1≤9223372036854775807))
 (rec (B9++[(0:Int)]))
 none)
 (ke0 B9)))
def Z5(ke0:A7→Q27)(a0:Int):Nat→A7→Q27
 |0=>fun _=>none
 |n+1=>Z6 (Z5 ke0 a0 n) ke0 a0
def a3b(a0:Int):Q27:=
 (Z5 (fun B9=>(A1w (L6 B9 (IntKind.wrap .u64 a0) (8:Int)) fun(b3:A7)=>(some b3))) a0 FUEL [(128:Int)])
def b1o(k:Nat)(K:Ex→St→Q27)(n:Nat)(a0:Int)(B9:A7):Q27:=A9j (a2h k) 0 (A0Z (a2h k) (A7s (a2h k) 8) 0 130 (sub b3a [1,1,0,0,0])) a7M K n (b7o a0 B9)
theorem b5i(k:Nat)(a0:Int)(B9:A7):((B4x 0 (B5Q (A0Z (a2h k) (A7s (a2h k) 8) 0 130 (sub b3a [1,1,1])) (B4C (a2h k) b3b a0j))) (.exit 0) (a6l a0 B9):Q27)=
 ((A1w (L6 B9 (IntKind.wrap .u64 a0) (8:Int)) fun(b3:A7)=>(some b3)):Q27):=by kernel_rfl
theorem b5j(k:Nat)(K:Ex→St→Q27)(n:Nat)(a0:Int)(B9:A7):(b1o k K (n+1) a0 B9:Q27)=Z6 ((fun B9=>b1o k K n a0 B9)) (fun B9=>K (.exit 0) (a6l a0 B9)) a0 B9:=by kernel_rfl
theorem b9r(K:Ex→St→Q27)(a0:Int):∀(n:Nat) (B9:A7),(b1o FUEL K n a0 B9:Q27)=Z5 (fun B9=>K (.exit 0) (a6l a0 B9)) a0 n B9:=by
 intro n
 induction n with
 |zero=>intros; rfl
 |succ n ih=>
  intro B9
  exact(b5j FUEL K n a0 B9).trans (congrArg (fun f=>Z6 f (fun B9=>K (.exit 0) (a6l a0 B9)) a0 B9) (funext fun B9=>ih B9))
theorem c5r(k:Nat)(a0:Int):fnK (a2h k) 8 130 b3b a0j [.pv E8 a0]=
 ((A9j (a2h k) 0 (A0Z (a2h k) (A7s (a2h k) 8) 0 130 (sub b3a [1,1,0,0,0])) a7M (B4x 0 (B5Q (A0Z (a2h k) (A7s (a2h k) 8) 0 130 (sub b3a [1,1,1])) (B4C (a2h k) b3b a0j))) k (b7o a0 [(128:Int)])):Q27):=by kernel_rfl
theorem d1D(a0:Int):fnK (a2h FUEL) 8 130 b3b a0j [.pv E8 a0]=a3b a0:=
 (c5r FUEL a0).trans ((b9r _ a0 FUEL [(128:Int)]).trans (congrArg (fun e0=>Z5 e0 a0 FUEL [(128:Int)]) (funext fun B9=>(b5i FUEL a0 B9).trans (rfl))))
def c2e:Con:={ps:=K24,sh:=a0j,raw:=fun x=>a3b x.1}
theorem c5q:A8C D8 130 c2e:=B5n (c8P FUEL) (depth:=8) d4S fun x y h=>(d1D x.1).trans h
def a7K:Cut:={keep:=[0,3,9,10,11],stk:=[],ids:=[],own:=[],outs:=[(1,[0,3],[])]}
def a7L:Cut:={keep:=[6,25,26,27],stk:=[],ids:=[90060],own:=[(6,90060,22)],outs:=[(3,[6],[90060])]}
def U2(k:Nat):Cx:=y7 [] [] [(158,c2w)] [] [(129,[(0,a7K),(2,a7L)])] k [] false
theorem c8O(k:Nat):A9E D8 (U2 k):=C4 C5 ⟨c5R,C5⟩ C5 C5
abbrev G3:List Sh:=[.own 5 (.int .u8)]
abbrev Q68:Type:=Option (A2K G3)
def b7m(a0:B5)(x3:Int)(M9:Int):St:={env:=(.pv K23 a0:: .dead:: .dead:: .pv E8 x3::(dd 5 (.pv K23 a0:: .pv E8 (a0.length:Int):: .pv E8 M9::(dd 24 [])))),stk:=[],heap:=[]}
def a6j(a0:B5)(x3:Int):St:={env:=(.pv K23 a0:: .dead:: .dead:: .pv E8 x3::(dd 32 [])),stk:=[],heap:=[]}
def b7n(a0:B5)(H6:A7)(x27:Int):St:={env:=(dd 6 (.sl 90060 k0B::(dd 18 (.pv K23 a0:: .pv E8 (a0.length:Int):: .pv E8 x27::(dd 8 []))))),stk:=[],heap:=[(90060,.arr 5 k0B H6)]}
def a6k(H6:A7):St:={env:=(dd 6 (.sl 90060 k0B::(dd 29 []))),stk:=[],heap:=[(90060,.arr 5 k0B H6)]}
def I2(rec:A7→Int→Q68)(ke2:A7→Q68)(a0:B5)(H6:A7)(x27:Int):Q68:=
 (cond (decide (x27<(a0.length:Int)))
 (cond ((decide ((0:Int)≤x27))&&(decide (x27<(a0.length:Int))))
 (cond (decide ((H6.length+(a0.getD (x27.toNat) []).length)*1≤140737488355328)&&decide (H6.length+(a0.getD (x27.toNat) []).length≤9223372036854775807))
 (rec (H6++(a0.getD (x27.toNat) [])) (IntKind.wrap .i64 (x27+(1:Int))))
 none)
 none)
 (ke2 H6))
def E9(ke2:A7→Q68)(a0:B5):Nat→A7→Int→Q68
 |0=>fun _ _=>none
 |n+1=>I2 (E9 ke2 a0 n) ke2 a0
def I1(rec:Int→Int→Q68)(ke0:Int→Q68)(a0:B5)(x3:Int)(M9:Int):Q68:=
 (cond (decide (M9<(a0.length:Int)))
 (cond ((decide ((0:Int)≤M9))&&(decide (M9<(a0.length:Int))))
 (cond (decide ((IntKind.wrap .i64 (x3+((a0.getD (M9.toNat) []).length:Int)))<(0:Int)))
 none
 (rec (IntKind.wrap .i64 (x3+((a0.getD (M9.toNat) []).length:Int))) (IntKind.wrap .i64 (M9+(1:Int)))))
 none)
 (ke0 x3))
def F8(ke0:Int→Q68)(a0:B5):Nat→Int→Int→Q68
 |0=>fun _ _=>none
 |n+1=>I1 (F8 ke0 a0 n) ke0 a0
def U6(a0:B5):Q68:=
 (F8 (fun x3=>(A1w (W6 [] x3) fun(b1:A7)=>(E9 (fun H6=>(some H6)) a0 FUEL b1 (0:Int)))) a0 FUEL (0:Int) (0:Int))
def b1n(k:Nat)(K:Ex→St→Q68)(n:Nat)(a0:B5)(H6:A7)(x27:Int):Q68:=A9j (U2 k) 0 (A0Z (U2 k) (A7s (U2 k) 8) 0 129 (sub a6i [1,1,1,1,0,1,0,0])) a7L K n (b7n a0 H6 x27)
theorem b5g(k:Nat)(H6:A7):((B4x 2 (B5Q (A0Z (U2 k) (A7s (U2 k) 8) 0 129 (sub a6i [1,1,1,1,1])) (B4C (U2 k) a9y G3))) (.exit 2) (a6k H6):Q68)=
 ((some H6):Q68):=by kernel_rfl
theorem b5h(k:Nat)(K:Ex→St→Q68)(n:Nat)(a0:B5)(H6:A7)(x27:Int):(b1n k K (n+1) a0 H6 x27:Q68)=I2 ((fun H6 x27=>b1n k K n a0 H6 x27)) (fun H6=>K (.exit 2) (a6k H6)) a0 H6 x27:=by kernel_rfl
theorem b9q(K:Ex→St→Q68)(a0:B5):∀(n:Nat) (H6:A7) (x27:Int),(b1n FUEL K n a0 H6 x27:Q68)=E9 (fun H6=>K (.exit 2) (a6k H6)) a0 n H6 x27:=by
 intro n
 induction n with
 |zero=>intros; rfl
 |succ n ih=>
  intro H6 x27
  exact(b5h FUEL K n a0 H6 x27).trans (congrArg (fun f=>I2 f (fun H6=>K (.exit 2) (a6k H6)) a0 H6 x27) (funext fun H6=>funext fun x27=>ih H6 x27))
def b1m(k:Nat)(K:Ex→St→Q68)(n:Nat)(a0:B5)(x3:Int)(M9:Int):Q68:=A9j (U2 k) 0 (A0Z (U2 k) (A7s (U2 k) 8) 0 129 (sub a6i [1,1,0,1,0,0])) a7K K n (b7m a0 x3 M9)
theorem b5e(k:Nat)(a0:B5)(x3:Int):((B4x 0 (B5Q (A0Z (U2 k) (A7s (U2 k) 8) 0 129 (sub a6i [1,1,1])) (B4C (U2 k) a9y G3))) (.exit 0) (a6j a0 x3):Q68)=
 ((A1w (W6 [] x3) fun(b1:A7)=>(A9j (U2 k) 0 (A0Z (U2 k) (A7s (U2 k) 8) 0 129 (sub a6i [1,1,1,1,0,1,0,0])) a7L (B4x 2 (B5Q (A0Z (U2 k) (A7s (U2 k) 8) 0 129 (sub a6i [1,1,1,1,1])) (B4C (U2 k) a9y G3))) k (b7n a0 b1 (0:Int)))):Q68):=by kernel_rfl
theorem b5f(k:Nat)(K:Ex→St→Q68)(n:Nat)(a0:B5)(x3:Int)(M9:Int):(b1m k K (n+1) a0 x3 M9:Q68)=I1 ((fun x3 M9=>b1m k K n a0 x3 M9)) (fun x3=>K (.exit 0) (a6j a0 x3)) a0 x3 M9:=by kernel_rfl
theorem b9p(K:Ex→St→Q68)(a0:B5):∀(n:Nat) (x3:Int) (M9:Int),(b1m FUEL K n a0 x3 M9:Q68)=F8 (fun x3=>K (.exit 0) (a6j a0 x3)) a0 n x3 M9:=by
 intro n
 induction n with
 |zero=>intros; rfl
 |succ n ih=>
  intro x3 M9
  exact(b5f FUEL K n a0 x3 M9).trans (congrArg (fun f=>I1 f (fun x3=>K (.exit 0) (a6j a0 x3)) a0 x3 M9) (funext fun x3=>funext fun M9=>ih x3 M9))
theorem c5p(k:Nat)(a0:B5):fnK (U2 k) 8 129 a9y G3 [.pv K23 a0]=
 ((A9j (U2 k) 0 (A0Z (U2 k) (A7s (U2 k) 8) 0 129 (sub a6i [1,1,0,1,0,0])) a7K (B4x 0 (B5Q (A0Z (U2 k) (A7s (U2 k) 8) 0 129 (sub a6i [1,1,1])) (B4C (U2 k) a9y G3))) k (b7m a0 (0:Int) (0:Int))):Q68):=by kernel_rfl
theorem d1C(a0:B5):fnK (U2 FUEL) 8 129 a9y G3 [.pv K23 a0]=U6 a0:=
 (c5p FUEL a0).trans ((b9p _ a0 FUEL (0:Int) (0:Int)).trans (congrArg (fun e0=>F8 e0 a0 FUEL (0:Int) (0:Int)) (funext fun x3=>(b5e FUEL a0 x3).trans (B5S (fun b1=>(b9q _ a0 FUEL b1 (0:Int)).trans (congrArg (fun e0=>E9 e0 a0 FUEL b1 (0:Int)) (funext fun H6=>(b5g FUEL H6).trans (rfl))))))))
def c2d:Con:={ps:=(.pair K23 .unit),sh:=G3,raw:=fun x=>U6 x.1}
theorem c5o:A8C D8 129 c2d:=B5n (c8O FUEL) (depth:=8) d4R fun x y h=>(d1C x.1).trans h
def a7J:Cut:={keep:=[0,4],stk:=[],ids:=[90040],own:=[(4,90040,56)],outs:=[(1,[0,4],[90040])]}
def a2g(k:Nat):Cx:=y7 [] [] [] [] [(128,[(0,a7J)])] k [] false
theorem c8N(k:Nat):A9E D8 (a2g k):=C4 C5 C5 C5 C5
abbrev a1D:List Sh:=[.own 31 (.arr 32 k0B),.pl K26]
abbrev Q17:Type:=Option (A2K a1D)
def b7l(x0:A7)(L5:B5):St:={env:=(.pv K26 x0::(dd 3 (.sl 90040 D9::(dd 14 [])))),stk:=[],heap:=[(90040,.arr 31 D9 L5)]}
def a6h(x0:A7)(L5:B5):St:={env:=(.pv K26 x0::(dd 3 (.sl 90040 D9::(dd 14 [])))),stk:=[],heap:=[(90040,.arr 31 D9 L5)]}
def p7(rec:A7→B5→Q17)(ke0:A7→B5→Q17)(x0:A7)(L5:B5):Q17:=
 (cond (decide ((32:Int)≤(x0.length:Int)))
 (cond (decide (32≤x0.length))
 (cond (decide ((L5.length+1)*32≤140737488355328)&&decide (L5.length+1≤9223372036854775807))
 (cond (decide ((32:Int)≤(x0.length:Int)))
 (rec (A3F x0 32 (x0.length)) (L5++[(x0.take 32)]))
 none)
 none)
 none)
 (ke0 x0 L5))
def p6(ke0:A7→B5→Q17):Nat→A7→B5→Q17
 |0=>fun _ _=>none
 |n+1=>p7 (p6 ke0 n) ke0
def a3v(a0:A7):Q17:=
 (p6 (fun x0 L5=>(some (L5,x0))) FUEL a0 [])
def b1l(k:Nat)(K:Ex→St→Q17)(n:Nat)(x0:A7)(L5:B5):Q17:=A9j (a2g k) 0 (A0Z (a2g k) (A7s (a2g k) 8) 0 128 (sub b2Y [1,1,0,0,0])) a7J K n (b7l x0 L5)
theorem b5c(k:Nat)(x0:A7)(L5:B5):((B4x 0 (B5Q (A0Z (a2g k) (A7s (a2g k) 8) 0 128 (sub b2Y [1,1,1])) (B4C (a2g k) b2Z a1D))) (.exit 0) (a6h x0 L5):Q17)=
 ((some (L5,x0)):Q17):=by kernel_rfl
theorem b5d(k:Nat)(K:Ex→St→Q17)(n:Nat)(x0:A7)(L5:B5):(b1l k K (n+1) x0 L5:Q17)=p7 ((fun x0 L5=>b1l k K n x0 L5)) (fun x0 L5=>K (.exit 0) (a6h x0 L5)) x0 L5:=by kernel_rfl
theorem b9o(K:Ex→St→Q17):∀(n:Nat) (x0:A7) (L5:B5),(b1l FUEL K n x0 L5:Q17)=p6 (fun x0 L5=>K (.exit 0) (a6h x0 L5)) n x0 L5:=by
 intro n
 induction n with
 |zero=>intros; rfl
 |succ n ih=>
  intro x0 L5
  exact(b5d FUEL K n x0 L5).trans (congrArg (fun f=>p7 f (fun x0 L5=>K (.exit 0) (a6h x0 L5)) x0 L5) (funext fun x0=>funext fun L5=>ih x0 L5))
theorem c5n(k:Nat)(a0:A7):fnK (a2g k) 8 128 b2Z a1D [.pv K26 a0]=
 ((A9j (a2g k) 0 (A0Z (a2g k) (A7s (a2g k) 8) 0 128 (sub b2Y [1,1,0,0,0])) a7J (B4x 0 (B5Q (A0Z (a2g k) (A7s (a2g k) 8) 0 128 (sub b2Y [1,1,1])) (B4C (a2g k) b2Z a1D))) k (b7l a0 [])):Q17):=by kernel_rfl
theorem d1B(a0:A7):fnK (a2g FUEL) 8 128 b2Z a1D [.pv K26 a0]=a3v a0:=
 (c5n FUEL a0).trans ((b9o _ FUEL a0 []).trans (congrArg (fun e0=>p6 e0 FUEL a0 []) (funext fun x0=>funext fun L5=>(b5c FUEL x0 L5).trans (rfl))))
def c2c:Con:={ps:=K20,sh:=a1D,raw:=fun x=>a3v x.1}
theorem c5m:A8C D8 128 c2c:=B5n (c8N FUEL) (depth:=8) d4Q fun x y h=>(d1B x.1).trans h
def a7P:Cut:={keep:=[0,2,3,6],stk:=[],ids:=[20,30],own:=[],outs:=[(1,[2,3],[20,30])]}
def a2k(k:Nat):Cx:=y7 [] [] [] [] [(133,[(0,a7P)])] k [] false
theorem c8S(k:Nat):A9E D8 (a2k k):=C4 C5 C5 C5 C5
abbrev o9:List Sh:=[.pl (.arr 8 (.int .u32))]
abbrev Q11:Type:=Option (A2K o9)
def b7r(a0:Int)(x6:Int)(G9:A7):St:={env:=(.pv k0B a0:: .dead:: .ptr 20 G7 []:: .ptr 30 G7 []:: .dead:: .dead:: .pv E8 x6::(dd 13 [])),stk:=[],heap:=[(20,.var G7 (.pv G7 (List.replicate 8 (0:Int)))),(30,.var G7 (.pv G7 G9))]}
def a6o(G9:A7):St:={env:=(.dead:: .dead:: .ptr 20 G7 []:: .ptr 30 G7 []::(dd 16 [])),stk:=[],heap:=[(20,.var G7 (.pv G7 (List.replicate 8 (0:Int)))),(30,.var G7 (.pv G7 G9))]}
def w8(rec:Int→A7→Q11)(ke0:A7→Q11)(a0:Int)(x6:Int)(G9:A7):Q11:=
 (cond (decide (x6<(8:Int)))
 (cond ((decide ((0:Int)≤x6))&&(decide (x6<(8:Int))))
 (rec (IntKind.wrap .i64 (x6+(1:Int))) (G9.set (x6.toNat) (IntKind.wrap .u32 ((IntKind.wrap .u32 ((16777619:Int)*(IntKind.wrap .u32 (IntKind.wrap .i64 (x6+(1:Int))))))+(IntKind.wrap .u32 a0)))))
 none)
 (ke0 G9))
def Y3(ke0:A7→Q11)(a0:Int):Nat→Int→A7→Q11
 |0=>fun _ _=>none
 |n+1=>w8 (Y3 ke0 a0 n) ke0 a0
def a1r(a0:Int):Q11:=
 (Y3 (fun G9=>(some G9)) a0 FUEL (0:Int) (List.replicate 8 (0:Int)))
def b1r(k:Nat)(K:Ex→St→Q11)(n:Nat)(a0:Int)(x6:Int)(G9:A7):Q11:=A9j (a2k k) 0 (A0Z (a2k k) (A7s (a2k k) 8) 0 133 (sub b3g [1,1,0,1,0,0])) a7P K n (b7r a0 x6 G9)
theorem b5o(k:Nat)(G9:A7):((B4x 0 (B5Q (A0Z (a2k k) (A7s (a2k k) 8) 0 133 (sub b3g [1,1,1])) (B4C (a2k k) b3h o9))) (.exit 0) (a6o G9):Q11)=
 ((some G9):Q11):=by kernel_rfl
theorem b5p(k:Nat)(K:Ex→St→Q11)(n:Nat)(a0:Int)(x6:Int)(G9:A7):(b1r k K (n+1) a0 x6 G9:Q11)=w8 ((fun x6 G9=>b1r k K n a0 x6 G9)) (fun G9=>K (.exit 0) (a6o G9)) a0 x6 G9:=by kernel_rfl
theorem b9u(K:Ex→St→Q11)(a0:Int):∀(n:Nat) (x6:Int) (G9:A7),(b1r FUEL K n a0 x6 G9:Q11)=Y3 (fun G9=>K (.exit 0) (a6o G9)) a0 n x6 G9:=by
 intro n
 induction n with
 |zero=>intros; rfl
 |succ n ih=>
  intro x6 G9
  exact(b5p FUEL K n a0 x6 G9).trans (congrArg (fun f=>w8 f (fun G9=>K (.exit 0) (a6o G9)) a0 x6 G9) (funext fun x6=>funext fun G9=>ih x6 G9))
theorem c5x(k:Nat)(a0:Int):fnK (a2k k) 8 133 b3h o9 [.pv k0B a0]=
 ((A9j (a2k k) 0 (A0Z (a2k k) (A7s (a2k k) 8) 0 133 (sub b3g [1,1,0,1,0,0])) a7P (B4x 0 (B5Q (A0Z (a2k k) (A7s (a2k k) 8) 0 133 (sub b3g [1,1,1])) (B4C (a2k k) b3h o9))) k (b7r a0 (0:Int) (List.replicate 8 (0:Int)))):Q11):=by kernel_rfl
theorem d1G(a0:Int):fnK (a2k FUEL) 8 133 b3h o9 [.pv k0B a0]=a1r a0:=
 (c5x FUEL a0).trans ((b9u _ a0 FUEL (0:Int) (List.replicate 8 (0:Int))).trans (congrArg (fun e0=>Y3 e0 a0 FUEL (0:Int) (List.replicate 8 (0:Int))) (funext fun G9=>(b5o FUEL G9).trans (rfl))))
def c2h:Con:={ps:=K25,sh:=o9,raw:=fun x=>a1r x.1}
theorem c5w:A8C D8 133 c2h:=B5n (c8S FUEL) (depth:=8) d4V fun x y h=>(d1G x.1).trans h
def a8p:Cut:={keep:=[3,6,7,8],stk:=[],ids:=[],own:=[],outs:=[(1,[3],[])]}
def a2r(k:Nat):Cx:=y7 [] [] [] [] [(185,[(0,a8p)])] k [] false
theorem c9s(k:Nat):A9E D8 (a2r k):=C4 C5 C5 C5 C5
abbrev Y4:List Sh:=[.pl (.int .u64)]
abbrev Q25:Type:=Option (A2K Y4)
def b7W(a0:A7)(x3:Int)(x8:Int):St:={env:=(dd 3 (.pv (.int .u64) x3:: .dead:: .dead:: .pv K26 a0:: .pv E8 (a0.length:Int):: .pv E8 x8::(dd 13 []))),stk:=[],heap:=[]}
def a6T(x3:Int):St:={env:=(dd 3 (.pv (.int .u64) x3::(dd 18 []))),stk:=[],heap:=[]}
def a0A(rec:Int→Int→Q25)(ke0:Int→Q25)(a0:A7)(x3:Int)(x8:Int):Q25:=
 (cond (decide (x8<(a0.length:Int)))
 (cond ((decide ((0:Int)≤x8))&&(decide (x8<(a0.length:Int))))
 (cond (decide ((IntKind.wrap .i64 ((8:Int)*x8))<(0:Int)))
 none
 (rec (A6l .or .u64 x3 (B5G .u64 (IntKind.wrap .u64 (a0.getD (x8.toNat) (0:Int))) (IntKind.wrap .i64 ((8:Int)*x8)))) (IntKind.wrap .i64 (x8+(1:Int)))))
 none)
 (ke0 x3))
def Z4(ke0:Int→Q25)(a0:A7):Nat→Int→Int→Q25
 |0=>fun _ _=>none
 |n+1=>a0A (Z4 ke0 a0 n) ke0 a0
def a0w(a0:A7):Q25:=
 (Z4 (fun x3=>(some x3)) a0 FUEL (0:Int) (0:Int))
def b1Y(k:Nat)(K:Ex→St→Q25)(n:Nat)(a0:A7)(x3:Int)(x8:Int):Q25:=A9j (a2r k) 0 (A0Z (a2r k) (A7s (a2r k) 8) 0 185 (sub b3C [1,1,0,1,0,0])) a8p K n (b7W a0 x3 x8)
theorem b6y(k:Nat)(x3:Int):((B4x 0 (B5Q (A0Z (a2r k) (A7s (a2r k) 8) 0 185 (sub b3C [1,1,1])) (B4C (a2r k) b3D Y4))) (.exit 0) (a6T x3):Q25)=
 ((some x3):Q25):=by kernel_rfl
theorem b6z(k:Nat)(K:Ex→St→Q25)(n:Nat)(a0:A7)(x3:Int)(x8:Int):(b1Y k K (n+1) a0 x3 x8:Q25)=a0A ((fun x3 x8=>b1Y k K n a0 x3 x8)) (fun x3=>K (.exit 0) (a6T x3)) a0 x3 x8:=by kernel_rfl
theorem c0c(K:Ex→St→Q25)(a0:A7):∀(n:Nat) (x3:Int) (x8:Int),(b1Y FUEL K n a0 x3 x8:Q25)=Z4 (fun x3=>K (.exit 0) (a6T x3)) a0 n x3 x8:=by
 intro n
 induction n with
 |zero=>intros; rfl
 |succ n ih=>
  intro x3 x8
  exact(b6z FUEL K n a0 x3 x8).trans (congrArg (fun f=>a0A f (fun x3=>K (.exit 0) (a6T x3)) a0 x3 x8) (funext fun x3=>funext fun x8=>ih x3 x8))
theorem c6n(k:Nat)(a0:A7):fnK (a2r k) 8 185 b3D Y4 [.pv K26 a0]=
 ((A9j (a2r k) 0 (A0Z (a2r k) (A7s (a2r k) 8) 0 185 (sub b3C [1,1,0,1,0,0])) a8p (B4x 0 (B5Q (A0Z (a2r k) (A7s (a2r k) 8) 0 185 (sub b3C [1,1,1])) (B4C (a2r k) b3D Y4))) k (b7W a0 (0:Int) (0:Int))):Q25):=by kernel_rfl
theorem d2o(a0:A7):fnK (a2r FUEL) 8 185 b3D Y4 [.pv K26 a0]=a0w a0:=
 (c6n FUEL a0).trans ((c0c _ a0 FUEL (0:Int) (0:Int)).trans (congrArg (fun e0=>Z4 e0 a0 FUEL (0:Int) (0:Int)) (funext fun x3=>(b6y FUEL x3).trans (rfl))))
def c2K:Con:={ps:=K20,sh:=Y4,raw:=fun x=>a0w x.1}
theorem c6m:A8C D8 185 c2K:=B5n (c9s FUEL) (depth:=8) d5x fun x y h=>(d2o x.1).trans h
def c7z(k:Nat):Cx:=y7 [] [] [] [] [] k [] false
theorem c9t(k:Nat):A9E D8 (c7z k):=C4 C5 C5 C5 C5
abbrev a1i:List Sh:=[.pl (.int .u32)]
abbrev Q62:Type:=Option (A2K a1i)
def O9(a0:Int)(a1:Int):Q62:=
 (cond (decide ((A6l .and .u64 (IntKind.wrap .u64 a1) (31:Int))<(0:Int)))
 none
 (cond (decide ((IntKind.wrap .u64 ((32:Int)-(A6l .and .u64 (IntKind.wrap .u64 a1) (31:Int))))<(0:Int)))
 none
 (some (A6l .or .u32 (B5G .u32 a0 (A6l .and .u64 (IntKind.wrap .u64 a1) (31:Int))) (B5H .u32 a0 (IntKind.wrap .u64 ((32:Int)-(A6l .and .u64 (IntKind.wrap .u64 a1) (31:Int)))))))))
theorem d2q(a0:Int)(a1:Int):fnK (c7z FUEL) 8 186 d2p a1i [.pv (.int .u32) a0,.pv E8 a1]=O9 a0 a1:=by kernel_rfl
def c2L:Con:={ps:=(.pair (.int .u32) K24),sh:=a1i,raw:=fun x=>O9 x.1 x.2.1}
theorem c6o:A8C D8 186 c2L:=B5n (c9t FUEL) (depth:=8) d5y fun x y h=>(d2q x.1 x.2.1).trans h
def a8a:Cut:={keep:=[2,3,4,5,14],stk:=[],ids:=[20,30,40,50],own:=[],outs:=[(1,[2,4,5],[20,40,50])]}
def a1Z:Cut:={keep:=[2,4,5,7,29],stk:=[],ids:=[20,40,50,70],own:=[],outs:=[(3,[2,4,7],[20,40,70])]}
def a8b:Cut:={keep:=[2,4,5,7,8,29,32],stk:=[],ids:=[20,40,50,70],own:=[],outs:=[(5,[2,4,5,7,29],[20,40,50,70])]}
def a8c:Cut:={keep:=[2,4,7,74],stk:=[],ids:=[20,40,70],own:=[],outs:=[(7,[4,7],[40,70])]}
def E7(k:Nat):Cx:=y7 [] [(185,c2K),(186,c2L)] [] [] [(160,[(0,a8a),(2,a1Z),(4,a8b),(6,a8c)])] k [] false
theorem c9g(k:Nat):A9E D8 (E7 k):=C4 ⟨c6m,c6o,C5⟩ C5 C5 C5
abbrev H7:List Sh:=[.pl (.arr 8 (.int .u32))]
abbrev Q8:Type:=Option (A2K H7)
def b7E(a0:A7)(a1:A7)(x14:Int)(G4:A7):St:={env:=(.dead:: .dead:: .ptr 20 G7 []:: .ptr 30 D9 []:: .ptr 40 G7 []:: .ptr 50 G7 []::(dd 8 (.pv E8 x14::(dd 72 [])))),stk:=[],heap:=[(20,.var G7 (.pv G7 a0)),(30,.var D9 (.pv D9 a1)),(40,.var G7 (.pv G7 (List.replicate 8 (0:Int)))),(50,.var G7 (.pv G7 G4))]}
def a6B(a0:A7)(G4:A7):St:={env:=(.dead:: .dead:: .ptr 20 G7 []:: .dead:: .ptr 40 G7 []:: .ptr 50 G7 []::(dd 81 [])),stk:=[],heap:=[(20,.var G7 (.pv G7 a0)),(40,.var G7 (.pv G7 (List.replicate 8 (0:Int)))),(50,.var G7 (.pv G7 G4))]}
def b1H(a0:A7)(G4:A7)(x29:Int)(y8:A7):St:={env:=(.dead:: .dead:: .ptr 20 G7 []:: .dead:: .ptr 40 G7 []:: .ptr 50 G7 []:: .dead:: .ptr 70 G7 []::(dd 21 (.pv E8 x29::(dd 57 [])))),stk:=[],heap:=[(20,.var G7 (.pv G7 a0)),(40,.var G7 (.pv G7 (List.replicate 8 (0:Int)))),(50,.var G7 (.pv G7 G4)),(70,.var G7 (.pv G7 y8))]}
def a9D(a0:A7)(y8:A7):St:={env:=(.dead:: .dead:: .ptr 20 G7 []:: .dead:: .ptr 40 G7 []:: .dead:: .dead:: .ptr 70 G7 []::(dd 79 [])),stk:=[],heap:=[(20,.var G7 (.pv G7 a0)),(40,.var G7 (.pv G7 (List.replicate 8 (0:Int)))),(70,.var G7 (.pv G7 y8))]}
def b7G(a0:A7)(G4:A7)(x29:Int)(x32:Int)(y8:A7):St:={env:=(.dead:: .dead:: .ptr 20 G7 []:: .dead:: .ptr 40 G7 []:: .ptr 50 G7 []:: .dead:: .ptr 70 G7 []:: .pv E8 x29::(dd 20 (.pv E8 x29:: .dead:: .dead:: .pv E8 x32::(dd 54 [])))),stk:=[],heap:=[(20,.var G7 (.pv G7 a0)),(40,.var G7 (.pv G7 (List.replicate 8 (0:Int)))),(50,.var G7 (.pv G7 G4)),(70,.var G7 (.pv G7 y8))]}
def a6C(a0:A7)(G4:A7)(x29:Int)(y8:A7):St:={env:=(.dead:: .dead:: .ptr 20 G7 []:: .dead:: .ptr 40 G7 []:: .ptr 50 G7 []:: .dead:: .ptr 70 G7 []::(dd 21 (.pv E8 x29::(dd 57 [])))),stk:=[],heap:=[(20,.var G7 (.pv G7 a0)),(40,.var G7 (.pv G7 (List.replicate 8 (0:Int)))),(50,.var G7 (.pv G7 G4)),(70,.var G7 (.pv G7 y8))]}
def b7H(a0:A7)(y8:A7)(x74:Int):St:={env:=(.dead:: .dead:: .ptr 20 G7 []:: .dead:: .ptr 40 G7 []:: .dead:: .dead:: .ptr 70 G7 []::(dd 66 (.pv E8 x74::(dd 12 [])))),stk:=[],heap:=[(20,.var G7 (.pv G7 a0)),(40,.var G7 (.pv G7 (List.replicate 8 (0:Int)))),(70,.var G7 (.pv G7 y8))]}
def a6D(y8:A7):St:={env:=(dd 4 (.ptr 40 G7 []:: .dead:: .dead:: .ptr 70 G7 []::(dd 79 []))),stk:=[],heap:=[(40,.var G7 (.pv G7 (List.replicate 8 (0:Int)))),(70,.var G7 (.pv G7 y8))]}
def a0R(rec:A7→Int→Q8)(ke6:A7→Q8)(a0:A7)(y8:A7)(x74:Int):Q8:=
 (cond (decide (x74<(8:Int)))
 (cond ((decide ((0:Int)≤x74))&&(decide (x74<(8:Int))))
 (cond ((decide ((0:Int)≤x74))&&(decide (x74<(8:Int))))
 (cond ((decide ((0:Int)≤x74))&&(decide (x74<(8:Int))))
 (rec (y8.set (x74.toNat) (A6l .xor .u32 (y8.getD (x74.toNat) (0:Int)) (a0.getD (x74.toNat) (0:Int)))) (IntKind.wrap .i64 (x74+(1:Int))))
 none)
 none)
 none)
 (ke6 y8))
def X5(ke6:A7→Q8)(a0:A7):Nat→A7→Int→Q8
 |0=>fun _ _=>none
 |n+1=>a0R (X5 ke6 a0 n) ke6 a0
def a0Q(rec:Int→A7→Q8)(ke4:A7→Q8)(a0:A7)(G4:A7)(x29:Int)(x32:Int)(y8:A7):Q8:=
 (cond (decide (x32<(8:Int)))
 (cond ((decide ((0:Int)≤x32))&&(decide (x32<(8:Int))))
 (cond ((decide ((0:Int)≤(Int.tmod (IntKind.wrap .i64 (x32+(IntKind.wrap .i64 ((3:Int)*x29)))) (8:Int))))&&(decide ((Int.tmod (IntKind.wrap .i64 (x32+(IntKind.wrap .i64 ((3:Int)*x29)))) (8:Int))<(8:Int))))
 (A1w (O9 (IntKind.wrap .u32 ((IntKind.wrap .u32 ((y8.getD (x32.toNat) (0:Int))+(G4.getD ((Int.tmod (IntKind.wrap .i64 (x32+(IntKind.wrap .i64 ((3:Int)*x29)))) (8:Int)).toNat) (0:Int))))+(IntKind.wrap .u32 ((2654435769:Int)*(IntKind.wrap .u32 (IntKind.wrap .i64 ((IntKind.wrap .i64 ((IntKind.wrap .i64 ((8:Int)*x29))+x32))+(1:Int)))))))) (7:Int)) fun(b9:Int)=>(cond ((decide ((0:Int)≤(Int.tmod (IntKind.wrap .i64 (x32+(1:Int))) (8:Int))))&&(decide ((Int.tmod (IntKind.wrap .i64 (x32+(1:Int))) (8:Int))<(8:Int))))
 (cond ((decide ((0:Int)≤(Int.tmod (IntKind.wrap .i64 (x32+(5:Int))) (8:Int))))&&(decide ((Int.tmod (IntKind.wrap .i64 (x32+(5:Int))) (8:Int))<(8:Int))))
 (A1w (O9 (y8.getD ((Int.tmod (IntKind.wrap .i64 (x32+(5:Int))) (8:Int)).toNat) (0:Int)) (13:Int)) fun(b10:Int)=>(cond ((decide ((0:Int)≤x32))&&(decide (x32<(8:Int))))
 (rec (IntKind.wrap .i64 (x32+(1:Int))) (y8.set (x32.toNat) (IntKind.wrap .u32 ((A6l .xor .u32 b9 (y8.getD ((Int.tmod (IntKind.wrap .i64 (x32+(1:Int))) (8:Int)).toNat) (0:Int)))+b10))))
 none))
 none)
 none))
 none)
 none)
 (ke4 y8))
def X4(ke4:A7→Q8)(a0:A7)(G4:A7)(x29:Int):Nat→Int→A7→Q8
 |0=>fun _ _=>none
 |n+1=>a0Q (X4 ke4 a0 G4 x29 n) ke4 a0 G4 x29
def a3F(rec:A7→Int→A7→Q8)(ke2:A7→Q8)(a0:A7)(G4:A7)(x29:Int)(y8:A7):Q8:=
 (cond (decide (x29<(12:Int)))
 (X4 (fun y8=>(rec G4 (IntKind.wrap .i64 (x29+(1:Int))) y8)) a0 G4 x29 FUEL (0:Int) y8)
 (ke2 y8))
def X3(ke2:A7→Q8)(a0:A7):Nat→A7→Int→A7→Q8
 |0=>fun _ _ _=>none
 |n+1=>a3F (X3 ke2 a0 n) ke2 a0
def a0P(rec:Int→A7→Q8)(ke0:A7→Q8)(a0:A7)(a1:A7)(x14:Int)(G4:A7):Q8:=
 (cond (decide (x14<(8:Int)))
 (cond ((decide ((0:Int)≤(IntKind.wrap .i64 ((IntKind.wrap .i64 ((4:Int)*x14))+(4:Int)))))&&(decide ((IntKind.wrap .i64 ((IntKind.wrap .i64 ((4:Int)*x14))+(4:Int)))≤(32:Int))))
 (cond ((decide ((0:Int)≤(IntKind.wrap .i64 ((4:Int)*x14))))&&(decide ((IntKind.wrap .i64 ((4:Int)*x14))≤(IntKind.wrap .i64 ((IntKind.wrap .i64 ((4:Int)*x14))+(4:Int))))))
 (A1w (a0w (A3F a1 ((IntKind.wrap .i64 ((4:Int)*x14)).toNat) ((IntKind.wrap .i64 ((IntKind.wrap .i64 ((4:Int)*x14))+(4:Int))).toNat))) fun(b2:Int)=>(cond ((decide ((0:Int)≤x14))&&(decide (x14<(8:Int))))
 (rec (IntKind.wrap .i64 (x14+(1:Int))) (G4.set (x14.toNat) (IntKind.wrap .u32 b2)))
 none))
 none)
 none)
 (ke0 G4))
def X2(ke0:A7→Q8)(a0:A7)(a1:A7):Nat→Int→A7→Q8
 |0=>fun _ _=>none
 |n+1=>a0P (X2 ke0 a0 a1 n) ke0 a0 a1
def a2u(a0:A7)(a1:A7):Q8:=
 (X2 (fun G4=>(X3 (fun y8=>(X5 (fun y8=>(some y8)) a0 FUEL y8 (0:Int))) a0 FUEL G4 (0:Int) a0)) a0 a1 FUEL (0:Int) (List.replicate 8 (0:Int)))
def b1J(k:Nat)(K:Ex→St→Q8)(n:Nat)(a0:A7)(y8:A7)(x74:Int):Q8:=A9j (E7 k) 0 (A0Z (E7 k) (A7s (E7 k) 8) 0 160 (sub a1C [1,1,1,1,1,0,1,0,0])) a8c K n (b7H a0 y8 x74)
theorem b5U(k:Nat)(y8:A7):((B4x 6 (B5Q (A0Z (E7 k) (A7s (E7 k) 8) 0 160 (sub a1C [1,1,1,1,1,1])) (B4C (E7 k) a6A H7))) (.exit 6) (a6D y8):Q8)=
 ((some y8):Q8):=by kernel_rfl
theorem b5V(k:Nat)(K:Ex→St→Q8)(n:Nat)(a0:A7)(y8:A7)(x74:Int):(b1J k K (n+1) a0 y8 x74:Q8)=a0R ((fun y8 x74=>b1J k K n a0 y8 x74)) (fun y8=>K (.exit 6) (a6D y8)) a0 y8 x74:=by kernel_rfl
theorem b9K(K:Ex→St→Q8)(a0:A7):∀(n:Nat) (y8:A7) (x74:Int),(b1J FUEL K n a0 y8 x74:Q8)=X5 (fun y8=>K (.exit 6) (a6D y8)) a0 n y8 x74:=by
 intro n
 induction n with
 |zero=>intros; rfl
 |succ n ih=>
  intro y8 x74
  exact(b5V FUEL K n a0 y8 x74).trans (congrArg (fun f=>a0R f (fun y8=>K (.exit 6) (a6D y8)) a0 y8 x74) (funext fun y8=>funext fun x74=>ih y8 x74))
def b1I(k:Nat)(K:Ex→St→Q8)(n:Nat)(a0:A7)(G4:A7)(x29:Int)(x32:Int)(y8:A7):Q8:=A9j (E7 k) 0 (A0Z (E7 k) (A7s (E7 k) 8) 0 160 (sub a1C [1,1,1,1,0,1,0,0,1,1,0,0,1,1,0,0])) a8b K n (b7G a0 G4 x29 x32 y8)
theorem b5S(k:Nat)(K:Ex→St→Q8)(n:Nat)(a0:A7)(G4:A7)(x29:Int)(y8:A7):((B4x 4 (B4x 3 (B5Q (A0Z (E7 k) (A7s (E7 k) 8) 0 160 (sub a1C [1,1,1,1,0,1,0,0,1,1,1])) (B2m (E7 k) 0 a1Z (A9j (E7 k) 0 (A0Z (E7 k) (A7s (E7 k) 8) 0 160 (sub a1C [1,1,1,1,0,1,0,0])) a1Z K n) K)))) (.exit 4) (a6C a0 G4 x29 y8):Q8)=
 ((A9j (E7 k) 0 (A0Z (E7 k) (A7s (E7 k) 8) 0 160 (sub a1C [1,1,1,1,0,1,0,0])) a1Z K n (b1H a0 G4 (IntKind.wrap .i64 (x29+(1:Int))) y8)):Q8):=by kernel_rfl
theorem b5T(k:Nat)(K:Ex→St→Q8)(n:Nat)(a0:A7)(G4:A7)(x29:Int)(x32:Int)(y8:A7):(b1I k K (n+1) a0 G4 x29 x32 y8:Q8)=a0Q ((fun x32 y8=>b1I k K n a0 G4 x29 x32 y8)) (fun y8=>K (.exit 4) (a6C a0 G4 x29 y8)) a0 G4 x29 x32 y8:=by kernel_rfl
theorem b9J(K:Ex→St→Q8)(a0:A7)(G4:A7)(x29:Int):∀(n:Nat) (x32:Int) (y8:A7),(b1I FUEL K n a0 G4 x29 x32 y8:Q8)=X4 (fun y8=>K (.exit 4) (a6C a0 G4 x29 y8)) a0 G4 x29 n x32 y8:=by
 intro n
 induction n with
 |zero=>intros; rfl
 |succ n ih=>
  intro x32 y8
  exact(b5T FUEL K n a0 G4 x29 x32 y8).trans (congrArg (fun f=>a0Q f (fun y8=>K (.exit 4) (a6C a0 G4 x29 y8)) a0 G4 x29 x32 y8) (funext fun x32=>funext fun y8=>ih x32 y8))
def b7F(k:Nat)(K:Ex→St→Q8)(n:Nat)(a0:A7)(G4:A7)(x29:Int)(y8:A7):Q8:=A9j (E7 k) 0 (A0Z (E7 k) (A7s (E7 k) 8) 0 160 (sub a1C [1,1,1,1,0,1,0,0])) a1Z K n (b1H a0 G4 x29 y8)
theorem b5R(k:Nat)(K:Ex→St→Q8)(n:Nat)(a0:A7)(G4:A7)(x29:Int)(y8:A7):(b7F k K (n+1) a0 G4 x29 y8:Q8)=
 ((cond (decide (x29<(12:Int)))
 (A9j (E7 k) 0 (A0Z (E7 k) (A7s (E7 k) 8) 0 160 (sub a1C [1,1,1,1,0,1,0,0,1,1,0,0,1,1,0,0])) a8b (B4x 4 (B4x 3 (B5Q (A0Z (E7 k) (A7s (E7 k) 8) 0 160 (sub a1C [1,1,1,1,0,1,0,0,1,1,1])) (B2m (E7 k) 0 a1Z (A9j (E7 k) 0 (A0Z (E7 k) (A7s (E7 k) 8) 0 160 (sub a1C [1,1,1,1,0,1,0,0])) a1Z K n) K)))) k (b7G a0 G4 x29 (0:Int) y8))
 (K (.exit 2) (a9D a0 y8))):Q8):=by kernel_rfl
theorem b5Q(k:Nat)(a0:A7)(y8:A7):((B4x 2 (B5Q (A0Z (E7 k) (A7s (E7 k) 8) 0 160 (sub a1C [1,1,1,1,1])) (B4C (E7 k) a6A H7))) (.exit 2) (a9D a0 y8):Q8)=
 ((A9j (E7 k) 0 (A0Z (E7 k) (A7s (E7 k) 8) 0 160 (sub a1C [1,1,1,1,1,0,1,0,0])) a8c (B4x 6 (B5Q (A0Z (E7 k) (A7s (E7 k) 8) 0 160 (sub a1C [1,1,1,1,1,1])) (B4C (E7 k) a6A H7))) k (b7H a0 y8 (0:Int))):Q8):=by kernel_rfl
theorem b9I(K:Ex→St→Q8)(a0:A7):∀(n:Nat) (G4:A7) (x29:Int) (y8:A7),(b7F FUEL K n a0 G4 x29 y8:Q8)=X3 (fun y8=>K (.exit 2) (a9D a0 y8)) a0 n G4 x29 y8:=by
 intro n
 induction n with
 |zero=>intros; rfl
 |succ n ih=>
  intro G4 x29 y8
  exact(b5R FUEL K n a0 G4 x29 y8).trans (B5U ((b9J _ a0 G4 x29 FUEL (0:Int) y8).trans (congrArg (fun e0=>X4 e0 a0 G4 x29 FUEL (0:Int) y8) (funext fun y8=>(b5S FUEL K n a0 G4 x29 y8).trans (ih G4 (IntKind.wrap .i64 (x29+(1:Int))) y8)))) (rfl))
def b1G(k:Nat)(K:Ex→St→Q8)(n:Nat)(a0:A7)(a1:A7)(x14:Int)(G4:A7):Q8:=A9j (E7 k) 0 (A0Z (E7 k) (A7s (E7 k) 8) 0 160 (sub a1C [1,1,0,1,0,0])) a8a K n (b7E a0 a1 x14 G4)
theorem b5O(k:Nat)(a0:A7)(G4:A7):((B4x 0 (B5Q (A0Z (E7 k) (A7s (E7 k) 8) 0 160 (sub a1C [1,1,1])) (B4C (E7 k) a6A H7))) (.exit 0) (a6B a0 G4):Q8)=
 ((A9j (E7 k) 0 (A0Z (E7 k) (A7s (E7 k) 8) 0 160 (sub a1C [1,1,1,1,0,1,0,0])) a1Z (B4x 2 (B5Q (A0Z (E7 k) (A7s (E7 k) 8) 0 160 (sub a1C [1,1,1,1,1])) (B4C (E7 k) a6A H7))) k (b1H a0 G4 (0:Int) a0)):Q8):=by kernel_rfl
theorem b5P(k:Nat)(K:Ex→St→Q8)(n:Nat)(a0:A7)(a1:A7)(x14:Int)(G4:A7):(b1G k K (n+1) a0 a1 x14 G4:Q8)=a0P ((fun x14 G4=>b1G k K n a0 a1 x14 G4)) (fun G4=>K (.exit 0) (a6B a0 G4)) a0 a1 x14 G4:=by kernel_rfl
theorem b9H(K:Ex→St→Q8)(a0:A7)(a1:A7):∀(n:Nat) (x14:Int) (G4:A7),(b1G FUEL K n a0 a1 x14 G4:Q8)=X2 (fun G4=>K (.exit 0) (a6B a0 G4)) a0 a1 n x14 G4:=by
 intro n
 induction n with
 |zero=>intros; rfl
 |succ n ih=>
  intro x14 G4
  exact(b5P FUEL K n a0 a1 x14 G4).trans (congrArg (fun f=>a0P f (fun G4=>K (.exit 0) (a6B a0 G4)) a0 a1 x14 G4) (funext fun x14=>funext fun G4=>ih x14 G4))
theorem c5U(k:Nat)(a0:A7)(a1:A7):fnK (E7 k) 8 160 a6A H7 [.pv G7 a0,.pv D9 a1]=
 ((A9j (E7 k) 0 (A0Z (E7 k) (A7s (E7 k) 8) 0 160 (sub a1C [1,1,0,1,0,0])) a8a (B4x 0 (B5Q (A0Z (E7 k) (A7s (E7 k) 8) 0 160 (sub a1C [1,1,1])) (B4C (E7 k) a6A H7))) k (b7E a0 a1 (0:Int) (List.replicate 8 (0:Int)))):Q8):=by kernel_rfl
theorem d2a(a0:A7)(a1:A7):fnK (E7 FUEL) 8 160 a6A H7 [.pv G7 a0,.pv D9 a1]=a2u a0 a1:=
 (c5U FUEL a0 a1).trans ((b9H _ a0 a1 FUEL (0:Int) (List.replicate 8 (0:Int))).trans (congrArg (fun e0=>X2 e0 a0 a1 FUEL (0:Int) (List.replicate 8 (0:Int))) (funext fun G4=>(b5O FUEL a0 G4).trans ((b9I _ a0 FUEL G4 (0:Int) a0).trans (congrArg (fun e0=>X3 e0 a0 FUEL G4 (0:Int) a0) (funext fun y8=>(b5Q FUEL a0 y8).trans ((b9K _ a0 FUEL y8 (0:Int)).trans (congrArg (fun e0=>X5 e0 a0 FUEL y8 (0:Int)) (funext fun y8=>(b5U FUEL y8).trans (rfl))))))))))
def c2x:Con:={ps:=(.pair (.arr 8 (.int .u32)) K19),sh:=H7,raw:=fun x=>a2u x.1 x.2.1}
theorem c5T:A8C D8 160 c2x:=B5n (c9g FUEL) (depth:=8) d5l fun x y h=>(d2a x.1 x.2.1).trans h
def a7O:Cut:={keep:=[2,4,7,8,9],stk:=[],ids:=[20,40],own:=[],outs:=[(1,[2,4],[20,40])]}
def a2j(k:Nat):Cx:=y7 [] [(160,c2x)] [] [] [(132,[(0,a7O)])] k [] false
theorem c8R(k:Nat):A9E D8 (a2j k):=C4 ⟨c5T,C5⟩ C5 C5 C5
abbrev a2H:List Sh:=[.pl (.arr 8 (.int .u32))]
abbrev Q26:Type:=Option (A2K a2H)
def b7q(a1:B5)(x9:Int)(y20:A7):St:={env:=(.dead:: .dead:: .ptr 20 G7 []:: .dead:: .ptr 40 G7 []:: .dead:: .dead:: .pv K22 a1:: .pv E8 (a1.length:Int):: .pv E8 x9::(dd 8 [])),stk:=[],heap:=[(20,.var G7 (.pv G7 y20)),(40,.var G7 (.pv G7 (List.replicate 8 (0:Int))))]}
def a6n(y20:A7):St:={env:=(.dead:: .dead:: .ptr 20 G7 []:: .dead:: .ptr 40 G7 []::(dd 13 [])),stk:=[],heap:=[(20,.var G7 (.pv G7 y20)),(40,.var G7 (.pv G7 (List.replicate 8 (0:Int))))]}
def a0i(rec:Int→A7→Q26)(ke0:A7→Q26)(a1:B5)(x9:Int)(y20:A7):Q26:=
 (cond (decide (x9<(a1.length:Int)))
 (cond ((decide ((0:Int)≤x9))&&(decide (x9<(a1.length:Int))))
 (A1w (a2u y20 (a1.getD (x9.toNat) (List.replicate 32 (0:Int)))) fun(b2:A7)=>(rec (IntKind.wrap .i64 (x9+(1:Int))) b2))
 none)
 (ke0 y20))
def a0h(ke0:A7→Q26)(a1:B5):Nat→Int→A7→Q26
 |0=>fun _ _=>none
 |n+1=>a0i (a0h ke0 a1 n) ke0 a1
def a3V(a0:A7)(a1:B5):Q26:=
 (a0h (fun y20=>(some y20)) a1 FUEL (0:Int) a0)
def b1q(k:Nat)(K:Ex→St→Q26)(n:Nat)(a1:B5)(x9:Int)(y20:A7):Q26:=A9j (a2j k) 0 (A0Z (a2j k) (A7s (a2j k) 8) 0 132 (sub b3e [1,0,1,0,0])) a7O K n (b7q a1 x9 y20)
theorem b5m(k:Nat)(y20:A7):((B4x 0 (B5Q (A0Z (a2j k) (A7s (a2j k) 8) 0 132 (sub b3e [1,1])) (B4C (a2j k) b3f a2H))) (.exit 0) (a6n y20):Q26)=
 ((some y20):Q26):=by kernel_rfl
theorem b5n(k:Nat)(K:Ex→St→Q26)(n:Nat)(a1:B5)(x9:Int)(y20:A7):(b1q k K (n+1) a1 x9 y20:Q26)=a0i ((fun x9 y20=>b1q k K n a1 x9 y20)) (fun y20=>K (.exit 0) (a6n y20)) a1 x9 y20:=by kernel_rfl
theorem b9t(K:Ex→St→Q26)(a1:B5):∀(n:Nat) (x9:Int) (y20:A7),(b1q FUEL K n a1 x9 y20:Q26)=a0h (fun y20=>K (.exit 0) (a6n y20)) a1 n x9 y20:=by
 intro n
 induction n with
 |zero=>intros; rfl
 |succ n ih=>
  intro x9 y20
  exact(b5n FUEL K n a1 x9 y20).trans (congrArg (fun f=>a0i f (fun y20=>K (.exit 0) (a6n y20)) a1 x9 y20) (funext fun x9=>funext fun y20=>ih x9 y20))
theorem c5v(k:Nat)(a0:A7)(a1:B5):fnK (a2j k) 8 132 b3f a2H [.pv G7 a0,.pv K22 a1]=
 ((A9j (a2j k) 0 (A0Z (a2j k) (A7s (a2j k) 8) 0 132 (sub b3e [1,0,1,0,0])) a7O (B4x 0 (B5Q (A0Z (a2j k) (A7s (a2j k) 8) 0 132 (sub b3e [1,1])) (B4C (a2j k) b3f a2H))) k (b7q a1 (0:Int) a0)):Q26):=by kernel_rfl
theorem d1F(a0:A7)(a1:B5):fnK (a2j FUEL) 8 132 b3f a2H [.pv G7 a0,.pv K22 a1]=a3V a0 a1:=
 (c5v FUEL a0 a1).trans ((b9t _ a1 FUEL (0:Int) a0).trans (congrArg (fun e0=>a0h e0 a1 FUEL (0:Int) a0) (funext fun y20=>(b5m FUEL y20).trans (rfl))))
def c2g:Con:={ps:=(.pair (.arr 8 (.int .u32)) K18),sh:=a2H,raw:=fun x=>a3V x.1 x.2.1}
theorem c5u:A8C D8 132 c2g:=B5n (c8R FUEL) (depth:=8) d4U fun x y h=>(d1F x.1 x.2.1).trans h
def a7N:Cut:={keep:=[2,3,7,8],stk:=[],ids:=[20,30],own:=[],outs:=[(1,[2,3],[20,30])]}
def a2i(k:Nat):Cx:=y7 [] [] [(159,b3p)] [] [(131,[(0,a7N)])] k [] false
theorem c8Q(k:Nat):A9E D8 (a2i k):=C4 C5 ⟨b3q,C5⟩ C5 C5
abbrev a2G:List Sh:=[.pl (.arr 32 k0B)]
abbrev Q23:Type:=Option (A2K a2G)
def b7p(a0:A7)(x8:Int)(G9:A7):St:={env:=(.dead:: .dead:: .ptr 20 D9 []:: .ptr 30 D9 []::(dd 3 (.pv G7 a0:: .pv E8 x8::(dd 12 [])))),stk:=[],heap:=[(20,.var D9 (.pv D9 (List.replicate 32 (0:Int)))),(30,.var D9 (.pv D9 G9))]}
def a6m(G9:A7):St:={env:=(.dead:: .dead:: .ptr 20 D9 []:: .ptr 30 D9 []::(dd 17 [])),stk:=[],heap:=[(20,.var D9 (.pv D9 (List.replicate 32 (0:Int)))),(30,.var D9 (.pv D9 G9))]}
def a2w(rec:Int→A7→Q23)(ke0:A7→Q23)(a0:A7)(x8:Int)(G9:A7):Q23:=
 (cond (decide (x8<(8:Int)))
 (cond ((decide ((0:Int)≤x8))&&(decide (x8<(8:Int))))
 (cond ((decide ((0:Int)≤(IntKind.wrap .i64 ((4:Int)*x8))))&&(decide ((IntKind.wrap .i64 ((4:Int)*x8))≤(32:Int))))
 (A1w (L6 [] (IntKind.wrap .u64 (a0.getD (x8.toNat) (0:Int))) (4:Int)) fun(b2:A7)=>(rec (IntKind.wrap .i64 (x8+(1:Int))) (A6D G9 ((IntKind.wrap .i64 ((4:Int)*x8)).toNat) (List.take (32-((IntKind.wrap .i64 ((4:Int)*x8)).toNat)) b2))))
 none)
 none)
 (ke0 G9))
def a1l(ke0:A7→Q23)(a0:A7):Nat→Int→A7→Q23
 |0=>fun _ _=>none
 |n+1=>a2w (a1l ke0 a0 n) ke0 a0
def a3U(a0:A7):Q23:=
 (a1l (fun G9=>(some G9)) a0 FUEL (0:Int) (List.replicate 32 (0:Int)))
def b1p(k:Nat)(K:Ex→St→Q23)(n:Nat)(a0:A7)(x8:Int)(G9:A7):Q23:=A9j (a2i k) 0 (A0Z (a2i k) (A7s (a2i k) 8) 0 131 (sub b3c [1,1,0,1,0,0])) a7N K n (b7p a0 x8 G9)
theorem b5k(k:Nat)(G9:A7):((B4x 0 (B5Q (A0Z (a2i k) (A7s (a2i k) 8) 0 131 (sub b3c [1,1,1])) (B4C (a2i k) b3d a2G))) (.exit 0) (a6m G9):Q23)=
 ((some G9):Q23):=by kernel_rfl
theorem b5l(k:Nat)(K:Ex→St→Q23)(n:Nat)(a0:A7)(x8:Int)(G9:A7):(b1p k K (n+1) a0 x8 G9:Q23)=a2w ((fun x8 G9=>b1p k K n a0 x8 G9)) (fun G9=>K (.exit 0) (a6m G9)) a0 x8 G9:=by kernel_rfl
theorem b9s(K:Ex→St→Q23)(a0:A7):∀(n:Nat) (x8:Int) (G9:A7),(b1p FUEL K n a0 x8 G9:Q23)=a1l (fun G9=>K (.exit 0) (a6m G9)) a0 n x8 G9:=by
 intro n
 induction n with
 |zero=>intros; rfl
 |succ n ih=>
  intro x8 G9
  exact(b5l FUEL K n a0 x8 G9).trans (congrArg (fun f=>a2w f (fun G9=>K (.exit 0) (a6m G9)) a0 x8 G9) (funext fun x8=>funext fun G9=>ih x8 G9))
theorem c5t(k:Nat)(a0:A7):fnK (a2i k) 8 131 b3d a2G [.pv G7 a0]=
 ((A9j (a2i k) 0 (A0Z (a2i k) (A7s (a2i k) 8) 0 131 (sub b3c [1,1,0,1,0,0])) a7N (B4x 0 (B5Q (A0Z (a2i k) (A7s (a2i k) 8) 0 131 (sub b3c [1,1,1])) (B4C (a2i k) b3d a2G))) k (b7p a0 (0:Int) (List.replicate 32 (0:Int)))):Q23):=by kernel_rfl
theorem d1E(a0:A7):fnK (a2i FUEL) 8 131 b3d a2G [.pv G7 a0]=a3U a0:=
 (c5t FUEL a0).trans ((b9s _ a0 FUEL (0:Int) (List.replicate 32 (0:Int))).trans (congrArg (fun e0=>a1l e0 a0 FUEL (0:Int) (List.replicate 32 (0:Int))) (funext fun G9=>(b5k FUEL G9).trans (rfl))))
def c2f:Con:={ps:=(.pair (.arr 8 (.int .u32)) .unit),sh:=a2G,raw:=fun x=>a3U x.1}
theorem c5s:A8C D8 131 c2f:=B5n (c8Q FUEL) (depth:=8) d4T fun x y h=>(d1E x.1).trans h
def d3Q(k:Nat):Cx:=y7 [] [(112,a7F),(128,c2c),(129,c2d),(130,c2e),(131,c2f),(132,c2g),(133,c2h)] [] [] [] k [] false
theorem d3R(k:Nat):A9E D8 (d3Q k):=C4 ⟨a6d,c5m,c5o,c5q,c5s,c5u,c5w,C5⟩ C5 C5 C5
abbrev a7e:List Sh:=[.pl (.arr 32 k0B)]
abbrev Q19:Type:=Option (A2K a7e)
def a3N(a0:Int)(a1:A7):Q19:=
 (A1w (H8 a1) fun(b1:Int)=>(A1w (a3b b1) fun(b2:A7)=>(A1w (U6 [a1,b2]) fun(b3:A7)=>(A1w (a3v b3) fun(b4:(B5×A7))=>(A1w (a1r a0) fun(b5:A7)=>(A1w (a3V b5 b4.1) fun(b6:A7)=>(A1w (a3U b6) fun(b7:A7)=>(some b7))))))))
theorem d6t(a0:Int)(a1:A7):fnK (d3Q FUEL) 8 95 d7t a7e [.pv k0B a0,.pv K26 a1]=a3N a0 a1:=by kernel_rfl
def c0Z:Con:={ps:=o4,sh:=a7e,raw:=fun x=>a3N x.1 x.2.1}
theorem b8F:A8C D8 95 c0Z:=B5n (d3R FUEL) (depth:=8) d9j fun x y h=>(d6t x.1 x.2.1).trans h
def d2Z(k:Nat):Cx:=y7 [] [(95,c0Z)] [] [] [] k [] false
theorem d3a(k:Nat):A9E D8 (d2Z k):=C4 ⟨b8F,C5⟩ C5 C5 C5
abbrev a4m:List Sh:=[.pl (.arr 32 k0B)]
abbrev Q4:Type:=Option (A2K a4m)
def a0g(a0:T9):Q4:=
 (A1w (a3N a0.1 a0.2.1) fun(b1:A7)=>(some b1))
theorem d5T(a0:T9):fnK (d2Z FUEL) 8 47 d7c a4m [.pv o4 a0]=a0g a0:=by kernel_rfl
def c0y:Con:={ps:=K8,sh:=a4m,raw:=fun x=>a0g x.1}
theorem b8f:A8C D8 47 c0y:=B5n (d3a FUEL) (depth:=8) d8B fun x y h=>(d5T x.1).trans h
def a9S:Cut:={keep:=[3,8,9,10],stk:=[],ids:=[90030],own:=[(3,90030,43)],outs:=[(1,[3],[90030])]}
def a3C(k:Nat):Cx:=y7 [] [(47,c0y)] [] [] [(53,[(0,a9S)])] k [] false
theorem d3f(k:Nat):A9E D8 (a3C k):=C4 ⟨b8f,C5⟩ C5 C5 C5
abbrev p0:List Sh:=[.own 32 (.arr 32 k0B)]
abbrev Q12:Type:=Option (A2K p0)
def c3t(a0:T4)(E4:Int)(B9:B5):St:={env:=(dd 3 (.sl 90030 D9::(dd 4 (.pv K12 a0.1:: .pv E8 (a0.1.length:Int):: .pv E8 E4::(dd 10 []))))),stk:=[],heap:=[(90030,.arr 32 D9 B9)]}
def a8X(B9:B5):St:={env:=(dd 3 (.sl 90030 D9::(dd 17 []))),stk:=[],heap:=[(90030,.arr 32 D9 B9)]}
def S0(rec:Int→B5→Q12)(ke0:B5→Q12)(a0:T4)(E4:Int)(B9:B5):Q12:=
 (cond (decide (E4<(a0.1.length:Int)))
 (cond ((decide ((0:Int)≤E4))&&(decide (E4<(a0.1.length:Int))))
 (A1w (a0g (a0.1.getD (E4.toNat) ((0:Int),([],())))) fun(b2:A7)=>(cond (decide ((B9.length+1)*32≤140737488355328)&&decide (B9.length+1≤9223372036854775807))
 (rec (IntKind.wrap .i64 (E4+(1:Int))) (B9++[b2]))
 none))
 none)
 (ke0 B9))
def R9(ke0:B5→Q12)(a0:T4):Nat→Int→B5→Q12
 |0=>fun _ _=>none
 |n+1=>S0 (R9 ke0 a0 n) ke0 a0
def G8(a0:T4):Q12:=
 (R9 (fun B9=>(some B9)) a0 FUEL (0:Int) [])
def b3U(k:Nat)(K:Ex→St→Q12)(n:Nat)(a0:T4)(E4:Int)(B9:B5):Q12:=A9j (a3C k) 0 (A0Z (a3C k) (A7s (a3C k) 8) 0 53 (sub c3q [1,1,0,1,0,0])) a9S K n (c3t a0 E4 B9)
theorem c0B(k:Nat)(B9:B5):((B4x 0 (B5Q (A0Z (a3C k) (A7s (a3C k) 8) 0 53 (sub c3q [1,1,1])) (B4C (a3C k) c3r p0))) (.exit 0) (a8X B9):Q12)=
 ((some B9):Q12):=by kernel_rfl
theorem c0C(k:Nat)(K:Ex→St→Q12)(n:Nat)(a0:T4)(E4:Int)(B9:B5):(b3U k K (n+1) a0 E4 B9:Q12)=S0 ((fun E4 B9=>b3U k K n a0 E4 B9)) (fun B9=>K (.exit 0) (a8X B9)) a0 E4 B9:=by kernel_rfl
theorem c3s(K:Ex→St→Q12)(a0:T4):∀(n:Nat) (E4:Int) (B9:B5),(b3U FUEL K n a0 E4 B9:Q12)=R9 (fun B9=>K (.exit 0) (a8X B9)) a0 n E4 B9:=by
 intro n
 induction n with
 |zero=>intros; rfl
 |succ n ih=>
  intro E4 B9
  exact(c0C FUEL K n a0 E4 B9).trans (congrArg (fun f=>S0 f (fun B9=>K (.exit 0) (a8X B9)) a0 E4 B9) (funext fun E4=>funext fun B9=>ih E4 B9))
theorem c9S(k:Nat)(a0:T4):fnK (a3C k) 8 53 c3r p0 [.pv K4 a0]=
 ((A9j (a3C k) 0 (A0Z (a3C k) (A7s (a3C k) 8) 0 53 (sub c3q [1,1,0,1,0,0])) a9S (B4x 0 (B5Q (A0Z (a3C k) (A7s (a3C k) 8) 0 53 (sub c3q [1,1,1])) (B4C (a3C k) c3r p0))) k (c3t a0 (0:Int) [])):Q12):=by kernel_rfl
theorem d5W(a0:T4):fnK (a3C FUEL) 8 53 c3r p0 [.pv K4 a0]=G8 a0:=
 (c9S FUEL a0).trans ((c3s _ a0 FUEL (0:Int) []).trans (congrArg (fun e0=>R9 e0 a0 FUEL (0:Int) []) (funext fun B9=>(c0B FUEL B9).trans (rfl))))
def c0A:Con:={ps:=K3,sh:=p0,raw:=fun x=>G8 x.1}
theorem b8h:A8C D8 53 c0A:=B5n (d3f FUEL) (depth:=8) d8F fun x y h=>(d5W x.1).trans h
def d3S(k:Nat):Cx:=y7 [] [] [] [] [] k [] false
theorem d3T(k:Nat):A9E D8 (d3S k):=C4 C5 C5 C5 C5
abbrev Y9:List Sh:=[.own 32 (.arr 32 k0B)]
abbrev Q66:Type:=Option (A2K Y9)
def P8(a0:B5):Q66:=
 (cond (List.isEmpty a0) (A7q (some []) (cond (decide ((0+a0.length)*32≤140737488355328)&&decide (0+a0.length≤9223372036854775807))
 (some ([]++a0))
 none)) (cond (decide ((0+a0.length)*32≤140737488355328)&&decide (0+a0.length≤9223372036854775807))
 (some ([]++a0))
 none))
theorem d6u(a0:B5):fnK (d3S FUEL) 8 97 d7u Y9 [.pv K22 a0]=P8 a0:=by kernel_rfl
def c8i:Con:={ps:=K18,sh:=Y9,raw:=fun x=>P8 x.1}
theorem d0w:A8C D8 97 c8i:=B5n (d3T FUEL) (depth:=8) d9l fun x y h=>(d6u x.1).trans h
def c7v(k:Nat):Cx:=y7 [] [] [] [] [] k [] false
theorem c9h(k:Nat):A9E D8 (c7v k):=C4 C5 C5 C5 C5
abbrev a3Q:List Sh:=[.pl .bool]
abbrev Q2:Type:=Option (A2K a3Q)
def a1B(a0:Int):Q2:=
 (some (!(decide (a0=a0))))
theorem d2c(a0:Int):fnK (c7v FUEL) 8 171 d2b a3Q [.pv k0B a0]=a1B a0:=by kernel_rfl
def c2y:Con:={ps:=K25,sh:=a3Q,raw:=fun x=>a1B x.1}
theorem c5V:A8C D8 171 c2y:=B5n (c9h FUEL) (depth:=8) d5m fun x y h=>(d2c x.1).trans h
def c7p(k:Nat):Cx:=y7 [] [(171,c2y)] [] [] [] k [] false
theorem c8T(k:Nat):A9E D8 (c7p k):=C4 ⟨c5V,C5⟩ C5 C5 C5
abbrev a3n:List Sh:=[.pl (.int .i64)]
abbrev Q1:Type:=Option (A2K a3n)
def a0J(a0:Int)(a1:Int):Q1:=
 (A1w (a1B a0) fun(b1:Bool)=>(A1w (a1B a1) fun(b2:Bool)=>(cond b1
 (cond b2
 (some (0:Int))
 (some (-1:Int)))
 (cond b2
 (some (1:Int))
 (cond (decide (a0<a1))
 (some (-1:Int))
 (cond (decide (a1<a0))
 (some (1:Int))
 (some (0:Int))))))))
theorem d1I(a0:Int)(a1:Int):fnK (c7p FUEL) 8 136 d1H a3n [.pv k0B a0,.pv k0B a1]=a0J a0 a1:=by kernel_rfl
def c2i:Con:={ps:=(.pair (.int .u8) K25),sh:=a3n,raw:=fun x=>a0J x.1 x.2.1}
theorem c5y:A8C D8 136 c2i:=B5n (c8T FUEL) (depth:=8) d4W fun x y h=>(d1I x.1 x.2.1).trans h
def a7y:Cut:={keep:=[0,1,9,10,11],stk:=[],ids:=[],own:=[],outs:=[(0,[4],[]),(1,[0,1],[])]}
def a0Z(k:Nat):Cx:=y7 [] [(136,c2i)] [] [] [(100,[(0,a7y)])] k [] false
theorem c8u(k:Nat):A9E D8 (a0Z k):=C4 ⟨c5y,C5⟩ C5 C5 C5
abbrev I9:List Sh:=[.pl (.int .i64)]
abbrev Q67:Type:=Option (A2K I9)
def b7c(a0:A7)(a1:A7)(M9:Int):St:={env:=(.pv K26 a0:: .pv K26 a1::(dd 7 (.pv K26 a0:: .pv E8 (a0.length:Int):: .pv E8 M9::(dd 24 [])))),stk:=[],heap:=[]}
def a8F(x4:Int):St:={env:=(dd 4 (.pv E8 x4::(dd 31 []))),stk:=[],heap:=[]}
def a5X(a0:A7)(a1:A7):St:={env:=(.pv K26 a0:: .pv K26 a1::(dd 34 [])),stk:=[],heap:=[]}
def H5(rec:Int→Q67)(kr:Int→Q67)(ke0:Q67)(a0:A7)(a1:A7)(M9:Int):Q67:=
 (cond (decide (M9<(a0.length:Int)))
 (cond ((decide ((0:Int)≤M9))&&(decide (M9<(a0.length:Int))))
 (cond (decide ((a1.length:Int)≤M9))
 (kr (1:Int))
 (cond ((decide ((0:Int)≤M9))&&(decide (M9<(a1.length:Int))))
 (A1w (a0J (a0.getD (M9.toNat) (0:Int)) (a1.getD (M9.toNat) (0:Int))) fun(b2:Int)=>(cond (!(decide (b2=(0:Int))))
 (kr b2)
 (rec (IntKind.wrap .i64 (M9+(1:Int))))))
 none))
 none)
 (ke0))
def J8(kr:Int→Q67)(ke0:Q67)(a0:A7)(a1:A7):Nat→Int→Q67
 |0=>fun _=>none
 |n+1=>H5 (J8 kr ke0 a0 a1 n) kr ke0 a0 a1
def S5(a0:A7)(a1:A7):Q67:=
 (J8 (fun x4=>(some x4)) (cond (decide ((a0.length:Int)<(a1.length:Int)))
 (some (-1:Int))
 (some (0:Int))) a0 a1 FUEL (0:Int))
def b0W(k:Nat)(K:Ex→St→Q67)(n:Nat)(a0:A7)(a1:A7)(M9:Int):Q67:=A9j (a0Z k) 0 (A0Z (a0Z k) (A7s (a0Z k) 8) 0 100 (sub b0U [1,0,1,0,0])) a7y K n (b7c a0 a1 M9)
theorem c1J(k:Nat)(x4:Int):((B4x 0 (B5Q (A0Z (a0Z k) (A7s (a0Z k) 8) 0 100 (sub b0U [1,1])) (B4C (a0Z k) b0V I9))) .ret (a8F x4):Q67)=
 ((some x4):Q67):=by kernel_rfl
theorem b4K(k:Nat)(a0:A7)(a1:A7):((B4x 0 (B5Q (A0Z (a0Z k) (A7s (a0Z k) 8) 0 100 (sub b0U [1,1])) (B4C (a0Z k) b0V I9))) (.exit 0) (a5X a0 a1):Q67)=
 ((cond (decide ((a0.length:Int)<(a1.length:Int)))
 (some (-1:Int))
 (some (0:Int))):Q67):=by kernel_rfl
theorem b4L(k:Nat)(K:Ex→St→Q67)(n:Nat)(a0:A7)(a1:A7)(M9:Int):(b0W k K (n+1) a0 a1 M9:Q67)=H5 ((fun M9=>b0W k K n a0 a1 M9)) (fun x4=>K .ret (a8F x4)) (K (.exit 0) (a5X a0 a1)) a0 a1 M9:=by kernel_rfl
theorem b9f(K:Ex→St→Q67)(a0:A7)(a1:A7):∀(n:Nat) (M9:Int),(b0W FUEL K n a0 a1 M9:Q67)=J8 (fun x4=>K .ret (a8F x4)) (K (.exit 0) (a5X a0 a1)) a0 a1 n M9:=by
 intro n
 induction n with
 |zero=>intros; rfl
 |succ n ih=>
  intro M9
  exact(b4L FUEL K n a0 a1 M9).trans (congrArg (fun f=>H5 f (fun x4=>K .ret (a8F x4)) (K (.exit 0) (a5X a0 a1)) a0 a1 M9) (funext fun M9=>ih M9))
theorem c4Q(k:Nat)(a0:A7)(a1:A7):fnK (a0Z k) 8 100 b0V I9 [.pv K26 a0,.pv K26 a1]=
 ((A9j (a0Z k) 0 (A0Z (a0Z k) (A7s (a0Z k) 8) 0 100 (sub b0U [1,0,1,0,0])) a7y (B4x 0 (B5Q (A0Z (a0Z k) (A7s (a0Z k) 8) 0 100 (sub b0U [1,1])) (B4C (a0Z k) b0V I9))) k (b7c a0 a1 (0:Int))):Q67):=by kernel_rfl
theorem d0X(a0:A7)(a1:A7):fnK (a0Z FUEL) 8 100 b0V I9 [.pv K26 a0,.pv K26 a1]=S5 a0 a1:=
 (c4Q FUEL a0 a1).trans ((b9f _ a0 a1 FUEL (0:Int)).trans (B5V (fun e0 e1=>J8 e0 e1 a0 a1 FUEL (0:Int)) (funext fun x4=>(c1J FUEL x4).trans (rfl)) ((b4K FUEL a0 a1).trans (rfl))))
def c1I:Con:={ps:=K13,sh:=I9,raw:=fun x=>S5 x.1 x.2.1}
theorem c4P:A8C D8 100 c1I:=B5n (c8u FUEL) (depth:=8) d4v fun x y h=>(d0X x.1 x.2.1).trans h
def d3i(k:Nat):Cx:=y7 [] [(100,c1I)] [] [] [] k [] false
theorem d3k(k:Nat):A9E D8 (d3i k):=C4 ⟨c4P,C5⟩ C5 C5 C5
abbrev a3s:List Sh:=[.pl (.int .i64)]
abbrev Q18:Type:=Option (A2K a3s)
def F4(a0:A7)(a1:A7):Q18:=
 (A1w (S5 (A3F a0 0 32) (A3F a1 0 32)) fun(b1:Int)=>(some b1))
theorem d5Y(a0:A7)(a1:A7):fnK (d3i FUEL) 8 56 d7g a3s [.pv D9 a0,.pv D9 a1]=F4 a0 a1:=by kernel_rfl
def c0E:Con:={ps:=K11,sh:=a3s,raw:=fun x=>F4 x.1 x.2.1}
theorem b2c:A8C D8 56 c0E:=B5n (d3k FUEL) (depth:=8) d3j fun x y h=>(d5Y x.1 x.2.1).trans h
def W7(a0:List A7)(a1:Unit):Option (List A7×Unit):=B1S 32 .u8 (fun x y=>F4 x y) a0
def c8j:A8p:=A3e 32 56 32 .u8 (fun x y=>F4 x y)
theorem d0x:B0k D8 98 c8j:=B5q Tryz.laysSortF98 (by decide) rfl ((B5R c8q c8n (fun _=>none) (fun _=>none) (fun _=>none) (fun _=>none) (fun _ _=>none) 0 [] false).c.ty 32 _ rfl) d3j b2c rfl rfl d9m
def a2X:Cut:={keep:=[0,3],stk:=[],ids:=[8],own:=[],outs:=[(1,[0],[8]),(0,[2],[8])]}
def b0g:Cut:={keep:=[0,3,4,5],stk:=[],ids:=[8],own:=[],outs:=[(3,[0,3],[8])]}
def M6(k:Nat):Cx:=y7 [] [] [] [] [(99,[(0,a2X),(2,b0g)])] k [] false
theorem d3U(k:Nat):A9E D8 (M6 k):=C4 C5 C5 C5 C5
def b4r(a0:B5)(x3:Int):St:={env:=(.sl 8 D9:: .dead:: .dead:: .pv E8 x3::(dd 57 [])),stk:=[],heap:=[(8,.arr 32 D9 a0)]}
def b2e(a0:B5):St:={env:=(.sl 8 D9::(dd 60 [])),stk:=[],heap:=[(8,.arr 32 D9 a0)]}
def b4q(x2v:Nat)(z8:B5):St:={env:=(.dead:: .dead:: .vw 8 K22 [] (.arr 32 k0B) 0 x2v::(dd 58 [])),stk:=[],heap:=[(8,.arr 32 D9 z8)]}
def c4m(a0:B5)(x3:Int)(x5:Int)(z8:B5)(x4u:Nat):St:={env:=(.sl 8 D9:: .dead:: .dead:: .pv E8 x3:: .vw 8 K22 [] (.arr 32 k0B) x4u (a0.length):: .pv E8 x5::(dd 55 [])),stk:=[],heap:=[(8,.arr 32 D9 z8)]}
def a9i(x3:Int)(z8:B5):St:={env:=(.sl 8 D9:: .dead:: .dead:: .pv E8 x3::(dd 57 [])),stk:=[],heap:=[(8,.arr 32 D9 z8)]}
def F2(rec:Int→Int→B5→Nat→Option B5)(ke2:Int→B5→Option B5)(a0:B5)(x3:Int)(x5:Int)(z8:B5)(x4u:Nat):Option B5:=
 (cond (decide (x5<(((a0.length)-x4u:Nat):Int)))
 (cond ((decide ((0:Int)≤x5))&&(decide (x5<(((a0.length)-x4u:Nat):Int))))
 (cond ((decide ((0:Int)≤(IntKind.wrap .i64 (x5-(1:Int)))))&&(decide ((IntKind.wrap .i64 (x5-(1:Int)))<(((a0.length)-x4u:Nat):Int))))
 (cond (!(eqd (.arr 32 k0B) (z8.getD (x4u+(x5.toNat)) (List.replicate 32 (0:Int))) (z8.getD (x4u+((IntKind.wrap .i64 (x5-(1:Int))).toNat)) (List.replicate 32 (0:Int)))))
 (cond ((decide ((0:Int)≤x5))&&(decide (x5<(((a0.length)-x4u:Nat):Int))))
 (cond ((decide ((0:Int)≤x3))&&(decide (x3<(z8.length:Int))))
 (rec (IntKind.wrap .i64 (x3+(1:Int))) (IntKind.wrap .i64 (x5+(1:Int))) (z8.set (x3.toNat) (z8.getD (x4u+(x5.toNat)) (List.replicate 32 (0:Int)))) x4u)
 none)
 none)
 (rec x3 (IntKind.wrap .i64 (x5+(1:Int))) z8 x4u))
 none)
 none)
 (ke2 x3 z8))
def C9(ke2:Int→B5→Option B5)(a0:B5):Nat→Int→Int→B5→Nat→Option B5
 |0=>fun _ _ _ _=>none
 |n+1=>F2 (C9 ke2 a0 n) ke2 a0
def H9(rec:Int→Option B5)(ke0:Option B5)(kr:Nat→B5→Option B5)(a0:B5)(x3:Int):Option B5:=
 (cond (decide (x3<(a0.length:Int)))
 (cond ((decide ((0:Int)≤x3))&&(decide (x3<(a0.length:Int))))
 (cond ((decide ((0:Int)≤(IntKind.wrap .i64 (x3-(1:Int)))))&&(decide ((IntKind.wrap .i64 (x3-(1:Int)))<(a0.length:Int))))
 (cond (eqd (.arr 32 k0B) (a0.getD (x3.toNat) (List.replicate 32 (0:Int))) (a0.getD ((IntKind.wrap .i64 (x3-(1:Int))).toNat) (List.replicate 32 (0:Int))))
 (cond ((decide ((0:Int)≤x3))&&(decide (x3≤(a0.length:Int))))
 (C9 (fun x3 z8=>(cond ((decide ((0:Int)≤x3))&&(decide (x3≤(z8.length:Int))))
 (cond ((decide ((0:Int)≤x3))&&(decide (x3≤((A6D z8 (x3.toNat) (List.take ((z8.length)-(x3.toNat)) (List.replicate ((z8.length)-(x3.toNat)) (List.replicate 32 (0:Int))))).length:Int))))
 (kr (x3.toNat) (A6D z8 (x3.toNat) (List.take ((z8.length)-(x3.toNat)) (List.replicate ((z8.length)-(x3.toNat)) (List.replicate 32 (0:Int))))))
 none)
 none)) a0 FUEL x3 (1:Int) a0 (x3.toNat))
 none)
 (rec (IntKind.wrap .i64 (x3+(1:Int)))))
 none)
 none)
 (ke0))
def F1(ke0:Option B5)(kr:Nat→B5→Option B5)(a0:B5):Nat→Int→Option B5
 |0=>fun _=>none
 |n+1=>H9 (F1 ke0 kr a0 n) ke0 kr a0
def J5(a0:B5):Option B5:=
 (cond (decide ((a0.length:Int)<(2:Int)))
 (some a0)
 (F1 (some a0) (fun x2v z8=>(some (List.take x2v z8))) a0 FUEL (1:Int)))
def b4s(k:Nat)(K:Ex→St→Option B5)(n:Nat)(a0:B5)(x3:Int)(x5:Int)(z8:B5)(x4u:Nat):Option B5:=A9j (M6 k) 0 (A0Z (M6 k) (A7s (M6 k) 8) 0 99 (sub a5j [1,1,0,1,0,0,1,0,0,1,0,1,0,1,0,0])) b0g K n (c4m a0 x3 x5 z8 x4u)
theorem c1c(k:Nat)(K:Ex→St→Option B5)(n:Nat)(x3:Int)(z8:B5):((B4x 2 (B5Q (A0Z (M6 k) (A7s (M6 k) 8) 0 99 (sub a5j [1,1,0,1,0,0,1,0,0,1,0,1,1])) (B4x 1 (B5Q (A0Z (M6 k) (A7s (M6 k) 8) 0 99 (sub a5j [1,1,0,1,0,0,1,1])) (B2m (M6 k) 0 a2X (A9j (M6 k) 0 (A0Z (M6 k) (A7s (M6 k) 8) 0 99 (sub a5j [1,1,0,1,0,0])) a2X K n) K))))) (.exit 2) (a9i x3 z8):Option B5)=
 ((cond ((decide ((0:Int)≤x3))&&(decide (x3≤(z8.length:Int))))
 (cond ((decide ((0:Int)≤x3))&&(decide (x3≤((A6D z8 (x3.toNat) (List.take ((z8.length)-(x3.toNat)) (List.replicate ((z8.length)-(x3.toNat)) (List.replicate 32 (0:Int))))).length:Int))))
 (K .ret (b4q (x3.toNat) (A6D z8 (x3.toNat) (List.take ((z8.length)-(x3.toNat)) (List.replicate ((z8.length)-(x3.toNat)) (List.replicate 32 (0:Int)))))))
 none)
 none):Option B5):=by kernel_rfl
theorem c1d(k:Nat)(K:Ex→St→Option B5)(n:Nat)(a0:B5)(x3:Int)(x5:Int)(z8:B5)(x4u:Nat):(b4s k K (n+1) a0 x3 x5 z8 x4u:Option B5)=F2 ((fun x3 x5 z8 x4u=>b4s k K n a0 x3 x5 z8 x4u)) (fun x3 z8=>K (.exit 2) (a9i x3 z8)) a0 x3 x5 z8 x4u:=by kernel_rfl
theorem c4l(K:Ex→St→Option B5)(a0:B5):∀(n:Nat) (x3:Int) (x5:Int) (z8:B5) (x4u:Nat),(b4s FUEL K n a0 x3 x5 z8 x4u:Option B5)=C9 (fun x3 z8=>K (.exit 2) (a9i x3 z8)) a0 n x3 x5 z8 x4u:=by
 intro n
 induction n with
 |zero=>intros; rfl
 |succ n ih=>
  intro x3 x5 z8 x4u
  exact(c1d FUEL K n a0 x3 x5 z8 x4u).trans (congrArg (fun f=>F2 f (fun x3 z8=>K (.exit 2) (a9i x3 z8)) a0 x3 x5 z8 x4u) (funext fun x3=>funext fun x5=>funext fun z8=>funext fun x4u=>ih x3 x5 z8 x4u))
def c4k(k:Nat)(K:Ex→St→Option B5)(n:Nat)(a0:B5)(x3:Int):Option B5:=A9j (M6 k) 0 (A0Z (M6 k) (A7s (M6 k) 8) 0 99 (sub a5j [1,1,0,1,0,0])) a2X K n (b4r a0 x3)
theorem c1b(k:Nat)(K:Ex→St→Option B5)(n:Nat)(a0:B5)(x3:Int):(c4k k K (n+1) a0 x3:Option B5)=
 ((cond (decide (x3<(a0.length:Int)))
 (cond ((decide ((0:Int)≤x3))&&(decide (x3<(a0.length:Int))))
 (cond ((decide ((0:Int)≤(IntKind.wrap .i64 (x3-(1:Int)))))&&(decide ((IntKind.wrap .i64 (x3-(1:Int)))<(a0.length:Int))))
 (cond (eqd (.arr 32 k0B) (a0.getD (x3.toNat) (List.replicate 32 (0:Int))) (a0.getD ((IntKind.wrap .i64 (x3-(1:Int))).toNat) (List.replicate 32 (0:Int))))
 (cond ((decide ((0:Int)≤x3))&&(decide (x3≤(a0.length:Int))))
 (A9j (M6 k) 0 (A0Z (M6 k) (A7s (M6 k) 8) 0 99 (sub a5j [1,1,0,1,0,0,1,0,0,1,0,1,0,1,0,0])) b0g (B4x 2 (B5Q (A0Z (M6 k) (A7s (M6 k) 8) 0 99 (sub a5j [1,1,0,1,0,0,1,0,0,1,0,1,1])) (B4x 1 (B5Q (A0Z (M6 k) (A7s (M6 k) 8) 0 99 (sub a5j [1,1,0,1,0,0,1,1])) (B2m (M6 k) 0 a2X (A9j (M6 k) 0 (A0Z (M6 k) (A7s (M6 k) 8) 0 99 (sub a5j [1,1,0,1,0,0])) a2X K n) K))))) k (c4m a0 x3 (1:Int) a0 (x3.toNat)))
 none)
 (A9j (M6 k) 0 (A0Z (M6 k) (A7s (M6 k) 8) 0 99 (sub a5j [1,1,0,1,0,0])) a2X K n (b4r a0 (IntKind.wrap .i64 (x3+(1:Int))))))
 none)
 none)
 (K (.exit 0) (b2e a0))):Option B5):=by kernel_rfl
theorem c1a(k:Nat)(a0:B5):((B4x 0 (B5Q (A0Z (M6 k) (A7s (M6 k) 8) 0 99 (sub a5j [1,1,1])) (B2g (M6 k) b8H 32 (.arr 32 k0B)))) (.exit 0) (b2e a0):Option B5)=
 ((some a0):Option B5):=by kernel_rfl
theorem c6M(k:Nat)(x2v:Nat)(z8:B5):((B4x 0 (B5Q (A0Z (M6 k) (A7s (M6 k) 8) 0 99 (sub a5j [1,1,1])) (B2g (M6 k) b8H 32 (.arr 32 k0B)))) .ret (b4q x2v z8):Option B5)=
 ((some (List.take x2v z8)):Option B5):=by kernel_rfl
theorem c4j(K:Ex→St→Option B5)(a0:B5):∀(n:Nat) (x3:Int),(c4k FUEL K n a0 x3:Option B5)=F1 (K (.exit 0) (b2e a0)) (fun x2v z8=>K .ret (b4q x2v z8)) a0 n x3:=by
 intro n
 induction n with
 |zero=>intros; rfl
 |succ n ih=>
  intro x3
  exact(c1b FUEL K n a0 x3).trans (B5U (B5U (B5U (B5U (B5U ((c4l _ a0 FUEL x3 (1:Int) a0 (x3.toNat)).trans (congrArg (fun e0=>C9 e0 a0 FUEL x3 (1:Int) a0 (x3.toNat)) (funext fun x3=>funext fun z8=>(c1c FUEL K n x3 z8).trans (B5U (B5U (rfl) (rfl)) (rfl))))) (rfl)) (ih (IntKind.wrap .i64 (x3+(1:Int))))) (rfl)) (rfl)) (rfl))
theorem d0y(k:Nat)(a0:B5):B5M (M6 k) 8 99 b8H 32 (.arr 32 k0B) a0 []=
 ((cond (decide ((a0.length:Int)<(2:Int)))
 (some a0)
 (A9j (M6 k) 0 (A0Z (M6 k) (A7s (M6 k) 8) 0 99 (sub a5j [1,1,0,1,0,0])) a2X (B4x 0 (B5Q (A0Z (M6 k) (A7s (M6 k) 8) 0 99 (sub a5j [1,1,1])) (B2g (M6 k) b8H 32 (.arr 32 k0B)))) k (b4r a0 (1:Int)))):Option B5):=by kernel_rfl
theorem d6v(a0:B5):B5M (M6 FUEL) 8 99 b8H 32 (.arr 32 k0B) a0 []=J5 a0:=
 (d0y FUEL a0).trans (B5U (rfl) ((c4j _ a0 FUEL (1:Int)).trans (B5V (fun e0 e1=>F1 e0 e1 a0 FUEL (1:Int)) ((c1a FUEL a0).trans (rfl)) (funext fun x2v=>funext fun z8=>(c6M FUEL x2v z8).trans (rfl)))))
def c8k:A5M:={E:=32,e:=(.arr 32 k0B),ps:= .unit,raw:=fun x q=>J5 x}
theorem d0z:A6I D8 99 c8k:=B5r (d3U FUEL) (depth:=8) d9n rfl fun xs q z h=>(d6v xs).trans h
end
end Go.Ai.G
