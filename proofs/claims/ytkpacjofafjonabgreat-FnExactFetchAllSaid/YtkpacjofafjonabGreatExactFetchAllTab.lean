/- Printed: plain functions,and that the Go functions do what they say. No conditions. -/
import Derived.Test.YtkpacjofafjonabGreatEg
import Derived.Test.YtkpacjofafjonabGreatEy
import Derived.Test.YtkpacjofafjonabGreatEv
import Derived.Test.YtkpacjofafjonabGreatEw
import Derived.Test.YtkpacjofafjonabGreatProg
namespace Go.Ai.G
open Go.Proofs
open Go.Ai
set_option linter.unusedVariables false
set_option maxRecDepth 100000
abbrev K0:Ty:=(.pair (.slice (.pair (.int .u8) (.pair (.slice (.int .u8)) .unit))) (.pair (.slice (.arr 32 (.int .u8))) .unit))
abbrev K1:Ty:=(.pair (.slice (.arr 32 (.int .u8))) (.pair (.slice (.pair (.int .u8) (.pair (.slice (.int .u8)) .unit))) .unit))
abbrev K2:Ty:=(.pair (.arr 32 (.int .u8)) (.pair (.arr 32 (.int .u8)) (.pair (.pair .str (.pair .str .unit)) .unit)))
abbrev K3:Ty:=(.pair (.pair (.slice (.pair (.int .u8) (.pair (.slice (.int .u8)) .unit))) .unit) .unit)
abbrev K4:Ty:=(.pair (.slice (.pair (.int .u8) (.pair (.slice (.int .u8)) .unit))) .unit)
abbrev K5:Ty:=(.pair (.arr 32 (.int .u8)) (.pair (.pair .str (.pair .str .unit)) .unit))
abbrev K6:Ty:=(.pair (.ref (.pair (.int .u8) (.pair (.slice (.int .u8)) .unit))) .unit)
abbrev K7:Ty:=(.pair (.slice (.arr 32 (.int .u8))) (.pair (.arr 32 (.int .u8)) .unit))
abbrev D9:Ty:=.arr 32 (.int .u8)
abbrev G7:Ty:=.arr 8 (.int .u32)
abbrev E8:Ty:=.int .i64
abbrev k0B:Ty:=.int .u8
abbrev A7:Type:=List Int
theorem C5:True:=trivial
abbrev T0:Type:=((List Int)×((List Int)×((List Int×(List Int×Unit))×Unit)))
abbrev K8:Ty:=(.pair (.pair (.int .u8) (.pair (.slice (.int .u8)) .unit)) .unit)
abbrev K9:Ty:=(.pair (.int .i64) (.pair (.int .i64) (.pair (.int .i64) .unit)))
abbrev T1:Type:=((List (Int×((List Int)×Unit)))×((List (List Int))×Unit))
abbrev T2:Type:=((List (List Int))×((List (Int×((List Int)×Unit)))×Unit))
abbrev K10:Ty:=(.pair (.slice (.arr 32 (.int .u8))) (.pair (.int .i64) .unit))
abbrev K11:Ty:=(.pair (.arr 32 (.int .u8)) (.pair (.arr 32 (.int .u8)) .unit))
abbrev K12:Ty:=(.slice (.pair (.int .u8) (.pair (.slice (.int .u8)) .unit)))
abbrev K13:Ty:=(.pair (.slice (.int .u8)) (.pair (.slice (.int .u8)) .unit))
abbrev T3:Type:=((List Int)×((List Int×(List Int×Unit))×Unit))
abbrev K14:Ty:=(.pair (.slice (.int .u8)) (.pair (.int .i64) .unit))
abbrev o4:Ty:=(.pair (.int .u8) (.pair (.slice (.int .u8)) .unit))
abbrev K16:Ty:=(.pair (.int .i64) (.pair (.int .i64) .unit))
abbrev K17:Ty:=(.pair (.pair .str (.pair .str .unit)) .unit)
abbrev T4:Type:=((List (Int×((List Int)×Unit)))×Unit)
abbrev K18:Ty:=(.pair (.slice (.arr 32 (.int .u8))) .unit)
abbrev T5:Type:=((List Int×(List Int×Unit))×Unit)
abbrev T6:Type:=(List (Int×((List Int)×Unit)))
abbrev K19:Ty:=(.pair (.arr 32 (.int .u8)) .unit)
abbrev K20:Ty:=(.pair (.slice (.int .u8)) .unit)
abbrev K21:Ty:=(.pair .str (.pair .str .unit))
abbrev T7:Type:=(List Int×(List Int×Unit))
abbrev K22:Ty:=(.slice (.arr 32 (.int .u8)))
abbrev T8:Type:=(Int×(Int×(Int×Unit)))
abbrev K23:Ty:=(.slice (.slice (.int .u8)))
abbrev T9:Type:=(Int×((List Int)×Unit))
abbrev T10:Type:=((List (List Int))×Unit)
abbrev T11:Type:=(List ((List Int)×Bool))
abbrev K24:Ty:=(.pair (.int .i64) .unit)
abbrev K25:Ty:=(.pair (.int .u8) .unit)
abbrev T12:Type:=(Int×(Int×Unit))
abbrev K26:Ty:=(.slice (.int .u8))
abbrev T13:Type:=((List Int)×Unit)
abbrev T14:Type:=((List Int)×Bool)
abbrev K27:Ty:=(.pair .str .unit)
abbrev B5:Type:=(List (List Int))
abbrev T16:Type:=(List Int×Unit)
abbrev T17:Type:=(Int×Unit)
abbrev T18:Type:=(Int×Bool)
noncomputable def tys:List (Option Ty):=[none,
 some (.opt .unit),
 some (.int .i64),
 some (.int .i64),
 some .bool,
 some (.int .u8),
 none,
 none,
 none,
 some .str,
 none,
 none,
 none,
 none,
 none,
 none,
 none,
 none,
 none,
 none,
 none,
 none,
 some (.slice (.int .u8)),
 none,
 some (.slice (.pair (.int .u8) (.pair (.slice (.int .u8)) .unit))),
 none,
 some (.pair (.slice (.pair (.int .u8) (.pair (.slice (.int .u8)) .unit))) .unit),
 none,
 none,
 some (.pair (.int .u8) (.pair (.slice (.int .u8)) .unit)),
 none,
 some (.arr 32 (.int .u8)),
 some (.arr 32 (.int .u8)),
 none,
 none,
 none,
 some (.opt .unit),
 none,
 none,
 none,
 none,
 none,
 none,
 some (.slice (.arr 32 (.int .u8))),
 none,
 none,
 none,
 none,
 none,
 none,
 none,
 none,
 none,
 some (.slice (.pair (.int .u8) (.pair (.slice (.int .u8)) .unit))),
 none,
 some (.pair (.slice (.pair (.int .u8) (.pair (.slice (.int .u8)) .unit))) .unit),
 some (.slice (.arr 32 (.int .u8))),
 none,
 none,
 none,
 some (.pair (.int .i64) (.pair (.int .i64) (.pair (.int .i64) .unit))),
 none,
 none,
 none,
 none,
 none,
 none,
 none,
 none,
 none,
 none,
 none,
 none,
 none,
 none,
 some (.opt (.pair (.slice (.arr 32 (.int .u8))) (.pair (.slice (.pair (.int .u8) (.pair (.slice (.int .u8)) .unit))) .unit))),
 none,
 none,
 none,
 some (.opt (.pair (.slice (.pair (.int .u8) (.pair (.slice (.int .u8)) .unit))) (.pair (.slice (.arr 32 (.int .u8))) .unit))),
 none,
 none,
 some (.opt (.pair (.slice (.pair (.int .u8) (.pair (.slice (.int .u8)) .unit))) .unit)),
 none,
 some (.opt (.pair (.int .u8) (.pair (.slice (.int .u8)) .unit))),
 none,
 none,
 none,
 none,
 none,
 none,
 some (.opt .unit),
 none,
 none,
 some (.pair (.slice (.arr 32 (.int .u8))) (.pair (.slice (.pair (.int .u8) (.pair (.slice (.int .u8)) .unit))) .unit)),
 none,
 none,
 none,
 none,
 some (.opt .unit),
 none,
 some (.pair (.slice (.pair (.int .u8) (.pair (.slice (.int .u8)) .unit))) (.pair (.slice (.arr 32 (.int .u8))) .unit)),
 none,
 none,
 none,
 none,
 none,
 none,
 none,
 none,
 none,
 none,
 none,
 none,
 none,
 none,
 none,
 none,
 none,
 none,
 none,
 none,
 some (.slice (.slice (.int .u8))),
 none,
 none,
 none,
 none,
 some (.int .u64),
 none,
 none,
 none,
 none,
 none,
 none,
 none,
 none,
 none,
 none,
 none,
 none,
 none,
 none,
 none,
 some (.pair (.int .u8) (.pair (.slice (.int .u8)) .unit)),
 some (.slice .bool),
 none,
 none,
 none,
 none,
 none,
 none,
 none,
 none,
 none,
 none,
 none,
 none,
 none,
 none,
 none,
 none,
 none,
 some (.pair .str (.pair .str .unit)),
 none,
 some (.pair (.arr 32 (.int .u8)) (.pair (.arr 32 (.int .u8)) (.pair (.pair .str (.pair .str .unit)) .unit))),
 none,
 none,
 none,
 none,
 none,
 none,
 none,
 none,
 none,
 none,
 none,
 none,
 some (.int .u32),
 some (.arr 8 (.int .u32)),
 none,
 none,
 none,
 none,
 some (.int .u64),
 none,
 none,
 none,
 none,
 none,
 none,
 some (.opt (.pair .str (.pair .str .unit))),
 none,
 none,
 none,
 none,
 none,
 none,
 none,
 none,
 none,
 none,
 none,
 none,
 none,
 none,
 none,
 none,
 none,
 none,
 none,
 none,
 none,
 none,
 none,
 none,
 some (.opt .unit),
 none,
 none,
 none,
 none,
 none,
 none,
 none,
 none,
 none,
 none,
 none,
 none,
 none,
 none,
 none,
 none,
 none,
 none,
 none,
 none,
 none,
 none,
 none,
 none,
 none,
 none,
 none,
 none,
 none,
 none,
 none,
 none,
 none,
 none,
 none,
 none,
 none,
 none,
 none,
 none,
 none]
noncomputable def d4o:List Nat:=[0,8,8,8,1,1,1,24,24,16,16,16,8,24,24,8,8,8,8,8,16,4,24,8,24,24,24,8,32,32,8,32,32,0,8,8,8,0,8,0,8,0,8,24,0,8,8,8,8,8,0,8,8,24,24,24,24,8,8,24,24,0,8,8,8,8,8,8,8,8,0,8,8,8,8,8,0,8,8,8,0,8,8,8,8,8,8,0,8,8,8,8,8,48,48,8,8,8,8,8,48,48,8,8,8,8,0,8,8,8,8,8,8,8,8,8,8,8,8,24,8,8,24,8,8,8,24,8,40,40,8,24,8,8,0,8,8,8,8,8,8,8,8,32,24,0,8,8,8,8,8,8,8,8,8,8,24,0,8,8,8,32,32,96,96,8,8,8,8,8,8,8,0,8,8,8,8,4,32,8,8,8,8,8,8,8,8,8,8,8,8,8,8,8,8,8,8,8,8,8,8,8,0,8,8,8,8,8,8,8,8,0,8,8,8,8,8,8,8,8,8,8,8,8,8,8,8,8,8,8,0,8,8,8,8,8,0,8,8,8,40,40,0,0,0,8,1,1,8,8,4,4,48,48,8,8,8]
noncomputable def d7w:List Nat:=[0,0,0,0,0,0,0,0,0,0,0,0,0,0,0,0,0,0,0,0,0,0,5,0,29,0,0,0,0,0,0,0,0,0,0,0,0,0,0,0,0,0,0,32,0,0,0,0,0,0,0,0,0,143,0,0,31,0,0,0,0,0,0,0,0,0,0,0,0,0,0,0,0,0,0,0,0,0,0,0,0,0,0,0,0,0,0,0,0,0,0,0,0,0,0,0,0,0,0,0,0,0,0,0,0,0,0,0,0,0,0,0,0,0,0,0,0,0,0,162,0,0,22,0,0,0,9,0,0,0,0,2,0,0,0,0,0,0,0,0,0,0,0,0,4,0,0,0,0,0,0,0,0,0,0,0,164,0,0,0,0,0,0,0,0,0,0,0,0,0,0,0,0,0,0,0,0,0,0,0,0,0,0,0,0,0,0,0,0,0,0,0,0,0,0,0,0,0,0,0,0,0,0,0,0,0,0,0,0,0,0,0,0,0,0,0,0,0,0,0,0,0,0,0,0,0,0,0,0,0,0,0,0,0,0,0,0,0,0,0,0,0,0,0,0,0,0,0,0,0,0,0,0,0,0,0,0]
noncomputable def nozero:List Nat:=[0,1,6,7,8,10,11,12,13,14,15,16,17,18,19,20,21,23,25,27,28,30,33,34,35,36,37,38,39,40,41,42,44,45,46,47,48,49,50,51,52,54,57,58,59,61,62,63,64,65,66,67,68,69,70,71,72,73,74,76,77,78,80,81,83,85,86,87,88,89,90,91,92,93,95,96,97,98,99,100,102,103,104,105,106,107,108,109,110,111,112,113,114,115,116,117,118,119,120,121,123,124,125,126,128,129,130,131,132,133,134,135,136,137,138,139,140,141,142,145,146,147,148,149,150,151,152,153,154,155,156,157,158,159,160,161,163,165,166,167,168,169,170,171,172,173,174,175,176,179,180,181,182,184,185,186,187,188,189,191,192,193,194,195,196,197,198,199,200,201,202,203,204,205,206,207,208,209,210,211,212,213,214,215,216,217,218,219,220,221,222,223,224,225,226,227,228,229,230,231,232,233,234,235,236,237,238,239,240,241,242,243,244,245,246,247,248,249,250,251,252,253,254,255,256]
noncomputable def dps:List (Nat×DS):=[(22,(.sl 5 (.pl (.int .u8)))),(24,(.sl 29 (.pr (.pl (.int .u8)) (.pr (.sl 5 (.pl (.int .u8))) (.pl .unit))))),(26,(.pr (.sl 29 (.pr (.pl (.int .u8)) (.pr (.sl 5 (.pl (.int .u8))) (.pl .unit)))) (.pl .unit))),(29,(.pr (.pl (.int .u8)) (.pr (.sl 5 (.pl (.int .u8))) (.pl .unit)))),(43,(.sl 32 (.pl (.arr 32 (.int .u8))))),(53,(.sl 143 (.pr (.pl (.int .u8)) (.pr (.sl 5 (.pl (.int .u8))) (.pl .unit))))),(55,(.pr (.sl 143 (.pr (.pl (.int .u8)) (.pr (.sl 5 (.pl (.int .u8))) (.pl .unit)))) (.pl .unit))),(56,(.sl 31 (.pl (.arr 32 (.int .u8))))),(94,(.pr (.sl 32 (.pl (.arr 32 (.int .u8)))) (.pr (.sl 29 (.pr (.pl (.int .u8)) (.pr (.sl 5 (.pl (.int .u8))) (.pl .unit)))) (.pl .unit)))),(101,(.pr (.sl 29 (.pr (.pl (.int .u8)) (.pr (.sl 5 (.pl (.int .u8))) (.pl .unit)))) (.pr (.sl 32 (.pl (.arr 32 (.int .u8)))) (.pl .unit)))),(122,(.sl 22 (.sl 5 (.pl (.int .u8))))),(143,(.pr (.pl (.int .u8)) (.pr (.sl 5 (.pl (.int .u8))) (.pl .unit)))),(144,(.sl 4 (.pl .bool)))]
theorem c8q:A8a Tryz.prog (B5g tys d4o d7w nozero (fun _=>none) (fun _=>none) (fun _=>none) (fun _=>none) (fun _ _=>none) 0 [] false []) 0 tys=true:=by kernel_rfl
noncomputable def d7x:List (Nat×Nat×Nat):=[(215,32,4)]
theorem c8n:B2p Tryz.prog d7x=true:=by kernel_rfl
theorem d4f:Tryz.prog.follows .mixedOrders=true:=by kernel_rfl
noncomputable def y7(inls:List (Nat×Inl))(cons:List (Nat×Con))(taks:List (Nat×A5M))(inps:List (Nat×A8p))(cuts:List (Nat×List (Nat×Cut)))(k:Nat)(d:List (Nat×DS))(m:Bool):Cx:=B5g tys d4o d7w nozero (Ai.look inls) (Ai.look cons) (Ai.look taks) (Ai.look inps) (fun f id=>match Ai.look cuts f with|some l=>Ai.look l id|none=>none) k d m d7x
theorem C4{inls cons taks inps cuts k d m}(h1:B5s (A8C Tryz.prog) cons)(h2:B5s (A6I Tryz.prog) taks)(h3:B5s (B0k Tryz.prog) inps)(h4:B5s (A3r Tryz.prog) inls):A9E Tryz.prog (y7 inls cons taks inps cuts k d m):=⟨B5R c8q c8n _ _ _ _ _ _ _ _,B3V _ h1,B3V _ h2,B3V _ h3,B3V _ h4,d4f⟩
noncomputable def a7h:Code:=(Tryz.f4.body).getD .skip
noncomputable def a3Z:Inl:=mkI a7h Tryz.f4
noncomputable abbrev D8:=Tryz.prog
theorem laws_FnExactFetchAll_ok:A3r D8 4 a3Z:=B5w Tryz.func4 rfl (by kernel_rfl)
noncomputable def d9w:Code:=(Tryz.f11.body).getD .skip
noncomputable def d6P:Inl:=mkI d9w Tryz.f11
theorem d7J:A3r D8 11 d6P:=B5w Tryz.func11 rfl (by kernel_rfl)
noncomputable def a4h:Code:=(Tryz.f17.body).getD .skip
noncomputable def a9r:Inl:=mkI a4h Tryz.f17
theorem d8a:A3r D8 17 a9r:=B5w Tryz.func17 rfl (by kernel_rfl)
noncomputable def d9x:Code:=(Tryz.f23.body).getD .skip
noncomputable def d6Q:Inl:=mkI d9x Tryz.f23
theorem d8i:A3r D8 23 d6Q:=B5w Tryz.func23 rfl (by kernel_rfl)
noncomputable def d9y:Code:=(Tryz.f24.body).getD .skip
noncomputable def d6R:Inl:=mkI d9y Tryz.f24
theorem d8j:A3r D8 24 d6R:=B5w Tryz.func24 rfl (by kernel_rfl)
noncomputable def a1g:Code:=(Tryz.f25.body).getD .skip
noncomputable def a5A:Inl:=mkI a1g Tryz.f25
theorem d8k:A3r D8 25 a5A:=B5w Tryz.func25 rfl (by kernel_rfl)
noncomputable def d9z:Code:=(Tryz.f26.body).getD .skip
noncomputable def d6S:Inl:=mkI d9z Tryz.f26
theorem d8l:A3r D8 26 d6S:=B5w Tryz.func26 rfl (by kernel_rfl)
noncomputable def c3b:Code:=(Tryz.f27.body).getD .skip
noncomputable def c3c:Inl:=mkI c3b Tryz.f27
theorem d8m:A3r D8 27 c3c:=B5w Tryz.func27 rfl (by kernel_rfl)
noncomputable def a5B:Code:=(Tryz.f28.body).getD .skip
noncomputable def b8a:Inl:=mkI a5B Tryz.f28
theorem d8n:A3r D8 28 b8a:=B5w Tryz.func28 rfl (by kernel_rfl)
noncomputable def d9A:Code:=(Tryz.f29.body).getD .skip
noncomputable def d6T:Inl:=mkI d9A Tryz.f29
theorem d8o:A3r D8 29 d6T:=B5w Tryz.func29 rfl (by kernel_rfl)
noncomputable def d9B:Code:=(Tryz.f30.body).getD .skip
noncomputable def d6U:Inl:=mkI d9B Tryz.f30
theorem d8p:A3r D8 30 d6U:=B5w Tryz.func30 rfl (by kernel_rfl)
noncomputable def b8b:Code:=(Tryz.f31.body).getD .skip
noncomputable def b8c:Inl:=mkI b8b Tryz.f31
theorem d8q:A3r D8 31 b8c:=B5w Tryz.func31 rfl (by kernel_rfl)
noncomputable def d9C:Code:=(Tryz.f32.body).getD .skip
noncomputable def d6V:Inl:=mkI d9C Tryz.f32
theorem d8r:A3r D8 32 d6V:=B5w Tryz.func32 rfl (by kernel_rfl)
noncomputable def a7q:Code:=(Tryz.f33.body).getD .skip
noncomputable def c3j:Inl:=mkI a7q Tryz.f33
theorem d8s:A3r D8 33 c3j:=B5w Tryz.func33 rfl (by kernel_rfl)
noncomputable def d9D:Code:=(Tryz.f34.body).getD .skip
noncomputable def d6W:Inl:=mkI d9D Tryz.f34
theorem d8t:A3r D8 34 d6W:=B5w Tryz.func34 rfl (by kernel_rfl)
noncomputable def d9E:Code:=(Tryz.f38.body).getD .skip
noncomputable def d6X:Inl:=mkI d9E Tryz.f38
theorem d8u:A3r D8 38 d6X:=B5w Tryz.func38 rfl (by kernel_rfl)
noncomputable def a5i:Code:=(Tryz.f40.body).getD .skip
noncomputable def a9s:Inl:=mkI a5i Tryz.f40
theorem d8v:A3r D8 40 a9s:=B5w Tryz.func40 rfl (by kernel_rfl)
noncomputable def d9F:Code:=(Tryz.f41.body).getD .skip
noncomputable def d6Y:Inl:=mkI d9F Tryz.f41
theorem d8w:A3r D8 41 d6Y:=B5w Tryz.func41 rfl (by kernel_rfl)
noncomputable def c3o:Code:=(Tryz.f42.body).getD .skip
noncomputable def c7P:Inl:=mkI c3o Tryz.f42
theorem d8x:A3r D8 42 c7P:=B5w Tryz.func42 rfl (by kernel_rfl)
noncomputable def d9G:Code:=(Tryz.f44.body).getD .skip
noncomputable def d6Z:Inl:=mkI d9G Tryz.f44
theorem d8y:A3r D8 44 d6Z:=B5w Tryz.func44 rfl (by kernel_rfl)
noncomputable def d9H:Code:=(Tryz.f45.body).getD .skip
noncomputable def d7a:Inl:=mkI d9H Tryz.f45
theorem d8z:A3r D8 45 d7a:=B5w Tryz.func45 rfl (by kernel_rfl)
noncomputable def d9I:Code:=(Tryz.f46.body).getD .skip
noncomputable def d7b:Inl:=mkI d9I Tryz.f46
theorem d8A:A3r D8 46 d7b:=B5w Tryz.func46 rfl (by kernel_rfl)
noncomputable def d9J:Code:=(Tryz.f47.body).getD .skip
noncomputable def d7c:Inl:=mkI d9J Tryz.f47
theorem d8B:A3r D8 47 d7c:=B5w Tryz.func47 rfl (by kernel_rfl)
noncomputable def d9K:Code:=(Tryz.f48.body).getD .skip
noncomputable def d7d:Inl:=mkI d9K Tryz.f48
theorem d8C:A3r D8 48 d7d:=B5w Tryz.func48 rfl (by kernel_rfl)
noncomputable def b3T:Code:=(Tryz.f51.body).getD .skip
noncomputable def c3p:Inl:=mkI b3T Tryz.f51
theorem d8D:A3r D8 51 c3p:=B5w Tryz.func51 rfl (by kernel_rfl)
noncomputable def d9L:Code:=(Tryz.f52.body).getD .skip
noncomputable def d7e:Inl:=mkI d9L Tryz.f52
theorem d8E:A3r D8 52 d7e:=B5w Tryz.func52 rfl (by kernel_rfl)
noncomputable def c3q:Code:=(Tryz.f53.body).getD .skip
noncomputable def c3r:Inl:=mkI c3q Tryz.f53
theorem d8F:A3r D8 53 c3r:=B5w Tryz.func53 rfl (by kernel_rfl)
noncomputable def d9M:Code:=(Tryz.f54.body).getD .skip
noncomputable def d7f:Inl:=mkI d9M Tryz.f54
theorem d8G:A3r D8 54 d7f:=B5w Tryz.func54 rfl (by kernel_rfl)
noncomputable def b2s:Code:=(Tryz.f55.body).getD .skip
noncomputable def b8j:Inl:=mkI b2s Tryz.f55
theorem d8H:A3r D8 55 b8j:=B5w Tryz.func55 rfl (by kernel_rfl)
noncomputable def d9N:Code:=(Tryz.f56.body).getD .skip
noncomputable def d7g:Inl:=mkI d9N Tryz.f56
theorem d3j:A3r D8 56 d7g:=B5w Tryz.func56 rfl (by kernel_rfl)
noncomputable def b8k:Code:=(Tryz.f57.body).getD .skip
noncomputable def b8m:Inl:=mkI b8k Tryz.f57
theorem d8I:A3r D8 57 b8m:=B5w Tryz.func57 rfl (by kernel_rfl)
noncomputable def d9O:Code:=(Tryz.f58.body).getD .skip
noncomputable def d7h:Inl:=mkI d9O Tryz.f58
theorem d8J:A3r D8 58 d7h:=B5w Tryz.func58 rfl (by kernel_rfl)
noncomputable def c3w:Code:=(Tryz.f59.body).getD .skip
noncomputable def c3z:Inl:=mkI c3w Tryz.f59
theorem d8K:A3r D8 59 c3z:=B5w Tryz.func59 rfl (by kernel_rfl)
noncomputable def b8o:Code:=(Tryz.f61.body).getD .skip
noncomputable def b8p:Inl:=mkI b8o Tryz.f61
theorem d8L:A3r D8 61 b8p:=B5w Tryz.func61 rfl (by kernel_rfl)
noncomputable def d9P:Code:=(Tryz.f62.body).getD .skip
noncomputable def d7i:Inl:=mkI d9P Tryz.f62
theorem d8M:A3r D8 62 d7i:=B5w Tryz.func62 rfl (by kernel_rfl)
noncomputable def d9Q:Code:=(Tryz.f63.body).getD .skip
noncomputable def d7j:Inl:=mkI d9Q Tryz.f63
theorem d8N:A3r D8 63 d7j:=B5w Tryz.func63 rfl (by kernel_rfl)
noncomputable def a3u:Code:=(Tryz.f64.body).getD .skip
noncomputable def c3C:Inl:=mkI a3u Tryz.f64
theorem d8O:A3r D8 64 c3C:=B5w Tryz.func64 rfl (by kernel_rfl)
noncomputable def b8r:Code:=(Tryz.f65.body).getD .skip
noncomputable def b8s:Inl:=mkI b8r Tryz.f65
theorem d8P:A3r D8 65 b8s:=B5w Tryz.func65 rfl (by kernel_rfl)
noncomputable def c3F:Code:=(Tryz.f66.body).getD .skip
noncomputable def c3I:Inl:=mkI c3F Tryz.f66
theorem d8Q:A3r D8 66 c3I:=B5w Tryz.func66 rfl (by kernel_rfl)
noncomputable def c3J:Code:=(Tryz.f67.body).getD .skip
noncomputable def c3K:Inl:=mkI c3J Tryz.f67
theorem d8R:A3r D8 67 c3K:=B5w Tryz.func67 rfl (by kernel_rfl)
noncomputable def d9R:Code:=(Tryz.f68.body).getD .skip
noncomputable def d7k:Inl:=mkI d9R Tryz.f68
theorem d8S:A3r D8 68 d7k:=B5w Tryz.func68 rfl (by kernel_rfl)
noncomputable def d9S:Code:=(Tryz.f69.body).getD .skip
noncomputable def d7l:Inl:=mkI d9S Tryz.f69
theorem d8T:A3r D8 69 d7l:=B5w Tryz.func69 rfl (by kernel_rfl)
noncomputable def d9T:Code:=(Tryz.f70.body).getD .skip
noncomputable def d7m:Inl:=mkI d9T Tryz.f70
theorem d8U:A3r D8 70 d7m:=B5w Tryz.func70 rfl (by kernel_rfl)
noncomputable def d9U:Code:=(Tryz.f71.body).getD .skip
noncomputable def d7n:Inl:=mkI d9U Tryz.f71
theorem d8V:A3r D8 71 d7n:=B5w Tryz.func71 rfl (by kernel_rfl)
noncomputable def c3N:Code:=(Tryz.f72.body).getD .skip
noncomputable def c3Q:Inl:=mkI c3N Tryz.f72
theorem d8W:A3r D8 72 c3Q:=B5w Tryz.func72 rfl (by kernel_rfl)
noncomputable def b8v:Code:=(Tryz.f73.body).getD .skip
noncomputable def c3R:Inl:=mkI b8v Tryz.f73
theorem d8X:A3r D8 73 c3R:=B5w Tryz.func73 rfl (by kernel_rfl)
noncomputable def c3S:Code:=(Tryz.f74.body).getD .skip
noncomputable def c3T:Inl:=mkI c3S Tryz.f74
theorem d8Y:A3r D8 74 c3T:=B5w Tryz.func74 rfl (by kernel_rfl)
noncomputable def b8w:Code:=(Tryz.f75.body).getD .skip
noncomputable def b8x:Inl:=mkI b8w Tryz.f75
theorem d8Z:A3r D8 75 b8x:=B5w Tryz.func75 rfl (by kernel_rfl)
noncomputable def b8y:Code:=(Tryz.f76.body).getD .skip
noncomputable def b8z:Inl:=mkI b8y Tryz.f76
theorem d9a:A3r D8 76 b8z:=B5w Tryz.func76 rfl (by kernel_rfl)
noncomputable def c4a:Code:=(Tryz.f77.body).getD .skip
noncomputable def c4d:Inl:=mkI c4a Tryz.f77
theorem d9b:A3r D8 77 c4d:=B5w Tryz.func77 rfl (by kernel_rfl)
noncomputable def b8B:Code:=(Tryz.f78.body).getD .skip
noncomputable def b8C:Inl:=mkI b8B Tryz.f78
theorem d9c:A3r D8 78 b8C:=B5w Tryz.func78 rfl (by kernel_rfl)
noncomputable def d9V:Code:=(Tryz.f89.body).getD .skip
noncomputable def d7o:Inl:=mkI d9V Tryz.f89
theorem d9d:A3r D8 89 d7o:=B5w Tryz.func89 rfl (by kernel_rfl)
noncomputable def d9W:Code:=(Tryz.f90.body).getD .skip
noncomputable def d7p:Inl:=mkI d9W Tryz.f90
theorem d9e:A3r D8 90 d7p:=B5w Tryz.func90 rfl (by kernel_rfl)
noncomputable def d9X:Code:=(Tryz.f91.body).getD .skip
noncomputable def d7q:Inl:=mkI d9X Tryz.f91
theorem d9f:A3r D8 91 d7q:=B5w Tryz.func91 rfl (by kernel_rfl)
noncomputable def b8D:Code:=(Tryz.f92.body).getD .skip
noncomputable def b8E:Inl:=mkI b8D Tryz.f92
theorem d9g:A3r D8 92 b8E:=B5w Tryz.func92 rfl (by kernel_rfl)
noncomputable def d9Y:Code:=(Tryz.f93.body).getD .skip
noncomputable def d7r:Inl:=mkI d9Y Tryz.f93
theorem d9h:A3r D8 93 d7r:=B5w Tryz.func93 rfl (by kernel_rfl)
noncomputable def d9Z:Code:=(Tryz.f94.body).getD .skip
noncomputable def d7s:Inl:=mkI d9Z Tryz.f94
theorem d9i:A3r D8 94 d7s:=B5w Tryz.func94 rfl (by kernel_rfl)
noncomputable def f0a:Code:=(Tryz.f95.body).getD .skip
noncomputable def d7t:Inl:=mkI f0a Tryz.f95
theorem d9j:A3r D8 95 d7t:=B5w Tryz.func95 rfl (by kernel_rfl)
noncomputable def b8G:Code:=(Tryz.f96.body).getD .skip
noncomputable def c4i:Inl:=mkI b8G Tryz.f96
theorem d9k:A3r D8 96 c4i:=B5w Tryz.func96 rfl (by kernel_rfl)
noncomputable def f0b:Code:=(Tryz.f97.body).getD .skip
noncomputable def d7u:Inl:=mkI f0b Tryz.f97
theorem d9l:A3r D8 97 d7u:=B5w Tryz.func97 rfl (by kernel_rfl)
noncomputable def f0c:Code:=(Tryz.f98.body).getD .skip
noncomputable def f0d:Inl:=mkI f0c Tryz.f98
theorem d9m:A3r D8 98 f0d:=B5w Tryz.func98 rfl (by kernel_rfl)
noncomputable def a5j:Code:=(Tryz.f99.body).getD .skip
noncomputable def b8H:Inl:=mkI a5j Tryz.f99
theorem d9n:A3r D8 99 b8H:=B5w Tryz.func99 rfl (by kernel_rfl)
noncomputable def b0U:Code:=(Tryz.f100.body).getD .skip
noncomputable def b0V:Inl:=mkI b0U Tryz.f100
theorem d4v:A3r D8 100 b0V:=B5w Tryz.func100 rfl (by kernel_rfl)
noncomputable def d7A:Code:=(Tryz.f101.body).getD .skip
noncomputable def d0Y:Inl:=mkI d7A Tryz.f101
theorem d4w:A3r D8 101 d0Y:=B5w Tryz.func101 rfl (by kernel_rfl)
noncomputable def d7B:Code:=(Tryz.f102.body).getD .skip
noncomputable def d1a:Inl:=mkI d7B Tryz.f102
theorem d4x:A3r D8 102 d1a:=B5w Tryz.func102 rfl (by kernel_rfl)
noncomputable def d7C:Code:=(Tryz.f103.body).getD .skip
noncomputable def d1c:Inl:=mkI d7C Tryz.f103
theorem d4y:A3r D8 103 d1c:=B5w Tryz.func103 rfl (by kernel_rfl)
noncomputable def b2Q:Code:=(Tryz.f104.body).getD .skip
noncomputable def b2R:Inl:=mkI b2Q Tryz.f104
theorem d4z:A3r D8 104 b2R:=B5w Tryz.func104 rfl (by kernel_rfl)
noncomputable def d7D:Code:=(Tryz.f105.body).getD .skip
noncomputable def d1f:Inl:=mkI d7D Tryz.f105
theorem d4A:A3r D8 105 d1f:=B5w Tryz.func105 rfl (by kernel_rfl)
noncomputable def b0Y:Code:=(Tryz.f106.body).getD .skip
noncomputable def b0Z:Inl:=mkI b0Y Tryz.f106
theorem d4B:A3r D8 106 b0Z:=B5w Tryz.func106 rfl (by kernel_rfl)
noncomputable def b1b:Code:=(Tryz.f107.body).getD .skip
noncomputable def b1c:Inl:=mkI b1b Tryz.f107
theorem d4C:A3r D8 107 b1c:=B5w Tryz.func107 rfl (by kernel_rfl)
noncomputable def d7E:Code:=(Tryz.f108.body).getD .skip
noncomputable def d1j:Inl:=mkI d7E Tryz.f108
theorem d4D:A3r D8 108 d1j:=B5w Tryz.func108 rfl (by kernel_rfl)
noncomputable def a5f:Code:=(Tryz.f109.body).getD .skip
noncomputable def a7C:Inl:=mkI a5f Tryz.f109
theorem d4E:A3r D8 109 a7C:=B5w Tryz.func109 rfl (by kernel_rfl)
noncomputable def d7F:Code:=(Tryz.f110.body).getD .skip
noncomputable def d1m:Inl:=mkI d7F Tryz.f110
theorem d4F:A3r D8 110 d1m:=B5w Tryz.func110 rfl (by kernel_rfl)
noncomputable def d7G:Code:=(Tryz.f111.body).getD .skip
noncomputable def d1o:Inl:=mkI d7G Tryz.f111
theorem d4G:A3r D8 111 d1o:=B5w Tryz.func111 rfl (by kernel_rfl)
noncomputable def d7H:Code:=(Tryz.f112.body).getD .skip
noncomputable def d1q:Inl:=mkI d7H Tryz.f112
theorem d4H:A3r D8 112 d1q:=B5w Tryz.func112 rfl (by kernel_rfl)
noncomputable def d7I:Code:=(Tryz.f113.body).getD .skip
noncomputable def d1s:Inl:=mkI d7I Tryz.f113
theorem d4I:A3r D8 113 d1s:=B5w Tryz.func113 rfl (by kernel_rfl)
noncomputable def b2S:Code:=(Tryz.f114.body).getD .skip
noncomputable def b2T:Inl:=mkI b2S Tryz.f114
theorem d4J:A3r D8 114 b2T:=B5w Tryz.func114 rfl (by kernel_rfl)
noncomputable def b1h:Code:=(Tryz.f115.body).getD .skip
noncomputable def b1i:Inl:=mkI b1h Tryz.f115
theorem d4K:A3r D8 115 b1i:=B5w Tryz.func115 rfl (by kernel_rfl)
noncomputable def d7K:Code:=(Tryz.f124.body).getD .skip
noncomputable def d7L:Inl:=mkI d7K Tryz.f124
theorem d4M:A3r D8 124 d7L:=B5w Tryz.func124 rfl (by kernel_rfl)
noncomputable def d7M:Code:=(Tryz.f125.body).getD .skip
noncomputable def d7N:Inl:=mkI d7M Tryz.f125
theorem d4N:A3r D8 125 d7N:=B5w Tryz.func125 rfl (by kernel_rfl)
noncomputable def d7O:Code:=(Tryz.f126.body).getD .skip
noncomputable def d1y:Inl:=mkI d7O Tryz.f126
theorem d4O:A3r D8 126 d1y:=B5w Tryz.func126 rfl (by kernel_rfl)
noncomputable def b2W:Code:=(Tryz.f127.body).getD .skip
noncomputable def b2X:Inl:=mkI b2W Tryz.f127
theorem d4P:A3r D8 127 b2X:=B5w Tryz.func127 rfl (by kernel_rfl)
noncomputable def b2Y:Code:=(Tryz.f128.body).getD .skip
noncomputable def b2Z:Inl:=mkI b2Y Tryz.f128
theorem d4Q:A3r D8 128 b2Z:=B5w Tryz.func128 rfl (by kernel_rfl)
noncomputable def a6i:Code:=(Tryz.f129.body).getD .skip
noncomputable def a9y:Inl:=mkI a6i Tryz.f129
theorem d4R:A3r D8 129 a9y:=B5w Tryz.func129 rfl (by kernel_rfl)
noncomputable def b3a:Code:=(Tryz.f130.body).getD .skip
noncomputable def b3b:Inl:=mkI b3a Tryz.f130
theorem d4S:A3r D8 130 b3b:=B5w Tryz.func130 rfl (by kernel_rfl)
noncomputable def b3c:Code:=(Tryz.f131.body).getD .skip
noncomputable def b3d:Inl:=mkI b3c Tryz.f131
theorem d4T:A3r D8 131 b3d:=B5w Tryz.func131 rfl (by kernel_rfl)
noncomputable def b3e:Code:=(Tryz.f132.body).getD .skip
noncomputable def b3f:Inl:=mkI b3e Tryz.f132
theorem d4U:A3r D8 132 b3f:=B5w Tryz.func132 rfl (by kernel_rfl)
noncomputable def b3g:Code:=(Tryz.f133.body).getD .skip
noncomputable def b3h:Inl:=mkI b3g Tryz.f133
theorem d4V:A3r D8 133 b3h:=B5w Tryz.func133 rfl (by kernel_rfl)
noncomputable def d7P:Code:=(Tryz.f136.body).getD .skip
noncomputable def d1H:Inl:=mkI d7P Tryz.f136
theorem d4W:A3r D8 136 d1H:=B5w Tryz.func136 rfl (by kernel_rfl)
noncomputable def d7Q:Code:=(Tryz.f137.body).getD .skip
noncomputable def d1J:Inl:=mkI d7Q Tryz.f137
theorem d4X:A3r D8 137 d1J:=B5w Tryz.func137 rfl (by kernel_rfl)
noncomputable def d7R:Code:=(Tryz.f138.body).getD .skip
noncomputable def d1L:Inl:=mkI d7R Tryz.f138
theorem d4Y:A3r D8 138 d1L:=B5w Tryz.func138 rfl (by kernel_rfl)
noncomputable def a4j:Code:=(Tryz.f139.body).getD .skip
noncomputable def b3i:Inl:=mkI a4j Tryz.f139
theorem d4Z:A3r D8 139 b3i:=B5w Tryz.func139 rfl (by kernel_rfl)
noncomputable def b3j:Code:=(Tryz.f140.body).getD .skip
noncomputable def b3k:Inl:=mkI b3j Tryz.f140
theorem d5a:A3r D8 140 b3k:=B5w Tryz.func140 rfl (by kernel_rfl)
noncomputable def a1w:Code:=(Tryz.f141.body).getD .skip
noncomputable def a4k:Inl:=mkI a1w Tryz.f141
theorem c7s:A3r D8 141 a4k:=B5w Tryz.func141 rfl (by kernel_rfl)
noncomputable def a2V:Code:=(Tryz.f142.body).getD .skip
noncomputable def a9A:Inl:=mkI a2V Tryz.f142
theorem d5b:A3r D8 142 a9A:=B5w Tryz.func142 rfl (by kernel_rfl)
noncomputable def d7S:Code:=(Tryz.f143.body).getD .skip
noncomputable def d1Q:Inl:=mkI d7S Tryz.f143
theorem d5c:A3r D8 143 d1Q:=B5w Tryz.func143 rfl (by kernel_rfl)
noncomputable def b1w:Code:=(Tryz.f144.body).getD .skip
noncomputable def b1x:Inl:=mkI b1w Tryz.f144
theorem d5d:A3r D8 144 b1x:=B5w Tryz.func144 rfl (by kernel_rfl)
noncomputable def b1z:Code:=(Tryz.f145.body).getD .skip
noncomputable def b1A:Inl:=mkI b1z Tryz.f145
theorem d5e:A3r D8 145 b1A:=B5w Tryz.func145 rfl (by kernel_rfl)
noncomputable def d7T:Code:=(Tryz.f146.body).getD .skip
noncomputable def d1T:Inl:=mkI d7T Tryz.f146
theorem d5f:A3r D8 146 d1T:=B5w Tryz.func146 rfl (by kernel_rfl)
noncomputable def d7U:Code:=(Tryz.f147.body).getD .skip
noncomputable def d1V:Inl:=mkI d7U Tryz.f147
theorem d5g:A3r D8 147 d1V:=B5w Tryz.func147 rfl (by kernel_rfl)
noncomputable def a6v:Code:=(Tryz.f156.body).getD .skip
noncomputable def a9C:Inl:=mkI a6v Tryz.f156
theorem d5h:A3r D8 156 a9C:=B5w Tryz.func156 rfl (by kernel_rfl)
noncomputable def b3l:Code:=(Tryz.f157.body).getD .skip
noncomputable def b3m:Inl:=mkI b3l Tryz.f157
theorem d5i:A3r D8 157 b3m:=B5w Tryz.func157 rfl (by kernel_rfl)
noncomputable def d7V:Code:=(Tryz.f158.body).getD .skip
noncomputable def d7W:Inl:=mkI d7V Tryz.f158
theorem d5j:A3r D8 158 d7W:=B5w Tryz.func158 rfl (by kernel_rfl)
noncomputable def b3n:Code:=(Tryz.f159.body).getD .skip
noncomputable def b3o:Inl:=mkI b3n Tryz.f159
theorem d5k:A3r D8 159 b3o:=B5w Tryz.func159 rfl (by kernel_rfl)
noncomputable def a1C:Code:=(Tryz.f160.body).getD .skip
noncomputable def a6A:Inl:=mkI a1C Tryz.f160
theorem d5l:A3r D8 160 a6A:=B5w Tryz.func160 rfl (by kernel_rfl)
noncomputable def d7X:Code:=(Tryz.f171.body).getD .skip
noncomputable def d2b:Inl:=mkI d7X Tryz.f171
theorem d5m:A3r D8 171 d2b:=B5w Tryz.func171 rfl (by kernel_rfl)
noncomputable def a3R:Code:=(Tryz.f172.body).getD .skip
noncomputable def b3r:Inl:=mkI a3R Tryz.f172
theorem d5n:A3r D8 172 b3r:=B5w Tryz.func172 rfl (by kernel_rfl)
noncomputable def b3s:Code:=(Tryz.f173.body).getD .skip
noncomputable def b3t:Inl:=mkI b3s Tryz.f173
theorem d5o:A3r D8 173 b3t:=B5w Tryz.func173 rfl (by kernel_rfl)
noncomputable def b3u:Code:=(Tryz.f174.body).getD .skip
noncomputable def b3v:Inl:=mkI b3u Tryz.f174
theorem d5p:A3r D8 174 b3v:=B5w Tryz.func174 rfl (by kernel_rfl)
noncomputable def a5g:Code:=(Tryz.f175.body).getD .skip
noncomputable def a6H:Inl:=mkI a5g Tryz.f175
theorem c7w:A3r D8 175 a6H:=B5w Tryz.func175 rfl (by kernel_rfl)
noncomputable def d7Y:Code:=(Tryz.f176.body).getD .skip
noncomputable def d2g:Inl:=mkI d7Y Tryz.f176
theorem d5q:A3r D8 176 d2g:=B5w Tryz.func176 rfl (by kernel_rfl)
noncomputable def a3o:Code:=(Tryz.f177.body).getD .skip
noncomputable def a8g:Inl:=mkI a3o Tryz.f177
theorem d5r:A3r D8 177 a8g:=B5w Tryz.func177 rfl (by kernel_rfl)
noncomputable def d7Z:Code:=(Tryz.f178.body).getD .skip
noncomputable def d2i:Inl:=mkI d7Z Tryz.f178
theorem d5s:A3r D8 178 d2i:=B5w Tryz.func178 rfl (by kernel_rfl)
noncomputable def a6L:Code:=(Tryz.f182.body).getD .skip
noncomputable def a9G:Inl:=mkI a6L Tryz.f182
theorem d5u:A3r D8 182 a9G:=B5w Tryz.func182 rfl (by kernel_rfl)
noncomputable def o5:Code:=(Tryz.f183.body).getD .skip
noncomputable def a6O:Inl:=mkI o5 Tryz.f183
theorem d5v:A3r D8 183 a6O:=B5w Tryz.func183 rfl (by kernel_rfl)
noncomputable def b3A:Code:=(Tryz.f184.body).getD .skip
noncomputable def b3B:Inl:=mkI b3A Tryz.f184
theorem d5w:A3r D8 184 b3B:=B5w Tryz.func184 rfl (by kernel_rfl)
noncomputable def b3C:Code:=(Tryz.f185.body).getD .skip
noncomputable def b3D:Inl:=mkI b3C Tryz.f185
theorem d5x:A3r D8 185 b3D:=B5w Tryz.func185 rfl (by kernel_rfl)
noncomputable def d8b:Code:=(Tryz.f186.body).getD .skip
noncomputable def d2p:Inl:=mkI d8b Tryz.f186
theorem d5y:A3r D8 186 d2p:=B5w Tryz.func186 rfl (by kernel_rfl)
noncomputable def b3E:Code:=(Tryz.f192.body).getD .skip
noncomputable def b3F:Inl:=mkI b3E Tryz.f192
theorem d5z:A3r D8 192 b3F:=B5w Tryz.func192 rfl (by kernel_rfl)
noncomputable def d8c:Code:=(Tryz.f193.body).getD .skip
noncomputable def d2s:Inl:=mkI d8c Tryz.f193
theorem d5A:A3r D8 193 d2s:=B5w Tryz.func193 rfl (by kernel_rfl)
noncomputable def d8d:Code:=(Tryz.f194.body).getD .skip
noncomputable def d2u:Inl:=mkI d8d Tryz.f194
theorem d5B:A3r D8 194 d2u:=B5w Tryz.func194 rfl (by kernel_rfl)
noncomputable def d8e:Code:=(Tryz.f195.body).getD .skip
noncomputable def d2w:Inl:=mkI d8e Tryz.f195
theorem d5C:A3r D8 195 d2w:=B5w Tryz.func195 rfl (by kernel_rfl)
noncomputable def d8f:Code:=(Tryz.f198.body).getD .skip
noncomputable def d2x:Inl:=mkI d8f Tryz.f198
theorem d5D:A3r D8 198 d2x:=B5w Tryz.func198 rfl (by kernel_rfl)
noncomputable def d8g:Code:=(Tryz.f200.body).getD .skip
noncomputable def d2z:Inl:=mkI d8g Tryz.f200
theorem d5E:A3r D8 200 d2z:=B5w Tryz.func200 rfl (by kernel_rfl)
noncomputable def d8h:Code:=(Tryz.f201.body).getD .skip
noncomputable def d2B:Inl:=mkI d8h Tryz.f201
theorem d5F:A3r D8 201 d2B:=B5w Tryz.func201 rfl (by kernel_rfl)
end Go.Ai.G
namespace Go.Proofs
open Go.Shelf
def Tryz.laysIns124_ren:Go.Shelf.Ren:=⟨fun|22=>124|29=>152|30=>153|n=>n,fun|24=>43|9=>32|3=>3|n=>n,fun|n=>n⟩
theorem Tryz.laysIns124:Go.Ai.InsLay Tryz.prog Tryz.laysIns124_ren 32:={
  mixed:=by kernel_rfl
  f22:=⟨Tryz.f124.name,by decide,Tryz.func124.trans (congrArg some (by kernel_rfl))⟩
  ov:=fun args w=>run_callFunc_extern Tryz.func152 (by kernel_rfl) (by kernel_rfl) (by kernel_rfl) (by kernel_rfl) args w
  t0:=Tryz.underlying0
  a0:=Tryz.isAgg0
  z0:=Tryz.sizeOf0
  v0:=Tryz.zeroValue0
  t3:=Tryz.underlying3
  a3:=Tryz.isAgg3
  z3:=Tryz.sizeOf3
  v3:=Tryz.zeroValue3
  t4:=Tryz.underlying4
  a4:=Tryz.isAgg4
  z4:=Tryz.sizeOf4
  v4:=Tryz.zeroValue4
  t24:=Tryz.underlying43
  a24:=Tryz.isAgg43
  z24:=Tryz.sizeOf43
  v24:=Tryz.zeroValue43
  z9:=Tryz.sizeOf32}
def Tryz.laysIns125_ren:Go.Shelf.Ren:=⟨fun|22=>125|29=>154|30=>155|n=>n,fun|24=>24|9=>29|3=>3|n=>n,fun|n=>n⟩
theorem Tryz.laysIns125:Go.Ai.InsLay Tryz.prog Tryz.laysIns125_ren 2:={
  mixed:=by kernel_rfl
  f22:=⟨Tryz.f125.name,by decide,Tryz.func125.trans (congrArg some (by kernel_rfl))⟩
  ov:=fun args w=>run_callFunc_extern Tryz.func154 (by kernel_rfl) (by kernel_rfl) (by kernel_rfl) (by kernel_rfl) args w
  t0:=Tryz.underlying0
  a0:=Tryz.isAgg0
  z0:=Tryz.sizeOf0
  v0:=Tryz.zeroValue0
  t3:=Tryz.underlying3
  a3:=Tryz.isAgg3
  z3:=Tryz.sizeOf3
  v3:=Tryz.zeroValue3
  t4:=Tryz.underlying4
  a4:=Tryz.isAgg4
  z4:=Tryz.sizeOf4
  v4:=Tryz.zeroValue4
  t24:=Tryz.underlying24
  a24:=Tryz.isAgg24
  z24:=Tryz.sizeOf24
  v24:=Tryz.zeroValue24
  z9:=Tryz.sizeOf29}
def Tryz.laysGrow158_ren:Go.Shelf.Ren:=⟨fun|4=>158|n=>n,fun|22=>22|25=>5|3=>3|4=>4|9=>9|20=>20|0=>0|n=>n,fun|n=>n⟩
theorem Tryz.laysGrow158:Go.Proofs.Lays8.n4 Tryz.prog Tryz.laysGrow158_ren:={
  mixed:=by kernel_rfl
  f4:=⟨Tryz.f158.name,by decide,Tryz.func158.trans (congrArg some (by kernel_rfl))⟩
  t0:=Tryz.underlying0
  a0:=Tryz.isAgg0
  z0:=Tryz.sizeOf0
  v0:=Tryz.zeroValue0
  t3:=Tryz.underlying3
  a3:=Tryz.isAgg3
  z3:=Tryz.sizeOf3
  v3:=Tryz.zeroValue3
  t4:=Tryz.underlying4
  a4:=Tryz.isAgg4
  z4:=Tryz.sizeOf4
  v4:=Tryz.zeroValue4
  t9:=Tryz.underlying9
  a9:=Tryz.isAgg9
  z9:=Tryz.sizeOf9
  v9:=Tryz.zeroValue9
  t20:=Tryz.underlying20
  a20:=Tryz.isAgg20
  z20:=Tryz.sizeOf20
  v20:=Tryz.zeroValue20
  t22:=Tryz.underlying22
  a22:=Tryz.isAgg22
  z22:=Tryz.sizeOf22
  v22:=Tryz.zeroValue22}
def Tryz.laysSortF98_ren:Go.Shelf.Ren:=⟨fun|6=>98|15=>135|14=>134|28=>169|29=>170|20=>161|21=>162|22=>163|23=>164|24=>165|25=>166|26=>167|27=>168|46=>187|47=>188|48=>189|49=>190|50=>191|57=>199|n=>n,fun|22=>43|24=>32|25=>99|3=>3|39=>183|0=>0|53=>177|55=>127|4=>4|46=>202|45=>201|50=>134|5=>5|9=>9|66=>223|70=>227|76=>235|77=>236|n=>n,fun|n=>n⟩
theorem Tryz.laysSortF98:Go.Proofs.SlLaysF0.n6 Tryz.prog Tryz.laysSortF98_ren:={
  mixed:=by kernel_rfl
  f6:=⟨Tryz.f98.name,by decide,Tryz.func98.trans (congrArg some (by kernel_rfl))⟩
  f14:=⟨Tryz.f134.name,by decide,Tryz.func134.trans (congrArg some (by kernel_rfl))⟩
  f15:=Tryz.func135.trans (congrArg some (by kernel_rfl))
  f20:=⟨Tryz.f161.name,by decide,Tryz.func161.trans (congrArg some (by kernel_rfl))⟩
  f21:=⟨Tryz.f162.name,by decide,Tryz.func162.trans (congrArg some (by kernel_rfl))⟩
  f22:=⟨Tryz.f163.name,by decide,Tryz.func163.trans (congrArg some (by kernel_rfl))⟩
  f23:=⟨Tryz.f164.name,by decide,Tryz.func164.trans (congrArg some (by kernel_rfl))⟩
  f24:=⟨Tryz.f165.name,by decide,Tryz.func165.trans (congrArg some (by kernel_rfl))⟩
  f25:=⟨Tryz.f166.name,by decide,Tryz.func166.trans (congrArg some (by kernel_rfl))⟩
  f26:=⟨Tryz.f167.name,by decide,Tryz.func167.trans (congrArg some (by kernel_rfl))⟩
  f27:=⟨Tryz.f168.name,by decide,Tryz.func168.trans (congrArg some (by kernel_rfl))⟩
  f28:=Tryz.func169.trans (congrArg some (by kernel_rfl))
  f29:=Tryz.func170.trans (congrArg some (by kernel_rfl))
  f46:=⟨Tryz.f187.name,by decide,Tryz.func187.trans (congrArg some (by kernel_rfl))⟩
  f47:=Tryz.func188.trans (congrArg some (by kernel_rfl))
  f48:=Tryz.func189.trans (congrArg some (by kernel_rfl))
  f49:=⟨Tryz.f190.name,by decide,Tryz.func190.trans (congrArg some (by kernel_rfl))⟩
  f50:=⟨Tryz.f191.name,by decide,Tryz.func191.trans (congrArg some (by kernel_rfl))⟩
  f57:=⟨Tryz.f199.name,by decide,Tryz.func199.trans (congrArg some (by kernel_rfl))⟩
  t0:=Tryz.underlying0
  a0:=Tryz.isAgg0
  z0:=Tryz.sizeOf0
  v0:=Tryz.zeroValue0
  t3:=Tryz.underlying3
  a3:=Tryz.isAgg3
  z3:=Tryz.sizeOf3
  v3:=Tryz.zeroValue3
  t4:=Tryz.underlying4
  a4:=Tryz.isAgg4
  z4:=Tryz.sizeOf4
  v4:=Tryz.zeroValue4
  t5:=Tryz.underlying5
  a5:=Tryz.isAgg5
  z5:=Tryz.sizeOf5
  v5:=Tryz.zeroValue5
  t9:=Tryz.underlying9
  a9:=Tryz.isAgg9
  z9:=Tryz.sizeOf9
  v9:=Tryz.zeroValue9
  t22:=Tryz.underlying43
  a22:=Tryz.isAgg43
  z22:=Tryz.sizeOf43
  v22:=Tryz.zeroValue43
  t25:=Tryz.underlying99
  a25:=Tryz.isAgg99
  z25:=Tryz.sizeOf99
  v25:=Tryz.zeroValue99
  t39:=Tryz.underlying183
  a39:=Tryz.isAgg183
  z39:=Tryz.sizeOf183
  v39:=Tryz.zeroValue183
  t45:=Tryz.underlying201
  a45:=Tryz.isAgg201
  z45:=Tryz.sizeOf201
  v45:=Tryz.zeroValue201
  t46:=Tryz.underlying202
  a46:=Tryz.isAgg202
  z46:=Tryz.sizeOf202
  v46:=Tryz.zeroValue202
  t50:=Tryz.underlying134
  a50:=Tryz.isAgg134
  z50:=Tryz.sizeOf134
  v50:=Tryz.zeroValue134
  t53:=Tryz.underlying177
  a53:=Tryz.isAgg177
  z53:=Tryz.sizeOf177
  v53:=Tryz.zeroValue177
  t55:=Tryz.underlying127
  a55:=Tryz.isAgg127
  z55:=Tryz.sizeOf127
  v55:=Tryz.zeroValue127
  t66:=Tryz.underlying223
  a66:=Tryz.isAgg223
  z66:=Tryz.sizeOf223
  v66:=Tryz.zeroValue223
  t70:=Tryz.underlying227
  a70:=Tryz.isAgg227
  z70:=Tryz.sizeOf227
  v70:=Tryz.zeroValue227
  t76:=Tryz.underlying235
  a76:=Tryz.isAgg235
  z76:=Tryz.sizeOf235
  v76:=Tryz.zeroValue235
  t77:=Tryz.underlying236
  a77:=Tryz.isAgg236
  z77:=Tryz.sizeOf236
  v77:=Tryz.zeroValue236}
end Go.Proofs
namespace Go.Ai.G
open Go.Proofs
open Go.Ai
noncomputable def O6(a0:(List (List Int)))(a1:Int)(a2:(List (List Int))):Option (List (List Int)):=
 cond (decide (a2.length=1)&&(decide (0≤a1)&&decide (a1≤(a0.length:Int)))&&(decide ((a0.length+1)*32≤140737488355328)&&decide (a0.length+1≤4611686018427387904))) (some (a0.take a1.toNat++(a2++a0.drop a1.toNat))) none
noncomputable def c1Z:A5M:=B5x 32 (.arr 32 (.int .u8)) 32
theorem c5i:A6I Tryz.prog 124 c1Z:=B5y Tryz.laysIns124 (.arr 32 (.int .u8)) rfl rfl (by decide) d4M 32 (by kernel_rfl)
noncomputable def N0(a0:(List (Int×((List Int)×Unit))))(a1:Int)(a2:(List (Int×((List Int)×Unit)))):Option (List (Int×((List Int)×Unit))):=
 cond (decide (a2.length=1)&&(decide (0≤a1)&&decide (a1≤(a0.length:Int)))&&(decide ((a0.length+1)*32≤140737488355328)&&decide (a0.length+1≤4611686018427387904))) (some (a0.take a1.toNat++(a2++a0.drop a1.toNat))) none
noncomputable def c2a:A5M:=B5x 29 (.pair (.int .u8) (.pair (.slice (.int .u8)) .unit)) 32
theorem c5j:A6I Tryz.prog 125 c2a:=B5y Tryz.laysIns125 (.pair (.int .u8) (.pair (.slice (.int .u8)) .unit)) rfl rfl (by decide) d4N 32 (by kernel_rfl)
noncomputable def W6(a0:(List Int))(a1:Int):Option (List Int):=
 cond (decide (0≤a1)&&(decide (((a0.length:Int)+a1)*((1:Nat):Int)≤140737488355328)&&decide ((a0.length:Int)+a1≤4611686018427387904))) (some a0) none
noncomputable def c2w:A5M:=B4U 5 (.int .u8) 1
theorem c5R:A6I Tryz.prog 158 c2w:=B5o Tryz.laysGrow158 (.int .u8) rfl rfl d5j 1 (by kernel_rfl)
end Go.Ai.G
