/- Made by a program of this work out of the program: tables and plain functions,with the proof that each Go function does what its plain function says. No conditions. -/
import Derived.Test.YtkpacjofafjonaaGreatEg
import Derived.Test.YtkpacjofafjonaaGreatEy
import Derived.Test.YtkpacjofafjonaaGreatEw
import Derived.Test.YtkpacjofafjonaaGreatProg
namespace Go.Ai.G
open Go.Proofs
open Go.Ai
set_option linter.unusedVariables false
set_option maxRecDepth 100000

abbrev K0:Ty:=(.pair (.slice (.pair (.int .u8) (.pair (.slice (.int .u8)) .unit))) (.pair (.slice (.arr 32 (.int .u8))) .unit))
abbrev K1:Ty:=(.pair (.slice (.arr 32 (.int .u8))) (.pair (.slice (.pair (.int .u8) (.pair (.slice (.int .u8)) .unit))) .unit))
abbrev K2:Ty:=(.pair (.arr 32 (.int .u8)) (.pair (.arr 32 (.int .u8)) (.pair (.pair .str (.pair .str .unit)) .unit)))
abbrev K3:Ty:=(.pair (.pair (.slice (.pair (.int .u8) (.pair (.slice (.int .u8)) .unit))) .unit) .unit)
abbrev K4:Ty:=(.pair (.slice (.arr 32 (.int .u8))) (.pair (.slice (.arr 32 (.int .u8))) .unit))
abbrev K5:Ty:=(.pair (.slice (.pair (.int .u8) (.pair (.slice (.int .u8)) .unit))) .unit)
abbrev K6:Ty:=(.pair (.arr 32 (.int .u8)) (.pair (.pair .str (.pair .str .unit)) .unit))
abbrev T0:Type:=((List Int)×((List Int)×((List Int×(List Int×Unit))×Unit)))
abbrev K7:Ty:=(.pair (.pair (.int .u8) (.pair (.slice (.int .u8)) .unit)) .unit)
abbrev T1:Type:=((List (Int×((List Int)×Unit)))×((List (List Int))×Unit))
abbrev T2:Type:=((List (List Int))×((List (Int×((List Int)×Unit)))×Unit))
abbrev K8:Ty:=(.slice (.pair (.int .u8) (.pair (.slice (.int .u8)) .unit)))
abbrev T3:Type:=((List Int)×((List Int×(List Int×Unit))×Unit))
abbrev K9:Ty:=(.pair (.slice (.int .u8)) (.pair (.int .i64) .unit))
abbrev K10:Ty:=(.pair (.int .u8) (.pair (.slice (.int .u8)) .unit))
abbrev K11:Ty:=(.pair (.pair .str (.pair .str .unit)) .unit)
abbrev T4:Type:=((List (Int×((List Int)×Unit)))×Unit)
abbrev K12:Ty:=(.pair (.slice (.arr 32 (.int .u8))) .unit)
abbrev T5:Type:=((List (Int×((List Int)×Unit)))×Int)
abbrev T6:Type:=((List Int×(List Int×Unit))×Unit)
abbrev T7:Type:=(List (Int×((List Int)×Unit)))
abbrev K13:Ty:=(.pair (.arr 32 (.int .u8)) .unit)
abbrev K14:Ty:=(.pair (.slice (.int .u8)) .unit)
abbrev T8:Type:=((List Bool)×(List (List Int)))
abbrev K15:Ty:=(.pair .str (.pair .str .unit))
abbrev T9:Type:=(List Int×(List Int×Unit))
abbrev K16:Ty:=(.slice (.arr 32 (.int .u8)))
abbrev K17:Ty:=(.slice (.slice (.int .u8)))
abbrev T10:Type:=(Int×((List Int)×Unit))
abbrev T11:Type:=((List (List Int))×Unit)
abbrev T12:Type:=(List ((List Int)×Bool))
abbrev K18:Ty:=(.pair (.int .i64) .unit)
abbrev K19:Ty:=(.pair (.int .u8) .unit)
abbrev K20:Ty:=(.slice (.int .u8))
abbrev T13:Type:=((List Int)×Unit)
abbrev T14:Type:=((List Int)×Bool)
abbrev K21:Ty:=(.pair .str .unit)
abbrev T15:Type:=(List (List Int))
abbrev T16:Type:=(List Int×Unit)
noncomputable def tys:List (Option Ty):=[none,
 some (.opt .unit),
 some (.int .i64),
 some (.int .i64),
 some .bool,
 some (.int .u8),
 none,
 none,
 none,
 some .str,
 none,
 none,
 none,
 none,
 none,
 none,
 none,
 none,
 none,
 none,
 none,
 none,
 some (.slice (.pair (.int .u8) (.pair (.slice (.int .u8)) .unit))),
 none,
 some (.pair (.slice (.pair (.int .u8) (.pair (.slice (.int .u8)) .unit))) .unit),
 some (.arr 32 (.int .u8)),
 none,
 none,
 some (.slice (.arr 32 (.int .u8))),
 none,
 none,
 some (.slice (.pair (.int .u8) (.pair (.slice (.int .u8)) .unit))),
 none,
 some (.pair (.slice (.pair (.int .u8) (.pair (.slice (.int .u8)) .unit))) .unit),
 none,
 some (.arr 32 (.int .u8)),
 none,
 none,
 none,
 none,
 none,
 none,
 none,
 none,
 none,
 none,
 none,
 none,
 none,
 none,
 none,
 some (.slice (.arr 32 (.int .u8))),
 none,
 none,
 none,
 none,
 none,
 none,
 none,
 none,
 none,
 none,
 none,
 none,
 none,
 none,
 none,
 none,
 some (.opt (.pair (.slice (.pair (.int .u8) (.pair (.slice (.int .u8)) .unit))) (.pair (.slice (.arr 32 (.int .u8))) .unit))),
 none,
 none,
 some (.opt (.pair (.slice (.pair (.int .u8) (.pair (.slice (.int .u8)) .unit))) .unit)),
 none,
 none,
 none,
 none,
 none,
 some (.opt (.pair (.slice (.arr 32 (.int .u8))) (.pair (.slice (.pair (.int .u8) (.pair (.slice (.int .u8)) .unit))) .unit))),
 none,
 none,
 none,
 none,
 none,
 none,
 none,
 none,
 some (.pair .str (.pair .str .unit)),
 none,
 some (.pair (.arr 32 (.int .u8)) (.pair (.arr 32 (.int .u8)) (.pair (.pair .str (.pair .str .unit)) .unit))),
 none,
 none,
 none,
 none,
 none,
 none,
 some (.slice .bool),
 none,
 some (.pair (.slice (.pair (.int .u8) (.pair (.slice (.int .u8)) .unit))) (.pair (.slice (.arr 32 (.int .u8))) .unit)),
 none,
 none,
 none,
 none,
 none,
 none,
 none,
 none,
 none,
 some (.opt .unit),
 none,
 none,
 none,
 none,
 some (.opt .unit),
 none,
 none,
 none,
 none,
 none,
 none,
 none,
 none,
 none,
 none,
 some (.slice (.int .u8)),
 none,
 some (.pair (.int .u8) (.pair (.slice (.int .u8)) .unit)),
 none,
 none,
 none,
 none,
 none,
 none,
 none,
 none,
 none,
 none,
 none,
 none,
 none,
 none,
 none,
 none,
 none,
 none,
 none,
 some (.pair (.int .u8) (.pair (.slice (.int .u8)) .unit)),
 none,
 some (.opt (.pair (.int .u8) (.pair (.slice (.int .u8)) .unit))),
 none,
 none,
 none,
 none,
 none,
 none,
 none,
 none,
 some (.pair (.slice (.arr 32 (.int .u8))) (.pair (.slice (.pair (.int .u8) (.pair (.slice (.int .u8)) .unit))) .unit)),
 none,
 none,
 none,
 none,
 none,
 none,
 none,
 none,
 none,
 some (.slice (.slice (.arr 32 (.int .u8)))),
 none,
 some (.opt .unit),
 none,
 none,
 none,
 none,
 none,
 none,
 none,
 none,
 none,
 none,
 none,
 none,
 none,
 none,
 none,
 none,
 none,
 none,
 none,
 none,
 none,
 none,
 some (.opt .unit),
 none,
 some (.opt .unit),
 none,
 none,
 some (.int .u32),
 some (.arr 8 (.int .u32)),
 none,
 none,
 none,
 none,
 none,
 none,
 none,
 none,
 none,
 none,
 none,
 none,
 none,
 none,
 none,
 none,
 none,
 some (.int .u64),
 none,
 some (.opt (.pair .str (.pair .str .unit))),
 none,
 none,
 none,
 none,
 none,
 some (.int .u64),
 some (.slice (.slice (.int .u8))),
 none,
 none,
 none,
 none,
 none,
 none,
 none,
 none,
 none,
 none,
 none,
 none,
 none,
 none,
 none,
 none,
 none,
 none,
 none,
 none,
 none,
 none,
 none,
 none,
 none,
 none,
 none,
 none,
 none,
 none,
 none,
 none,
 none,
 none,
 none,
 none,
 none,
 none,
 none,
 none,
 none,
 none,
 none,
 none,
 none,
 none,
 none,
 none,
 none,
 none,
 none,
 none]
noncomputable def tbytes:List Nat:=[0,8,8,8,1,1,1,24,24,16,16,16,8,24,24,8,8,8,8,8,16,4,24,24,24,32,8,24,24,0,8,24,24,24,8,32,8,8,8,8,8,8,8,8,24,8,0,8,8,8,8,24,8,0,8,8,8,0,8,8,8,8,0,8,8,8,8,8,8,0,8,8,8,72,72,8,8,8,0,8,8,8,8,88,88,32,32,96,96,0,8,8,8,8,8,24,48,48,24,0,8,8,8,8,8,8,8,8,0,8,8,8,8,0,8,8,8,0,8,8,8,0,8,24,32,32,8,8,8,0,8,8,8,8,8,0,8,8,8,8,8,8,0,8,8,32,8,8,8,8,8,8,8,8,8,48,48,8,8,8,8,8,8,8,8,8,24,8,8,8,8,8,8,0,8,8,8,8,0,8,8,40,40,0,8,0,8,8,0,8,8,8,8,8,8,8,4,32,8,0,8,8,8,8,8,8,8,8,8,8,8,8,8,8,8,8,8,8,8,8,8,8,8,8,24,8,8,8,8,8,8,8,8,8,8,8,8,8,8,0,8,8,8,8,8,8,8,8,8,8,8,8,8,8,0,8,8,40,40,0,0,0,8,1,1,8,8,4,4,48,48,8,8,8,8,24,8]
noncomputable def telem:List Nat:=[0,0,0,0,0,0,0,0,0,0,0,0,0,0,0,0,0,0,0,0,0,0,145,0,0,0,0,86,35,0,0,125,0,0,0,0,0,0,0,0,0,0,0,0,9,0,0,0,0,0,0,25,0,0,0,0,0,0,0,0,0,0,0,0,0,0,0,0,0,0,0,0,0,0,0,0,0,0,0,0,0,0,0,0,0,0,0,0,0,0,0,0,0,0,0,4,0,0,88,0,0,0,0,0,0,0,0,0,0,0,0,0,0,0,0,0,0,0,0,0,0,0,0,5,0,0,0,0,0,0,0,0,0,0,0,0,0,0,0,0,0,0,0,0,0,0,0,0,0,0,0,0,0,0,0,0,0,0,0,0,0,0,0,0,0,0,28,0,0,0,0,0,0,0,0,0,0,0,0,0,0,0,0,0,0,0,0,0,0,0,0,0,0,0,0,0,0,0,0,0,0,0,0,0,0,0,0,0,0,0,0,0,0,0,0,0,0,0,0,0,0,0,0,0,123,0,0,0,0,0,0,0,0,0,0,0,0,0,0,0,0,0,0,0,0,0,0,0,0,0,0,0,0,0,0,0,0,0,0,0,0,0,0,0,0,0,0,0,0,0,0,0,0,0,0,2,0]
noncomputable def nozero:List Nat:=[0,1,6,7,8,10,11,12,13,14,15,16,17,18,19,20,21,23,26,27,29,30,32,34,36,37,38,39,40,41,42,43,44,45,46,47,48,49,50,52,53,54,55,56,57,58,59,60,61,62,63,64,65,66,67,69,70,72,73,74,75,76,78,79,80,81,82,83,84,85,87,89,90,91,92,93,94,96,98,99,100,101,102,103,104,105,106,107,108,109,110,111,112,113,114,115,116,117,118,119,120,121,122,124,126,127,128,129,130,131,132,133,134,135,136,137,138,139,140,141,142,143,144,146,148,149,150,151,152,153,154,155,157,158,159,160,161,162,163,164,165,167,168,169,170,171,172,173,174,175,176,177,178,179,180,181,182,183,184,185,186,187,188,189,190,191,192,193,194,195,198,199,200,201,202,203,204,205,206,207,208,209,210,211,212,213,214,216,218,219,220,221,222,225,226,227,228,229,230,231,232,233,234,235,236,237,238,239,240,241,242,243,244,245,246,247,248,249,250,251,252,253,254,255,256,257,258,259,260,261,262,263,264,265,266,267,268,269,270,271,272,273,274,275,276]
noncomputable def dps:List (Nat×DS):=[(22,(.sl 145 (.pr (.pl (.int .u8)) (.pr (.sl 5 (.pl (.int .u8))) (.pl .unit))))),(24,(.pr (.sl 145 (.pr (.pl (.int .u8)) (.pr (.sl 5 (.pl (.int .u8))) (.pl .unit)))) (.pl .unit))),(28,(.sl 35 (.pl (.arr 32 (.int .u8))))),(31,(.sl 125 (.pr (.pl (.int .u8)) (.pr (.sl 5 (.pl (.int .u8))) (.pl .unit))))),(33,(.pr (.sl 125 (.pr (.pl (.int .u8)) (.pr (.sl 5 (.pl (.int .u8))) (.pl .unit)))) (.pl .unit))),(51,(.sl 25 (.pl (.arr 32 (.int .u8))))),(95,(.sl 4 (.pl .bool))),(97,(.pr (.sl 125 (.pr (.pl (.int .u8)) (.pr (.sl 5 (.pl (.int .u8))) (.pl .unit)))) (.pr (.sl 35 (.pl (.arr 32 (.int .u8)))) (.pl .unit)))),(123,(.sl 5 (.pl (.int .u8)))),(125,(.pr (.pl (.int .u8)) (.pr (.sl 5 (.pl (.int .u8))) (.pl .unit)))),(145,(.pr (.pl (.int .u8)) (.pr (.sl 5 (.pl (.int .u8))) (.pl .unit)))),(156,(.pr (.sl 35 (.pl (.arr 32 (.int .u8)))) (.pr (.sl 125 (.pr (.pl (.int .u8)) (.pr (.sl 5 (.pl (.int .u8))) (.pl .unit)))) (.pl .unit)))),(166,(.sl 28 (.sl 35 (.pl (.arr 32 (.int .u8)))))),(224,(.sl 123 (.sl 5 (.pl (.int .u8)))))]
theorem tabs_ok:rowsB Tryz.prog (mkCx tys tbytes telem nozero (fun _=>none) (fun _=>none) (fun _=>none) (fun _=>none) (fun _ _=>none) 0 [] false []) 0 tys=true:=by kernel_rfl
noncomputable def tmaps:List (Nat×Nat×Nat):=[(107,35,4)]
theorem maps_ok:mapsB Tryz.prog tmaps=true:=by kernel_rfl
theorem mixed_ok:Tryz.prog.follows .mixedOrders=true:=by kernel_rfl
noncomputable def mkC(inls:List (Nat×Inl))(cons:List (Nat×Con))(taks:List (Nat×ConT))(inps:List (Nat×ConI))(cuts:List (Nat×List (Nat×Cut)))(k:Nat)(d:List (Nat×DS))(m:Bool):Cx:=mkCx tys tbytes telem nozero (Ai.look inls) (Ai.look cons) (Ai.look taks) (Ai.look inps) (fun f id=>match Ai.look cuts f with|some l=>Ai.look l id|none=>none) k d m tmaps
theorem mkC_ok{inls cons taks inps cuts k d m}(h1:AllQ (ConOk Tryz.prog) cons)(h2:AllQ (TakOk Tryz.prog) taks)(h3:AllQ (InpOk Tryz.prog) inps)(h4:AllQ (InlOk Tryz.prog) inls):TabsOk Tryz.prog (mkC inls cons taks inps cuts k d m):=⟨tab_mk tabs_ok maps_ok _ _ _ _ _ _ _ _,look_all _ h1,look_all _ h2,look_all _ h3,look_all _ h4,mixed_ok⟩
noncomputable def laws_FnExactBlobsFor_c:Code:=(Tryz.f6.body).getD .skip
noncomputable def laws_FnExactBlobsFor_i:Inl:=mkI laws_FnExactBlobsFor_c Tryz.f6
theorem laws_FnExactBlobsFor_ok:InlOk Tryz.prog 6 laws_FnExactBlobsFor_i:=inlOk_of Tryz.func6 rfl (by kernel_rfl) (by kernel_rfl)
noncomputable def f9_c:Code:=(Tryz.f9.body).getD .skip
noncomputable def f9_i:Inl:=mkI f9_c Tryz.f9
theorem f9_ok:InlOk Tryz.prog 9 f9_i:=inlOk_of Tryz.func9 rfl (by kernel_rfl) (by kernel_rfl)
noncomputable def f11_c:Code:=(Tryz.f11.body).getD .skip
noncomputable def f11_i:Inl:=mkI f11_c Tryz.f11
theorem f11_ok:InlOk Tryz.prog 11 f11_i:=inlOk_of Tryz.func11 rfl (by kernel_rfl) (by kernel_rfl)
noncomputable def f12_c:Code:=(Tryz.f12.body).getD .skip
noncomputable def f12_i:Inl:=mkI f12_c Tryz.f12
theorem f12_ok:InlOk Tryz.prog 12 f12_i:=inlOk_of Tryz.func12 rfl (by kernel_rfl) (by kernel_rfl)
noncomputable def f15_c:Code:=(Tryz.f15.body).getD .skip
noncomputable def f15_i:Inl:=mkI f15_c Tryz.f15
theorem f15_ok:InlOk Tryz.prog 15 f15_i:=inlOk_of Tryz.func15 rfl (by kernel_rfl) (by kernel_rfl)
noncomputable def f16_c:Code:=(Tryz.f16.body).getD .skip
noncomputable def f16_i:Inl:=mkI f16_c Tryz.f16
theorem f16_ok:InlOk Tryz.prog 16 f16_i:=inlOk_of Tryz.func16 rfl (by kernel_rfl) (by kernel_rfl)
noncomputable def f17_c:Code:=(Tryz.f17.body).getD .skip
noncomputable def f17_i:Inl:=mkI f17_c Tryz.f17
theorem f17_ok:InlOk Tryz.prog 17 f17_i:=inlOk_of Tryz.func17 rfl (by kernel_rfl) (by kernel_rfl)
noncomputable def f19_c:Code:=(Tryz.f19.body).getD .skip
noncomputable def f19_i:Inl:=mkI f19_c Tryz.f19
theorem f19_ok:InlOk Tryz.prog 19 f19_i:=inlOk_of Tryz.func19 rfl (by kernel_rfl) (by kernel_rfl)
noncomputable def f29_c:Code:=(Tryz.f29.body).getD .skip
noncomputable def f29_i:Inl:=mkI f29_c Tryz.f29
theorem f29_ok:InlOk Tryz.prog 29 f29_i:=inlOk_of Tryz.func29 rfl (by kernel_rfl) (by kernel_rfl)
noncomputable def f31_c:Code:=(Tryz.f31.body).getD .skip
noncomputable def f31_i:Inl:=mkI f31_c Tryz.f31
theorem f31_ok:InlOk Tryz.prog 31 f31_i:=inlOk_of Tryz.func31 rfl (by kernel_rfl) (by kernel_rfl)
noncomputable def f33_c:Code:=(Tryz.f33.body).getD .skip
noncomputable def f33_i:Inl:=mkI f33_c Tryz.f33
theorem f33_ok:InlOk Tryz.prog 33 f33_i:=inlOk_of Tryz.func33 rfl (by kernel_rfl) (by kernel_rfl)
noncomputable def f34_c:Code:=(Tryz.f34.body).getD .skip
noncomputable def f34_i:Inl:=mkI f34_c Tryz.f34
theorem f34_ok:InlOk Tryz.prog 34 f34_i:=inlOk_of Tryz.func34 rfl (by kernel_rfl) (by kernel_rfl)
noncomputable def f35_c:Code:=(Tryz.f35.body).getD .skip
noncomputable def f35_i:Inl:=mkI f35_c Tryz.f35
theorem f35_ok:InlOk Tryz.prog 35 f35_i:=inlOk_of Tryz.func35 rfl (by kernel_rfl) (by kernel_rfl)
noncomputable def f36_c:Code:=(Tryz.f36.body).getD .skip
noncomputable def f36_i:Inl:=mkI f36_c Tryz.f36
theorem f36_ok:InlOk Tryz.prog 36 f36_i:=inlOk_of Tryz.func36 rfl (by kernel_rfl) (by kernel_rfl)
noncomputable def f37_c:Code:=(Tryz.f37.body).getD .skip
noncomputable def f37_i:Inl:=mkI f37_c Tryz.f37
theorem f37_ok:InlOk Tryz.prog 37 f37_i:=inlOk_of Tryz.func37 rfl (by kernel_rfl) (by kernel_rfl)
noncomputable def f42_c:Code:=(Tryz.f42.body).getD .skip
noncomputable def f42_i:Inl:=mkI f42_c Tryz.f42
theorem f42_ok:InlOk Tryz.prog 42 f42_i:=inlOk_of Tryz.func42 rfl (by kernel_rfl) (by kernel_rfl)
noncomputable def f43_c:Code:=(Tryz.f43.body).getD .skip
noncomputable def f43_i:Inl:=mkI f43_c Tryz.f43
theorem f43_ok:InlOk Tryz.prog 43 f43_i:=inlOk_of Tryz.func43 rfl (by kernel_rfl) (by kernel_rfl)
noncomputable def f45_c:Code:=(Tryz.f45.body).getD .skip
noncomputable def f45_i:Inl:=mkI f45_c Tryz.f45
theorem f45_ok:InlOk Tryz.prog 45 f45_i:=inlOk_of Tryz.func45 rfl (by kernel_rfl) (by kernel_rfl)
noncomputable def f46_c:Code:=(Tryz.f46.body).getD .skip
noncomputable def f46_i:Inl:=mkI f46_c Tryz.f46
theorem f46_ok:InlOk Tryz.prog 46 f46_i:=inlOk_of Tryz.func46 rfl (by kernel_rfl) (by kernel_rfl)
noncomputable def f51_c:Code:=(Tryz.f51.body).getD .skip
noncomputable def f51_i:Inl:=mkI f51_c Tryz.f51
theorem f51_ok:InlOk Tryz.prog 51 f51_i:=inlOk_of Tryz.func51 rfl (by kernel_rfl) (by kernel_rfl)
noncomputable def f53_c:Code:=(Tryz.f53.body).getD .skip
noncomputable def f53_i:Inl:=mkI f53_c Tryz.f53
theorem f53_ok:InlOk Tryz.prog 53 f53_i:=inlOk_of Tryz.func53 rfl (by kernel_rfl) (by kernel_rfl)
noncomputable def f55_c:Code:=(Tryz.f55.body).getD .skip
noncomputable def f55_i:Inl:=mkI f55_c Tryz.f55
theorem f55_ok:InlOk Tryz.prog 55 f55_i:=inlOk_of Tryz.func55 rfl (by kernel_rfl) (by kernel_rfl)
noncomputable def f61_c:Code:=(Tryz.f61.body).getD .skip
noncomputable def f61_i:Inl:=mkI f61_c Tryz.f61
theorem f61_ok:InlOk Tryz.prog 61 f61_i:=inlOk_of Tryz.func61 rfl (by kernel_rfl) (by kernel_rfl)
noncomputable def f66_c:Code:=(Tryz.f66.body).getD .skip
noncomputable def f66_i:Inl:=mkI f66_c Tryz.f66
theorem f66_ok:InlOk Tryz.prog 66 f66_i:=inlOk_of Tryz.func66 rfl (by kernel_rfl) (by kernel_rfl)
noncomputable def f67_c:Code:=(Tryz.f67.body).getD .skip
noncomputable def f67_i:Inl:=mkI f67_c Tryz.f67
theorem f67_ok:InlOk Tryz.prog 67 f67_i:=inlOk_of Tryz.func67 rfl (by kernel_rfl) (by kernel_rfl)
noncomputable def f69_c:Code:=(Tryz.f69.body).getD .skip
noncomputable def f69_i:Inl:=mkI f69_c Tryz.f69
theorem f69_ok:InlOk Tryz.prog 69 f69_i:=inlOk_of Tryz.func69 rfl (by kernel_rfl) (by kernel_rfl)
noncomputable def f72_c:Code:=(Tryz.f72.body).getD .skip
noncomputable def f72_i:Inl:=mkI f72_c Tryz.f72
theorem f72_ok:InlOk Tryz.prog 72 f72_i:=inlOk_of Tryz.func72 rfl (by kernel_rfl) (by kernel_rfl)
noncomputable def f73_c:Code:=(Tryz.f73.body).getD .skip
noncomputable def f73_i:Inl:=mkI f73_c Tryz.f73
theorem f73_ok:InlOk Tryz.prog 73 f73_i:=inlOk_of Tryz.func73 rfl (by kernel_rfl) (by kernel_rfl)
noncomputable def f74_c:Code:=(Tryz.f74.body).getD .skip
noncomputable def f74_i:Inl:=mkI f74_c Tryz.f74
theorem f74_ok:InlOk Tryz.prog 74 f74_i:=inlOk_of Tryz.func74 rfl (by kernel_rfl) (by kernel_rfl)
noncomputable def f75_c:Code:=(Tryz.f75.body).getD .skip
noncomputable def f75_i:Inl:=mkI f75_c Tryz.f75
theorem f75_ok:InlOk Tryz.prog 75 f75_i:=inlOk_of Tryz.func75 rfl (by kernel_rfl) (by kernel_rfl)
noncomputable def f76_c:Code:=(Tryz.f76.body).getD .skip
noncomputable def f76_i:Inl:=mkI f76_c Tryz.f76
theorem f76_ok:InlOk Tryz.prog 76 f76_i:=inlOk_of Tryz.func76 rfl (by kernel_rfl) (by kernel_rfl)
noncomputable def f77_c:Code:=(Tryz.f77.body).getD .skip
noncomputable def f77_i:Inl:=mkI f77_c Tryz.f77
theorem f77_ok:InlOk Tryz.prog 77 f77_i:=inlOk_of Tryz.func77 rfl (by kernel_rfl) (by kernel_rfl)
noncomputable def f78_c:Code:=(Tryz.f78.body).getD .skip
noncomputable def f78_i:Inl:=mkI f78_c Tryz.f78
theorem f78_ok:InlOk Tryz.prog 78 f78_i:=inlOk_of Tryz.func78 rfl (by kernel_rfl) (by kernel_rfl)
noncomputable def f79_c:Code:=(Tryz.f79.body).getD .skip
noncomputable def f79_i:Inl:=mkI f79_c Tryz.f79
theorem f79_ok:InlOk Tryz.prog 79 f79_i:=inlOk_of Tryz.func79 rfl (by kernel_rfl) (by kernel_rfl)
noncomputable def f80_c:Code:=(Tryz.f80.body).getD .skip
noncomputable def f80_i:Inl:=mkI f80_c Tryz.f80
theorem f80_ok:InlOk Tryz.prog 80 f80_i:=inlOk_of Tryz.func80 rfl (by kernel_rfl) (by kernel_rfl)
noncomputable def f90_c:Code:=(Tryz.f90.body).getD .skip
noncomputable def f90_i:Inl:=mkI f90_c Tryz.f90
theorem f90_ok:InlOk Tryz.prog 90 f90_i:=inlOk_of Tryz.func90 rfl (by kernel_rfl) (by kernel_rfl)
noncomputable def f91_c:Code:=(Tryz.f91.body).getD .skip
noncomputable def f91_i:Inl:=mkI f91_c Tryz.f91
theorem f91_ok:InlOk Tryz.prog 91 f91_i:=inlOk_of Tryz.func91 rfl (by kernel_rfl) (by kernel_rfl)
noncomputable def f92_c:Code:=(Tryz.f92.body).getD .skip
noncomputable def f92_i:Inl:=mkI f92_c Tryz.f92
theorem f92_ok:InlOk Tryz.prog 92 f92_i:=inlOk_of Tryz.func92 rfl (by kernel_rfl) (by kernel_rfl)
noncomputable def f93_c:Code:=(Tryz.f93.body).getD .skip
noncomputable def f93_i:Inl:=mkI f93_c Tryz.f93
theorem f93_ok:InlOk Tryz.prog 93 f93_i:=inlOk_of Tryz.func93 rfl (by kernel_rfl) (by kernel_rfl)
noncomputable def f94_c:Code:=(Tryz.f94.body).getD .skip
noncomputable def f94_i:Inl:=mkI f94_c Tryz.f94
theorem f94_ok:InlOk Tryz.prog 94 f94_i:=inlOk_of Tryz.func94 rfl (by kernel_rfl) (by kernel_rfl)
noncomputable def f96_c:Code:=(Tryz.f96.body).getD .skip
noncomputable def f96_i:Inl:=mkI f96_c Tryz.f96
theorem f96_ok:InlOk Tryz.prog 96 f96_i:=inlOk_of Tryz.func96 rfl (by kernel_rfl) (by kernel_rfl)
noncomputable def f97_c:Code:=(Tryz.f97.body).getD .skip
noncomputable def f97_i:Inl:=mkI f97_c Tryz.f97
theorem f97_ok:InlOk Tryz.prog 97 f97_i:=inlOk_of Tryz.func97 rfl (by kernel_rfl) (by kernel_rfl)
noncomputable def f98_c:Code:=(Tryz.f98.body).getD .skip
noncomputable def f98_i:Inl:=mkI f98_c Tryz.f98
theorem f98_ok:InlOk Tryz.prog 98 f98_i:=inlOk_of Tryz.func98 rfl (by kernel_rfl) (by kernel_rfl)
noncomputable def f99_c:Code:=(Tryz.f99.body).getD .skip
noncomputable def f99_i:Inl:=mkI f99_c Tryz.f99
theorem f99_ok:InlOk Tryz.prog 99 f99_i:=inlOk_of Tryz.func99 rfl (by kernel_rfl) (by kernel_rfl)
noncomputable def f101_c:Code:=(Tryz.f101.body).getD .skip
noncomputable def f101_i:Inl:=mkI f101_c Tryz.f101
theorem f101_ok:InlOk Tryz.prog 101 f101_i:=inlOk_of Tryz.func101 rfl (by kernel_rfl) (by kernel_rfl)
noncomputable def f102_c:Code:=(Tryz.f102.body).getD .skip
noncomputable def f102_i:Inl:=mkI f102_c Tryz.f102
theorem f102_ok:InlOk Tryz.prog 102 f102_i:=inlOk_of Tryz.func102 rfl (by kernel_rfl) (by kernel_rfl)
noncomputable def f105_c:Code:=(Tryz.f105.body).getD .skip
noncomputable def f105_i:Inl:=mkI f105_c Tryz.f105
theorem f105_ok:InlOk Tryz.prog 105 f105_i:=inlOk_of Tryz.func105 rfl (by kernel_rfl) (by kernel_rfl)
noncomputable def f108_c:Code:=(Tryz.f108.body).getD .skip
noncomputable def f108_i:Inl:=mkI f108_c Tryz.f108
theorem f108_ok:InlOk Tryz.prog 108 f108_i:=inlOk_of Tryz.func108 rfl (by kernel_rfl) (by kernel_rfl)
noncomputable def f112_c:Code:=(Tryz.f112.body).getD .skip
noncomputable def f112_i:Inl:=mkI f112_c Tryz.f112
theorem f112_ok:InlOk Tryz.prog 112 f112_i:=inlOk_of Tryz.func112 rfl (by kernel_rfl) (by kernel_rfl)
noncomputable def f113_c:Code:=(Tryz.f113.body).getD .skip
noncomputable def f113_i:Inl:=mkI f113_c Tryz.f113
theorem f113_ok:InlOk Tryz.prog 113 f113_i:=inlOk_of Tryz.func113 rfl (by kernel_rfl) (by kernel_rfl)
noncomputable def f115_c:Code:=(Tryz.f115.body).getD .skip
noncomputable def f115_i:Inl:=mkI f115_c Tryz.f115
theorem f115_ok:InlOk Tryz.prog 115 f115_i:=inlOk_of Tryz.func115 rfl (by kernel_rfl) (by kernel_rfl)
noncomputable def f116_c:Code:=(Tryz.f116.body).getD .skip
noncomputable def f116_i:Inl:=mkI f116_c Tryz.f116
theorem f116_ok:InlOk Tryz.prog 116 f116_i:=inlOk_of Tryz.func116 rfl (by kernel_rfl) (by kernel_rfl)
noncomputable def f117_c:Code:=(Tryz.f117.body).getD .skip
noncomputable def f117_i:Inl:=mkI f117_c Tryz.f117
theorem f117_ok:InlOk Tryz.prog 117 f117_i:=inlOk_of Tryz.func117 rfl (by kernel_rfl) (by kernel_rfl)
noncomputable def f118_c:Code:=(Tryz.f118.body).getD .skip
noncomputable def f118_i:Inl:=mkI f118_c Tryz.f118
theorem f118_ok:InlOk Tryz.prog 118 f118_i:=inlOk_of Tryz.func118 rfl (by kernel_rfl) (by kernel_rfl)
noncomputable def f119_c:Code:=(Tryz.f119.body).getD .skip
noncomputable def f119_i:Inl:=mkI f119_c Tryz.f119
theorem f119_ok:InlOk Tryz.prog 119 f119_i:=inlOk_of Tryz.func119 rfl (by kernel_rfl) (by kernel_rfl)
noncomputable def f120_c:Code:=(Tryz.f120.body).getD .skip
noncomputable def f120_i:Inl:=mkI f120_c Tryz.f120
theorem f120_ok:InlOk Tryz.prog 120 f120_i:=inlOk_of Tryz.func120 rfl (by kernel_rfl) (by kernel_rfl)
noncomputable def f121_c:Code:=(Tryz.f121.body).getD .skip
noncomputable def f121_i:Inl:=mkI f121_c Tryz.f121
theorem f121_ok:InlOk Tryz.prog 121 f121_i:=inlOk_of Tryz.func121 rfl (by kernel_rfl) (by kernel_rfl)
noncomputable def f122_c:Code:=(Tryz.f122.body).getD .skip
noncomputable def f122_i:Inl:=mkI f122_c Tryz.f122
theorem f122_ok:InlOk Tryz.prog 122 f122_i:=inlOk_of Tryz.func122 rfl (by kernel_rfl) (by kernel_rfl)
noncomputable def f123_c:Code:=(Tryz.f123.body).getD .skip
noncomputable def f123_i:Inl:=mkI f123_c Tryz.f123
theorem f123_ok:InlOk Tryz.prog 123 f123_i:=inlOk_of Tryz.func123 rfl (by kernel_rfl) (by kernel_rfl)
noncomputable def f124_c:Code:=(Tryz.f124.body).getD .skip
noncomputable def f124_i:Inl:=mkI f124_c Tryz.f124
theorem f124_ok:InlOk Tryz.prog 124 f124_i:=inlOk_of Tryz.func124 rfl (by kernel_rfl) (by kernel_rfl)
noncomputable def f125_c:Code:=(Tryz.f125.body).getD .skip
noncomputable def f125_i:Inl:=mkI f125_c Tryz.f125
theorem f125_ok:InlOk Tryz.prog 125 f125_i:=inlOk_of Tryz.func125 rfl (by kernel_rfl) (by kernel_rfl)
noncomputable def f126_c:Code:=(Tryz.f126.body).getD .skip
noncomputable def f126_i:Inl:=mkI f126_c Tryz.f126
theorem f126_ok:InlOk Tryz.prog 126 f126_i:=inlOk_of Tryz.func126 rfl (by kernel_rfl) (by kernel_rfl)
noncomputable def f135_c:Code:=(Tryz.f135.body).getD .skip
noncomputable def f135_i:Inl:=mkI f135_c Tryz.f135
theorem f135_ok:InlOk Tryz.prog 135 f135_i:=inlOk_of Tryz.func135 rfl (by kernel_rfl) (by kernel_rfl)
noncomputable def f136_c:Code:=(Tryz.f136.body).getD .skip
noncomputable def f136_i:Inl:=mkI f136_c Tryz.f136
theorem f136_ok:InlOk Tryz.prog 136 f136_i:=inlOk_of Tryz.func136 rfl (by kernel_rfl) (by kernel_rfl)
noncomputable def f137_c:Code:=(Tryz.f137.body).getD .skip
noncomputable def f137_i:Inl:=mkI f137_c Tryz.f137
theorem f137_ok:InlOk Tryz.prog 137 f137_i:=inlOk_of Tryz.func137 rfl (by kernel_rfl) (by kernel_rfl)
noncomputable def f138_c:Code:=(Tryz.f138.body).getD .skip
noncomputable def f138_i:Inl:=mkI f138_c Tryz.f138
theorem f138_ok:InlOk Tryz.prog 138 f138_i:=inlOk_of Tryz.func138 rfl (by kernel_rfl) (by kernel_rfl)
noncomputable def f139_c:Code:=(Tryz.f139.body).getD .skip
noncomputable def f139_i:Inl:=mkI f139_c Tryz.f139
theorem f139_ok:InlOk Tryz.prog 139 f139_i:=inlOk_of Tryz.func139 rfl (by kernel_rfl) (by kernel_rfl)
noncomputable def f140_c:Code:=(Tryz.f140.body).getD .skip
noncomputable def f140_i:Inl:=mkI f140_c Tryz.f140
theorem f140_ok:InlOk Tryz.prog 140 f140_i:=inlOk_of Tryz.func140 rfl (by kernel_rfl) (by kernel_rfl)
noncomputable def f141_c:Code:=(Tryz.f141.body).getD .skip
noncomputable def f141_i:Inl:=mkI f141_c Tryz.f141
theorem f141_ok:InlOk Tryz.prog 141 f141_i:=inlOk_of Tryz.func141 rfl (by kernel_rfl) (by kernel_rfl)
noncomputable def f142_c:Code:=(Tryz.f142.body).getD .skip
noncomputable def f142_i:Inl:=mkI f142_c Tryz.f142
theorem f142_ok:InlOk Tryz.prog 142 f142_i:=inlOk_of Tryz.func142 rfl (by kernel_rfl) (by kernel_rfl)
noncomputable def f143_c:Code:=(Tryz.f143.body).getD .skip
noncomputable def f143_i:Inl:=mkI f143_c Tryz.f143
theorem f143_ok:InlOk Tryz.prog 143 f143_i:=inlOk_of Tryz.func143 rfl (by kernel_rfl) (by kernel_rfl)
noncomputable def f144_c:Code:=(Tryz.f144.body).getD .skip
noncomputable def f144_i:Inl:=mkI f144_c Tryz.f144
theorem f144_ok:InlOk Tryz.prog 144 f144_i:=inlOk_of Tryz.func144 rfl (by kernel_rfl) (by kernel_rfl)
noncomputable def f145_c:Code:=(Tryz.f145.body).getD .skip
noncomputable def f145_i:Inl:=mkI f145_c Tryz.f145
theorem f145_ok:InlOk Tryz.prog 145 f145_i:=inlOk_of Tryz.func145 rfl (by kernel_rfl) (by kernel_rfl)
noncomputable def f146_c:Code:=(Tryz.f146.body).getD .skip
noncomputable def f146_i:Inl:=mkI f146_c Tryz.f146
theorem f146_ok:InlOk Tryz.prog 146 f146_i:=inlOk_of Tryz.func146 rfl (by kernel_rfl) (by kernel_rfl)
noncomputable def f147_c:Code:=(Tryz.f147.body).getD .skip
noncomputable def f147_i:Inl:=mkI f147_c Tryz.f147
theorem f147_ok:InlOk Tryz.prog 147 f147_i:=inlOk_of Tryz.func147 rfl (by kernel_rfl) (by kernel_rfl)
noncomputable def f148_c:Code:=(Tryz.f148.body).getD .skip
noncomputable def f148_i:Inl:=mkI f148_c Tryz.f148
theorem f148_ok:InlOk Tryz.prog 148 f148_i:=inlOk_of Tryz.func148 rfl (by kernel_rfl) (by kernel_rfl)
noncomputable def f149_c:Code:=(Tryz.f149.body).getD .skip
noncomputable def f149_i:Inl:=mkI f149_c Tryz.f149
theorem f149_ok:InlOk Tryz.prog 149 f149_i:=inlOk_of Tryz.func149 rfl (by kernel_rfl) (by kernel_rfl)
noncomputable def f150_c:Code:=(Tryz.f150.body).getD .skip
noncomputable def f150_i:Inl:=mkI f150_c Tryz.f150
theorem f150_ok:InlOk Tryz.prog 150 f150_i:=inlOk_of Tryz.func150 rfl (by kernel_rfl) (by kernel_rfl)
noncomputable def f151_c:Code:=(Tryz.f151.body).getD .skip
noncomputable def f151_i:Inl:=mkI f151_c Tryz.f151
theorem f151_ok:InlOk Tryz.prog 151 f151_i:=inlOk_of Tryz.func151 rfl (by kernel_rfl) (by kernel_rfl)
noncomputable def f152_c:Code:=(Tryz.f152.body).getD .skip
noncomputable def f152_i:Inl:=mkI f152_c Tryz.f152
theorem f152_ok:InlOk Tryz.prog 152 f152_i:=inlOk_of Tryz.func152 rfl (by kernel_rfl) (by kernel_rfl)
noncomputable def f153_c:Code:=(Tryz.f153.body).getD .skip
noncomputable def f153_i:Inl:=mkI f153_c Tryz.f153
theorem f153_ok:InlOk Tryz.prog 153 f153_i:=inlOk_of Tryz.func153 rfl (by kernel_rfl) (by kernel_rfl)
noncomputable def f154_c:Code:=(Tryz.f154.body).getD .skip
noncomputable def f154_i:Inl:=mkI f154_c Tryz.f154
theorem f154_ok:InlOk Tryz.prog 154 f154_i:=inlOk_of Tryz.func154 rfl (by kernel_rfl) (by kernel_rfl)
noncomputable def f156_c:Code:=(Tryz.f156.body).getD .skip
noncomputable def f156_i:Inl:=mkI f156_c Tryz.f156
theorem f156_ok:InlOk Tryz.prog 156 f156_i:=inlOk_of Tryz.func156 rfl (by kernel_rfl) (by kernel_rfl)
noncomputable def f157_c:Code:=(Tryz.f157.body).getD .skip
noncomputable def f157_i:Inl:=mkI f157_c Tryz.f157
theorem f157_ok:InlOk Tryz.prog 157 f157_i:=inlOk_of Tryz.func157 rfl (by kernel_rfl) (by kernel_rfl)
noncomputable def f158_c:Code:=(Tryz.f158.body).getD .skip
noncomputable def f158_i:Inl:=mkI f158_c Tryz.f158
theorem f158_ok:InlOk Tryz.prog 158 f158_i:=inlOk_of Tryz.func158 rfl (by kernel_rfl) (by kernel_rfl)
noncomputable def f159_c:Code:=(Tryz.f159.body).getD .skip
noncomputable def f159_i:Inl:=mkI f159_c Tryz.f159
theorem f159_ok:InlOk Tryz.prog 159 f159_i:=inlOk_of Tryz.func159 rfl (by kernel_rfl) (by kernel_rfl)
noncomputable def f160_c:Code:=(Tryz.f160.body).getD .skip
noncomputable def f160_i:Inl:=mkI f160_c Tryz.f160
theorem f160_ok:InlOk Tryz.prog 160 f160_i:=inlOk_of Tryz.func160 rfl (by kernel_rfl) (by kernel_rfl)
noncomputable def f161_c:Code:=(Tryz.f161.body).getD .skip
noncomputable def f161_i:Inl:=mkI f161_c Tryz.f161
theorem f161_ok:InlOk Tryz.prog 161 f161_i:=inlOk_of Tryz.func161 rfl (by kernel_rfl) (by kernel_rfl)
noncomputable def f162_c:Code:=(Tryz.f162.body).getD .skip
noncomputable def f162_i:Inl:=mkI f162_c Tryz.f162
theorem f162_ok:InlOk Tryz.prog 162 f162_i:=inlOk_of Tryz.func162 rfl (by kernel_rfl) (by kernel_rfl)
noncomputable def f163_c:Code:=(Tryz.f163.body).getD .skip
noncomputable def f163_i:Inl:=mkI f163_c Tryz.f163
theorem f163_ok:InlOk Tryz.prog 163 f163_i:=inlOk_of Tryz.func163 rfl (by kernel_rfl) (by kernel_rfl)
noncomputable def f169_c:Code:=(Tryz.f169.body).getD .skip
noncomputable def f169_i:Inl:=mkI f169_c Tryz.f169
theorem f169_ok:InlOk Tryz.prog 169 f169_i:=inlOk_of Tryz.func169 rfl (by kernel_rfl) (by kernel_rfl)
noncomputable def f170_c:Code:=(Tryz.f170.body).getD .skip
noncomputable def f170_i:Inl:=mkI f170_c Tryz.f170
theorem f170_ok:InlOk Tryz.prog 170 f170_i:=inlOk_of Tryz.func170 rfl (by kernel_rfl) (by kernel_rfl)
noncomputable def f171_c:Code:=(Tryz.f171.body).getD .skip
noncomputable def f171_i:Inl:=mkI f171_c Tryz.f171
theorem f171_ok:InlOk Tryz.prog 171 f171_i:=inlOk_of Tryz.func171 rfl (by kernel_rfl) (by kernel_rfl)
noncomputable def f172_c:Code:=(Tryz.f172.body).getD .skip
noncomputable def f172_i:Inl:=mkI f172_c Tryz.f172
theorem f172_ok:InlOk Tryz.prog 172 f172_i:=inlOk_of Tryz.func172 rfl (by kernel_rfl) (by kernel_rfl)
noncomputable def f173_c:Code:=(Tryz.f173.body).getD .skip
noncomputable def f173_i:Inl:=mkI f173_c Tryz.f173
theorem f173_ok:InlOk Tryz.prog 173 f173_i:=inlOk_of Tryz.func173 rfl (by kernel_rfl) (by kernel_rfl)
noncomputable def f174_c:Code:=(Tryz.f174.body).getD .skip
noncomputable def f174_i:Inl:=mkI f174_c Tryz.f174
theorem f174_ok:InlOk Tryz.prog 174 f174_i:=inlOk_of Tryz.func174 rfl (by kernel_rfl) (by kernel_rfl)
noncomputable def f175_c:Code:=(Tryz.f175.body).getD .skip
noncomputable def f175_i:Inl:=mkI f175_c Tryz.f175
theorem f175_ok:InlOk Tryz.prog 175 f175_i:=inlOk_of Tryz.func175 rfl (by kernel_rfl) (by kernel_rfl)
noncomputable def f176_c:Code:=(Tryz.f176.body).getD .skip
noncomputable def f176_i:Inl:=mkI f176_c Tryz.f176
theorem f176_ok:InlOk Tryz.prog 176 f176_i:=inlOk_of Tryz.func176 rfl (by kernel_rfl) (by kernel_rfl)
noncomputable def f177_c:Code:=(Tryz.f177.body).getD .skip
noncomputable def f177_i:Inl:=mkI f177_c Tryz.f177
theorem f177_ok:InlOk Tryz.prog 177 f177_i:=inlOk_of Tryz.func177 rfl (by kernel_rfl) (by kernel_rfl)
noncomputable def f181_c:Code:=(Tryz.f181.body).getD .skip
noncomputable def f181_i:Inl:=mkI f181_c Tryz.f181
theorem f181_ok:InlOk Tryz.prog 181 f181_i:=inlOk_of Tryz.func181 rfl (by kernel_rfl) (by kernel_rfl)
noncomputable def f182_c:Code:=(Tryz.f182.body).getD .skip
noncomputable def f182_i:Inl:=mkI f182_c Tryz.f182
theorem f182_ok:InlOk Tryz.prog 182 f182_i:=inlOk_of Tryz.func182 rfl (by kernel_rfl) (by kernel_rfl)
noncomputable def f189_c:Code:=(Tryz.f189.body).getD .skip
noncomputable def f189_i:Inl:=mkI f189_c Tryz.f189
theorem f189_ok:InlOk Tryz.prog 189 f189_i:=inlOk_of Tryz.func189 rfl (by kernel_rfl) (by kernel_rfl)
noncomputable def f190_c:Code:=(Tryz.f190.body).getD .skip
noncomputable def f190_i:Inl:=mkI f190_c Tryz.f190
theorem f190_ok:InlOk Tryz.prog 190 f190_i:=inlOk_of Tryz.func190 rfl (by kernel_rfl) (by kernel_rfl)
noncomputable def f191_c:Code:=(Tryz.f191.body).getD .skip
noncomputable def f191_i:Inl:=mkI f191_c Tryz.f191
theorem f191_ok:InlOk Tryz.prog 191 f191_i:=inlOk_of Tryz.func191 rfl (by kernel_rfl) (by kernel_rfl)
noncomputable def f192_c:Code:=(Tryz.f192.body).getD .skip
noncomputable def f192_i:Inl:=mkI f192_c Tryz.f192
theorem f192_ok:InlOk Tryz.prog 192 f192_i:=inlOk_of Tryz.func192 rfl (by kernel_rfl) (by kernel_rfl)
noncomputable def f204_c:Code:=(Tryz.f204.body).getD .skip
noncomputable def f204_i:Inl:=mkI f204_c Tryz.f204
theorem f204_ok:InlOk Tryz.prog 204 f204_i:=inlOk_of Tryz.func204 rfl (by kernel_rfl) (by kernel_rfl)
end Go.Ai.G
namespace Go.Proofs
open Go.Shelf
def Tryz.laysGrow175_ren:Go.Shelf.Ren:=⟨fun|4=>175|n=>n,fun|22=>123|25=>5|3=>3|4=>4|9=>9|20=>20|0=>0|n=>n,fun|n=>n⟩
theorem Tryz.laysGrow175:Go.Proofs.Lays8.n4 Tryz.prog Tryz.laysGrow175_ren:={
  mixed:=by kernel_rfl
  f4:=⟨Tryz.f175.name,by decide,Tryz.func175.trans (congrArg some (by kernel_rfl))⟩
  t0:=Tryz.underlying0
  a0:=Tryz.isAgg0
  z0:=Tryz.sizeOf0
  v0:=Tryz.zeroValue0
  t3:=Tryz.underlying3
  a3:=Tryz.isAgg3
  z3:=Tryz.sizeOf3
  v3:=Tryz.zeroValue3
  t4:=Tryz.underlying4
  a4:=Tryz.isAgg4
  z4:=Tryz.sizeOf4
  v4:=Tryz.zeroValue4
  t9:=Tryz.underlying9
  a9:=Tryz.isAgg9
  z9:=Tryz.sizeOf9
  v9:=Tryz.zeroValue9
  t20:=Tryz.underlying20
  a20:=Tryz.isAgg20
  z20:=Tryz.sizeOf20
  v20:=Tryz.zeroValue20
  t22:=Tryz.underlying123
  a22:=Tryz.isAgg123
  z22:=Tryz.sizeOf123
  v22:=Tryz.zeroValue123}

def Tryz.laysSortF158_ren:Go.Shelf.Ren:=⟨fun|6=>158|15=>180|14=>179|28=>201|29=>168|20=>193|21=>194|22=>195|23=>196|24=>197|25=>198|26=>199|27=>200|46=>205|47=>206|48=>207|49=>208|50=>209|57=>211|n=>n,fun|22=>28|24=>35|25=>193|3=>3|39=>223|0=>0|53=>196|55=>215|4=>4|46=>239|45=>238|50=>173|5=>5|9=>9|66=>246|70=>250|76=>253|77=>254|n=>n,fun|n=>n⟩
theorem Tryz.laysSortF158:Go.Proofs.SlLaysF0.n6 Tryz.prog Tryz.laysSortF158_ren:={
  mixed:=by kernel_rfl
  f6:=⟨Tryz.f158.name,by decide,Tryz.func158.trans (congrArg some (by kernel_rfl))⟩
  f14:=⟨Tryz.f179.name,by decide,Tryz.func179.trans (congrArg some (by kernel_rfl))⟩
  f15:=Tryz.func180.trans (congrArg some (by kernel_rfl))
  f20:=⟨Tryz.f193.name,by decide,Tryz.func193.trans (congrArg some (by kernel_rfl))⟩
  f21:=⟨Tryz.f194.name,by decide,Tryz.func194.trans (congrArg some (by kernel_rfl))⟩
  f22:=⟨Tryz.f195.name,by decide,Tryz.func195.trans (congrArg some (by kernel_rfl))⟩
  f23:=⟨Tryz.f196.name,by decide,Tryz.func196.trans (congrArg some (by kernel_rfl))⟩
  f24:=⟨Tryz.f197.name,by decide,Tryz.func197.trans (congrArg some (by kernel_rfl))⟩
  f25:=⟨Tryz.f198.name,by decide,Tryz.func198.trans (congrArg some (by kernel_rfl))⟩
  f26:=⟨Tryz.f199.name,by decide,Tryz.func199.trans (congrArg some (by kernel_rfl))⟩
  f27:=⟨Tryz.f200.name,by decide,Tryz.func200.trans (congrArg some (by kernel_rfl))⟩
  f28:=Tryz.func201.trans (congrArg some (by kernel_rfl))
  f29:=Tryz.func168.trans (congrArg some (by kernel_rfl))
  f46:=⟨Tryz.f205.name,by decide,Tryz.func205.trans (congrArg some (by kernel_rfl))⟩
  f47:=Tryz.func206.trans (congrArg some (by kernel_rfl))
  f48:=Tryz.func207.trans (congrArg some (by kernel_rfl))
  f49:=⟨Tryz.f208.name,by decide,Tryz.func208.trans (congrArg some (by kernel_rfl))⟩
  f50:=⟨Tryz.f209.name,by decide,Tryz.func209.trans (congrArg some (by kernel_rfl))⟩
  f57:=⟨Tryz.f211.name,by decide,Tryz.func211.trans (congrArg some (by kernel_rfl))⟩
  t0:=Tryz.underlying0
  a0:=Tryz.isAgg0
  z0:=Tryz.sizeOf0
  v0:=Tryz.zeroValue0
  t3:=Tryz.underlying3
  a3:=Tryz.isAgg3
  z3:=Tryz.sizeOf3
  v3:=Tryz.zeroValue3
  t4:=Tryz.underlying4
  a4:=Tryz.isAgg4
  z4:=Tryz.sizeOf4
  v4:=Tryz.zeroValue4
  t5:=Tryz.underlying5
  a5:=Tryz.isAgg5
  z5:=Tryz.sizeOf5
  v5:=Tryz.zeroValue5
  t9:=Tryz.underlying9
  a9:=Tryz.isAgg9
  z9:=Tryz.sizeOf9
  v9:=Tryz.zeroValue9
  t22:=Tryz.underlying28
  a22:=Tryz.isAgg28
  z22:=Tryz.sizeOf28
  v22:=Tryz.zeroValue28
  t25:=Tryz.underlying193
  a25:=Tryz.isAgg193
  z25:=Tryz.sizeOf193
  v25:=Tryz.zeroValue193
  t39:=Tryz.underlying223
  a39:=Tryz.isAgg223
  z39:=Tryz.sizeOf223
  v39:=Tryz.zeroValue223
  t45:=Tryz.underlying238
  a45:=Tryz.isAgg238
  z45:=Tryz.sizeOf238
  v45:=Tryz.zeroValue238
  t46:=Tryz.underlying239
  a46:=Tryz.isAgg239
  z46:=Tryz.sizeOf239
  v46:=Tryz.zeroValue239
  t50:=Tryz.underlying173
  a50:=Tryz.isAgg173
  z50:=Tryz.sizeOf173
  v50:=Tryz.zeroValue173
  t53:=Tryz.underlying196
  a53:=Tryz.isAgg196
  z53:=Tryz.sizeOf196
  v53:=Tryz.zeroValue196
  t55:=Tryz.underlying215
  a55:=Tryz.isAgg215
  z55:=Tryz.sizeOf215
  v55:=Tryz.zeroValue215
  t66:=Tryz.underlying246
  a66:=Tryz.isAgg246
  z66:=Tryz.sizeOf246
  v66:=Tryz.zeroValue246
  t70:=Tryz.underlying250
  a70:=Tryz.isAgg250
  z70:=Tryz.sizeOf250
  v70:=Tryz.zeroValue250
  t76:=Tryz.underlying253
  a76:=Tryz.isAgg253
  z76:=Tryz.sizeOf253
  v76:=Tryz.zeroValue253
  t77:=Tryz.underlying254
  a77:=Tryz.isAgg254
  z77:=Tryz.sizeOf254
  v77:=Tryz.zeroValue254}

end Go.Proofs
namespace Go.Ai.G
open Go.Proofs
open Go.Ai
noncomputable def slices_Grow_byte_byte_tr(a0:(List Int))(a1:Int):Option (List Int):=
 cond (decide (0≤a1)&&(decide (((a0.length:Int)+a1)*((1:Nat):Int)≤140737488355328)&&decide ((a0.length:Int)+a1≤4611686018427387904))) (some a0) none
noncomputable def f175_tak:ConT:=growC 5 (.int .u8) 1
theorem f175_takOk:TakOk Tryz.prog 175 f175_tak:=grow_takB Tryz.laysGrow175 (.int .u8) rfl rfl f175_ok 1 (by kernel_rfl)
end Go.Ai.G
