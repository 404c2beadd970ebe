/- Made by a program of this work out of the program: tables and plain functions,with the proof that each Go function does what its plain function says. No conditions. -/
import Derived.Test.YtgchclimojffeaaGreatEg
import Derived.Test.YtgchclimojffeaaGreatEy
import Derived.Test.YtgchclimojffeaaGreatEv
import Derived.Test.YtgchclimojffeaaGreatEw
import Derived.Test.YtgchclimojffeaaGreatProg
namespace Go.Ai.G
open Go.Proofs
open Go.Ai
set_option linter.unusedVariables false
set_option maxRecDepth 100000

abbrev K0:Ty:=(.pair (.slice (.pair (.int .u8) (.pair (.slice (.int .u8)) .unit))) (.pair (.slice (.arr 32 (.int .u8))) .unit))
abbrev K1:Ty:=(.pair (.slice (.arr 32 (.int .u8))) (.pair (.slice (.pair (.int .u8) (.pair (.slice (.int .u8)) .unit))) .unit))
abbrev K2:Ty:=(.pair (.pair (.slice (.pair (.int .u8) (.pair (.slice (.int .u8)) .unit))) .unit) .unit)
abbrev K3:Ty:=(.pair (.slice (.pair (.int .u8) (.pair (.slice (.int .u8)) .unit))) .unit)
abbrev K4:Ty:=(.pair (.pair (.int .u8) (.pair (.slice (.int .u8)) .unit)) .unit)
abbrev T0:Type:=((List (Int×((List Int)×Unit)))×((List (List Int))×Unit))
abbrev T1:Type:=((List (List Int))×((List (Int×((List Int)×Unit)))×Unit))
abbrev K5:Ty:=(.slice (.pair (.int .u8) (.pair (.slice (.int .u8)) .unit)))
abbrev K6:Ty:=(.pair (.slice (.int .u8)) (.pair (.slice (.int .u8)) .unit))
abbrev K7:Ty:=(.pair (.slice (.int .u8)) (.pair (.int .i64) .unit))
abbrev K8:Ty:=(.pair (.int .u8) (.pair (.slice (.int .u8)) .unit))
abbrev T2:Type:=((List (Int×((List Int)×Unit)))×Unit)
abbrev K9:Ty:=(.pair (.slice (.arr 32 (.int .u8))) .unit)
abbrev T3:Type:=(List (Int×((List Int)×Unit)))
abbrev K10:Ty:=(.pair (.arr 32 (.int .u8)) .unit)
abbrev K11:Ty:=(.pair (.slice (.int .u8)) .unit)
abbrev K12:Ty:=(.slice (.arr 32 (.int .u8)))
abbrev K13:Ty:=(.slice (.slice (.int .u8)))
abbrev T4:Type:=(Int×((List Int)×Unit))
abbrev T5:Type:=((List (List Int))×Unit)
abbrev K14:Ty:=(.pair (.int .i64) .unit)
abbrev K15:Ty:=(.pair (.int .u8) .unit)
abbrev K16:Ty:=(.slice (.int .u8))
abbrev T6:Type:=((List Int)×Unit)
abbrev T7:Type:=(List (List Int))
noncomputable def tys:List (Option Ty):=[none,
 some (.opt .unit),
 some (.int .i64),
 some (.int .i64),
 some .bool,
 some (.int .u8),
 none,
 none,
 none,
 some .str,
 none,
 none,
 none,
 none,
 none,
 none,
 none,
 none,
 none,
 none,
 none,
 none,
 some (.slice (.pair (.int .u8) (.pair (.slice (.int .u8)) .unit))),
 none,
 some (.pair (.slice (.pair (.int .u8) (.pair (.slice (.int .u8)) .unit))) .unit),
 some (.slice (.arr 32 (.int .u8))),
 none,
 none,
 some (.slice (.pair (.int .u8) (.pair (.slice (.int .u8)) .unit))),
 none,
 none,
 none,
 some (.pair (.slice (.pair (.int .u8) (.pair (.slice (.int .u8)) .unit))) .unit),
 none,
 some (.slice (.arr 32 (.int .u8))),
 none,
 none,
 none,
 none,
 none,
 none,
 none,
 none,
 some (.arr 32 (.int .u8)),
 none,
 some (.arr 32 (.int .u8)),
 none,
 none,
 none,
 none,
 none,
 none,
 none,
 none,
 none,
 none,
 none,
 none,
 some (.opt (.pair (.slice (.pair (.int .u8) (.pair (.slice (.int .u8)) .unit))) (.pair (.slice (.arr 32 (.int .u8))) .unit))),
 none,
 none,
 some (.opt (.pair (.slice (.pair (.int .u8) (.pair (.slice (.int .u8)) .unit))) .unit)),
 none,
 none,
 some (.opt (.pair (.slice (.arr 32 (.int .u8))) (.pair (.slice (.pair (.int .u8) (.pair (.slice (.int .u8)) .unit))) .unit))),
 none,
 none,
 none,
 none,
 none,
 some (.slice (.int .u8)),
 none,
 some (.pair (.int .u8) (.pair (.slice (.int .u8)) .unit)),
 none,
 none,
 none,
 none,
 none,
 none,
 none,
 none,
 none,
 none,
 none,
 none,
 none,
 none,
 none,
 none,
 none,
 none,
 none,
 none,
 some (.pair (.int .u8) (.pair (.slice (.int .u8)) .unit)),
 none,
 some (.opt (.pair (.int .u8) (.pair (.slice (.int .u8)) .unit))),
 none,
 none,
 none,
 none,
 none,
 some (.opt .unit),
 none,
 none,
 some (.pair (.slice (.pair (.int .u8) (.pair (.slice (.int .u8)) .unit))) (.pair (.slice (.arr 32 (.int .u8))) .unit)),
 none,
 none,
 none,
 none,
 none,
 none,
 none,
 none,
 none,
 none,
 none,
 none,
 none,
 none,
 none,
 none,
 none,
 none,
 some (.pair (.slice (.arr 32 (.int .u8))) (.pair (.slice (.pair (.int .u8) (.pair (.slice (.int .u8)) .unit))) .unit)),
 none,
 none,
 none,
 none,
 none,
 none,
 none,
 none,
 none,
 none,
 none,
 none,
 none,
 none,
 none,
 none,
 none,
 none,
 some (.opt .unit),
 none,
 none,
 none,
 none,
 none,
 none,
 none,
 none,
 some (.int .u32),
 some (.arr 8 (.int .u32)),
 none,
 none,
 none,
 none,
 none,
 none,
 none,
 none,
 none,
 none,
 none,
 none,
 none,
 none,
 some (.int .u64),
 none,
 none,
 none,
 none,
 none,
 none,
 some (.slice (.slice (.int .u8))),
 none,
 none,
 some (.int .u64),
 none,
 none,
 none,
 none,
 none,
 none,
 none,
 none,
 none,
 none,
 none,
 none,
 none,
 none,
 none,
 none,
 none,
 none,
 none,
 none,
 none,
 none,
 none,
 none,
 none,
 none,
 none,
 none,
 none,
 none,
 none,
 none,
 none,
 none,
 none,
 none,
 none,
 none,
 none,
 none,
 none,
 none,
 none,
 none,
 none]
noncomputable def tbytes:List Nat:=[0,8,8,8,1,1,1,24,24,16,16,16,8,24,24,8,8,8,8,8,16,4,24,24,24,24,8,8,24,0,8,24,24,8,24,8,8,8,8,8,8,8,8,32,24,32,0,8,8,8,8,8,8,8,0,8,8,8,8,0,8,8,8,8,8,0,8,8,8,8,24,32,32,8,0,8,8,8,0,8,8,8,0,8,88,88,8,32,32,96,96,8,8,32,8,8,0,8,8,8,8,8,8,48,48,8,24,8,8,0,8,8,8,8,8,8,8,0,8,8,8,8,48,48,8,8,8,8,8,0,8,8,8,8,8,0,8,8,0,8,8,8,8,8,8,8,8,8,8,8,8,4,32,8,8,8,8,8,8,0,8,8,8,8,8,8,8,8,8,8,8,8,8,8,24,8,8,8,8,8,8,0,8,8,8,8,8,8,8,8,8,8,8,8,8,8,8,8,8,8,0,8,8,40,40,0,0,0,8,1,1,8,8,4,4,48,48,8,8,8,8,24,24]
noncomputable def telem:List Nat:=[0,0,0,0,0,0,0,0,0,0,0,0,0,0,0,0,0,0,0,0,0,0,93,0,0,43,0,0,72,0,0,0,0,0,45,0,0,0,0,0,0,0,0,0,90,0,0,0,0,0,0,0,0,0,0,0,0,0,0,0,0,0,0,0,0,0,0,0,0,0,5,0,0,0,0,0,0,0,0,0,0,0,0,0,0,0,0,0,0,0,0,0,0,0,0,0,0,0,0,0,0,0,0,0,0,0,34,0,0,0,0,0,0,0,0,0,0,0,0,0,0,0,0,0,0,0,0,0,0,0,0,0,0,0,0,0,0,0,0,0,0,0,0,0,0,0,0,0,0,0,0,0,0,0,0,0,0,0,0,0,0,0,0,0,0,0,0,0,0,0,0,0,0,0,70,0,0,0,0,0,0,0,0,0,0,0,0,0,0,0,0,0,0,0,0,0,0,0,0,0,0,0,0,0,0,0,0,0,0,0,0,0,0,0,0,0,0,0,0,0,0,2,88]
noncomputable def nozero:List Nat:=[0,1,6,7,8,10,11,12,13,14,15,16,17,18,19,20,21,23,26,27,29,30,31,33,35,36,37,38,39,40,41,42,44,46,47,48,49,50,51,52,53,54,55,56,57,59,60,62,63,65,66,67,68,69,71,73,74,75,76,77,78,79,80,81,82,83,84,85,86,87,88,89,90,91,92,94,96,97,98,99,100,101,102,103,105,106,107,108,109,110,111,112,113,114,115,116,117,118,119,120,121,122,124,125,126,127,128,129,130,131,132,133,134,135,136,137,138,139,140,141,142,143,144,145,146,147,148,149,150,153,154,155,156,157,158,159,160,161,162,163,164,165,166,168,169,170,171,172,173,175,176,178,179,180,181,182,183,184,185,186,187,188,189,190,191,192,193,194,195,196,197,198,199,200,201,202,203,204,205,206,207,208,209,210,211,212,213,214,215,216,217,218,219,220,221,222]
noncomputable def dps:List (Nat×DS):=[(22,(.sl 93 (.pr (.pl (.int .u8)) (.pr (.sl 5 (.pl (.int .u8))) (.pl .unit))))),(24,(.pr (.sl 93 (.pr (.pl (.int .u8)) (.pr (.sl 5 (.pl (.int .u8))) (.pl .unit)))) (.pl .unit))),(25,(.sl 43 (.pl (.arr 32 (.int .u8))))),(28,(.sl 72 (.pr (.pl (.int .u8)) (.pr (.sl 5 (.pl (.int .u8))) (.pl .unit))))),(32,(.pr (.sl 72 (.pr (.pl (.int .u8)) (.pr (.sl 5 (.pl (.int .u8))) (.pl .unit)))) (.pl .unit))),(34,(.sl 45 (.pl (.arr 32 (.int .u8))))),(70,(.sl 5 (.pl (.int .u8)))),(72,(.pr (.pl (.int .u8)) (.pr (.sl 5 (.pl (.int .u8))) (.pl .unit)))),(93,(.pr (.pl (.int .u8)) (.pr (.sl 5 (.pl (.int .u8))) (.pl .unit)))),(104,(.pr (.sl 72 (.pr (.pl (.int .u8)) (.pr (.sl 5 (.pl (.int .u8))) (.pl .unit)))) (.pr (.sl 45 (.pl (.arr 32 (.int .u8)))) (.pl .unit)))),(123,(.pr (.sl 45 (.pl (.arr 32 (.int .u8)))) (.pr (.sl 72 (.pr (.pl (.int .u8)) (.pr (.sl 5 (.pl (.int .u8))) (.pl .unit)))) (.pl .unit)))),(174,(.sl 70 (.sl 5 (.pl (.int .u8)))))]
theorem tabs_ok:rowsB Tryz.prog (mkCx tys tbytes telem nozero (fun _=>none) (fun _=>none) (fun _=>none) (fun _=>none) (fun _ _=>none) 0 [] false []) 0 tys=true:=by kernel_rfl
noncomputable def tmaps:List (Nat×Nat×Nat):=[]
theorem maps_ok:mapsB Tryz.prog tmaps=true:=by kernel_rfl
theorem mixed_ok:Tryz.prog.follows .mixedOrders=true:=by kernel_rfl
noncomputable def mkC(inls:List (Nat×Inl))(cons:List (Nat×Con))(taks:List (Nat×ConT))(inps:List (Nat×ConI))(cuts:List (Nat×List (Nat×Cut)))(k:Nat)(d:List (Nat×DS))(m:Bool):Cx:=mkCx tys tbytes telem nozero (Ai.look inls) (Ai.look cons) (Ai.look taks) (Ai.look inps) (fun f id=>match Ai.look cuts f with|some l=>Ai.look l id|none=>none) k d m tmaps
theorem mkC_ok{inls cons taks inps cuts k d m}(h1:AllQ (ConOk Tryz.prog) cons)(h2:AllQ (TakOk Tryz.prog) taks)(h3:AllQ (InpOk Tryz.prog) inps)(h4:AllQ (InlOk Tryz.prog) inls):TabsOk Tryz.prog (mkC inls cons taks inps cuts k d m):=⟨tab_mk tabs_ok maps_ok _ _ _ _ _ _ _ _,look_all _ h1,look_all _ h2,look_all _ h3,look_all _ h4,mixed_ok⟩
noncomputable def laws_FnExactTakeBlobs_c:Code:=(Tryz.f5.body).getD .skip
noncomputable def laws_FnExactTakeBlobs_i:Inl:=mkI laws_FnExactTakeBlobs_c Tryz.f5
theorem laws_FnExactTakeBlobs_ok:InlOk Tryz.prog 5 laws_FnExactTakeBlobs_i:=inlOk_of Tryz.func5 rfl (by kernel_rfl) (by kernel_rfl)
noncomputable def f6_c:Code:=(Tryz.f6.body).getD .skip
noncomputable def f6_i:Inl:=mkI f6_c Tryz.f6
theorem f6_ok:InlOk Tryz.prog 6 f6_i:=inlOk_of Tryz.func6 rfl (by kernel_rfl) (by kernel_rfl)
noncomputable def f7_c:Code:=(Tryz.f7.body).getD .skip
noncomputable def f7_i:Inl:=mkI f7_c Tryz.f7
theorem f7_ok:InlOk Tryz.prog 7 f7_i:=inlOk_of Tryz.func7 rfl (by kernel_rfl) (by kernel_rfl)
noncomputable def f9_c:Code:=(Tryz.f9.body).getD .skip
noncomputable def f9_i:Inl:=mkI f9_c Tryz.f9
theorem f9_ok:InlOk Tryz.prog 9 f9_i:=inlOk_of Tryz.func9 rfl (by kernel_rfl) (by kernel_rfl)
noncomputable def f10_c:Code:=(Tryz.f10.body).getD .skip
noncomputable def f10_i:Inl:=mkI f10_c Tryz.f10
theorem f10_ok:InlOk Tryz.prog 10 f10_i:=inlOk_of Tryz.func10 rfl (by kernel_rfl) (by kernel_rfl)
noncomputable def f12_c:Code:=(Tryz.f12.body).getD .skip
noncomputable def f12_i:Inl:=mkI f12_c Tryz.f12
theorem f12_ok:InlOk Tryz.prog 12 f12_i:=inlOk_of Tryz.func12 rfl (by kernel_rfl) (by kernel_rfl)
noncomputable def f13_c:Code:=(Tryz.f13.body).getD .skip
noncomputable def f13_i:Inl:=mkI f13_c Tryz.f13
theorem f13_ok:InlOk Tryz.prog 13 f13_i:=inlOk_of Tryz.func13 rfl (by kernel_rfl) (by kernel_rfl)
noncomputable def f14_c:Code:=(Tryz.f14.body).getD .skip
noncomputable def f14_i:Inl:=mkI f14_c Tryz.f14
theorem f14_ok:InlOk Tryz.prog 14 f14_i:=inlOk_of Tryz.func14 rfl (by kernel_rfl) (by kernel_rfl)
noncomputable def f15_c:Code:=(Tryz.f15.body).getD .skip
noncomputable def f15_i:Inl:=mkI f15_c Tryz.f15
theorem f15_ok:InlOk Tryz.prog 15 f15_i:=inlOk_of Tryz.func15 rfl (by kernel_rfl) (by kernel_rfl)
noncomputable def f16_c:Code:=(Tryz.f16.body).getD .skip
noncomputable def f16_i:Inl:=mkI f16_c Tryz.f16
theorem f16_ok:InlOk Tryz.prog 16 f16_i:=inlOk_of Tryz.func16 rfl (by kernel_rfl) (by kernel_rfl)
noncomputable def f17_c:Code:=(Tryz.f17.body).getD .skip
noncomputable def f17_i:Inl:=mkI f17_c Tryz.f17
theorem f17_ok:InlOk Tryz.prog 17 f17_i:=inlOk_of Tryz.func17 rfl (by kernel_rfl) (by kernel_rfl)
noncomputable def f18_c:Code:=(Tryz.f18.body).getD .skip
noncomputable def f18_i:Inl:=mkI f18_c Tryz.f18
theorem f18_ok:InlOk Tryz.prog 18 f18_i:=inlOk_of Tryz.func18 rfl (by kernel_rfl) (by kernel_rfl)
noncomputable def f20_c:Code:=(Tryz.f20.body).getD .skip
noncomputable def f20_i:Inl:=mkI f20_c Tryz.f20
theorem f20_ok:InlOk Tryz.prog 20 f20_i:=inlOk_of Tryz.func20 rfl (by kernel_rfl) (by kernel_rfl)
noncomputable def f23_c:Code:=(Tryz.f23.body).getD .skip
noncomputable def f23_i:Inl:=mkI f23_c Tryz.f23
theorem f23_ok:InlOk Tryz.prog 23 f23_i:=inlOk_of Tryz.func23 rfl (by kernel_rfl) (by kernel_rfl)
noncomputable def f26_c:Code:=(Tryz.f26.body).getD .skip
noncomputable def f26_i:Inl:=mkI f26_c Tryz.f26
theorem f26_ok:InlOk Tryz.prog 26 f26_i:=inlOk_of Tryz.func26 rfl (by kernel_rfl) (by kernel_rfl)
noncomputable def f27_c:Code:=(Tryz.f27.body).getD .skip
noncomputable def f27_i:Inl:=mkI f27_c Tryz.f27
theorem f27_ok:InlOk Tryz.prog 27 f27_i:=inlOk_of Tryz.func27 rfl (by kernel_rfl) (by kernel_rfl)
noncomputable def f28_c:Code:=(Tryz.f28.body).getD .skip
noncomputable def f28_i:Inl:=mkI f28_c Tryz.f28
theorem f28_ok:InlOk Tryz.prog 28 f28_i:=inlOk_of Tryz.func28 rfl (by kernel_rfl) (by kernel_rfl)
noncomputable def f29_c:Code:=(Tryz.f29.body).getD .skip
noncomputable def f29_i:Inl:=mkI f29_c Tryz.f29
theorem f29_ok:InlOk Tryz.prog 29 f29_i:=inlOk_of Tryz.func29 rfl (by kernel_rfl) (by kernel_rfl)
noncomputable def f30_c:Code:=(Tryz.f30.body).getD .skip
noncomputable def f30_i:Inl:=mkI f30_c Tryz.f30
theorem f30_ok:InlOk Tryz.prog 30 f30_i:=inlOk_of Tryz.func30 rfl (by kernel_rfl) (by kernel_rfl)
noncomputable def f37_c:Code:=(Tryz.f37.body).getD .skip
noncomputable def f37_i:Inl:=mkI f37_c Tryz.f37
theorem f37_ok:InlOk Tryz.prog 37 f37_i:=inlOk_of Tryz.func37 rfl (by kernel_rfl) (by kernel_rfl)
noncomputable def f38_c:Code:=(Tryz.f38.body).getD .skip
noncomputable def f38_i:Inl:=mkI f38_c Tryz.f38
theorem f38_ok:InlOk Tryz.prog 38 f38_i:=inlOk_of Tryz.func38 rfl (by kernel_rfl) (by kernel_rfl)
noncomputable def f39_c:Code:=(Tryz.f39.body).getD .skip
noncomputable def f39_i:Inl:=mkI f39_c Tryz.f39
theorem f39_ok:InlOk Tryz.prog 39 f39_i:=inlOk_of Tryz.func39 rfl (by kernel_rfl) (by kernel_rfl)
noncomputable def f40_c:Code:=(Tryz.f40.body).getD .skip
noncomputable def f40_i:Inl:=mkI f40_c Tryz.f40
theorem f40_ok:InlOk Tryz.prog 40 f40_i:=inlOk_of Tryz.func40 rfl (by kernel_rfl) (by kernel_rfl)
noncomputable def f43_c:Code:=(Tryz.f43.body).getD .skip
noncomputable def f43_i:Inl:=mkI f43_c Tryz.f43
theorem f43_ok:InlOk Tryz.prog 43 f43_i:=inlOk_of Tryz.func43 rfl (by kernel_rfl) (by kernel_rfl)
noncomputable def f49_c:Code:=(Tryz.f49.body).getD .skip
noncomputable def f49_i:Inl:=mkI f49_c Tryz.f49
theorem f49_ok:InlOk Tryz.prog 49 f49_i:=inlOk_of Tryz.func49 rfl (by kernel_rfl) (by kernel_rfl)
noncomputable def f50_c:Code:=(Tryz.f50.body).getD .skip
noncomputable def f50_i:Inl:=mkI f50_c Tryz.f50
theorem f50_ok:InlOk Tryz.prog 50 f50_i:=inlOk_of Tryz.func50 rfl (by kernel_rfl) (by kernel_rfl)
noncomputable def f51_c:Code:=(Tryz.f51.body).getD .skip
noncomputable def f51_i:Inl:=mkI f51_c Tryz.f51
theorem f51_ok:InlOk Tryz.prog 51 f51_i:=inlOk_of Tryz.func51 rfl (by kernel_rfl) (by kernel_rfl)
noncomputable def f52_c:Code:=(Tryz.f52.body).getD .skip
noncomputable def f52_i:Inl:=mkI f52_c Tryz.f52
theorem f52_ok:InlOk Tryz.prog 52 f52_i:=inlOk_of Tryz.func52 rfl (by kernel_rfl) (by kernel_rfl)
noncomputable def f53_c:Code:=(Tryz.f53.body).getD .skip
noncomputable def f53_i:Inl:=mkI f53_c Tryz.f53
theorem f53_ok:InlOk Tryz.prog 53 f53_i:=inlOk_of Tryz.func53 rfl (by kernel_rfl) (by kernel_rfl)
noncomputable def f54_c:Code:=(Tryz.f54.body).getD .skip
noncomputable def f54_i:Inl:=mkI f54_c Tryz.f54
theorem f54_ok:InlOk Tryz.prog 54 f54_i:=inlOk_of Tryz.func54 rfl (by kernel_rfl) (by kernel_rfl)
noncomputable def f55_c:Code:=(Tryz.f55.body).getD .skip
noncomputable def f55_i:Inl:=mkI f55_c Tryz.f55
theorem f55_ok:InlOk Tryz.prog 55 f55_i:=inlOk_of Tryz.func55 rfl (by kernel_rfl) (by kernel_rfl)
noncomputable def f56_c:Code:=(Tryz.f56.body).getD .skip
noncomputable def f56_i:Inl:=mkI f56_c Tryz.f56
theorem f56_ok:InlOk Tryz.prog 56 f56_i:=inlOk_of Tryz.func56 rfl (by kernel_rfl) (by kernel_rfl)
noncomputable def f57_c:Code:=(Tryz.f57.body).getD .skip
noncomputable def f57_i:Inl:=mkI f57_c Tryz.f57
theorem f57_ok:InlOk Tryz.prog 57 f57_i:=inlOk_of Tryz.func57 rfl (by kernel_rfl) (by kernel_rfl)
noncomputable def f58_c:Code:=(Tryz.f58.body).getD .skip
noncomputable def f58_i:Inl:=mkI f58_c Tryz.f58
theorem f58_ok:InlOk Tryz.prog 58 f58_i:=inlOk_of Tryz.func58 rfl (by kernel_rfl) (by kernel_rfl)
noncomputable def f59_c:Code:=(Tryz.f59.body).getD .skip
noncomputable def f59_i:Inl:=mkI f59_c Tryz.f59
theorem f59_ok:InlOk Tryz.prog 59 f59_i:=inlOk_of Tryz.func59 rfl (by kernel_rfl) (by kernel_rfl)
noncomputable def f60_c:Code:=(Tryz.f60.body).getD .skip
noncomputable def f60_i:Inl:=mkI f60_c Tryz.f60
theorem f60_ok:InlOk Tryz.prog 60 f60_i:=inlOk_of Tryz.func60 rfl (by kernel_rfl) (by kernel_rfl)
noncomputable def f65_c:Code:=(Tryz.f65.body).getD .skip
noncomputable def f65_i:Inl:=mkI f65_c Tryz.f65
theorem f65_ok:InlOk Tryz.prog 65 f65_i:=inlOk_of Tryz.func65 rfl (by kernel_rfl) (by kernel_rfl)
noncomputable def f66_c:Code:=(Tryz.f66.body).getD .skip
noncomputable def f66_i:Inl:=mkI f66_c Tryz.f66
theorem f66_ok:InlOk Tryz.prog 66 f66_i:=inlOk_of Tryz.func66 rfl (by kernel_rfl) (by kernel_rfl)
noncomputable def f67_c:Code:=(Tryz.f67.body).getD .skip
noncomputable def f67_i:Inl:=mkI f67_c Tryz.f67
theorem f67_ok:InlOk Tryz.prog 67 f67_i:=inlOk_of Tryz.func67 rfl (by kernel_rfl) (by kernel_rfl)
noncomputable def f68_c:Code:=(Tryz.f68.body).getD .skip
noncomputable def f68_i:Inl:=mkI f68_c Tryz.f68
theorem f68_ok:InlOk Tryz.prog 68 f68_i:=inlOk_of Tryz.func68 rfl (by kernel_rfl) (by kernel_rfl)
noncomputable def f69_c:Code:=(Tryz.f69.body).getD .skip
noncomputable def f69_i:Inl:=mkI f69_c Tryz.f69
theorem f69_ok:InlOk Tryz.prog 69 f69_i:=inlOk_of Tryz.func69 rfl (by kernel_rfl) (by kernel_rfl)
noncomputable def f72_c:Code:=(Tryz.f72.body).getD .skip
noncomputable def f72_i:Inl:=mkI f72_c Tryz.f72
theorem f72_ok:InlOk Tryz.prog 72 f72_i:=inlOk_of Tryz.func72 rfl (by kernel_rfl) (by kernel_rfl)
noncomputable def f73_c:Code:=(Tryz.f73.body).getD .skip
noncomputable def f73_i:Inl:=mkI f73_c Tryz.f73
theorem f73_ok:InlOk Tryz.prog 73 f73_i:=inlOk_of Tryz.func73 rfl (by kernel_rfl) (by kernel_rfl)
noncomputable def f74_c:Code:=(Tryz.f74.body).getD .skip
noncomputable def f74_i:Inl:=mkI f74_c Tryz.f74
theorem f74_ok:InlOk Tryz.prog 74 f74_i:=inlOk_of Tryz.func74 rfl (by kernel_rfl) (by kernel_rfl)
noncomputable def f80_c:Code:=(Tryz.f80.body).getD .skip
noncomputable def f80_i:Inl:=mkI f80_c Tryz.f80
theorem f80_ok:InlOk Tryz.prog 80 f80_i:=inlOk_of Tryz.func80 rfl (by kernel_rfl) (by kernel_rfl)
noncomputable def f81_c:Code:=(Tryz.f81.body).getD .skip
noncomputable def f81_i:Inl:=mkI f81_c Tryz.f81
theorem f81_ok:InlOk Tryz.prog 81 f81_i:=inlOk_of Tryz.func81 rfl (by kernel_rfl) (by kernel_rfl)
noncomputable def f82_c:Code:=(Tryz.f82.body).getD .skip
noncomputable def f82_i:Inl:=mkI f82_c Tryz.f82
theorem f82_ok:InlOk Tryz.prog 82 f82_i:=inlOk_of Tryz.func82 rfl (by kernel_rfl) (by kernel_rfl)
noncomputable def f83_c:Code:=(Tryz.f83.body).getD .skip
noncomputable def f83_i:Inl:=mkI f83_c Tryz.f83
theorem f83_ok:InlOk Tryz.prog 83 f83_i:=inlOk_of Tryz.func83 rfl (by kernel_rfl) (by kernel_rfl)
noncomputable def f84_c:Code:=(Tryz.f84.body).getD .skip
noncomputable def f84_i:Inl:=mkI f84_c Tryz.f84
theorem f84_ok:InlOk Tryz.prog 84 f84_i:=inlOk_of Tryz.func84 rfl (by kernel_rfl) (by kernel_rfl)
noncomputable def f85_c:Code:=(Tryz.f85.body).getD .skip
noncomputable def f85_i:Inl:=mkI f85_c Tryz.f85
theorem f85_ok:InlOk Tryz.prog 85 f85_i:=inlOk_of Tryz.func85 rfl (by kernel_rfl) (by kernel_rfl)
noncomputable def f86_c:Code:=(Tryz.f86.body).getD .skip
noncomputable def f86_i:Inl:=mkI f86_c Tryz.f86
theorem f86_ok:InlOk Tryz.prog 86 f86_i:=inlOk_of Tryz.func86 rfl (by kernel_rfl) (by kernel_rfl)
noncomputable def f87_c:Code:=(Tryz.f87.body).getD .skip
noncomputable def f87_i:Inl:=mkI f87_c Tryz.f87
theorem f87_ok:InlOk Tryz.prog 87 f87_i:=inlOk_of Tryz.func87 rfl (by kernel_rfl) (by kernel_rfl)
noncomputable def f88_c:Code:=(Tryz.f88.body).getD .skip
noncomputable def f88_i:Inl:=mkI f88_c Tryz.f88
theorem f88_ok:InlOk Tryz.prog 88 f88_i:=inlOk_of Tryz.func88 rfl (by kernel_rfl) (by kernel_rfl)
noncomputable def f90_c:Code:=(Tryz.f90.body).getD .skip
noncomputable def f90_i:Inl:=mkI f90_c Tryz.f90
theorem f90_ok:InlOk Tryz.prog 90 f90_i:=inlOk_of Tryz.func90 rfl (by kernel_rfl) (by kernel_rfl)
noncomputable def f91_c:Code:=(Tryz.f91.body).getD .skip
noncomputable def f91_i:Inl:=mkI f91_c Tryz.f91
theorem f91_ok:InlOk Tryz.prog 91 f91_i:=inlOk_of Tryz.func91 rfl (by kernel_rfl) (by kernel_rfl)
noncomputable def f92_c:Code:=(Tryz.f92.body).getD .skip
noncomputable def f92_i:Inl:=mkI f92_c Tryz.f92
theorem f92_ok:InlOk Tryz.prog 92 f92_i:=inlOk_of Tryz.func92 rfl (by kernel_rfl) (by kernel_rfl)
noncomputable def f94_c:Code:=(Tryz.f94.body).getD .skip
noncomputable def f94_i:Inl:=mkI f94_c Tryz.f94
theorem f94_ok:InlOk Tryz.prog 94 f94_i:=inlOk_of Tryz.func94 rfl (by kernel_rfl) (by kernel_rfl)
noncomputable def f95_c:Code:=(Tryz.f95.body).getD .skip
noncomputable def f95_i:Inl:=mkI f95_c Tryz.f95
theorem f95_ok:InlOk Tryz.prog 95 f95_i:=inlOk_of Tryz.func95 rfl (by kernel_rfl) (by kernel_rfl)
noncomputable def f96_c:Code:=(Tryz.f96.body).getD .skip
noncomputable def f96_i:Inl:=mkI f96_c Tryz.f96
theorem f96_ok:InlOk Tryz.prog 96 f96_i:=inlOk_of Tryz.func96 rfl (by kernel_rfl) (by kernel_rfl)
noncomputable def f97_c:Code:=(Tryz.f97.body).getD .skip
noncomputable def f97_i:Inl:=mkI f97_c Tryz.f97
theorem f97_ok:InlOk Tryz.prog 97 f97_i:=inlOk_of Tryz.func97 rfl (by kernel_rfl) (by kernel_rfl)
noncomputable def f100_c:Code:=(Tryz.f100.body).getD .skip
noncomputable def f100_i:Inl:=mkI f100_c Tryz.f100
theorem f100_ok:InlOk Tryz.prog 100 f100_i:=inlOk_of Tryz.func100 rfl (by kernel_rfl) (by kernel_rfl)
noncomputable def f101_c:Code:=(Tryz.f101.body).getD .skip
noncomputable def f101_i:Inl:=mkI f101_c Tryz.f101
theorem f101_ok:InlOk Tryz.prog 101 f101_i:=inlOk_of Tryz.func101 rfl (by kernel_rfl) (by kernel_rfl)
noncomputable def f102_c:Code:=(Tryz.f102.body).getD .skip
noncomputable def f102_i:Inl:=mkI f102_c Tryz.f102
theorem f102_ok:InlOk Tryz.prog 102 f102_i:=inlOk_of Tryz.func102 rfl (by kernel_rfl) (by kernel_rfl)
noncomputable def f103_c:Code:=(Tryz.f103.body).getD .skip
noncomputable def f103_i:Inl:=mkI f103_c Tryz.f103
theorem f103_ok:InlOk Tryz.prog 103 f103_i:=inlOk_of Tryz.func103 rfl (by kernel_rfl) (by kernel_rfl)
noncomputable def f104_c:Code:=(Tryz.f104.body).getD .skip
noncomputable def f104_i:Inl:=mkI f104_c Tryz.f104
theorem f104_ok:InlOk Tryz.prog 104 f104_i:=inlOk_of Tryz.func104 rfl (by kernel_rfl) (by kernel_rfl)
noncomputable def f105_c:Code:=(Tryz.f105.body).getD .skip
noncomputable def f105_i:Inl:=mkI f105_c Tryz.f105
theorem f105_ok:InlOk Tryz.prog 105 f105_i:=inlOk_of Tryz.func105 rfl (by kernel_rfl) (by kernel_rfl)
noncomputable def f106_c:Code:=(Tryz.f106.body).getD .skip
noncomputable def f106_i:Inl:=mkI f106_c Tryz.f106
theorem f106_ok:InlOk Tryz.prog 106 f106_i:=inlOk_of Tryz.func106 rfl (by kernel_rfl) (by kernel_rfl)
noncomputable def f107_c:Code:=(Tryz.f107.body).getD .skip
noncomputable def f107_i:Inl:=mkI f107_c Tryz.f107
theorem f107_ok:InlOk Tryz.prog 107 f107_i:=inlOk_of Tryz.func107 rfl (by kernel_rfl) (by kernel_rfl)
noncomputable def f108_c:Code:=(Tryz.f108.body).getD .skip
noncomputable def f108_i:Inl:=mkI f108_c Tryz.f108
theorem f108_ok:InlOk Tryz.prog 108 f108_i:=inlOk_of Tryz.func108 rfl (by kernel_rfl) (by kernel_rfl)
noncomputable def f110_c:Code:=(Tryz.f110.body).getD .skip
noncomputable def f110_i:Inl:=mkI f110_c Tryz.f110
theorem f110_ok:InlOk Tryz.prog 110 f110_i:=inlOk_of Tryz.func110 rfl (by kernel_rfl) (by kernel_rfl)
noncomputable def f111_c:Code:=(Tryz.f111.body).getD .skip
noncomputable def f111_i:Inl:=mkI f111_c Tryz.f111
theorem f111_ok:InlOk Tryz.prog 111 f111_i:=inlOk_of Tryz.func111 rfl (by kernel_rfl) (by kernel_rfl)
noncomputable def f112_c:Code:=(Tryz.f112.body).getD .skip
noncomputable def f112_i:Inl:=mkI f112_c Tryz.f112
theorem f112_ok:InlOk Tryz.prog 112 f112_i:=inlOk_of Tryz.func112 rfl (by kernel_rfl) (by kernel_rfl)
noncomputable def f113_c:Code:=(Tryz.f113.body).getD .skip
noncomputable def f113_i:Inl:=mkI f113_c Tryz.f113
theorem f113_ok:InlOk Tryz.prog 113 f113_i:=inlOk_of Tryz.func113 rfl (by kernel_rfl) (by kernel_rfl)
noncomputable def f115_c:Code:=(Tryz.f115.body).getD .skip
noncomputable def f115_i:Inl:=mkI f115_c Tryz.f115
theorem f115_ok:InlOk Tryz.prog 115 f115_i:=inlOk_of Tryz.func115 rfl (by kernel_rfl) (by kernel_rfl)
noncomputable def f116_c:Code:=(Tryz.f116.body).getD .skip
noncomputable def f116_i:Inl:=mkI f116_c Tryz.f116
theorem f116_ok:InlOk Tryz.prog 116 f116_i:=inlOk_of Tryz.func116 rfl (by kernel_rfl) (by kernel_rfl)
noncomputable def f117_c:Code:=(Tryz.f117.body).getD .skip
noncomputable def f117_i:Inl:=mkI f117_c Tryz.f117
theorem f117_ok:InlOk Tryz.prog 117 f117_i:=inlOk_of Tryz.func117 rfl (by kernel_rfl) (by kernel_rfl)
noncomputable def f118_c:Code:=(Tryz.f118.body).getD .skip
noncomputable def f118_i:Inl:=mkI f118_c Tryz.f118
theorem f118_ok:InlOk Tryz.prog 118 f118_i:=inlOk_of Tryz.func118 rfl (by kernel_rfl) (by kernel_rfl)
noncomputable def f119_c:Code:=(Tryz.f119.body).getD .skip
noncomputable def f119_i:Inl:=mkI f119_c Tryz.f119
theorem f119_ok:InlOk Tryz.prog 119 f119_i:=inlOk_of Tryz.func119 rfl (by kernel_rfl) (by kernel_rfl)
noncomputable def f120_c:Code:=(Tryz.f120.body).getD .skip
noncomputable def f120_i:Inl:=mkI f120_c Tryz.f120
theorem f120_ok:InlOk Tryz.prog 120 f120_i:=inlOk_of Tryz.func120 rfl (by kernel_rfl) (by kernel_rfl)
noncomputable def f121_c:Code:=(Tryz.f121.body).getD .skip
noncomputable def f121_i:Inl:=mkI f121_c Tryz.f121
theorem f121_ok:InlOk Tryz.prog 121 f121_i:=inlOk_of Tryz.func121 rfl (by kernel_rfl) (by kernel_rfl)
noncomputable def f122_c:Code:=(Tryz.f122.body).getD .skip
noncomputable def f122_i:Inl:=mkI f122_c Tryz.f122
theorem f122_ok:InlOk Tryz.prog 122 f122_i:=inlOk_of Tryz.func122 rfl (by kernel_rfl) (by kernel_rfl)
noncomputable def f127_c:Code:=(Tryz.f127.body).getD .skip
noncomputable def f127_i:Inl:=mkI f127_c Tryz.f127
theorem f127_ok:InlOk Tryz.prog 127 f127_i:=inlOk_of Tryz.func127 rfl (by kernel_rfl) (by kernel_rfl)
noncomputable def f128_c:Code:=(Tryz.f128.body).getD .skip
noncomputable def f128_i:Inl:=mkI f128_c Tryz.f128
theorem f128_ok:InlOk Tryz.prog 128 f128_i:=inlOk_of Tryz.func128 rfl (by kernel_rfl) (by kernel_rfl)
noncomputable def f129_c:Code:=(Tryz.f129.body).getD .skip
noncomputable def f129_i:Inl:=mkI f129_c Tryz.f129
theorem f129_ok:InlOk Tryz.prog 129 f129_i:=inlOk_of Tryz.func129 rfl (by kernel_rfl) (by kernel_rfl)
noncomputable def f132_c:Code:=(Tryz.f132.body).getD .skip
noncomputable def f132_i:Inl:=mkI f132_c Tryz.f132
theorem f132_ok:InlOk Tryz.prog 132 f132_i:=inlOk_of Tryz.func132 rfl (by kernel_rfl) (by kernel_rfl)
noncomputable def f133_c:Code:=(Tryz.f133.body).getD .skip
noncomputable def f133_i:Inl:=mkI f133_c Tryz.f133
theorem f133_ok:InlOk Tryz.prog 133 f133_i:=inlOk_of Tryz.func133 rfl (by kernel_rfl) (by kernel_rfl)
noncomputable def f134_c:Code:=(Tryz.f134.body).getD .skip
noncomputable def f134_i:Inl:=mkI f134_c Tryz.f134
theorem f134_ok:InlOk Tryz.prog 134 f134_i:=inlOk_of Tryz.func134 rfl (by kernel_rfl) (by kernel_rfl)
noncomputable def f135_c:Code:=(Tryz.f135.body).getD .skip
noncomputable def f135_i:Inl:=mkI f135_c Tryz.f135
theorem f135_ok:InlOk Tryz.prog 135 f135_i:=inlOk_of Tryz.func135 rfl (by kernel_rfl) (by kernel_rfl)
noncomputable def f138_c:Code:=(Tryz.f138.body).getD .skip
noncomputable def f138_i:Inl:=mkI f138_c Tryz.f138
theorem f138_ok:InlOk Tryz.prog 138 f138_i:=inlOk_of Tryz.func138 rfl (by kernel_rfl) (by kernel_rfl)
noncomputable def f149_c:Code:=(Tryz.f149.body).getD .skip
noncomputable def f149_i:Inl:=mkI f149_c Tryz.f149
theorem f149_ok:InlOk Tryz.prog 149 f149_i:=inlOk_of Tryz.func149 rfl (by kernel_rfl) (by kernel_rfl)
noncomputable def f150_c:Code:=(Tryz.f150.body).getD .skip
noncomputable def f150_i:Inl:=mkI f150_c Tryz.f150
theorem f150_ok:InlOk Tryz.prog 150 f150_i:=inlOk_of Tryz.func150 rfl (by kernel_rfl) (by kernel_rfl)
noncomputable def f151_c:Code:=(Tryz.f151.body).getD .skip
noncomputable def f151_i:Inl:=mkI f151_c Tryz.f151
theorem f151_ok:InlOk Tryz.prog 151 f151_i:=inlOk_of Tryz.func151 rfl (by kernel_rfl) (by kernel_rfl)
end Go.Ai.G
namespace Go.Proofs
open Go.Shelf
def Tryz.laysIns104_ren:Go.Shelf.Ren:=⟨fun|22=>104|29=>123|30=>124|n=>n,fun|24=>34|9=>45|3=>3|n=>n,fun|n=>n⟩
theorem Tryz.laysIns104:Go.Ai.InsLay Tryz.prog Tryz.laysIns104_ren 32:={
  mixed:=by kernel_rfl
  f22:=⟨Tryz.f104.name,by decide,Tryz.func104.trans (congrArg some (by kernel_rfl))⟩
  ov:=fun args w=>run_callFunc_extern Tryz.func123 (by kernel_rfl) (by kernel_rfl) (by kernel_rfl) (by kernel_rfl) args w
  t0:=Tryz.underlying0
  a0:=Tryz.isAgg0
  z0:=Tryz.sizeOf0
  v0:=Tryz.zeroValue0
  t3:=Tryz.underlying3
  a3:=Tryz.isAgg3
  z3:=Tryz.sizeOf3
  v3:=Tryz.zeroValue3
  t4:=Tryz.underlying4
  a4:=Tryz.isAgg4
  z4:=Tryz.sizeOf4
  v4:=Tryz.zeroValue4
  t24:=Tryz.underlying34
  a24:=Tryz.isAgg34
  z24:=Tryz.sizeOf34
  v24:=Tryz.zeroValue34
  z9:=Tryz.sizeOf45}
def Tryz.laysIns105_ren:Go.Shelf.Ren:=⟨fun|22=>105|29=>125|30=>126|n=>n,fun|24=>28|9=>72|3=>3|n=>n,fun|n=>n⟩
theorem Tryz.laysIns105:Go.Ai.InsLay Tryz.prog Tryz.laysIns105_ren 2:={
  mixed:=by kernel_rfl
  f22:=⟨Tryz.f105.name,by decide,Tryz.func105.trans (congrArg some (by kernel_rfl))⟩
  ov:=fun args w=>run_callFunc_extern Tryz.func125 (by kernel_rfl) (by kernel_rfl) (by kernel_rfl) (by kernel_rfl) args w
  t0:=Tryz.underlying0
  a0:=Tryz.isAgg0
  z0:=Tryz.sizeOf0
  v0:=Tryz.zeroValue0
  t3:=Tryz.underlying3
  a3:=Tryz.isAgg3
  z3:=Tryz.sizeOf3
  v3:=Tryz.zeroValue3
  t4:=Tryz.underlying4
  a4:=Tryz.isAgg4
  z4:=Tryz.sizeOf4
  v4:=Tryz.zeroValue4
  t24:=Tryz.underlying28
  a24:=Tryz.isAgg28
  z24:=Tryz.sizeOf28
  v24:=Tryz.zeroValue28
  z9:=Tryz.sizeOf72}
def Tryz.laysGrow133_ren:Go.Shelf.Ren:=⟨fun|4=>133|n=>n,fun|22=>70|25=>5|3=>3|4=>4|9=>9|20=>20|0=>0|n=>n,fun|n=>n⟩
theorem Tryz.laysGrow133:Go.Proofs.Lays8.n4 Tryz.prog Tryz.laysGrow133_ren:={
  mixed:=by kernel_rfl
  f4:=⟨Tryz.f133.name,by decide,Tryz.func133.trans (congrArg some (by kernel_rfl))⟩
  t0:=Tryz.underlying0
  a0:=Tryz.isAgg0
  z0:=Tryz.sizeOf0
  v0:=Tryz.zeroValue0
  t3:=Tryz.underlying3
  a3:=Tryz.isAgg3
  z3:=Tryz.sizeOf3
  v3:=Tryz.zeroValue3
  t4:=Tryz.underlying4
  a4:=Tryz.isAgg4
  z4:=Tryz.sizeOf4
  v4:=Tryz.zeroValue4
  t9:=Tryz.underlying9
  a9:=Tryz.isAgg9
  z9:=Tryz.sizeOf9
  v9:=Tryz.zeroValue9
  t20:=Tryz.underlying20
  a20:=Tryz.isAgg20
  z20:=Tryz.sizeOf20
  v20:=Tryz.zeroValue20
  t22:=Tryz.underlying70
  a22:=Tryz.isAgg70
  z22:=Tryz.sizeOf70
  v22:=Tryz.zeroValue70}

def Tryz.laysSortF111_ren:Go.Shelf.Ren:=⟨fun|6=>111|15=>131|14=>130|28=>147|29=>148|20=>139|21=>140|22=>141|23=>142|24=>143|25=>144|26=>145|27=>146|46=>154|47=>155|48=>156|49=>157|50=>158|57=>159|n=>n,fun|22=>34|24=>45|25=>142|3=>3|39=>167|0=>0|53=>151|55=>177|4=>4|46=>181|45=>180|50=>135|5=>5|9=>9|66=>193|70=>197|76=>199|77=>200|n=>n,fun|n=>n⟩
theorem Tryz.laysSortF111:Go.Proofs.SlLaysF0.n6 Tryz.prog Tryz.laysSortF111_ren:={
  mixed:=by kernel_rfl
  f6:=⟨Tryz.f111.name,by decide,Tryz.func111.trans (congrArg some (by kernel_rfl))⟩
  f14:=⟨Tryz.f130.name,by decide,Tryz.func130.trans (congrArg some (by kernel_rfl))⟩
  f15:=Tryz.func131.trans (congrArg some (by kernel_rfl))
  f20:=⟨Tryz.f139.name,by decide,Tryz.func139.trans (congrArg some (by kernel_rfl))⟩
  f21:=⟨Tryz.f140.name,by decide,Tryz.func140.trans (congrArg some (by kernel_rfl))⟩
  f22:=⟨Tryz.f141.name,by decide,Tryz.func141.trans (congrArg some (by kernel_rfl))⟩
  f23:=⟨Tryz.f142.name,by decide,Tryz.func142.trans (congrArg some (by kernel_rfl))⟩
  f24:=⟨Tryz.f143.name,by decide,Tryz.func143.trans (congrArg some (by kernel_rfl))⟩
  f25:=⟨Tryz.f144.name,by decide,Tryz.func144.trans (congrArg some (by kernel_rfl))⟩
  f26:=⟨Tryz.f145.name,by decide,Tryz.func145.trans (congrArg some (by kernel_rfl))⟩
  f27:=⟨Tryz.f146.name,by decide,Tryz.func146.trans (congrArg some (by kernel_rfl))⟩
  f28:=Tryz.func147.trans (congrArg some (by kernel_rfl))
  f29:=Tryz.func148.trans (congrArg some (by kernel_rfl))
  f46:=⟨Tryz.f154.name,by decide,Tryz.func154.trans (congrArg some (by kernel_rfl))⟩
  f47:=Tryz.func155.trans (congrArg some (by kernel_rfl))
  f48:=Tryz.func156.trans (congrArg some (by kernel_rfl))
  f49:=⟨Tryz.f157.name,by decide,Tryz.func157.trans (congrArg some (by kernel_rfl))⟩
  f50:=⟨Tryz.f158.name,by decide,Tryz.func158.trans (congrArg some (by kernel_rfl))⟩
  f57:=⟨Tryz.f159.name,by decide,Tryz.func159.trans (congrArg some (by kernel_rfl))⟩
  t0:=Tryz.underlying0
  a0:=Tryz.isAgg0
  z0:=Tryz.sizeOf0
  v0:=Tryz.zeroValue0
  t3:=Tryz.underlying3
  a3:=Tryz.isAgg3
  z3:=Tryz.sizeOf3
  v3:=Tryz.zeroValue3
  t4:=Tryz.underlying4
  a4:=Tryz.isAgg4
  z4:=Tryz.sizeOf4
  v4:=Tryz.zeroValue4
  t5:=Tryz.underlying5
  a5:=Tryz.isAgg5
  z5:=Tryz.sizeOf5
  v5:=Tryz.zeroValue5
  t9:=Tryz.underlying9
  a9:=Tryz.isAgg9
  z9:=Tryz.sizeOf9
  v9:=Tryz.zeroValue9
  t22:=Tryz.underlying34
  a22:=Tryz.isAgg34
  z22:=Tryz.sizeOf34
  v22:=Tryz.zeroValue34
  t25:=Tryz.underlying142
  a25:=Tryz.isAgg142
  z25:=Tryz.sizeOf142
  v25:=Tryz.zeroValue142
  t39:=Tryz.underlying167
  a39:=Tryz.isAgg167
  z39:=Tryz.sizeOf167
  v39:=Tryz.zeroValue167
  t45:=Tryz.underlying180
  a45:=Tryz.isAgg180
  z45:=Tryz.sizeOf180
  v45:=Tryz.zeroValue180
  t46:=Tryz.underlying181
  a46:=Tryz.isAgg181
  z46:=Tryz.sizeOf181
  v46:=Tryz.zeroValue181
  t50:=Tryz.underlying135
  a50:=Tryz.isAgg135
  z50:=Tryz.sizeOf135
  v50:=Tryz.zeroValue135
  t53:=Tryz.underlying151
  a53:=Tryz.isAgg151
  z53:=Tryz.sizeOf151
  v53:=Tryz.zeroValue151
  t55:=Tryz.underlying177
  a55:=Tryz.isAgg177
  z55:=Tryz.sizeOf177
  v55:=Tryz.zeroValue177
  t66:=Tryz.underlying193
  a66:=Tryz.isAgg193
  z66:=Tryz.sizeOf193
  v66:=Tryz.zeroValue193
  t70:=Tryz.underlying197
  a70:=Tryz.isAgg197
  z70:=Tryz.sizeOf197
  v70:=Tryz.zeroValue197
  t76:=Tryz.underlying199
  a76:=Tryz.isAgg199
  z76:=Tryz.sizeOf199
  v76:=Tryz.zeroValue199
  t77:=Tryz.underlying200
  a77:=Tryz.isAgg200
  z77:=Tryz.sizeOf200
  v77:=Tryz.zeroValue200}

end Go.Proofs
namespace Go.Ai.G
open Go.Proofs
open Go.Ai
noncomputable def slices_Insert_impl_Key_impl_Key_tr(a0:(List (List Int)))(a1:Int)(a2:(List (List Int))):Option (List (List Int)):=
 cond (decide (a2.length=1)&&(decide (0≤a1)&&decide (a1≤(a0.length:Int)))&&(decide ((a0.length+1)*32≤140737488355328)&&decide (a0.length+1≤4611686018427387904))) (some (a0.take a1.toNat++(a2++a0.drop a1.toNat))) none
noncomputable def f104_tak:ConT:=insC 45 (.arr 32 (.int .u8)) 32
theorem f104_takOk:TakOk Tryz.prog 104 f104_tak:=ins_takB Tryz.laysIns104 (.arr 32 (.int .u8)) rfl rfl (by decide) f104_ok 32 (by kernel_rfl)
noncomputable def slices_Insert_impl_Blob_impl_Blob_tr(a0:(List (Int×((List Int)×Unit))))(a1:Int)(a2:(List (Int×((List Int)×Unit)))):Option (List (Int×((List Int)×Unit))):=
 cond (decide (a2.length=1)&&(decide (0≤a1)&&decide (a1≤(a0.length:Int)))&&(decide ((a0.length+1)*32≤140737488355328)&&decide (a0.length+1≤4611686018427387904))) (some (a0.take a1.toNat++(a2++a0.drop a1.toNat))) none
noncomputable def f105_tak:ConT:=insC 72 (.pair (.int .u8) (.pair (.slice (.int .u8)) .unit)) 32
theorem f105_takOk:TakOk Tryz.prog 105 f105_tak:=ins_takB Tryz.laysIns105 (.pair (.int .u8) (.pair (.slice (.int .u8)) .unit)) rfl rfl (by decide) f105_ok 32 (by kernel_rfl)
noncomputable def slices_Grow_byte_byte_tr(a0:(List Int))(a1:Int):Option (List Int):=
 cond (decide (0≤a1)&&(decide (((a0.length:Int)+a1)*((1:Nat):Int)≤140737488355328)&&decide ((a0.length:Int)+a1≤4611686018427387904))) (some a0) none
noncomputable def f133_tak:ConT:=growC 5 (.int .u8) 1
theorem f133_takOk:TakOk Tryz.prog 133 f133_tak:=grow_takB Tryz.laysGrow133 (.int .u8) rfl rfl f133_ok 1 (by kernel_rfl)
end Go.Ai.G
