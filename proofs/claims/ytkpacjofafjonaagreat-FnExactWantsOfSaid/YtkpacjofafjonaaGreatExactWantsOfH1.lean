import Derived.Test.YtkpacjofafjonaaGreatEg
import Derived.Test.YtkpacjofafjonaaGreatExactWantsOfFn2
import Derived.Test.YtkpacjofafjonaaGreatExactWantsOfH0
/- What the plain functions compute, and that the law answers true. No conditions. -/
namespace Go.Ai.H
open Go.Ai.G Go.IntWalk
set_option linter.unusedSimpArgs false
set_option linter.unusedVariables false
set_option synthInstance.maxSize 2000
set_option synthInstance.maxHeartbeats 400000
theorem wantsA_small(bs:List BlobT)(ws:List (List Int))(B:Int)(hl:bs.length≤1048576)(h:∀b∈bs,blobOk b)(hw:∀w∈ws,keyOk w):(wantsA bs ws B).1.length≤256∧∀k∈(wantsA bs ws B).1,k.length=32:=by
 unfold wantsA
 by_cases hv:validS bs=true
 ·have hp:=validS_iff.1 hv
  rw[if_pos hv]
  by_cases hw2:256<ws.length
  ·rw [if_pos hw2]; simp
  ·rw [if_neg hw2]
   by_cases hr:inR 1 B 256=true
   ·rw [if_pos hr]
    obtain⟨r1,r2⟩:=inR_iff.1 hr
    obtain⟨_,_,_,_,_,e4⟩:=spec_missing_eq (bs.map blobKey) bs () ws (by simpa using hl) hp.2.2 (by simp) h hw (all_small h hp hw2)
    refine⟨?_,fun k hk=>(e4 k (List.mem_of_mem_take hk)).1⟩
    show(wantsF _ _ _ _).length≤256
    unfold wantsF
    rw[List.length_take]; omega
   ·rw [if_neg hr]; simp
 ·rw [if_neg hv]; simp
theorem FnExactWantsOf_true(s:StoreT)(ws:List (List Int))(B:Int)(h:Ty.ok (.pair (.pair (.slice TBlob) .unit) (.pair (.slice TKey) (.pair (.int .i64) .unit))) (s,ws,B,())):laws_FnExactWantsOf_d_r s ws B=some true:=by
 obtain⟨bs,u⟩:=s
 obtain⟨⟨⟨a1,a2⟩,_⟩,⟨a3,a4⟩,_⟩:=h
 unfold laws_FnExactWantsOf_d_r
 have a1:bs.length≤9223372036854775807:=a1
 have a3:ws.length≤9223372036854775807:=a3
 rw[szStore_eq (bs,u) 1048576 (by omega) (by omega) (by simp only; omega) (fun b hb=>by have:=(a2 b hb).2.1.1; unfold maxLen at this; omega)]
 simp only[bindO_mk]
 by_cases hbig:(1048576:Int)-(sumSz szBl bs:Int)<0
 ·rw [if_pos hbig]; rfl
 ·rw [if_neg hbig,dec_f hbig]
  simp only[cond_false]
  unfold laws_szKeyS_r
  rw[w64 (n:=1048576-(sumSz szBl bs:Int)-(ws.length:Int)) (by omega) (by omega)]
  by_cases hbig2:(1048576:Int)-(sumSz szBl bs:Int)-(ws.length:Int)<0
  ·rw [dec_t hbig2]; rfl
  ·rw [dec_f hbig2]
   simp only[cond_false,bindO_mk]
   rw[dec_f hbig2]
   obtain⟨n1,n2⟩:=blob_len (bs:=bs) (B:=1048576) (by omega)
   have hb:=blobs_ok a2 n2
   have hk:=keys_okT a4
   have hw:ws.length≤1048576:=by omega
   obtain⟨m1,m2⟩:=wantsA_small bs ws B n1 hb hk
   have hs32:=sumSzKy ws
   have hs33:=sumSzKy (wantsA bs ws B).1
   simp only[cond_false,toStore_eq (bs,u) n1 n2,toKeyS_eq ws hw (fun k q=>(hk k q).1),bindO_mk,spec_WantsOf_eq bs ws B n1 hb hk,impl_WantsOf_eq bs ws B n1 hb hk,eqKeyS_same (wantsA bs ws B).1 (by omega),eqStore_same (bs,u) n1 n2,eqKeyS_same ws (by omega),decide_true,Bool.not_true,
    markBlobS_eq bs 1 (by omega) (by omega) (by omega),markKeyS_eq ws (1+(sumSz szBl bs:Int)) (by omega) (fun k q=>(hk k q).1) (by omega) (by omega),markKeyS_eq (wantsA bs ws B).1 1 (by omega) m2 (by omega) (by omega),heldKeyS_eq (wantsA bs ws B).1 1 (by omega) (by omega) (by omega)]
   rw[dec_f (p:=1+(sumSz szBl bs:Int)+(sumSz szKy ws:Int)<0) (by omega),dec_f (p:=1+(sumSz szKy (wantsA bs ws B).1:Int)<0) (by omega)]
   rfl
end Go.Ai.H
