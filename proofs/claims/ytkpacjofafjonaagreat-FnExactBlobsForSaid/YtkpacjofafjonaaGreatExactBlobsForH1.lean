import Derived.Test.YtkpacjofafjonaaGreatEg
import Derived.Test.YtkpacjofafjonaaGreatExactBlobsForFn2
import Derived.Test.YtkpacjofafjonaaGreatExactBlobsForH0
/- What the plain functions compute, and that the law answers true. No conditions. -/
namespace Go.Ai.H
open Go.Ai.G Go.IntWalk
set_option linter.unusedSimpArgs false
set_option linter.unusedVariables false
set_option synthInstance.maxSize 2000
set_option synthInstance.maxHeartbeats 400000
theorem forA_small(bs:List BlobT)(ws hs:List (List Int))(h:∀b∈bs,blobOk b):(forA bs ws hs).1.length≤128∧(∀ b∈(forA bs ws hs).1,b.2.1.length≤1048576)∧sumSz szBl (forA bs ws hs).1≤1073741824:=by
 have key:(forA bs ws hs).1.length≤128∧(∀ b∈(forA bs ws hs).1,b.2.1.length≤1048576):=by
  unfold forA
  split
  ·rename_i hv
   split
   ·simp
   ·have:=List.length_filter_le (forP bs ws hs) bs
    have h1:=(validS_iff.1 hv).1
    exact⟨by show(forF bs ws hs).length≤128; unfold forF; omega,fun b hb=>(h b (List.mem_filter.1 hb).1).2⟩
  ·simp
 refine⟨key.1,key.2,?_⟩
 have:=sum_bound (sz:=szBl) (C:=1048577) (xs:=(forA bs ws hs).1) (fun b hb=>by have:=key.2 b hb; simp only[szBl]; omega)
 have h1:=key.1
 have:(forA bs ws hs).1.length*1048577≤128*1048577:=Nat.mul_le_mul_right _ h1
 omega
theorem szKeyS_eq(ws:List (List Int))(left:Int)(h0:0≤left)(h1:left≤1048576)(hn:ws.length≤9223372036854775807):laws_szKeyS_r ws left=some (if left-(ws.length:Int)<0 then -1 else left-(ws.length:Int)):=by
 unfold laws_szKeyS_r
 rw[w64 (n:=left-(ws.length:Int)) (by omega) (by omega)]
 by_cases h:left-(ws.length:Int)<0
 ·rw [dec_t h,if_pos h]; rfl
 ·rw [dec_f h,if_neg h]; rfl
theorem FnExactBlobsFor_true(s:StoreT)(ws hs:List (List Int))(h:Ty.ok (.pair (.pair (.slice TBlob) .unit) (.pair (.slice TKey) (.pair (.slice TKey) .unit))) (s,ws,hs,())):laws_FnExactBlobsFor_d_r s ws hs=some true:=by
 obtain⟨bs,u⟩:=s
 obtain⟨⟨⟨a1,a2⟩,_⟩,⟨a3,a4⟩,⟨a5,a6⟩,_⟩:=h
 unfold laws_FnExactBlobsFor_d_r
 have a1:bs.length≤9223372036854775807:=a1
 have a3:ws.length≤9223372036854775807:=a3
 have a5:hs.length≤9223372036854775807:=a5
 rw[szStore_eq (bs,u) 1048576 (by omega) (by omega) (by simp only; omega) (fun b hb=>by have:=(a2 b hb).2.1.1; unfold maxLen at this; omega)]
 simp only[bindO_mk]
 by_cases hbig:(1048576:Int)-(sumSz szBl bs:Int)<0
 ·rw [if_pos hbig]; rfl
 ·rw [if_neg hbig,dec_f hbig]
  simp only[cond_false]
  rw[szKeyS_eq ws _ (by omega) (by omega) (by omega),bindO_mk]
  by_cases hbig2:(1048576:Int)-(sumSz szBl bs:Int)-(ws.length:Int)<0
  ·rw [if_pos hbig2]; rfl
  ·rw [if_neg hbig2,dec_f hbig2,cond_false,szKeyS_eq hs _ (by omega) (by omega) (by omega),bindO_mk]
   by_cases hbig3:(1048576:Int)-(sumSz szBl bs:Int)-(ws.length:Int)-(hs.length:Int)<0
   ·rw [if_pos hbig3]; rfl
   ·rw [if_neg hbig3,dec_f hbig3]
    obtain⟨n1,n2⟩:=blob_len (bs:=bs) (B:=1048576) (by omega)
    have hb:=blobs_ok a2 n2
    have hk:=keys_okT a4
    have hk2:=keys_okT a6
    have hw:ws.length≤1048576:=by omega
    have hw2:hs.length≤1048576:=by omega
    obtain⟨m1,m2,m3⟩:=forA_small bs ws hs hb
    have hs32:=sumSzKy ws
    have hs33:=sumSzKy hs
    have hl1:(forA bs ws hs).1.length≤1048576:=by omega
    simp only[cond_false,toStore_eq (bs,u) n1 n2,toKeyS_eq ws hw (fun k q=>(hk k q).1),toKeyS_eq hs hw2 (fun k q=>(hk2 k q).1),bindO_mk,spec_BlobsFor_eq bs ws hs n1 hb hk hk2,impl_BlobsFor_eq bs ws hs n1 hb hk hk2,eqStore_same (bs,u) n1 n2,eqKeyS_same ws (by omega),eqKeyS_same hs (by omega),decide_true,Bool.not_true,eqBlobS_same (forA bs ws hs).1 hl1 m2,
     markBlobS_eq bs 1 (by omega) (by omega) (by omega),markKeyS_eq ws (1+(sumSz szBl bs:Int)) (by omega) (fun k q=>(hk k q).1) (by omega) (by omega),markKeyS_eq hs (1+(sumSz szBl bs:Int)+(sumSz szKy ws:Int)) (by omega) (fun k q=>(hk2 k q).1) (by omega) (by omega),markBlobS_eq (forA bs ws hs).1 1 (by omega) (by omega) (by omega),heldBlobS_eq (forA bs ws hs).1 1 (by omega) (by omega) (by omega)]
    rw[dec_f (p:=1+(sumSz szBl bs:Int)+(sumSz szKy ws:Int)+(sumSz szKy hs:Int)<0) (by omega),dec_f (p:=1+(sumSz szBl (forA bs ws hs).1:Int)<0) (by omega)]
    rfl
end Go.Ai.H
