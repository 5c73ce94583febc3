/- The law of StoreReport, over data (gen_lawrep.py). -/
import Derived.Test.YtmgcnmdbhahhlaaGreatWR6
set_option linter.unusedVariables false
set_option linter.unusedSimpArgs false
set_option maxRecDepth 100000
namespace Go.Proofs.YtmgcnmdbhahhlaaGreat
open Go.ChangeShapes Go.WideShapes Go.RowKit
def dk_LRStoreReport_laws_FnExactStoreReport_10 : List (List Nat) := unqs [0, 0, 2, 4290, 1056961]
def fk_LRStoreReport_laws_FnExactStoreReport_10 : List (List Nat) := unps 3 [24, 2, 5]

set_option maxHeartbeats 4000000 in
theorem lawStoreReport_p (o : DWorld) (hs : DWorld.small 9223372036854775807 o) : PCall av 7 [.agg o.ds] (rB true) := by
  refine pcall_of av_ok Tryz.func7 rfl Tryz.call7 Tryz.ntmps7 (congrArg Array.toList Tryz.results7) fun S => ?_; conv => whnf
  repeat' (first | (refine aw0 ?_) | (refine awx ?_; conv => whnf) | fail | (refine ACall.pure (szWorld_p o 1048576 (by decide) (by decide) hs) rfl ?_; conv => whnf) | (refine AFCall.mk ⟨_, _, szWorld_p o 1048576 (by decide) (by decide) hs, .inl rfl, ?_⟩; conv => whnf) | (exact rr) | (refine And.intro rfl ?_; conv => whnf) | (refine AB.mk (fun h => ?_) (fun h => ?_) <;> (conv => whnf)))
  have hc : o.cnt ≤ 1048576 := by
    simp only [decide_eq_false_iff_not] at h
    omega
  have hs' : DWorld.small 1048576 o := DWorld.cnt_small hc
  clear h
  have hlen := repStoreReport_len o hs'
  have hk9 := cntVWorld_le o
  have hk0 := cntVWorld_nn o
  have hn0 : 0 ≤ cntL cI (repStoreReport o) := cntL_nonneg cI_nn _
  have hn1 : cntL cI (repStoreReport o) ≤ 1048576 := by rw [cntI]; omega
  have d1 : decide (1 + cntVWorld o < 0) = false := by simp only [decide_eq_false_iff_not]; omega
  have d2 : decide (1 + cntL cI (repStoreReport o) < 0) = false := by simp only [decide_eq_false_iff_not]; omega
  have d3 : ((1 + cntL cI (repStoreReport o)) != (1 + cntL cI (repStoreReport o))) = false := neI _
  repeat' (first | (refine aw0 ?_) | (refine awx ?_; conv => whnf) | fail | (exact rr) | (refine And.intro rfl ?_; conv => whnf) | (refine AB.mk (fun h => ?_) (fun h => ?_) <;> (conv => whnf)))
  refine ACall.pure (toWorld_p o hs') rfl ?_
  conv => whnf
  repeat' (first | (refine aw0 ?_) | (refine awx ?_; conv => whnf) | fail | (exact rr) | (refine And.intro rfl ?_; conv => whnf) | (refine AB.mk (fun h => ?_) (fun h => ?_) <;> (conv => whnf)))
  refine ACall.pure (sStoreReport_p o hs') rfl ?_
  conv => whnf
  repeat' (first | (refine aw0 ?_) | (refine awx ?_; conv => whnf) | fail | (exact rr) | (refine And.intro rfl ?_; conv => whnf) | (refine AB.mk (fun h => ?_) (fun h => ?_) <;> (conv => whnf)))
  refine ACall.tree 9001 (toWorld_f o hs') (AExt.rs rfl) fun P u => ?_
  conv => whnf
  repeat' (first | (refine aw0 ?_) | (refine awx ?_; conv => whnf) | fail | (exact rr) | (refine And.intro rfl ?_; conv => whnf) | (refine AB.mk (fun h => ?_) (fun h => ?_) <;> (conv => whnf)))
  refine ACall.tree 9002 (iStoreReport_f o hs') (AExt.tree 9001 rfl rfl rfl) fun P2 u2 => ?_
  conv => whnf
  repeat' (first | (refine aw0 ?_) | (refine awx ?_; conv => whnf) | fail | (exact rr) | (refine And.intro rfl ?_; conv => whnf) | (refine AB.mk (fun h => ?_) (fun h => ?_) <;> (conv => whnf)))
  refine ACall.ext (eqInt64S_p (repStoreReport o) hlen) (AExt.tree 9002 rfl rfl rfl) rfl ?_
  conv => whnf
  repeat' (first | (refine aw0 ?_) | (refine awx ?_; conv => whnf) | fail | (exact rr) | (refine And.intro rfl ?_; conv => whnf) | (refine AB.mk (fun h => ?_) (fun h => ?_) <;> (conv => whnf)))
  (refine AWP.drawK av_ok 10 3 dk_LRStoreReport_laws_FnExactStoreReport_10 fk_LRStoreReport_laws_FnExactStoreReport_10 (by kernel_rfl) (by kernel_rfl) (by kernel_rfl) rfl ?_; conv => whnf)
  repeat' (first | (refine aw0 ?_) | (refine awx ?_; conv => whnf) | fail | (refine ACall.pure (toWorld_p o hs') rfl ?_; conv => whnf) | (refine AFCall.mk ⟨_, _, toWorld_p o hs', .inl rfl, ?_⟩; conv => whnf) | (refine ACall.ext (eqWorld_p o hs') (AExt.tree 9001 rfl rfl rfl) rfl ?_; conv => whnf) | (exact rr) | (refine And.intro rfl ?_; conv => whnf) | (refine AB.mk (fun h => ?_) (fun h => ?_) <;> (conv => whnf)))
  refine ACall.turn 9001 0 [] [] [] [] (lmarkWorld_w o 1 (by decide) (by omega)) rfl rfl rfl rfl rfl ?_
  conv => whnf
  repeat' (first | (refine aw0 ?_) | (refine awx ?_; conv => whnf) | fail | (exact rr) | (refine And.intro rfl ?_; conv => whnf) | (refine AB.mk (fun h => ?_) (fun h => ?_) <;> (conv => whnf)))
  refine ACall.ext (eqInt64S_p (repStoreReport o) hlen) (AExt.tree 9002 rfl rfl rfl) rfl ?_
  conv => whnf
  repeat' (first | (refine aw0 ?_) | (refine awx ?_; conv => whnf) | fail | (exact rr) | (refine And.intro rfl ?_; conv => whnf) | (refine AB.mk (fun h => ?_) (fun h => ?_) <;> (conv => whnf)))
  refine ACall.turn 9002 0 [] [] [] [] (lmarkInt64S_w (repStoreReport o) 1 (by decide) (by omega)) rfl rfl rfl rfl rfl ?_
  conv => whnf
  repeat' (first | (refine aw0 ?_) | (refine awx ?_; conv => whnf) | fail | (exact rr) | (refine And.intro rfl ?_; conv => whnf) | (refine AB.mk (fun h => ?_) (fun h => ?_) <;> (conv => whnf)))
  refine ACall.ext (heldInt64S_p (repStoreReport o) 1 (by decide) (by omega)) (AExt.tree 9002 rfl rfl rfl) rfl ?_
  conv => whnf
  repeat' (first | (refine aw0 ?_) | (refine awx ?_; conv => whnf) | fail | (exact rr) | (refine And.intro rfl ?_; conv => whnf) | (refine AB.mk (fun h => ?_) (fun h => ?_) <;> (conv => whnf)))
  refine ACall.pure (toWorld_p o hs') rfl ?_
  conv => whnf
  repeat' (first | (refine aw0 ?_) | (refine awx ?_; conv => whnf) | fail | (exact rr) | (refine And.intro rfl ?_; conv => whnf) | (refine AB.mk (fun h => ?_) (fun h => ?_) <;> (conv => whnf)))
  refine ACall.pure (iStoreReport_f o hs').pcall rfl ?_
  conv => whnf
  repeat' (first | (refine aw0 ?_) | (refine awx ?_; conv => whnf) | fail | (exact rr) | (refine And.intro rfl ?_; conv => whnf) | (refine AB.mk (fun h => ?_) (fun h => ?_) <;> (conv => whnf)))
  refine ACall.pure (eqInt64S_p (repStoreReport o) hlen) rfl ?_
  conv => whnf
  repeat' (first | (refine aw0 ?_) | (refine awx ?_; conv => whnf) | fail | (exact rr) | (refine And.intro rfl ?_; conv => whnf) | (refine AB.mk (fun h => ?_) (fun h => ?_) <;> (conv => whnf)))
  refine ACall.ext (heldInt64S_p (repStoreReport o) 1 (by decide) (by omega)) (AExt.tree 9002 rfl rfl rfl) rfl ?_
  conv => whnf
  repeat' (first | (refine aw0 ?_) | (refine awx ?_; conv => whnf) | fail | (exact rr) | (refine And.intro rfl ?_; conv => whnf) | (refine AB.mk (fun h => ?_) (fun h => ?_) <;> (conv => whnf)))
end Go.Proofs.YtmgcnmdbhahhlaaGreat
