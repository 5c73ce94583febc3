/- LHe -/
import Derived.Test.YtcmknngafflcnaaGreatHs
import Derived.Test.YtcmknngafflcnaaGreatMkH
set_option linter.unusedVariables false
set_option linter.unusedSimpArgs false
set_option maxRecDepth 100000
namespace Go.Proofs.YtcmknngafflcnaaGreat
open Go.ChangeShapes Go.WideShapes Go.RowKit
def gc : List (List Nat) := bA [0, 0, 2, 4290, 1056961]
def ge : List (List Nat) := bQ 3 [24, 2, 5]
def go : List (List Nat) := bA [0, 0, 2, 4290, 1056961]
def gp : List (List Nat) := bQ 3 [24, 2, 5]
set_option maxHeartbeats 8000000 in
theorem lawHealedAll_p (o : DWorld) (hs : DWorld.small 9223372036854775807 o) : ak av 3 [.agg o.ds] (rB true) := by
 refine ac ah Tryz.func3 rfl Tryz.call3 Tryz.ntmps3 (congrArg Array.toList Tryz.results3) fun S => ?_; conv => whnf
 repeat' (first | (refine aw0 ?_) | (refine awx ?_; conv => whnf) | fail | (refine aa.pure (pb o 1048576 (by decide) (by decide) hs) rfl ?_; conv => whnf) | (refine ae.mk ⟨_, _, pb o 1048576 (by decide) (by decide) hs, .inl rfl, ?_⟩; conv => whnf) | (exact rr) | (refine And.intro rfl ?_; conv => whnf) | (refine AB.mk (fun h => ?_) (fun h => ?_) <;> (conv => whnf)))
 have hc : o.cnt ≤ 1048576 := by
  simp only [decide_eq_false_iff_not] at h
  omega
 have hs' : DWorld.small 1048576 o := DWorld.cnt_small hc
 clear h
 have hy := yj hs'
 have hy9 := Cd hc
 have hk9 := ic o
 have hk0 := ie o
 have hn9 := ic (cq o)
 have hn0 := ie (cq o)
 have d1 : decide (1 + bz o < 0) = false := by simp only [decide_eq_false_iff_not]; omega
 have d2 : decide (1 + bz (cq o) < 0) = false := by simp only [decide_eq_false_iff_not]; omega
 have d3 : ((1 + bz (cq o)) != (1 + bz (cq o))) = false := neI _
 repeat' (first | (refine aw0 ?_) | (refine awx ?_; conv => whnf) | fail | (exact rr) | (refine And.intro rfl ?_; conv => whnf) | (refine AB.mk (fun h => ?_) (fun h => ?_) <;> (conv => whnf)))
 refine aa.pure (fF o hs') rfl ?_
 conv => whnf
 repeat' (first | (refine aw0 ?_) | (refine awx ?_; conv => whnf) | fail | (exact rr) | (refine And.intro rfl ?_; conv => whnf) | (refine AB.mk (fun h => ?_) (fun h => ?_) <;> (conv => whnf)))
 refine aa.pure (yN o hs') rfl ?_
 conv => whnf
 repeat' (first | (refine aw0 ?_) | (refine awx ?_; conv => whnf) | fail | (exact rr) | (refine And.intro rfl ?_; conv => whnf) | (refine AB.mk (fun h => ?_) (fun h => ?_) <;> (conv => whnf)))
 refine aa.tree 9001 (rN o hs') (iw.rs rfl) fun P u => ?_
 conv => whnf
 repeat' (first | (refine aw0 ?_) | (refine awx ?_; conv => whnf) | fail | (exact rr) | (refine And.intro rfl ?_; conv => whnf) | (refine AB.mk (fun h => ?_) (fun h => ?_) <;> (conv => whnf)))
 refine aa.tree 9002 (qG o hs') (iw.tree 9001 rfl rfl rfl) fun P2 u2 => ?_
 conv => whnf
 repeat' (first | (refine aw0 ?_) | (refine awx ?_; conv => whnf) | fail | (exact rr) | (refine And.intro rfl ?_; conv => whnf) | (refine AB.mk (fun h => ?_) (fun h => ?_) <;> (conv => whnf)))
 refine aa.ext (eg (cq o) hy) (iw.tree 9002 rfl rfl rfl) rfl ?_
 conv => whnf
 repeat' (first | (refine aw0 ?_) | (refine awx ?_; conv => whnf) | fail | (exact rr) | (refine And.intro rfl ?_; conv => whnf) | (refine AB.mk (fun h => ?_) (fun h => ?_) <;> (conv => whnf)))
 (refine AWP.drawK ah 10 3 gc ge (by kernel_rfl) (by kernel_rfl) (by kernel_rfl) rfl ?_; conv => whnf)
 repeat' (first | (refine aw0 ?_) | (refine awx ?_; conv => whnf) | fail | (refine aa.pure (fF o hs') rfl ?_; conv => whnf) | (refine ae.mk ⟨_, _, fF o hs', .inl rfl, ?_⟩; conv => whnf) | (refine aa.ext (eg o hs') (iw.tree 9001 rfl rfl rfl) rfl ?_; conv => whnf) | (refine ae.mk ⟨_, _, eg o hs', .inr (.inr ⟨iw.tree 9001 rfl rfl rfl, rfl⟩), ?_⟩; conv => whnf) | (exact rr) | (refine And.intro rfl ?_; conv => whnf) | (refine AB.mk (fun h => ?_) (fun h => ?_) <;> (conv => whnf)))
 refine aa.turn 9001 0 [] [] [] [] (im o 1 (by decide) (by omega)) rfl rfl rfl rfl rfl ?_
 conv => whnf
 repeat' (first | (refine aw0 ?_) | (refine awx ?_; conv => whnf) | fail | (exact rr) | (refine And.intro rfl ?_; conv => whnf) | (refine AB.mk (fun h => ?_) (fun h => ?_) <;> (conv => whnf)))
 refine aa.ext (eg (cq o) hy) (iw.tree 9002 rfl rfl rfl) rfl ?_
 conv => whnf
 repeat' (first | (refine aw0 ?_) | (refine awx ?_; conv => whnf) | fail | (exact rr) | (refine And.intro rfl ?_; conv => whnf) | (refine AB.mk (fun h => ?_) (fun h => ?_) <;> (conv => whnf)))
 refine aa.turn 9002 0 [] [] [] [] (im (cq o) 1 (by decide) (by omega)) rfl rfl rfl rfl rfl ?_
 conv => whnf
 repeat' (first | (refine aw0 ?_) | (refine awx ?_; conv => whnf) | fail | (exact rr) | (refine And.intro rfl ?_; conv => whnf) | (refine AB.mk (fun h => ?_) (fun h => ?_) <;> (conv => whnf)))
 refine aa.ext (iX (cq o) hy 1 (by decide) (by omega)) (iw.tree 9002 rfl rfl rfl) rfl ?_
 conv => whnf
 repeat' (first | (refine aw0 ?_) | (refine awx ?_; conv => whnf) | fail | (exact rr) | (refine And.intro rfl ?_; conv => whnf) | (refine AB.mk (fun h => ?_) (fun h => ?_) <;> (conv => whnf)))
 refine aa.pure (fF o hs') rfl ?_
 conv => whnf
 repeat' (first | (refine aw0 ?_) | (refine awx ?_; conv => whnf) | fail | (exact rr) | (refine And.intro rfl ?_; conv => whnf) | (refine AB.mk (fun h => ?_) (fun h => ?_) <;> (conv => whnf)))
 refine aa.pure (qG o hs').pcall rfl ?_
 conv => whnf
 repeat' (first | (refine aw0 ?_) | (refine awx ?_; conv => whnf) | fail | (exact rr) | (refine And.intro rfl ?_; conv => whnf) | (refine AB.mk (fun h => ?_) (fun h => ?_) <;> (conv => whnf)))
 refine aa.pure (eg (cq o) hy) rfl ?_
 conv => whnf
 repeat' (first | (refine aw0 ?_) | (refine awx ?_; conv => whnf) | fail | (exact rr) | (refine And.intro rfl ?_; conv => whnf) | (refine AB.mk (fun h => ?_) (fun h => ?_) <;> (conv => whnf)))
 refine aa.ext (iX (cq o) hy 1 (by decide) (by omega)) (iw.tree 9002 rfl rfl rfl) rfl ?_
 conv => whnf
 repeat' (first | (refine aw0 ?_) | (refine awx ?_; conv => whnf) | fail | (exact rr) | (refine And.intro rfl ?_; conv => whnf) | (refine AB.mk (fun h => ?_) (fun h => ?_) <;> (conv => whnf)))
set_option maxHeartbeats 8000000 in
theorem lawTimedAll_p (o : DWorld) (hs : DWorld.small 9223372036854775807 o) : ak av 4 [.agg o.ds] (rB true) := by
 refine ac ah Tryz.func4 rfl Tryz.call4 Tryz.ntmps4 (congrArg Array.toList Tryz.results4) fun S => ?_; conv => whnf
 repeat' (first | (refine aw0 ?_) | (refine awx ?_; conv => whnf) | fail | (refine aa.pure (pb o 1048576 (by decide) (by decide) hs) rfl ?_; conv => whnf) | (refine ae.mk ⟨_, _, pb o 1048576 (by decide) (by decide) hs, .inl rfl, ?_⟩; conv => whnf) | (exact rr) | (refine And.intro rfl ?_; conv => whnf) | (refine AB.mk (fun h => ?_) (fun h => ?_) <;> (conv => whnf)))
 have hc : o.cnt ≤ 1048576 := by
  simp only [decide_eq_false_iff_not] at h
  omega
 have hs' : DWorld.small 1048576 o := DWorld.cnt_small hc
 clear h
 have hy := Bf hs'
 have hy9 := Ec hc
 have hk9 := ic o
 have hk0 := ie o
 have hn9 := ic (dw o)
 have hn0 := ie (dw o)
 have d1 : decide (1 + bz o < 0) = false := by simp only [decide_eq_false_iff_not]; omega
 have d2 : decide (1 + bz (dw o) < 0) = false := by simp only [decide_eq_false_iff_not]; omega
 have d3 : ((1 + bz (dw o)) != (1 + bz (dw o))) = false := neI _
 repeat' (first | (refine aw0 ?_) | (refine awx ?_; conv => whnf) | fail | (exact rr) | (refine And.intro rfl ?_; conv => whnf) | (refine AB.mk (fun h => ?_) (fun h => ?_) <;> (conv => whnf)))
 refine aa.pure (fF o hs') rfl ?_
 conv => whnf
 repeat' (first | (refine aw0 ?_) | (refine awx ?_; conv => whnf) | fail | (exact rr) | (refine And.intro rfl ?_; conv => whnf) | (refine AB.mk (fun h => ?_) (fun h => ?_) <;> (conv => whnf)))
 refine aa.pure (AU o hs') rfl ?_
 conv => whnf
 repeat' (first | (refine aw0 ?_) | (refine awx ?_; conv => whnf) | fail | (exact rr) | (refine And.intro rfl ?_; conv => whnf) | (refine AB.mk (fun h => ?_) (fun h => ?_) <;> (conv => whnf)))
 refine aa.tree 9001 (rN o hs') (iw.rs rfl) fun P u => ?_
 conv => whnf
 repeat' (first | (refine aw0 ?_) | (refine awx ?_; conv => whnf) | fail | (exact rr) | (refine And.intro rfl ?_; conv => whnf) | (refine AB.mk (fun h => ?_) (fun h => ?_) <;> (conv => whnf)))
 refine aa.tree 9002 (si o hs') (iw.tree 9001 rfl rfl rfl) fun P2 u2 => ?_
 conv => whnf
 repeat' (first | (refine aw0 ?_) | (refine awx ?_; conv => whnf) | fail | (exact rr) | (refine And.intro rfl ?_; conv => whnf) | (refine AB.mk (fun h => ?_) (fun h => ?_) <;> (conv => whnf)))
 refine aa.ext (eg (dw o) hy) (iw.tree 9002 rfl rfl rfl) rfl ?_
 conv => whnf
 repeat' (first | (refine aw0 ?_) | (refine awx ?_; conv => whnf) | fail | (exact rr) | (refine And.intro rfl ?_; conv => whnf) | (refine AB.mk (fun h => ?_) (fun h => ?_) <;> (conv => whnf)))
 (refine AWP.drawK ah 10 3 go gp (by kernel_rfl) (by kernel_rfl) (by kernel_rfl) rfl ?_; conv => whnf)
 repeat' (first | (refine aw0 ?_) | (refine awx ?_; conv => whnf) | fail | (refine aa.pure (fF o hs') rfl ?_; conv => whnf) | (refine ae.mk ⟨_, _, fF o hs', .inl rfl, ?_⟩; conv => whnf) | (refine aa.ext (eg o hs') (iw.tree 9001 rfl rfl rfl) rfl ?_; conv => whnf) | (refine ae.mk ⟨_, _, eg o hs', .inr (.inr ⟨iw.tree 9001 rfl rfl rfl, rfl⟩), ?_⟩; conv => whnf) | (exact rr) | (refine And.intro rfl ?_; conv => whnf) | (refine AB.mk (fun h => ?_) (fun h => ?_) <;> (conv => whnf)))
 refine aa.turn 9001 0 [] [] [] [] (im o 1 (by decide) (by omega)) rfl rfl rfl rfl rfl ?_
 conv => whnf
 repeat' (first | (refine aw0 ?_) | (refine awx ?_; conv => whnf) | fail | (exact rr) | (refine And.intro rfl ?_; conv => whnf) | (refine AB.mk (fun h => ?_) (fun h => ?_) <;> (conv => whnf)))
 refine aa.ext (eg (dw o) hy) (iw.tree 9002 rfl rfl rfl) rfl ?_
 conv => whnf
 repeat' (first | (refine aw0 ?_) | (refine awx ?_; conv => whnf) | fail | (exact rr) | (refine And.intro rfl ?_; conv => whnf) | (refine AB.mk (fun h => ?_) (fun h => ?_) <;> (conv => whnf)))
 refine aa.turn 9002 0 [] [] [] [] (im (dw o) 1 (by decide) (by omega)) rfl rfl rfl rfl rfl ?_
 conv => whnf
 repeat' (first | (refine aw0 ?_) | (refine awx ?_; conv => whnf) | fail | (exact rr) | (refine And.intro rfl ?_; conv => whnf) | (refine AB.mk (fun h => ?_) (fun h => ?_) <;> (conv => whnf)))
 refine aa.ext (iX (dw o) hy 1 (by decide) (by omega)) (iw.tree 9002 rfl rfl rfl) rfl ?_
 conv => whnf
 repeat' (first | (refine aw0 ?_) | (refine awx ?_; conv => whnf) | fail | (exact rr) | (refine And.intro rfl ?_; conv => whnf) | (refine AB.mk (fun h => ?_) (fun h => ?_) <;> (conv => whnf)))
 refine aa.pure (fF o hs') rfl ?_
 conv => whnf
 repeat' (first | (refine aw0 ?_) | (refine awx ?_; conv => whnf) | fail | (exact rr) | (refine And.intro rfl ?_; conv => whnf) | (refine AB.mk (fun h => ?_) (fun h => ?_) <;> (conv => whnf)))
 refine aa.pure (si o hs').pcall rfl ?_
 conv => whnf
 repeat' (first | (refine aw0 ?_) | (refine awx ?_; conv => whnf) | fail | (exact rr) | (refine And.intro rfl ?_; conv => whnf) | (refine AB.mk (fun h => ?_) (fun h => ?_) <;> (conv => whnf)))
 refine aa.pure (eg (dw o) hy) rfl ?_
 conv => whnf
 repeat' (first | (refine aw0 ?_) | (refine awx ?_; conv => whnf) | fail | (exact rr) | (refine And.intro rfl ?_; conv => whnf) | (refine AB.mk (fun h => ?_) (fun h => ?_) <;> (conv => whnf)))
 refine aa.ext (iX (dw o) hy 1 (by decide) (by omega)) (iw.tree 9002 rfl rfl rfl) rfl ?_
 conv => whnf
 repeat' (first | (refine aw0 ?_) | (refine awx ?_; conv => whnf) | fail | (exact rr) | (refine And.intro rfl ?_; conv => whnf) | (refine AB.mk (fun h => ?_) (fun h => ?_) <;> (conv => whnf)))
end Go.Proofs.YtcmknngafflcnaaGreat
