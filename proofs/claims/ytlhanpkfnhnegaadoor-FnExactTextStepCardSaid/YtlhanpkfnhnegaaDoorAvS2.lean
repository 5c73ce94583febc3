/- Steps: valid, both sides. -/
import Derived.Test.YtlhanpkfnhnegaaDoorAvS1
set_option linter.unusedVariables false
set_option linter.unusedSimpArgs false
set_option maxRecDepth 100000
namespace Go.Proofs.YtlhanpkfnhnegaaDoor
open Go.ChangeShapes Go.WideShapes Go.RowKit

def stepKind (x : DStep) : Bool :=
  if x.kind == 1 || x.kind == 7 || x.kind == 8 then x.b == 0
  else if x.kind == 2 || x.kind == 5 || x.kind == 6 then betweenB x.a 0 5 && x.b == 0
  else if x.kind == 3 then betweenB x.a 0 5 && betweenB x.b 1 1000
  else if x.kind == 4 then betweenB x.a 0 5 && betweenB x.b 0 1000000
  else if x.kind == 9 || x.kind == 10 then betweenB x.a 0 5 && betweenB x.b 0 5
  else x.kind == 11
def stepNums (x : DStep) : Bool := numsB x && fatesB x.fates && !(decide (((x.fates.map eI).length : Int) > 0) && x.kind != 5) && !(decide (x.c > 0) && x.kind != 11)
def stepOk (x : DStep) : Bool := stepNums x && stepKind x
set_option maxHeartbeats 4000000 in
theorem sStepOk_p (x : DStep) : PCall av 81 [.agg x.ds] (rB (stepOk x)) := by
  refine pcall_of av_ok Tryd.func81 rfl Tryd.call81 Tryd.ntmps81 (congrArg Array.toList Tryd.results81) fun S => ?_; conv => whnf
  repeat' (first | (refine AWP.seq ?_) | (refine AWP.region av_ok ?_; conv => whnf) | (refine AWP.ret ?_; conv => whnf) | (refine AWP.skip ?_; conv => whnf) | (refine AWP.exit ?_; conv => whnf) | (refine AWP.block ?_; conv => whnf) | (refine AWP.cond ?_; conv => whnf) | (refine AB.tt ?_; conv => whnf) | (refine AB.ff ?_; conv => whnf) | (refine ACall.pure (sl1In_p _ _ _) rfl ?_; conv => whnf) | (refine ACall.pure (sl26Fates_p _) rfl ?_; conv => whnf) | (refine ACall.pure (sl22Node_p _) rfl ?_; conv => whnf) | (refine ACall.pure (sTimeOk_p _) rfl ?_; conv => whnf) | (refine AB.ofT (by assumption) ?_; conv => whnf) | (refine AB.ofF (by assumption) ?_; conv => whnf) | (exact trivial) | (refine And.intro rfl ?_; conv => whnf) | (refine AB.mk (fun h => ?_) (fun h => ?_) <;> (conv => whnf)) | (with_reducible_and_instances rfl) | (exact (rfl : AP.tup _ = AP.tup _)))
  all_goals
    clear S
    simp_all [stepOk, stepNums, stepKind, numsB]
def numFate (x : DStep) : Bool := fatesB x.fates && numsB x
def stepNums2 (x : DStep) : Bool := numFate x && !(x.kind != 11 && x.c != 0) && !(x.kind != 5 && decide (((x.fates.map eI).length : Int) > 0))
theorem stepNums_eq (x : DStep) : stepNums x = stepNums2 x := by
  unfold stepNums stepNums2 numFate
  cases hn : numsB x
  · simp
  · have hc : decide (x.c > 0) = (x.c != 0) := by
      simp only [numsB, Bool.and_eq_true, betweenB_iff] at hn
      by_cases h : x.c = 0
      · simp [h]
      · have : x.c > 0 := by omega
        simp [h, this]
    rw [hc]
    cases fatesB x.fates <;> cases (x.kind != 11) <;> cases (x.c != 0) <;> cases (x.kind != 5) <;> cases (decide (((x.fates.map eI).length : Int) > 0)) <;> rfl
set_option maxHeartbeats 4000000 in
theorem iStepOk_p (x : DStep) : PCall av 86 [.agg x.ds] (rB (stepOk x)) := by
  rw [stepOk, stepNums_eq]
  refine pcall_of av_ok Tryd.func86 rfl Tryd.call86 Tryd.ntmps86 (congrArg Array.toList Tryd.results86) fun S => ?_; conv => whnf
  repeat' (first | (refine AWP.seq ?_) | (refine AWP.region av_ok ?_; conv => whnf) | (refine AWP.ret ?_; conv => whnf) | (refine AWP.skip ?_; conv => whnf) | (refine AWP.exit ?_; conv => whnf) | (refine AWP.block ?_; conv => whnf) | (refine AWP.cond ?_; conv => whnf) | (refine AB.tt ?_; conv => whnf) | (refine AB.ff ?_; conv => whnf) | (refine ACall.pure (show PCall av 136 [.agg x.ds] (rB (numFate x)) from inumbersOk_p x) rfl ?_; conv => whnf) | (refine ACall.pure (ibetween_p _ _ _) rfl ?_; conv => whnf) | (refine ACall.pure (inodeOk_p _) rfl ?_; conv => whnf) | (refine ACall.pure (iTimeOk_p _) rfl ?_; conv => whnf) | (refine AB.ofT (by assumption) ?_; conv => whnf) | (refine AB.ofF (by assumption) ?_; conv => whnf) | (exact trivial) | (refine And.intro rfl ?_; conv => whnf) | (refine AB.mk (fun h => ?_) (fun h => ?_) <;> (conv => whnf)) | (with_reducible_and_instances rfl) | (exact (rfl : AP.tup _ = AP.tup _)))
  all_goals
    clear S
    simp_all [stepNums2, stepKind]
end Go.Proofs.YtlhanpkfnhnegaaDoor
