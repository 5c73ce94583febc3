/- Schedulers: compared, and fitting a world: both sides. -/
import Derived.Test.YthmckpghadfeeaaGreatWB4
import Derived.Test.YthmckpghadfeeaaGreatAvVG
set_option linter.unusedVariables false
set_option linter.unusedSimpArgs false
set_option maxRecDepth 100000
namespace Go.Proofs.YthmckpghadfeeaaGreat
open Go.ChangeShapes Go.WideShapes Go.RowKit
def dk_WB5_impl_sameView_1 : List (List Nat) := [[], [0], [], [2], [], [], [5, 0, 1, 4], [4, 1, 0, 6, 2, 3, 5]]
def fk_WB5_impl_sameView_1 : List (List Nat) := [[0, 0, 2, 2, 2, 2], [1, 0, 2, 2, 2, 2], [2, 2, 0, 0, 2, 2], [2, 2, 1, 0, 2, 2], [2, 2, 2, 2, 0, 2], [2, 2, 2, 2, 2, 0]]
def dk_WB5_impl_schedFits_1 : List (List Nat) := [[], [0], [0, 1], [1, 0, 2], [2, 0, 1, 3], [1, 0, 2], [5, 3, 1, 0, 2, 4], [4, 3, 5, 6, 1, 0, 2], [2, 0, 1, 6, 5, 3, 4, 7], [7, 4, 3, 5, 6, 1, 0, 2, 8], [8, 2, 0, 1, 6, 5, 3, 4, 7, 9], [9, 7, 4, 3, 5, 6, 1, 0, 2, 8, 10], [9, 7, 4, 3, 5, 6, 1, 0, 2, 8, 10], [10, 8, 2, 0, 1, 6, 5, 3, 4, 7, 9, 12], [12, 13, 10, 8, 2, 0, 1, 6, 5, 3, 4, 7, 9, 11], [11, 13, 12, 14, 9, 7, 4, 3, 5, 6, 1, 0, 2, 8, 10], [10, 9, 14, 12, 13, 11, 15, 7, 4, 3, 5, 6, 1, 0, 2, 8], [8, 2, 0, 1, 6, 5, 3, 4, 7, 15, 11, 13, 12, 14, 9, 10, 16]]
def fk_WB5_impl_schedFits_1 : List (List Nat) := [[0, 0, 0, 0, 0, 0, 0, 0, 0, 0, 0, 0, 0, 0], [1, 0, 0, 0, 0, 0, 0, 0, 0, 0, 0, 0, 0, 0], [1, 1, 0, 0, 0, 0, 0, 0, 0, 0, 0, 0, 0, 0], [1, 1, 1, 0, 0, 2, 0, 0, 0, 0, 0, 0, 0, 0], [1, 1, 1, 1, 0, 2, 0, 0, 0, 0, 0, 0, 0, 0], [1, 1, 1, 2, 2, 0, 0, 0, 0, 0, 0, 0, 0, 0], [1, 1, 1, 1, 1, 1, 0, 0, 0, 0, 0, 0, 0, 0], [1, 1, 1, 1, 1, 1, 1, 0, 0, 0, 0, 0, 0, 0], [1, 1, 1, 1, 1, 1, 1, 1, 0, 0, 0, 0, 0, 0], [1, 1, 1, 1, 1, 1, 1, 1, 1, 0, 0, 0, 0, 0], [1, 1, 1, 1, 1, 1, 1, 1, 1, 1, 0, 0, 0, 0], [1, 1, 1, 1, 1, 1, 1, 1, 1, 1, 1, 0, 2, 2], [1, 1, 1, 1, 1, 1, 1, 1, 1, 1, 1, 2, 0, 0], [1, 1, 1, 1, 1, 1, 1, 1, 1, 1, 1, 2, 1, 0]]

theorem isameView_p (a b : DView) (ha : a.jobs.opens.length ≤ 9223372036854775806) : PCall av 233 [.agg a.ds, .agg b.ds] (rB (decide (a = b))) := by
  refine pcall_of av_ok Tryz.func233 rfl Tryz.call233 Tryz.ntmps233 (congrArg Array.toList Tryz.results233) fun S => ?_; conv => whnf
  repeat' (first | (refine AWP.seq ?_) | ((first | refine AWP.region av_ok ?_ | refine AWP.ret ?_ | refine AWP.skip ?_ | refine AWP.exit ?_ | refine AWP.block ?_ | refine AWP.cond ?_ | refine AB.tt ?_ | refine AB.ff ?_); conv => whnf) | ((first | refine AB.ofT (by assumption) ?_ | refine AB.ofF (by assumption) ?_); conv => whnf) | (exact trivial) | (refine And.intro rfl ?_; conv => whnf) | (refine AB.mk (fun h => ?_) (fun h => ?_) <;> (conv => whnf)) | (with_reducible_and_instances rfl) | (exact (rfl : AP.tup _ = AP.tup _)))
  refine AWP.drawSN av_ok 1 6 dk_WB5_impl_sameView_1 fk_WB5_impl_sameView_1 4 1 4 (by kernel_rfl) (by kernel_rfl) (by kernel_rfl) rfl ⟨_, rfl, rfl, rfl, rfl⟩ rfl rfl rfl rfl rfl ?_; conv => whnf
  repeat' (first | (refine AWP.seq ?_) | ((first | refine AWP.region av_ok ?_ | refine AWP.ret ?_ | refine AWP.skip ?_ | refine AWP.exit ?_ | refine AWP.block ?_ | refine AWP.cond ?_ | refine AB.tt ?_ | refine AB.ff ?_); conv => whnf) | ((first | refine AB.ofT (by assumption) ?_ | refine AB.ofF (by assumption) ?_); conv => whnf) | (exact trivial) | (refine And.intro rfl ?_; conv => whnf) | (refine AB.mk (fun h => ?_) (fun h => ?_) <;> (conv => whnf)) | (with_reducible_and_instances rfl) | (exact (rfl : AP.tup _ = AP.tup _)))
  refine ⟨_, _, _, _, _, ?o1, rfl, rfl, rfl, rfl, rfl, ?hst, ?hk⟩
  case hst =>
    conv => whnf
  conv => whnf
  refine ⟨rfl, ?_, ?_⟩
  · repeat' (first | exact trivial | exact ⟨rfl, rfl⟩ | (refine ⟨?_, ?_⟩) | (refine AWP.seq ?_) | ((first | refine AWP.region av_ok ?_ | refine AWP.ret ?_ | refine AWP.skip ?_ | refine AWP.exit ?_ | refine AWP.block ?_ | refine AWP.cond ?_ | refine AB.tt ?_ | refine AB.ff ?_); conv => whnf) | ((first | refine AB.ofT (by assumption) ?_ | refine AB.ofF (by assumption) ?_); conv => whnf) | (conv => whnf))
  conv => whnf
  repeat' (first | (refine AWP.seq ?_) | ((first | refine AWP.region av_ok ?_ | refine AWP.ret ?_ | refine AWP.skip ?_ | refine AWP.exit ?_ | refine AWP.block ?_ | refine AWP.cond ?_ | refine AB.tt ?_ | refine AB.ff ?_); conv => whnf) | ((first | refine AB.ofT (by assumption) ?_ | refine AB.ofF (by assumption) ?_); conv => whnf) | (refine ACall.pure (slEqDue_p a.jobs.opens b.jobs.opens ha) rfl ?_; conv => whnf) | (refine AFCall.mk ⟨_, _, slEqDue_p a.jobs.opens b.jobs.opens ha, .inl rfl, ?_⟩; conv => whnf) | (exact trivial) | (refine And.intro rfl ?_; conv => whnf) | (refine AB.mk (fun h => ?_) (fun h => ?_) <;> (conv => whnf)) | (with_reducible_and_instances rfl) | (exact (rfl : AP.tup _ = AP.tup _)))
  all_goals
    refine rB_of ?_
    obtain ⟨⟨i1, t1, h1, e1, l1, o1⟩⟩ := a
    obtain ⟨⟨i2, t2, h2, e2, l2, o2⟩⟩ := b
    simp_all [DView.mk.injEq, DJobs.mk.injEq]
theorem sched_eq {a b : DSched} : a = b ↔ (a.id = b.id ∧ a.seq = b.seq ∧ a.view = b.view ∧ a.busy = b.busy ∧ a.op = b.op ∧ a.index = b.index) := by
  cases a; cases b; simp [DSched.mk.injEq]
theorem isameSched_p (a b : DSched) (ha : a.view.jobs.opens.length ≤ 9223372036854775806) : PCall av 186 [.agg a.ds, .agg b.ds] (rB (decide (a = b))) := by
  refine pcall_of av_ok Tryz.func186 rfl Tryz.call186 Tryz.ntmps186 (congrArg Array.toList Tryz.results186) fun S => ?_; conv => whnf
  repeat' (first | (refine AWP.seq ?_) | ((first | refine AWP.region av_ok ?_ | refine AWP.ret ?_ | refine AWP.skip ?_ | refine AWP.exit ?_ | refine AWP.block ?_ | refine AWP.cond ?_ | refine AB.tt ?_ | refine AB.ff ?_); conv => whnf) | ((first | refine AB.ofT (by assumption) ?_ | refine AB.ofF (by assumption) ?_); conv => whnf) | (refine ACall.pure (isameView_p a.view b.view ha) rfl ?_; conv => whnf) | (refine AFCall.mk ⟨_, _, isameView_p a.view b.view ha, .inl rfl, ?_⟩; conv => whnf) | (refine AOp.eqs (eqlOp_at a.op b.op) rfl rfl rfl rfl rfl ?_; conv => whnf) | (exact trivial) | (refine And.intro rfl ?_; conv => whnf) | (refine AB.mk (fun h => ?_) (fun h => ?_) <;> (conv => whnf)) | (with_reducible_and_instances rfl) | (exact (rfl : AP.tup _ = AP.tup _)))
  all_goals
    refine rB_of ?_
    rw [Bool.eq_iff_iff, decide_eq_true_iff, sched_eq]
    simp_all
def newSched (id : Int) : DSched := if schedIs id then sched0 id else sched0 0
theorem iNewSched_p (id : Int) : PCall av 187 [.one (dI id)] (.val (.agg (newSched id).ds)) := by
  refine pcall_of av_ok Tryz.func187 rfl Tryz.call187 Tryz.ntmps187 (congrArg Array.toList Tryz.results187) fun S => ?_; conv => whnf
  repeat' (first | (refine AWP.seq ?_) | ((first | refine AWP.region av_ok ?_ | refine AWP.ret ?_ | refine AWP.skip ?_ | refine AWP.exit ?_ | refine AWP.block ?_ | refine AWP.cond ?_ | refine AB.tt ?_ | refine AB.ff ?_); conv => whnf) | ((first | refine AB.ofT (by assumption) ?_ | refine AB.ofF (by assumption) ?_); conv => whnf) | (refine ACall.pure (ischedOk_p _) rfl ?_; conv => whnf) | (refine AFCall.mk ⟨_, _, ischedOk_p _, .inl rfl, ?_⟩; conv => whnf) | (exact trivial) | (refine And.intro rfl ?_; conv => whnf) | (refine AB.mk (fun h => ?_) (fun h => ?_) <;> (conv => whnf)) | (with_reducible_and_instances rfl) | (exact (rfl : AP.tup _ = AP.tup _)))
  all_goals simp_all [newSched, sched0, DSched.ds, op0]
theorem ischedFits_p (s : DSched) (id : Int) (up : Bool) (hs : s.view.jobs.opens.length ≤ 9223372036854775806) : PCall av 130 [.agg s.ds, .one (dI id), .one (dB up)] (rB (schedFits s id up)) := by
  refine pcall_of av_ok Tryz.func130 rfl Tryz.call130 Tryz.ntmps130 (congrArg Array.toList Tryz.results130) fun S => ?_; conv => whnf
  repeat' (first | (refine AWP.seq ?_) | ((first | refine AWP.region av_ok ?_ | refine AWP.ret ?_ | refine AWP.skip ?_ | refine AWP.exit ?_ | refine AWP.block ?_ | refine AWP.cond ?_ | refine AB.tt ?_ | refine AB.ff ?_); conv => whnf) | ((first | refine AB.ofT (by assumption) ?_ | refine AB.ofF (by assumption) ?_); conv => whnf) | (refine AWP.drawK av_ok 1 14 dk_WB5_impl_schedFits_1 fk_WB5_impl_schedFits_1 (by kernel_rfl) (by kernel_rfl) (by kernel_rfl) rfl ?_; conv => whnf) | (refine ACall.pure (iSchedOk_p s) rfl ?_; conv => whnf) | (refine AFCall.mk ⟨_, _, iSchedOk_p s, .inl rfl, ?_⟩; conv => whnf) | (refine ACall.pure (iNewSched_p _) rfl ?_; conv => whnf) | (refine AFCall.mk ⟨_, _, iNewSched_p _, .inl rfl, ?_⟩; conv => whnf) | (refine ACall.pure (isameSched_p s (newSched id) hs) rfl ?_; conv => whnf) | (refine AFCall.mk ⟨_, _, isameSched_p s (newSched id) hs, .inl rfl, ?_⟩; conv => whnf) | (exact trivial) | (refine And.intro rfl ?_; conv => whnf) | (refine AB.mk (fun h => ?_) (fun h => ?_) <;> (conv => whnf)) | (with_reducible_and_instances rfl) | (exact (rfl : AP.tup _ = AP.tup _)))
  all_goals
    refine rB_of ?_
    first
      | (simp_all [schedFits]; done)
      | (have e : newSched id = sched0 id := by simp_all [newSched, schedOkB]
         simp_all [schedFits]
         rw [Bool.eq_iff_iff]; simp; done)
theorem sl22SchedDown_p (s : DSched) : PCall av 106 [.agg s.ds] (rB (decide (s = sched0 s.id))) := by
  refine pcall_of av_ok Tryz.func106 rfl Tryz.call106 Tryz.ntmps106 (congrArg Array.toList Tryz.results106) fun S => ?_; conv => whnf
  repeat' (first | (refine AWP.seq ?_) | ((first | refine AWP.region av_ok ?_ | refine AWP.ret ?_ | refine AWP.skip ?_ | refine AWP.exit ?_ | refine AWP.block ?_ | refine AWP.cond ?_ | refine AB.tt ?_ | refine AB.ff ?_); conv => whnf) | ((first | refine AB.ofT (by assumption) ?_ | refine AB.ofF (by assumption) ?_); conv => whnf) | (refine AOp.eqs (eqlOp_at s.op op0) rfl rfl rfl rfl rfl ?_; conv => whnf) | (exact trivial) | (refine And.intro rfl ?_; conv => whnf) | (refine AB.mk (fun h => ?_) (fun h => ?_) <;> (conv => whnf)) | (with_reducible_and_instances rfl) | (exact (rfl : AP.tup _ = AP.tup _)))
  all_goals
    refine rB_of ?_
    obtain ⟨i, q, ⟨⟨a, b, c, d, e, l⟩⟩, u, o, x⟩ := s
    rw [Bool.eq_iff_iff, decide_eq_true_iff, sched_eq]
    simp_all [sched0, DView.mk.injEq, DJobs.mk.injEq]
theorem sl22Sched_p (s : DSched) (id : Int) (up : Bool) : PCall av 56 [.agg s.ds, .one (dI id), .one (dB up)] (rB (schedFits s id up)) := by
  refine pcall_of av_ok Tryz.func56 rfl Tryz.call56 Tryz.ntmps56 (congrArg Array.toList Tryz.results56) fun S => ?_; conv => whnf
  repeat' (first | (refine AWP.seq ?_) | ((first | refine AWP.region av_ok ?_ | refine AWP.ret ?_ | refine AWP.skip ?_ | refine AWP.exit ?_ | refine AWP.block ?_ | refine AWP.cond ?_ | refine AB.tt ?_ | refine AB.ff ?_); conv => whnf) | ((first | refine AB.ofT (by assumption) ?_ | refine AB.ofF (by assumption) ?_); conv => whnf) | (refine ACall.pure (sSchedOk_p s) rfl ?_; conv => whnf) | (refine AFCall.mk ⟨_, _, sSchedOk_p s, .inl rfl, ?_⟩; conv => whnf) | (refine ACall.pure (sl22SchedDown_p s) rfl ?_; conv => whnf) | (refine AFCall.mk ⟨_, _, sl22SchedDown_p s, .inl rfl, ?_⟩; conv => whnf) | (exact trivial) | (refine And.intro rfl ?_; conv => whnf) | (refine AB.mk (fun h => ?_) (fun h => ?_) <;> (conv => whnf)) | (with_reducible_and_instances rfl) | (exact (rfl : AP.tup _ = AP.tup _)))
  all_goals
    refine rB_of ?_
    first
      | (simp_all [schedFits]; done)
      | (simp_all [schedFits]; rw [Bool.eq_iff_iff]; simp; done)
end Go.Proofs.YthmckpghadfeeaaGreat
