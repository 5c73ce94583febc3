/- Valid states and stores: both sides. -/
import Derived.Test.YthmckpghadfeeaaGreatWB2
set_option linter.unusedVariables false
set_option linter.unusedSimpArgs false
set_option maxRecDepth 100000
namespace Go.Proofs.YthmckpghadfeeaaGreat
open Go.ChangeShapes Go.WideShapes Go.RowKit
def dk_WB3_spec_StateOk_6 : List (List Nat) := [[], [0], [], [2, 0, 1], [1, 0, 2, 3], [3, 2, 0, 1, 4], [], [6], [6, 7, 4, 1, 0, 2, 3, 5]]
def fk_WB3_spec_StateOk_6 : List (List Nat) := [[0, 0, 2, 0, 0, 0, 2, 2], [1, 0, 2, 0, 0, 0, 2, 2], [2, 2, 0, 0, 0, 0, 2, 2], [1, 1, 1, 0, 0, 0, 2, 2], [1, 1, 1, 1, 0, 0, 2, 2], [1, 1, 1, 1, 1, 0, 2, 2], [2, 2, 2, 2, 2, 2, 0, 0], [2, 2, 2, 2, 2, 2, 1, 0]]
def dk_WB3_spec_SamePairs_6 : List (List Nat) := [[], [], [1, 0], [0, 1, 2], [], [], [5, 4], [4, 5, 6], [6, 5, 4, 7, 2, 1, 0, 3]]
def fk_WB3_spec_SamePairs_6 : List (List Nat) := [[0, 2, 0, 0, 2, 2, 2, 2], [2, 0, 0, 0, 2, 2, 2, 2], [1, 1, 0, 0, 2, 2, 2, 2], [1, 1, 1, 0, 2, 2, 2, 2], [2, 2, 2, 2, 0, 2, 0, 0], [2, 2, 2, 2, 2, 0, 0, 0], [2, 2, 2, 2, 1, 1, 0, 0], [2, 2, 2, 2, 1, 1, 1, 0]]
def dk_WB3_spec_SameJobs_6 : List (List Nat) := [[], [], [1, 0], [0, 1, 2], [], [], [5, 4], [4, 5, 6], [6, 5, 4, 7, 2, 1, 0, 3]]
def fk_WB3_spec_SameJobs_6 : List (List Nat) := [[0, 2, 0, 0, 2, 2, 2, 2], [2, 0, 0, 0, 2, 2, 2, 2], [1, 1, 0, 0, 2, 2, 2, 2], [1, 1, 1, 0, 2, 2, 2, 2], [2, 2, 2, 2, 0, 2, 0, 0], [2, 2, 2, 2, 2, 0, 0, 0], [2, 2, 2, 2, 1, 1, 0, 0], [2, 2, 2, 2, 1, 1, 1, 0]]

theorem stateOk_1 {s : DState} (h : (betweenB s.index 0 2000 && tOk s.time && pairsOk s.pairs && jobsOk s.jobs && leaseOk s.lease) = false) : stateOk s = false := by simp only [stateOk, h, Bool.false_and]
theorem stateOk_2 {s : DState} {k : Nat} (hk : k < s.jobs.length) (h : decide (s.jobs[k].fired ≤ s.index) = false) : stateOk s = false := by
  have := all_no (p := fun j : DJob => decide (j.fired ≤ s.index)) hk h
  simp only [stateOk, this, Bool.and_false]
theorem stateOk_yes {s : DState} (h : (betweenB s.index 0 2000 && tOk s.time && pairsOk s.pairs && jobsOk s.jobs && leaseOk s.lease) = true) (hj : s.jobs.all (fun j => decide (j.fired ≤ s.index)) = true) : stateOk s = true := by simp only [stateOk, h, hj, Bool.and_self]
theorem jobs_le {l : List DJob} (h : jobsOk l = true) : l.length ≤ 8 := by
  simp only [jobsOk, Bool.and_eq_true, decide_eq_true_eq] at h
  exact h.1.1.1
theorem iStateOk_p (s : DState) (hs : s.pairs.length ≤ 9223372036854775806) : PCall av 201 [.agg s.ds] (rB (stateOk s)) := by
  refine pcall_of av_ok Tryz.func201 rfl Tryz.call201 Tryz.ntmps201 (congrArg Array.toList Tryz.results201) fun S => ?_; conv => whnf
  repeat' (first | (refine AWP.seq ?_) | ((first | refine AWP.region av_ok ?_ | refine AWP.ret ?_ | refine AWP.skip ?_ | refine AWP.exit ?_ | refine AWP.block ?_ | refine AWP.cond ?_ | refine AB.tt ?_ | refine AB.ff ?_); conv => whnf) | ((first | refine AB.ofT (by assumption) ?_ | refine AB.ofF (by assumption) ?_); conv => whnf) | (refine ACall.pure (ibetween_p _ _ _) rfl ?_; conv => whnf) | (refine AFCall.mk ⟨_, _, ibetween_p _ _ _, .inl rfl, ?_⟩; conv => whnf) | (refine ACall.pure (iTimeOk_p _) rfl ?_; conv => whnf) | (refine AFCall.mk ⟨_, _, iTimeOk_p _, .inl rfl, ?_⟩; conv => whnf) | (refine ACall.pure (iPairsOk_p s.pairs hs) rfl ?_; conv => whnf) | (refine AFCall.mk ⟨_, _, iPairsOk_p s.pairs hs, .inl rfl, ?_⟩; conv => whnf) | (refine ACall.pure (iJobsOk_p s.jobs) rfl ?_; conv => whnf) | (refine AFCall.mk ⟨_, _, iJobsOk_p s.jobs, .inl rfl, ?_⟩; conv => whnf) | (refine ACall.pure (iLeaseOk_p s.lease) rfl ?_; conv => whnf) | (refine AFCall.mk ⟨_, _, iLeaseOk_p s.lease, .inl rfl, ?_⟩; conv => whnf) | (exact trivial) | (refine And.intro rfl ?_; conv => whnf) | (refine AB.mk (fun h => ?_) (fun h => ?_) <;> (conv => whnf)) | (with_reducible_and_instances rfl) | (exact (rfl : AP.tup _ = AP.tup _)))
  all_goals first
    | (rw [stateOk_1 (by first | (simp_all [tOk]; done) | (exfalso; assumption))]; done)
    | skip
  have hyes : (betweenB s.index 0 2000 && tOk s.time && pairsOk s.pairs && jobsOk s.jobs && leaseOk s.lease) = true := by simp_all [tOk]
  have h8 : s.jobs.length ≤ 8 := jobs_le (by simp_all)
  refine AWP.loopS (fun k : Nat => k ≤ s.jobs.length ∧ ∀ (j : Nat) (hj : j < k) (hl : j < s.jobs.length), decide (s.jobs[j].fired ≤ s.index) = true) [2, 4, 36, 37, 38, 39, 40, 41, 42, 43, 44, 45] (fun k => [(36, vI .i64 (k : Int))]) (fun _ => [(1, .cells 86 (s.ds.map .d))]) (fun k => s.jobs.length - k) 0 ⟨by omega, by omega⟩ ?_ (SubO.cons rfl SubO.nil) (fun k hR => ?_) <;> (conv => whnf)
  · repeat' (first | exact trivial | (refine ⟨rfl, ?_⟩; conv => whnf))
  · obtain ⟨hk, hall⟩ := hR
    repeat' (first | (refine AWP.seq ?_) | ((first | refine AWP.region av_ok ?_ | refine AWP.ret ?_ | refine AWP.skip ?_ | refine AWP.exit ?_ | refine AWP.block ?_ | refine AWP.cond ?_ | refine AB.tt ?_ | refine AB.ff ?_); conv => whnf) | ((first | refine AB.ofT (by assumption) ?_ | refine AB.ofF (by assumption) ?_); conv => whnf) | (exact (trivial : True)) | (refine AIx.mapF (by simp only [decide_eq_true_eq, decide_eq_false_iff_not, List.length_map, Bool.not_eq_true', Bool.not_eq_false'] at *; omega) (fun hlt => ?_); conv => whnf) | (refine AW.i64 (by simp only [decide_eq_true_eq, decide_eq_false_iff_not, List.length_map, Bool.not_eq_true', Bool.not_eq_false'] at *; omega) (by simp only [decide_eq_true_eq, decide_eq_false_iff_not, List.length_map, Bool.not_eq_true', Bool.not_eq_false'] at *; omega) ?_; conv => whnf) | (exact trivial) | (refine And.intro rfl ?_; conv => whnf) | (refine AB.mk (fun h => ?_) (fun h => ?_) <;> (conv => whnf)) | (with_reducible_and_instances rfl) | (exact (rfl : AP.tup _ = AP.tup _)))
    all_goals first
      | (rw [stateOk_2 (k := k) (by simp only [decide_eq_true_eq, decide_eq_false_iff_not, List.length_map, Bool.not_eq_true', Bool.not_eq_false'] at *; omega) (by first | (simp_all; done) | (exfalso; assumption))]; done)
      | (refine ANext.mk ⟨k + 1, ⟨(by simp only [decide_eq_true_eq, decide_eq_false_iff_not, List.length_map, Bool.not_eq_true', Bool.not_eq_false'] at *; omega), step_all (p := fun j : DJob => decide (j.fired ≤ s.index)) hall (by simp only [decide_eq_true_eq, decide_eq_false_iff_not, List.length_map, Bool.not_eq_true', Bool.not_eq_false'] at *; omega) (by simp_all)⟩, (by simp only [decide_eq_true_eq, decide_eq_false_iff_not, List.length_map, Bool.not_eq_true', Bool.not_eq_false'] at *; omega), ?_, SubO.cons rfl SubO.nil⟩
         (conv => whnf); repeat' (first | exact trivial | (refine ⟨rfl, ?_⟩; conv => whnf)))
      | (rw [stateOk_yes hyes (end_all (p := fun j : DJob => decide (j.fired ≤ s.index)) hall (by simp only [decide_eq_true_eq, decide_eq_false_iff_not, List.length_map, Bool.not_eq_true', Bool.not_eq_false'] at *; omega))])
theorem sStateOk_p (s : DState) (hs : s.pairs.length ≤ 9223372036854775806) : PCall av 166 [.agg s.ds] (rB (stateOk s)) := by
  refine pcall_of av_ok Tryz.func166 rfl Tryz.call166 Tryz.ntmps166 (congrArg Array.toList Tryz.results166) fun S => ?_; conv => whnf
  repeat' (first | (refine AWP.seq ?_) | ((first | refine AWP.region av_ok ?_ | refine AWP.ret ?_ | refine AWP.skip ?_ | refine AWP.exit ?_ | refine AWP.block ?_ | refine AWP.cond ?_ | refine AB.tt ?_ | refine AB.ff ?_); conv => whnf) | ((first | refine AB.ofT (by assumption) ?_ | refine AB.ofF (by assumption) ?_); conv => whnf) | (refine ACall.pure (sl1In_p _ _ _) rfl ?_; conv => whnf) | (refine AFCall.mk ⟨_, _, sl1In_p _ _ _, .inl rfl, ?_⟩; conv => whnf) | (refine ACall.pure (sl16Time_p _) rfl ?_; conv => whnf) | (refine AFCall.mk ⟨_, _, sl16Time_p _, .inl rfl, ?_⟩; conv => whnf) | (refine ACall.pure (sPairsOk_p s.pairs) rfl ?_; conv => whnf) | (refine AFCall.mk ⟨_, _, sPairsOk_p s.pairs, .inl rfl, ?_⟩; conv => whnf) | (refine ACall.pure (sJobsOk_p s.jobs) rfl ?_; conv => whnf) | (refine AFCall.mk ⟨_, _, sJobsOk_p s.jobs, .inl rfl, ?_⟩; conv => whnf) | (refine ACall.pure (sLeaseOk_p s.lease) rfl ?_; conv => whnf) | (refine AFCall.mk ⟨_, _, sLeaseOk_p s.lease, .inl rfl, ?_⟩; conv => whnf) | (exact trivial) | (refine And.intro rfl ?_; conv => whnf) | (refine AB.mk (fun h => ?_) (fun h => ?_) <;> (conv => whnf)) | (with_reducible_and_instances rfl) | (exact (rfl : AP.tup _ = AP.tup _)))
  all_goals first
    | (rw [stateOk_1 (by first | (simp_all [tOk]; done) | (exfalso; assumption))]; done)
    | skip
  have hyes : (betweenB s.index 0 2000 && tOk s.time && pairsOk s.pairs && jobsOk s.jobs && leaseOk s.lease) = true := by simp_all [tOk]
  have h8 : s.jobs.length ≤ 8 := jobs_le (by simp_all)
  refine AWP.loopS (fun k : Nat => k ≤ s.jobs.length ∧ ∀ (j : Nat) (hj : j < k) (hl : j < s.jobs.length), decide (s.jobs[j].fired ≤ s.index) = true) [2, 3, 32, 33, 34, 35, 36, 37, 38, 39, 40, 41, 42, 43, 44, 45, 46, 47] (fun k => [(3, vI .i64 (k : Int))]) (fun _ => [(1, .cells 86 (s.ds.map .d))]) (fun k => s.jobs.length - k) 0 ⟨by omega, by omega⟩ ?_ (SubO.cons rfl SubO.nil) (fun k hR => ?_) <;> (conv => whnf)
  · repeat' (first | exact trivial | (refine ⟨rfl, ?_⟩; conv => whnf))
  · obtain ⟨hk, hall⟩ := hR
    repeat' (first | (refine AWP.seq ?_) | ((first | refine AWP.region av_ok ?_ | refine AWP.ret ?_ | refine AWP.skip ?_ | refine AWP.exit ?_ | refine AWP.block ?_ | refine AWP.cond ?_ | refine AB.tt ?_ | refine AB.ff ?_); conv => whnf) | ((first | refine AB.ofT (by assumption) ?_ | refine AB.ofF (by assumption) ?_); conv => whnf) | (refine AWP.drawK av_ok 6 8 dk_WB3_spec_StateOk_6 fk_WB3_spec_StateOk_6 (by kernel_rfl) (by kernel_rfl) (by kernel_rfl) rfl ?_; conv => whnf) | (refine AIx.mapF (by simp only [decide_eq_true_eq, decide_eq_false_iff_not, List.length_map, Bool.not_eq_true', Bool.not_eq_false'] at *; omega) (fun hlt => ?_); conv => whnf) | (refine AW.i64 (by simp only [decide_eq_true_eq, decide_eq_false_iff_not, List.length_map, Bool.not_eq_true', Bool.not_eq_false'] at *; omega) (by simp only [decide_eq_true_eq, decide_eq_false_iff_not, List.length_map, Bool.not_eq_true', Bool.not_eq_false'] at *; omega) ?_; conv => whnf) | (exact trivial) | (refine And.intro rfl ?_; conv => whnf) | (refine AB.mk (fun h => ?_) (fun h => ?_) <;> (conv => whnf)) | (with_reducible_and_instances rfl) | (exact (rfl : AP.tup _ = AP.tup _)))
    all_goals first
      | (rw [stateOk_2 (k := k) (by simp only [decide_eq_true_eq, decide_eq_false_iff_not, List.length_map, Bool.not_eq_true', Bool.not_eq_false'] at *; omega) (by first | (simp_all; done) | (exfalso; assumption))]; done)
      | (refine ANext.mk ⟨k + 1, ⟨(by simp only [decide_eq_true_eq, decide_eq_false_iff_not, List.length_map, Bool.not_eq_true', Bool.not_eq_false'] at *; omega), step_all (p := fun j : DJob => decide (j.fired ≤ s.index)) hall (by simp only [decide_eq_true_eq, decide_eq_false_iff_not, List.length_map, Bool.not_eq_true', Bool.not_eq_false'] at *; omega) (by simp_all)⟩, (by simp only [decide_eq_true_eq, decide_eq_false_iff_not, List.length_map, Bool.not_eq_true', Bool.not_eq_false'] at *; omega), ?_, SubO.cons rfl SubO.nil⟩
         (conv => whnf); repeat' (first | exact trivial | (refine ⟨rfl, ?_⟩; conv => whnf)))
      | (rw [stateOk_yes hyes (end_all (p := fun j : DJob => decide (j.fired ≤ s.index)) hall (by simp only [decide_eq_true_eq, decide_eq_false_iff_not, List.length_map, Bool.not_eq_true', Bool.not_eq_false'] at *; omega))])
theorem iSamePairs_p (a b : List DPair) (ha : a.length ≤ 9223372036854775806) (hb : b.length ≤ 9223372036854775806) : PCall av 203 [.one (.sl (a.map DPair.ds)), .one (.sl (b.map DPair.ds))] (rB (pairsOk a && pairsOk b && decide (a = b))) := by
  refine pcall_of av_ok Tryz.func203 rfl Tryz.call203 Tryz.ntmps203 (congrArg Array.toList Tryz.results203) fun S => ?_; conv => whnf
  repeat' (first | (refine AWP.seq ?_) | ((first | refine AWP.region av_ok ?_ | refine AWP.ret ?_ | refine AWP.skip ?_ | refine AWP.exit ?_ | refine AWP.block ?_ | refine AWP.cond ?_ | refine AB.tt ?_ | refine AB.ff ?_); conv => whnf) | ((first | refine AB.ofT (by assumption) ?_ | refine AB.ofF (by assumption) ?_); conv => whnf) | (refine ACall.pure (iPairsOk_p a ha) rfl ?_; conv => whnf) | (refine AFCall.mk ⟨_, _, iPairsOk_p a ha, .inl rfl, ?_⟩; conv => whnf) | (refine ACall.pure (iPairsOk_p b hb) rfl ?_; conv => whnf) | (refine AFCall.mk ⟨_, _, iPairsOk_p b hb, .inl rfl, ?_⟩; conv => whnf) | (refine ACall.pure (slEqPair_p a b ha) rfl ?_; conv => whnf) | (refine AFCall.mk ⟨_, _, slEqPair_p a b ha, .inl rfl, ?_⟩; conv => whnf) | (exact trivial) | (refine And.intro rfl ?_; conv => whnf) | (refine AB.mk (fun h => ?_) (fun h => ?_) <;> (conv => whnf)) | (with_reducible_and_instances rfl) | (exact (rfl : AP.tup _ = AP.tup _)))
  all_goals
    refine rB_of ?_
    simp_all
theorem iSameJobs_p (a b : List DJob) (ha : a.length ≤ 9223372036854775806) : PCall av 204 [.one (.sl (a.map DJob.ds)), .one (.sl (b.map DJob.ds))] (rB (jobsOk a && jobsOk b && decide (a = b))) := by
  refine pcall_of av_ok Tryz.func204 rfl Tryz.call204 Tryz.ntmps204 (congrArg Array.toList Tryz.results204) fun S => ?_; conv => whnf
  repeat' (first | (refine AWP.seq ?_) | ((first | refine AWP.region av_ok ?_ | refine AWP.ret ?_ | refine AWP.skip ?_ | refine AWP.exit ?_ | refine AWP.block ?_ | refine AWP.cond ?_ | refine AB.tt ?_ | refine AB.ff ?_); conv => whnf) | ((first | refine AB.ofT (by assumption) ?_ | refine AB.ofF (by assumption) ?_); conv => whnf) | (refine ACall.pure (iJobsOk_p a) rfl ?_; conv => whnf) | (refine AFCall.mk ⟨_, _, iJobsOk_p a, .inl rfl, ?_⟩; conv => whnf) | (refine ACall.pure (iJobsOk_p b) rfl ?_; conv => whnf) | (refine AFCall.mk ⟨_, _, iJobsOk_p b, .inl rfl, ?_⟩; conv => whnf) | (refine ACall.pure (slEqJob_p a b ha) rfl ?_; conv => whnf) | (refine AFCall.mk ⟨_, _, slEqJob_p a b ha, .inl rfl, ?_⟩; conv => whnf) | (exact trivial) | (refine And.intro rfl ?_; conv => whnf) | (refine AB.mk (fun h => ?_) (fun h => ?_) <;> (conv => whnf)) | (with_reducible_and_instances rfl) | (exact (rfl : AP.tup _ = AP.tup _)))
  all_goals
    refine rB_of ?_
    simp_all
theorem sSamePairs_p (a b : List DPair) (ha : a.length ≤ 9223372036854775806) : PCall av 223 [.one (.sl (a.map DPair.ds)), .one (.sl (b.map DPair.ds))] (rB (pairsOk a && pairsOk b && decide (a = b))) := by
  refine pcall_of av_ok Tryz.func223 rfl Tryz.call223 Tryz.ntmps223 (congrArg Array.toList Tryz.results223) fun S => ?_; conv => whnf
  repeat' (first | (refine AWP.seq ?_) | ((first | refine AWP.region av_ok ?_ | refine AWP.ret ?_ | refine AWP.skip ?_ | refine AWP.exit ?_ | refine AWP.block ?_ | refine AWP.cond ?_ | refine AB.tt ?_ | refine AB.ff ?_); conv => whnf) | ((first | refine AB.ofT (by assumption) ?_ | refine AB.ofF (by assumption) ?_); conv => whnf) | (refine ACall.pure (sPairsOk_p a) rfl ?_; conv => whnf) | (refine AFCall.mk ⟨_, _, sPairsOk_p a, .inl rfl, ?_⟩; conv => whnf) | (refine ACall.pure (sPairsOk_p b) rfl ?_; conv => whnf) | (refine AFCall.mk ⟨_, _, sPairsOk_p b, .inl rfl, ?_⟩; conv => whnf) | (exact trivial) | (refine And.intro rfl ?_; conv => whnf) | (refine AB.mk (fun h => ?_) (fun h => ?_) <;> (conv => whnf)) | (with_reducible_and_instances rfl) | (exact (rfl : AP.tup _ = AP.tup _)))
  · refine rB_of ?_
    have e : pairsOk a = false := by simp_all
    rw [e]; rfl
  · refine rB_of ?_
    have e : pairsOk b = false := by simp_all
    rw [e, Bool.and_false]; rfl
  · rw [ne_len (by simp only [bne_iff_ne, ne_eq, decide_eq_true_eq, decide_eq_false_iff_not, List.length_map, bne_eq_false_iff_eq] at *; omega), Bool.and_false]
  · have hlen : a.length = b.length := (by simp only [bne_iff_ne, ne_eq, decide_eq_true_eq, decide_eq_false_iff_not, List.length_map, bne_eq_false_iff_eq] at *; omega)
    have ea : pairsOk a = true := by simp_all
    have eb : pairsOk b = true := by simp_all
    rw [ea, eb]
    refine AWP.loopS (fun k : Nat => k ≤ a.length ∧ ∀ (j : Nat) (hj : j < k) (h1 : j < a.length) (h2 : j < b.length), a[j] = b[j]) [4, 5, 21, 22, 23, 24, 25, 26, 27, 28, 29, 30, 31, 32, 33, 34, 35] (fun k => [(5, vI .i64 (k : Int))]) (fun _ => []) (fun k => a.length - k) 0 ⟨by omega, by omega⟩ ?_ SubO.nil (fun k hR => ?_) <;> (conv => whnf)
    · repeat' (first | exact trivial | (refine ⟨rfl, ?_⟩; conv => whnf))
    · obtain ⟨hk, hall⟩ := hR
      repeat' (first | (refine AWP.seq ?_) | ((first | refine AWP.region av_ok ?_ | refine AWP.ret ?_ | refine AWP.skip ?_ | refine AWP.exit ?_ | refine AWP.block ?_ | refine AWP.cond ?_ | refine AB.tt ?_ | refine AB.ff ?_); conv => whnf) | ((first | refine AB.ofT (by assumption) ?_ | refine AB.ofF (by assumption) ?_); conv => whnf) | (refine AWP.drawK av_ok 6 8 dk_WB3_spec_SamePairs_6 fk_WB3_spec_SamePairs_6 (by kernel_rfl) (by kernel_rfl) (by kernel_rfl) rfl ?_; conv => whnf) | (refine AIx.mapF (by simp only [decide_eq_true_eq, decide_eq_false_iff_not, List.length_map, Bool.not_eq_true', Bool.not_eq_false'] at *; omega) (fun hlt => ?_); conv => whnf) | (refine AW.i64 (by simp only [decide_eq_true_eq, decide_eq_false_iff_not, List.length_map, Bool.not_eq_true', Bool.not_eq_false'] at *; omega) (by simp only [decide_eq_true_eq, decide_eq_false_iff_not, List.length_map, Bool.not_eq_true', Bool.not_eq_false'] at *; omega) ?_; conv => whnf) | (refine AFRd.eqs (neqPair_at _ _) rfl rfl rfl rfl rfl ?_; conv => whnf) | (refine AOp.eqs (neqPair_at _ _) rfl rfl rfl rfl rfl ?_; conv => whnf) | (exact trivial) | (refine And.intro rfl ?_; conv => whnf) | (refine AB.mk (fun h => ?_) (fun h => ?_) <;> (conv => whnf)) | (with_reducible_and_instances rfl) | (exact (rfl : AP.tup _ = AP.tup _)))
      all_goals first
        | (rw [ne_at (k := k) (by simp only [decide_eq_true_eq, decide_eq_false_iff_not, List.length_map, Bool.not_eq_true', Bool.not_eq_false'] at *; omega) (by simp only [decide_eq_true_eq, decide_eq_false_iff_not, List.length_map, Bool.not_eq_true', Bool.not_eq_false'] at *; omega) (by first | (simpa using h) | (exfalso; assumption)), Bool.and_false]; done)
        | (refine ANext.mk ⟨k + 1, ⟨(by simp only [decide_eq_true_eq, decide_eq_false_iff_not, List.length_map, Bool.not_eq_true', Bool.not_eq_false'] at *; omega), step_eq hall fun h1 h2 => by simpa using h⟩, (by simp only [decide_eq_true_eq, decide_eq_false_iff_not, List.length_map, Bool.not_eq_true', Bool.not_eq_false'] at *; omega), ?_, SubO.nil⟩
           (conv => whnf); repeat' (first | exact trivial | (refine ⟨rfl, ?_⟩; conv => whnf)))
        | (have hkk : k = a.length := (by simp only [decide_eq_true_eq, decide_eq_false_iff_not, List.length_map, Bool.not_eq_true', Bool.not_eq_false'] at *; omega)
           rw [eq_all hlen fun j h1 h2 => hall j (by omega) h1 h2]; rfl)
theorem sSameJobs_p (a b : List DJob) (ha : a.length ≤ 9223372036854775806) : PCall av 224 [.one (.sl (a.map DJob.ds)), .one (.sl (b.map DJob.ds))] (rB (jobsOk a && jobsOk b && decide (a = b))) := by
  refine pcall_of av_ok Tryz.func224 rfl Tryz.call224 Tryz.ntmps224 (congrArg Array.toList Tryz.results224) fun S => ?_; conv => whnf
  repeat' (first | (refine AWP.seq ?_) | ((first | refine AWP.region av_ok ?_ | refine AWP.ret ?_ | refine AWP.skip ?_ | refine AWP.exit ?_ | refine AWP.block ?_ | refine AWP.cond ?_ | refine AB.tt ?_ | refine AB.ff ?_); conv => whnf) | ((first | refine AB.ofT (by assumption) ?_ | refine AB.ofF (by assumption) ?_); conv => whnf) | (refine ACall.pure (sJobsOk_p a) rfl ?_; conv => whnf) | (refine AFCall.mk ⟨_, _, sJobsOk_p a, .inl rfl, ?_⟩; conv => whnf) | (refine ACall.pure (sJobsOk_p b) rfl ?_; conv => whnf) | (refine AFCall.mk ⟨_, _, sJobsOk_p b, .inl rfl, ?_⟩; conv => whnf) | (exact trivial) | (refine And.intro rfl ?_; conv => whnf) | (refine AB.mk (fun h => ?_) (fun h => ?_) <;> (conv => whnf)) | (with_reducible_and_instances rfl) | (exact (rfl : AP.tup _ = AP.tup _)))
  · refine rB_of ?_
    have e : jobsOk a = false := by simp_all
    rw [e]; rfl
  · refine rB_of ?_
    have e : jobsOk b = false := by simp_all
    rw [e, Bool.and_false]; rfl
  · rw [ne_len (by simp only [bne_iff_ne, ne_eq, decide_eq_true_eq, decide_eq_false_iff_not, List.length_map, bne_eq_false_iff_eq] at *; omega), Bool.and_false]
  · have hlen : a.length = b.length := (by simp only [bne_iff_ne, ne_eq, decide_eq_true_eq, decide_eq_false_iff_not, List.length_map, bne_eq_false_iff_eq] at *; omega)
    have ea : jobsOk a = true := by simp_all
    have eb : jobsOk b = true := by simp_all
    rw [ea, eb]
    refine AWP.loopS (fun k : Nat => k ≤ a.length ∧ ∀ (j : Nat) (hj : j < k) (h1 : j < a.length) (h2 : j < b.length), a[j] = b[j]) [4, 5, 21, 22, 23, 24, 25, 26, 27, 28, 29, 30, 31, 32, 33, 34, 35] (fun k => [(5, vI .i64 (k : Int))]) (fun _ => []) (fun k => a.length - k) 0 ⟨by omega, by omega⟩ ?_ SubO.nil (fun k hR => ?_) <;> (conv => whnf)
    · repeat' (first | exact trivial | (refine ⟨rfl, ?_⟩; conv => whnf))
    · obtain ⟨hk, hall⟩ := hR
      repeat' (first | (refine AWP.seq ?_) | ((first | refine AWP.region av_ok ?_ | refine AWP.ret ?_ | refine AWP.skip ?_ | refine AWP.exit ?_ | refine AWP.block ?_ | refine AWP.cond ?_ | refine AB.tt ?_ | refine AB.ff ?_); conv => whnf) | ((first | refine AB.ofT (by assumption) ?_ | refine AB.ofF (by assumption) ?_); conv => whnf) | (refine AWP.drawK av_ok 6 8 dk_WB3_spec_SameJobs_6 fk_WB3_spec_SameJobs_6 (by kernel_rfl) (by kernel_rfl) (by kernel_rfl) rfl ?_; conv => whnf) | (refine AIx.mapF (by simp only [decide_eq_true_eq, decide_eq_false_iff_not, List.length_map, Bool.not_eq_true', Bool.not_eq_false'] at *; omega) (fun hlt => ?_); conv => whnf) | (refine AW.i64 (by simp only [decide_eq_true_eq, decide_eq_false_iff_not, List.length_map, Bool.not_eq_true', Bool.not_eq_false'] at *; omega) (by simp only [decide_eq_true_eq, decide_eq_false_iff_not, List.length_map, Bool.not_eq_true', Bool.not_eq_false'] at *; omega) ?_; conv => whnf) | (refine AFRd.eqs (neqJob_at _ _) rfl rfl rfl rfl rfl ?_; conv => whnf) | (refine AOp.eqs (neqJob_at _ _) rfl rfl rfl rfl rfl ?_; conv => whnf) | (exact trivial) | (refine And.intro rfl ?_; conv => whnf) | (refine AB.mk (fun h => ?_) (fun h => ?_) <;> (conv => whnf)) | (with_reducible_and_instances rfl) | (exact (rfl : AP.tup _ = AP.tup _)))
      all_goals first
        | (rw [ne_at (k := k) (by simp only [decide_eq_true_eq, decide_eq_false_iff_not, List.length_map, Bool.not_eq_true', Bool.not_eq_false'] at *; omega) (by simp only [decide_eq_true_eq, decide_eq_false_iff_not, List.length_map, Bool.not_eq_true', Bool.not_eq_false'] at *; omega) (by first | (simpa using h) | (exfalso; assumption)), Bool.and_false]; done)
        | (refine ANext.mk ⟨k + 1, ⟨(by simp only [decide_eq_true_eq, decide_eq_false_iff_not, List.length_map, Bool.not_eq_true', Bool.not_eq_false'] at *; omega), step_eq hall fun h1 h2 => by simpa using h⟩, (by simp only [decide_eq_true_eq, decide_eq_false_iff_not, List.length_map, Bool.not_eq_true', Bool.not_eq_false'] at *; omega), ?_, SubO.nil⟩
           (conv => whnf); repeat' (first | exact trivial | (refine ⟨rfl, ?_⟩; conv => whnf)))
        | (have hkk : k = a.length := (by simp only [decide_eq_true_eq, decide_eq_false_iff_not, List.length_map, Bool.not_eq_true', Bool.not_eq_false'] at *; omega)
           rw [eq_all hlen fun j h1 h2 => hall j (by omega) h1 h2]; rfl)
theorem state_parts {s : DState} (h : stateOk s = true) : pairsOk s.pairs = true ∧ jobsOk s.jobs = true := by
  simp only [stateOk, Bool.and_eq_true] at h
  exact ⟨h.1.1.1.2, h.1.1.2⟩
theorem iSameState_p (a b : DState) (ha : a.pairs.length ≤ 9223372036854775806) (hb : b.pairs.length ≤ 9223372036854775806) (hj : a.jobs.length ≤ 9223372036854775806) : PCall av 136 [.agg a.ds, .agg b.ds] (rB (stateOk a && stateOk b && decide (a = b))) := by
  refine pcall_of av_ok Tryz.func136 rfl Tryz.call136 Tryz.ntmps136 (congrArg Array.toList Tryz.results136) fun S => ?_; conv => whnf
  repeat' (first | (refine AWP.seq ?_) | ((first | refine AWP.region av_ok ?_ | refine AWP.ret ?_ | refine AWP.skip ?_ | refine AWP.exit ?_ | refine AWP.block ?_ | refine AWP.cond ?_ | refine AB.tt ?_ | refine AB.ff ?_); conv => whnf) | ((first | refine AB.ofT (by assumption) ?_ | refine AB.ofF (by assumption) ?_); conv => whnf) | (refine ACall.pure (iStateOk_p a ha) rfl ?_; conv => whnf) | (refine AFCall.mk ⟨_, _, iStateOk_p a ha, .inl rfl, ?_⟩; conv => whnf) | (refine ACall.pure (iStateOk_p b hb) rfl ?_; conv => whnf) | (refine AFCall.mk ⟨_, _, iStateOk_p b hb, .inl rfl, ?_⟩; conv => whnf) | (refine ACall.pure (iSamePairs_p a.pairs b.pairs ha hb) rfl ?_; conv => whnf) | (refine AFCall.mk ⟨_, _, iSamePairs_p a.pairs b.pairs ha hb, .inl rfl, ?_⟩; conv => whnf) | (refine ACall.pure (iSameJobs_p a.jobs b.jobs hj) rfl ?_; conv => whnf) | (refine AFCall.mk ⟨_, _, iSameJobs_p a.jobs b.jobs hj, .inl rfl, ?_⟩; conv => whnf) | (refine AOp.eqs (eqlLease_at a.lease b.lease) rfl rfl rfl rfl rfl ?_; conv => whnf) | (exact trivial) | (refine And.intro rfl ?_; conv => whnf) | (refine AB.mk (fun h => ?_) (fun h => ?_) <;> (conv => whnf)) | (with_reducible_and_instances rfl) | (exact (rfl : AP.tup _ = AP.tup _)))
  all_goals
    refine rB_of ?_
    obtain ⟨i1, t1, p1, j1, l1⟩ := a
    obtain ⟨i2, t2, p2, j2, l2⟩ := b
    first
      | (have q1 := state_parts (s := ⟨i1, t1, p1, j1, l1⟩) (by assumption)
         have q2 := state_parts (s := ⟨i2, t2, p2, j2, l2⟩) (by assumption)
         simp_all [DState.mk.injEq]; done)
      | (have q1 := state_parts (s := ⟨i1, t1, p1, j1, l1⟩) (by assumption)
         have q2 := state_parts (s := ⟨i2, t2, p2, j2, l2⟩) (by assumption)
         simp_all [DState.mk.injEq]; rw [Bool.eq_iff_iff]; simp; done)
      | (simp_all [DState.mk.injEq]; done)
      | (simp_all [DState.mk.injEq]; rw [Bool.eq_iff_iff]; simp; done)
theorem sSameState_p (a b : DState) (ha : a.pairs.length ≤ 9223372036854775806) (hb : b.pairs.length ≤ 9223372036854775806) (hj : a.jobs.length ≤ 9223372036854775806) : PCall av 168 [.agg a.ds, .agg b.ds] (rB (stateOk a && stateOk b && decide (a = b))) := by
  refine pcall_of av_ok Tryz.func168 rfl Tryz.call168 Tryz.ntmps168 (congrArg Array.toList Tryz.results168) fun S => ?_; conv => whnf
  repeat' (first | (refine AWP.seq ?_) | ((first | refine AWP.region av_ok ?_ | refine AWP.ret ?_ | refine AWP.skip ?_ | refine AWP.exit ?_ | refine AWP.block ?_ | refine AWP.cond ?_ | refine AB.tt ?_ | refine AB.ff ?_); conv => whnf) | ((first | refine AB.ofT (by assumption) ?_ | refine AB.ofF (by assumption) ?_); conv => whnf) | (refine ACall.pure (sStateOk_p a ha) rfl ?_; conv => whnf) | (refine AFCall.mk ⟨_, _, sStateOk_p a ha, .inl rfl, ?_⟩; conv => whnf) | (refine ACall.pure (sStateOk_p b hb) rfl ?_; conv => whnf) | (refine AFCall.mk ⟨_, _, sStateOk_p b hb, .inl rfl, ?_⟩; conv => whnf) | (refine ACall.pure (sSamePairs_p a.pairs b.pairs ha) rfl ?_; conv => whnf) | (refine AFCall.mk ⟨_, _, sSamePairs_p a.pairs b.pairs ha, .inl rfl, ?_⟩; conv => whnf) | (refine ACall.pure (sSameJobs_p a.jobs b.jobs hj) rfl ?_; conv => whnf) | (refine AFCall.mk ⟨_, _, sSameJobs_p a.jobs b.jobs hj, .inl rfl, ?_⟩; conv => whnf) | (refine AOp.eqs (eqlLease_at a.lease b.lease) rfl rfl rfl rfl rfl ?_; conv => whnf) | (exact trivial) | (refine And.intro rfl ?_; conv => whnf) | (refine AB.mk (fun h => ?_) (fun h => ?_) <;> (conv => whnf)) | (with_reducible_and_instances rfl) | (exact (rfl : AP.tup _ = AP.tup _)))
  all_goals
    refine rB_of ?_
    obtain ⟨i1, t1, p1, j1, l1⟩ := a
    obtain ⟨i2, t2, p2, j2, l2⟩ := b
    first
      | (have q1 := state_parts (s := ⟨i1, t1, p1, j1, l1⟩) (by assumption)
         have q2 := state_parts (s := ⟨i2, t2, p2, j2, l2⟩) (by assumption)
         simp_all [DState.mk.injEq]; done)
      | (have q1 := state_parts (s := ⟨i1, t1, p1, j1, l1⟩) (by assumption)
         have q2 := state_parts (s := ⟨i2, t2, p2, j2, l2⟩) (by assumption)
         simp_all [DState.mk.injEq]; rw [Bool.eq_iff_iff]; simp; done)
      | (simp_all [DState.mk.injEq]; done)
      | (simp_all [DState.mk.injEq]; rw [Bool.eq_iff_iff]; simp; done)
theorem sNewState_p : PCall av 169 [] (.val (.agg state0.ds)) := by
  refine pcall_of av_ok Tryz.func169 rfl Tryz.call169 Tryz.ntmps169 (congrArg Array.toList Tryz.results169) fun S => ?_; conv => whnf
  repeat' (first | (refine AWP.seq ?_) | ((first | refine AWP.region av_ok ?_ | refine AWP.ret ?_ | refine AWP.skip ?_ | refine AWP.exit ?_ | refine AWP.block ?_ | refine AWP.cond ?_ | refine AB.tt ?_ | refine AB.ff ?_); conv => whnf) | ((first | refine AB.ofT (by assumption) ?_ | refine AB.ofF (by assumption) ?_); conv => whnf) | (exact trivial) | (refine And.intro rfl ?_; conv => whnf) | (refine AB.mk (fun h => ?_) (fun h => ?_) <;> (conv => whnf)) | (with_reducible_and_instances rfl) | (exact (rfl : AP.tup _ = AP.tup _)))
  all_goals rfl
theorem storeOk_3 {s : DStore} {b : Bool} (h : (shelfOk s.disk && stateOk s.state && betweenB s.num 0 1000000000 && betweenB s.last 0 s.state.index && ((s.num == 0) == (s.last == 0)) && (s.busy == 0 || (decide (s.num < 1000000000) && decide (s.last < s.busy) && decide (s.busy ≤ s.state.index)))) = b) : b = storeOk s := h.symm
theorem iStoreOk_p (s : DStore) (hs : s.state.pairs.length ≤ 9223372036854775806) : PCall av 134 [.agg s.ds] (rB (storeOk s)) := by
  refine pcall_of av_ok Tryz.func134 rfl Tryz.call134 Tryz.ntmps134 (congrArg Array.toList Tryz.results134) fun S => ?_; conv => whnf
  repeat' (first | (refine AWP.seq ?_) | ((first | refine AWP.region av_ok ?_ | refine AWP.ret ?_ | refine AWP.skip ?_ | refine AWP.exit ?_ | refine AWP.block ?_ | refine AWP.cond ?_ | refine AB.tt ?_ | refine AB.ff ?_); conv => whnf) | ((first | refine AB.ofT (by assumption) ?_ | refine AB.ofF (by assumption) ?_); conv => whnf) | (refine ACall.pure (iShelfOk_p s.disk) rfl ?_; conv => whnf) | (refine AFCall.mk ⟨_, _, iShelfOk_p s.disk, .inl rfl, ?_⟩; conv => whnf) | (refine ACall.pure (iStateOk_p s.state hs) rfl ?_; conv => whnf) | (refine AFCall.mk ⟨_, _, iStateOk_p s.state hs, .inl rfl, ?_⟩; conv => whnf) | (refine ACall.pure (ibetween_p _ _ _) rfl ?_; conv => whnf) | (refine AFCall.mk ⟨_, _, ibetween_p _ _ _, .inl rfl, ?_⟩; conv => whnf) | (exact trivial) | (refine And.intro rfl ?_; conv => whnf) | (refine AB.mk (fun h => ?_) (fun h => ?_) <;> (conv => whnf)) | (with_reducible_and_instances rfl) | (exact (rfl : AP.tup _ = AP.tup _)))
  all_goals
    refine rB_of (storeOk_3 ?_)
    first
      | (simp_all; done)
      | (simp_all; omega)
theorem sStoreOk_p (s : DStore) (hs : s.state.pairs.length ≤ 9223372036854775806) : PCall av 103 [.agg s.ds] (rB (storeOk s)) := by
  refine pcall_of av_ok Tryz.func103 rfl Tryz.call103 Tryz.ntmps103 (congrArg Array.toList Tryz.results103) fun S => ?_; conv => whnf
  repeat' (first | (refine AWP.seq ?_) | ((first | refine AWP.region av_ok ?_ | refine AWP.ret ?_ | refine AWP.skip ?_ | refine AWP.exit ?_ | refine AWP.block ?_ | refine AWP.cond ?_ | refine AB.tt ?_ | refine AB.ff ?_); conv => whnf) | ((first | refine AB.ofT (by assumption) ?_ | refine AB.ofF (by assumption) ?_); conv => whnf) | (refine AW.i64 (by simp_all [betweenB, stateOk]; omega) (by simp_all [betweenB, stateOk]; omega) ?_; conv => whnf) | (refine ACall.pure (sShelfOk_p s.disk) rfl ?_; conv => whnf) | (refine AFCall.mk ⟨_, _, sShelfOk_p s.disk, .inl rfl, ?_⟩; conv => whnf) | (refine ACall.pure (sStateOk_p s.state hs) rfl ?_; conv => whnf) | (refine AFCall.mk ⟨_, _, sStateOk_p s.state hs, .inl rfl, ?_⟩; conv => whnf) | (refine ACall.pure (sl1In_p _ _ _) rfl ?_; conv => whnf) | (refine AFCall.mk ⟨_, _, sl1In_p _ _ _, .inl rfl, ?_⟩; conv => whnf) | (exact trivial) | (refine And.intro rfl ?_; conv => whnf) | (refine AB.mk (fun h => ?_) (fun h => ?_) <;> (conv => whnf)) | (with_reducible_and_instances rfl) | (exact (rfl : AP.tup _ = AP.tup _)))
  all_goals
    refine rB_of (storeOk_3 ?_)
    first
      | (simp_all; done)
      | (simp_all; omega)
      | (simp_all [betweenB]; rw [Bool.eq_iff_iff]; simp; omega)
end Go.Proofs.YthmckpghadfeeaaGreat
