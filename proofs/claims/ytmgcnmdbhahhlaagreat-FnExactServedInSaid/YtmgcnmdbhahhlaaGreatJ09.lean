/- Joined: WB3 WB4 WB5 -/
import Derived.Test.YtmgcnmdbhahhlaaGreatJ08
import Derived.Test.YtmgcnmdbhahhlaaGreatJ02
set_option linter.unusedVariables false
set_option linter.unusedSimpArgs false
set_option maxRecDepth 100000
namespace Go.Proofs.YtmgcnmdbhahhlaaGreat
open Go.ChangeShapes Go.WideShapes Go.RowKit
def dk_WB3_spec_StateOk_6 : List (List Nat) := unqs [0, 1, 0, 8259, 1060930, 84414660, 0, 7, 26666395521543]
def fk_WB3_spec_StateOk_6 : List (List Nat) := unps 8 [5850, 5851, 5840, 5845, 5872, 5953, 728, 1457]
def dk_WB3_spec_SamePairs_6 : List (List Nat) := unqs [0, 0, 66, 12417, 0, 0, 326, 29061, 17663105454471]
def fk_WB3_spec_SamePairs_6 : List (List Nat) := unps 8 [6486, 6482, 6484, 6493, 566, 242, 404, 1133]
def dk_WB3_spec_SameJobs_6 : List (List Nat) := unqs [0, 0, 66, 12417, 0, 0, 326, 29061, 17663105454471]
def fk_WB3_spec_SameJobs_6 : List (List Nat) := unps 8 [6486, 6482, 6484, 6493, 566, 242, 404, 1133]

theorem stateOk_1 {s : DState} (h : (betweenB s.index 0 2000 && tOk s.time && pairsOk s.pairs && jobsOk s.jobs && leaseOk s.lease) = false) : stateOk s = false := by simp only [stateOk, h, Bool.false_and]
theorem stateOk_2 {s : DState} {k : Nat} (hk : k < s.jobs.length) (h : decide (s.jobs[k].fired ≤ s.index) = false) : stateOk s = false := by
  have := all_no (p := fun j : DJob => decide (j.fired ≤ s.index)) hk h
  simp only [stateOk, this, Bool.and_false]
theorem stateOk_yes {s : DState} (h : (betweenB s.index 0 2000 && tOk s.time && pairsOk s.pairs && jobsOk s.jobs && leaseOk s.lease) = true) (hj : s.jobs.all (fun j => decide (j.fired ≤ s.index)) = true) : stateOk s = true := by simp only [stateOk, h, hj, Bool.and_self]
theorem jobs_le {l : List DJob} (h : jobsOk l = true) : l.length ≤ 8 := by
  simp only [jobsOk, Bool.and_eq_true, decide_eq_true_eq] at h
  exact h.1.1.1
theorem iStateOk_p (s : DState) (hs : s.pairs.length ≤ 9223372036854775806) : PCall av 285 [.agg s.ds] (rB (stateOk s)) := by
  refine pcall_of av_ok Tryz.func285 rfl Tryz.call285 Tryz.ntmps285 (congrArg Array.toList Tryz.results285) fun S => ?_; conv => whnf
  repeat' (first | (refine aw0 ?_) | ((first | refine aw1 ?_ | refine aw2 ?_ | refine aw3 ?_ | refine aw4 ?_ | refine aw5 ?_ | refine aw6 ?_ | refine aw7 ?_ | refine aw8 ?_); conv => whnf) | ((first | refine bT ?_ | refine bF ?_); conv => whnf) | (refine ACall.pure (ibetween_p _ _ _) rfl ?_; conv => whnf) | (refine AFCall.mk ⟨_, _, ibetween_p _ _ _, .inl rfl, ?_⟩; conv => whnf) | (refine ACall.pure (iTimeOk_p _) rfl ?_; conv => whnf) | (refine AFCall.mk ⟨_, _, iTimeOk_p _, .inl rfl, ?_⟩; conv => whnf) | (refine ACall.pure (iPairsOk_p s.pairs hs) rfl ?_; conv => whnf) | (refine AFCall.mk ⟨_, _, iPairsOk_p s.pairs hs, .inl rfl, ?_⟩; conv => whnf) | (refine ACall.pure (iJobsOk_p s.jobs) rfl ?_; conv => whnf) | (refine AFCall.mk ⟨_, _, iJobsOk_p s.jobs, .inl rfl, ?_⟩; conv => whnf) | (refine ACall.pure (iLeaseOk_p s.lease) rfl ?_; conv => whnf) | (refine AFCall.mk ⟨_, _, iLeaseOk_p s.lease, .inl rfl, ?_⟩; conv => whnf) | (exact rr) | (refine And.intro rfl ?_; conv => whnf) | (refine AB.mk (fun h => ?_) (fun h => ?_) <;> (conv => whnf)))
  all_goals first
    | (rw [stateOk_1 (by first | (simp_all [tOk]; done) | (exfalso; assumption))]; done)
    | skip
  have hyes : (betweenB s.index 0 2000 && tOk s.time && pairsOk s.pairs && jobsOk s.jobs && leaseOk s.lease) = true := by simp_all [tOk]
  have h8 : s.jobs.length ≤ 8 := jobs_le (by simp_all)
  refine AWP.loopS (fun k : Nat => k ≤ s.jobs.length ∧ ∀ (j : Nat) (hj : j < k) (hl : j < s.jobs.length), decide (s.jobs[j].fired ≤ s.index) = true) [2, 4, 36, 37, 38, 39, 40, 41, 42, 43, 44, 45] (fun k => [(36, vI .i64 (k : Int))]) (fun _ => [(1, .cells 86 (s.ds.map .d))]) (fun k => s.jobs.length - k) 0 ⟨by omega, by omega⟩ ?_ (SubO.cons rfl SubO.nil) (fun k hR => ?_) <;> (conv => whnf)
  · exact whd
  · obtain ⟨hk, hall⟩ := hR
    repeat' (first | (refine aw0 ?_) | ((first | refine aw1 ?_ | refine aw2 ?_ | refine aw3 ?_ | refine aw4 ?_ | refine aw5 ?_ | refine aw6 ?_ | refine aw7 ?_ | refine aw8 ?_); conv => whnf) | ((first | refine bT ?_ | refine bF ?_); conv => whnf) | (exact (trivial : True)) | (refine AIx.mapF ari (fun hlt => ?_); conv => whnf) | (refine AW.i64 ari ari ?_; conv => whnf) | (exact rr) | (refine And.intro rfl ?_; conv => whnf) | (refine AB.mk (fun h => ?_) (fun h => ?_) <;> (conv => whnf)))
    all_goals first
      | (rw [stateOk_2 (k := k) ari (by first | (simp_all; done) | (exfalso; assumption))]; done)
      | (refine ANext.mk ⟨k + 1, ⟨ari, step_all (p := fun j : DJob => decide (j.fired ≤ s.index)) hall ari (by simp_all)⟩, ari, ?_, SubO.cons rfl SubO.nil⟩
         exact hds)
      | (rw [stateOk_yes hyes (end_all (p := fun j : DJob => decide (j.fired ≤ s.index)) hall ari)])
theorem sStateOk_p (s : DState) (hs : s.pairs.length ≤ 9223372036854775806) : PCall av 254 [.agg s.ds] (rB (stateOk s)) := by
  refine pcall_of av_ok Tryz.func254 rfl Tryz.call254 Tryz.ntmps254 (congrArg Array.toList Tryz.results254) fun S => ?_; conv => whnf
  repeat' (first | (refine aw0 ?_) | ((first | refine aw1 ?_ | refine aw2 ?_ | refine aw3 ?_ | refine aw4 ?_ | refine aw5 ?_ | refine aw6 ?_ | refine aw7 ?_ | refine aw8 ?_); conv => whnf) | ((first | refine bT ?_ | refine bF ?_); conv => whnf) | (refine ACall.pure (sl1In_p _ _ _) rfl ?_; conv => whnf) | (refine AFCall.mk ⟨_, _, sl1In_p _ _ _, .inl rfl, ?_⟩; conv => whnf) | (refine ACall.pure (sl16Time_p _) rfl ?_; conv => whnf) | (refine AFCall.mk ⟨_, _, sl16Time_p _, .inl rfl, ?_⟩; conv => whnf) | (refine ACall.pure (sPairsOk_p s.pairs) rfl ?_; conv => whnf) | (refine AFCall.mk ⟨_, _, sPairsOk_p s.pairs, .inl rfl, ?_⟩; conv => whnf) | (refine ACall.pure (sJobsOk_p s.jobs) rfl ?_; conv => whnf) | (refine AFCall.mk ⟨_, _, sJobsOk_p s.jobs, .inl rfl, ?_⟩; conv => whnf) | (refine ACall.pure (sLeaseOk_p s.lease) rfl ?_; conv => whnf) | (refine AFCall.mk ⟨_, _, sLeaseOk_p s.lease, .inl rfl, ?_⟩; conv => whnf) | (exact rr) | (refine And.intro rfl ?_; conv => whnf) | (refine AB.mk (fun h => ?_) (fun h => ?_) <;> (conv => whnf)))
  all_goals first
    | (rw [stateOk_1 (by first | (simp_all [tOk]; done) | (exfalso; assumption))]; done)
    | skip
  have hyes : (betweenB s.index 0 2000 && tOk s.time && pairsOk s.pairs && jobsOk s.jobs && leaseOk s.lease) = true := by simp_all [tOk]
  have h8 : s.jobs.length ≤ 8 := jobs_le (by simp_all)
  refine AWP.loopS (fun k : Nat => k ≤ s.jobs.length ∧ ∀ (j : Nat) (hj : j < k) (hl : j < s.jobs.length), decide (s.jobs[j].fired ≤ s.index) = true) [2, 3, 32, 33, 34, 35, 36, 37, 38, 39, 40, 41, 42, 43, 44, 45, 46, 47] (fun k => [(3, vI .i64 (k : Int))]) (fun _ => [(1, .cells 86 (s.ds.map .d))]) (fun k => s.jobs.length - k) 0 ⟨by omega, by omega⟩ ?_ (SubO.cons rfl SubO.nil) (fun k hR => ?_) <;> (conv => whnf)
  · exact whd
  · obtain ⟨hk, hall⟩ := hR
    repeat' (first | (refine aw0 ?_) | ((first | refine aw1 ?_ | refine aw2 ?_ | refine aw3 ?_ | refine aw4 ?_ | refine aw5 ?_ | refine aw6 ?_ | refine aw7 ?_ | refine aw8 ?_); conv => whnf) | ((first | refine bT ?_ | refine bF ?_); conv => whnf) | (refine AWP.drawK av_ok 6 8 dk_WB3_spec_StateOk_6 fk_WB3_spec_StateOk_6 (by kernel_rfl) (by kernel_rfl) (by kernel_rfl) rfl ?_; conv => whnf) | (refine AIx.mapF ari (fun hlt => ?_); conv => whnf) | (refine AW.i64 ari ari ?_; conv => whnf) | (exact rr) | (refine And.intro rfl ?_; conv => whnf) | (refine AB.mk (fun h => ?_) (fun h => ?_) <;> (conv => whnf)))
    all_goals first
      | (rw [stateOk_2 (k := k) ari (by first | (simp_all; done) | (exfalso; assumption))]; done)
      | (refine ANext.mk ⟨k + 1, ⟨ari, step_all (p := fun j : DJob => decide (j.fired ≤ s.index)) hall ari (by simp_all)⟩, ari, ?_, SubO.cons rfl SubO.nil⟩
         exact hds)
      | (rw [stateOk_yes hyes (end_all (p := fun j : DJob => decide (j.fired ≤ s.index)) hall ari)])
theorem iSamePairs_p (a b : List DPair) (ha : a.length ≤ 9223372036854775806) (hb : b.length ≤ 9223372036854775806) : PCall av 287 [.one (.sl (a.map DPair.ds)), .one (.sl (b.map DPair.ds))] (rB (pairsOk a && pairsOk b && decide (a = b))) := by
  refine pcall_of av_ok Tryz.func287 rfl Tryz.call287 Tryz.ntmps287 (congrArg Array.toList Tryz.results287) fun S => ?_; conv => whnf
  repeat' (first | (refine aw0 ?_) | ((first | refine aw1 ?_ | refine aw2 ?_ | refine aw3 ?_ | refine aw4 ?_ | refine aw5 ?_ | refine aw6 ?_ | refine aw7 ?_ | refine aw8 ?_); conv => whnf) | ((first | refine bT ?_ | refine bF ?_); conv => whnf) | (refine ACall.pure (iPairsOk_p a ha) rfl ?_; conv => whnf) | (refine AFCall.mk ⟨_, _, iPairsOk_p a ha, .inl rfl, ?_⟩; conv => whnf) | (refine ACall.pure (iPairsOk_p b hb) rfl ?_; conv => whnf) | (refine AFCall.mk ⟨_, _, iPairsOk_p b hb, .inl rfl, ?_⟩; conv => whnf) | (refine ACall.pure (slEqPair_p a b ha) rfl ?_; conv => whnf) | (refine AFCall.mk ⟨_, _, slEqPair_p a b ha, .inl rfl, ?_⟩; conv => whnf) | (exact rr) | (refine And.intro rfl ?_; conv => whnf) | (refine AB.mk (fun h => ?_) (fun h => ?_) <;> (conv => whnf)))
  all_goals
    refine rB_of ?_
    simp_all
theorem iSameJobs_p (a b : List DJob) (ha : a.length ≤ 9223372036854775806) : PCall av 288 [.one (.sl (a.map DJob.ds)), .one (.sl (b.map DJob.ds))] (rB (jobsOk a && jobsOk b && decide (a = b))) := by
  refine pcall_of av_ok Tryz.func288 rfl Tryz.call288 Tryz.ntmps288 (congrArg Array.toList Tryz.results288) fun S => ?_; conv => whnf
  repeat' (first | (refine aw0 ?_) | ((first | refine aw1 ?_ | refine aw2 ?_ | refine aw3 ?_ | refine aw4 ?_ | refine aw5 ?_ | refine aw6 ?_ | refine aw7 ?_ | refine aw8 ?_); conv => whnf) | ((first | refine bT ?_ | refine bF ?_); conv => whnf) | (refine ACall.pure (iJobsOk_p a) rfl ?_; conv => whnf) | (refine AFCall.mk ⟨_, _, iJobsOk_p a, .inl rfl, ?_⟩; conv => whnf) | (refine ACall.pure (iJobsOk_p b) rfl ?_; conv => whnf) | (refine AFCall.mk ⟨_, _, iJobsOk_p b, .inl rfl, ?_⟩; conv => whnf) | (refine ACall.pure (slEqJob_p a b ha) rfl ?_; conv => whnf) | (refine AFCall.mk ⟨_, _, slEqJob_p a b ha, .inl rfl, ?_⟩; conv => whnf) | (exact rr) | (refine And.intro rfl ?_; conv => whnf) | (refine AB.mk (fun h => ?_) (fun h => ?_) <;> (conv => whnf)))
  all_goals
    refine rB_of ?_
    simp_all
theorem sSamePairs_p (a b : List DPair) (ha : a.length ≤ 9223372036854775806) : PCall av 312 [.one (.sl (a.map DPair.ds)), .one (.sl (b.map DPair.ds))] (rB (pairsOk a && pairsOk b && decide (a = b))) := by
  refine pcall_of av_ok Tryz.func312 rfl Tryz.call312 Tryz.ntmps312 (congrArg Array.toList Tryz.results312) fun S => ?_; conv => whnf
  repeat' (first | (refine aw0 ?_) | ((first | refine aw1 ?_ | refine aw2 ?_ | refine aw3 ?_ | refine aw4 ?_ | refine aw5 ?_ | refine aw6 ?_ | refine aw7 ?_ | refine aw8 ?_); conv => whnf) | ((first | refine bT ?_ | refine bF ?_); conv => whnf) | (refine ACall.pure (sPairsOk_p a) rfl ?_; conv => whnf) | (refine AFCall.mk ⟨_, _, sPairsOk_p a, .inl rfl, ?_⟩; conv => whnf) | (refine ACall.pure (sPairsOk_p b) rfl ?_; conv => whnf) | (refine AFCall.mk ⟨_, _, sPairsOk_p b, .inl rfl, ?_⟩; conv => whnf) | (exact rr) | (refine And.intro rfl ?_; conv => whnf) | (refine AB.mk (fun h => ?_) (fun h => ?_) <;> (conv => whnf)))
  · refine rB_of ?_
    have e : pairsOk a = false := by simp_all
    rw [e]; rfl
  · refine rB_of ?_
    have e : pairsOk b = false := by simp_all
    rw [e, Bool.and_false]; rfl
  · rw [ne_len (by simp only [bne_iff_ne, ne_eq, decide_eq_true_eq, decide_eq_false_iff_not, List.length_map, bne_eq_false_iff_eq] at *; omega), Bool.and_false]
  · have hlen : a.length = b.length := (by simp only [bne_iff_ne, ne_eq, decide_eq_true_eq, decide_eq_false_iff_not, List.length_map, bne_eq_false_iff_eq] at *; omega)
    have ea : pairsOk a = true := by simp_all
    have eb : pairsOk b = true := by simp_all
    rw [ea, eb]
    refine AWP.loopS (fun k : Nat => k ≤ a.length ∧ ∀ (j : Nat) (hj : j < k) (h1 : j < a.length) (h2 : j < b.length), a[j] = b[j]) [4, 5, 21, 22, 23, 24, 25, 26, 27, 28, 29, 30, 31, 32, 33, 34, 35] (fun k => [(5, vI .i64 (k : Int))]) (fun _ => []) (fun k => a.length - k) 0 ⟨by omega, by omega⟩ ?_ SubO.nil (fun k hR => ?_) <;> (conv => whnf)
    · exact whd
    · obtain ⟨hk, hall⟩ := hR
      repeat' (first | (refine aw0 ?_) | ((first | refine aw1 ?_ | refine aw2 ?_ | refine aw3 ?_ | refine aw4 ?_ | refine aw5 ?_ | refine aw6 ?_ | refine aw7 ?_ | refine aw8 ?_); conv => whnf) | ((first | refine bT ?_ | refine bF ?_); conv => whnf) | (refine AWP.drawK av_ok 6 8 dk_WB3_spec_SamePairs_6 fk_WB3_spec_SamePairs_6 (by kernel_rfl) (by kernel_rfl) (by kernel_rfl) rfl ?_; conv => whnf) | (refine AIx.mapF ari (fun hlt => ?_); conv => whnf) | (refine AW.i64 ari ari ?_; conv => whnf) | (refine AFRd.eqs (neqPair_at _ _) rfl rfl rfl rfl rfl ?_; conv => whnf) | (refine AOp.eqs (neqPair_at _ _) rfl rfl rfl rfl rfl ?_; conv => whnf) | (exact rr) | (refine And.intro rfl ?_; conv => whnf) | (refine AB.mk (fun h => ?_) (fun h => ?_) <;> (conv => whnf)))
      all_goals first
        | (rw [ne_at (k := k) ari ari (by first | (simpa using h) | (exfalso; assumption)), Bool.and_false]; done)
        | (refine ANext.mk ⟨k + 1, ⟨ari, step_eq hall fun h1 h2 => by simpa using h⟩, ari, ?_, SubO.nil⟩
           exact hds)
        | (have hkk : k = a.length := ari
           rw [eq_all hlen fun j h1 h2 => hall j (by omega) h1 h2]; rfl)
theorem sSameJobs_p (a b : List DJob) (ha : a.length ≤ 9223372036854775806) : PCall av 313 [.one (.sl (a.map DJob.ds)), .one (.sl (b.map DJob.ds))] (rB (jobsOk a && jobsOk b && decide (a = b))) := by
  refine pcall_of av_ok Tryz.func313 rfl Tryz.call313 Tryz.ntmps313 (congrArg Array.toList Tryz.results313) fun S => ?_; conv => whnf
  repeat' (first | (refine aw0 ?_) | ((first | refine aw1 ?_ | refine aw2 ?_ | refine aw3 ?_ | refine aw4 ?_ | refine aw5 ?_ | refine aw6 ?_ | refine aw7 ?_ | refine aw8 ?_); conv => whnf) | ((first | refine bT ?_ | refine bF ?_); conv => whnf) | (refine ACall.pure (sJobsOk_p a) rfl ?_; conv => whnf) | (refine AFCall.mk ⟨_, _, sJobsOk_p a, .inl rfl, ?_⟩; conv => whnf) | (refine ACall.pure (sJobsOk_p b) rfl ?_; conv => whnf) | (refine AFCall.mk ⟨_, _, sJobsOk_p b, .inl rfl, ?_⟩; conv => whnf) | (exact rr) | (refine And.intro rfl ?_; conv => whnf) | (refine AB.mk (fun h => ?_) (fun h => ?_) <;> (conv => whnf)))
  · refine rB_of ?_
    have e : jobsOk a = false := by simp_all
    rw [e]; rfl
  · refine rB_of ?_
    have e : jobsOk b = false := by simp_all
    rw [e, Bool.and_false]; rfl
  · rw [ne_len (by simp only [bne_iff_ne, ne_eq, decide_eq_true_eq, decide_eq_false_iff_not, List.length_map, bne_eq_false_iff_eq] at *; omega), Bool.and_false]
  · have hlen : a.length = b.length := (by simp only [bne_iff_ne, ne_eq, decide_eq_true_eq, decide_eq_false_iff_not, List.length_map, bne_eq_false_iff_eq] at *; omega)
    have ea : jobsOk a = true := by simp_all
    have eb : jobsOk b = true := by simp_all
    rw [ea, eb]
    refine AWP.loopS (fun k : Nat => k ≤ a.length ∧ ∀ (j : Nat) (hj : j < k) (h1 : j < a.length) (h2 : j < b.length), a[j] = b[j]) [4, 5, 21, 22, 23, 24, 25, 26, 27, 28, 29, 30, 31, 32, 33, 34, 35] (fun k => [(5, vI .i64 (k : Int))]) (fun _ => []) (fun k => a.length - k) 0 ⟨by omega, by omega⟩ ?_ SubO.nil (fun k hR => ?_) <;> (conv => whnf)
    · exact whd
    · obtain ⟨hk, hall⟩ := hR
      repeat' (first | (refine aw0 ?_) | ((first | refine aw1 ?_ | refine aw2 ?_ | refine aw3 ?_ | refine aw4 ?_ | refine aw5 ?_ | refine aw6 ?_ | refine aw7 ?_ | refine aw8 ?_); conv => whnf) | ((first | refine bT ?_ | refine bF ?_); conv => whnf) | (refine AWP.drawK av_ok 6 8 dk_WB3_spec_SameJobs_6 fk_WB3_spec_SameJobs_6 (by kernel_rfl) (by kernel_rfl) (by kernel_rfl) rfl ?_; conv => whnf) | (refine AIx.mapF ari (fun hlt => ?_); conv => whnf) | (refine AW.i64 ari ari ?_; conv => whnf) | (refine AFRd.eqs (neqJob_at _ _) rfl rfl rfl rfl rfl ?_; conv => whnf) | (refine AOp.eqs (neqJob_at _ _) rfl rfl rfl rfl rfl ?_; conv => whnf) | (exact rr) | (refine And.intro rfl ?_; conv => whnf) | (refine AB.mk (fun h => ?_) (fun h => ?_) <;> (conv => whnf)))
      all_goals first
        | (rw [ne_at (k := k) ari ari (by first | (simpa using h) | (exfalso; assumption)), Bool.and_false]; done)
        | (refine ANext.mk ⟨k + 1, ⟨ari, step_eq hall fun h1 h2 => by simpa using h⟩, ari, ?_, SubO.nil⟩
           exact hds)
        | (have hkk : k = a.length := ari
           rw [eq_all hlen fun j h1 h2 => hall j (by omega) h1 h2]; rfl)
theorem state_parts {s : DState} (h : stateOk s = true) : pairsOk s.pairs = true ∧ jobsOk s.jobs = true := by
  simp only [stateOk, Bool.and_eq_true] at h
  exact ⟨h.1.1.1.2, h.1.1.2⟩
theorem iSameState_p (a b : DState) (ha : a.pairs.length ≤ 9223372036854775806) (hb : b.pairs.length ≤ 9223372036854775806) (hj : a.jobs.length ≤ 9223372036854775806) : PCall av 218 [.agg a.ds, .agg b.ds] (rB (stateOk a && stateOk b && decide (a = b))) := by
  refine pcall_of av_ok Tryz.func218 rfl Tryz.call218 Tryz.ntmps218 (congrArg Array.toList Tryz.results218) fun S => ?_; conv => whnf
  repeat' (first | (refine aw0 ?_) | ((first | refine aw1 ?_ | refine aw2 ?_ | refine aw3 ?_ | refine aw4 ?_ | refine aw5 ?_ | refine aw6 ?_ | refine aw7 ?_ | refine aw8 ?_); conv => whnf) | ((first | refine bT ?_ | refine bF ?_); conv => whnf) | (refine ACall.pure (iStateOk_p a ha) rfl ?_; conv => whnf) | (refine AFCall.mk ⟨_, _, iStateOk_p a ha, .inl rfl, ?_⟩; conv => whnf) | (refine ACall.pure (iStateOk_p b hb) rfl ?_; conv => whnf) | (refine AFCall.mk ⟨_, _, iStateOk_p b hb, .inl rfl, ?_⟩; conv => whnf) | (refine ACall.pure (iSamePairs_p a.pairs b.pairs ha hb) rfl ?_; conv => whnf) | (refine AFCall.mk ⟨_, _, iSamePairs_p a.pairs b.pairs ha hb, .inl rfl, ?_⟩; conv => whnf) | (refine ACall.pure (iSameJobs_p a.jobs b.jobs hj) rfl ?_; conv => whnf) | (refine AFCall.mk ⟨_, _, iSameJobs_p a.jobs b.jobs hj, .inl rfl, ?_⟩; conv => whnf) | (refine AOp.eqs (eqlLease_at a.lease b.lease) rfl rfl rfl rfl rfl ?_; conv => whnf) | (exact rr) | (refine And.intro rfl ?_; conv => whnf) | (refine AB.mk (fun h => ?_) (fun h => ?_) <;> (conv => whnf)))
  all_goals
    refine rB_of ?_
    obtain ⟨i1, t1, p1, j1, l1⟩ := a
    obtain ⟨i2, t2, p2, j2, l2⟩ := b
    first
      | (have q1 := state_parts (s := ⟨i1, t1, p1, j1, l1⟩) (by assumption)
         have q2 := state_parts (s := ⟨i2, t2, p2, j2, l2⟩) (by assumption)
         simp_all [DState.mk.injEq]; done)
      | (have q1 := state_parts (s := ⟨i1, t1, p1, j1, l1⟩) (by assumption)
         have q2 := state_parts (s := ⟨i2, t2, p2, j2, l2⟩) (by assumption)
         simp_all [DState.mk.injEq]; rw [Bool.eq_iff_iff]; simp; done)
      | (simp_all [DState.mk.injEq]; done)
      | (simp_all [DState.mk.injEq]; rw [Bool.eq_iff_iff]; simp; done)
theorem sSameState_p (a b : DState) (ha : a.pairs.length ≤ 9223372036854775806) (hb : b.pairs.length ≤ 9223372036854775806) (hj : a.jobs.length ≤ 9223372036854775806) : PCall av 256 [.agg a.ds, .agg b.ds] (rB (stateOk a && stateOk b && decide (a = b))) := by
  refine pcall_of av_ok Tryz.func256 rfl Tryz.call256 Tryz.ntmps256 (congrArg Array.toList Tryz.results256) fun S => ?_; conv => whnf
  repeat' (first | (refine aw0 ?_) | ((first | refine aw1 ?_ | refine aw2 ?_ | refine aw3 ?_ | refine aw4 ?_ | refine aw5 ?_ | refine aw6 ?_ | refine aw7 ?_ | refine aw8 ?_); conv => whnf) | ((first | refine bT ?_ | refine bF ?_); conv => whnf) | (refine ACall.pure (sStateOk_p a ha) rfl ?_; conv => whnf) | (refine AFCall.mk ⟨_, _, sStateOk_p a ha, .inl rfl, ?_⟩; conv => whnf) | (refine ACall.pure (sStateOk_p b hb) rfl ?_; conv => whnf) | (refine AFCall.mk ⟨_, _, sStateOk_p b hb, .inl rfl, ?_⟩; conv => whnf) | (refine ACall.pure (sSamePairs_p a.pairs b.pairs ha) rfl ?_; conv => whnf) | (refine AFCall.mk ⟨_, _, sSamePairs_p a.pairs b.pairs ha, .inl rfl, ?_⟩; conv => whnf) | (refine ACall.pure (sSameJobs_p a.jobs b.jobs hj) rfl ?_; conv => whnf) | (refine AFCall.mk ⟨_, _, sSameJobs_p a.jobs b.jobs hj, .inl rfl, ?_⟩; conv => whnf) | (refine AOp.eqs (eqlLease_at a.lease b.lease) rfl rfl rfl rfl rfl ?_; conv => whnf) | (exact rr) | (refine And.intro rfl ?_; conv => whnf) | (refine AB.mk (fun h => ?_) (fun h => ?_) <;> (conv => whnf)))
  all_goals
    refine rB_of ?_
    obtain ⟨i1, t1, p1, j1, l1⟩ := a
    obtain ⟨i2, t2, p2, j2, l2⟩ := b
    first
      | (have q1 := state_parts (s := ⟨i1, t1, p1, j1, l1⟩) (by assumption)
         have q2 := state_parts (s := ⟨i2, t2, p2, j2, l2⟩) (by assumption)
         simp_all [DState.mk.injEq]; done)
      | (have q1 := state_parts (s := ⟨i1, t1, p1, j1, l1⟩) (by assumption)
         have q2 := state_parts (s := ⟨i2, t2, p2, j2, l2⟩) (by assumption)
         simp_all [DState.mk.injEq]; rw [Bool.eq_iff_iff]; simp; done)
      | (simp_all [DState.mk.injEq]; done)
      | (simp_all [DState.mk.injEq]; rw [Bool.eq_iff_iff]; simp; done)
theorem sNewState_p : PCall av 257 [] (.val (.agg state0.ds)) := by
  refine pcall_of av_ok Tryz.func257 rfl Tryz.call257 Tryz.ntmps257 (congrArg Array.toList Tryz.results257) fun S => ?_; conv => whnf
  repeat' (first | (refine aw0 ?_) | ((first | refine aw1 ?_ | refine aw2 ?_ | refine aw3 ?_ | refine aw4 ?_ | refine aw5 ?_ | refine aw6 ?_ | refine aw7 ?_ | refine aw8 ?_); conv => whnf) | ((first | refine bT ?_ | refine bF ?_); conv => whnf) | (exact rr) | (refine And.intro rfl ?_; conv => whnf) | (refine AB.mk (fun h => ?_) (fun h => ?_) <;> (conv => whnf)))
  all_goals rfl
theorem storeOk_3 {s : DStore} {b : Bool} (h : (shelfOk s.disk && stateOk s.state && betweenB s.num 0 1000000000 && betweenB s.last 0 s.state.index && ((s.num == 0) == (s.last == 0)) && (s.busy == 0 || (decide (s.num < 1000000000) && decide (s.last < s.busy) && decide (s.busy ≤ s.state.index)))) = b) : b = storeOk s := h.symm
theorem iStoreOk_p (s : DStore) (hs : s.state.pairs.length ≤ 9223372036854775806) : PCall av 216 [.agg s.ds] (rB (storeOk s)) := by
  refine pcall_of av_ok Tryz.func216 rfl Tryz.call216 Tryz.ntmps216 (congrArg Array.toList Tryz.results216) fun S => ?_; conv => whnf
  repeat' (first | (refine aw0 ?_) | ((first | refine aw1 ?_ | refine aw2 ?_ | refine aw3 ?_ | refine aw4 ?_ | refine aw5 ?_ | refine aw6 ?_ | refine aw7 ?_ | refine aw8 ?_); conv => whnf) | ((first | refine bT ?_ | refine bF ?_); conv => whnf) | (refine ACall.pure (iShelfOk_p s.disk) rfl ?_; conv => whnf) | (refine AFCall.mk ⟨_, _, iShelfOk_p s.disk, .inl rfl, ?_⟩; conv => whnf) | (refine ACall.pure (iStateOk_p s.state hs) rfl ?_; conv => whnf) | (refine AFCall.mk ⟨_, _, iStateOk_p s.state hs, .inl rfl, ?_⟩; conv => whnf) | (refine ACall.pure (ibetween_p _ _ _) rfl ?_; conv => whnf) | (refine AFCall.mk ⟨_, _, ibetween_p _ _ _, .inl rfl, ?_⟩; conv => whnf) | (exact rr) | (refine And.intro rfl ?_; conv => whnf) | (refine AB.mk (fun h => ?_) (fun h => ?_) <;> (conv => whnf)))
  all_goals
    refine rB_of (storeOk_3 ?_)
    first
      | (simp_all; done)
      | (simp_all; omega)
theorem sStoreOk_p (s : DStore) (hs : s.state.pairs.length ≤ 9223372036854775806) : PCall av 185 [.agg s.ds] (rB (storeOk s)) := by
  refine pcall_of av_ok Tryz.func185 rfl Tryz.call185 Tryz.ntmps185 (congrArg Array.toList Tryz.results185) fun S => ?_; conv => whnf
  repeat' (first | (refine aw0 ?_) | ((first | refine aw1 ?_ | refine aw2 ?_ | refine aw3 ?_ | refine aw4 ?_ | refine aw5 ?_ | refine aw6 ?_ | refine aw7 ?_ | refine aw8 ?_); conv => whnf) | ((first | refine bT ?_ | refine bF ?_); conv => whnf) | (refine AW.i64 (by simp_all [betweenB, stateOk]; omega) (by simp_all [betweenB, stateOk]; omega) ?_; conv => whnf) | (refine ACall.pure (sShelfOk_p s.disk) rfl ?_; conv => whnf) | (refine AFCall.mk ⟨_, _, sShelfOk_p s.disk, .inl rfl, ?_⟩; conv => whnf) | (refine ACall.pure (sStateOk_p s.state hs) rfl ?_; conv => whnf) | (refine AFCall.mk ⟨_, _, sStateOk_p s.state hs, .inl rfl, ?_⟩; conv => whnf) | (refine ACall.pure (sl1In_p _ _ _) rfl ?_; conv => whnf) | (refine AFCall.mk ⟨_, _, sl1In_p _ _ _, .inl rfl, ?_⟩; conv => whnf) | (exact rr) | (refine And.intro rfl ?_; conv => whnf) | (refine AB.mk (fun h => ?_) (fun h => ?_) <;> (conv => whnf)))
  all_goals
    refine rB_of (storeOk_3 ?_)
    first
      | (simp_all; done)
      | (simp_all; omega)
      | (simp_all [betweenB]; rw [Bool.eq_iff_iff]; simp; omega)
end Go.Proofs.YtmgcnmdbhahhlaaGreat
namespace Go.Proofs.YtmgcnmdbhahhlaaGreat
open Go.ChangeShapes Go.WideShapes Go.RowKit
def dk_WB4_impl_JobsOk2_9 : List (List Nat) := unqs [0, 1, 129, 12354, 1056835, 84676740, 6510088389, 486455648518, 35601017745735, 1420639959544200, 182422663955222725, 12773057508086145546, 12773057508086145546, 970905742326030938443, 3674598465663765430186893, 214296344793583010436666252, 20043448135544716623136174411, 1360593728809283051758193795856, 92553623897107378771643345949393, 6252930518153901924192488793883666, 421307180612201082523824880478368851, 28313975464645083054128267548695790740, 421307180612201082523824880478368851, 30972431456214914799935881669256479892, 7776324311549306545480028705690995791844887, 565665440792314898885167755628818958089528598, 421307180612201082523824880478368851, 2406791985042823201691274050742470225704287041115, 166190669982267733666810070155792670210451560809882, 7589595446454492208365568010425794255677587611031260, 411214222190821752199510526821617712340966917935543444]
def fk_WB4_impl_JobsOk2_9 : List (List Nat) := unps 27 [0, 1, 4, 13, 40, 121, 364, 1093, 3280, 9841, 29524, 4340101, 442867, 974308, 2391484, 7174453, 21523360, 64570081, 193710244, 581130733, 5336523525730, 5340010310131, 5113369324066, 5144750383675, 5224946424898, 5507375961379, 2540122436128]
def dk_WB4_spec_l11Open_6 : List (List Nat) := unqs [0, 0, 66, 12417, 1052803, 84680772, 6509830341, 486455906566, 35601001230663, 35601001230663, 164122109978632714, 12864558999848899017, 895947530576690971275, 62214096053295717315148, 4288581010608110333633229, 156574859254327662432785166, 20081510041707290985360540040, 1356899553734770709485945406352, 92556059859101783530825705349649, 6252694090949133134287064896955410, 421307336513768724428412551479985235, 421307336513768724428412551479985235, 29643188329088893724478127479572726932, 115973981525213093280048416437421598131670, 8484542429884486294578280036455145361446101, 421307336513768724428412551479985235, 421307336513768724428412551479985235, 2237446419982627661829974766124422735131, 154770370026833647458333021132891313214682, 9478136593377203285270784258858039974432863023376092, 728993587567459518691010934350707305400695727828841817, 31086994452182876006794359805922655292521215753823303454, 1679760286856737015412416772989889414138560113444105565332]
def fk_WB4_spec_l11Open_6 : List (List Nat) := unps 29 [6, 2, 4, 13, 40, 121, 364, 1093, 42646, 16402, 29524, 88573, 265720, 797161, 2391484, 7174453, 21523360, 64570081, 193710244, 581130733, 67868514973264, 67791805716442, 67802266069645, 67830160344853, 67924303523680, 5929276873900, 2540122436128, 4234699655014, 11860297140001]
def dk_WB4_spec_l11Open_11 : List (List Nat) := unqs [0, 0, 66, 12417, 1052803, 0, 0, 391, 33222, 2384328, 90925286754906505]
def fk_WB4_spec_l11Open_11 : List (List Nat) := unps 10 [58812, 58808, 58810, 58819, 58846, 1700, 728, 1214, 3401, 9962]

theorem idueLess_p (x y : DDue) : PCall av 375 [.agg x.ds, .agg y.ds] (rB (dueLt x y)) := by
  refine pcall_of av_ok Tryz.func375 rfl Tryz.call375 Tryz.ntmps375 (congrArg Array.toList Tryz.results375) fun S => ?_; conv => whnf
  repeat' (first | (refine aw0 ?_) | ((first | refine aw1 ?_ | refine aw2 ?_ | refine aw3 ?_ | refine aw4 ?_ | refine aw5 ?_ | refine aw6 ?_ | refine aw7 ?_ | refine aw8 ?_); conv => whnf) | ((first | refine bT ?_ | refine bF ?_); conv => whnf) | (exact rr) | (refine And.intro rfl ?_; conv => whnf) | (refine AB.mk (fun h => ?_) (fun h => ?_) <;> (conv => whnf)))
  all_goals
    refine rB_of ?_
    first
      | (simp_all [dueLt]; done)
      | (simp_all [dueLt]; omega)
theorem sl11DueLess_p (x y : DDue) : PCall av 374 [.agg x.ds, .agg y.ds] (rB (dueLt x y)) := by
  refine pcall_of av_ok Tryz.func374 rfl Tryz.call374 Tryz.ntmps374 (congrArg Array.toList Tryz.results374) fun S => ?_; conv => whnf
  repeat' (first | (refine aw0 ?_) | ((first | refine aw1 ?_ | refine aw2 ?_ | refine aw3 ?_ | refine aw4 ?_ | refine aw5 ?_ | refine aw6 ?_ | refine aw7 ?_ | refine aw8 ?_); conv => whnf) | ((first | refine bT ?_ | refine bF ?_); conv => whnf) | (exact rr) | (refine And.intro rfl ?_; conv => whnf) | (refine AB.mk (fun h => ?_) (fun h => ?_) <;> (conv => whnf)))
  all_goals
    refine rB_of ?_
    first
      | (simp_all [dueLt]; done)
      | (simp_all [dueLt]; omega)
def opensOk (l : List DDue) : Bool := decide (l.length ≤ 8) && l.all dueOk && adjB dueLt l && apartAll dueEq l
theorem jobs2Ok_eq (j : DJobs) : jobs2Ok j = (betweenB j.index 0 2000 && tOk j.time && (j.holder == 0 || schedIs j.holder) && betweenB j.epoch 0 1000 && betweenB j.til 0 1001000 && opensOk j.opens) := by simp only [jobs2Ok, opensOk, Bool.and_assoc]
theorem opensOk_len {l : List DDue} (h : ¬ l.length ≤ 8) : opensOk l = false := by simp [opensOk, h]
theorem opensOk_chain {l : List DDue} {k : Nat} (hk : k < l.length) (h : chainAt dueOk dueLt l k hk = false) : opensOk l = false := by
  rcases Bool.and_eq_false_iff.1 (chain_no hk h) with h | h <;> simp only [opensOk, h, Bool.and_false, Bool.false_and]
theorem opensOk_dup {l : List DDue} {j k : Nat} (hj : j < k) (hk : k < l.length) (h : (l[j]'(by omega)).id = l[k].id) : opensOk l = false := by
  have := apartAll_no (R := dueEq) hj hk (by simp [dueEq, h])
  simp only [opensOk, this, Bool.and_false]
theorem opensOk_yes {l : List DDue} (h : l.length ≤ 8) (hc : (l.all dueOk && adjB dueLt l) = true) (hd : apartAll dueEq l = true) : opensOk l = true := by
  rw [Bool.and_eq_true] at hc
  simp only [opensOk, h, hc.1, hc.2, hd, decide_true, Bool.and_self]
theorem opensOk_used {l : List DDue} {k : Nat} (hk : k < l.length) (h : decide (l[k].id ∈ (l.take k).map (·.id)) = true) : opensOk l = false := by
  obtain ⟨m, hm, e⟩ := List.mem_map.1 (of_decide_eq_true h)
  obtain ⟨j, hj, rfl⟩ := List.getElem_of_mem hm
  simp at hj e
  exact opensOk_dup (j := j) (by omega) hk e
theorem dues_no {l : List DDue} {k : Nat} (hk : k < l.length) (h : decide (l[k].id ∈ (l.take k).map (·.id)) = false) {i : Nat} (hi : i < k) : dueEq (l[i]'(by omega)) l[k] = false := by
  have := of_decide_eq_false h
  simp only [dueEq, beq_eq_false_iff_ne, ne_eq]
  intro e
  refine this (List.mem_map.2 ⟨l[i], ?_, e⟩)
  rw [List.mem_take_iff_getElem]
  exact ⟨i, by omega, rfl⟩
theorem take_id {l : List DDue} {k : Nat} (hlt : k < l.length) : ((l.take k).map (·.id)) ++ [l[k].id] = (l.take (k + 1)).map (·.id) := (take_snocW (fun m : DDue => m.id) hlt).symm
theorem wf_id {n : Int} (h : (!betweenB n 1 20) = false) : (Lit.int .i64 n).wf = true := wf_of_bt h (by decide) (by decide)
set_option maxHeartbeats 4000000 in
theorem iJobsOk2_p (j : DJobs) : PCall av 356 [.agg j.ds] (rB (jobs2Ok j)) := by
  rw [jobs2Ok_eq]
  refine pcall_of av_ok Tryz.func356 rfl Tryz.call356 Tryz.ntmps356 (congrArg Array.toList Tryz.results356) fun S => ?_; conv => whnf
  repeat' (first | (refine aw0 ?_) | ((first | refine aw1 ?_ | refine aw2 ?_ | refine aw3 ?_ | refine aw4 ?_ | refine aw5 ?_ | refine aw6 ?_ | refine aw7 ?_ | refine aw8 ?_); conv => whnf) | ((first | refine bT ?_ | refine bF ?_); conv => whnf) | (refine AOp.makeSet rfl rfl ?_; conv => whnf) | (refine ACall.pure (ibetween_p _ _ _) rfl ?_; conv => whnf) | (refine AFCall.mk ⟨_, _, ibetween_p _ _ _, .inl rfl, ?_⟩; conv => whnf) | (refine ACall.pure (iTimeOk_p _) rfl ?_; conv => whnf) | (refine AFCall.mk ⟨_, _, iTimeOk_p _, .inl rfl, ?_⟩; conv => whnf) | (refine ACall.pure (ischedOk_p _) rfl ?_; conv => whnf) | (refine AFCall.mk ⟨_, _, ischedOk_p _, .inl rfl, ?_⟩; conv => whnf) | (exact rr) | (refine And.intro rfl ?_; conv => whnf) | (refine AB.mk (fun h => ?_) (fun h => ?_) <;> (conv => whnf)))
  all_goals first
    | (refine rB_of ?_; simp_all [tOk]; done)
    | (refine rB_of ?_; rw [opensOk_len ari, Bool.and_false]; done)
    | skip
  all_goals
    have h1 : j.opens.length ≤ 8 := ari
    have hpre : (betweenB j.index 0 2000 && tOk j.time && (j.holder == 0 || schedIs j.holder) && betweenB j.epoch 0 1000 && betweenB j.til 0 1001000) = true := by simp_all [tOk]
    rw [hpre, Bool.true_and]
    clear hpre
    refine AWP.loopS (fun k : Nat => k ≤ j.opens.length ∧ (∀ (q : Nat) (hj : q < k) (hl : q < j.opens.length), chainAt dueOk dueLt j.opens q hl = true) ∧ ∀ (i q : Nat) (hi : i < q) (hj : q < k) (hl : q < j.opens.length), dueEq (j.opens[i]'(by omega)) j.opens[q] = false) [2, 4, 5, 47, 48, 49, 50, 51, 52, 53, 54, 55, 56, 57, 58, 59, 60, 61, 62, 63, 64, 65, 66, 67, 68, 69, 70, 71, 72, 73, 74, 75, 76, 77, 78, 79, 80, 81, 82, 83, 84, 85, 86] (fun k => [(47, vI .i64 (k : Int))]) (fun k => [(43, mapO Tryz.prog 2 k (usedF ((j.opens.take k).map (·.id)))), (1, .cells 91 (j.ds.map .d))]) (fun k => j.opens.length - k) 0 ⟨by omega, by omega, by omega⟩ ?_ (SubO.cons rfl (SubO.cons rfl SubO.nil)) (fun k hR => ?_) <;> (conv => whnf)
    · exact whd
    · obtain ⟨hk, hall, hdup⟩ := hR
      repeat' (first | (refine aw0 ?_) | ((first | refine aw1 ?_ | refine aw2 ?_ | refine aw3 ?_ | refine aw4 ?_ | refine aw5 ?_ | refine aw6 ?_ | refine aw7 ?_ | refine aw8 ?_); conv => whnf) | ((first | refine bT ?_ | refine bF ?_); conv => whnf) | (refine AWP.drawK av_ok 9 27 dk_WB4_impl_JobsOk2_9 fk_WB4_impl_JobsOk2_9 (by kernel_rfl) (by kernel_rfl) (by kernel_rfl) rfl ?_; conv => whnf) | (refine AIx.mapF ari (fun hlt => ?_); conv => whnf) | (refine AIx.mapP ari ari (fun hpv => ?_); conv => whnf) | (refine AW.i64 (n := _ - _) ari ari ?_; conv => whnf) | (refine AW.i64 ari ari ?_; conv => whnf) | (refine ACall.pure (iidOk_p _) rfl ?_; conv => whnf) | (refine AFCall.mk ⟨_, _, iidOk_p _, .inl rfl, ?_⟩; conv => whnf) | (refine ACall.pure (iTimeOk_p _) rfl ?_; conv => whnf) | (refine AFCall.mk ⟨_, _, iTimeOk_p _, .inl rfl, ?_⟩; conv => whnf) | (refine ACall.pure (idueLess_p _ _) rfl ?_; conv => whnf) | (refine AFCall.mk ⟨_, _, idueLess_p _ _, .inl rfl, ?_⟩; conv => whnf) | (refine AFRd.lookSet (id := 43) (N := k) rfl rfl rfl rfl (wf_id (by assumption)) ?_; conv => whnf) | (refine AOp.lookSet (id := 43) (N := k) rfl rfl rfl rfl (wf_id (by assumption)) ?_; conv => whnf) | (refine AOp.putSet (id := 43) (N := k) rfl (by omega) rfl rfl rfl (wf_id (by assumption)) ?_; conv => whnf) | (exact rr) | (refine And.intro rfl ?_; conv => whnf) | (refine AB.mk (fun h => ?_) (fun h => ?_) <;> (conv => whnf)))
      all_goals first
        | (rw [opensOk_chain (k := k) ari (by first | (refine chainAt_P _ ?_; simp_all [dueOk, tOk]; done) | (rw [chainAt_pos _ ari]; simp_all [dueOk, tOk]; done) | (rw [chainAt_zero _ ari]; simp_all [dueOk, tOk]; done) | (exfalso; assumption))]; done)
        | (rw [opensOk_used (k := k) ari (by assumption)]; done)
        | (refine ANext.mk ⟨k + 1, ⟨ari, step_chain hall ari (by first | (refine chainAt_P _ ?_; simp_all [dueOk, tOk]; done) | (rw [chainAt_pos _ ari]; simp_all [dueOk, tOk]; done) | (rw [chainAt_zero _ ari]; simp_all [dueOk, tOk]; done) | (exfalso; assumption)), step_apart ari hdup fun i hi => dues_no ari (by assumption) hi⟩, ari, ?_, SubO.cons (congrArg some (congrArg (fun l => mapO Tryz.prog 2 (k + 1) (usedF l)) (take_id ari))) (SubO.cons rfl SubO.nil)⟩
           exact hds)
        | (rw [opensOk_yes h1 (end_chain hall ari) (end_apart ari hdup)])
set_option maxHeartbeats 4000000 in
theorem sl11Open_p (l : List DDue) : PCall av 355 [.one (.sl (l.map DDue.ds))] (rB (opensOk l)) := by
  refine pcall_of av_ok Tryz.func355 rfl Tryz.call355 Tryz.ntmps355 (congrArg Array.toList Tryz.results355) fun S => ?_; conv => whnf
  repeat' (first | (refine aw0 ?_) | ((first | refine aw1 ?_ | refine aw2 ?_ | refine aw3 ?_ | refine aw4 ?_ | refine aw5 ?_ | refine aw6 ?_ | refine aw7 ?_ | refine aw8 ?_); conv => whnf) | ((first | refine bT ?_ | refine bF ?_); conv => whnf) | (exact rr) | (refine And.intro rfl ?_; conv => whnf) | (refine AB.mk (fun h => ?_) (fun h => ?_) <;> (conv => whnf)))
  · rw [opensOk_len ari]
  · have h1 : l.length ≤ 8 := ari
    clear h
    refine AWP.loopS (fun k : Nat => k ≤ l.length ∧ (∀ (j : Nat) (hj : j < k) (hl : j < l.length), chainAt dueOk dueLt l j hl = true) ∧ ∀ (i j : Nat) (hi : i < j) (hj : j < k) (hl : j < l.length), dueEq (l[i]'(by omega)) l[j] = false) [2, 3, 4, 8, 9, 10, 11, 12, 13, 14, 15, 16, 17, 18, 19, 20, 21, 22, 23, 24, 25, 26, 27, 28, 29, 30, 31, 32, 33, 34, 35, 36, 37, 38, 39, 40, 41, 42, 43, 44, 45, 46, 47, 48, 49, 50, 51, 52, 53, 54, 55, 56, 57, 58, 59, 60, 61, 62] (fun k => [(3, vI .i64 (k : Int))]) (fun k => []) (fun k => l.length - k) 0 ⟨by omega, by omega, by omega⟩ ?_ SubO.nil (fun k hR => ?_) <;> (conv => whnf)
    · exact whd
    · obtain ⟨hk, hall, hdup⟩ := hR
      repeat' (first | (refine aw0 ?_) | ((first | refine aw1 ?_ | refine aw2 ?_ | refine aw3 ?_ | refine aw4 ?_ | refine aw5 ?_ | refine aw6 ?_ | refine aw7 ?_ | refine aw8 ?_); conv => whnf) | ((first | refine bT ?_ | refine bF ?_); conv => whnf) | (refine AWP.drawK av_ok 6 29 dk_WB4_spec_l11Open_6 fk_WB4_spec_l11Open_6 (by kernel_rfl) (by kernel_rfl) (by kernel_rfl) rfl ?_; conv => whnf) | (refine AIx.mapF ari (fun hlt => ?_); conv => whnf) | (refine AIx.mapP ari ari (fun hpv => ?_); conv => whnf) | (refine AW.i64 (n := _ - _) ari ari ?_; conv => whnf) | (refine AW.i64 ari ari ?_; conv => whnf) | (refine ACall.pure (sl7Id_p _) rfl ?_; conv => whnf) | (refine AFCall.mk ⟨_, _, sl7Id_p _, .inl rfl, ?_⟩; conv => whnf) | (refine ACall.pure (sTimeOk_p _) rfl ?_; conv => whnf) | (refine AFCall.mk ⟨_, _, sTimeOk_p _, .inl rfl, ?_⟩; conv => whnf) | (refine ACall.pure (sl11DueLess_p _ _) rfl ?_; conv => whnf) | (refine AFCall.mk ⟨_, _, sl11DueLess_p _ _, .inl rfl, ?_⟩; conv => whnf) | (exact rr) | (refine And.intro rfl ?_; conv => whnf) | (refine AB.mk (fun h => ?_) (fun h => ?_) <;> (conv => whnf)))
      all_goals first
        | (rw [opensOk_chain (k := k) ari (by first | (refine chainAt_P _ ?_; simp_all [dueOk, tOk]; done) | (rw [chainAt_pos _ ari]; simp_all [dueOk, tOk]; done) | (rw [chainAt_zero _ ari]; simp_all [dueOk, tOk]; done) | (exfalso; assumption))]; done)
        | (rw [opensOk_yes h1 (end_chain hall ari) (end_apart ari hdup)]; done)
        | skip
      all_goals
        have hkl : k < l.length := ari
        have hch : chainAt dueOk dueLt l k hkl = true := (by first | (refine chainAt_P _ ?_; simp_all [dueOk, tOk]; done) | (rw [chainAt_pos _ ari]; simp_all [dueOk, tOk]; done) | (rw [chainAt_zero _ ari]; simp_all [dueOk, tOk]; done) | (exfalso; assumption))
        refine AWP.loopS (fun q : Nat => q ≤ k ∧ ∀ (i : Nat) (hi : i < q) (hik : i < k), dueEq (l[i]'(by omega)) l[k] = false) [2, 4, 47, 48, 49, 50, 51, 52, 53, 54, 55, 56, 57, 58, 59, 60, 61, 62] (fun q => [(4, vI .i64 (q : Int))]) (fun _ => []) (fun q => k - q) 0 ⟨by omega, by omega⟩ ?_ SubO.nil (fun q hQ => ?_) <;> (conv => whnf)
        · exact whd
        · obtain ⟨hq, hno⟩ := hQ
          repeat' (first | (refine aw0 ?_) | ((first | refine aw1 ?_ | refine aw2 ?_ | refine aw3 ?_ | refine aw4 ?_ | refine aw5 ?_ | refine aw6 ?_ | refine aw7 ?_ | refine aw8 ?_); conv => whnf) | ((first | refine bT ?_ | refine bF ?_); conv => whnf) | (refine AWP.drawK av_ok 11 10 dk_WB4_spec_l11Open_11 fk_WB4_spec_l11Open_11 (by kernel_rfl) (by kernel_rfl) (by kernel_rfl) rfl ?_; conv => whnf) | (refine AIx.mapF (k := q) ari (fun hqt => ?_); conv => whnf) | (refine AIx.mapF (k := k) ari (fun hlt => ?_); conv => whnf) | (refine AW.i64 ari ari ?_; conv => whnf) | (exact rr) | (refine And.intro rfl ?_; conv => whnf) | (refine AB.mk (fun h => ?_) (fun h => ?_) <;> (conv => whnf)))
          all_goals first
            | (rw [opensOk_dup (j := q) (k := k) ari ari (by simpa using h)]; done)
            | (have hjq : ∀ hqk : q < k, dueEq (l[q]'(by omega)) l[k] = false := fun hqk => h
               refine ANext.mk ⟨q + 1, ⟨ari, fun i hi hik => ?_⟩, ari, ?_, SubO.nil⟩
               · by_cases hiq : i = q
                 · subst hiq; exact hjq hik
                 · exact hno i (by omega) hik
               · exact hds)
            | (refine ANext.mk ⟨k + 1, ⟨ari, step_chain hall ari hch, step_apart ari hdup fun i hi => hno i ari hi⟩, ari, ?_, SubO.nil⟩
               exact hds)
theorem sJobsOk2_p (j : DJobs) : PCall av 314 [.agg j.ds] (rB (jobs2Ok j)) := by
  rw [jobs2Ok_eq]
  refine pcall_of av_ok Tryz.func314 rfl Tryz.call314 Tryz.ntmps314 (congrArg Array.toList Tryz.results314) fun S => ?_; conv => whnf
  repeat' (first | (refine aw0 ?_) | ((first | refine aw1 ?_ | refine aw2 ?_ | refine aw3 ?_ | refine aw4 ?_ | refine aw5 ?_ | refine aw6 ?_ | refine aw7 ?_ | refine aw8 ?_); conv => whnf) | ((first | refine bT ?_ | refine bF ?_); conv => whnf) | (refine ACall.pure (sl1In_p _ _ _) rfl ?_; conv => whnf) | (refine AFCall.mk ⟨_, _, sl1In_p _ _ _, .inl rfl, ?_⟩; conv => whnf) | (refine ACall.pure (sTimeOk_p _) rfl ?_; conv => whnf) | (refine AFCall.mk ⟨_, _, sTimeOk_p _, .inl rfl, ?_⟩; conv => whnf) | (refine ACall.pure (sl11Sched_p _) rfl ?_; conv => whnf) | (refine AFCall.mk ⟨_, _, sl11Sched_p _, .inl rfl, ?_⟩; conv => whnf) | (refine ACall.pure (sl11Open_p j.opens) rfl ?_; conv => whnf) | (refine AFCall.mk ⟨_, _, sl11Open_p j.opens, .inl rfl, ?_⟩; conv => whnf) | (exact rr) | (refine And.intro rfl ?_; conv => whnf) | (refine AB.mk (fun h => ?_) (fun h => ?_) <;> (conv => whnf)))
  all_goals
    refine rB_of ?_
    simp_all [tOk]
theorem iViewOk_p (v : DView) : PCall av 319 [.agg v.ds] (rB (jobs2Ok v.jobs)) := by
  refine pcall_of av_ok Tryz.func319 rfl Tryz.call319 Tryz.ntmps319 (congrArg Array.toList Tryz.results319) fun S => ?_; conv => whnf
  repeat' (first | (refine aw0 ?_) | ((first | refine aw1 ?_ | refine aw2 ?_ | refine aw3 ?_ | refine aw4 ?_ | refine aw5 ?_ | refine aw6 ?_ | refine aw7 ?_ | refine aw8 ?_); conv => whnf) | ((first | refine bT ?_ | refine bF ?_); conv => whnf) | (refine ACall.pure (iJobsOk2_p v.jobs) rfl ?_; conv => whnf) | (refine AFCall.mk ⟨_, _, iJobsOk2_p v.jobs, .inl rfl, ?_⟩; conv => whnf) | (exact rr) | (refine And.intro rfl ?_; conv => whnf) | (refine AB.mk (fun h => ?_) (fun h => ?_) <;> (conv => whnf)))
theorem sViewOk_p (v : DView) : PCall av 258 [.agg v.ds] (rB (jobs2Ok v.jobs)) := by
  refine pcall_of av_ok Tryz.func258 rfl Tryz.call258 Tryz.ntmps258 (congrArg Array.toList Tryz.results258) fun S => ?_; conv => whnf
  repeat' (first | (refine aw0 ?_) | ((first | refine aw1 ?_ | refine aw2 ?_ | refine aw3 ?_ | refine aw4 ?_ | refine aw5 ?_ | refine aw6 ?_ | refine aw7 ?_ | refine aw8 ?_); conv => whnf) | ((first | refine bT ?_ | refine bF ?_); conv => whnf) | (refine ACall.pure (sJobsOk2_p v.jobs) rfl ?_; conv => whnf) | (refine AFCall.mk ⟨_, _, sJobsOk2_p v.jobs, .inl rfl, ?_⟩; conv => whnf) | (exact rr) | (refine And.intro rfl ?_; conv => whnf) | (refine AB.mk (fun h => ?_) (fun h => ?_) <;> (conv => whnf)))
theorem iSchedOk_p (s : DSched) : PCall av 270 [.agg s.ds] (rB (schedOkB s)) := by
  refine pcall_of av_ok Tryz.func270 rfl Tryz.call270 Tryz.ntmps270 (congrArg Array.toList Tryz.results270) fun S => ?_; conv => whnf
  repeat' (first | (refine aw0 ?_) | ((first | refine aw1 ?_ | refine aw2 ?_ | refine aw3 ?_ | refine aw4 ?_ | refine aw5 ?_ | refine aw6 ?_ | refine aw7 ?_ | refine aw8 ?_); conv => whnf) | ((first | refine bT ?_ | refine bF ?_); conv => whnf) | (refine ACall.pure (ischedOk_p _) rfl ?_; conv => whnf) | (refine AFCall.mk ⟨_, _, ischedOk_p _, .inl rfl, ?_⟩; conv => whnf) | (refine ACall.pure (ibetween_p _ _ _) rfl ?_; conv => whnf) | (refine AFCall.mk ⟨_, _, ibetween_p _ _ _, .inl rfl, ?_⟩; conv => whnf) | (refine ACall.pure (iViewOk_p s.view) rfl ?_; conv => whnf) | (refine AFCall.mk ⟨_, _, iViewOk_p s.view, .inl rfl, ?_⟩; conv => whnf) | (refine ACall.pure (iOpOk_p s.op) rfl ?_; conv => whnf) | (refine AFCall.mk ⟨_, _, iOpOk_p s.op, .inl rfl, ?_⟩; conv => whnf) | (refine AOp.eqs (eqlOp_at s.op op0) rfl rfl rfl rfl rfl ?_; conv => whnf) | (exact rr) | (refine And.intro rfl ?_; conv => whnf) | (refine AB.mk (fun h => ?_) (fun h => ?_) <;> (conv => whnf)))
  all_goals
    refine rB_of ?_
    first
      | (simp_all [schedOkB]; done)
      | (simp_all [schedOkB, betweenB]; omega)
      | (have hb := bt_of (x := s.seq) (by assumption)
         simp_all [schedOkB]; rw [Bool.eq_iff_iff]; simp; omega)
theorem sSchedOk_p (s : DSched) : PCall av 187 [.agg s.ds] (rB (schedOkB s)) := by
  refine pcall_of av_ok Tryz.func187 rfl Tryz.call187 Tryz.ntmps187 (congrArg Array.toList Tryz.results187) fun S => ?_; conv => whnf
  repeat' (first | (refine aw0 ?_) | ((first | refine aw1 ?_ | refine aw2 ?_ | refine aw3 ?_ | refine aw4 ?_ | refine aw5 ?_ | refine aw6 ?_ | refine aw7 ?_ | refine aw8 ?_); conv => whnf) | ((first | refine bT ?_ | refine bF ?_); conv => whnf) | (refine ACall.pure (sl16Who_p _) rfl ?_; conv => whnf) | (refine AFCall.mk ⟨_, _, sl16Who_p _, .inl rfl, ?_⟩; conv => whnf) | (refine ACall.pure (sl1In_p _ _ _) rfl ?_; conv => whnf) | (refine AFCall.mk ⟨_, _, sl1In_p _ _ _, .inl rfl, ?_⟩; conv => whnf) | (refine ACall.pure (sViewOk_p s.view) rfl ?_; conv => whnf) | (refine AFCall.mk ⟨_, _, sViewOk_p s.view, .inl rfl, ?_⟩; conv => whnf) | (refine ACall.pure (sOpOk_p s.op) rfl ?_; conv => whnf) | (refine AFCall.mk ⟨_, _, sOpOk_p s.op, .inl rfl, ?_⟩; conv => whnf) | (refine AOp.eqs (eqlOp_at s.op op0) rfl rfl rfl rfl rfl ?_; conv => whnf) | (exact rr) | (refine And.intro rfl ?_; conv => whnf) | (refine AB.mk (fun h => ?_) (fun h => ?_) <;> (conv => whnf)))
  all_goals
    refine rB_of ?_
    first
      | (simp_all [schedOkB]; done)
      | (simp_all [schedOkB, betweenB]; omega)
      | (have hb := bt_of (x := s.seq) (by assumption)
         simp_all [schedOkB]; rw [Bool.eq_iff_iff]; simp; omega)
end Go.Proofs.YtmgcnmdbhahhlaaGreat
namespace Go.Proofs.YtmgcnmdbhahhlaaGreat
open Go.ChangeShapes Go.WideShapes Go.RowKit
def dk_WB5_impl_sameView_1 : List (List Nat) := unqs [0, 1, 0, 3, 0, 0, 1318982, 416663998597]
def fk_WB5_impl_sameView_1 : List (List Nat) := unps 6 [720, 721, 656, 665, 566, 242]
def dk_WB5_impl_schedFits_1 : List (List Nat) := unqs [0, 1, 129, 12354, 1056835, 12354, 5419311366, 207267586309, 35532366946371, 2546539915919688, 182418056579387593, 12845115105294176778, 12845115105294176778, 970905447453977489995, 3674597257867834505343885, 215505270666383147350676364, 11199800992597658428499096203, 1360694127215502325577536770249]
def fk_WB5_impl_schedFits_1 : List (List Nat) := unps 14 [0, 1, 4, 499, 526, 229, 364, 1093, 3280, 9841, 29524, 4340101, 442867, 974308]

theorem isameView_p (a b : DView) (ha : a.jobs.opens.length ≤ 9223372036854775806) : PCall av 321 [.agg a.ds, .agg b.ds] (rB (decide (a = b))) := by
  refine pcall_of av_ok Tryz.func321 rfl Tryz.call321 Tryz.ntmps321 (congrArg Array.toList Tryz.results321) fun S => ?_; conv => whnf
  repeat' (first | (refine aw0 ?_) | ((first | refine aw1 ?_ | refine aw2 ?_ | refine aw3 ?_ | refine aw4 ?_ | refine aw5 ?_ | refine aw6 ?_ | refine aw7 ?_ | refine aw8 ?_); conv => whnf) | ((first | refine bT ?_ | refine bF ?_); conv => whnf) | (exact rr) | (refine And.intro rfl ?_; conv => whnf) | (refine AB.mk (fun h => ?_) (fun h => ?_) <;> (conv => whnf)))
  refine AWP.drawSN av_ok 1 6 dk_WB5_impl_sameView_1 fk_WB5_impl_sameView_1 4 1 4 (by kernel_rfl) (by kernel_rfl) (by kernel_rfl) rfl ⟨_, rfl, rfl, rfl, rfl⟩ rfl rfl rfl rfl rfl ?_; conv => whnf
  repeat' (first | (refine aw0 ?_) | ((first | refine aw1 ?_ | refine aw2 ?_ | refine aw3 ?_ | refine aw4 ?_ | refine aw5 ?_ | refine aw6 ?_ | refine aw7 ?_ | refine aw8 ?_); conv => whnf) | ((first | refine bT ?_ | refine bF ?_); conv => whnf) | (exact rr) | (refine And.intro rfl ?_; conv => whnf) | (refine AB.mk (fun h => ?_) (fun h => ?_) <;> (conv => whnf)))
  refine ⟨_, _, _, _, _, ?o1, rfl, rfl, rfl, rfl, rfl, ?hst, ?hk⟩
  case hst =>
    conv => whnf
  conv => whnf
  refine ⟨rfl, ?_, ?_⟩
  · repeat' (first | exact trivial | exact ⟨rfl, rfl⟩ | (refine ⟨?_, ?_⟩) | (refine aw0 ?_) | ((first | refine aw1 ?_ | refine aw2 ?_ | refine aw3 ?_ | refine aw4 ?_ | refine aw5 ?_ | refine aw6 ?_ | refine aw7 ?_ | refine aw8 ?_); conv => whnf) | ((first | refine bT ?_ | refine bF ?_); conv => whnf) | (conv => whnf))
  conv => whnf
  repeat' (first | (refine aw0 ?_) | ((first | refine aw1 ?_ | refine aw2 ?_ | refine aw3 ?_ | refine aw4 ?_ | refine aw5 ?_ | refine aw6 ?_ | refine aw7 ?_ | refine aw8 ?_); conv => whnf) | ((first | refine bT ?_ | refine bF ?_); conv => whnf) | (refine ACall.pure (slEqDue_p a.jobs.opens b.jobs.opens ha) rfl ?_; conv => whnf) | (refine AFCall.mk ⟨_, _, slEqDue_p a.jobs.opens b.jobs.opens ha, .inl rfl, ?_⟩; conv => whnf) | (exact rr) | (refine And.intro rfl ?_; conv => whnf) | (refine AB.mk (fun h => ?_) (fun h => ?_) <;> (conv => whnf)))
  all_goals
    refine rB_of ?_
    obtain ⟨⟨i1, t1, h1, e1, l1, o1⟩⟩ := a
    obtain ⟨⟨i2, t2, h2, e2, l2, o2⟩⟩ := b
    simp_all [DView.mk.injEq, DJobs.mk.injEq]
theorem sched_eq {a b : DSched} : a = b ↔ (a.id = b.id ∧ a.seq = b.seq ∧ a.view = b.view ∧ a.busy = b.busy ∧ a.op = b.op ∧ a.index = b.index) := by
  cases a; cases b; simp [DSched.mk.injEq]
theorem isameSched_p (a b : DSched) (ha : a.view.jobs.opens.length ≤ 9223372036854775806) : PCall av 271 [.agg a.ds, .agg b.ds] (rB (decide (a = b))) := by
  refine pcall_of av_ok Tryz.func271 rfl Tryz.call271 Tryz.ntmps271 (congrArg Array.toList Tryz.results271) fun S => ?_; conv => whnf
  repeat' (first | (refine aw0 ?_) | ((first | refine aw1 ?_ | refine aw2 ?_ | refine aw3 ?_ | refine aw4 ?_ | refine aw5 ?_ | refine aw6 ?_ | refine aw7 ?_ | refine aw8 ?_); conv => whnf) | ((first | refine bT ?_ | refine bF ?_); conv => whnf) | (refine ACall.pure (isameView_p a.view b.view ha) rfl ?_; conv => whnf) | (refine AFCall.mk ⟨_, _, isameView_p a.view b.view ha, .inl rfl, ?_⟩; conv => whnf) | (refine AOp.eqs (eqlOp_at a.op b.op) rfl rfl rfl rfl rfl ?_; conv => whnf) | (exact rr) | (refine And.intro rfl ?_; conv => whnf) | (refine AB.mk (fun h => ?_) (fun h => ?_) <;> (conv => whnf)))
  all_goals
    refine rB_of ?_
    rw [Bool.eq_iff_iff, decide_eq_true_iff, sched_eq]
    simp_all
def newSched (id : Int) : DSched := if schedIs id then sched0 id else sched0 0
theorem iNewSched_p (id : Int) : PCall av 272 [.one (dI id)] (.val (.agg (newSched id).ds)) := by
  refine pcall_of av_ok Tryz.func272 rfl Tryz.call272 Tryz.ntmps272 (congrArg Array.toList Tryz.results272) fun S => ?_; conv => whnf
  repeat' (first | (refine aw0 ?_) | ((first | refine aw1 ?_ | refine aw2 ?_ | refine aw3 ?_ | refine aw4 ?_ | refine aw5 ?_ | refine aw6 ?_ | refine aw7 ?_ | refine aw8 ?_); conv => whnf) | ((first | refine bT ?_ | refine bF ?_); conv => whnf) | (refine ACall.pure (ischedOk_p _) rfl ?_; conv => whnf) | (refine AFCall.mk ⟨_, _, ischedOk_p _, .inl rfl, ?_⟩; conv => whnf) | (exact rr) | (refine And.intro rfl ?_; conv => whnf) | (refine AB.mk (fun h => ?_) (fun h => ?_) <;> (conv => whnf)))
  all_goals simp_all [newSched, sched0, DSched.ds, op0]
theorem ischedFits_p (s : DSched) (id : Int) (up : Bool) (hs : s.view.jobs.opens.length ≤ 9223372036854775806) : PCall av 212 [.agg s.ds, .one (dI id), .one (dB up)] (rB (schedFits s id up)) := by
  refine pcall_of av_ok Tryz.func212 rfl Tryz.call212 Tryz.ntmps212 (congrArg Array.toList Tryz.results212) fun S => ?_; conv => whnf
  repeat' (first | (refine aw0 ?_) | ((first | refine aw1 ?_ | refine aw2 ?_ | refine aw3 ?_ | refine aw4 ?_ | refine aw5 ?_ | refine aw6 ?_ | refine aw7 ?_ | refine aw8 ?_); conv => whnf) | ((first | refine bT ?_ | refine bF ?_); conv => whnf) | (refine AWP.drawK av_ok 1 14 dk_WB5_impl_schedFits_1 fk_WB5_impl_schedFits_1 (by kernel_rfl) (by kernel_rfl) (by kernel_rfl) rfl ?_; conv => whnf) | (refine ACall.pure (iSchedOk_p s) rfl ?_; conv => whnf) | (refine AFCall.mk ⟨_, _, iSchedOk_p s, .inl rfl, ?_⟩; conv => whnf) | (refine ACall.pure (iNewSched_p _) rfl ?_; conv => whnf) | (refine AFCall.mk ⟨_, _, iNewSched_p _, .inl rfl, ?_⟩; conv => whnf) | (refine ACall.pure (isameSched_p s (newSched id) hs) rfl ?_; conv => whnf) | (refine AFCall.mk ⟨_, _, isameSched_p s (newSched id) hs, .inl rfl, ?_⟩; conv => whnf) | (exact rr) | (refine And.intro rfl ?_; conv => whnf) | (refine AB.mk (fun h => ?_) (fun h => ?_) <;> (conv => whnf)))
  all_goals
    refine rB_of ?_
    first
      | (simp_all [schedFits]; done)
      | (have e : newSched id = sched0 id := by simp_all [newSched, schedOkB]
         simp_all [schedFits]
         rw [Bool.eq_iff_iff]; simp; done)
theorem sl22SchedDown_p (s : DSched) : PCall av 188 [.agg s.ds] (rB (decide (s = sched0 s.id))) := by
  refine pcall_of av_ok Tryz.func188 rfl Tryz.call188 Tryz.ntmps188 (congrArg Array.toList Tryz.results188) fun S => ?_; conv => whnf
  repeat' (first | (refine aw0 ?_) | ((first | refine aw1 ?_ | refine aw2 ?_ | refine aw3 ?_ | refine aw4 ?_ | refine aw5 ?_ | refine aw6 ?_ | refine aw7 ?_ | refine aw8 ?_); conv => whnf) | ((first | refine bT ?_ | refine bF ?_); conv => whnf) | (refine AOp.eqs (eqlOp_at s.op op0) rfl rfl rfl rfl rfl ?_; conv => whnf) | (exact rr) | (refine And.intro rfl ?_; conv => whnf) | (refine AB.mk (fun h => ?_) (fun h => ?_) <;> (conv => whnf)))
  all_goals
    refine rB_of ?_
    obtain ⟨i, q, ⟨⟨a, b, c, d, e, l⟩⟩, u, o, x⟩ := s
    rw [Bool.eq_iff_iff, decide_eq_true_iff, sched_eq]
    simp_all [sched0, DView.mk.injEq, DJobs.mk.injEq]
theorem sl22Sched_p (s : DSched) (id : Int) (up : Bool) : PCall av 114 [.agg s.ds, .one (dI id), .one (dB up)] (rB (schedFits s id up)) := by
  refine pcall_of av_ok Tryz.func114 rfl Tryz.call114 Tryz.ntmps114 (congrArg Array.toList Tryz.results114) fun S => ?_; conv => whnf
  repeat' (first | (refine aw0 ?_) | ((first | refine aw1 ?_ | refine aw2 ?_ | refine aw3 ?_ | refine aw4 ?_ | refine aw5 ?_ | refine aw6 ?_ | refine aw7 ?_ | refine aw8 ?_); conv => whnf) | ((first | refine bT ?_ | refine bF ?_); conv => whnf) | (refine ACall.pure (sSchedOk_p s) rfl ?_; conv => whnf) | (refine AFCall.mk ⟨_, _, sSchedOk_p s, .inl rfl, ?_⟩; conv => whnf) | (refine ACall.pure (sl22SchedDown_p s) rfl ?_; conv => whnf) | (refine AFCall.mk ⟨_, _, sl22SchedDown_p s, .inl rfl, ?_⟩; conv => whnf) | (exact rr) | (refine And.intro rfl ?_; conv => whnf) | (refine AB.mk (fun h => ?_) (fun h => ?_) <;> (conv => whnf)))
  all_goals
    refine rB_of ?_
    first
      | (simp_all [schedFits]; done)
      | (simp_all [schedFits]; rw [Bool.eq_iff_iff]; simp; done)
end Go.Proofs.YtmgcnmdbhahhlaaGreat
