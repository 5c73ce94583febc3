/- LogReport, SchedReport, ClientReport: both sides. -/
import Derived.Test.YtmgcnmdbhahhlaaGreatJ15
set_option linter.unusedVariables false
set_option linter.unusedSimpArgs false
set_option maxRecDepth 100000
namespace Go.Proofs.YtmgcnmdbhahhlaaGreat
open Go.ChangeShapes Go.WideShapes Go.RowKit
def dk_WR1_spec_LogReport_4 : List (List Nat) := unqs [0, 1, 129, 0, 4, 324, 0, 7, 0, 9, 649, 0, 12, 221274373, 911571296176105138479885, 294128918731193309141147715]
def fk_WR1_spec_LogReport_4 : List (List Nat) := unps 14 [4782942, 4782943, 4782946, 1593620, 1593647, 1593728, 4777136, 4777865, 4612382, 4618943, 4638626, 177146, 354293, 885383]

theorem iLast_any (b : DBook) (h : betweenB b.base 0 2000 = true) (hl : b.entries.length ≤ 1048576) : PCall av 70 [.agg b.ds] (.val (pI (lastB b))) := by
  simp only [betweenB, Bool.and_eq_true, decide_eq_true_eq] at h
  refine pcall_of av_ok Tryz.func70 rfl Tryz.call70 Tryz.ntmps70 (congrArg Array.toList Tryz.results70) fun S => ?_; conv => whnf
  repeat' (first | (refine aw0 ?_) | ((first | refine aw1 ?_ | refine aw2 ?_ | refine aw3 ?_ | refine aw4 ?_ | refine aw5 ?_ | refine aw6 ?_ | refine aw7 ?_ | refine aw8 ?_); conv => whnf) | ((first | refine bT ?_ | refine bF ?_); conv => whnf) | (refine AW.i64 (by simp only [List.length_map]; omega) (by simp only [List.length_map]; omega) ?_; conv => whnf) | (exact rr) | (refine And.intro rfl ?_; conv => whnf) | (refine AB.mk (fun h => ?_) (fun h => ?_) <;> (conv => whnf)))
  all_goals simp [lastB]
theorem sLastOf_p (b : DBook) (h : bookOk b = true) : PCall av 64 [.agg b.ds] (.val (pI (lastB b))) := by
  have hn : (!bookOk b) = false := by rw [h]; rfl
  refine pcall_of av_ok Tryz.func64 rfl Tryz.call64 Tryz.ntmps64 (congrArg Array.toList Tryz.results64) fun S => ?_; conv => whnf
  repeat' (first | (refine aw0 ?_) | ((first | refine aw1 ?_ | refine aw2 ?_ | refine aw3 ?_ | refine aw4 ?_ | refine aw5 ?_ | refine aw6 ?_ | refine aw7 ?_ | refine aw8 ?_); conv => whnf) | ((first | refine bT ?_ | refine bF ?_); conv => whnf) | (refine ACall.pure (sBookOk_p b) rfl ?_; conv => whnf) | (refine AFCall.mk ⟨_, _, sBookOk_p b, .inl rfl, ?_⟩; conv => whnf) | (refine ACall.pure (sl8Last_p b h) rfl ?_; conv => whnf) | (refine AFCall.mk ⟨_, _, sl8Last_p b h, .inl rfl, ?_⟩; conv => whnf) | (exact rr) | (refine And.intro rfl ?_; conv => whnf) | (refine AB.mk (fun h => ?_) (fun h => ?_) <;> (conv => whnf)))
theorem iLog1_p (n : DLogNode) : PCall av 68 [.agg n.ds] (.val (pI (n.book.base))) := by
  refine pcall_of av_ok Tryz.func68 rfl Tryz.call68 Tryz.ntmps68 (congrArg Array.toList Tryz.results68) fun S => ?_; conv => whnf
  repeat' (first | (refine aw0 ?_) | ((first | refine aw1 ?_ | refine aw2 ?_ | refine aw3 ?_ | refine aw4 ?_ | refine aw5 ?_ | refine aw6 ?_ | refine aw7 ?_ | refine aw8 ?_); conv => whnf) | ((first | refine bT ?_ | refine bF ?_); conv => whnf) | (refine ACall.pure (ibit_p _) rfl ?_; conv => whnf) | (refine AFCall.mk ⟨_, _, ibit_p _, .inl rfl, ?_⟩; conv => whnf) | (exact rr) | (refine And.intro rfl ?_; conv => whnf) | (refine AB.mk (fun h => ?_) (fun h => ?_) <;> (conv => whnf)))
  all_goals simp
theorem iLog3_p (n : DLogNode) : PCall av 71 [.agg n.ds] (.val (pI (n.durable))) := by
  refine pcall_of av_ok Tryz.func71 rfl Tryz.call71 Tryz.ntmps71 (congrArg Array.toList Tryz.results71) fun S => ?_; conv => whnf
  repeat' (first | (refine aw0 ?_) | ((first | refine aw1 ?_ | refine aw2 ?_ | refine aw3 ?_ | refine aw4 ?_ | refine aw5 ?_ | refine aw6 ?_ | refine aw7 ?_ | refine aw8 ?_); conv => whnf) | ((first | refine bT ?_ | refine bF ?_); conv => whnf) | (refine ACall.pure (ibit_p _) rfl ?_; conv => whnf) | (refine AFCall.mk ⟨_, _, ibit_p _, .inl rfl, ?_⟩; conv => whnf) | (exact rr) | (refine And.intro rfl ?_; conv => whnf) | (refine AB.mk (fun h => ?_) (fun h => ?_) <;> (conv => whnf)))
  all_goals simp
theorem iLog4_p (n : DLogNode) : PCall av 72 [.agg n.ds] (.val (pI (n.owe.length))) := by
  refine pcall_of av_ok Tryz.func72 rfl Tryz.call72 Tryz.ntmps72 (congrArg Array.toList Tryz.results72) fun S => ?_; conv => whnf
  repeat' (first | (refine aw0 ?_) | ((first | refine aw1 ?_ | refine aw2 ?_ | refine aw3 ?_ | refine aw4 ?_ | refine aw5 ?_ | refine aw6 ?_ | refine aw7 ?_ | refine aw8 ?_); conv => whnf) | ((first | refine bT ?_ | refine bF ?_); conv => whnf) | (refine ACall.pure (ibit_p _) rfl ?_; conv => whnf) | (refine AFCall.mk ⟨_, _, ibit_p _, .inl rfl, ?_⟩; conv => whnf) | (exact rr) | (refine And.intro rfl ?_; conv => whnf) | (refine AB.mk (fun h => ?_) (fun h => ?_) <;> (conv => whnf)))
  all_goals simp
theorem iLog5_p (n : DLogNode) : PCall av 73 [.agg n.ds] (.val (pI (bitL n.more))) := by
  refine pcall_of av_ok Tryz.func73 rfl Tryz.call73 Tryz.ntmps73 (congrArg Array.toList Tryz.results73) fun S => ?_; conv => whnf
  repeat' (first | (refine aw0 ?_) | ((first | refine aw1 ?_ | refine aw2 ?_ | refine aw3 ?_ | refine aw4 ?_ | refine aw5 ?_ | refine aw6 ?_ | refine aw7 ?_ | refine aw8 ?_); conv => whnf) | ((first | refine bT ?_ | refine bF ?_); conv => whnf) | (refine ACall.pure (ibit_p _) rfl ?_; conv => whnf) | (refine AFCall.mk ⟨_, _, ibit_p _, .inl rfl, ?_⟩; conv => whnf) | (exact rr) | (refine And.intro rfl ?_; conv => whnf) | (refine AB.mk (fun h => ?_) (fun h => ?_) <;> (conv => whnf)))
  all_goals simp
theorem iLog2_p (n : DLogNode) (h : bookOk n.book = true) : PCall av 69 [.agg n.ds] (.val (pI (lastB n.book))) := by
  refine pcall_of av_ok Tryz.func69 rfl Tryz.call69 Tryz.ntmps69 (congrArg Array.toList Tryz.results69) fun S => ?_; conv => whnf
  repeat' (first | (refine aw0 ?_) | ((first | refine aw1 ?_ | refine aw2 ?_ | refine aw3 ?_ | refine aw4 ?_ | refine aw5 ?_ | refine aw6 ?_ | refine aw7 ?_ | refine aw8 ?_); conv => whnf) | ((first | refine bT ?_ | refine bF ?_); conv => whnf) | (refine ACall.pure (ilastOf_p n.book h) rfl ?_; conv => whnf) | (refine AFCall.mk ⟨_, _, ilastOf_p n.book h, .inl rfl, ?_⟩; conv => whnf) | (exact rr) | (refine And.intro rfl ?_; conv => whnf) | (refine AB.mk (fun h => ?_) (fun h => ?_) <;> (conv => whnf)))
def logL (n : DLogNode) : List Int := [n.book.base, lastB n.book, n.durable, n.owe.length, bitL n.more]
theorem reportLog_f (n : DLogNode) (h : bookOk n.book = true) : FCall av 67 [.agg n.ds, .one (.sl [pF 68, pF 69, pF 71, pF 72, pF 73])] (.one (.sl ((logL n).map eI))) := by
  refine fcall_of av_ok Tryz.func67 rfl Tryz.call67 Tryz.ntmps67 (congrArg Array.toList Tryz.results67) fun S => ?_; conv => whnf
  repeat' (first | (refine aw0 ?_) | ((first | refine aw1 ?_ | refine aw2 ?_ | refine aw3 ?_ | refine aw4 ?_ | refine aw5 ?_ | refine aw6 ?_ | refine aw7 ?_ | refine aw8 ?_); conv => whnf) | ((first | refine bT ?_ | refine bF ?_); conv => whnf) | (exact rr) | (refine And.intro rfl ?_; conv => whnf) | (refine AB.mk (fun h => ?_) (fun h => ?_) <;> (conv => whnf)))
  refine AWP.unroll 6 ?_
  conv => whnf
  repeat' (first | (refine aw0 ?_) | ((first | refine aw1 ?_ | refine aw2 ?_ | refine aw3 ?_ | refine aw4 ?_ | refine aw5 ?_ | refine aw6 ?_ | refine aw7 ?_ | refine aw8 ?_); conv => whnf) | ((first | refine bT ?_ | refine bF ?_); conv => whnf) | ((first | refine AIx.at 0 _ rfl rfl ?_ | refine AIx.at 1 _ rfl rfl ?_ | refine AIx.at 2 _ rfl rfl ?_ | refine AIx.at 3 _ rfl rfl ?_ | refine AIx.at 4 _ rfl rfl ?_ | refine AIx.at 5 _ rfl rfl ?_ | refine AIx.at 6 _ rfl rfl ?_); conv => whnf) | (refine ACall.pure (iLog1_p n) rfl ?_; conv => whnf) | (refine AFCall.mk ⟨_, _, iLog1_p n, .inl rfl, ?_⟩; conv => whnf) | (refine ACall.pure (iLog2_p n h) rfl ?_; conv => whnf) | (refine AFCall.mk ⟨_, _, iLog2_p n h, .inl rfl, ?_⟩; conv => whnf) | (refine ACall.pure (iLog3_p n) rfl ?_; conv => whnf) | (refine AFCall.mk ⟨_, _, iLog3_p n, .inl rfl, ?_⟩; conv => whnf) | (refine ACall.pure (iLog4_p n) rfl ?_; conv => whnf) | (refine AFCall.mk ⟨_, _, iLog4_p n, .inl rfl, ?_⟩; conv => whnf) | (refine ACall.pure (iLog5_p n) rfl ?_; conv => whnf) | (refine AFCall.mk ⟨_, _, iLog5_p n, .inl rfl, ?_⟩; conv => whnf) | (refine AW.i64 (by decide) (by decide) ?_; conv => whnf) | (refine And.intro (by decide) ?_; conv => whnf) | (refine And.intro (by simp) ?_; conv => whnf) | (exact rr) | (refine And.intro rfl ?_; conv => whnf) | (refine AB.mk (fun h => ?_) (fun h => ?_) <;> (conv => whnf)))
  exact ⟨_, _, (logL n).map eI, Nat.le_refl _, Fam.blank (lo := S.w0.heap.size) (hi := S.w0.heap.size) rfl, rfl, (fun y hy => by obtain ⟨a, _, rfl⟩ := List.mem_map.1 hy; rfl), rfl⟩
def repLogReport (w : DWorld) : List Int := if worldOk w && upAt w 0 then logL w.log else []
theorem repLogReport_len (w : DWorld) (hs : DWorld.small 1048576 w) : (repLogReport w).length ≤ 1048576 := by
  unfold repLogReport logL
  split <;> simp
theorem log_book {w : DWorld} (h : worldOk w = true) (h0 : upAt w 0 = true) : bookOk w.log.book = true := by
  have := world_log h h0
  rw [logOk_eq] at this
  simp only [Bool.and_eq_true] at this
  exact (log_p1 this.1.1.1).2.2.1
theorem iLogReport_f (w : DWorld) (hs : DWorld.small 1048576 w) : FCall av 21 [.agg w.ds] (.one (.sl ((repLogReport w).map eI))) := by
  cases h : (worldOk w && upAt w 0) with
  | false =>
    have hn : (!(worldOk w && upAt w 0)) = true := by rw [h]; rfl
    have e : repLogReport w = [] := by simp [repLogReport, h]
    rw [e]
    refine fcall_of av_ok Tryz.func21 rfl Tryz.call21 Tryz.ntmps21 (congrArg Array.toList Tryz.results21) fun S => ?_; conv => whnf
    repeat' (first | (refine aw0 ?_) | ((first | refine aw1 ?_ | refine aw2 ?_ | refine aw3 ?_ | refine aw4 ?_ | refine aw5 ?_ | refine aw6 ?_ | refine aw7 ?_ | refine aw8 ?_); conv => whnf) | ((first | refine bT ?_ | refine bF ?_); conv => whnf) | (refine ACall.pure (iUpIn_p w 0 (by decide) hs) rfl ?_; conv => whnf) | (refine AFCall.mk ⟨_, _, iUpIn_p w 0 (by decide) hs, .inl rfl, ?_⟩; conv => whnf) | (exact rr) | (refine And.intro rfl ?_; conv => whnf) | (refine AB.mk (fun h => ?_) (fun h => ?_) <;> (conv => whnf)))
    all_goals rfl
  | true =>
    have hn : (!(worldOk w && upAt w 0)) = false := by rw [h]; rfl
    have e : repLogReport w = logL w.log := by simp [repLogReport, h]
    rw [e]
    rw [Bool.and_eq_true] at h
    have hb := log_book h.1 h.2
    refine fcall_of av_ok Tryz.func21 rfl Tryz.call21 Tryz.ntmps21 (congrArg Array.toList Tryz.results21) fun S => ?_; conv => whnf
    repeat' (first | (refine aw0 ?_) | ((first | refine aw1 ?_ | refine aw2 ?_ | refine aw3 ?_ | refine aw4 ?_ | refine aw5 ?_ | refine aw6 ?_ | refine aw7 ?_ | refine aw8 ?_); conv => whnf) | ((first | refine bT ?_ | refine bF ?_); conv => whnf) | (refine ACall.pure (iUpIn_p w 0 (by decide) hs) rfl ?_; conv => whnf) | (refine AFCall.mk ⟨_, _, iUpIn_p w 0 (by decide) hs, .inl rfl, ?_⟩; conv => whnf) | (exact rr) | (refine And.intro rfl ?_; conv => whnf) | (refine AB.mk (fun h => ?_) (fun h => ?_) <;> (conv => whnf)))
    refine ACall.fresh (reportLog_f w.log hb) rfl rfl fun R lo hi a b F => ?_
    conv => whnf
    repeat' (first | (refine aw0 ?_) | ((first | refine aw1 ?_ | refine aw2 ?_ | refine aw3 ?_ | refine aw4 ?_ | refine aw5 ?_ | refine aw6 ?_ | refine aw7 ?_ | refine aw8 ?_); conv => whnf) | ((first | refine bT ?_ | refine bF ?_); conv => whnf) | (exact rr) | (refine And.intro rfl ?_; conv => whnf) | (refine AB.mk (fun h => ?_) (fun h => ?_) <;> (conv => whnf)))
    exact ⟨lo, hi, _, a, F, rfl⟩
theorem sLogReport_p (w : DWorld) (hs : DWorld.small 1048576 w) : PCall av 20 [.agg w.ds] (.val (.one (.sl ((repLogReport w).map eI)))) := by
  cases hw : worldOk w with
  | false =>
    have hn : (!worldOk w) = true := by rw [hw]; rfl
    have e : repLogReport w = [] := by simp [repLogReport, hw]
    rw [e]
    refine pcall_of av_ok Tryz.func20 rfl Tryz.call20 Tryz.ntmps20 (congrArg Array.toList Tryz.results20) fun S => ?_; conv => whnf
    repeat' (first | (refine aw0 ?_) | ((first | refine aw1 ?_ | refine aw2 ?_ | refine aw3 ?_ | refine aw4 ?_ | refine aw5 ?_ | refine aw6 ?_ | refine aw7 ?_ | refine aw8 ?_); conv => whnf) | ((first | refine bT ?_ | refine bF ?_); conv => whnf) | (refine ACall.pure (sWorldOk_p w hs) rfl ?_; conv => whnf) | (refine AFCall.mk ⟨_, _, sWorldOk_p w hs, .inl rfl, ?_⟩; conv => whnf) | (exact rr) | (refine And.intro rfl ?_; conv => whnf) | (refine AB.mk (fun h => ?_) (fun h => ?_) <;> (conv => whnf)))
    all_goals rfl
  | true =>
    have hn : (!worldOk w) = false := by rw [hw]; rfl
    have h6 := world_up hw
    cases hu : upAt w 0 with
    | false =>
      have hn2 : (!upAt w 0) = true := by rw [hu]; rfl
      have e : repLogReport w = [] := by simp [repLogReport, hu]
      rw [e]
      refine pcall_of av_ok Tryz.func20 rfl Tryz.call20 Tryz.ntmps20 (congrArg Array.toList Tryz.results20) fun S => ?_; conv => whnf
      repeat' (first | (refine aw0 ?_) | ((first | refine aw1 ?_ | refine aw2 ?_ | refine aw3 ?_ | refine aw4 ?_ | refine aw5 ?_ | refine aw6 ?_ | refine aw7 ?_ | refine aw8 ?_); conv => whnf) | ((first | refine bT ?_ | refine bF ?_); conv => whnf) | (refine ACall.pure (sWorldOk_p w hs) rfl ?_; conv => whnf) | (refine AFCall.mk ⟨_, _, sWorldOk_p w hs, .inl rfl, ?_⟩; conv => whnf) | (refine AIx.at 0 _ rfl (up_at h6 (by decide)) ?_; conv => whnf) | (refine AIx.at 1 _ rfl (up_at h6 (by decide)) ?_; conv => whnf) | (exact rr) | (refine And.intro rfl ?_; conv => whnf) | (refine AB.mk (fun h => ?_) (fun h => ?_) <;> (conv => whnf)))
      all_goals rfl
    | true =>
      have hn2 : (!upAt w 0) = false := by rw [hu]; rfl
      have hb := log_book hw hu
      have e : repLogReport w = logL w.log := by simp [repLogReport, hw, hu]
      rw [e]
      refine pcall_of av_ok Tryz.func20 rfl Tryz.call20 Tryz.ntmps20 (congrArg Array.toList Tryz.results20) fun S => ?_; conv => whnf
      repeat' (first | (refine aw0 ?_) | ((first | refine aw1 ?_ | refine aw2 ?_ | refine aw3 ?_ | refine aw4 ?_ | refine aw5 ?_ | refine aw6 ?_ | refine aw7 ?_ | refine aw8 ?_); conv => whnf) | ((first | refine bT ?_ | refine bF ?_); conv => whnf) | (refine ACall.pure (sWorldOk_p w hs) rfl ?_; conv => whnf) | (refine AFCall.mk ⟨_, _, sWorldOk_p w hs, .inl rfl, ?_⟩; conv => whnf) | (refine AIx.at 0 _ rfl (up_at h6 (by decide)) ?_; conv => whnf) | (refine AIx.at 1 _ rfl (up_at h6 (by decide)) ?_; conv => whnf) | (exact rr) | (refine And.intro rfl ?_; conv => whnf) | (refine AB.mk (fun h => ?_) (fun h => ?_) <;> (conv => whnf)))
      (refine AWP.drawK av_ok 4 14 dk_WR1_spec_LogReport_4 fk_WR1_spec_LogReport_4 (by kernel_rfl) (by kernel_rfl) (by kernel_rfl) rfl ?_; conv => whnf)
      repeat' (first | (refine aw0 ?_) | ((first | refine aw1 ?_ | refine aw2 ?_ | refine aw3 ?_ | refine aw4 ?_ | refine aw5 ?_ | refine aw6 ?_ | refine aw7 ?_ | refine aw8 ?_); conv => whnf) | ((first | refine bT ?_ | refine bF ?_); conv => whnf) | (refine ACall.pure (sLastOf_p w.log.book hb) rfl ?_; conv => whnf) | (refine AFCall.mk ⟨_, _, sLastOf_p w.log.book hb, .inl rfl, ?_⟩; conv => whnf) | (refine ACall.pure (sl1Flag_p _) rfl ?_; conv => whnf) | (refine AFCall.mk ⟨_, _, sl1Flag_p _, .inl rfl, ?_⟩; conv => whnf) | (exact rr) | (refine And.intro rfl ?_; conv => whnf) | (refine AB.mk (fun h => ?_) (fun h => ?_) <;> (conv => whnf)))
      all_goals (simp only [List.length_map]; rfl)
end Go.Proofs.YtmgcnmdbhahhlaaGreat
