/- Clients that are done, ServedIn: both sides, and its law over data. -/
import Derived.Test.YtmgcnmdbhahhlaaGreatWR9
set_option linter.unusedVariables false
set_option linter.unusedSimpArgs false
set_option maxRecDepth 100000
namespace Go.Proofs.YtmgcnmdbhahhlaaGreat
open Go.ChangeShapes Go.WideShapes Go.RowKit
def dk_WV1_laws_FnExactServedIn_10 : List (List Nat) := unqs [0, 0, 2, 4290, 1056961]
def fk_WV1_laws_FnExactServedIn_10 : List (List Nat) := unps 3 [24, 2, 5]

theorem opIns_cnt (p : DDue → Bool) (out : List DDue) (j : DJob) : (opIns out j).countP p = out.countP p + if p ⟨j.id, j.due⟩ then 1 else 0 := by
  unfold opIns
  rw [List.countP_append, List.countP_append]
  have : out.countP p = (out.take (opK out j.due out.length)).countP p + (out.drop (opK out j.due out.length)).countP p := by
    rw [← List.countP_append, List.take_append_drop]
  rw [this, List.countP_singleton]
  omega
theorem openS_cntP (p : DDue → Bool) {l : List DJob} (h : jobsOk l = true) : ∀ k, k ≤ l.length → (openS (l.take k)).countP p = (((l.take k).filter isOpen).map dOf).countP p
  | 0, _ => rfl
  | k + 1, hk => by
    have ih := openS_cntP p h k (by omega)
    have hb : 0 ≤ (l[k]'(by omega)).fired := by
      simp only [jobsOk, Bool.and_eq_true, List.all_eq_true] at h
      have := h.1.1.2 _ (List.getElem_mem (show k < l.length by omega))
      simp only [jobOk, betweenB, Bool.and_eq_true, decide_eq_true_eq] at this
      omega
    rw [openS_snoc l (by omega), filter_snocW isOpen (show k < l.length by omega)]
    by_cases hf : (l[k]'(by omega)).fired > 0
    · have : isOpen (l[k]'(by omega)) = false := by simp [isOpen]; omega
      rw [if_pos hf, this]
      simpa using ih
    · have : isOpen (l[k]'(by omega)) = true := by simp [isOpen]; omega
      rw [if_neg hf, this, opIns_cnt, ih, List.map_append, List.countP_append, if_pos rfl, List.map_singleton, List.countP_singleton]
      rfl
theorem due_len {l : List DJob} (h : jobsOk l = true) (t : Int) : (dueN (openI l) t).length = (dueN (openS l) t).length := by
  have h1 := openS_cntP (isDue t) h l.length (Nat.le_refl _)
  rw [List.take_length] at h1
  unfold dueN
  rw [List.length_map, List.length_map, ← List.countP_eq_length_filter, ← List.countP_eq_length_filter, h1]
  unfold openI
  rw [isortD_count _ _ _ (by omega)]
  rfl
def clientDone (c : DClient) : Bool := clientOk c && decide (((c.gots.map DGot.ds).length : Int) = ((c.todo.map DWant.ds).length : Int))
theorem iAllDone_p (c : DClient) (ht : c.todo.length ≤ 9223372036854775806) (hg : c.gots.length ≤ 9223372036854775806) : PCall av 173 [.agg c.ds] (rB (clientDone c)) := by
  cases h : clientOk c with
  | false =>
    have e : clientDone c = false := by simp [clientDone, h]
    rw [e]
    refine pcall_of av_ok Tryz.func173 rfl Tryz.call173 Tryz.ntmps173 (congrArg Array.toList Tryz.results173) fun S => ?_; conv => whnf
    repeat' (first | (refine aw0 ?_) | (refine awx ?_; conv => whnf) | fail | (refine ACall.pure (iClientOk_p c ht hg) rfl ?_; conv => whnf) | (refine AFCall.mk ⟨_, _, iClientOk_p c ht hg, .inl rfl, ?_⟩; conv => whnf) | (exact rr) | (refine And.intro rfl ?_; conv => whnf) | (refine AB.mk (fun h => ?_) (fun h => ?_) <;> (conv => whnf)))
    all_goals rfl
  | true =>
    have e : clientDone c = decide (((c.gots.map DGot.ds).length : Int) = ((c.todo.map DWant.ds).length : Int)) := by simp [clientDone, h]
    rw [e]
    refine pcall_of av_ok Tryz.func173 rfl Tryz.call173 Tryz.ntmps173 (congrArg Array.toList Tryz.results173) fun S => ?_; conv => whnf
    repeat' (first | (refine aw0 ?_) | (refine awx ?_; conv => whnf) | fail | (refine ACall.pure (iClientOk_p c ht hg) rfl ?_; conv => whnf) | (refine AFCall.mk ⟨_, _, iClientOk_p c ht hg, .inl rfl, ?_⟩; conv => whnf) | (exact rr) | (refine And.intro rfl ?_; conv => whnf) | (refine AB.mk (fun h => ?_) (fun h => ?_) <;> (conv => whnf)))
    all_goals rfl
theorem sAllDone_p (c : DClient) (ht : c.todo.length ≤ 9223372036854775806) (hg : c.gots.length ≤ 9223372036854775806) : PCall av 96 [.agg c.ds] (rB (clientDone c)) := by
  cases h : clientOk c with
  | false =>
    have e : clientDone c = false := by simp [clientDone, h]
    rw [e]
    refine pcall_of av_ok Tryz.func96 rfl Tryz.call96 Tryz.ntmps96 (congrArg Array.toList Tryz.results96) fun S => ?_; conv => whnf
    repeat' (first | (refine aw0 ?_) | (refine awx ?_; conv => whnf) | fail | (refine ACall.pure (sClientOk_p c ht hg) rfl ?_; conv => whnf) | (refine AFCall.mk ⟨_, _, sClientOk_p c ht hg, .inl rfl, ?_⟩; conv => whnf) | (exact rr) | (refine And.intro rfl ?_; conv => whnf) | (refine AB.mk (fun h => ?_) (fun h => ?_) <;> (conv => whnf)))
    all_goals rfl
  | true =>
    have e : clientDone c = decide (((c.gots.map DGot.ds).length : Int) = ((c.todo.map DWant.ds).length : Int)) := by simp [clientDone, h]
    rw [e]
    refine pcall_of av_ok Tryz.func96 rfl Tryz.call96 Tryz.ntmps96 (congrArg Array.toList Tryz.results96) fun S => ?_; conv => whnf
    repeat' (first | (refine aw0 ?_) | (refine awx ?_; conv => whnf) | fail | (refine ACall.pure (sClientOk_p c ht hg) rfl ?_; conv => whnf) | (refine AFCall.mk ⟨_, _, sClientOk_p c ht hg, .inl rfl, ?_⟩; conv => whnf) | (exact rr) | (refine And.intro rfl ?_; conv => whnf) | (refine AB.mk (fun h => ?_) (fun h => ?_) <;> (conv => whnf)))
    all_goals rfl
def dueLeft (w : DWorld) : Bool := decide ((((dueN (openS w.store.state.jobs) w.store.state.time).map eI).length : Int) = 0)
def servedB (w : DWorld) : Bool := worldOk w && (upAt w 1 && (clientDone w.ann && (clientDone w.bob && dueLeft w)))
theorem iservedIn_p (w : DWorld) (hs : DWorld.small 1048576 w) (hw : worldOk w = true) : PCall av 98 [.agg w.ds] (rB (upAt w 1 && (clientDone w.ann && (clientDone w.bob && dueLeft w)))) := by
  have h6 := world_up hw
  have h1 : w.ann.todo.length ≤ 9223372036854775806 ∧ w.ann.gots.length ≤ 9223372036854775806 := by have := hs.2.2.2.2.1; exact ⟨by have := this.1; omega, by have := this.2; omega⟩
  have h2 : w.bob.todo.length ≤ 9223372036854775806 ∧ w.bob.gots.length ≤ 9223372036854775806 := by have := hs.2.2.2.2.2.1; exact ⟨by have := this.1; omega, by have := this.2; omega⟩
  cases hu : upAt w 1 with
  | false =>
    refine pcall_of av_ok Tryz.func98 rfl Tryz.call98 Tryz.ntmps98 (congrArg Array.toList Tryz.results98) fun S => ?_; conv => whnf
    repeat' (first | (refine aw0 ?_) | (refine awx ?_; conv => whnf) | fail | (refine AIx.at 1 _ rfl (up_at h6 (by decide)) ?_; conv => whnf) | (exact rr) | (refine And.intro rfl ?_; conv => whnf) | (refine AB.mk (fun h => ?_) (fun h => ?_) <;> (conv => whnf)))
    all_goals rfl
  | true =>
    have hj := world_jobs hw hu
    cases ha : clientDone w.ann with
    | false =>
      refine pcall_of av_ok Tryz.func98 rfl Tryz.call98 Tryz.ntmps98 (congrArg Array.toList Tryz.results98) fun S => ?_; conv => whnf
      repeat' (first | (refine aw0 ?_) | (refine awx ?_; conv => whnf) | fail | (refine AIx.at 1 _ rfl (up_at h6 (by decide)) ?_; conv => whnf) | (refine ACall.pure (iAllDone_p w.ann h1.1 h1.2) rfl ?_; conv => whnf) | (refine AFCall.mk ⟨_, _, iAllDone_p w.ann h1.1 h1.2, .inl rfl, ?_⟩; conv => whnf) | (exact rr) | (refine And.intro rfl ?_; conv => whnf) | (refine AB.mk (fun h => ?_) (fun h => ?_) <;> (conv => whnf)))
      all_goals rfl
    | true =>
      cases hb : clientDone w.bob with
      | false =>
        refine pcall_of av_ok Tryz.func98 rfl Tryz.call98 Tryz.ntmps98 (congrArg Array.toList Tryz.results98) fun S => ?_; conv => whnf
        repeat' (first | (refine aw0 ?_) | (refine awx ?_; conv => whnf) | fail | (refine AIx.at 1 _ rfl (up_at h6 (by decide)) ?_; conv => whnf) | (refine ACall.pure (iAllDone_p w.ann h1.1 h1.2) rfl ?_; conv => whnf) | (refine AFCall.mk ⟨_, _, iAllDone_p w.ann h1.1 h1.2, .inl rfl, ?_⟩; conv => whnf) | (refine ACall.pure (iAllDone_p w.bob h2.1 h2.2) rfl ?_; conv => whnf) | (refine AFCall.mk ⟨_, _, iAllDone_p w.bob h2.1 h2.2, .inl rfl, ?_⟩; conv => whnf) | (exact rr) | (refine And.intro rfl ?_; conv => whnf) | (refine AB.mk (fun h => ?_) (fun h => ?_) <;> (conv => whnf)))
        all_goals rfl
      | true =>
        have e : dueLeft w = decide ((((dueN (openI w.store.state.jobs) w.store.state.time).map eI).length : Int) = 0) := by
          unfold dueLeft; rw [List.length_map, List.length_map, due_len hj]
        rw [e]
        refine pcall_of av_ok Tryz.func98 rfl Tryz.call98 Tryz.ntmps98 (congrArg Array.toList Tryz.results98) fun S => ?_; conv => whnf
        repeat' (first | (refine aw0 ?_) | (refine awx ?_; conv => whnf) | fail | (refine AIx.at 1 _ rfl (up_at h6 (by decide)) ?_; conv => whnf) | (refine ACall.pure (iAllDone_p w.ann h1.1 h1.2) rfl ?_; conv => whnf) | (refine AFCall.mk ⟨_, _, iAllDone_p w.ann h1.1 h1.2, .inl rfl, ?_⟩; conv => whnf) | (refine ACall.pure (iAllDone_p w.bob h2.1 h2.2) rfl ?_; conv => whnf) | (refine AFCall.mk ⟨_, _, iAllDone_p w.bob h2.1 h2.2, .inl rfl, ?_⟩; conv => whnf) | (refine ACall.pure (iDueJobs_p w.store.state.jobs w.store.state.time hj) rfl ?_; conv => whnf) | (refine AFCall.mk ⟨_, _, iDueJobs_p w.store.state.jobs w.store.state.time hj, .inl rfl, ?_⟩; conv => whnf) | (exact rr) | (refine And.intro rfl ?_; conv => whnf) | (refine AB.mk (fun h => ?_) (fun h => ?_) <;> (conv => whnf)))
        all_goals rfl
theorem iServedIn_p (w : DWorld) (hs : DWorld.small 1048576 w) : PCall av 27 [.agg w.ds] (rB (servedB w)) := by
  cases hw : worldOk w with
  | false =>
    have e : servedB w = false := by simp [servedB, hw]
    rw [e]
    refine pcall_of av_ok Tryz.func27 rfl Tryz.call27 Tryz.ntmps27 (congrArg Array.toList Tryz.results27) fun S => ?_; conv => whnf
    repeat' (first | (refine aw0 ?_) | (refine awx ?_; conv => whnf) | fail | (refine ACall.pure (iWorldOk_p w hs) rfl ?_; conv => whnf) | (refine AFCall.mk ⟨_, _, iWorldOk_p w hs, .inl rfl, ?_⟩; conv => whnf) | (exact rr) | (refine And.intro rfl ?_; conv => whnf) | (refine AB.mk (fun h => ?_) (fun h => ?_) <;> (conv => whnf)))
    all_goals rfl
  | true =>
    have e : servedB w = (upAt w 1 && (clientDone w.ann && (clientDone w.bob && dueLeft w))) := by simp [servedB, hw]
    rw [e]
    refine pcall_of av_ok Tryz.func27 rfl Tryz.call27 Tryz.ntmps27 (congrArg Array.toList Tryz.results27) fun S => ?_; conv => whnf
    repeat' (first | (refine aw0 ?_) | (refine awx ?_; conv => whnf) | fail | (refine ACall.pure (iWorldOk_p w hs) rfl ?_; conv => whnf) | (refine AFCall.mk ⟨_, _, iWorldOk_p w hs, .inl rfl, ?_⟩; conv => whnf) | (refine ACall.pure (iservedIn_p w hs hw) rfl ?_; conv => whnf) | (refine AFCall.mk ⟨_, _, iservedIn_p w hs hw, .inl rfl, ?_⟩; conv => whnf) | (exact rr) | (refine And.intro rfl ?_; conv => whnf) | (refine AB.mk (fun h => ?_) (fun h => ?_) <;> (conv => whnf)))
    all_goals rfl
theorem sServedIn_p (w : DWorld) (hs : DWorld.small 1048576 w) : PCall av 26 [.agg w.ds] (rB (servedB w)) := by
  have h1 : w.ann.todo.length ≤ 9223372036854775806 ∧ w.ann.gots.length ≤ 9223372036854775806 := by have := hs.2.2.2.2.1; exact ⟨by have := this.1; omega, by have := this.2; omega⟩
  have h2 : w.bob.todo.length ≤ 9223372036854775806 ∧ w.bob.gots.length ≤ 9223372036854775806 := by have := hs.2.2.2.2.2.1; exact ⟨by have := this.1; omega, by have := this.2; omega⟩
  cases hw : worldOk w with
  | false =>
    have e : servedB w = false := by simp [servedB, hw]
    have n1 : (!worldOk w) = true := by rw [hw]; rfl
    rw [e]
    refine pcall_of av_ok Tryz.func26 rfl Tryz.call26 Tryz.ntmps26 (congrArg Array.toList Tryz.results26) fun S => ?_; conv => whnf
    repeat' (first | (refine aw0 ?_) | (refine awx ?_; conv => whnf) | fail | (refine ACall.pure (sWorldOk_p w hs) rfl ?_; conv => whnf) | (refine AFCall.mk ⟨_, _, sWorldOk_p w hs, .inl rfl, ?_⟩; conv => whnf) | (exact rr) | (refine And.intro rfl ?_; conv => whnf) | (refine AB.mk (fun h => ?_) (fun h => ?_) <;> (conv => whnf)))
    all_goals rfl
  | true =>
    have h6 := world_up hw
    have n1 : (!worldOk w) = false := by rw [hw]; rfl
    cases hu : upAt w 1 with
    | false =>
      have e : servedB w = false := by simp [servedB, hw, hu]
      have n2 : (!upAt w 1) = true := by rw [hu]; rfl
      rw [e]
      refine pcall_of av_ok Tryz.func26 rfl Tryz.call26 Tryz.ntmps26 (congrArg Array.toList Tryz.results26) fun S => ?_; conv => whnf
      repeat' (first | (refine aw0 ?_) | (refine awx ?_; conv => whnf) | fail | (refine AIx.at 1 _ rfl (up_at h6 (by decide)) ?_; conv => whnf) | (refine ACall.pure (sWorldOk_p w hs) rfl ?_; conv => whnf) | (refine AFCall.mk ⟨_, _, sWorldOk_p w hs, .inl rfl, ?_⟩; conv => whnf) | (exact rr) | (refine And.intro rfl ?_; conv => whnf) | (refine AB.mk (fun h => ?_) (fun h => ?_) <;> (conv => whnf)))
      all_goals rfl
    | true =>
      have n2 : (!upAt w 1) = false := by rw [hu]; rfl
      have hj := world_jobs hw hu
      cases ha : clientDone w.ann with
      | false =>
        have e : servedB w = false := by simp [servedB, hw, hu, ha]
        have n3 : (!clientDone w.ann) = true := by rw [ha]; rfl
        rw [e]
        refine pcall_of av_ok Tryz.func26 rfl Tryz.call26 Tryz.ntmps26 (congrArg Array.toList Tryz.results26) fun S => ?_; conv => whnf
        repeat' (first | (refine aw0 ?_) | (refine awx ?_; conv => whnf) | fail | (refine AIx.at 1 _ rfl (up_at h6 (by decide)) ?_; conv => whnf) | (refine ACall.pure (sWorldOk_p w hs) rfl ?_; conv => whnf) | (refine AFCall.mk ⟨_, _, sWorldOk_p w hs, .inl rfl, ?_⟩; conv => whnf) | (refine ACall.pure (sAllDone_p w.ann h1.1 h1.2) rfl ?_; conv => whnf) | (refine AFCall.mk ⟨_, _, sAllDone_p w.ann h1.1 h1.2, .inl rfl, ?_⟩; conv => whnf) | (exact rr) | (refine And.intro rfl ?_; conv => whnf) | (refine AB.mk (fun h => ?_) (fun h => ?_) <;> (conv => whnf)))
        all_goals rfl
      | true =>
        have n3 : (!clientDone w.ann) = false := by rw [ha]; rfl
        cases hb : clientDone w.bob with
        | false =>
          have e : servedB w = false := by simp [servedB, hw, hu, ha, hb]
          have n4 : (!clientDone w.bob) = true := by rw [hb]; rfl
          rw [e]
          refine pcall_of av_ok Tryz.func26 rfl Tryz.call26 Tryz.ntmps26 (congrArg Array.toList Tryz.results26) fun S => ?_; conv => whnf
          repeat' (first | (refine aw0 ?_) | (refine awx ?_; conv => whnf) | fail | (refine AIx.at 1 _ rfl (up_at h6 (by decide)) ?_; conv => whnf) | (refine ACall.pure (sWorldOk_p w hs) rfl ?_; conv => whnf) | (refine AFCall.mk ⟨_, _, sWorldOk_p w hs, .inl rfl, ?_⟩; conv => whnf) | (refine ACall.pure (sAllDone_p w.ann h1.1 h1.2) rfl ?_; conv => whnf) | (refine AFCall.mk ⟨_, _, sAllDone_p w.ann h1.1 h1.2, .inl rfl, ?_⟩; conv => whnf) | (refine ACall.pure (sAllDone_p w.bob h2.1 h2.2) rfl ?_; conv => whnf) | (refine AFCall.mk ⟨_, _, sAllDone_p w.bob h2.1 h2.2, .inl rfl, ?_⟩; conv => whnf) | (exact rr) | (refine And.intro rfl ?_; conv => whnf) | (refine AB.mk (fun h => ?_) (fun h => ?_) <;> (conv => whnf)))
          all_goals rfl
        | true =>
          have n4 : (!clientDone w.bob) = false := by rw [hb]; rfl
          have e : servedB w = dueLeft w := by simp [servedB, hw, hu, ha, hb]
          rw [e]
          refine pcall_of av_ok Tryz.func26 rfl Tryz.call26 Tryz.ntmps26 (congrArg Array.toList Tryz.results26) fun S => ?_; conv => whnf
          repeat' (first | (refine aw0 ?_) | (refine awx ?_; conv => whnf) | fail | (refine AIx.at 1 _ rfl (up_at h6 (by decide)) ?_; conv => whnf) | (refine ACall.pure (sWorldOk_p w hs) rfl ?_; conv => whnf) | (refine AFCall.mk ⟨_, _, sWorldOk_p w hs, .inl rfl, ?_⟩; conv => whnf) | (refine ACall.pure (sAllDone_p w.ann h1.1 h1.2) rfl ?_; conv => whnf) | (refine AFCall.mk ⟨_, _, sAllDone_p w.ann h1.1 h1.2, .inl rfl, ?_⟩; conv => whnf) | (refine ACall.pure (sAllDone_p w.bob h2.1 h2.2) rfl ?_; conv => whnf) | (refine AFCall.mk ⟨_, _, sAllDone_p w.bob h2.1 h2.2, .inl rfl, ?_⟩; conv => whnf) | (refine ACall.pure (sDueJobs_p w.store.state.jobs w.store.state.time hj) rfl ?_; conv => whnf) | (refine AFCall.mk ⟨_, _, sDueJobs_p w.store.state.jobs w.store.state.time hj, .inl rfl, ?_⟩; conv => whnf) | (exact rr) | (refine And.intro rfl ?_; conv => whnf) | (refine AB.mk (fun h => ?_) (fun h => ?_) <;> (conv => whnf)))
          all_goals rfl
theorem lawServedIn_p (w : DWorld) (hs : DWorld.small 9223372036854775807 w) : PCall av 8 [.agg w.ds] (rB true) := by
  refine pcall_of av_ok Tryz.func8 rfl Tryz.call8 Tryz.ntmps8 (congrArg Array.toList Tryz.results8) fun S => ?_; conv => whnf
  repeat' (first | (refine aw0 ?_) | (refine awx ?_; conv => whnf) | fail | (refine ACall.pure (szWorld_p w 1048576 (by decide) (by decide) hs) rfl ?_; conv => whnf) | (refine AFCall.mk ⟨_, _, szWorld_p w 1048576 (by decide) (by decide) hs, .inl rfl, ?_⟩; conv => whnf) | (exact rr) | (refine And.intro rfl ?_; conv => whnf) | (refine AB.mk (fun h => ?_) (fun h => ?_) <;> (conv => whnf)))
  have hc : w.cnt ≤ 1048576 := by
    simp only [decide_eq_false_iff_not] at h
    omega
  have hs' : DWorld.small 1048576 w := DWorld.cnt_small hc
  clear h
  repeat' (first | (refine aw0 ?_) | (refine awx ?_; conv => whnf) | fail | (refine AWP.drawK av_ok 10 3 dk_WV1_laws_FnExactServedIn_10 fk_WV1_laws_FnExactServedIn_10 (by kernel_rfl) (by kernel_rfl) (by kernel_rfl) rfl ?_; conv => whnf) | (refine ACall.pure (toWorld_p w hs') rfl ?_; conv => whnf) | (refine AFCall.mk ⟨_, _, toWorld_p w hs', .inl rfl, ?_⟩; conv => whnf) | (refine ACall.pure (sServedIn_p w hs') rfl ?_; conv => whnf) | (refine AFCall.mk ⟨_, _, sServedIn_p w hs', .inl rfl, ?_⟩; conv => whnf) | (refine ACall.pure (iServedIn_p w hs') rfl ?_; conv => whnf) | (refine AFCall.mk ⟨_, _, iServedIn_p w hs', .inl rfl, ?_⟩; conv => whnf) | (refine ACall.pure (eqWorld_p w hs') rfl ?_; conv => whnf) | (refine AFCall.mk ⟨_, _, eqWorld_p w hs', .inl rfl, ?_⟩; conv => whnf) | (exact rr) | (refine And.intro rfl ?_; conv => whnf) | (refine AB.mk (fun h => ?_) (fun h => ?_) <;> (conv => whnf)))
  all_goals first
    | rfl
    | (exfalso; simp at h; done)
end Go.Proofs.YtmgcnmdbhahhlaaGreat
