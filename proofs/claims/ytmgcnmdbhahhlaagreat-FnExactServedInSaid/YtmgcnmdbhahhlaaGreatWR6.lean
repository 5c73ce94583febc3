/- Chosen jobs; StoreReport: both sides. -/
import Derived.Test.YtmgcnmdbhahhlaaGreatWR4
set_option linter.unusedVariables false
set_option linter.unusedSimpArgs false
set_option maxRecDepth 100000
namespace Go.Proofs.YtmgcnmdbhahhlaaGreat
open Go.ChangeShapes Go.WideShapes Go.RowKit

theorem filter_snocW {α : Type} (p : α → Bool) {l : List α} {k : Nat} (hk : k < l.length) : (l.take (k + 1)).filter p = (l.take k).filter p ++ if p l[k] then [l[k]] else [] := by
  rw [take_snocM hk, List.filter_append]
  congr 1
  cases h : p l[k] <;> simp [h]
theorem filter_lenW {α : Type} (p : α → Bool) (l : List α) (k : Nat) : ((l.take k).filter p).length ≤ l.length := by
  have h1 := List.length_filter_le p (l.take k)
  have h2 : (l.take k).length ≤ l.length := by simp; omega
  omega
def isOpen (j : DJob) : Bool := j.fired == 0
def isShut (j : DJob) : Bool := j.fired != 0
theorem iJob_openp (j : DJob) : PCall av 91 [.agg j.ds] (rB (isOpen j)) := by
  refine pcall_of av_ok Tryz.func91 rfl Tryz.call91 Tryz.ntmps91 (congrArg Array.toList Tryz.results91) fun S => ?_; conv => whnf
  repeat' (first | (refine aw0 ?_) | (refine awx ?_; conv => whnf) | fail | (exact rr) | (refine And.intro rfl ?_; conv => whnf) | (refine AB.mk (fun h => ?_) (fun h => ?_) <;> (conv => whnf)))
  all_goals rfl
theorem ichosen_openp (l : List DJob) (h8 : l.length ≤ 8) : PCall av 90 [.one (.sl (l.map DJob.ds)), .one (.pv (.func (.func 91) #[] #[]))] (.val (.one (.sl ((l.filter isOpen).map DJob.ds)))) := by
  refine pcall_of av_ok Tryz.func90 rfl Tryz.call90 Tryz.ntmps90 (congrArg Array.toList Tryz.results90) fun S => ?_; conv => whnf
  repeat' (first | (refine aw0 ?_) | (refine awx ?_; conv => whnf) | fail | (exact rr) | (refine And.intro rfl ?_; conv => whnf) | (refine AB.mk (fun h => ?_) (fun h => ?_) <;> (conv => whnf)))
  refine AWP.loopS (fun k : Nat => k ≤ l.length) (8 :: [5, 7, 11, 12, 13, 14, 15, 16, 17, 18, 19, 20, 21, 22]) (fun k => [(5, .one (.own 8)), (11, vI .i64 (k : Int))]) (fun k => [(8, .row 168 5 (((l.take k).filter isOpen).map DJob.ds))]) (fun k => l.length - k) 0 (by omega) ?_ (SubO.cons rfl SubO.nil) (fun k hR => ?_) <;> (conv => whnf)
  · exact whd
  · by_cases hlt : k < l.length
    · have hc : decide ((k : Int) < ((l.map DJob.ds).length : Int)) = true := by simp; omega
      have hs := filter_snocW isOpen hlt
      have hl := filter_lenW isOpen l k
      cases hb : isOpen l[k] with
      | true =>
        rw [hb] at hs
        repeat' (first | (refine aw0 ?_) | (refine awx ?_; conv => whnf) | fail | (refine AIx.map hlt ?_; conv => whnf) | (refine ACall.pure (iJob_openp _) rfl ?_; conv => whnf) | (refine AFCall.mk ⟨_, _, iJob_openp _, .inl rfl, ?_⟩; conv => whnf) | (refine sz_appW (by simp <;> omega) ?_; conv => whnf) | (refine AW.i64 (by omega) (by omega) ?_; conv => whnf) | (exact rr) | (refine And.intro rfl ?_; conv => whnf) | (refine AB.mk (fun h => ?_) (fun h => ?_) <;> (conv => whnf)))
        refine ANext.mk ⟨k + 1, hlt, by omega, ?_, SubO.cons (congrArg some (congrArg (AO.row 168 5) (by rw [hs, List.map_append]; rfl))) SubO.nil⟩
        exact hds
      | false =>
        rw [hb] at hs
        repeat' (first | (refine aw0 ?_) | (refine awx ?_; conv => whnf) | fail | (refine AIx.map hlt ?_; conv => whnf) | (refine ACall.pure (iJob_openp _) rfl ?_; conv => whnf) | (refine AFCall.mk ⟨_, _, iJob_openp _, .inl rfl, ?_⟩; conv => whnf) | (refine AW.i64 (by omega) (by omega) ?_; conv => whnf) | (exact rr) | (refine And.intro rfl ?_; conv => whnf) | (refine AB.mk (fun h => ?_) (fun h => ?_) <;> (conv => whnf)))
        refine ANext.mk ⟨k + 1, hlt, by omega, ?_, SubO.cons (congrArg some (congrArg (AO.row 168 5) (by rw [hs]; simp))) SubO.nil⟩
        exact hds
    · have hc : decide ((k : Int) < ((l.map DJob.ds).length : Int)) = false := by simp; omega
      have e : l.take k = l := List.take_of_length_le (by omega)
      rw [e]
      repeat' (first | (refine aw0 ?_) | (refine awx ?_; conv => whnf) | fail | (exact rr) | (refine And.intro rfl ?_; conv => whnf) | (refine AB.mk (fun h => ?_) (fun h => ?_) <;> (conv => whnf)))
theorem iJob_closedp (j : DJob) : PCall av 93 [.agg j.ds] (rB (isShut j)) := by
  refine pcall_of av_ok Tryz.func93 rfl Tryz.call93 Tryz.ntmps93 (congrArg Array.toList Tryz.results93) fun S => ?_; conv => whnf
  repeat' (first | (refine aw0 ?_) | (refine awx ?_; conv => whnf) | fail | (exact rr) | (refine And.intro rfl ?_; conv => whnf) | (refine AB.mk (fun h => ?_) (fun h => ?_) <;> (conv => whnf)))
  all_goals rfl
theorem ichosen_closedp (l : List DJob) (h8 : l.length ≤ 8) : PCall av 90 [.one (.sl (l.map DJob.ds)), .one (.pv (.func (.func 93) #[] #[]))] (.val (.one (.sl ((l.filter isShut).map DJob.ds)))) := by
  refine pcall_of av_ok Tryz.func90 rfl Tryz.call90 Tryz.ntmps90 (congrArg Array.toList Tryz.results90) fun S => ?_; conv => whnf
  repeat' (first | (refine aw0 ?_) | (refine awx ?_; conv => whnf) | fail | (exact rr) | (refine And.intro rfl ?_; conv => whnf) | (refine AB.mk (fun h => ?_) (fun h => ?_) <;> (conv => whnf)))
  refine AWP.loopS (fun k : Nat => k ≤ l.length) (8 :: [5, 7, 11, 12, 13, 14, 15, 16, 17, 18, 19, 20, 21, 22]) (fun k => [(5, .one (.own 8)), (11, vI .i64 (k : Int))]) (fun k => [(8, .row 168 5 (((l.take k).filter isShut).map DJob.ds))]) (fun k => l.length - k) 0 (by omega) ?_ (SubO.cons rfl SubO.nil) (fun k hR => ?_) <;> (conv => whnf)
  · exact whd
  · by_cases hlt : k < l.length
    · have hc : decide ((k : Int) < ((l.map DJob.ds).length : Int)) = true := by simp; omega
      have hs := filter_snocW isShut hlt
      have hl := filter_lenW isShut l k
      cases hb : isShut l[k] with
      | true =>
        rw [hb] at hs
        repeat' (first | (refine aw0 ?_) | (refine awx ?_; conv => whnf) | fail | (refine AIx.map hlt ?_; conv => whnf) | (refine ACall.pure (iJob_closedp _) rfl ?_; conv => whnf) | (refine AFCall.mk ⟨_, _, iJob_closedp _, .inl rfl, ?_⟩; conv => whnf) | (refine sz_appW (by simp <;> omega) ?_; conv => whnf) | (refine AW.i64 (by omega) (by omega) ?_; conv => whnf) | (exact rr) | (refine And.intro rfl ?_; conv => whnf) | (refine AB.mk (fun h => ?_) (fun h => ?_) <;> (conv => whnf)))
        refine ANext.mk ⟨k + 1, hlt, by omega, ?_, SubO.cons (congrArg some (congrArg (AO.row 168 5) (by rw [hs, List.map_append]; rfl))) SubO.nil⟩
        exact hds
      | false =>
        rw [hb] at hs
        repeat' (first | (refine aw0 ?_) | (refine awx ?_; conv => whnf) | fail | (refine AIx.map hlt ?_; conv => whnf) | (refine ACall.pure (iJob_closedp _) rfl ?_; conv => whnf) | (refine AFCall.mk ⟨_, _, iJob_closedp _, .inl rfl, ?_⟩; conv => whnf) | (refine AW.i64 (by omega) (by omega) ?_; conv => whnf) | (exact rr) | (refine And.intro rfl ?_; conv => whnf) | (refine AB.mk (fun h => ?_) (fun h => ?_) <;> (conv => whnf)))
        refine ANext.mk ⟨k + 1, hlt, by omega, ?_, SubO.cons (congrArg some (congrArg (AO.row 168 5) (by rw [hs]; simp))) SubO.nil⟩
        exact hds
    · have hc : decide ((k : Int) < ((l.map DJob.ds).length : Int)) = false := by simp; omega
      have e : l.take k = l := List.take_of_length_le (by omega)
      rw [e]
      repeat' (first | (refine aw0 ?_) | (refine awx ?_; conv => whnf) | fail | (exact rr) | (refine And.intro rfl ?_; conv => whnf) | (refine AB.mk (fun h => ?_) (fun h => ?_) <;> (conv => whnf)))
def storeL (s : DStore) : List Int := [s.state.index, s.state.time, s.state.pairs.length, (s.state.jobs.filter isOpen).length, (s.state.jobs.filter isShut).length, s.last, s.busy]
theorem iSt1_p (s : DStore) : PCall av 86 [.agg s.ds] (.val (pI (s.state.index))) := by
  refine pcall_of av_ok Tryz.func86 rfl Tryz.call86 Tryz.ntmps86 (congrArg Array.toList Tryz.results86) fun S => ?_; conv => whnf
  repeat' (first | (refine aw0 ?_) | (refine awx ?_; conv => whnf) | fail | (exact rr) | (refine And.intro rfl ?_; conv => whnf) | (refine AB.mk (fun h => ?_) (fun h => ?_) <;> (conv => whnf)))
  all_goals simp
theorem iSt2_p (s : DStore) : PCall av 87 [.agg s.ds] (.val (pI (s.state.time))) := by
  refine pcall_of av_ok Tryz.func87 rfl Tryz.call87 Tryz.ntmps87 (congrArg Array.toList Tryz.results87) fun S => ?_; conv => whnf
  repeat' (first | (refine aw0 ?_) | (refine awx ?_; conv => whnf) | fail | (exact rr) | (refine And.intro rfl ?_; conv => whnf) | (refine AB.mk (fun h => ?_) (fun h => ?_) <;> (conv => whnf)))
  all_goals simp
theorem iSt3_p (s : DStore) : PCall av 88 [.agg s.ds] (.val (pI (s.state.pairs.length))) := by
  refine pcall_of av_ok Tryz.func88 rfl Tryz.call88 Tryz.ntmps88 (congrArg Array.toList Tryz.results88) fun S => ?_; conv => whnf
  repeat' (first | (refine aw0 ?_) | (refine awx ?_; conv => whnf) | fail | (exact rr) | (refine And.intro rfl ?_; conv => whnf) | (refine AB.mk (fun h => ?_) (fun h => ?_) <;> (conv => whnf)))
  all_goals simp
theorem iSt6_p (s : DStore) : PCall av 94 [.agg s.ds] (.val (pI (s.last))) := by
  refine pcall_of av_ok Tryz.func94 rfl Tryz.call94 Tryz.ntmps94 (congrArg Array.toList Tryz.results94) fun S => ?_; conv => whnf
  repeat' (first | (refine aw0 ?_) | (refine awx ?_; conv => whnf) | fail | (exact rr) | (refine And.intro rfl ?_; conv => whnf) | (refine AB.mk (fun h => ?_) (fun h => ?_) <;> (conv => whnf)))
  all_goals simp
theorem iSt7_p (s : DStore) : PCall av 95 [.agg s.ds] (.val (pI (s.busy))) := by
  refine pcall_of av_ok Tryz.func95 rfl Tryz.call95 Tryz.ntmps95 (congrArg Array.toList Tryz.results95) fun S => ?_; conv => whnf
  repeat' (first | (refine aw0 ?_) | (refine awx ?_; conv => whnf) | fail | (exact rr) | (refine And.intro rfl ?_; conv => whnf) | (refine AB.mk (fun h => ?_) (fun h => ?_) <;> (conv => whnf)))
  all_goals simp
theorem iSt4_p (s : DStore) (h8 : s.state.jobs.length ≤ 8) : PCall av 89 [.agg s.ds] (.val (pI ((s.state.jobs.filter isOpen).length : Int))) := by
  refine pcall_of av_ok Tryz.func89 rfl Tryz.call89 Tryz.ntmps89 (congrArg Array.toList Tryz.results89) fun S => ?_; conv => whnf
  repeat' (first | (refine aw0 ?_) | (refine awx ?_; conv => whnf) | fail | (refine ACall.pure (ichosen_openp s.state.jobs h8) rfl ?_; conv => whnf) | (refine AFCall.mk ⟨_, _, ichosen_openp s.state.jobs h8, .inl rfl, ?_⟩; conv => whnf) | (exact rr) | (refine And.intro rfl ?_; conv => whnf) | (refine AB.mk (fun h => ?_) (fun h => ?_) <;> (conv => whnf)))
  all_goals simp
theorem iSt5_p (s : DStore) (h8 : s.state.jobs.length ≤ 8) : PCall av 92 [.agg s.ds] (.val (pI ((s.state.jobs.filter isShut).length : Int))) := by
  refine pcall_of av_ok Tryz.func92 rfl Tryz.call92 Tryz.ntmps92 (congrArg Array.toList Tryz.results92) fun S => ?_; conv => whnf
  repeat' (first | (refine aw0 ?_) | (refine awx ?_; conv => whnf) | fail | (refine ACall.pure (ichosen_closedp s.state.jobs h8) rfl ?_; conv => whnf) | (refine AFCall.mk ⟨_, _, ichosen_closedp s.state.jobs h8, .inl rfl, ?_⟩; conv => whnf) | (exact rr) | (refine And.intro rfl ?_; conv => whnf) | (refine AB.mk (fun h => ?_) (fun h => ?_) <;> (conv => whnf)))
  all_goals simp
theorem reportSt_f (s : DStore) (h8 : s.state.jobs.length ≤ 8) : FCall av 85 [.agg s.ds, .one (.sl [pF 86, pF 87, pF 88, pF 89, pF 92, pF 94, pF 95])] (.one (.sl ((storeL s).map eI))) := by
  refine fcall_of av_ok Tryz.func85 rfl Tryz.call85 Tryz.ntmps85 (congrArg Array.toList Tryz.results85) fun S => ?_; conv => whnf
  repeat' (first | (refine aw0 ?_) | (refine awx ?_; conv => whnf) | fail | (exact rr) | (refine And.intro rfl ?_; conv => whnf) | (refine AB.mk (fun h => ?_) (fun h => ?_) <;> (conv => whnf)))
  refine AWP.unroll 8 ?_
  conv => whnf
  repeat' (first | (refine aw0 ?_) | (refine awx ?_; conv => whnf) | fail | ((first | refine AIx.at 0 _ rfl rfl ?_ | refine AIx.at 1 _ rfl rfl ?_ | refine AIx.at 2 _ rfl rfl ?_ | refine AIx.at 3 _ rfl rfl ?_ | refine AIx.at 4 _ rfl rfl ?_ | refine AIx.at 5 _ rfl rfl ?_ | refine AIx.at 6 _ rfl rfl ?_); conv => whnf) | (refine ACall.pure (iSt1_p s) rfl ?_; conv => whnf) | (refine AFCall.mk ⟨_, _, iSt1_p s, .inl rfl, ?_⟩; conv => whnf) | (refine ACall.pure (iSt2_p s) rfl ?_; conv => whnf) | (refine AFCall.mk ⟨_, _, iSt2_p s, .inl rfl, ?_⟩; conv => whnf) | (refine ACall.pure (iSt3_p s) rfl ?_; conv => whnf) | (refine AFCall.mk ⟨_, _, iSt3_p s, .inl rfl, ?_⟩; conv => whnf) | (refine ACall.pure (iSt4_p s h8) rfl ?_; conv => whnf) | (refine AFCall.mk ⟨_, _, iSt4_p s h8, .inl rfl, ?_⟩; conv => whnf) | (refine ACall.pure (iSt5_p s h8) rfl ?_; conv => whnf) | (refine AFCall.mk ⟨_, _, iSt5_p s h8, .inl rfl, ?_⟩; conv => whnf) | (refine ACall.pure (iSt6_p s) rfl ?_; conv => whnf) | (refine AFCall.mk ⟨_, _, iSt6_p s, .inl rfl, ?_⟩; conv => whnf) | (refine ACall.pure (iSt7_p s) rfl ?_; conv => whnf) | (refine AFCall.mk ⟨_, _, iSt7_p s, .inl rfl, ?_⟩; conv => whnf) | (refine AW.i64 (by decide) (by decide) ?_; conv => whnf) | (refine And.intro (by decide) ?_; conv => whnf) | (refine And.intro (by simp) ?_; conv => whnf) | (exact rr) | (refine And.intro rfl ?_; conv => whnf) | (refine AB.mk (fun h => ?_) (fun h => ?_) <;> (conv => whnf)))
  exact ⟨_, _, (storeL s).map eI, Nat.le_refl _, Fam.blank (lo := S.w0.heap.size) (hi := S.w0.heap.size) rfl, rfl, (fun y hy => by obtain ⟨a, _, rfl⟩ := List.mem_map.1 hy; rfl), rfl⟩
theorem world_jobs {w : DWorld} (h : worldOk w = true) (h1 : upAt w 1 = true) : jobsOk w.store.state.jobs = true := by
  have := world_store h h1
  simp only [storeOk, stateOk, Bool.and_eq_true] at this
  exact this.1.1.1.1.2.1.1.2
theorem openS_count {l : List DJob} (h : jobsOk l = true) : ∀ k, k ≤ l.length → (openS (l.take k)).length = ((l.take k).filter isOpen).length
  | 0, _ => rfl
  | k + 1, hk => by
    have ih := openS_count h k (by omega)
    have hb : 0 ≤ (l[k]'(by omega)).fired := by
      simp only [jobsOk, Bool.and_eq_true, List.all_eq_true] at h
      have := h.1.1.2 _ (List.getElem_mem (show k < l.length by omega))
      simp only [jobOk, betweenB, Bool.and_eq_true, decide_eq_true_eq] at this
      omega
    rw [openS_snoc l (by omega), filter_snocW isOpen (show k < l.length by omega)]
    by_cases hf : (l[k]'(by omega)).fired > 0
    · have : isOpen (l[k]'(by omega)) = false := by simp [isOpen]; omega
      rw [if_pos hf, this]
      simpa using ih
    · have : isOpen (l[k]'(by omega)) = true := by simp [isOpen]; omega
      rw [if_neg hf, this, opIns_len]
      simp [ih]
theorem openS_cnt {l : List DJob} (h : jobsOk l = true) : (openS l).length = (l.filter isOpen).length := by
  have := openS_count h l.length (Nat.le_refl _)
  rwa [List.take_length] at this
theorem shut_cnt (l : List DJob) : (l.filter isOpen).length + (l.filter isShut).length = l.length := by
  induction l with
  | nil => rfl
  | cons a r ih =>
    cases h : isOpen a with
    | true =>
      have h2 : isShut a = false := by simp [isOpen, isShut] at *; exact h
      simp [h, h2]; omega
    | false =>
      have h2 : isShut a = true := by simp [isOpen, isShut] at *; exact h
      simp [h, h2]; omega
def repStoreReport (w : DWorld) : List Int := if worldOk w && upAt w 1 then storeL w.store else []
theorem repStoreReport_len (w : DWorld) (hs : DWorld.small 1048576 w) : (repStoreReport w).length ≤ 1048576 := by
  unfold repStoreReport storeL
  split <;> simp
theorem iStoreReport_f (w : DWorld) (hs : DWorld.small 1048576 w) : FCall av 25 [.agg w.ds] (.one (.sl ((repStoreReport w).map eI))) := by
  cases h : (worldOk w && upAt w 1) with
  | false =>
    have hn : (!(worldOk w && upAt w 1)) = true := by rw [h]; rfl
    have e : repStoreReport w = [] := by simp [repStoreReport, h]
    rw [e]
    refine fcall_of av_ok Tryz.func25 rfl Tryz.call25 Tryz.ntmps25 (congrArg Array.toList Tryz.results25) fun S => ?_; conv => whnf
    repeat' (first | (refine aw0 ?_) | (refine awx ?_; conv => whnf) | fail | (refine ACall.pure (iUpIn_p w 1 (by decide) hs) rfl ?_; conv => whnf) | (refine AFCall.mk ⟨_, _, iUpIn_p w 1 (by decide) hs, .inl rfl, ?_⟩; conv => whnf) | (exact rr) | (refine And.intro rfl ?_; conv => whnf) | (refine AB.mk (fun h => ?_) (fun h => ?_) <;> (conv => whnf)))
    all_goals rfl
  | true =>
    have hn : (!(worldOk w && upAt w 1)) = false := by rw [h]; rfl
    have e : repStoreReport w = storeL w.store := by simp [repStoreReport, h]
    rw [e]
    rw [Bool.and_eq_true] at h
    have h8 := jobs_8 (world_jobs h.1 h.2)
    refine fcall_of av_ok Tryz.func25 rfl Tryz.call25 Tryz.ntmps25 (congrArg Array.toList Tryz.results25) fun S => ?_; conv => whnf
    repeat' (first | (refine aw0 ?_) | (refine awx ?_; conv => whnf) | fail | (refine ACall.pure (iUpIn_p w 1 (by decide) hs) rfl ?_; conv => whnf) | (refine AFCall.mk ⟨_, _, iUpIn_p w 1 (by decide) hs, .inl rfl, ?_⟩; conv => whnf) | (exact rr) | (refine And.intro rfl ?_; conv => whnf) | (refine AB.mk (fun h => ?_) (fun h => ?_) <;> (conv => whnf)))
    refine ACall.fresh (reportSt_f w.store h8) rfl rfl fun R lo hi a b F => ?_
    conv => whnf
    repeat' (first | (refine aw0 ?_) | (refine awx ?_; conv => whnf) | fail | (exact rr) | (refine And.intro rfl ?_; conv => whnf) | (refine AB.mk (fun h => ?_) (fun h => ?_) <;> (conv => whnf)))
    exact ⟨lo, hi, _, a, F, rfl⟩
theorem sStoreReport_p (w : DWorld) (hs : DWorld.small 1048576 w) : PCall av 24 [.agg w.ds] (.val (.one (.sl ((repStoreReport w).map eI)))) := by
  cases hw : worldOk w with
  | false =>
    have hn : (!worldOk w) = true := by rw [hw]; rfl
    have e : repStoreReport w = [] := by simp [repStoreReport, hw]
    rw [e]
    refine pcall_of av_ok Tryz.func24 rfl Tryz.call24 Tryz.ntmps24 (congrArg Array.toList Tryz.results24) fun S => ?_; conv => whnf
    repeat' (first | (refine aw0 ?_) | (refine awx ?_; conv => whnf) | fail | (refine ACall.pure (sWorldOk_p w hs) rfl ?_; conv => whnf) | (refine AFCall.mk ⟨_, _, sWorldOk_p w hs, .inl rfl, ?_⟩; conv => whnf) | (exact rr) | (refine And.intro rfl ?_; conv => whnf) | (refine AB.mk (fun h => ?_) (fun h => ?_) <;> (conv => whnf)))
    all_goals rfl
  | true =>
    have hn : (!worldOk w) = false := by rw [hw]; rfl
    have h6 := world_up hw
    cases hu : upAt w 1 with
    | false =>
      have hn2 : (!upAt w 1) = true := by rw [hu]; rfl
      have e : repStoreReport w = [] := by simp [repStoreReport, hu]
      rw [e]
      refine pcall_of av_ok Tryz.func24 rfl Tryz.call24 Tryz.ntmps24 (congrArg Array.toList Tryz.results24) fun S => ?_; conv => whnf
      repeat' (first | (refine aw0 ?_) | (refine awx ?_; conv => whnf) | fail | (refine ACall.pure (sWorldOk_p w hs) rfl ?_; conv => whnf) | (refine AFCall.mk ⟨_, _, sWorldOk_p w hs, .inl rfl, ?_⟩; conv => whnf) | (refine AIx.at 1 _ rfl (up_at h6 (by decide)) ?_; conv => whnf) | (exact rr) | (refine And.intro rfl ?_; conv => whnf) | (refine AB.mk (fun h => ?_) (fun h => ?_) <;> (conv => whnf)))
      all_goals rfl
    | true =>
      have hn2 : (!upAt w 1) = false := by rw [hu]; rfl
      have hj := world_jobs hw hu
      have h8 := jobs_8 hj
      have hc := openS_cnt hj
      have hd := shut_cnt w.store.state.jobs
      have ho : ((openS w.store.state.jobs).map DDue.ds).length ≤ 8 := by simp; omega
      have e : repStoreReport w = storeL w.store := by simp [repStoreReport, hw, hu]
      rw [e]
      refine pcall_of av_ok Tryz.func24 rfl Tryz.call24 Tryz.ntmps24 (congrArg Array.toList Tryz.results24) fun S => ?_; conv => whnf
      repeat' (first | (refine aw0 ?_) | (refine awx ?_; conv => whnf) | fail | (refine ACall.pure (sWorldOk_p w hs) rfl ?_; conv => whnf) | (refine AFCall.mk ⟨_, _, sWorldOk_p w hs, .inl rfl, ?_⟩; conv => whnf) | (refine AIx.at 1 _ rfl (up_at h6 (by decide)) ?_; conv => whnf) | (refine ACall.pure (sOpenJobs_p w.store.state.jobs hj) rfl ?_; conv => whnf) | (refine AFCall.mk ⟨_, _, sOpenJobs_p w.store.state.jobs hj, .inl rfl, ?_⟩; conv => whnf) | (refine AW.i64 (by simp only [List.length_map] at *; omega) (by simp only [List.length_map] at *; omega) ?_; conv => whnf) | (exact rr) | (refine And.intro rfl ?_; conv => whnf) | (refine AB.mk (fun h => ?_) (fun h => ?_) <;> (conv => whnf)))
      have e1 : ((w.store.state.jobs.map DJob.ds).length : Int) - (((openS w.store.state.jobs).map DDue.ds).length : Int) = (w.store.state.jobs.filter isShut).length := by simp only [List.length_map]; omega
      have e2 : (((openS w.store.state.jobs).map DDue.ds).length : Int) = (w.store.state.jobs.filter isOpen).length := by simp only [List.length_map]; omega
      rw [e1, e2, List.length_map]
      rfl
end Go.Proofs.YtmgcnmdbhahhlaaGreat
