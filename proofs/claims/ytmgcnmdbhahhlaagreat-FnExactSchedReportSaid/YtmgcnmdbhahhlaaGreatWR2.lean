/- SchedReport: both sides. -/
import Derived.Test.YtmgcnmdbhahhlaaGreatJ15
set_option linter.unusedVariables false
set_option linter.unusedSimpArgs false
set_option maxRecDepth 100000
namespace Go.Proofs.YtmgcnmdbhahhlaaGreat
open Go.ChangeShapes Go.WideShapes Go.RowKit
def dk_WR2_spec_SchedReport_6 : List (List Nat) := unqs [0, 1, 0, 3, 259, 0, 6, 454, 33159, 0, 10, 2325278261406892746, 897173367646591930434]
def fk_WR2_spec_SchedReport_6 : List (List Nat) := unps 11 [177138, 177139, 176912, 176921, 176948, 157706, 157949, 158678, 160865, 19682, 39365]

theorem iSchedAt1_c (b o : Nat) (w : World) : Calls av.P 170 #[.pointer (some ⟨b, o, none⟩)] w fun e w' => e = .returned (.pointer (some ⟨b, o + 31, none⟩)) ∧ w' = w := by
  show Calls Tryz.prog 170 _ w _
  go_enter Tryz.func170, Tryz.ntmps170
  go_wp2
  go_ret
  exact ⟨rfl, rfl⟩
theorem iSchedAt2_c (b o : Nat) (w : World) : Calls av.P 171 #[.pointer (some ⟨b, o, none⟩)] w fun e w' => e = .returned (.pointer (some ⟨b, o + 46, none⟩)) ∧ w' = w := by
  show Calls Tryz.prog 171 _ w _
  go_enter Tryz.func171, Tryz.ntmps171
  go_wp2
  go_ret
  exact ⟨rfl, rfl⟩
theorem ischedIn2_p : PCall av 79 [pI 2] (.val (.one (.pv (.func (.func 170) #[] #[])))) := by
  refine pcall_of av_ok Tryz.func79 rfl Tryz.call79 Tryz.ntmps79 (congrArg Array.toList Tryz.results79) fun S => ?_; conv => whnf
  repeat' (first | (refine aw0 ?_) | ((first | refine aw1 ?_ | refine aw2 ?_ | refine aw3 ?_ | refine aw4 ?_ | refine aw5 ?_ | refine aw6 ?_ | refine aw7 ?_ | refine aw8 ?_); conv => whnf) | ((first | refine bT ?_ | refine bF ?_); conv => whnf) | (exact rr) | (refine And.intro rfl ?_; conv => whnf) | (refine AB.mk (fun h => ?_) (fun h => ?_) <;> (conv => whnf)))
theorem ischedIn3_p : PCall av 79 [pI 3] (.val (.one (.pv (.func (.func 171) #[] #[])))) := by
  refine pcall_of av_ok Tryz.func79 rfl Tryz.call79 Tryz.ntmps79 (congrArg Array.toList Tryz.results79) fun S => ?_; conv => whnf
  repeat' (first | (refine aw0 ?_) | ((first | refine aw1 ?_ | refine aw2 ?_ | refine aw3 ?_ | refine aw4 ?_ | refine aw5 ?_ | refine aw6 ?_ | refine aw7 ?_ | refine aw8 ?_); conv => whnf) | ((first | refine bT ?_ | refine bF ?_); conv => whnf) | (exact rr) | (refine And.intro rfl ?_; conv => whnf) | (refine AB.mk (fun h => ?_) (fun h => ?_) <;> (conv => whnf)))
theorem iSch1_p (s : DSched) : PCall av 80 [.agg s.ds] (.val (pI (s.seq))) := by
  refine pcall_of av_ok Tryz.func80 rfl Tryz.call80 Tryz.ntmps80 (congrArg Array.toList Tryz.results80) fun S => ?_; conv => whnf
  repeat' (first | (refine aw0 ?_) | ((first | refine aw1 ?_ | refine aw2 ?_ | refine aw3 ?_ | refine aw4 ?_ | refine aw5 ?_ | refine aw6 ?_ | refine aw7 ?_ | refine aw8 ?_); conv => whnf) | ((first | refine bT ?_ | refine bF ?_); conv => whnf) | (refine ACall.pure (ibit_p _) rfl ?_; conv => whnf) | (refine AFCall.mk ⟨_, _, ibit_p _, .inl rfl, ?_⟩; conv => whnf) | (exact rr) | (refine And.intro rfl ?_; conv => whnf) | (refine AB.mk (fun h => ?_) (fun h => ?_) <;> (conv => whnf)))
theorem iSch2_p (s : DSched) : PCall av 81 [.agg s.ds] (.val (pI (bitL s.busy))) := by
  refine pcall_of av_ok Tryz.func81 rfl Tryz.call81 Tryz.ntmps81 (congrArg Array.toList Tryz.results81) fun S => ?_; conv => whnf
  repeat' (first | (refine aw0 ?_) | ((first | refine aw1 ?_ | refine aw2 ?_ | refine aw3 ?_ | refine aw4 ?_ | refine aw5 ?_ | refine aw6 ?_ | refine aw7 ?_ | refine aw8 ?_); conv => whnf) | ((first | refine bT ?_ | refine bF ?_); conv => whnf) | (refine ACall.pure (ibit_p _) rfl ?_; conv => whnf) | (refine AFCall.mk ⟨_, _, ibit_p _, .inl rfl, ?_⟩; conv => whnf) | (exact rr) | (refine And.intro rfl ?_; conv => whnf) | (refine AB.mk (fun h => ?_) (fun h => ?_) <;> (conv => whnf)))
theorem iSch3_p (s : DSched) : PCall av 82 [.agg s.ds] (.val (pI (s.view.jobs.index))) := by
  refine pcall_of av_ok Tryz.func82 rfl Tryz.call82 Tryz.ntmps82 (congrArg Array.toList Tryz.results82) fun S => ?_; conv => whnf
  repeat' (first | (refine aw0 ?_) | ((first | refine aw1 ?_ | refine aw2 ?_ | refine aw3 ?_ | refine aw4 ?_ | refine aw5 ?_ | refine aw6 ?_ | refine aw7 ?_ | refine aw8 ?_); conv => whnf) | ((first | refine bT ?_ | refine bF ?_); conv => whnf) | (refine ACall.pure (ibit_p _) rfl ?_; conv => whnf) | (refine AFCall.mk ⟨_, _, ibit_p _, .inl rfl, ?_⟩; conv => whnf) | (exact rr) | (refine And.intro rfl ?_; conv => whnf) | (refine AB.mk (fun h => ?_) (fun h => ?_) <;> (conv => whnf)))
theorem iSch4_p (s : DSched) : PCall av 83 [.agg s.ds] (.val (pI (s.index))) := by
  refine pcall_of av_ok Tryz.func83 rfl Tryz.call83 Tryz.ntmps83 (congrArg Array.toList Tryz.results83) fun S => ?_; conv => whnf
  repeat' (first | (refine aw0 ?_) | ((first | refine aw1 ?_ | refine aw2 ?_ | refine aw3 ?_ | refine aw4 ?_ | refine aw5 ?_ | refine aw6 ?_ | refine aw7 ?_ | refine aw8 ?_); conv => whnf) | ((first | refine bT ?_ | refine bF ?_); conv => whnf) | (refine ACall.pure (ibit_p _) rfl ?_; conv => whnf) | (refine AFCall.mk ⟨_, _, ibit_p _, .inl rfl, ?_⟩; conv => whnf) | (exact rr) | (refine And.intro rfl ?_; conv => whnf) | (refine AB.mk (fun h => ?_) (fun h => ?_) <;> (conv => whnf)))
def schedL (s : DSched) : List Int := [s.seq, bitL s.busy, s.view.jobs.index, s.index]
theorem reportSched_f (s : DSched) : FCall av 78 [.agg s.ds, .one (.sl [pF 80, pF 81, pF 82, pF 83])] (.one (.sl ((schedL s).map eI))) := by
  refine fcall_of av_ok Tryz.func78 rfl Tryz.call78 Tryz.ntmps78 (congrArg Array.toList Tryz.results78) fun S => ?_; conv => whnf
  repeat' (first | (refine aw0 ?_) | ((first | refine aw1 ?_ | refine aw2 ?_ | refine aw3 ?_ | refine aw4 ?_ | refine aw5 ?_ | refine aw6 ?_ | refine aw7 ?_ | refine aw8 ?_); conv => whnf) | ((first | refine bT ?_ | refine bF ?_); conv => whnf) | (exact rr) | (refine And.intro rfl ?_; conv => whnf) | (refine AB.mk (fun h => ?_) (fun h => ?_) <;> (conv => whnf)))
  refine AWP.unroll 5 ?_
  conv => whnf
  repeat' (first | (refine aw0 ?_) | ((first | refine aw1 ?_ | refine aw2 ?_ | refine aw3 ?_ | refine aw4 ?_ | refine aw5 ?_ | refine aw6 ?_ | refine aw7 ?_ | refine aw8 ?_); conv => whnf) | ((first | refine bT ?_ | refine bF ?_); conv => whnf) | ((first | refine AIx.at 0 _ rfl rfl ?_ | refine AIx.at 1 _ rfl rfl ?_ | refine AIx.at 2 _ rfl rfl ?_ | refine AIx.at 3 _ rfl rfl ?_ | refine AIx.at 4 _ rfl rfl ?_ | refine AIx.at 5 _ rfl rfl ?_ | refine AIx.at 6 _ rfl rfl ?_); conv => whnf) | (refine ACall.pure (iSch1_p s) rfl ?_; conv => whnf) | (refine AFCall.mk ⟨_, _, iSch1_p s, .inl rfl, ?_⟩; conv => whnf) | (refine ACall.pure (iSch2_p s) rfl ?_; conv => whnf) | (refine AFCall.mk ⟨_, _, iSch2_p s, .inl rfl, ?_⟩; conv => whnf) | (refine ACall.pure (iSch3_p s) rfl ?_; conv => whnf) | (refine AFCall.mk ⟨_, _, iSch3_p s, .inl rfl, ?_⟩; conv => whnf) | (refine ACall.pure (iSch4_p s) rfl ?_; conv => whnf) | (refine AFCall.mk ⟨_, _, iSch4_p s, .inl rfl, ?_⟩; conv => whnf) | (refine AW.i64 (by decide) (by decide) ?_; conv => whnf) | (refine And.intro (by decide) ?_; conv => whnf) | (refine And.intro (by simp) ?_; conv => whnf) | (exact rr) | (refine And.intro rfl ?_; conv => whnf) | (refine AB.mk (fun h => ?_) (fun h => ?_) <;> (conv => whnf)))
  exact ⟨_, _, (schedL s).map eI, Nat.le_refl _, Fam.blank (lo := S.w0.heap.size) (hi := S.w0.heap.size) rfl, rfl, (fun y hy => by obtain ⟨a, _, rfl⟩ := List.mem_map.1 hy; rfl), rfl⟩
def repSchedReport (w : DWorld) (n : Int) : List Int := if n = 2 then (if worldOk w && upAt w 2 then schedL w.left else []) else if n = 3 then (if worldOk w && upAt w 3 then schedL w.right else []) else []
theorem repSchedReport_len (w : DWorld) (n : Int) (hs : DWorld.small 1048576 w) : (repSchedReport w n).length ≤ 1048576 := by
  unfold repSchedReport schedL
  repeat' split
  all_goals simp
theorem schedIs_no {n : Int} (h2 : n ≠ 2) (h3 : n ≠ 3) : schedIs n = false := by simp [schedIs, h2, h3]
theorem iSchedReport_f (w : DWorld) (n : Int) (hs : DWorld.small 1048576 w) : FCall av 23 [.agg w.ds, pI n] (.one (.sl ((repSchedReport w n).map eI))) := by
  by_cases h2 : n = 2
  · subst h2
    cases h : (worldOk w && upAt w 2) with
    | false =>
      have hn : (!(worldOk w && upAt w 2)) = true := by rw [h]; rfl
      have e : repSchedReport w 2 = [] := by simp [repSchedReport, h]
      rw [e]
      refine fcall_of av_ok Tryz.func23 rfl Tryz.call23 Tryz.ntmps23 (congrArg Array.toList Tryz.results23) fun S => ?_; conv => whnf
      repeat' (first | (refine aw0 ?_) | ((first | refine aw1 ?_ | refine aw2 ?_ | refine aw3 ?_ | refine aw4 ?_ | refine aw5 ?_ | refine aw6 ?_ | refine aw7 ?_ | refine aw8 ?_); conv => whnf) | ((first | refine bT ?_ | refine bF ?_); conv => whnf) | (refine ACall.pure (ischedOk_p 2) rfl ?_; conv => whnf) | (refine AFCall.mk ⟨_, _, ischedOk_p 2, .inl rfl, ?_⟩; conv => whnf) | (refine ACall.pure (iUpIn_p w 2 (by decide) hs) rfl ?_; conv => whnf) | (refine AFCall.mk ⟨_, _, iUpIn_p w 2 (by decide) hs, .inl rfl, ?_⟩; conv => whnf) | (exact rr) | (refine And.intro rfl ?_; conv => whnf) | (refine AB.mk (fun h => ?_) (fun h => ?_) <;> (conv => whnf)))
      all_goals rfl
    | true =>
      have hn : (!(worldOk w && upAt w 2)) = false := by rw [h]; rfl
      have e : repSchedReport w 2 = schedL w.left := by simp [repSchedReport, h]
      rw [e]
      refine fcall_of av_ok Tryz.func23 rfl Tryz.call23 Tryz.ntmps23 (congrArg Array.toList Tryz.results23) fun S => ?_; conv => whnf
      repeat' (first | (refine aw0 ?_) | ((first | refine aw1 ?_ | refine aw2 ?_ | refine aw3 ?_ | refine aw4 ?_ | refine aw5 ?_ | refine aw6 ?_ | refine aw7 ?_ | refine aw8 ?_); conv => whnf) | ((first | refine bT ?_ | refine bF ?_); conv => whnf) | (refine ACall.pure (ischedOk_p 2) rfl ?_; conv => whnf) | (refine AFCall.mk ⟨_, _, ischedOk_p 2, .inl rfl, ?_⟩; conv => whnf) | (refine ACall.pure (iUpIn_p w 2 (by decide) hs) rfl ?_; conv => whnf) | (refine AFCall.mk ⟨_, _, iUpIn_p w 2 (by decide) hs, .inl rfl, ?_⟩; conv => whnf) | (refine ACall.pure (ischedIn2_p) rfl ?_; conv => whnf) | (refine AFCall.mk ⟨_, _, ischedIn2_p, .inl rfl, ?_⟩; conv => whnf) | (refine ACall.refOff 31 Tryz.call170 iSchedAt1_c ?_; conv => whnf) | (exact rr) | (refine And.intro rfl ?_; conv => whnf) | (refine AB.mk (fun h => ?_) (fun h => ?_) <;> (conv => whnf)))
      refine ACall.fresh (reportSched_f w.left) rfl rfl fun R lo hi a b F => ?_
      conv => whnf
      repeat' (first | (refine aw0 ?_) | ((first | refine aw1 ?_ | refine aw2 ?_ | refine aw3 ?_ | refine aw4 ?_ | refine aw5 ?_ | refine aw6 ?_ | refine aw7 ?_ | refine aw8 ?_); conv => whnf) | ((first | refine bT ?_ | refine bF ?_); conv => whnf) | (exact rr) | (refine And.intro rfl ?_; conv => whnf) | (refine AB.mk (fun h => ?_) (fun h => ?_) <;> (conv => whnf)))
      exact ⟨lo, hi, _, a, F, rfl⟩
  · by_cases h3 : n = 3
    · subst h3
      cases h : (worldOk w && upAt w 3) with
      | false =>
        have hn : (!(worldOk w && upAt w 3)) = true := by rw [h]; rfl
        have e : repSchedReport w 3 = [] := by simp [repSchedReport, h]
        rw [e]
        refine fcall_of av_ok Tryz.func23 rfl Tryz.call23 Tryz.ntmps23 (congrArg Array.toList Tryz.results23) fun S => ?_; conv => whnf
        repeat' (first | (refine aw0 ?_) | ((first | refine aw1 ?_ | refine aw2 ?_ | refine aw3 ?_ | refine aw4 ?_ | refine aw5 ?_ | refine aw6 ?_ | refine aw7 ?_ | refine aw8 ?_); conv => whnf) | ((first | refine bT ?_ | refine bF ?_); conv => whnf) | (refine ACall.pure (ischedOk_p 3) rfl ?_; conv => whnf) | (refine AFCall.mk ⟨_, _, ischedOk_p 3, .inl rfl, ?_⟩; conv => whnf) | (refine ACall.pure (iUpIn_p w 3 (by decide) hs) rfl ?_; conv => whnf) | (refine AFCall.mk ⟨_, _, iUpIn_p w 3 (by decide) hs, .inl rfl, ?_⟩; conv => whnf) | (exact rr) | (refine And.intro rfl ?_; conv => whnf) | (refine AB.mk (fun h => ?_) (fun h => ?_) <;> (conv => whnf)))
        all_goals rfl
      | true =>
        have hn : (!(worldOk w && upAt w 3)) = false := by rw [h]; rfl
        have e : repSchedReport w 3 = schedL w.right := by simp [repSchedReport, h]
        rw [e]
        refine fcall_of av_ok Tryz.func23 rfl Tryz.call23 Tryz.ntmps23 (congrArg Array.toList Tryz.results23) fun S => ?_; conv => whnf
        repeat' (first | (refine aw0 ?_) | ((first | refine aw1 ?_ | refine aw2 ?_ | refine aw3 ?_ | refine aw4 ?_ | refine aw5 ?_ | refine aw6 ?_ | refine aw7 ?_ | refine aw8 ?_); conv => whnf) | ((first | refine bT ?_ | refine bF ?_); conv => whnf) | (refine ACall.pure (ischedOk_p 3) rfl ?_; conv => whnf) | (refine AFCall.mk ⟨_, _, ischedOk_p 3, .inl rfl, ?_⟩; conv => whnf) | (refine ACall.pure (iUpIn_p w 3 (by decide) hs) rfl ?_; conv => whnf) | (refine AFCall.mk ⟨_, _, iUpIn_p w 3 (by decide) hs, .inl rfl, ?_⟩; conv => whnf) | (refine ACall.pure (ischedIn3_p) rfl ?_; conv => whnf) | (refine AFCall.mk ⟨_, _, ischedIn3_p, .inl rfl, ?_⟩; conv => whnf) | (refine ACall.refOff 46 Tryz.call171 iSchedAt2_c ?_; conv => whnf) | (exact rr) | (refine And.intro rfl ?_; conv => whnf) | (refine AB.mk (fun h => ?_) (fun h => ?_) <;> (conv => whnf)))
        refine ACall.fresh (reportSched_f w.right) rfl rfl fun R lo hi a b F => ?_
        conv => whnf
        repeat' (first | (refine aw0 ?_) | ((first | refine aw1 ?_ | refine aw2 ?_ | refine aw3 ?_ | refine aw4 ?_ | refine aw5 ?_ | refine aw6 ?_ | refine aw7 ?_ | refine aw8 ?_); conv => whnf) | ((first | refine bT ?_ | refine bF ?_); conv => whnf) | (exact rr) | (refine And.intro rfl ?_; conv => whnf) | (refine AB.mk (fun h => ?_) (fun h => ?_) <;> (conv => whnf)))
        exact ⟨lo, hi, _, a, F, rfl⟩
    · have hn : (!schedIs n) = true := by rw [schedIs_no h2 h3]; rfl
      have e : repSchedReport w n = [] := by simp [repSchedReport, h2, h3]
      rw [e]
      refine fcall_of av_ok Tryz.func23 rfl Tryz.call23 Tryz.ntmps23 (congrArg Array.toList Tryz.results23) fun S => ?_; conv => whnf
      repeat' (first | (refine aw0 ?_) | ((first | refine aw1 ?_ | refine aw2 ?_ | refine aw3 ?_ | refine aw4 ?_ | refine aw5 ?_ | refine aw6 ?_ | refine aw7 ?_ | refine aw8 ?_); conv => whnf) | ((first | refine bT ?_ | refine bF ?_); conv => whnf) | (refine ACall.pure (ischedOk_p n) rfl ?_; conv => whnf) | (refine AFCall.mk ⟨_, _, ischedOk_p n, .inl rfl, ?_⟩; conv => whnf) | (exact rr) | (refine And.intro rfl ?_; conv => whnf) | (refine AB.mk (fun h => ?_) (fun h => ?_) <;> (conv => whnf)))
      all_goals rfl
theorem sSchedReport_p (w : DWorld) (n : Int) (hs : DWorld.small 1048576 w) : PCall av 22 [.agg w.ds, pI n] (.val (.one (.sl ((repSchedReport w n).map eI)))) := by
  by_cases h2 : n = 2
  · subst h2
    cases h : (worldOk w && upAt w 2) with
    | false =>
      have hn : (!(worldOk w && upAt w 2)) = true := by rw [h]; rfl
      have e : repSchedReport w 2 = [] := by simp [repSchedReport, h]
      rw [e]
      refine pcall_of av_ok Tryz.func22 rfl Tryz.call22 Tryz.ntmps22 (congrArg Array.toList Tryz.results22) fun S => ?_; conv => whnf
      repeat' (first | (refine aw0 ?_) | ((first | refine aw1 ?_ | refine aw2 ?_ | refine aw3 ?_ | refine aw4 ?_ | refine aw5 ?_ | refine aw6 ?_ | refine aw7 ?_ | refine aw8 ?_); conv => whnf) | ((first | refine bT ?_ | refine bF ?_); conv => whnf) | (refine ACall.pure (sl16Who_p 2) rfl ?_; conv => whnf) | (refine AFCall.mk ⟨_, _, sl16Who_p 2, .inl rfl, ?_⟩; conv => whnf) | (refine ACall.pure (sUpIn_p w 2 (by decide) hs) rfl ?_; conv => whnf) | (refine AFCall.mk ⟨_, _, sUpIn_p w 2 (by decide) hs, .inl rfl, ?_⟩; conv => whnf) | (exact rr) | (refine And.intro rfl ?_; conv => whnf) | (refine AB.mk (fun h => ?_) (fun h => ?_) <;> (conv => whnf)))
      all_goals rfl
    | true =>
      have hn : (!(worldOk w && upAt w 2)) = false := by rw [h]; rfl
      have e : repSchedReport w 2 = schedL w.left := by simp [repSchedReport, h]
      rw [e]
      refine pcall_of av_ok Tryz.func22 rfl Tryz.call22 Tryz.ntmps22 (congrArg Array.toList Tryz.results22) fun S => ?_; conv => whnf
      repeat' (first | (refine aw0 ?_) | ((first | refine aw1 ?_ | refine aw2 ?_ | refine aw3 ?_ | refine aw4 ?_ | refine aw5 ?_ | refine aw6 ?_ | refine aw7 ?_ | refine aw8 ?_); conv => whnf) | ((first | refine bT ?_ | refine bF ?_); conv => whnf) | (refine ACall.pure (sl16Who_p 2) rfl ?_; conv => whnf) | (refine AFCall.mk ⟨_, _, sl16Who_p 2, .inl rfl, ?_⟩; conv => whnf) | (refine ACall.pure (sUpIn_p w 2 (by decide) hs) rfl ?_; conv => whnf) | (refine AFCall.mk ⟨_, _, sUpIn_p w 2 (by decide) hs, .inl rfl, ?_⟩; conv => whnf) | (exact rr) | (refine And.intro rfl ?_; conv => whnf) | (refine AB.mk (fun h => ?_) (fun h => ?_) <;> (conv => whnf)))
      (refine AWP.drawK av_ok 6 11 dk_WR2_spec_SchedReport_6 fk_WR2_spec_SchedReport_6 (by kernel_rfl) (by kernel_rfl) (by kernel_rfl) rfl ?_; conv => whnf)
      repeat' (first | (refine aw0 ?_) | ((first | refine aw1 ?_ | refine aw2 ?_ | refine aw3 ?_ | refine aw4 ?_ | refine aw5 ?_ | refine aw6 ?_ | refine aw7 ?_ | refine aw8 ?_); conv => whnf) | ((first | refine bT ?_ | refine bF ?_); conv => whnf) | (refine ACall.pure (sl1Flag_p _) rfl ?_; conv => whnf) | (refine AFCall.mk ⟨_, _, sl1Flag_p _, .inl rfl, ?_⟩; conv => whnf) | (exact rr) | (refine And.intro rfl ?_; conv => whnf) | (refine AB.mk (fun h => ?_) (fun h => ?_) <;> (conv => whnf)))
      all_goals rfl
      all_goals rfl
  · by_cases h3 : n = 3
    · subst h3
      cases h : (worldOk w && upAt w 3) with
      | false =>
        have hn : (!(worldOk w && upAt w 3)) = true := by rw [h]; rfl
        have e : repSchedReport w 3 = [] := by simp [repSchedReport, h]
        rw [e]
        refine pcall_of av_ok Tryz.func22 rfl Tryz.call22 Tryz.ntmps22 (congrArg Array.toList Tryz.results22) fun S => ?_; conv => whnf
        repeat' (first | (refine aw0 ?_) | ((first | refine aw1 ?_ | refine aw2 ?_ | refine aw3 ?_ | refine aw4 ?_ | refine aw5 ?_ | refine aw6 ?_ | refine aw7 ?_ | refine aw8 ?_); conv => whnf) | ((first | refine bT ?_ | refine bF ?_); conv => whnf) | (refine ACall.pure (sl16Who_p 3) rfl ?_; conv => whnf) | (refine AFCall.mk ⟨_, _, sl16Who_p 3, .inl rfl, ?_⟩; conv => whnf) | (refine ACall.pure (sUpIn_p w 3 (by decide) hs) rfl ?_; conv => whnf) | (refine AFCall.mk ⟨_, _, sUpIn_p w 3 (by decide) hs, .inl rfl, ?_⟩; conv => whnf) | (exact rr) | (refine And.intro rfl ?_; conv => whnf) | (refine AB.mk (fun h => ?_) (fun h => ?_) <;> (conv => whnf)))
        all_goals rfl
      | true =>
        have hn : (!(worldOk w && upAt w 3)) = false := by rw [h]; rfl
        have e : repSchedReport w 3 = schedL w.right := by simp [repSchedReport, h]
        rw [e]
        refine pcall_of av_ok Tryz.func22 rfl Tryz.call22 Tryz.ntmps22 (congrArg Array.toList Tryz.results22) fun S => ?_; conv => whnf
        repeat' (first | (refine aw0 ?_) | ((first | refine aw1 ?_ | refine aw2 ?_ | refine aw3 ?_ | refine aw4 ?_ | refine aw5 ?_ | refine aw6 ?_ | refine aw7 ?_ | refine aw8 ?_); conv => whnf) | ((first | refine bT ?_ | refine bF ?_); conv => whnf) | (refine ACall.pure (sl16Who_p 3) rfl ?_; conv => whnf) | (refine AFCall.mk ⟨_, _, sl16Who_p 3, .inl rfl, ?_⟩; conv => whnf) | (refine ACall.pure (sUpIn_p w 3 (by decide) hs) rfl ?_; conv => whnf) | (refine AFCall.mk ⟨_, _, sUpIn_p w 3 (by decide) hs, .inl rfl, ?_⟩; conv => whnf) | (exact rr) | (refine And.intro rfl ?_; conv => whnf) | (refine AB.mk (fun h => ?_) (fun h => ?_) <;> (conv => whnf)))
        (refine AWP.drawK av_ok 6 11 dk_WR2_spec_SchedReport_6 fk_WR2_spec_SchedReport_6 (by kernel_rfl) (by kernel_rfl) (by kernel_rfl) rfl ?_; conv => whnf)
        repeat' (first | (refine aw0 ?_) | ((first | refine aw1 ?_ | refine aw2 ?_ | refine aw3 ?_ | refine aw4 ?_ | refine aw5 ?_ | refine aw6 ?_ | refine aw7 ?_ | refine aw8 ?_); conv => whnf) | ((first | refine bT ?_ | refine bF ?_); conv => whnf) | (refine ACall.pure (sl1Flag_p _) rfl ?_; conv => whnf) | (refine AFCall.mk ⟨_, _, sl1Flag_p _, .inl rfl, ?_⟩; conv => whnf) | (exact rr) | (refine And.intro rfl ?_; conv => whnf) | (refine AB.mk (fun h => ?_) (fun h => ?_) <;> (conv => whnf)))
        all_goals rfl
    · have hn : (!schedIs n) = true := by rw [schedIs_no h2 h3]; rfl
      have e : repSchedReport w n = [] := by simp [repSchedReport, h2, h3]
      rw [e]
      refine pcall_of av_ok Tryz.func22 rfl Tryz.call22 Tryz.ntmps22 (congrArg Array.toList Tryz.results22) fun S => ?_; conv => whnf
      repeat' (first | (refine aw0 ?_) | ((first | refine aw1 ?_ | refine aw2 ?_ | refine aw3 ?_ | refine aw4 ?_ | refine aw5 ?_ | refine aw6 ?_ | refine aw7 ?_ | refine aw8 ?_); conv => whnf) | ((first | refine bT ?_ | refine bF ?_); conv => whnf) | (refine ACall.pure (sl16Who_p n) rfl ?_; conv => whnf) | (refine AFCall.mk ⟨_, _, sl16Who_p n, .inl rfl, ?_⟩; conv => whnf) | (exact rr) | (refine And.intro rfl ?_; conv => whnf) | (refine AB.mk (fun h => ?_) (fun h => ?_) <;> (conv => whnf)))
      all_goals rfl
end Go.Proofs.YtmgcnmdbhahhlaaGreat
