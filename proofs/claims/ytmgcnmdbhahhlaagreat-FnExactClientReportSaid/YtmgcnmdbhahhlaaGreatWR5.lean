/- ClientReport: both sides. -/
import Derived.Test.YtmgcnmdbhahhlaaGreatJ15
set_option linter.unusedVariables false
set_option linter.unusedSimpArgs false
set_option maxRecDepth 100000
namespace Go.Proofs.YtmgcnmdbhahhlaaGreat
open Go.ChangeShapes Go.WideShapes Go.RowKit

theorem iCliAt1_c (b o : Nat) (w : World) : Calls av.P 136 #[.pointer (some ⟨b, o, none⟩)] w fun e w' => e = .returned (.pointer (some ⟨b, o + 61, none⟩)) ∧ w' = w := by
  show Calls Tryz.prog 136 _ w _
  go_enter Tryz.func136, Tryz.ntmps136
  go_wp2
  go_ret
  exact ⟨rfl, rfl⟩
theorem iCliAt2_c (b o : Nat) (w : World) : Calls av.P 137 #[.pointer (some ⟨b, o, none⟩)] w fun e w' => e = .returned (.pointer (some ⟨b, o + 65, none⟩)) ∧ w' = w := by
  show Calls Tryz.prog 137 _ w _
  go_enter Tryz.func137, Tryz.ntmps137
  go_wp2
  go_ret
  exact ⟨rfl, rfl⟩
theorem iclientIn4_p : PCall av 46 [pI 4] (.val (.one (.pv (.func (.func 136) #[] #[])))) := by
  refine pcall_of av_ok Tryz.func46 rfl Tryz.call46 Tryz.ntmps46 (congrArg Array.toList Tryz.results46) fun S => ?_; conv => whnf
  repeat' (first | (refine aw0 ?_) | ((first | refine aw1 ?_ | refine aw2 ?_ | refine aw3 ?_ | refine aw4 ?_ | refine aw5 ?_ | refine aw6 ?_ | refine aw7 ?_ | refine aw8 ?_); conv => whnf) | ((first | refine bT ?_ | refine bF ?_); conv => whnf) | (exact rr) | (refine And.intro rfl ?_; conv => whnf) | (refine AB.mk (fun h => ?_) (fun h => ?_) <;> (conv => whnf)))
theorem iclientIn5_p : PCall av 46 [pI 5] (.val (.one (.pv (.func (.func 137) #[] #[])))) := by
  refine pcall_of av_ok Tryz.func46 rfl Tryz.call46 Tryz.ntmps46 (congrArg Array.toList Tryz.results46) fun S => ?_; conv => whnf
  repeat' (first | (refine aw0 ?_) | ((first | refine aw1 ?_ | refine aw2 ?_ | refine aw3 ?_ | refine aw4 ?_ | refine aw5 ?_ | refine aw6 ?_ | refine aw7 ?_ | refine aw8 ?_); conv => whnf) | ((first | refine bT ?_ | refine bF ?_); conv => whnf) | (exact rr) | (refine And.intro rfl ?_; conv => whnf) | (refine AB.mk (fun h => ?_) (fun h => ?_) <;> (conv => whnf)))
theorem iCl1_p (s : DClient) : PCall av 47 [.agg s.ds] (.val (pI (s.todo.length))) := by
  refine pcall_of av_ok Tryz.func47 rfl Tryz.call47 Tryz.ntmps47 (congrArg Array.toList Tryz.results47) fun S => ?_; conv => whnf
  repeat' (first | (refine aw0 ?_) | ((first | refine aw1 ?_ | refine aw2 ?_ | refine aw3 ?_ | refine aw4 ?_ | refine aw5 ?_ | refine aw6 ?_ | refine aw7 ?_ | refine aw8 ?_); conv => whnf) | ((first | refine bT ?_ | refine bF ?_); conv => whnf) | (exact rr) | (refine And.intro rfl ?_; conv => whnf) | (refine AB.mk (fun h => ?_) (fun h => ?_) <;> (conv => whnf)))
  all_goals simp
theorem iCl2_p (s : DClient) : PCall av 48 [.agg s.ds] (.val (pI (s.gots.length))) := by
  refine pcall_of av_ok Tryz.func48 rfl Tryz.call48 Tryz.ntmps48 (congrArg Array.toList Tryz.results48) fun S => ?_; conv => whnf
  repeat' (first | (refine aw0 ?_) | ((first | refine aw1 ?_ | refine aw2 ?_ | refine aw3 ?_ | refine aw4 ?_ | refine aw5 ?_ | refine aw6 ?_ | refine aw7 ?_ | refine aw8 ?_); conv => whnf) | ((first | refine bT ?_ | refine bF ?_); conv => whnf) | (exact rr) | (refine And.intro rfl ?_; conv => whnf) | (refine AB.mk (fun h => ?_) (fun h => ?_) <;> (conv => whnf)))
  all_goals simp
theorem iCl3_p (s : DClient) : PCall av 49 [.agg s.ds] (.val (pI (s.last))) := by
  refine pcall_of av_ok Tryz.func49 rfl Tryz.call49 Tryz.ntmps49 (congrArg Array.toList Tryz.results49) fun S => ?_; conv => whnf
  repeat' (first | (refine aw0 ?_) | ((first | refine aw1 ?_ | refine aw2 ?_ | refine aw3 ?_ | refine aw4 ?_ | refine aw5 ?_ | refine aw6 ?_ | refine aw7 ?_ | refine aw8 ?_); conv => whnf) | ((first | refine bT ?_ | refine bF ?_); conv => whnf) | (exact rr) | (refine And.intro rfl ?_; conv => whnf) | (refine AB.mk (fun h => ?_) (fun h => ?_) <;> (conv => whnf)))
  all_goals simp
def clientL (s : DClient) : List Int := [s.todo.length, s.gots.length, s.last]
theorem reportCl_f (s : DClient) : FCall av 45 [.agg s.ds, .one (.sl [pF 47, pF 48, pF 49])] (.one (.sl ((clientL s).map eI))) := by
  refine fcall_of av_ok Tryz.func45 rfl Tryz.call45 Tryz.ntmps45 (congrArg Array.toList Tryz.results45) fun S => ?_; conv => whnf
  repeat' (first | (refine aw0 ?_) | ((first | refine aw1 ?_ | refine aw2 ?_ | refine aw3 ?_ | refine aw4 ?_ | refine aw5 ?_ | refine aw6 ?_ | refine aw7 ?_ | refine aw8 ?_); conv => whnf) | ((first | refine bT ?_ | refine bF ?_); conv => whnf) | (exact rr) | (refine And.intro rfl ?_; conv => whnf) | (refine AB.mk (fun h => ?_) (fun h => ?_) <;> (conv => whnf)))
  refine AWP.unroll 4 ?_
  conv => whnf
  repeat' (first | (refine aw0 ?_) | ((first | refine aw1 ?_ | refine aw2 ?_ | refine aw3 ?_ | refine aw4 ?_ | refine aw5 ?_ | refine aw6 ?_ | refine aw7 ?_ | refine aw8 ?_); conv => whnf) | ((first | refine bT ?_ | refine bF ?_); conv => whnf) | ((first | refine AIx.at 0 _ rfl rfl ?_ | refine AIx.at 1 _ rfl rfl ?_ | refine AIx.at 2 _ rfl rfl ?_ | refine AIx.at 3 _ rfl rfl ?_ | refine AIx.at 4 _ rfl rfl ?_ | refine AIx.at 5 _ rfl rfl ?_ | refine AIx.at 6 _ rfl rfl ?_); conv => whnf) | (refine ACall.pure (iCl1_p s) rfl ?_; conv => whnf) | (refine AFCall.mk ⟨_, _, iCl1_p s, .inl rfl, ?_⟩; conv => whnf) | (refine ACall.pure (iCl2_p s) rfl ?_; conv => whnf) | (refine AFCall.mk ⟨_, _, iCl2_p s, .inl rfl, ?_⟩; conv => whnf) | (refine ACall.pure (iCl3_p s) rfl ?_; conv => whnf) | (refine AFCall.mk ⟨_, _, iCl3_p s, .inl rfl, ?_⟩; conv => whnf) | (refine AW.i64 (by decide) (by decide) ?_; conv => whnf) | (refine And.intro (by decide) ?_; conv => whnf) | (refine And.intro (by simp) ?_; conv => whnf) | (exact rr) | (refine And.intro rfl ?_; conv => whnf) | (refine AB.mk (fun h => ?_) (fun h => ?_) <;> (conv => whnf)))
  exact ⟨_, _, (clientL s).map eI, Nat.le_refl _, Fam.blank (lo := S.w0.heap.size) (hi := S.w0.heap.size) rfl, rfl, (fun y hy => by obtain ⟨a, _, rfl⟩ := List.mem_map.1 hy; rfl), rfl⟩
def repClientReport (w : DWorld) (n : Int) : List Int := if n = 4 then (if worldOk w then clientL w.ann else []) else if n = 5 then (if worldOk w then clientL w.bob else []) else []
theorem repClientReport_len (w : DWorld) (n : Int) (hs : DWorld.small 1048576 w) : (repClientReport w n).length ≤ 1048576 := by
  unfold repClientReport clientL
  repeat' split
  all_goals simp
theorem iClientReport_f (w : DWorld) (n : Int) (hs : DWorld.small 1048576 w) : FCall av 12 [.agg w.ds, pI n] (.one (.sl ((repClientReport w n).map eI))) := by
  by_cases h4 : n = 4
  · subst h4
    cases h : worldOk w with
    | false =>
      have hn : (!worldOk w) = true := by rw [h]; rfl
      have e : repClientReport w 4 = [] := by simp [repClientReport, h]
      rw [e]
      refine fcall_of av_ok Tryz.func12 rfl Tryz.call12 Tryz.ntmps12 (congrArg Array.toList Tryz.results12) fun S => ?_; conv => whnf
      repeat' (first | (refine aw0 ?_) | ((first | refine aw1 ?_ | refine aw2 ?_ | refine aw3 ?_ | refine aw4 ?_ | refine aw5 ?_ | refine aw6 ?_ | refine aw7 ?_ | refine aw8 ?_); conv => whnf) | ((first | refine bT ?_ | refine bF ?_); conv => whnf) | (refine ACall.pure (ibetween_p _ _ _) rfl ?_; conv => whnf) | (refine AFCall.mk ⟨_, _, ibetween_p _ _ _, .inl rfl, ?_⟩; conv => whnf) | (refine ACall.pure (iWorldOk_p w hs) rfl ?_; conv => whnf) | (refine AFCall.mk ⟨_, _, iWorldOk_p w hs, .inl rfl, ?_⟩; conv => whnf) | (exact rr) | (refine And.intro rfl ?_; conv => whnf) | (refine AB.mk (fun h => ?_) (fun h => ?_) <;> (conv => whnf)))
      all_goals rfl
    | true =>
      have hn : (!worldOk w) = false := by rw [h]; rfl
      have e : repClientReport w 4 = clientL w.ann := by simp [repClientReport, h]
      rw [e]
      refine fcall_of av_ok Tryz.func12 rfl Tryz.call12 Tryz.ntmps12 (congrArg Array.toList Tryz.results12) fun S => ?_; conv => whnf
      repeat' (first | (refine aw0 ?_) | ((first | refine aw1 ?_ | refine aw2 ?_ | refine aw3 ?_ | refine aw4 ?_ | refine aw5 ?_ | refine aw6 ?_ | refine aw7 ?_ | refine aw8 ?_); conv => whnf) | ((first | refine bT ?_ | refine bF ?_); conv => whnf) | (refine ACall.pure (ibetween_p _ _ _) rfl ?_; conv => whnf) | (refine AFCall.mk ⟨_, _, ibetween_p _ _ _, .inl rfl, ?_⟩; conv => whnf) | (refine ACall.pure (iWorldOk_p w hs) rfl ?_; conv => whnf) | (refine AFCall.mk ⟨_, _, iWorldOk_p w hs, .inl rfl, ?_⟩; conv => whnf) | (refine ACall.pure (iclientIn4_p) rfl ?_; conv => whnf) | (refine AFCall.mk ⟨_, _, iclientIn4_p, .inl rfl, ?_⟩; conv => whnf) | (refine ACall.refOff 61 Tryz.call136 iCliAt1_c ?_; conv => whnf) | (exact rr) | (refine And.intro rfl ?_; conv => whnf) | (refine AB.mk (fun h => ?_) (fun h => ?_) <;> (conv => whnf)))
      refine ACall.fresh (reportCl_f w.ann) rfl rfl fun R lo hi a b F => ?_
      conv => whnf
      repeat' (first | (refine aw0 ?_) | ((first | refine aw1 ?_ | refine aw2 ?_ | refine aw3 ?_ | refine aw4 ?_ | refine aw5 ?_ | refine aw6 ?_ | refine aw7 ?_ | refine aw8 ?_); conv => whnf) | ((first | refine bT ?_ | refine bF ?_); conv => whnf) | (exact rr) | (refine And.intro rfl ?_; conv => whnf) | (refine AB.mk (fun h => ?_) (fun h => ?_) <;> (conv => whnf)))
      exact ⟨lo, hi, _, a, F, rfl⟩
  · by_cases h5 : n = 5
    · subst h5
      cases h : worldOk w with
      | false =>
        have hn : (!worldOk w) = true := by rw [h]; rfl
        have e : repClientReport w 5 = [] := by simp [repClientReport, h]
        rw [e]
        refine fcall_of av_ok Tryz.func12 rfl Tryz.call12 Tryz.ntmps12 (congrArg Array.toList Tryz.results12) fun S => ?_; conv => whnf
        repeat' (first | (refine aw0 ?_) | ((first | refine aw1 ?_ | refine aw2 ?_ | refine aw3 ?_ | refine aw4 ?_ | refine aw5 ?_ | refine aw6 ?_ | refine aw7 ?_ | refine aw8 ?_); conv => whnf) | ((first | refine bT ?_ | refine bF ?_); conv => whnf) | (refine ACall.pure (ibetween_p _ _ _) rfl ?_; conv => whnf) | (refine AFCall.mk ⟨_, _, ibetween_p _ _ _, .inl rfl, ?_⟩; conv => whnf) | (refine ACall.pure (iWorldOk_p w hs) rfl ?_; conv => whnf) | (refine AFCall.mk ⟨_, _, iWorldOk_p w hs, .inl rfl, ?_⟩; conv => whnf) | (exact rr) | (refine And.intro rfl ?_; conv => whnf) | (refine AB.mk (fun h => ?_) (fun h => ?_) <;> (conv => whnf)))
        all_goals rfl
      | true =>
        have hn : (!worldOk w) = false := by rw [h]; rfl
        have e : repClientReport w 5 = clientL w.bob := by simp [repClientReport, h]
        rw [e]
        refine fcall_of av_ok Tryz.func12 rfl Tryz.call12 Tryz.ntmps12 (congrArg Array.toList Tryz.results12) fun S => ?_; conv => whnf
        repeat' (first | (refine aw0 ?_) | ((first | refine aw1 ?_ | refine aw2 ?_ | refine aw3 ?_ | refine aw4 ?_ | refine aw5 ?_ | refine aw6 ?_ | refine aw7 ?_ | refine aw8 ?_); conv => whnf) | ((first | refine bT ?_ | refine bF ?_); conv => whnf) | (refine ACall.pure (ibetween_p _ _ _) rfl ?_; conv => whnf) | (refine AFCall.mk ⟨_, _, ibetween_p _ _ _, .inl rfl, ?_⟩; conv => whnf) | (refine ACall.pure (iWorldOk_p w hs) rfl ?_; conv => whnf) | (refine AFCall.mk ⟨_, _, iWorldOk_p w hs, .inl rfl, ?_⟩; conv => whnf) | (refine ACall.pure (iclientIn5_p) rfl ?_; conv => whnf) | (refine AFCall.mk ⟨_, _, iclientIn5_p, .inl rfl, ?_⟩; conv => whnf) | (refine ACall.refOff 65 Tryz.call137 iCliAt2_c ?_; conv => whnf) | (exact rr) | (refine And.intro rfl ?_; conv => whnf) | (refine AB.mk (fun h => ?_) (fun h => ?_) <;> (conv => whnf)))
        refine ACall.fresh (reportCl_f w.bob) rfl rfl fun R lo hi a b F => ?_
        conv => whnf
        repeat' (first | (refine aw0 ?_) | ((first | refine aw1 ?_ | refine aw2 ?_ | refine aw3 ?_ | refine aw4 ?_ | refine aw5 ?_ | refine aw6 ?_ | refine aw7 ?_ | refine aw8 ?_); conv => whnf) | ((first | refine bT ?_ | refine bF ?_); conv => whnf) | (exact rr) | (refine And.intro rfl ?_; conv => whnf) | (refine AB.mk (fun h => ?_) (fun h => ?_) <;> (conv => whnf)))
        exact ⟨lo, hi, _, a, F, rfl⟩
    · have hb : betweenB n 4 5 = false := by simp [betweenB]; omega
      have hn : (!betweenB n 4 5) = true := by rw [hb]; rfl
      have e : repClientReport w n = [] := by simp [repClientReport, h4, h5]
      rw [e]
      refine fcall_of av_ok Tryz.func12 rfl Tryz.call12 Tryz.ntmps12 (congrArg Array.toList Tryz.results12) fun S => ?_; conv => whnf
      repeat' (first | (refine aw0 ?_) | ((first | refine aw1 ?_ | refine aw2 ?_ | refine aw3 ?_ | refine aw4 ?_ | refine aw5 ?_ | refine aw6 ?_ | refine aw7 ?_ | refine aw8 ?_); conv => whnf) | ((first | refine bT ?_ | refine bF ?_); conv => whnf) | (refine ACall.pure (ibetween_p _ _ _) rfl ?_; conv => whnf) | (refine AFCall.mk ⟨_, _, ibetween_p _ _ _, .inl rfl, ?_⟩; conv => whnf) | (exact rr) | (refine And.intro rfl ?_; conv => whnf) | (refine AB.mk (fun h => ?_) (fun h => ?_) <;> (conv => whnf)))
      all_goals rfl
theorem sClientReport_p (w : DWorld) (n : Int) (hs : DWorld.small 1048576 w) : PCall av 10 [.agg w.ds, pI n] (.val (.one (.sl ((repClientReport w n).map eI)))) := by
  by_cases h4 : n = 4
  · subst h4
    cases h : worldOk w with
    | false =>
      have hn : (!worldOk w) = true := by rw [h]; rfl
      have e : repClientReport w 4 = [] := by simp [repClientReport, h]
      rw [e]
      refine pcall_of av_ok Tryz.func10 rfl Tryz.call10 Tryz.ntmps10 (congrArg Array.toList Tryz.results10) fun S => ?_; conv => whnf
      repeat' (first | (refine aw0 ?_) | ((first | refine aw1 ?_ | refine aw2 ?_ | refine aw3 ?_ | refine aw4 ?_ | refine aw5 ?_ | refine aw6 ?_ | refine aw7 ?_ | refine aw8 ?_); conv => whnf) | ((first | refine bT ?_ | refine bF ?_); conv => whnf) | (refine ACall.pure (sWorldOk_p w hs) rfl ?_; conv => whnf) | (refine AFCall.mk ⟨_, _, sWorldOk_p w hs, .inl rfl, ?_⟩; conv => whnf) | (exact rr) | (refine And.intro rfl ?_; conv => whnf) | (refine AB.mk (fun h => ?_) (fun h => ?_) <;> (conv => whnf)))
      all_goals ((try simp only [List.length_map]); rfl)
    | true =>
      have hn : (!worldOk w) = false := by rw [h]; rfl
      have e : repClientReport w 4 = clientL w.ann := by simp [repClientReport, h]
      rw [e]
      refine pcall_of av_ok Tryz.func10 rfl Tryz.call10 Tryz.ntmps10 (congrArg Array.toList Tryz.results10) fun S => ?_; conv => whnf
      repeat' (first | (refine aw0 ?_) | ((first | refine aw1 ?_ | refine aw2 ?_ | refine aw3 ?_ | refine aw4 ?_ | refine aw5 ?_ | refine aw6 ?_ | refine aw7 ?_ | refine aw8 ?_); conv => whnf) | ((first | refine bT ?_ | refine bF ?_); conv => whnf) | (refine ACall.pure (sWorldOk_p w hs) rfl ?_; conv => whnf) | (refine AFCall.mk ⟨_, _, sWorldOk_p w hs, .inl rfl, ?_⟩; conv => whnf) | (exact rr) | (refine And.intro rfl ?_; conv => whnf) | (refine AB.mk (fun h => ?_) (fun h => ?_) <;> (conv => whnf)))
      all_goals ((try simp only [List.length_map]); rfl)
  · by_cases h5 : n = 5
    · subst h5
      cases h : worldOk w with
      | false =>
        have hn : (!worldOk w) = true := by rw [h]; rfl
        have e : repClientReport w 5 = [] := by simp [repClientReport, h]
        rw [e]
        refine pcall_of av_ok Tryz.func10 rfl Tryz.call10 Tryz.ntmps10 (congrArg Array.toList Tryz.results10) fun S => ?_; conv => whnf
        repeat' (first | (refine aw0 ?_) | ((first | refine aw1 ?_ | refine aw2 ?_ | refine aw3 ?_ | refine aw4 ?_ | refine aw5 ?_ | refine aw6 ?_ | refine aw7 ?_ | refine aw8 ?_); conv => whnf) | ((first | refine bT ?_ | refine bF ?_); conv => whnf) | (refine ACall.pure (sWorldOk_p w hs) rfl ?_; conv => whnf) | (refine AFCall.mk ⟨_, _, sWorldOk_p w hs, .inl rfl, ?_⟩; conv => whnf) | (exact rr) | (refine And.intro rfl ?_; conv => whnf) | (refine AB.mk (fun h => ?_) (fun h => ?_) <;> (conv => whnf)))
        all_goals ((try simp only [List.length_map]); rfl)
      | true =>
        have hn : (!worldOk w) = false := by rw [h]; rfl
        have e : repClientReport w 5 = clientL w.bob := by simp [repClientReport, h]
        rw [e]
        refine pcall_of av_ok Tryz.func10 rfl Tryz.call10 Tryz.ntmps10 (congrArg Array.toList Tryz.results10) fun S => ?_; conv => whnf
        repeat' (first | (refine aw0 ?_) | ((first | refine aw1 ?_ | refine aw2 ?_ | refine aw3 ?_ | refine aw4 ?_ | refine aw5 ?_ | refine aw6 ?_ | refine aw7 ?_ | refine aw8 ?_); conv => whnf) | ((first | refine bT ?_ | refine bF ?_); conv => whnf) | (refine ACall.pure (sWorldOk_p w hs) rfl ?_; conv => whnf) | (refine AFCall.mk ⟨_, _, sWorldOk_p w hs, .inl rfl, ?_⟩; conv => whnf) | (exact rr) | (refine And.intro rfl ?_; conv => whnf) | (refine AB.mk (fun h => ?_) (fun h => ?_) <;> (conv => whnf)))
        all_goals ((try simp only [List.length_map]); rfl)
    · have e : repClientReport w n = [] := by simp [repClientReport, h4, h5]
      have e4 : (n != 4) = true := by simp [h4]
      have e5 : (n != 5) = true := by simp [h5]
      rw [e]
      cases h : worldOk w with
      | false =>
        have hn : (!worldOk w) = true := by rw [h]; rfl
        refine pcall_of av_ok Tryz.func10 rfl Tryz.call10 Tryz.ntmps10 (congrArg Array.toList Tryz.results10) fun S => ?_; conv => whnf
        repeat' (first | (refine aw0 ?_) | ((first | refine aw1 ?_ | refine aw2 ?_ | refine aw3 ?_ | refine aw4 ?_ | refine aw5 ?_ | refine aw6 ?_ | refine aw7 ?_ | refine aw8 ?_); conv => whnf) | ((first | refine bT ?_ | refine bF ?_); conv => whnf) | (refine ACall.pure (sWorldOk_p w hs) rfl ?_; conv => whnf) | (refine AFCall.mk ⟨_, _, sWorldOk_p w hs, .inl rfl, ?_⟩; conv => whnf) | (exact rr) | (refine And.intro rfl ?_; conv => whnf) | (refine AB.mk (fun h => ?_) (fun h => ?_) <;> (conv => whnf)))
        all_goals ((try simp only [List.length_map]); rfl)
      | true =>
        have hn : (!worldOk w) = false := by rw [h]; rfl
        refine pcall_of av_ok Tryz.func10 rfl Tryz.call10 Tryz.ntmps10 (congrArg Array.toList Tryz.results10) fun S => ?_; conv => whnf
        repeat' (first | (refine aw0 ?_) | ((first | refine aw1 ?_ | refine aw2 ?_ | refine aw3 ?_ | refine aw4 ?_ | refine aw5 ?_ | refine aw6 ?_ | refine aw7 ?_ | refine aw8 ?_); conv => whnf) | ((first | refine bT ?_ | refine bF ?_); conv => whnf) | (refine ACall.pure (sWorldOk_p w hs) rfl ?_; conv => whnf) | (refine AFCall.mk ⟨_, _, sWorldOk_p w hs, .inl rfl, ?_⟩; conv => whnf) | (exact rr) | (refine And.intro rfl ?_; conv => whnf) | (refine AB.mk (fun h => ?_) (fun h => ?_) <;> (conv => whnf)))
        all_goals ((try simp only [List.length_map]); rfl)
end Go.Proofs.YtmgcnmdbhahhlaaGreat
