/- What is asked of a world: both sides. -/
import Derived.Test.YthmckpghadfeeaaGreatWC2
set_option linter.unusedVariables false
set_option linter.unusedSimpArgs false
set_option maxRecDepth 100000
namespace Go.Proofs.YthmckpghadfeeaaGreat
open Go.ChangeShapes Go.WideShapes Go.RowKit

theorem world_up {w : DWorld} (h : worldOk w = true) : w.up.length = 6 := by
  rw [worldOk_eq] at h
  simp only [Bool.and_eq_true, decide_eq_true_eq] at h
  exact h.1.1.1.1.1.2
theorem world_log {w : DWorld} (h : worldOk w = true) (h0 : upAt w 0 = true) : logOk w.log = true := by
  rw [worldOk_eq] at h
  simp only [Bool.and_eq_true, h0, if_true] at h
  exact h.1.2
theorem world_store {w : DWorld} (h : worldOk w = true) (h1 : upAt w 1 = true) : storeOk w.store = true := by
  rw [worldOk_eq] at h
  simp only [Bool.and_eq_true, h1, if_true] at h
  exact h.2
theorem log_durable {n : DLogNode} (h : logOk n = true) : 0 ≤ n.durable ∧ n.durable ≤ 2000 := by
  rw [logOk_eq] at h
  simp only [Bool.and_eq_true] at h
  obtain ⟨⟨⟨h1, h2⟩, _⟩, _⟩ := h
  have hb := (log_p1 h1).2.2.1
  have hl := book_last hb
  have hp := (book_parts hb).1
  simp only [logP2, Bool.and_eq_true, betweenB, decide_eq_true_eq] at h2
  omega
theorem store_index {s : DStore} (h : storeOk s = true) : 0 ≤ s.state.index ∧ s.state.index ≤ 2000 := by
  simp only [storeOk, stateOk, Bool.and_eq_true, betweenB, decide_eq_true_eq] at h
  omega
def undone (w : DWorld) : Int := if worldOk w then (w.ann.todo.length : Int) - w.ann.gots.length + w.bob.todo.length - w.bob.gots.length else -1
theorem iUndoneOf_p (w : DWorld) (hs : DWorld.small 1048576 w) : PCall av 9 [.agg w.ds] (.val (pI (undone w))) := by
  obtain ⟨_, _, _, _, s5, s6, _, _⟩ := id hs
  simp only [DClient.small] at s5 s6
  refine pcall_of av_ok Tryz.func9 rfl Tryz.call9 Tryz.ntmps9 (congrArg Array.toList Tryz.results9) fun S => ?_; conv => whnf
  repeat' (first | (refine AWP.seq ?_) | ((first | refine AWP.region av_ok ?_ | refine AWP.ret ?_ | refine AWP.skip ?_ | refine AWP.exit ?_ | refine AWP.block ?_ | refine AWP.cond ?_ | refine AB.tt ?_ | refine AB.ff ?_); conv => whnf) | ((first | refine AB.ofT (by assumption) ?_ | refine AB.ofF (by assumption) ?_); conv => whnf) | (refine AW.i64 (by simp only [List.length_map]; omega) (by simp only [List.length_map]; omega) ?_; conv => whnf) | (refine ACall.pure (iWorldOk_p w hs) rfl ?_; conv => whnf) | (refine AFCall.mk ⟨_, _, iWorldOk_p w hs, .inl rfl, ?_⟩; conv => whnf) | (exact trivial) | (refine And.intro rfl ?_; conv => whnf) | (refine AB.mk (fun h => ?_) (fun h => ?_) <;> (conv => whnf)) | (with_reducible_and_instances rfl) | (exact (rfl : AP.tup _ = AP.tup _)))
  all_goals simp_all [undone]
theorem sUndoneOf_p (w : DWorld) (hs : DWorld.small 1048576 w) : PCall av 7 [.agg w.ds] (.val (pI (undone w))) := by
  obtain ⟨_, _, _, _, s5, s6, _, _⟩ := id hs
  simp only [DClient.small] at s5 s6
  refine pcall_of av_ok Tryz.func7 rfl Tryz.call7 Tryz.ntmps7 (congrArg Array.toList Tryz.results7) fun S => ?_; conv => whnf
  repeat' (first | (refine AWP.seq ?_) | ((first | refine AWP.region av_ok ?_ | refine AWP.ret ?_ | refine AWP.skip ?_ | refine AWP.exit ?_ | refine AWP.block ?_ | refine AWP.cond ?_ | refine AB.tt ?_ | refine AB.ff ?_); conv => whnf) | ((first | refine AB.ofT (by assumption) ?_ | refine AB.ofF (by assumption) ?_); conv => whnf) | (refine AW.i64 (by simp only [List.length_map]; omega) (by simp only [List.length_map]; omega) ?_; conv => whnf) | (refine ACall.pure (sWorldOk_p w hs) rfl ?_; conv => whnf) | (refine AFCall.mk ⟨_, _, sWorldOk_p w hs, .inl rfl, ?_⟩; conv => whnf) | (exact trivial) | (refine And.intro rfl ?_; conv => whnf) | (refine AB.mk (fun h => ?_) (fun h => ?_) <;> (conv => whnf)) | (with_reducible_and_instances rfl) | (exact (rfl : AP.tup _ = AP.tup _)))
  all_goals simp_all [undone]
theorem iUpIn_p (w : DWorld) (k : Nat) (hk : k < 6) (hs : DWorld.small 1048576 w) : PCall av 40 [.agg w.ds, .one (dI (k : Int))] (rB (worldOk w && upAt w k)) := by
  have hn : betweenB (k : Int) 0 5 = true := by simp [betweenB]; omega
  refine pcall_of av_ok Tryz.func40 rfl Tryz.call40 Tryz.ntmps40 (congrArg Array.toList Tryz.results40) fun S => ?_; conv => whnf
  repeat' (first | (refine AWP.seq ?_) | ((first | refine AWP.region av_ok ?_ | refine AWP.ret ?_ | refine AWP.skip ?_ | refine AWP.exit ?_ | refine AWP.block ?_ | refine AWP.cond ?_ | refine AB.tt ?_ | refine AB.ff ?_); conv => whnf) | ((first | refine AB.ofT (by assumption) ?_ | refine AB.ofF (by assumption) ?_); conv => whnf) | (refine ACall.pure (iWorldOk_p w hs) rfl ?_; conv => whnf) | (refine AFCall.mk ⟨_, _, iWorldOk_p w hs, .inl rfl, ?_⟩; conv => whnf) | (refine ACall.pure (inodeOk_p _) rfl ?_; conv => whnf) | (refine AFCall.mk ⟨_, _, inodeOk_p _, .inl rfl, ?_⟩; conv => whnf) | (refine AIx.at k _ rfl (up_at (world_up (by assumption)) hk) ?_; conv => whnf) | (exact trivial) | (refine And.intro rfl ?_; conv => whnf) | (refine AB.mk (fun h => ?_) (fun h => ?_) <;> (conv => whnf)) | (with_reducible_and_instances rfl) | (exact (rfl : AP.tup _ = AP.tup _)))
  all_goals
    refine rB_of ?_
    simp_all
theorem sUpIn_p (w : DWorld) (k : Nat) (hk : k < 6) (hs : DWorld.small 1048576 w) : PCall av 38 [.agg w.ds, .one (dI (k : Int))] (rB (worldOk w && upAt w k)) := by
  have hn : betweenB (k : Int) 0 5 = true := by simp [betweenB]; omega
  refine pcall_of av_ok Tryz.func38 rfl Tryz.call38 Tryz.ntmps38 (congrArg Array.toList Tryz.results38) fun S => ?_; conv => whnf
  repeat' (first | (refine AWP.seq ?_) | ((first | refine AWP.region av_ok ?_ | refine AWP.ret ?_ | refine AWP.skip ?_ | refine AWP.exit ?_ | refine AWP.block ?_ | refine AWP.cond ?_ | refine AB.tt ?_ | refine AB.ff ?_); conv => whnf) | ((first | refine AB.ofT (by assumption) ?_ | refine AB.ofF (by assumption) ?_); conv => whnf) | (refine ACall.pure (sWorldOk_p w hs) rfl ?_; conv => whnf) | (refine AFCall.mk ⟨_, _, sWorldOk_p w hs, .inl rfl, ?_⟩; conv => whnf) | (refine ACall.pure (sl22Node_p _) rfl ?_; conv => whnf) | (refine AFCall.mk ⟨_, _, sl22Node_p _, .inl rfl, ?_⟩; conv => whnf) | (refine AIx.at k _ rfl (up_at (world_up (by assumption)) hk) ?_; conv => whnf) | (exact trivial) | (refine And.intro rfl ?_; conv => whnf) | (refine AB.mk (fun h => ?_) (fun h => ?_) <;> (conv => whnf)) | (with_reducible_and_instances rfl) | (exact (rfl : AP.tup _ = AP.tup _)))
  all_goals
    refine rB_of ?_
    simp_all
def behind (w : DWorld) : Int := if worldOk w && upAt w 0 && upAt w 1 then (if w.log.durable - w.store.state.index > 0 then w.log.durable - w.store.state.index else 0) else -1
theorem up6 {w : DWorld} (h : (!(worldOk w && upAt w 0)) = false) : w.up.length = 6 := by
  have := not_f h
  rw [Bool.and_eq_true] at this
  exact world_up this.1
theorem behind_in {w : DWorld} (h1 : worldOk w = true) (h2 : upAt w 0 = true) (h3 : upAt w 1 = true) : behind w = (if w.log.durable - w.store.state.index > 0 then w.log.durable - w.store.state.index else 0) := by simp only [behind, h1, h2, h3, Bool.and_self, if_true]
theorem iBehindOf_p (w : DWorld) (hs : DWorld.small 1048576 w) : PCall av 12 [.agg w.ds] (.val (pI (behind w))) := by
  refine pcall_of av_ok Tryz.func12 rfl Tryz.call12 Tryz.ntmps12 (congrArg Array.toList Tryz.results12) fun S => ?_; conv => whnf
  repeat' (first | (refine AWP.seq ?_) | ((first | refine AWP.region av_ok ?_ | refine AWP.ret ?_ | refine AWP.skip ?_ | refine AWP.exit ?_ | refine AWP.block ?_ | refine AWP.cond ?_ | refine AB.tt ?_ | refine AB.ff ?_); conv => whnf) | ((first | refine AB.ofT (by assumption) ?_ | refine AB.ofF (by assumption) ?_); conv => whnf) | (refine ACall.pure (iUpIn_p w 0 (by decide) hs) rfl ?_; conv => whnf) | (refine AFCall.mk ⟨_, _, iUpIn_p w 0 (by decide) hs, .inl rfl, ?_⟩; conv => whnf) | (refine AIx.at 1 _ rfl (up_at (up6 (by assumption)) (by decide)) ?_; conv => whnf) | (exact trivial) | (refine And.intro rfl ?_; conv => whnf) | (refine AB.mk (fun h => ?_) (fun h => ?_) <;> (conv => whnf)) | (with_reducible_and_instances rfl) | (exact (rfl : AP.tup _ = AP.tup _)))
  · have e := not_t h
    simp only [behind, e, Bool.false_and, Bool.false_eq_true, if_false]
  · have e := not_t h
    simp only [behind, e, Bool.and_false, Bool.false_eq_true, if_false]
  · have e1 : (worldOk w && upAt w 0) = true := not_f (by assumption)
    have e2 := not_f h
    rw [Bool.and_eq_true] at e1
    have b1 := log_durable (world_log e1.1 e1.2)
    have b2 := store_index (world_store e1.1 e2)
    rw [behind_in e1.1 e1.2 e2]
    repeat' (first | (refine AWP.seq ?_) | ((first | refine AWP.region av_ok ?_ | refine AWP.ret ?_ | refine AWP.skip ?_ | refine AWP.exit ?_ | refine AWP.block ?_ | refine AWP.cond ?_ | refine AB.tt ?_ | refine AB.ff ?_); conv => whnf) | ((first | refine AB.ofT (by assumption) ?_ | refine AB.ofF (by assumption) ?_); conv => whnf) | (refine AW.i64 (by omega) (by omega) ?_; conv => whnf) | (exact trivial) | (refine And.intro rfl ?_; conv => whnf) | (refine AB.mk (fun h => ?_) (fun h => ?_) <;> (conv => whnf)) | (with_reducible_and_instances rfl) | (exact (rfl : AP.tup _ = AP.tup _)))
theorem sBehindOf_p (w : DWorld) (hs : DWorld.small 1048576 w) : PCall av 11 [.agg w.ds] (.val (pI (behind w))) := by
  refine pcall_of av_ok Tryz.func11 rfl Tryz.call11 Tryz.ntmps11 (congrArg Array.toList Tryz.results11) fun S => ?_; conv => whnf
  repeat' (first | (refine AWP.seq ?_) | ((first | refine AWP.region av_ok ?_ | refine AWP.ret ?_ | refine AWP.skip ?_ | refine AWP.exit ?_ | refine AWP.block ?_ | refine AWP.cond ?_ | refine AB.tt ?_ | refine AB.ff ?_); conv => whnf) | ((first | refine AB.ofT (by assumption) ?_ | refine AB.ofF (by assumption) ?_); conv => whnf) | (refine ACall.pure (sUpIn_p w 0 (by decide) hs) rfl ?_; conv => whnf) | (refine AFCall.mk ⟨_, _, sUpIn_p w 0 (by decide) hs, .inl rfl, ?_⟩; conv => whnf) | (refine ACall.pure (sUpIn_p w 1 (by decide) hs) rfl ?_; conv => whnf) | (refine AFCall.mk ⟨_, _, sUpIn_p w 1 (by decide) hs, .inl rfl, ?_⟩; conv => whnf) | (exact trivial) | (refine And.intro rfl ?_; conv => whnf) | (refine AB.mk (fun h => ?_) (fun h => ?_) <;> (conv => whnf)) | (with_reducible_and_instances rfl) | (exact (rfl : AP.tup _ = AP.tup _)))
  · have e := not_t h
    simp only [behind, e, Bool.false_and, Bool.false_eq_true, if_false]
  · have e1 : (worldOk w && upAt w 0) = true := not_f (by assumption)
    rw [Bool.and_eq_true] at e1
    have e2 := not_t h
    rw [e1.1, Bool.true_and] at e2
    simp only [behind, e2, Bool.and_false, Bool.false_eq_true, if_false]
  · have e1 : (worldOk w && upAt w 0) = true := not_f (by assumption)
    rw [Bool.and_eq_true] at e1
    have e2 := not_f h
    rw [e1.1, Bool.true_and] at e2
    have b1 := log_durable (world_log e1.1 e1.2)
    have b2 := store_index (world_store e1.1 e2)
    rw [behind_in e1.1 e1.2 e2]
    repeat' (first | (refine AWP.seq ?_) | ((first | refine AWP.region av_ok ?_ | refine AWP.ret ?_ | refine AWP.skip ?_ | refine AWP.exit ?_ | refine AWP.block ?_ | refine AWP.cond ?_ | refine AB.tt ?_ | refine AB.ff ?_); conv => whnf) | ((first | refine AB.ofT (by assumption) ?_ | refine AB.ofF (by assumption) ?_); conv => whnf) | (refine AW.i64 (by omega) (by omega) ?_; conv => whnf) | (refine ACall.pure (sl1Max_p _ _) rfl ?_; conv => whnf) | (refine AFCall.mk ⟨_, _, sl1Max_p _ _, .inl rfl, ?_⟩; conv => whnf) | (exact trivial) | (refine And.intro rfl ?_; conv => whnf) | (refine AB.mk (fun h => ?_) (fun h => ?_) <;> (conv => whnf)) | (with_reducible_and_instances rfl) | (exact (rfl : AP.tup _ = AP.tup _)))
def quiet (w : DWorld) : Bool := worldOk w && decide (w.net.cuts.length = 0) && decide (w.net.flight.length = 0) && w.up.all fun b => b
theorem quiet_no {w : DWorld} (h : worldOk w = false ∨ w.net.cuts.length ≠ 0 ∨ w.net.flight.length ≠ 0) : quiet w = false := by
  rcases h with h | h | h <;> simp only [quiet, h, decide_false, Bool.false_and, Bool.and_false]
theorem iQuietIn_p (w : DWorld) (hs : DWorld.small 1048576 w) : PCall av 14 [.agg w.ds] (rB (quiet w)) := by
  refine pcall_of av_ok Tryz.func14 rfl Tryz.call14 Tryz.ntmps14 (congrArg Array.toList Tryz.results14) fun S => ?_; conv => whnf
  repeat' (first | (refine AWP.seq ?_) | ((first | refine AWP.region av_ok ?_ | refine AWP.ret ?_ | refine AWP.skip ?_ | refine AWP.exit ?_ | refine AWP.block ?_ | refine AWP.cond ?_ | refine AB.tt ?_ | refine AB.ff ?_); conv => whnf) | ((first | refine AB.ofT (by assumption) ?_ | refine AB.ofF (by assumption) ?_); conv => whnf) | (refine ACall.pure (iWorldOk_p w hs) rfl ?_; conv => whnf) | (refine AFCall.mk ⟨_, _, iWorldOk_p w hs, .inl rfl, ?_⟩; conv => whnf) | (exact trivial) | (refine And.intro rfl ?_; conv => whnf) | (refine AB.mk (fun h => ?_) (fun h => ?_) <;> (conv => whnf)) | (with_reducible_and_instances rfl) | (exact (rfl : AP.tup _ = AP.tup _)))
  all_goals first
    | (rw [quiet_no (.inl (not_t h))]; done)
    | (have hc : w.net.cuts.length ≠ 0 := by (simp only [List.length_map, decide_eq_true_eq] at h; omega)
       rw [quiet_no (.inr (.inl hc))]; done)
    | (have hc : w.net.flight.length ≠ 0 := by (simp only [List.length_map, decide_eq_true_eq] at h; omega)
       rw [quiet_no (.inr (.inr hc))]; done)
    | skip
  have hw : worldOk w = true := not_f (by assumption)
  have hc : w.net.cuts.length = 0 := by
    have g : decide (((w.net.cuts.map DLink.ds).length : Int) > 0) = false := by assumption
    simp only [List.length_map, decide_eq_false_iff_not] at g
    omega
  have hf : w.net.flight.length = 0 := by
    have g : decide (((w.net.flight.map DMsg.ds).length : Int) > 0) = false := by assumption
    simp only [List.length_map, decide_eq_false_iff_not] at g
    omega
  have hpre : (worldOk w && decide (w.net.cuts.length = 0) && decide (w.net.flight.length = 0)) = true := by rw [hw, hc, hf]; rfl
  have hq : quiet w = w.up.all fun b => b := by simp only [quiet, hpre, Bool.true_and]
  rw [hq]
  have hu : w.up.length = 6 := by
    simp only [Bool.and_eq_true] at hpre
    exact world_up hpre.1.1
  clear hpre hq
  refine AWP.loopS (fun k : Nat => k ≤ w.up.length ∧ ∀ (j : Nat) (hj : j < k) (hl : j < w.up.length), w.up[j] = true) [2, 4, 25, 26, 27, 28, 29, 30, 31] (fun k => [(25, vI .i64 (k : Int))]) (fun _ => [(1, .cells 106 (w.ds.map .d))]) (fun k => w.up.length - k) 0 ⟨by omega, by omega⟩ ?_ (SubO.cons rfl SubO.nil) (fun k hR => ?_) <;> (conv => whnf)
  · repeat' (first | exact trivial | (refine ⟨rfl, ?_⟩; conv => whnf))
  · obtain ⟨hk, hall⟩ := hR
    repeat' (first | (refine AWP.seq ?_) | ((first | refine AWP.region av_ok ?_ | refine AWP.ret ?_ | refine AWP.skip ?_ | refine AWP.exit ?_ | refine AWP.block ?_ | refine AWP.cond ?_ | refine AB.tt ?_ | refine AB.ff ?_); conv => whnf) | ((first | refine AB.ofT (by assumption) ?_ | refine AB.ofF (by assumption) ?_); conv => whnf) | (refine AIx.mapF (by simp only [decide_eq_true_eq, decide_eq_false_iff_not, List.length_map, Bool.not_eq_true', Bool.not_eq_false'] at *; omega) (fun hlt => ?_); conv => whnf) | (refine AW.i64 (by simp only [decide_eq_true_eq, decide_eq_false_iff_not, List.length_map, Bool.not_eq_true', Bool.not_eq_false'] at *; omega) (by simp only [decide_eq_true_eq, decide_eq_false_iff_not, List.length_map, Bool.not_eq_true', Bool.not_eq_false'] at *; omega) ?_; conv => whnf) | (exact trivial) | (refine And.intro rfl ?_; conv => whnf) | (refine AB.mk (fun h => ?_) (fun h => ?_) <;> (conv => whnf)) | (with_reducible_and_instances rfl) | (exact (rfl : AP.tup _ = AP.tup _)))
    all_goals first
      | (rw [all_no (p := fun b => b) (k := k) (by simp only [decide_eq_true_eq, decide_eq_false_iff_not, List.length_map, Bool.not_eq_true', Bool.not_eq_false'] at *; omega) (by first | (simpa using h) | (exfalso; assumption))]; done)
      | (refine ANext.mk ⟨k + 1, ⟨(by simp only [decide_eq_true_eq, decide_eq_false_iff_not, List.length_map, Bool.not_eq_true', Bool.not_eq_false'] at *; omega), step_all (p := fun b => b) hall (by simp only [decide_eq_true_eq, decide_eq_false_iff_not, List.length_map, Bool.not_eq_true', Bool.not_eq_false'] at *; omega) (by first | (simpa using h) | (exfalso; assumption))⟩, (by simp only [decide_eq_true_eq, decide_eq_false_iff_not, List.length_map, Bool.not_eq_true', Bool.not_eq_false'] at *; omega), ?_, SubO.cons rfl SubO.nil⟩
         (conv => whnf); repeat' (first | exact trivial | (refine ⟨rfl, ?_⟩; conv => whnf)))
      | (rw [end_all (p := fun b => b) hall (by simp only [decide_eq_true_eq, decide_eq_false_iff_not, List.length_map, Bool.not_eq_true', Bool.not_eq_false'] at *; omega)])
theorem sQuietIn_p (w : DWorld) (hs : DWorld.small 1048576 w) : PCall av 13 [.agg w.ds] (rB (quiet w)) := by
  refine pcall_of av_ok Tryz.func13 rfl Tryz.call13 Tryz.ntmps13 (congrArg Array.toList Tryz.results13) fun S => ?_; conv => whnf
  repeat' (first | (refine AWP.seq ?_) | ((first | refine AWP.region av_ok ?_ | refine AWP.ret ?_ | refine AWP.skip ?_ | refine AWP.exit ?_ | refine AWP.block ?_ | refine AWP.cond ?_ | refine AB.tt ?_ | refine AB.ff ?_); conv => whnf) | ((first | refine AB.ofT (by assumption) ?_ | refine AB.ofF (by assumption) ?_); conv => whnf) | (refine ACall.pure (sWorldOk_p w hs) rfl ?_; conv => whnf) | (refine AFCall.mk ⟨_, _, sWorldOk_p w hs, .inl rfl, ?_⟩; conv => whnf) | (exact trivial) | (refine And.intro rfl ?_; conv => whnf) | (refine AB.mk (fun h => ?_) (fun h => ?_) <;> (conv => whnf)) | (with_reducible_and_instances rfl) | (exact (rfl : AP.tup _ = AP.tup _)))
  all_goals first
    | (rw [quiet_no (.inl (not_t h))]; done)
    | (have hc : w.net.cuts.length ≠ 0 := by (simp only [List.length_map, decide_eq_true_eq] at h; omega)
       rw [quiet_no (.inr (.inl hc))]; done)
    | (have hc : w.net.flight.length ≠ 0 := by (simp only [List.length_map, decide_eq_true_eq] at h; omega)
       rw [quiet_no (.inr (.inr hc))]; done)
    | skip
  have hw : worldOk w = true := not_f (by assumption)
  have hc : w.net.cuts.length = 0 := by
    have g : decide (((w.net.cuts.map DLink.ds).length : Int) > 0) = false := by assumption
    simp only [List.length_map, decide_eq_false_iff_not] at g
    omega
  have hf : w.net.flight.length = 0 := by
    have g : decide (((w.net.flight.map DMsg.ds).length : Int) > 0) = false := by assumption
    simp only [List.length_map, decide_eq_false_iff_not] at g
    omega
  have hpre : (worldOk w && decide (w.net.cuts.length = 0) && decide (w.net.flight.length = 0)) = true := by rw [hw, hc, hf]; rfl
  have hq : quiet w = w.up.all fun b => b := by simp only [quiet, hpre, Bool.true_and]
  rw [hq]
  have hu : w.up.length = 6 := by
    simp only [Bool.and_eq_true] at hpre
    exact world_up hpre.1.1
  clear hpre hq
  refine AWP.loopS (fun k : Nat => k ≤ w.up.length ∧ ∀ (j : Nat) (hj : j < k) (hl : j < w.up.length), w.up[j] = true) [2, 3, 21, 22, 23, 24, 25, 26, 27, 28, 29, 30, 31, 32, 33] (fun k => [(3, vI .i64 (k : Int))]) (fun _ => [(1, .cells 106 (w.ds.map .d))]) (fun k => w.up.length - k) 0 ⟨by omega, by omega⟩ ?_ (SubO.cons rfl SubO.nil) (fun k hR => ?_) <;> (conv => whnf)
  · repeat' (first | exact trivial | (refine ⟨rfl, ?_⟩; conv => whnf))
  · obtain ⟨hk, hall⟩ := hR
    repeat' (first | (refine AWP.seq ?_) | ((first | refine AWP.region av_ok ?_ | refine AWP.ret ?_ | refine AWP.skip ?_ | refine AWP.exit ?_ | refine AWP.block ?_ | refine AWP.cond ?_ | refine AB.tt ?_ | refine AB.ff ?_); conv => whnf) | ((first | refine AB.ofT (by assumption) ?_ | refine AB.ofF (by assumption) ?_); conv => whnf) | (refine AIx.mapF (by simp only [decide_eq_true_eq, decide_eq_false_iff_not, List.length_map, Bool.not_eq_true', Bool.not_eq_false'] at *; omega) (fun hlt => ?_); conv => whnf) | (refine AW.i64 (by simp only [decide_eq_true_eq, decide_eq_false_iff_not, List.length_map, Bool.not_eq_true', Bool.not_eq_false'] at *; omega) (by simp only [decide_eq_true_eq, decide_eq_false_iff_not, List.length_map, Bool.not_eq_true', Bool.not_eq_false'] at *; omega) ?_; conv => whnf) | (exact trivial) | (refine And.intro rfl ?_; conv => whnf) | (refine AB.mk (fun h => ?_) (fun h => ?_) <;> (conv => whnf)) | (with_reducible_and_instances rfl) | (exact (rfl : AP.tup _ = AP.tup _)))
    all_goals first
      | (rw [all_no (p := fun b => b) (k := k) (by simp only [decide_eq_true_eq, decide_eq_false_iff_not, List.length_map, Bool.not_eq_true', Bool.not_eq_false'] at *; omega) (by first | (simpa using h) | (exfalso; assumption))]; done)
      | (refine ANext.mk ⟨k + 1, ⟨(by simp only [decide_eq_true_eq, decide_eq_false_iff_not, List.length_map, Bool.not_eq_true', Bool.not_eq_false'] at *; omega), step_all (p := fun b => b) hall (by simp only [decide_eq_true_eq, decide_eq_false_iff_not, List.length_map, Bool.not_eq_true', Bool.not_eq_false'] at *; omega) (by first | (simpa using h) | (exfalso; assumption))⟩, (by simp only [decide_eq_true_eq, decide_eq_false_iff_not, List.length_map, Bool.not_eq_true', Bool.not_eq_false'] at *; omega), ?_, SubO.cons rfl SubO.nil⟩
         (conv => whnf); repeat' (first | exact trivial | (refine ⟨rfl, ?_⟩; conv => whnf)))
      | (rw [end_all (p := fun b => b) hall (by simp only [decide_eq_true_eq, decide_eq_false_iff_not, List.length_map, Bool.not_eq_true', Bool.not_eq_false'] at *; omega)])
end Go.Proofs.YthmckpghadfeeaaGreat
