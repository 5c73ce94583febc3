/- Worlds are valid: both sides. -/
import Derived.Test.YthmckpghadfeeaaGreatWB5
import Derived.Test.YthmckpghadfeeaaGreatWB6
import Derived.Test.YthmckpghadfeeaaGreatWB9
import Derived.Test.YthmckpghadfeeaaGreatWOx
set_option linter.unusedVariables false
set_option linter.unusedSimpArgs false
set_option maxRecDepth 100000
namespace Go.Proofs.YthmckpghadfeeaaGreat
open Go.ChangeShapes Go.WideShapes Go.RowKit
def dk_WC2__impl_World__schedsFit_1 : List (List Nat) := [[], [0], [], [2], [2, 3], [3, 2, 4], [4, 2, 3, 5, 0, 1], [1, 0, 5, 3, 2, 4, 6], [6, 4, 2, 3, 5, 0, 1, 7], [7, 1, 0, 5, 3, 2, 4, 6, 8], [6, 4, 2, 3, 5, 0, 1, 7], [7, 1, 0, 5, 3, 2, 4, 6, 10], [10, 6, 4, 2, 3, 5, 0, 1, 7, 11], [11, 7, 1, 0, 5, 3, 2, 4, 6, 10, 12], [12, 10, 11, 13, 8, 6, 4, 2, 3, 5, 0, 1, 7, 9], [9, 8, 13, 11, 10, 12, 14, 6, 4, 2, 3, 5, 0, 1, 7], [7, 1, 0, 5, 3, 2, 4, 6, 14, 12, 10, 11, 13, 8, 9, 15]]
def fk_WC2__impl_World__schedsFit_1 : List (List Nat) := [[0, 0, 2, 2, 2, 2, 0, 0, 0, 0, 0, 0, 0, 0], [1, 0, 2, 2, 2, 2, 0, 0, 0, 0, 0, 0, 0, 0], [2, 2, 0, 0, 0, 0, 0, 0, 0, 0, 0, 0, 0, 0], [2, 2, 1, 0, 0, 0, 0, 0, 0, 0, 0, 0, 0, 0], [2, 2, 1, 1, 0, 0, 0, 0, 0, 0, 0, 0, 0, 0], [2, 2, 1, 1, 1, 0, 0, 0, 0, 0, 0, 0, 0, 0], [1, 1, 1, 1, 1, 1, 0, 0, 0, 0, 0, 0, 0, 0], [1, 1, 1, 1, 1, 1, 1, 0, 0, 0, 0, 0, 0, 0], [1, 1, 1, 1, 1, 1, 1, 1, 0, 0, 2, 2, 2, 2], [1, 1, 1, 1, 1, 1, 1, 1, 1, 0, 2, 2, 2, 2], [1, 1, 1, 1, 1, 1, 1, 1, 2, 2, 0, 0, 0, 0], [1, 1, 1, 1, 1, 1, 1, 1, 2, 2, 1, 0, 0, 0], [1, 1, 1, 1, 1, 1, 1, 1, 2, 2, 1, 1, 0, 0], [1, 1, 1, 1, 1, 1, 1, 1, 2, 2, 1, 1, 1, 0]]
def dk_WC2_spec_WorldOk_3 : List (List Nat) := [[], [0], [0, 1], [1, 0, 2], [2, 0, 1, 3], [3, 1, 0, 2, 4], [4, 2, 0, 1, 3, 5], [3, 1, 0, 2, 4], [4, 2, 0, 1, 3, 7], [7, 3, 1, 0, 2, 4, 8], [8, 4, 2, 0, 1, 3, 7, 9], [9, 7, 8, 10, 5, 3, 1, 0, 2, 4, 6], [6, 4, 2, 0, 1, 3, 5, 10, 8, 7, 9, 11], [11, 9, 7, 8, 10, 5, 6, 12, 3, 1, 0, 2, 4], [4, 2, 0, 1, 3, 12, 6, 5, 10, 8, 7, 9, 11, 13], [13, 11, 9, 7, 8, 10, 5, 6, 12, 3, 1, 0, 2, 4, 14], [14, 4, 2, 0, 1, 3, 12, 6, 5, 10, 8, 7, 9, 11, 13, 15], [13, 11, 9, 7, 8, 10, 5, 6, 12, 3, 1, 0, 2, 4, 14], [14, 4, 2, 0, 1, 3, 12, 6, 5, 10, 8, 7, 9, 11, 13, 17], [17, 13, 11, 9, 7, 8, 10, 5, 6, 12, 3, 1, 0, 2, 4, 14, 18], [18, 14, 4, 2, 0, 1, 3, 12, 6, 5, 10, 8, 7, 9, 11, 13, 17, 19], [19, 17, 18, 20, 15, 13, 11, 9, 7, 8, 10, 5, 6, 12, 3, 1, 0, 2, 4, 14, 16], [16, 14, 4, 2, 0, 1, 3, 12, 6, 5, 10, 8, 7, 9, 11, 13, 15, 20, 18, 17, 19, 21], [21, 19, 17, 18, 20, 15, 16, 22, 13, 11, 9, 7, 8, 10, 5, 6, 12, 3, 1, 0, 2, 4, 14]]
def fk_WC2_spec_WorldOk_3 : List (List Nat) := [[0, 0, 0, 0, 0, 0, 0, 0, 0, 0, 0, 0, 0, 0, 0, 0, 0, 0, 0, 0, 0], [1, 0, 0, 0, 0, 0, 0, 0, 0, 0, 0, 0, 0, 0, 0, 0, 0, 0, 0, 0, 0], [1, 1, 0, 0, 0, 0, 0, 0, 0, 0, 0, 0, 0, 0, 0, 0, 0, 0, 0, 0, 0], [1, 1, 1, 0, 0, 0, 0, 0, 0, 0, 0, 0, 0, 0, 0, 0, 0, 0, 0, 0, 0], [1, 1, 1, 1, 0, 0, 0, 0, 0, 0, 0, 0, 0, 0, 0, 0, 0, 0, 0, 0, 0], [1, 1, 1, 1, 1, 0, 0, 2, 2, 2, 2, 0, 0, 0, 0, 0, 0, 0, 0, 0, 0], [1, 1, 1, 1, 1, 1, 0, 2, 2, 2, 2, 0, 0, 0, 0, 0, 0, 0, 0, 0, 0], [1, 1, 1, 1, 1, 2, 2, 0, 0, 0, 0, 0, 0, 0, 0, 0, 0, 0, 0, 0, 0], [1, 1, 1, 1, 1, 2, 2, 1, 0, 0, 0, 0, 0, 0, 0, 0, 0, 0, 0, 0, 0], [1, 1, 1, 1, 1, 2, 2, 1, 1, 0, 0, 0, 0, 0, 0, 0, 0, 0, 0, 0, 0], [1, 1, 1, 1, 1, 2, 2, 1, 1, 1, 0, 0, 0, 0, 0, 0, 0, 0, 0, 0, 0], [1, 1, 1, 1, 1, 1, 1, 1, 1, 1, 1, 0, 0, 0, 0, 0, 0, 0, 0, 0, 0], [1, 1, 1, 1, 1, 1, 1, 1, 1, 1, 1, 1, 0, 0, 0, 0, 0, 0, 0, 0, 0], [1, 1, 1, 1, 1, 1, 1, 1, 1, 1, 1, 1, 1, 0, 0, 0, 0, 0, 0, 0, 0], [1, 1, 1, 1, 1, 1, 1, 1, 1, 1, 1, 1, 1, 1, 0, 0, 0, 0, 0, 0, 0], [1, 1, 1, 1, 1, 1, 1, 1, 1, 1, 1, 1, 1, 1, 1, 0, 0, 2, 2, 2, 2], [1, 1, 1, 1, 1, 1, 1, 1, 1, 1, 1, 1, 1, 1, 1, 1, 0, 2, 2, 2, 2], [1, 1, 1, 1, 1, 1, 1, 1, 1, 1, 1, 1, 1, 1, 1, 2, 2, 0, 0, 0, 0], [1, 1, 1, 1, 1, 1, 1, 1, 1, 1, 1, 1, 1, 1, 1, 2, 2, 1, 0, 0, 0], [1, 1, 1, 1, 1, 1, 1, 1, 1, 1, 1, 1, 1, 1, 1, 2, 2, 1, 1, 0, 0], [1, 1, 1, 1, 1, 1, 1, 1, 1, 1, 1, 1, 1, 1, 1, 2, 2, 1, 1, 1, 0]]
def dk_WC2_spec_WorldOk_5 : List (List Nat) := [[], [0], [], [2], [2, 3], [3, 2, 4], [4, 2, 3, 5, 0, 1], [1, 0, 5, 3, 2, 4, 6], [6, 4, 2, 3, 5, 0, 1, 7], [7, 1, 0, 5, 3, 2, 4, 6, 8], [8, 6, 4, 2, 3, 5, 0, 1, 7, 9], [7, 1, 0, 5, 3, 2, 4, 6, 8], [8, 6, 4, 2, 3, 5, 0, 1, 7, 11], [11, 7, 1, 0, 5, 3, 2, 4, 6, 8, 12], [12, 8, 6, 4, 2, 3, 5, 0, 1, 7, 11, 13], [13, 11, 12, 14, 9, 7, 1, 0, 5, 3, 2, 4, 6, 8, 10], [10, 8, 6, 4, 2, 3, 5, 0, 1, 7, 9, 14, 12, 11, 13, 15], [15, 13, 11, 12, 14, 9, 10, 16, 7, 1, 0, 5, 3, 2, 4, 6, 8]]
def fk_WC2_spec_WorldOk_5 : List (List Nat) := [[0, 0, 2, 2, 2, 2, 0, 0, 0, 0, 0, 0, 0, 0, 0], [1, 0, 2, 2, 2, 2, 0, 0, 0, 0, 0, 0, 0, 0, 0], [2, 2, 0, 0, 0, 0, 0, 0, 0, 0, 0, 0, 0, 0, 0], [2, 2, 1, 0, 0, 0, 0, 0, 0, 0, 0, 0, 0, 0, 0], [2, 2, 1, 1, 0, 0, 0, 0, 0, 0, 0, 0, 0, 0, 0], [2, 2, 1, 1, 1, 0, 0, 0, 0, 0, 0, 0, 0, 0, 0], [1, 1, 1, 1, 1, 1, 0, 0, 0, 0, 0, 0, 0, 0, 0], [1, 1, 1, 1, 1, 1, 1, 0, 0, 0, 0, 0, 0, 0, 0], [1, 1, 1, 1, 1, 1, 1, 1, 0, 0, 0, 0, 0, 0, 0], [1, 1, 1, 1, 1, 1, 1, 1, 1, 0, 0, 2, 2, 2, 2], [1, 1, 1, 1, 1, 1, 1, 1, 1, 1, 0, 2, 2, 2, 2], [1, 1, 1, 1, 1, 1, 1, 1, 1, 2, 2, 0, 0, 0, 0], [1, 1, 1, 1, 1, 1, 1, 1, 1, 2, 2, 1, 0, 0, 0], [1, 1, 1, 1, 1, 1, 1, 1, 1, 2, 2, 1, 1, 0, 0], [1, 1, 1, 1, 1, 1, 1, 1, 1, 2, 2, 1, 1, 1, 0]]

theorem up_at {w : DWorld} (h : w.up.length = 6) {k : Nat} (hk : k < 6) : (w.up.map eB)[k]? = some [dB (upAt w k)] := by
  have hl : k < w.up.length := by omega
  rw [List.getElem?_map, List.getElem?_eq_getElem hl]
  simp [upAt, List.getD_eq_getElem?_getD, hl]
theorem len6 {w : DWorld} (h : (((w.up.map eB).length : Int) != 6) = false) : w.up.length = 6 := by
  simp at h; omega
theorem small_log {n : DLogNode} (h : DLogNode.small 1048576 n) : LogSmall n := by
  obtain ⟨⟨⟨h1, h2, h3, h4⟩, g1, g2, g3, g4⟩, k1, k2, k3, k4, k5⟩ := h
  simp only [DHead.small, DBook.small] at k1 k2 k3
  exact ⟨by omega, fun y hy => by have := h2 y hy; omega, by omega, fun y hy => by have : y.row.length ≤ 1048576 := h4 y hy; omega, by omega, fun y hy => by have := g2 y hy; omega, by omega, fun y hy => by have : y.row.length ≤ 1048576 := g4 y hy; omega, by omega, by omega, by omega, by omega, by omega⟩
def logNo (two : DTwo) : DLogNode := ⟨two, head0, head0, false, ⟨0, 0, []⟩, [], 0, []⟩
theorem logDown_eq (n : DLogNode) : logDown n = (twoOk n.two && decide (n = logNo n.two)) := by
  show (twoOk n.two && (n == logNo n.two)) = _
  rw [beq_dec]
theorem sl22LogDown_p (n : DLogNode) : PCall av 102 [.agg n.ds] (rB (logDown n)) := by
  rw [logDown_eq]
  refine pcall_of av_ok Tryz.func102 rfl Tryz.call102 Tryz.ntmps102 (congrArg Array.toList Tryz.results102) fun S => ?_; conv => whnf
  repeat' (first | (refine AWP.seq ?_) | ((first | refine AWP.region av_ok ?_ | refine AWP.ret ?_ | refine AWP.skip ?_ | refine AWP.exit ?_ | refine AWP.block ?_ | refine AWP.cond ?_ | refine AB.tt ?_ | refine AB.ff ?_); conv => whnf) | ((first | refine AB.ofT (by assumption) ?_ | refine AB.ofF (by assumption) ?_); conv => whnf) | (refine ACall.pure (sTwoOk_p n.two) rfl ?_; conv => whnf) | (refine AFCall.mk ⟨_, _, sTwoOk_p n.two, .inl rfl, ?_⟩; conv => whnf) | (refine ACall.pure (sl22HeadZero_p n.head) rfl ?_; conv => whnf) | (refine AFCall.mk ⟨_, _, sl22HeadZero_p n.head, .inl rfl, ?_⟩; conv => whnf) | (refine ACall.pure (sl22HeadZero_p n.nxt) rfl ?_; conv => whnf) | (refine AFCall.mk ⟨_, _, sl22HeadZero_p n.nxt, .inl rfl, ?_⟩; conv => whnf) | (exact trivial) | (refine And.intro rfl ?_; conv => whnf) | (refine AB.mk (fun h => ?_) (fun h => ?_) <;> (conv => whnf)) | (with_reducible_and_instances rfl) | (exact (rfl : AP.tup _ = AP.tup _)))
  all_goals
    refine rB_of ?_
    rw [Bool.eq_iff_iff]
    simp only [decide_eq_true_iff, Bool.and_eq_true, log_eq, logNo, book_eq]
    simp_all
theorem sl22Log_p (n : DLogNode) (up : Bool) (hs : LogSmall n) : PCall av 54 [.agg n.ds, .one (dB up)] (rB (if up then logOk n else logDown n)) := by
  refine pcall_of av_ok Tryz.func54 rfl Tryz.call54 Tryz.ntmps54 (congrArg Array.toList Tryz.results54) fun S => ?_; conv => whnf
  repeat' (first | (refine AWP.seq ?_) | ((first | refine AWP.region av_ok ?_ | refine AWP.ret ?_ | refine AWP.skip ?_ | refine AWP.exit ?_ | refine AWP.block ?_ | refine AWP.cond ?_ | refine AB.tt ?_ | refine AB.ff ?_); conv => whnf) | ((first | refine AB.ofT (by assumption) ?_ | refine AB.ofF (by assumption) ?_); conv => whnf) | (refine ACall.pure (sLogOk_p n hs.head hs.owe hs.seen hs.nxt) rfl ?_; conv => whnf) | (refine AFCall.mk ⟨_, _, sLogOk_p n hs.head hs.owe hs.seen hs.nxt, .inl rfl, ?_⟩; conv => whnf) | (refine ACall.pure (sl22LogDown_p n) rfl ?_; conv => whnf) | (refine AFCall.mk ⟨_, _, sl22LogDown_p n, .inl rfl, ?_⟩; conv => whnf) | (exact trivial) | (refine And.intro rfl ?_; conv => whnf) | (refine AB.mk (fun h => ?_) (fun h => ?_) <;> (conv => whnf)) | (with_reducible_and_instances rfl) | (exact (rfl : AP.tup _ = AP.tup _)))
  all_goals
    refine rB_of ?_
    simp_all
theorem ilogFits_p (how : OwedP) (w : DWorld) (h6 : w.up.length = 6) (hs : LogSmall w.log) : PCall av 76 [.agg w.ds] (rB (if upAt w 0 then logOk w.log else logDown w.log)) := by
  rw [logDown_eq]
  refine pcall_of av_ok Tryz.func76 rfl Tryz.call76 Tryz.ntmps76 (congrArg Array.toList Tryz.results76) fun S => ?_; conv => whnf
  repeat' (first | (refine AWP.seq ?_) | ((first | refine AWP.region av_ok ?_ | refine AWP.ret ?_ | refine AWP.skip ?_ | refine AWP.exit ?_ | refine AWP.block ?_ | refine AWP.cond ?_ | refine AB.tt ?_ | refine AB.ff ?_); conv => whnf) | ((first | refine AB.ofT (by assumption) ?_ | refine AB.ofF (by assumption) ?_); conv => whnf) | (refine AIx.at 0 _ rfl (up_at h6 (by decide)) ?_; conv => whnf) | (refine AIx.at 1 _ rfl (up_at h6 (by decide)) ?_; conv => whnf) | (refine AIx.at 2 _ rfl (up_at h6 (by decide)) ?_; conv => whnf) | (refine AIx.at 3 _ rfl (up_at h6 (by decide)) ?_; conv => whnf) | (refine AIx.at 4 _ rfl (up_at h6 (by decide)) ?_; conv => whnf) | (refine AIx.at 5 _ rfl (up_at h6 (by decide)) ?_; conv => whnf) | (refine ACall.pure (iLogOk_p how w.log hs) rfl ?_; conv => whnf) | (refine AFCall.mk ⟨_, _, iLogOk_p how w.log hs, .inl rfl, ?_⟩; conv => whnf) | (refine ACall.pure (iTwoOk_p w.log.two) rfl ?_; conv => whnf) | (refine AFCall.mk ⟨_, _, iTwoOk_p w.log.two, .inl rfl, ?_⟩; conv => whnf) | (refine ACall.pure (iSameLog_p w.log (logNo w.log.two) hs) rfl ?_; conv => whnf) | (refine AFCall.mk ⟨_, _, iSameLog_p w.log (logNo w.log.two) hs, .inl rfl, ?_⟩; conv => whnf) | (exact trivial) | (refine And.intro rfl ?_; conv => whnf) | (refine AB.mk (fun h => ?_) (fun h => ?_) <;> (conv => whnf)) | (with_reducible_and_instances rfl) | (exact (rfl : AP.tup _ = AP.tup _)))
  all_goals
    refine rB_of ?_
    simp_all
theorem istoreFits_p (w : DWorld) (h6 : w.up.length = 6) (hs : w.store.state.pairs.length ≤ 9223372036854775806) (hj : w.store.state.jobs.length ≤ 9223372036854775806) : PCall av 77 [.agg w.ds] (rB (if upAt w 1 then storeOk w.store else storeDown w.store)) := by
  refine pcall_of av_ok Tryz.func77 rfl Tryz.call77 Tryz.ntmps77 (congrArg Array.toList Tryz.results77) fun S => ?_; conv => whnf
  repeat' (first | (refine AWP.seq ?_) | ((first | refine AWP.region av_ok ?_ | refine AWP.ret ?_ | refine AWP.skip ?_ | refine AWP.exit ?_ | refine AWP.block ?_ | refine AWP.cond ?_ | refine AB.tt ?_ | refine AB.ff ?_); conv => whnf) | ((first | refine AB.ofT (by assumption) ?_ | refine AB.ofF (by assumption) ?_); conv => whnf) | (refine AIx.at 0 _ rfl (up_at h6 (by decide)) ?_; conv => whnf) | (refine AIx.at 1 _ rfl (up_at h6 (by decide)) ?_; conv => whnf) | (refine AIx.at 2 _ rfl (up_at h6 (by decide)) ?_; conv => whnf) | (refine AIx.at 3 _ rfl (up_at h6 (by decide)) ?_; conv => whnf) | (refine AIx.at 4 _ rfl (up_at h6 (by decide)) ?_; conv => whnf) | (refine AIx.at 5 _ rfl (up_at h6 (by decide)) ?_; conv => whnf) | (refine ACall.pure (iStoreOk_p w.store hs) rfl ?_; conv => whnf) | (refine AFCall.mk ⟨_, _, iStoreOk_p w.store hs, .inl rfl, ?_⟩; conv => whnf) | (refine ACall.pure (iDiskOk_p w.store.disk) rfl ?_; conv => whnf) | (refine AFCall.mk ⟨_, _, iDiskOk_p w.store.disk, .inl rfl, ?_⟩; conv => whnf) | (refine ACall.pure (iSameState_p w.store.state state0 hs (by decide) hj) rfl ?_; conv => whnf) | (refine AFCall.mk ⟨_, _, iSameState_p w.store.state state0 hs (by decide) hj, .inl rfl, ?_⟩; conv => whnf) | (exact trivial) | (refine And.intro rfl ?_; conv => whnf) | (refine AB.mk (fun h => ?_) (fun h => ?_) <;> (conv => whnf)) | (with_reducible_and_instances rfl) | (exact (rfl : AP.tup _ = AP.tup _)))
  all_goals
    refine rB_of ?_
    try simp only [same0] at *
    first
      | (simp_all; done)
      | (rw [Bool.eq_iff_iff]
         simp [storeDown, store_eq]
         simp_all; done)
theorem ischedsFit_p (w : DWorld) (h6 : w.up.length = 6) (h1 : w.left.view.jobs.opens.length ≤ 9223372036854775806) (h2 : w.right.view.jobs.opens.length ≤ 9223372036854775806) : PCall av 75 [.agg w.ds] (rB (schedFits w.left 2 (upAt w 2) && schedFits w.right 3 (upAt w 3))) := by
  refine pcall_of av_ok Tryz.func75 rfl Tryz.call75 Tryz.ntmps75 (congrArg Array.toList Tryz.results75) fun S => ?_; conv => whnf
  repeat' (first | (refine AWP.seq ?_) | ((first | refine AWP.region av_ok ?_ | refine AWP.ret ?_ | refine AWP.skip ?_ | refine AWP.exit ?_ | refine AWP.block ?_ | refine AWP.cond ?_ | refine AB.tt ?_ | refine AB.ff ?_); conv => whnf) | ((first | refine AB.ofT (by assumption) ?_ | refine AB.ofF (by assumption) ?_); conv => whnf) | (refine AWP.drawK av_ok 1 14 dk_WC2__impl_World__schedsFit_1 fk_WC2__impl_World__schedsFit_1 (by kernel_rfl) (by kernel_rfl) (by kernel_rfl) rfl ?_; conv => whnf) | (refine AIx.at 0 _ rfl (up_at h6 (by decide)) ?_; conv => whnf) | (refine AIx.at 1 _ rfl (up_at h6 (by decide)) ?_; conv => whnf) | (refine AIx.at 2 _ rfl (up_at h6 (by decide)) ?_; conv => whnf) | (refine AIx.at 3 _ rfl (up_at h6 (by decide)) ?_; conv => whnf) | (refine AIx.at 4 _ rfl (up_at h6 (by decide)) ?_; conv => whnf) | (refine AIx.at 5 _ rfl (up_at h6 (by decide)) ?_; conv => whnf) | (refine ACall.pure (ischedFits_p w.left _ _ h1) rfl ?_; conv => whnf) | (refine AFCall.mk ⟨_, _, ischedFits_p w.left _ _ h1, .inl rfl, ?_⟩; conv => whnf) | (refine ACall.pure (ischedFits_p w.right _ _ h2) rfl ?_; conv => whnf) | (refine AFCall.mk ⟨_, _, ischedFits_p w.right _ _ h2, .inl rfl, ?_⟩; conv => whnf) | (exact trivial) | (refine And.intro rfl ?_; conv => whnf) | (refine AB.mk (fun h => ?_) (fun h => ?_) <;> (conv => whnf)) | (with_reducible_and_instances rfl) | (exact (rfl : AP.tup _ = AP.tup _)))
  all_goals
    refine rB_of ?_
    simp_all
theorem iclientsFit_p (w : DWorld) (h6 : w.up.length = 6) (h1 : w.ann.todo.length ≤ 9223372036854775806 ∧ w.ann.gots.length ≤ 9223372036854775806) (h2 : w.bob.todo.length ≤ 9223372036854775806 ∧ w.bob.gots.length ≤ 9223372036854775806) : PCall av 74 [.agg w.ds] (rB (upAt w 4 && upAt w 5 && clientOk w.ann && w.ann.id == 4 && clientOk w.bob && w.bob.id == 5)) := by
  refine pcall_of av_ok Tryz.func74 rfl Tryz.call74 Tryz.ntmps74 (congrArg Array.toList Tryz.results74) fun S => ?_; conv => whnf
  repeat' (first | (refine AWP.seq ?_) | ((first | refine AWP.region av_ok ?_ | refine AWP.ret ?_ | refine AWP.skip ?_ | refine AWP.exit ?_ | refine AWP.block ?_ | refine AWP.cond ?_ | refine AB.tt ?_ | refine AB.ff ?_); conv => whnf) | ((first | refine AB.ofT (by assumption) ?_ | refine AB.ofF (by assumption) ?_); conv => whnf) | (refine AIx.at 0 _ rfl (up_at h6 (by decide)) ?_; conv => whnf) | (refine AIx.at 1 _ rfl (up_at h6 (by decide)) ?_; conv => whnf) | (refine AIx.at 2 _ rfl (up_at h6 (by decide)) ?_; conv => whnf) | (refine AIx.at 3 _ rfl (up_at h6 (by decide)) ?_; conv => whnf) | (refine AIx.at 4 _ rfl (up_at h6 (by decide)) ?_; conv => whnf) | (refine AIx.at 5 _ rfl (up_at h6 (by decide)) ?_; conv => whnf) | (refine ACall.pure (iClientOk_p w.ann h1.1 h1.2) rfl ?_; conv => whnf) | (refine AFCall.mk ⟨_, _, iClientOk_p w.ann h1.1 h1.2, .inl rfl, ?_⟩; conv => whnf) | (refine ACall.pure (iClientOk_p w.bob h2.1 h2.2) rfl ?_; conv => whnf) | (refine AFCall.mk ⟨_, _, iClientOk_p w.bob h2.1 h2.2, .inl rfl, ?_⟩; conv => whnf) | (exact trivial) | (refine And.intro rfl ?_; conv => whnf) | (refine AB.mk (fun h => ?_) (fun h => ?_) <;> (conv => whnf)) | (with_reducible_and_instances rfl) | (exact (rfl : AP.tup _ = AP.tup _)))
  all_goals
    refine rB_of ?_
    simp_all

theorem up_ne {w : DWorld} (h : (((w.up.map eB).length : Int) != 6) = true) : ¬ w.up.length = 6 := by
  simp at h; omega
theorem clk_ne {w : DWorld} (h : (((w.clocks.map eI).length : Int) != 6) = true) : ¬ w.clocks.length = 6 := by
  simp at h; omega
theorem clk6 {w : DWorld} (h : (((w.clocks.map eI).length : Int) != 6) = false) : w.clocks.length = 6 := by
  simp at h; omega
theorem part_fn (w : World) (xs : Array Value) (i : Nat) (v : Value) (h : xs[i]? = some v) : (part 110 xs i).run Tryz.prog w = .ok v w := by
  simp [part, Tryz.isAgg110, Tryz.sizeOf110, h]
theorem AOp.idxFn {S : Base} {st : ASt} {o : Oper} {x i : Operand} {K : ASt → Prop} {ds : List AD} {n : Nat} {v : Value} (ho : o.op = .index 166 x i) (hx : aEv st x fun y => y = .agg (ds.map .d)) (hi : aEv st i fun y => y = vI .i64 (n : Int)) (hd : ds.all AD.isPv = true) (hn : n < 4) (hv : (ds.map pvOf)[n]? = some v) (h1 : v.oneCell' = true) (hk : aDst st o.dst (.one (.d (.pv v))) K) : AOp av S o st K := by
  refine .reads fun Z ρ a w hs => ?_
  obtain ⟨u, hu, rfl⟩ := aEv_get hs hx
  obtain ⟨z, hz, rfl⟩ := aEv_get hs hi
  have e1 := relV_pvs hd hu
  have e2 := relV_pv hz
  have hp := part_fn w (ds.map pvOf).toArray n v (by simpa using hv)
  refine ⟨.one (.d (.pv v)), v, relV_of_pv h1, ?_, hk⟩
  have hlt : (0 : Int) ≤ (n : Int) ∧ (n : Int) < 4 := ⟨by omega, by omega⟩
  simp [execOp, ho, e1, e2, Instr.index, asIntOf, av, run_underlying Tryz.underlying166, Tryz.sizeOf110, hn, hp]
theorem worldOk_eq (w : DWorld) : worldOk w = (clocksOk w.clocks && decide (w.up.length = 6) && netOk w.net && (upAt w 4 && upAt w 5 && clientOk w.ann && w.ann.id == 4 && clientOk w.bob && w.bob.id == 5) && (schedFits w.left 2 (upAt w 2) && schedFits w.right 3 (upAt w 3)) && (if upAt w 0 then logOk w.log else logDown w.log) && (if upAt w 1 then storeOk w.store else storeDown w.store)) := by
  simp only [worldOk, Bool.and_assoc]
theorem not_t {b : Bool} (h : (!b) = true) : b = false := by rwa [Bool.not_eq_true'] at h
theorem not_f {b : Bool} (h : (!b) = false) : b = true := by rwa [Bool.not_eq_false'] at h
def fnTab : List AD := [.pv (.func (.func 74) #[] #[]), .pv (.func (.func 75) #[] #[]), .pv (.func (.func 76) #[] #[]), .pv (.func (.func 77) #[] #[])]
theorem iWorldOk_p (w : DWorld) (hs : DWorld.small 1048576 w) : PCall av 30 [.agg w.ds] (rB (worldOk w)) := by
  obtain ⟨s1, ⟨_, s2⟩, s3, s4, s5, s6, s7, s8⟩ := hs
  simp only [DState.small, DSched.small, DView.small, DJobs.small, DClient.small] at s2 s3 s4 s5 s6
  refine pcall_of av_ok Tryz.func30 rfl Tryz.call30 Tryz.ntmps30 (congrArg Array.toList Tryz.results30) fun S => ?_; conv => whnf
  repeat' (first | (refine AWP.seq ?_) | ((first | refine AWP.region av_ok ?_ | refine AWP.ret ?_ | refine AWP.skip ?_ | refine AWP.exit ?_ | refine AWP.block ?_ | refine AWP.cond ?_ | refine AB.tt ?_ | refine AB.ff ?_); conv => whnf) | ((first | refine AB.ofT (by assumption) ?_ | refine AB.ofF (by assumption) ?_); conv => whnf) | (refine ACall.pure (iClocksOk_p w.clocks) rfl ?_; conv => whnf) | (refine AFCall.mk ⟨_, _, iClocksOk_p w.clocks, .inl rfl, ?_⟩; conv => whnf) | (refine ACall.pure (iNetOk_p w.net) rfl ?_; conv => whnf) | (refine AFCall.mk ⟨_, _, iNetOk_p w.net, .inl rfl, ?_⟩; conv => whnf) | (exact trivial) | (refine And.intro rfl ?_; conv => whnf) | (refine AB.mk (fun h => ?_) (fun h => ?_) <;> (conv => whnf)) | (with_reducible_and_instances rfl) | (exact (rfl : AP.tup _ = AP.tup _)))
  all_goals first
    | (have hno := up_ne h
       refine rB_of ?_
       simp_all [worldOk]; done)
    | (refine rB_of ?_
       simp_all [worldOk]; done)
    | skip
  have h6 : w.up.length = 6 := len6 (by assumption)
  have hc : clocksOk w.clocks = true := by
    have : (!clocksOk w.clocks) = false := by assumption
    rwa [Bool.not_eq_false'] at this
  have hn : netOk w.net = true := by rwa [Bool.not_eq_false'] at h
  refine AWP.unroll 5 ?_
  conv => whnf
  repeat' (first | (refine AWP.seq ?_) | ((first | refine AWP.region av_ok ?_ | refine AWP.ret ?_ | refine AWP.skip ?_ | refine AWP.exit ?_ | refine AWP.block ?_ | refine AWP.cond ?_ | refine AB.tt ?_ | refine AB.ff ?_); conv => whnf) | ((first | refine AB.ofT (by assumption) ?_ | refine AB.ofF (by assumption) ?_); conv => whnf) | (refine AOp.idxFn (ds := fnTab) (n := 0) rfl rfl rfl rfl (by decide) rfl rfl ?_; conv => whnf) | (refine AOp.idxFn (ds := fnTab) (n := 1) rfl rfl rfl rfl (by decide) rfl rfl ?_; conv => whnf) | (refine AOp.idxFn (ds := fnTab) (n := 2) rfl rfl rfl rfl (by decide) rfl rfl ?_; conv => whnf) | (refine AOp.idxFn (ds := fnTab) (n := 3) rfl rfl rfl rfl (by decide) rfl rfl ?_; conv => whnf) | (refine ACall.pure (iclientsFit_p w h6 ⟨by omega, by omega⟩ ⟨by omega, by omega⟩) rfl ?_; conv => whnf) | (refine AFCall.mk ⟨_, _, iclientsFit_p w h6 ⟨by omega, by omega⟩ ⟨by omega, by omega⟩, .inl rfl, ?_⟩; conv => whnf) | (refine ACall.pure (ischedsFit_p w h6 (by omega) (by omega)) rfl ?_; conv => whnf) | (refine AFCall.mk ⟨_, _, ischedsFit_p w h6 (by omega) (by omega), .inl rfl, ?_⟩; conv => whnf) | (refine ACall.pure (ilogFits_p owed_p w h6 (small_log s1)) rfl ?_; conv => whnf) | (refine AFCall.mk ⟨_, _, ilogFits_p owed_p w h6 (small_log s1), .inl rfl, ?_⟩; conv => whnf) | (refine ACall.pure (istoreFits_p w h6 (by omega) (by omega)) rfl ?_; conv => whnf) | (refine AFCall.mk ⟨_, _, istoreFits_p w h6 (by omega) (by omega), .inl rfl, ?_⟩; conv => whnf) | (refine AW.i64 (by decide) (by decide) ?_; conv => whnf) | (exact trivial) | (refine And.intro rfl ?_; conv => whnf) | (refine AB.mk (fun h => ?_) (fun h => ?_) <;> (conv => whnf)) | (with_reducible_and_instances rfl) | (exact (rfl : AP.tup _ = AP.tup _)))
  all_goals
    refine rB_of ?_
    rw [worldOk_eq]
    simp only [hc, hn, h6, decide_true, Bool.true_and]
    first
      | (simp only [not_t h, Bool.false_and, Bool.and_false]; done)
      | (have e := not_t h
         rw [e]
         simp only [Bool.and_false]; done)
      | (have e1 := not_f h
         simp_all; done)
      | skip
theorem sWorldOk_p (w : DWorld) (hs : DWorld.small 1048576 w) : PCall av 22 [.agg w.ds] (rB (worldOk w)) := by
  obtain ⟨s1, ⟨_, s2⟩, s3, s4, s5, s6, s7, s8⟩ := hs
  simp only [DState.small, DSched.small, DView.small, DJobs.small, DClient.small] at s2 s3 s4 s5 s6
  refine pcall_of av_ok Tryz.func22 rfl Tryz.call22 Tryz.ntmps22 (congrArg Array.toList Tryz.results22) fun S => ?_; conv => whnf
  repeat' (first | (refine AWP.seq ?_) | ((first | refine AWP.region av_ok ?_ | refine AWP.ret ?_ | refine AWP.skip ?_ | refine AWP.exit ?_ | refine AWP.block ?_ | refine AWP.cond ?_ | refine AB.tt ?_ | refine AB.ff ?_); conv => whnf) | ((first | refine AB.ofT (by assumption) ?_ | refine AB.ofF (by assumption) ?_); conv => whnf) | (refine AIx.at 4 _ rfl (up_at (len6 (by assumption)) (by decide)) ?_; conv => whnf) | (refine AIx.at 5 _ rfl (up_at (len6 (by assumption)) (by decide)) ?_; conv => whnf) | (exact trivial) | (refine And.intro rfl ?_; conv => whnf) | (refine AB.mk (fun h => ?_) (fun h => ?_) <;> (conv => whnf)) | (with_reducible_and_instances rfl) | (exact (rfl : AP.tup _ = AP.tup _)))
  all_goals first
    | (have hno := up_ne h
       refine rB_of ?_
       rw [worldOk_eq]
       simp only [hno, decide_false, Bool.and_false, Bool.false_and]; done)
    | (have hno := clk_ne h
       refine rB_of ?_
       rw [worldOk_eq]
       simp only [clocksOk, hno, decide_false, Bool.and_false, Bool.false_and]; done)
    | (refine rB_of ?_
       rw [worldOk_eq]
       simp only [not_t h, Bool.and_false, Bool.false_and]; done)
    | skip
  have h6 : w.up.length = 6 := len6 (by assumption)
  have hc6 : w.clocks.length = 6 := clk6 (by assumption)
  have u4 : upAt w 4 = true := by
    have : (!upAt w 4) = false := by assumption
    exact not_f this
  have u5 : upAt w 5 = true := not_f h
  repeat' (first | (refine AWP.seq ?_) | ((first | refine AWP.region av_ok ?_ | refine AWP.ret ?_ | refine AWP.skip ?_ | refine AWP.exit ?_ | refine AWP.block ?_ | refine AWP.cond ?_ | refine AB.tt ?_ | refine AB.ff ?_); conv => whnf) | ((first | refine AB.ofT (by assumption) ?_ | refine AB.ofF (by assumption) ?_); conv => whnf) | (refine AWP.drawK av_ok 3 21 dk_WC2_spec_WorldOk_3 fk_WC2_spec_WorldOk_3 (by kernel_rfl) (by kernel_rfl) (by kernel_rfl) rfl ?_; conv => whnf) | (refine AWP.drawK av_ok 5 15 dk_WC2_spec_WorldOk_5 fk_WC2_spec_WorldOk_5 (by kernel_rfl) (by kernel_rfl) (by kernel_rfl) rfl ?_; conv => whnf) | (refine AIx.at 0 _ rfl (up_at h6 (by decide)) ?_; conv => whnf) | (refine AIx.at 1 _ rfl (up_at h6 (by decide)) ?_; conv => whnf) | (refine AIx.at 2 _ rfl (up_at h6 (by decide)) ?_; conv => whnf) | (refine AIx.at 3 _ rfl (up_at h6 (by decide)) ?_; conv => whnf) | (refine AIx.at 4 _ rfl (up_at h6 (by decide)) ?_; conv => whnf) | (refine AIx.at 5 _ rfl (up_at h6 (by decide)) ?_; conv => whnf) | (refine ACall.pure (sl22Clocks_p w.clocks hc6) rfl ?_; conv => whnf) | (refine AFCall.mk ⟨_, _, sl22Clocks_p w.clocks hc6, .inl rfl, ?_⟩; conv => whnf) | (refine ACall.pure (sl22Log_p w.log _ (small_log s1)) rfl ?_; conv => whnf) | (refine AFCall.mk ⟨_, _, sl22Log_p w.log _ (small_log s1), .inl rfl, ?_⟩; conv => whnf) | (refine ACall.pure (sl22Store_p w.store _ (by omega) (by omega)) rfl ?_; conv => whnf) | (refine AFCall.mk ⟨_, _, sl22Store_p w.store _ (by omega) (by omega), .inl rfl, ?_⟩; conv => whnf) | (refine ACall.pure (sl22Sched_p w.left _ _) rfl ?_; conv => whnf) | (refine AFCall.mk ⟨_, _, sl22Sched_p w.left _ _, .inl rfl, ?_⟩; conv => whnf) | (refine ACall.pure (sl22Sched_p w.right _ _) rfl ?_; conv => whnf) | (refine AFCall.mk ⟨_, _, sl22Sched_p w.right _ _, .inl rfl, ?_⟩; conv => whnf) | (refine ACall.pure (sClientOk_p w.ann (by omega) (by omega)) rfl ?_; conv => whnf) | (refine AFCall.mk ⟨_, _, sClientOk_p w.ann (by omega) (by omega), .inl rfl, ?_⟩; conv => whnf) | (refine ACall.pure (sClientOk_p w.bob (by omega) (by omega)) rfl ?_; conv => whnf) | (refine AFCall.mk ⟨_, _, sClientOk_p w.bob (by omega) (by omega), .inl rfl, ?_⟩; conv => whnf) | (refine ACall.pure (sNetOk_p w.net) rfl ?_; conv => whnf) | (refine AFCall.mk ⟨_, _, sNetOk_p w.net, .inl rfl, ?_⟩; conv => whnf) | (exact trivial) | (refine And.intro rfl ?_; conv => whnf) | (refine AB.mk (fun h => ?_) (fun h => ?_) <;> (conv => whnf)) | (with_reducible_and_instances rfl) | (exact (rfl : AP.tup _ = AP.tup _)))
  all_goals
    refine rB_of ?_
    rw [worldOk_eq]
    simp only [h6, u4, u5, decide_true, Bool.true_and, Bool.and_true]
    first
      | (simp only [not_t h, Bool.false_and, Bool.and_false]; done)
      | (have e := not_t h
         rw [e]
         simp only [Bool.and_false, Bool.false_and]; done)
      | (simp_all; done)
      | (have b1 : clocksOk w.clocks = true := not_f (by assumption)
         have b2 : (if upAt w 0 = true then logOk w.log else logDown w.log) = true := not_f (by assumption)
         have b3 : (if upAt w 1 = true then storeOk w.store else storeDown w.store) = true := not_f (by assumption)
         have b4 : schedFits w.left 2 (upAt w 2) = true := not_f (by assumption)
         have b5 : schedFits w.right 3 (upAt w 3) = true := not_f (by assumption)
         have b6 : clientOk w.ann = true := by assumption
         have b7 : (w.ann.id == 4) = true := by assumption
         have b8 : clientOk w.bob = true := by assumption
         have b9 : (w.bob.id == 5) = true := by assumption
         simp only [b1, b2, b3, b4, b5, b6, b7, b8, b9, Bool.and_true, Bool.true_and])
end Go.Proofs.YthmckpghadfeeaaGreat
