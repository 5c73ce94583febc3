/- The next head of a log, by the reference; and by the program. -/
import Derived.Test.YthmckpghadfeeaaGreatWB7
import Derived.Test.YthmckpghadfeeaaGreatAvVG
import Derived.Test.YthmckpghadfeeaaGreatWA7
set_option linter.unusedVariables false
set_option linter.unusedSimpArgs false
set_option maxRecDepth 100000
namespace Go.Proofs.YthmckpghadfeeaaGreat
open Go.ChangeShapes Go.WideShapes Go.RowKit
def dk_WB8_spec_l12Next_1 : List (List Nat) := [[], [0], [0, 1], [1, 0, 2], [], [], [5], [], [7, 5, 6], [6, 5, 7, 8, 4, 2, 0, 1, 3], [], [3, 1, 0, 2, 4, 8, 7, 5, 6, 9, 10]]
def fk_WB8_spec_l12Next_1 : List (List Nat) := [[0, 0, 0, 0, 2, 2, 2, 2, 2, 0, 2], [1, 0, 0, 0, 2, 2, 2, 2, 2, 0, 2], [1, 1, 0, 0, 2, 2, 2, 2, 2, 0, 2], [1, 1, 1, 0, 2, 2, 2, 2, 2, 0, 2], [2, 2, 2, 2, 0, 2, 2, 2, 2, 0, 2], [2, 2, 2, 2, 2, 0, 0, 2, 0, 0, 2], [2, 2, 2, 2, 2, 1, 0, 2, 0, 0, 2], [2, 2, 2, 2, 2, 2, 2, 0, 0, 0, 2], [2, 2, 2, 2, 2, 1, 1, 1, 0, 0, 2], [1, 1, 1, 1, 1, 1, 1, 1, 1, 0, 2], [2, 2, 2, 2, 2, 2, 2, 2, 2, 2, 0]]
def dk_WB8_spec_l12Next_2 : List (List Nat) := [[], [0], [0, 1], [], [3], [], [5], [5, 6], [6, 5, 7], [], [9, 7, 5, 6, 8, 3, 4], [4, 3, 8, 6, 5, 7, 9, 10, 1, 0, 2], [2, 0, 1, 10, 9, 7, 5, 6, 8, 3, 4, 11], [11, 4, 3, 8, 6, 5, 7, 9, 10, 1, 0, 2, 12], [11, 4, 3, 8, 6, 5, 7, 9, 10, 1, 0, 2, 12], [13, 12, 11, 10, 9, 8, 7, 6, 5, 4, 3, 2, 1, 0], [0, 1, 2, 3, 4, 5, 6, 7, 8, 9, 10, 11, 12, 13, 15]]
def fk_WB8_spec_l12Next_2 : List (List Nat) := [[0, 0, 0, 2, 2, 2, 2, 2, 2, 2, 2, 0, 0, 0, 0, 0], [1, 0, 0, 2, 2, 2, 2, 2, 2, 2, 2, 0, 0, 0, 0, 0], [1, 1, 0, 2, 2, 2, 2, 2, 2, 2, 2, 0, 0, 0, 0, 0], [2, 2, 2, 0, 0, 2, 2, 2, 2, 2, 0, 0, 0, 0, 0, 0], [2, 2, 2, 1, 0, 2, 2, 2, 2, 2, 0, 0, 0, 0, 0, 0], [2, 2, 2, 2, 2, 0, 0, 0, 0, 2, 0, 0, 0, 0, 0, 0], [2, 2, 2, 2, 2, 1, 0, 0, 0, 2, 0, 0, 0, 0, 0, 0], [2, 2, 2, 2, 2, 1, 1, 0, 0, 2, 0, 0, 0, 0, 0, 0], [2, 2, 2, 2, 2, 1, 1, 1, 0, 2, 0, 0, 0, 0, 0, 0], [2, 2, 2, 2, 2, 2, 2, 2, 2, 0, 0, 0, 0, 0, 0, 0], [2, 2, 2, 1, 1, 1, 1, 1, 1, 1, 0, 0, 0, 0, 0, 0], [1, 1, 1, 1, 1, 1, 1, 1, 1, 1, 1, 0, 0, 0, 0, 0], [1, 1, 1, 1, 1, 1, 1, 1, 1, 1, 1, 1, 0, 0, 0, 0], [1, 1, 1, 1, 1, 1, 1, 1, 1, 1, 1, 1, 1, 0, 2, 0], [1, 1, 1, 1, 1, 1, 1, 1, 1, 1, 1, 1, 1, 2, 0, 2], [1, 1, 1, 1, 1, 1, 1, 1, 1, 1, 1, 1, 1, 1, 2, 0]]
def dk_WB8_spec_LogOk_4 : List (List Nat) := [[], [0], [0, 1], [1, 0, 2], [1, 0, 2], [2, 0, 1, 4], [4, 5, 2, 0, 1, 3], [3, 1, 0, 2, 5, 4, 6], [6, 4, 5, 3, 7, 1, 0, 2], [2, 0, 1, 7, 3, 5, 4, 6, 8], [8, 6, 4, 5, 3, 7, 1, 0, 2, 9], [9, 2, 0, 1, 7, 3, 5, 4, 6, 8, 10], [8, 6, 4, 5, 3, 7, 1, 0, 2, 9], [9, 2, 0, 1, 7, 3, 5, 4, 6, 8, 12], [12, 8, 6, 4, 5, 3, 7, 1, 0, 2, 9, 13], [8, 6, 4, 5, 3, 7, 1, 0, 2, 9], [9, 2, 0, 1, 7, 3, 5, 4, 6, 8, 15], [15, 8, 6, 4, 5, 3, 7, 1, 0, 2, 9, 16], [16, 15, 17, 13, 12, 14, 10, 8, 6, 4, 5, 3, 7, 1, 0, 2, 9, 11], [11, 9, 2, 0, 1, 7, 3, 5, 4, 6, 8, 10, 14, 12, 13, 17, 15, 16, 18], [18, 16, 15, 17, 13, 12, 14, 10, 11, 19, 8, 6, 4, 5, 3, 7, 1, 0, 2, 9], [9, 2, 0, 1, 7, 3, 5, 4, 6, 8, 19, 11, 10, 14, 12, 13, 17, 15, 16, 18, 20], [20, 18, 16, 15, 17, 13, 12, 14, 10, 11, 19, 8, 6, 4, 5, 3, 7, 1, 0, 2, 9, 21], [21, 9, 2, 0, 1, 7, 3, 5, 4, 6, 8, 19, 11, 10, 14, 12, 13, 17, 15, 16, 18, 20, 22], [22, 20, 18, 16, 15, 17, 13, 12, 14, 10, 11, 19, 8, 6, 4, 5, 3, 7, 1, 0, 2, 9, 21, 23], [23, 22, 24, 20, 18, 16, 15, 17, 13, 12, 14, 10, 11, 19, 8, 6, 4, 5, 3, 7, 1, 0, 2, 9, 21]]
def fk_WB8_spec_LogOk_4 : List (List Nat) := [[0, 0, 0, 0, 0, 0, 0, 0, 0, 0, 0, 0, 0, 0, 0, 0, 0, 0], [1, 0, 0, 0, 0, 0, 0, 0, 0, 0, 0, 0, 0, 0, 0, 0, 0, 0], [1, 1, 0, 0, 0, 0, 0, 0, 0, 0, 0, 0, 0, 0, 0, 0, 0, 0], [1, 1, 1, 0, 2, 2, 0, 0, 0, 0, 0, 0, 0, 0, 0, 0, 0, 0], [1, 1, 1, 2, 0, 0, 0, 0, 0, 0, 0, 0, 0, 0, 0, 0, 0, 0], [1, 1, 1, 2, 1, 0, 0, 0, 0, 0, 0, 0, 0, 0, 0, 0, 0, 0], [1, 1, 1, 1, 1, 1, 0, 0, 0, 0, 0, 0, 0, 0, 0, 0, 0, 0], [1, 1, 1, 1, 1, 1, 1, 0, 0, 0, 0, 0, 0, 0, 0, 0, 0, 0], [1, 1, 1, 1, 1, 1, 1, 1, 0, 0, 0, 0, 0, 0, 0, 0, 0, 0], [1, 1, 1, 1, 1, 1, 1, 1, 1, 0, 0, 0, 0, 0, 0, 0, 0, 0], [1, 1, 1, 1, 1, 1, 1, 1, 1, 1, 0, 0, 2, 2, 2, 2, 2, 2], [1, 1, 1, 1, 1, 1, 1, 1, 1, 1, 1, 0, 2, 2, 2, 2, 2, 2], [1, 1, 1, 1, 1, 1, 1, 1, 1, 1, 2, 2, 0, 0, 0, 2, 2, 2], [1, 1, 1, 1, 1, 1, 1, 1, 1, 1, 2, 2, 1, 0, 0, 2, 2, 2], [1, 1, 1, 1, 1, 1, 1, 1, 1, 1, 2, 2, 1, 1, 0, 2, 2, 2], [1, 1, 1, 1, 1, 1, 1, 1, 1, 1, 2, 2, 2, 2, 2, 0, 0, 0], [1, 1, 1, 1, 1, 1, 1, 1, 1, 1, 2, 2, 2, 2, 2, 1, 0, 0], [1, 1, 1, 1, 1, 1, 1, 1, 1, 1, 2, 2, 2, 2, 2, 1, 1, 0]]
def dk_WB8_spec_LogOk_8 : List (List Nat) := [[], [0], [0, 1], [], [3], [3, 4], [4, 3, 5], [], [7], [7, 8, 5, 3, 4, 6, 1, 0, 2], [2, 0, 1, 6, 4, 3, 5, 8, 7, 9], [9, 7, 8, 5, 3, 4, 6, 1, 0, 2, 10], [10, 2, 0, 1, 6, 4, 3, 5, 8, 7, 9, 11], [9, 7, 8, 5, 3, 4, 6, 1, 0, 2, 10], [9, 7, 8, 5, 3, 4, 6, 1, 0, 2, 10], [10, 2, 0, 1, 6, 4, 3, 5, 8, 7, 9, 14], [14, 9, 7, 8, 5, 3, 4, 6, 1, 0, 2, 10, 15], [15, 14, 16, 10, 2, 0, 1, 6, 4, 3, 5, 8, 7, 9, 13], [13, 16, 14, 15, 17, 11, 9, 7, 8, 5, 3, 4, 6, 1, 0, 2, 10, 12], [12, 11, 17, 15, 14, 16, 13, 18, 9, 7, 8, 5, 3, 4, 6, 1, 0, 2, 10], [10, 2, 0, 1, 6, 4, 3, 5, 8, 7, 9, 18, 13, 16, 14, 15, 17, 11, 12, 19]]
def fk_WB8_spec_LogOk_8 : List (List Nat) := [[0, 0, 0, 2, 2, 2, 2, 2, 2, 0, 0, 0, 0, 0, 0, 0, 0, 0], [1, 0, 0, 2, 2, 2, 2, 2, 2, 0, 0, 0, 0, 0, 0, 0, 0, 0], [1, 1, 0, 2, 2, 2, 2, 2, 2, 0, 0, 0, 0, 0, 0, 0, 0, 0], [2, 2, 2, 0, 0, 0, 0, 2, 2, 0, 0, 0, 0, 0, 0, 0, 0, 0], [2, 2, 2, 1, 0, 0, 0, 2, 2, 0, 0, 0, 0, 0, 0, 0, 0, 0], [2, 2, 2, 1, 1, 0, 0, 2, 2, 0, 0, 0, 0, 0, 0, 0, 0, 0], [2, 2, 2, 1, 1, 1, 0, 2, 2, 0, 0, 0, 0, 0, 0, 0, 0, 0], [2, 2, 2, 2, 2, 2, 2, 0, 0, 0, 0, 0, 0, 0, 0, 0, 0, 0], [2, 2, 2, 2, 2, 2, 2, 1, 0, 0, 0, 0, 0, 0, 0, 0, 0, 0], [1, 1, 1, 1, 1, 1, 1, 1, 1, 0, 0, 0, 0, 0, 0, 0, 0, 0], [1, 1, 1, 1, 1, 1, 1, 1, 1, 1, 0, 0, 0, 0, 0, 0, 0, 0], [1, 1, 1, 1, 1, 1, 1, 1, 1, 1, 1, 0, 0, 2, 2, 2, 2, 2], [1, 1, 1, 1, 1, 1, 1, 1, 1, 1, 1, 1, 0, 2, 2, 2, 2, 2], [1, 1, 1, 1, 1, 1, 1, 1, 1, 1, 1, 2, 2, 0, 2, 2, 2, 0], [1, 1, 1, 1, 1, 1, 1, 1, 1, 1, 1, 2, 2, 2, 0, 0, 0, 0], [1, 1, 1, 1, 1, 1, 1, 1, 1, 1, 1, 2, 2, 2, 1, 0, 0, 0], [1, 1, 1, 1, 1, 1, 1, 1, 1, 1, 1, 2, 2, 2, 1, 1, 0, 0], [1, 1, 1, 1, 1, 1, 1, 1, 1, 1, 1, 2, 2, 1, 1, 1, 1, 0]]

def nextAt (n : DLogNode) (i : Int) : DHead := ⟨n.head.num + 1, i, timeAt n.book i, (seenOver n.head.seen (partL n.book (n.book.base + 1) i)).1⟩
theorem sl12Next_p (n : DLogNode) (i : Int) (hb : bookOk n.book = true) (hn : 0 ≤ n.head.num ∧ n.head.num ≤ 2000) (h1 : n.book.base + 1 ≤ i) (h2 : i ≤ lastB n.book) : PCall av 162 [.agg n.ds, .one (dI i)] (.val (.agg (nextAt n i).ds)) := by
  have hp := book_parts hb
  have hq := book_last hb
  have h20 := hp.2.2.1
  refine pcall_of av_ok Tryz.func162 rfl Tryz.call162 Tryz.ntmps162 (congrArg Array.toList Tryz.results162) fun S => ?_; conv => whnf
  repeat' (first | (refine AWP.seq ?_) | ((first | refine AWP.region av_ok ?_ | refine AWP.ret ?_ | refine AWP.skip ?_ | refine AWP.exit ?_ | refine AWP.block ?_ | refine AWP.cond ?_ | refine AB.tt ?_ | refine AB.ff ?_); conv => whnf) | ((first | refine AB.ofT (by assumption) ?_ | refine AB.ofF (by assumption) ?_); conv => whnf) | (refine AWP.drawK av_ok 1 11 dk_WB8_spec_l12Next_1 fk_WB8_spec_l12Next_1 (by kernel_rfl) (by kernel_rfl) (by kernel_rfl) rfl ?_; conv => whnf) | (refine AW.i64 (by omega) (by omega) ?_; conv => whnf) | (refine ACall.pure (sl8TimeAt_p n.book i hb h1 h2) rfl ?_; conv => whnf) | (refine AFCall.mk ⟨_, _, sl8TimeAt_p n.book i hb h1 h2, .inl rfl, ?_⟩; conv => whnf) | (exact trivial) | (refine And.intro rfl ?_; conv => whnf) | (refine AB.mk (fun h => ?_) (fun h => ?_) <;> (conv => whnf)) | (with_reducible_and_instances rfl) | (exact (rfl : AP.tup _ = AP.tup _)))
  refine AWP.drawSO av_ok 2 16 dk_WB8_spec_l12Next_2 fk_WB8_spec_l12Next_2 15 13 (by kernel_rfl) (by kernel_rfl) (by kernel_rfl) rfl ⟨_, rfl, rfl, rfl, rfl⟩ rfl rfl rfl rfl ?_; conv => whnf
  repeat' (first | (refine AWP.seq ?_) | ((first | refine AWP.region av_ok ?_ | refine AWP.ret ?_ | refine AWP.skip ?_ | refine AWP.exit ?_ | refine AWP.block ?_ | refine AWP.cond ?_ | refine AB.tt ?_ | refine AB.ff ?_); conv => whnf) | ((first | refine AB.ofT (by assumption) ?_ | refine AB.ofF (by assumption) ?_); conv => whnf) | (refine AW.i64 (by omega) (by omega) ?_; conv => whnf) | (refine ACall.pure (sl12Part_p n.book _ _ h20) rfl ?_; conv => whnf) | (refine AFCall.mk ⟨_, _, sl12Part_p n.book _ _ h20, .inl rfl, ?_⟩; conv => whnf) | (refine ACall.pure (sSeenOver_p n.head.seen (partL n.book (n.book.base + 1) i)) rfl ?_; conv => whnf) | (refine AFCall.mk ⟨_, _, sSeenOver_p n.head.seen (partL n.book (n.book.base + 1) i), .inl rfl, ?_⟩; conv => whnf) | (exact trivial) | (refine And.intro rfl ?_; conv => whnf) | (refine AB.mk (fun h => ?_) (fun h => ?_) <;> (conv => whnf)) | (with_reducible_and_instances rfl) | (exact (rfl : AP.tup _ = AP.tup _)))
  refine ⟨_, _, _, _, _, ?o1, rfl, rfl, rfl, rfl, ?hst, ?hk⟩
  case hst =>
    conv => whnf
  conv => whnf
  refine ⟨rfl, ?_, ?_⟩
  · repeat' (first | exact trivial | exact ⟨rfl, rfl⟩ | (refine ⟨?_, ?_⟩) | (refine AWP.seq ?_) | ((first | refine AWP.region av_ok ?_ | refine AWP.ret ?_ | refine AWP.skip ?_ | refine AWP.exit ?_ | refine AWP.block ?_ | refine AWP.cond ?_ | refine AB.tt ?_ | refine AB.ff ?_); conv => whnf) | ((first | refine AB.ofT (by assumption) ?_ | refine AB.ofF (by assumption) ?_); conv => whnf) | (conv => whnf))
  conv => whnf
  repeat' (first | (refine AWP.seq ?_) | ((first | refine AWP.region av_ok ?_ | refine AWP.ret ?_ | refine AWP.skip ?_ | refine AWP.exit ?_ | refine AWP.block ?_ | refine AWP.cond ?_ | refine AB.tt ?_ | refine AB.ff ?_); conv => whnf) | ((first | refine AB.ofT (by assumption) ?_ | refine AB.ofF (by assumption) ?_); conv => whnf) | (exact trivial) | (refine And.intro rfl ?_; conv => whnf) | (refine AB.mk (fun h => ?_) (fun h => ?_) <;> (conv => whnf)) | (with_reducible_and_instances rfl) | (exact (rfl : AP.tup _ = AP.tup _)))
  all_goals rfl
theorem pair_eq {α : Type} [BEq α] [LawfulBEq α] [DecidableEq α] (x : α × Bool) (s : α) : (x == (s, true)) = (x.2 && decide (x.1 = s)) := by
  obtain ⟨a, b⟩ := x
  cases b <;> (rw [Bool.eq_iff_iff]; simp [Prod.mk.injEq])
def logP1 (n : DLogNode) : Bool := keptOk n.two && headOk n.head && bookOk n.book && n.book.base == n.head.base && n.book.time == n.head.time
def logP2 (n : DLogNode) : Bool := (seenOver n.head.seen n.book.entries).2 && decide ((seenOver n.head.seen n.book.entries).1 = n.seen) && betweenB n.durable n.book.base (lastB n.book)
theorem beq_dec {α : Type} [BEq α] [LawfulBEq α] [DecidableEq α] (a b : α) : (a == b) = decide (a = b) := by
  rw [Bool.eq_iff_iff]; simp
theorem logOk_eq (n : DLogNode) : logOk n = (logP1 n && logP2 n && decide (n.owe = (entAfter n.book n.durable).map ackOf) && nextOkB n) := by
  simp only [logOk, logP1, logP2, pair_eq, Bool.and_assoc, beq_dec n.owe]
theorem log_p1 {n : DLogNode} (h : logP1 n = true) : keptOk n.two = true ∧ headOk n.head = true ∧ bookOk n.book = true ∧ n.book.base = n.head.base ∧ n.book.time = n.head.time := by
  simp only [logP1, Bool.and_eq_true, beq_iff_eq] at h
  exact ⟨h.1.1.1.1, h.1.1.1.2, h.1.1.2, h.1.2, h.2⟩
theorem head_bounds {h : DHead} (hh : headOk h = true) : (0 ≤ h.num ∧ h.num ≤ 2000) ∧ (0 ≤ h.base ∧ h.base ≤ 2000) ∧ seenOk h.seen = true := by
  simp only [headOk, Bool.and_eq_true, betweenB, decide_eq_true_eq] at hh
  exact ⟨by omega, by omega, hh.1.2⟩
theorem logOk_1 {n : DLogNode} (h : logP1 n = false) : logOk n = false := by simp only [logOk_eq, h, Bool.false_and]
theorem logOk_2 {n : DLogNode} (h : logP2 n = false) : logOk n = false := by simp only [logOk_eq, h, Bool.false_and, Bool.and_false]
theorem logOk_3 {n : DLogNode} (h : decide (n.owe = (entAfter n.book n.durable).map ackOf) = false) : logOk n = false := by simp only [logOk_eq, h, Bool.false_and, Bool.and_false]
theorem logOk_4 {n : DLogNode} {b : Bool} (h1 : logP1 n = true) (h2 : logP2 n = true) (h3 : decide (n.owe = (entAfter n.book n.durable).map ackOf) = true) (h : b = nextOkB n) : b = logOk n := by simp only [logOk_eq, h1, h2, h3, h, Bool.true_and]
theorem dur_of {n : DLogNode} (h : (!betweenB n.durable n.book.base (lastB n.book)) = false) : n.book.base ≤ n.durable ∧ n.durable ≤ lastB n.book := by
  simpa [betweenB] using h
theorem p2_a {n : DLogNode} (h : (!(seenOver n.head.seen n.book.entries).snd) = true) : logP2 n = false := by
  rw [Bool.not_eq_true'] at h; simp only [logP2, h, Bool.false_and]
theorem p2_b {n : DLogNode} (h : (!decide ((seenOver n.head.seen n.book.entries).fst = n.seen)) = true) : logP2 n = false := by
  rw [Bool.not_eq_true'] at h; simp only [logP2, h, Bool.false_and, Bool.and_false]
theorem p2_c {n : DLogNode} (h : (!betweenB n.durable n.book.base (lastB n.book)) = true) : logP2 n = false := by
  rw [Bool.not_eq_true'] at h; simp only [logP2, h, Bool.and_false]
theorem p2_y {n : DLogNode} (h1 : (!(seenOver n.head.seen n.book.entries).snd) = false) (h2 : (!decide ((seenOver n.head.seen n.book.entries).fst = n.seen)) = false) (h3 : (!betweenB n.durable n.book.base (lastB n.book)) = false) : logP2 n = true := by
  rw [Bool.not_eq_false'] at h1 h2 h3; simp only [logP2, h1, h2, h3, Bool.and_self]
theorem over_small {s : List DMark} {l : List DEntry} (h : seenOk s = true) : (seenOver s l).1.length ≤ 4 := by
  unfold seenOver
  simp only [h, Bool.not_true, Bool.false_eq_true, if_false]
  split
  · exact seen_le4 h
  · cases hf : seenFold s l with
    | none => exact seen_le4 h
    | some c => exact seen_le4 (fold_seen h hf)
theorem nextOk_down {n : DLogNode} (h : (!n.more) = true) : decide (n.nxt = head0) = nextOkB n := by
  rw [Bool.not_eq_true'] at h; simp only [nextOkB, h, Bool.false_eq_true, if_false, beq_dec n.nxt]
theorem nextAt_next {n : DLogNode} (hb : bookOk n.book = true) : nextAt n n.nxt.base = nextHead n := by
  simp only [nextAt, nextHead, part_to hb, timeAt, entry0]
theorem nextOk_in {n : DLogNode} (hm : (!n.more) = false) : nextOkB n = (betweenB n.nxt.base (n.head.base + 1) n.durable && decide (n.nxt = nextHead n)) := by
  rw [Bool.not_eq_false'] at hm; simp only [nextOkB, hm, if_true, beq_dec n.nxt]
theorem next_lo {n : DLogNode} (hbb : n.book.base = n.head.base) (h : betweenB n.nxt.base (n.head.base + 1) n.durable = true) : n.book.base + 1 ≤ n.nxt.base := by
  simp only [betweenB, Bool.and_eq_true, decide_eq_true_eq] at h; omega
theorem next_hi {n : DLogNode} (h3 : (!betweenB n.durable n.book.base (lastB n.book)) = false) (h : betweenB n.nxt.base (n.head.base + 1) n.durable = true) : n.nxt.base ≤ lastB n.book := by
  have := dur_of h3
  simp only [betweenB, Bool.and_eq_true, decide_eq_true_eq] at h; omega
theorem nextAt_len {n : DLogNode} {i : Int} (h : seenOk n.head.seen = true) : (nextAt n i).seen.length ≤ 9223372036854775806 := Nat.le_trans (over_small h) (by decide)
set_option maxHeartbeats 2000000 in
theorem sLogOk_p (n : DLogNode) (hhs : n.head.seen.length ≤ 9223372036854775806) (ho : n.owe.length ≤ 9223372036854775806) (hs : n.seen.length ≤ 9223372036854775806) (hx : n.nxt.seen.length ≤ 9223372036854775806) : PCall av 101 [.agg n.ds] (rB (logOk n)) := by
  refine pcall_of av_ok Tryz.func101 rfl Tryz.call101 Tryz.ntmps101 (congrArg Array.toList Tryz.results101) fun S => ?_; conv => whnf
  repeat' (first | (refine AWP.seq ?_) | ((first | refine AWP.region av_ok ?_ | refine AWP.ret ?_ | refine AWP.skip ?_ | refine AWP.exit ?_ | refine AWP.block ?_ | refine AWP.cond ?_ | refine AB.tt ?_ | refine AB.ff ?_); conv => whnf) | ((first | refine AB.ofT (by assumption) ?_ | refine AB.ofF (by assumption) ?_); conv => whnf) | (refine ACall.pure (sKeptOk_p n.two) rfl ?_; conv => whnf) | (refine AFCall.mk ⟨_, _, sKeptOk_p n.two, .inl rfl, ?_⟩; conv => whnf) | (refine ACall.pure (sHeadOk_p n.head hhs) rfl ?_; conv => whnf) | (refine AFCall.mk ⟨_, _, sHeadOk_p n.head hhs, .inl rfl, ?_⟩; conv => whnf) | (refine ACall.pure (sBookOk_p n.book) rfl ?_; conv => whnf) | (refine AFCall.mk ⟨_, _, sBookOk_p n.book, .inl rfl, ?_⟩; conv => whnf) | (refine ACall.pure (sSeenOver_p n.head.seen n.book.entries) rfl ?_; conv => whnf) | (refine AFCall.mk ⟨_, _, sSeenOver_p n.head.seen n.book.entries, .inl rfl, ?_⟩; conv => whnf) | (exact trivial) | (refine And.intro rfl ?_; conv => whnf) | (refine AB.mk (fun h => ?_) (fun h => ?_) <;> (conv => whnf)) | (with_reducible_and_instances rfl) | (exact (rfl : AP.tup _ = AP.tup _)))
  all_goals first
    | (have hno : logP1 n = false := by simp_all [logP1]
       rw [logOk_1 hno]; done)
    | skip
  have h1 : logP1 n = true := by simp_all [logP1]
  obtain ⟨hk, hh, hb, hbb, htt⟩ := log_p1 h1
  have hq := head_bounds hh
  have hp := book_parts hb
  have hl := book_last hb
  have hsv : (seenOver n.head.seen n.book.entries).1.length ≤ 9223372036854775806 := Nat.le_trans (over_small hq.2.2) (by decide)
  repeat' (first | (refine AWP.seq ?_) | ((first | refine AWP.region av_ok ?_ | refine AWP.ret ?_ | refine AWP.skip ?_ | refine AWP.exit ?_ | refine AWP.block ?_ | refine AWP.cond ?_ | refine AB.tt ?_ | refine AB.ff ?_); conv => whnf) | ((first | refine AB.ofT (by assumption) ?_ | refine AB.ofF (by assumption) ?_); conv => whnf) | (refine AWP.drawK av_ok 4 18 dk_WB8_spec_LogOk_4 fk_WB8_spec_LogOk_4 (by kernel_rfl) (by kernel_rfl) (by kernel_rfl) rfl ?_; conv => whnf) | (refine ACall.pure (sSameSeen_p (seenOver n.head.seen n.book.entries).1 n.seen hsv) rfl ?_; conv => whnf) | (refine AFCall.mk ⟨_, _, sSameSeen_p (seenOver n.head.seen n.book.entries).1 n.seen hsv, .inl rfl, ?_⟩; conv => whnf) | (refine ACall.pure (sl8Last_p n.book hb) rfl ?_; conv => whnf) | (refine AFCall.mk ⟨_, _, sl8Last_p n.book hb, .inl rfl, ?_⟩; conv => whnf) | (refine ACall.pure (sl1In_p _ _ _) rfl ?_; conv => whnf) | (refine AFCall.mk ⟨_, _, sl1In_p _ _ _, .inl rfl, ?_⟩; conv => whnf) | (refine ACall.pure (sl12Owes_p n hb (dur_of (by assumption)) ho) rfl ?_; conv => whnf) | (refine AFCall.mk ⟨_, _, sl12Owes_p n hb (dur_of (by assumption)) ho, .inl rfl, ?_⟩; conv => whnf) | (exact trivial) | (refine And.intro rfl ?_; conv => whnf) | (refine AB.mk (fun h => ?_) (fun h => ?_) <;> (conv => whnf)) | (with_reducible_and_instances rfl) | (exact (rfl : AP.tup _ = AP.tup _)))
  all_goals first
    | (rw [logOk_2 (p2_a h)]; done)
    | (rw [logOk_2 (p2_b h)]; done)
    | (rw [logOk_2 (p2_c h)]; done)
    | (rw [logOk_3 (by rwa [Bool.not_eq_true'] at h)]; done)
    | skip
  all_goals
    have h2 : logP2 n = true := p2_y (by assumption) (by assumption) (by assumption)
    have h3 : decide (n.owe = (entAfter n.book n.durable).map ackOf) = true := by
      have : (!decide (n.owe = List.map ackOf (entAfter n.book n.durable))) = false := by assumption
      rwa [Bool.not_eq_false'] at this
    repeat' (first | (refine AWP.seq ?_) | ((first | refine AWP.region av_ok ?_ | refine AWP.ret ?_ | refine AWP.skip ?_ | refine AWP.exit ?_ | refine AWP.block ?_ | refine AWP.cond ?_ | refine AB.tt ?_ | refine AB.ff ?_); conv => whnf) | ((first | refine AB.ofT (by assumption) ?_ | refine AB.ofF (by assumption) ?_); conv => whnf) | (refine AWP.drawK av_ok 8 18 dk_WB8_spec_LogOk_8 fk_WB8_spec_LogOk_8 (by kernel_rfl) (by kernel_rfl) (by kernel_rfl) rfl ?_; conv => whnf) | (refine AW.i64 (by omega) (by omega) ?_; conv => whnf) | (refine ACall.pure (sl1In_p _ _ _) rfl ?_; conv => whnf) | (refine AFCall.mk ⟨_, _, sl1In_p _ _ _, .inl rfl, ?_⟩; conv => whnf) | (refine ACall.pure (sl12SameHead_p n.nxt head0 hx) rfl ?_; conv => whnf) | (refine AFCall.mk ⟨_, _, sl12SameHead_p n.nxt head0 hx, .inl rfl, ?_⟩; conv => whnf) | (refine ACall.pure (sl12Next_p n n.nxt.base hb hq.1 (next_lo hbb (by assumption)) (next_hi (by assumption) (by assumption))) rfl ?_; conv => whnf) | (refine AFCall.mk ⟨_, _, sl12Next_p n n.nxt.base hb hq.1 (next_lo hbb (by assumption)) (next_hi (by assumption) (by assumption)), .inl rfl, ?_⟩; conv => whnf) | (refine ACall.pure (sl12SameHead_p n.nxt (nextAt n n.nxt.base) hx) rfl ?_; conv => whnf) | (refine AFCall.mk ⟨_, _, sl12SameHead_p n.nxt (nextAt n n.nxt.base) hx, .inl rfl, ?_⟩; conv => whnf) | (exact trivial) | (refine And.intro rfl ?_; conv => whnf) | (refine AB.mk (fun h => ?_) (fun h => ?_) <;> (conv => whnf)) | (with_reducible_and_instances rfl) | (exact (rfl : AP.tup _ = AP.tup _)))
    all_goals
      refine rB_of (logOk_4 h1 h2 h3 ?_)
      first
        | exact nextOk_down (by assumption)
        | (rw [nextOk_in (by assumption), nextAt_next hb]; simp_all; done)
        | (rw [nextOk_in (by assumption), ← nextAt_next hb]; simp_all; done)
end Go.Proofs.YthmckpghadfeeaaGreat
