/- Joined by join.py: AvWJ AvWK AvWO -/
import Derived.Test.YtlhanpkfnhnegaaDoorAvJ7
set_option linter.unusedVariables false
set_option linter.unusedSimpArgs false
set_option maxRecDepth 100000
/- TextStep of the reference, by kinds. -/
namespace Go.Proofs.YtlhanpkfnhnegaaDoor
open Go.RowKit

/-- The reference's answer for the step that was read. -/
def stAns (x : DStep) (l : List UInt8) : DStep × Bool := if stepTextL x = l then (x, true) else (stpZ, false)
def pAns (y : DStep × Bool) : AP := .tup [.agg y.1.ds, .one (dB y.2)]
theorem ne_dec {a l : List UInt8} (h : a = l) : (!((⟨a.toArray⟩ : ByteArray).toList == (⟨l.toArray⟩ : ByteArray).toList)) = false := by rw [str_dec, decide_eq_true h]; rfl
theorem ne_dec' {a l : List UInt8} (h : ¬ a = l) : (!((⟨a.toArray⟩ : ByteArray).toList == (⟨l.toArray⟩ : ByteArray).toList)) = true := by rw [str_dec, decide_eq_false h]; rfl
theorem sTextStep_1 (l w0 w1 : List UInt8) (r : List (List UInt8)) (hl : l.length ≤ 160) (hw : wordsL 32 l = w0 :: w1 :: r) (hk : idxL kindsL w0 = 1) : PCall av 48 [pL l] (pAns (stAns ⟨1, numN w1, 0, 0, []⟩ l)) := by
  have hwl : ∀ w ∈ wordsL 32 l, w.length ≤ 2000000 := fun w h => by have := words_len w h; omega
  rw [hw] at hwl
  have sp := sl1Split_p l 32 (by omega)
  rw [hw] at sp
  have kp := sl1At_p kindsL w0 (by decide)
  rw [hk] at kp
  have hlt : decide (((⟨l.toArray⟩ : ByteArray).size : Int) > 160) = false := by rw [sz_dL]; simp; omega
  have h2 : decide ((((w0 :: w1 :: r).map eS).length : Int) < 2) = false := by simp only [List.length_map, List.length_cons, decide_eq_false_iff_not]; omega
  have n1 := sl32Number_p w1 (hwl w1 (by simp))
  have o1 := sNodeOf_p w1
  have nd : PCall av 83 [pI 1] (rB false) := sl32Node_p 1
  have tp := sStepText_p ⟨1, numN w1, 0, 0, []⟩
  unfold stAns
  by_cases h3 : stepTextL ⟨1, numN w1, 0, 0, []⟩ = l
  · have h3' := ne_dec h3
    rw [if_pos h3]
    refine pcall_of av_ok Tryd.func48 rfl Tryd.call48 Tryd.ntmps48 (congrArg Array.toList Tryd.results48) fun S => ?_; conv => whnf
    repeat' (first | (refine AWP.seq ?_) | (refine AWP.region av_ok ?_; conv => whnf) | (refine AWP.ret ?_; conv => whnf) | (refine AWP.skip ?_; conv => whnf) | (refine AWP.exit ?_; conv => whnf) | (refine AWP.block ?_; conv => whnf) | (refine AWP.cond ?_; conv => whnf) | (refine AB.tt ?_; conv => whnf) | (refine AB.ff ?_; conv => whnf) | (refine AB.ofT (by assumption) ?_; conv => whnf) | (refine AB.ofF (by assumption) ?_; conv => whnf) | (refine ACall.pure sp rfl ?_; conv => whnf) | (exact trivial) | (refine And.intro rfl ?_; conv => whnf) | (refine AB.mk (fun h => ?_) (fun h => ?_) <;> (conv => whnf)) | (with_reducible_and_instances rfl) | (exact (rfl : AP.tup _ = AP.tup _)))
    refine' AWP.draw av_ok 7 [[], [], [1], [1, 2], [2, 1, 3, 0], [0, 3, 1, 2, 4], [], [4, 2, 1, 3, 0, 5, 6]] [(_, _), (_, _), (_, _), (_, _), (_, _), (_, _), (_, _)] ?hD ?hok ?hl ?hf ?hno ?ht
    case hD => kernel_rfl
    case hok => kernel_rfl
    case hl => rfl
    case hf => (conv => whnf); repeat' (first | (refine ⟨rfl, rfl⟩) | exact trivial | (refine AFCall.mk ⟨_, _, sl32Kinds_p, .inl rfl, ?_⟩; conv => whnf) | (refine AFCall.mk ⟨_, _, kp, .inl rfl, ?_⟩; conv => whnf) | (refine AIx.at 0 _ rfl rfl ?_; conv => whnf) | (refine And.intro ?_ ?_ <;> conv => whnf))
    case hno => rfl
    case ht =>
      (conv => whnf)
      repeat' (first | (refine AWP.seq ?_) | (refine AWP.region av_ok ?_; conv => whnf) | (refine AWP.ret ?_; conv => whnf) | (refine AWP.skip ?_; conv => whnf) | (refine AWP.exit ?_; conv => whnf) | (refine AWP.block ?_; conv => whnf) | (refine AWP.cond ?_; conv => whnf) | (refine AB.tt ?_; conv => whnf) | (refine AB.ff ?_; conv => whnf) | (refine AB.ofT (by assumption) ?_; conv => whnf) | (refine AB.ofF (by assumption) ?_; conv => whnf) | (refine AIx.at 1 _ rfl rfl ?_; conv => whnf) | (refine AIx.at 2 _ rfl rfl ?_; conv => whnf) | (refine ACall.pure n1 rfl ?_; conv => whnf) | (refine ACall.pure o1 rfl ?_; conv => whnf) | (refine ACall.pure nd rfl ?_; conv => whnf) | (refine ACall.pure tp rfl ?_; conv => whnf) | (refine AB.ofT (by decide) ?_; conv => whnf) | (refine AB.ofF (by decide) ?_; conv => whnf) | (exact trivial) | (refine And.intro rfl ?_; conv => whnf) | (refine AB.mk (fun h => ?_) (fun h => ?_) <;> (conv => whnf)) | (with_reducible_and_instances rfl) | (exact (rfl : AP.tup _ = AP.tup _)))
  · have h3' := ne_dec' h3
    rw [if_neg h3]
    refine pcall_of av_ok Tryd.func48 rfl Tryd.call48 Tryd.ntmps48 (congrArg Array.toList Tryd.results48) fun S => ?_; conv => whnf
    repeat' (first | (refine AWP.seq ?_) | (refine AWP.region av_ok ?_; conv => whnf) | (refine AWP.ret ?_; conv => whnf) | (refine AWP.skip ?_; conv => whnf) | (refine AWP.exit ?_; conv => whnf) | (refine AWP.block ?_; conv => whnf) | (refine AWP.cond ?_; conv => whnf) | (refine AB.tt ?_; conv => whnf) | (refine AB.ff ?_; conv => whnf) | (refine AB.ofT (by assumption) ?_; conv => whnf) | (refine AB.ofF (by assumption) ?_; conv => whnf) | (refine ACall.pure sp rfl ?_; conv => whnf) | (exact trivial) | (refine And.intro rfl ?_; conv => whnf) | (refine AB.mk (fun h => ?_) (fun h => ?_) <;> (conv => whnf)) | (with_reducible_and_instances rfl) | (exact (rfl : AP.tup _ = AP.tup _)))
    refine' AWP.draw av_ok 7 [[], [], [1], [1, 2], [2, 1, 3, 0], [0, 3, 1, 2, 4], [], [4, 2, 1, 3, 0, 5, 6]] [(_, _), (_, _), (_, _), (_, _), (_, _), (_, _), (_, _)] ?hD ?hok ?hl ?hf ?hno ?ht
    case hD => kernel_rfl
    case hok => kernel_rfl
    case hl => rfl
    case hf => (conv => whnf); repeat' (first | (refine ⟨rfl, rfl⟩) | exact trivial | (refine AFCall.mk ⟨_, _, sl32Kinds_p, .inl rfl, ?_⟩; conv => whnf) | (refine AFCall.mk ⟨_, _, kp, .inl rfl, ?_⟩; conv => whnf) | (refine AIx.at 0 _ rfl rfl ?_; conv => whnf) | (refine And.intro ?_ ?_ <;> conv => whnf))
    case hno => rfl
    case ht =>
      (conv => whnf)
      repeat' (first | (refine AWP.seq ?_) | (refine AWP.region av_ok ?_; conv => whnf) | (refine AWP.ret ?_; conv => whnf) | (refine AWP.skip ?_; conv => whnf) | (refine AWP.exit ?_; conv => whnf) | (refine AWP.block ?_; conv => whnf) | (refine AWP.cond ?_; conv => whnf) | (refine AB.tt ?_; conv => whnf) | (refine AB.ff ?_; conv => whnf) | (refine AB.ofT (by assumption) ?_; conv => whnf) | (refine AB.ofF (by assumption) ?_; conv => whnf) | (refine AIx.at 1 _ rfl rfl ?_; conv => whnf) | (refine AIx.at 2 _ rfl rfl ?_; conv => whnf) | (refine ACall.pure n1 rfl ?_; conv => whnf) | (refine ACall.pure o1 rfl ?_; conv => whnf) | (refine ACall.pure nd rfl ?_; conv => whnf) | (refine ACall.pure tp rfl ?_; conv => whnf) | (refine AB.ofT (by decide) ?_; conv => whnf) | (refine AB.ofF (by decide) ?_; conv => whnf) | (exact trivial) | (refine And.intro rfl ?_; conv => whnf) | (refine AB.mk (fun h => ?_) (fun h => ?_) <;> (conv => whnf)) | (with_reducible_and_instances rfl) | (exact (rfl : AP.tup _ = AP.tup _)))
theorem sTextStep_7 (l w0 w1 : List UInt8) (r : List (List UInt8)) (hl : l.length ≤ 160) (hw : wordsL 32 l = w0 :: w1 :: r) (hk : idxL kindsL w0 = 7) : PCall av 48 [pL l] (pAns (stAns ⟨7, numN w1, 0, 0, []⟩ l)) := by
  have hwl : ∀ w ∈ wordsL 32 l, w.length ≤ 2000000 := fun w h => by have := words_len w h; omega
  rw [hw] at hwl
  have sp := sl1Split_p l 32 (by omega)
  rw [hw] at sp
  have kp := sl1At_p kindsL w0 (by decide)
  rw [hk] at kp
  have hlt : decide (((⟨l.toArray⟩ : ByteArray).size : Int) > 160) = false := by rw [sz_dL]; simp; omega
  have h2 : decide ((((w0 :: w1 :: r).map eS).length : Int) < 2) = false := by simp only [List.length_map, List.length_cons, decide_eq_false_iff_not]; omega
  have n1 := sl32Number_p w1 (hwl w1 (by simp))
  have o1 := sNodeOf_p w1
  have nd : PCall av 83 [pI 7] (rB false) := sl32Node_p 7
  have tp := sStepText_p ⟨7, numN w1, 0, 0, []⟩
  unfold stAns
  by_cases h3 : stepTextL ⟨7, numN w1, 0, 0, []⟩ = l
  · have h3' := ne_dec h3
    rw [if_pos h3]
    refine pcall_of av_ok Tryd.func48 rfl Tryd.call48 Tryd.ntmps48 (congrArg Array.toList Tryd.results48) fun S => ?_; conv => whnf
    repeat' (first | (refine AWP.seq ?_) | (refine AWP.region av_ok ?_; conv => whnf) | (refine AWP.ret ?_; conv => whnf) | (refine AWP.skip ?_; conv => whnf) | (refine AWP.exit ?_; conv => whnf) | (refine AWP.block ?_; conv => whnf) | (refine AWP.cond ?_; conv => whnf) | (refine AB.tt ?_; conv => whnf) | (refine AB.ff ?_; conv => whnf) | (refine AB.ofT (by assumption) ?_; conv => whnf) | (refine AB.ofF (by assumption) ?_; conv => whnf) | (refine ACall.pure sp rfl ?_; conv => whnf) | (exact trivial) | (refine And.intro rfl ?_; conv => whnf) | (refine AB.mk (fun h => ?_) (fun h => ?_) <;> (conv => whnf)) | (with_reducible_and_instances rfl) | (exact (rfl : AP.tup _ = AP.tup _)))
    refine' AWP.draw av_ok 7 [[], [], [1], [1, 2], [2, 1, 3, 0], [0, 3, 1, 2, 4], [], [4, 2, 1, 3, 0, 5, 6]] [(_, _), (_, _), (_, _), (_, _), (_, _), (_, _), (_, _)] ?hD ?hok ?hl ?hf ?hno ?ht
    case hD => kernel_rfl
    case hok => kernel_rfl
    case hl => rfl
    case hf => (conv => whnf); repeat' (first | (refine ⟨rfl, rfl⟩) | exact trivial | (refine AFCall.mk ⟨_, _, sl32Kinds_p, .inl rfl, ?_⟩; conv => whnf) | (refine AFCall.mk ⟨_, _, kp, .inl rfl, ?_⟩; conv => whnf) | (refine AIx.at 0 _ rfl rfl ?_; conv => whnf) | (refine And.intro ?_ ?_ <;> conv => whnf))
    case hno => rfl
    case ht =>
      (conv => whnf)
      repeat' (first | (refine AWP.seq ?_) | (refine AWP.region av_ok ?_; conv => whnf) | (refine AWP.ret ?_; conv => whnf) | (refine AWP.skip ?_; conv => whnf) | (refine AWP.exit ?_; conv => whnf) | (refine AWP.block ?_; conv => whnf) | (refine AWP.cond ?_; conv => whnf) | (refine AB.tt ?_; conv => whnf) | (refine AB.ff ?_; conv => whnf) | (refine AB.ofT (by assumption) ?_; conv => whnf) | (refine AB.ofF (by assumption) ?_; conv => whnf) | (refine AIx.at 1 _ rfl rfl ?_; conv => whnf) | (refine AIx.at 2 _ rfl rfl ?_; conv => whnf) | (refine ACall.pure n1 rfl ?_; conv => whnf) | (refine ACall.pure o1 rfl ?_; conv => whnf) | (refine ACall.pure nd rfl ?_; conv => whnf) | (refine ACall.pure tp rfl ?_; conv => whnf) | (refine AB.ofT (by decide) ?_; conv => whnf) | (refine AB.ofF (by decide) ?_; conv => whnf) | (exact trivial) | (refine And.intro rfl ?_; conv => whnf) | (refine AB.mk (fun h => ?_) (fun h => ?_) <;> (conv => whnf)) | (with_reducible_and_instances rfl) | (exact (rfl : AP.tup _ = AP.tup _)))
  · have h3' := ne_dec' h3
    rw [if_neg h3]
    refine pcall_of av_ok Tryd.func48 rfl Tryd.call48 Tryd.ntmps48 (congrArg Array.toList Tryd.results48) fun S => ?_; conv => whnf
    repeat' (first | (refine AWP.seq ?_) | (refine AWP.region av_ok ?_; conv => whnf) | (refine AWP.ret ?_; conv => whnf) | (refine AWP.skip ?_; conv => whnf) | (refine AWP.exit ?_; conv => whnf) | (refine AWP.block ?_; conv => whnf) | (refine AWP.cond ?_; conv => whnf) | (refine AB.tt ?_; conv => whnf) | (refine AB.ff ?_; conv => whnf) | (refine AB.ofT (by assumption) ?_; conv => whnf) | (refine AB.ofF (by assumption) ?_; conv => whnf) | (refine ACall.pure sp rfl ?_; conv => whnf) | (exact trivial) | (refine And.intro rfl ?_; conv => whnf) | (refine AB.mk (fun h => ?_) (fun h => ?_) <;> (conv => whnf)) | (with_reducible_and_instances rfl) | (exact (rfl : AP.tup _ = AP.tup _)))
    refine' AWP.draw av_ok 7 [[], [], [1], [1, 2], [2, 1, 3, 0], [0, 3, 1, 2, 4], [], [4, 2, 1, 3, 0, 5, 6]] [(_, _), (_, _), (_, _), (_, _), (_, _), (_, _), (_, _)] ?hD ?hok ?hl ?hf ?hno ?ht
    case hD => kernel_rfl
    case hok => kernel_rfl
    case hl => rfl
    case hf => (conv => whnf); repeat' (first | (refine ⟨rfl, rfl⟩) | exact trivial | (refine AFCall.mk ⟨_, _, sl32Kinds_p, .inl rfl, ?_⟩; conv => whnf) | (refine AFCall.mk ⟨_, _, kp, .inl rfl, ?_⟩; conv => whnf) | (refine AIx.at 0 _ rfl rfl ?_; conv => whnf) | (refine And.intro ?_ ?_ <;> conv => whnf))
    case hno => rfl
    case ht =>
      (conv => whnf)
      repeat' (first | (refine AWP.seq ?_) | (refine AWP.region av_ok ?_; conv => whnf) | (refine AWP.ret ?_; conv => whnf) | (refine AWP.skip ?_; conv => whnf) | (refine AWP.exit ?_; conv => whnf) | (refine AWP.block ?_; conv => whnf) | (refine AWP.cond ?_; conv => whnf) | (refine AB.tt ?_; conv => whnf) | (refine AB.ff ?_; conv => whnf) | (refine AB.ofT (by assumption) ?_; conv => whnf) | (refine AB.ofF (by assumption) ?_; conv => whnf) | (refine AIx.at 1 _ rfl rfl ?_; conv => whnf) | (refine AIx.at 2 _ rfl rfl ?_; conv => whnf) | (refine ACall.pure n1 rfl ?_; conv => whnf) | (refine ACall.pure o1 rfl ?_; conv => whnf) | (refine ACall.pure nd rfl ?_; conv => whnf) | (refine ACall.pure tp rfl ?_; conv => whnf) | (refine AB.ofT (by decide) ?_; conv => whnf) | (refine AB.ofF (by decide) ?_; conv => whnf) | (exact trivial) | (refine And.intro rfl ?_; conv => whnf) | (refine AB.mk (fun h => ?_) (fun h => ?_) <;> (conv => whnf)) | (with_reducible_and_instances rfl) | (exact (rfl : AP.tup _ = AP.tup _)))
theorem sTextStep_8 (l w0 w1 : List UInt8) (r : List (List UInt8)) (hl : l.length ≤ 160) (hw : wordsL 32 l = w0 :: w1 :: r) (hk : idxL kindsL w0 = 8) : PCall av 48 [pL l] (pAns (stAns ⟨8, numN w1, 0, 0, []⟩ l)) := by
  have hwl : ∀ w ∈ wordsL 32 l, w.length ≤ 2000000 := fun w h => by have := words_len w h; omega
  rw [hw] at hwl
  have sp := sl1Split_p l 32 (by omega)
  rw [hw] at sp
  have kp := sl1At_p kindsL w0 (by decide)
  rw [hk] at kp
  have hlt : decide (((⟨l.toArray⟩ : ByteArray).size : Int) > 160) = false := by rw [sz_dL]; simp; omega
  have h2 : decide ((((w0 :: w1 :: r).map eS).length : Int) < 2) = false := by simp only [List.length_map, List.length_cons, decide_eq_false_iff_not]; omega
  have n1 := sl32Number_p w1 (hwl w1 (by simp))
  have o1 := sNodeOf_p w1
  have nd : PCall av 83 [pI 8] (rB false) := sl32Node_p 8
  have tp := sStepText_p ⟨8, numN w1, 0, 0, []⟩
  unfold stAns
  by_cases h3 : stepTextL ⟨8, numN w1, 0, 0, []⟩ = l
  · have h3' := ne_dec h3
    rw [if_pos h3]
    refine pcall_of av_ok Tryd.func48 rfl Tryd.call48 Tryd.ntmps48 (congrArg Array.toList Tryd.results48) fun S => ?_; conv => whnf
    repeat' (first | (refine AWP.seq ?_) | (refine AWP.region av_ok ?_; conv => whnf) | (refine AWP.ret ?_; conv => whnf) | (refine AWP.skip ?_; conv => whnf) | (refine AWP.exit ?_; conv => whnf) | (refine AWP.block ?_; conv => whnf) | (refine AWP.cond ?_; conv => whnf) | (refine AB.tt ?_; conv => whnf) | (refine AB.ff ?_; conv => whnf) | (refine AB.ofT (by assumption) ?_; conv => whnf) | (refine AB.ofF (by assumption) ?_; conv => whnf) | (refine ACall.pure sp rfl ?_; conv => whnf) | (exact trivial) | (refine And.intro rfl ?_; conv => whnf) | (refine AB.mk (fun h => ?_) (fun h => ?_) <;> (conv => whnf)) | (with_reducible_and_instances rfl) | (exact (rfl : AP.tup _ = AP.tup _)))
    refine' AWP.draw av_ok 7 [[], [], [1], [1, 2], [2, 1, 3, 0], [0, 3, 1, 2, 4], [], [4, 2, 1, 3, 0, 5, 6]] [(_, _), (_, _), (_, _), (_, _), (_, _), (_, _), (_, _)] ?hD ?hok ?hl ?hf ?hno ?ht
    case hD => kernel_rfl
    case hok => kernel_rfl
    case hl => rfl
    case hf => (conv => whnf); repeat' (first | (refine ⟨rfl, rfl⟩) | exact trivial | (refine AFCall.mk ⟨_, _, sl32Kinds_p, .inl rfl, ?_⟩; conv => whnf) | (refine AFCall.mk ⟨_, _, kp, .inl rfl, ?_⟩; conv => whnf) | (refine AIx.at 0 _ rfl rfl ?_; conv => whnf) | (refine And.intro ?_ ?_ <;> conv => whnf))
    case hno => rfl
    case ht =>
      (conv => whnf)
      repeat' (first | (refine AWP.seq ?_) | (refine AWP.region av_ok ?_; conv => whnf) | (refine AWP.ret ?_; conv => whnf) | (refine AWP.skip ?_; conv => whnf) | (refine AWP.exit ?_; conv => whnf) | (refine AWP.block ?_; conv => whnf) | (refine AWP.cond ?_; conv => whnf) | (refine AB.tt ?_; conv => whnf) | (refine AB.ff ?_; conv => whnf) | (refine AB.ofT (by assumption) ?_; conv => whnf) | (refine AB.ofF (by assumption) ?_; conv => whnf) | (refine AIx.at 1 _ rfl rfl ?_; conv => whnf) | (refine AIx.at 2 _ rfl rfl ?_; conv => whnf) | (refine ACall.pure n1 rfl ?_; conv => whnf) | (refine ACall.pure o1 rfl ?_; conv => whnf) | (refine ACall.pure nd rfl ?_; conv => whnf) | (refine ACall.pure tp rfl ?_; conv => whnf) | (refine AB.ofT (by decide) ?_; conv => whnf) | (refine AB.ofF (by decide) ?_; conv => whnf) | (exact trivial) | (refine And.intro rfl ?_; conv => whnf) | (refine AB.mk (fun h => ?_) (fun h => ?_) <;> (conv => whnf)) | (with_reducible_and_instances rfl) | (exact (rfl : AP.tup _ = AP.tup _)))
  · have h3' := ne_dec' h3
    rw [if_neg h3]
    refine pcall_of av_ok Tryd.func48 rfl Tryd.call48 Tryd.ntmps48 (congrArg Array.toList Tryd.results48) fun S => ?_; conv => whnf
    repeat' (first | (refine AWP.seq ?_) | (refine AWP.region av_ok ?_; conv => whnf) | (refine AWP.ret ?_; conv => whnf) | (refine AWP.skip ?_; conv => whnf) | (refine AWP.exit ?_; conv => whnf) | (refine AWP.block ?_; conv => whnf) | (refine AWP.cond ?_; conv => whnf) | (refine AB.tt ?_; conv => whnf) | (refine AB.ff ?_; conv => whnf) | (refine AB.ofT (by assumption) ?_; conv => whnf) | (refine AB.ofF (by assumption) ?_; conv => whnf) | (refine ACall.pure sp rfl ?_; conv => whnf) | (exact trivial) | (refine And.intro rfl ?_; conv => whnf) | (refine AB.mk (fun h => ?_) (fun h => ?_) <;> (conv => whnf)) | (with_reducible_and_instances rfl) | (exact (rfl : AP.tup _ = AP.tup _)))
    refine' AWP.draw av_ok 7 [[], [], [1], [1, 2], [2, 1, 3, 0], [0, 3, 1, 2, 4], [], [4, 2, 1, 3, 0, 5, 6]] [(_, _), (_, _), (_, _), (_, _), (_, _), (_, _), (_, _)] ?hD ?hok ?hl ?hf ?hno ?ht
    case hD => kernel_rfl
    case hok => kernel_rfl
    case hl => rfl
    case hf => (conv => whnf); repeat' (first | (refine ⟨rfl, rfl⟩) | exact trivial | (refine AFCall.mk ⟨_, _, sl32Kinds_p, .inl rfl, ?_⟩; conv => whnf) | (refine AFCall.mk ⟨_, _, kp, .inl rfl, ?_⟩; conv => whnf) | (refine AIx.at 0 _ rfl rfl ?_; conv => whnf) | (refine And.intro ?_ ?_ <;> conv => whnf))
    case hno => rfl
    case ht =>
      (conv => whnf)
      repeat' (first | (refine AWP.seq ?_) | (refine AWP.region av_ok ?_; conv => whnf) | (refine AWP.ret ?_; conv => whnf) | (refine AWP.skip ?_; conv => whnf) | (refine AWP.exit ?_; conv => whnf) | (refine AWP.block ?_; conv => whnf) | (refine AWP.cond ?_; conv => whnf) | (refine AB.tt ?_; conv => whnf) | (refine AB.ff ?_; conv => whnf) | (refine AB.ofT (by assumption) ?_; conv => whnf) | (refine AB.ofF (by assumption) ?_; conv => whnf) | (refine AIx.at 1 _ rfl rfl ?_; conv => whnf) | (refine AIx.at 2 _ rfl rfl ?_; conv => whnf) | (refine ACall.pure n1 rfl ?_; conv => whnf) | (refine ACall.pure o1 rfl ?_; conv => whnf) | (refine ACall.pure nd rfl ?_; conv => whnf) | (refine ACall.pure tp rfl ?_; conv => whnf) | (refine AB.ofT (by decide) ?_; conv => whnf) | (refine AB.ofF (by decide) ?_; conv => whnf) | (exact trivial) | (refine And.intro rfl ?_; conv => whnf) | (refine AB.mk (fun h => ?_) (fun h => ?_) <;> (conv => whnf)) | (with_reducible_and_instances rfl) | (exact (rfl : AP.tup _ = AP.tup _)))
theorem sTextStep_2 (l w0 w1 : List UInt8) (r : List (List UInt8)) (hl : l.length ≤ 160) (hw : wordsL 32 l = w0 :: w1 :: r) (hk : idxL kindsL w0 = 2) : PCall av 48 [pL l] (pAns (stAns ⟨2, nodeIx w1, 0, 0, []⟩ l)) := by
  have hwl : ∀ w ∈ wordsL 32 l, w.length ≤ 2000000 := fun w h => by have := words_len w h; omega
  rw [hw] at hwl
  have sp := sl1Split_p l 32 (by omega)
  rw [hw] at sp
  have kp := sl1At_p kindsL w0 (by decide)
  rw [hk] at kp
  have hlt : decide (((⟨l.toArray⟩ : ByteArray).size : Int) > 160) = false := by rw [sz_dL]; simp; omega
  have h2 : decide ((((w0 :: w1 :: r).map eS).length : Int) < 2) = false := by simp only [List.length_map, List.length_cons, decide_eq_false_iff_not]; omega
  have n1 := sl32Number_p w1 (hwl w1 (by simp))
  have o1 := sNodeOf_p w1
  have nd : PCall av 83 [pI 2] (rB true) := sl32Node_p 2
  have tp := sStepText_p ⟨2, nodeIx w1, 0, 0, []⟩
  unfold stAns
  by_cases h3 : stepTextL ⟨2, nodeIx w1, 0, 0, []⟩ = l
  · have h3' := ne_dec h3
    rw [if_pos h3]
    refine pcall_of av_ok Tryd.func48 rfl Tryd.call48 Tryd.ntmps48 (congrArg Array.toList Tryd.results48) fun S => ?_; conv => whnf
    repeat' (first | (refine AWP.seq ?_) | (refine AWP.region av_ok ?_; conv => whnf) | (refine AWP.ret ?_; conv => whnf) | (refine AWP.skip ?_; conv => whnf) | (refine AWP.exit ?_; conv => whnf) | (refine AWP.block ?_; conv => whnf) | (refine AWP.cond ?_; conv => whnf) | (refine AB.tt ?_; conv => whnf) | (refine AB.ff ?_; conv => whnf) | (refine AB.ofT (by assumption) ?_; conv => whnf) | (refine AB.ofF (by assumption) ?_; conv => whnf) | (refine ACall.pure sp rfl ?_; conv => whnf) | (exact trivial) | (refine And.intro rfl ?_; conv => whnf) | (refine AB.mk (fun h => ?_) (fun h => ?_) <;> (conv => whnf)) | (with_reducible_and_instances rfl) | (exact (rfl : AP.tup _ = AP.tup _)))
    refine' AWP.draw av_ok 7 [[], [], [1], [1, 2], [2, 1, 3, 0], [0, 3, 1, 2, 4], [], [4, 2, 1, 3, 0, 5, 6]] [(_, _), (_, _), (_, _), (_, _), (_, _), (_, _), (_, _)] ?hD ?hok ?hl ?hf ?hno ?ht
    case hD => kernel_rfl
    case hok => kernel_rfl
    case hl => rfl
    case hf => (conv => whnf); repeat' (first | (refine ⟨rfl, rfl⟩) | exact trivial | (refine AFCall.mk ⟨_, _, sl32Kinds_p, .inl rfl, ?_⟩; conv => whnf) | (refine AFCall.mk ⟨_, _, kp, .inl rfl, ?_⟩; conv => whnf) | (refine AIx.at 0 _ rfl rfl ?_; conv => whnf) | (refine And.intro ?_ ?_ <;> conv => whnf))
    case hno => rfl
    case ht =>
      (conv => whnf)
      repeat' (first | (refine AWP.seq ?_) | (refine AWP.region av_ok ?_; conv => whnf) | (refine AWP.ret ?_; conv => whnf) | (refine AWP.skip ?_; conv => whnf) | (refine AWP.exit ?_; conv => whnf) | (refine AWP.block ?_; conv => whnf) | (refine AWP.cond ?_; conv => whnf) | (refine AB.tt ?_; conv => whnf) | (refine AB.ff ?_; conv => whnf) | (refine AB.ofT (by assumption) ?_; conv => whnf) | (refine AB.ofF (by assumption) ?_; conv => whnf) | (refine AIx.at 1 _ rfl rfl ?_; conv => whnf) | (refine AIx.at 2 _ rfl rfl ?_; conv => whnf) | (refine ACall.pure n1 rfl ?_; conv => whnf) | (refine ACall.pure o1 rfl ?_; conv => whnf) | (refine ACall.pure nd rfl ?_; conv => whnf) | (refine ACall.pure tp rfl ?_; conv => whnf) | (refine AB.ofT (by decide) ?_; conv => whnf) | (refine AB.ofF (by decide) ?_; conv => whnf) | (exact trivial) | (refine And.intro rfl ?_; conv => whnf) | (refine AB.mk (fun h => ?_) (fun h => ?_) <;> (conv => whnf)) | (with_reducible_and_instances rfl) | (exact (rfl : AP.tup _ = AP.tup _)))
  · have h3' := ne_dec' h3
    rw [if_neg h3]
    refine pcall_of av_ok Tryd.func48 rfl Tryd.call48 Tryd.ntmps48 (congrArg Array.toList Tryd.results48) fun S => ?_; conv => whnf
    repeat' (first | (refine AWP.seq ?_) | (refine AWP.region av_ok ?_; conv => whnf) | (refine AWP.ret ?_; conv => whnf) | (refine AWP.skip ?_; conv => whnf) | (refine AWP.exit ?_; conv => whnf) | (refine AWP.block ?_; conv => whnf) | (refine AWP.cond ?_; conv => whnf) | (refine AB.tt ?_; conv => whnf) | (refine AB.ff ?_; conv => whnf) | (refine AB.ofT (by assumption) ?_; conv => whnf) | (refine AB.ofF (by assumption) ?_; conv => whnf) | (refine ACall.pure sp rfl ?_; conv => whnf) | (exact trivial) | (refine And.intro rfl ?_; conv => whnf) | (refine AB.mk (fun h => ?_) (fun h => ?_) <;> (conv => whnf)) | (with_reducible_and_instances rfl) | (exact (rfl : AP.tup _ = AP.tup _)))
    refine' AWP.draw av_ok 7 [[], [], [1], [1, 2], [2, 1, 3, 0], [0, 3, 1, 2, 4], [], [4, 2, 1, 3, 0, 5, 6]] [(_, _), (_, _), (_, _), (_, _), (_, _), (_, _), (_, _)] ?hD ?hok ?hl ?hf ?hno ?ht
    case hD => kernel_rfl
    case hok => kernel_rfl
    case hl => rfl
    case hf => (conv => whnf); repeat' (first | (refine ⟨rfl, rfl⟩) | exact trivial | (refine AFCall.mk ⟨_, _, sl32Kinds_p, .inl rfl, ?_⟩; conv => whnf) | (refine AFCall.mk ⟨_, _, kp, .inl rfl, ?_⟩; conv => whnf) | (refine AIx.at 0 _ rfl rfl ?_; conv => whnf) | (refine And.intro ?_ ?_ <;> conv => whnf))
    case hno => rfl
    case ht =>
      (conv => whnf)
      repeat' (first | (refine AWP.seq ?_) | (refine AWP.region av_ok ?_; conv => whnf) | (refine AWP.ret ?_; conv => whnf) | (refine AWP.skip ?_; conv => whnf) | (refine AWP.exit ?_; conv => whnf) | (refine AWP.block ?_; conv => whnf) | (refine AWP.cond ?_; conv => whnf) | (refine AB.tt ?_; conv => whnf) | (refine AB.ff ?_; conv => whnf) | (refine AB.ofT (by assumption) ?_; conv => whnf) | (refine AB.ofF (by assumption) ?_; conv => whnf) | (refine AIx.at 1 _ rfl rfl ?_; conv => whnf) | (refine AIx.at 2 _ rfl rfl ?_; conv => whnf) | (refine ACall.pure n1 rfl ?_; conv => whnf) | (refine ACall.pure o1 rfl ?_; conv => whnf) | (refine ACall.pure nd rfl ?_; conv => whnf) | (refine ACall.pure tp rfl ?_; conv => whnf) | (refine AB.ofT (by decide) ?_; conv => whnf) | (refine AB.ofF (by decide) ?_; conv => whnf) | (exact trivial) | (refine And.intro rfl ?_; conv => whnf) | (refine AB.mk (fun h => ?_) (fun h => ?_) <;> (conv => whnf)) | (with_reducible_and_instances rfl) | (exact (rfl : AP.tup _ = AP.tup _)))
theorem sTextStep_6 (l w0 w1 : List UInt8) (r : List (List UInt8)) (hl : l.length ≤ 160) (hw : wordsL 32 l = w0 :: w1 :: r) (hk : idxL kindsL w0 = 6) : PCall av 48 [pL l] (pAns (stAns ⟨6, nodeIx w1, 0, 0, []⟩ l)) := by
  have hwl : ∀ w ∈ wordsL 32 l, w.length ≤ 2000000 := fun w h => by have := words_len w h; omega
  rw [hw] at hwl
  have sp := sl1Split_p l 32 (by omega)
  rw [hw] at sp
  have kp := sl1At_p kindsL w0 (by decide)
  rw [hk] at kp
  have hlt : decide (((⟨l.toArray⟩ : ByteArray).size : Int) > 160) = false := by rw [sz_dL]; simp; omega
  have h2 : decide ((((w0 :: w1 :: r).map eS).length : Int) < 2) = false := by simp only [List.length_map, List.length_cons, decide_eq_false_iff_not]; omega
  have n1 := sl32Number_p w1 (hwl w1 (by simp))
  have o1 := sNodeOf_p w1
  have nd : PCall av 83 [pI 6] (rB true) := sl32Node_p 6
  have tp := sStepText_p ⟨6, nodeIx w1, 0, 0, []⟩
  unfold stAns
  by_cases h3 : stepTextL ⟨6, nodeIx w1, 0, 0, []⟩ = l
  · have h3' := ne_dec h3
    rw [if_pos h3]
    refine pcall_of av_ok Tryd.func48 rfl Tryd.call48 Tryd.ntmps48 (congrArg Array.toList Tryd.results48) fun S => ?_; conv => whnf
    repeat' (first | (refine AWP.seq ?_) | (refine AWP.region av_ok ?_; conv => whnf) | (refine AWP.ret ?_; conv => whnf) | (refine AWP.skip ?_; conv => whnf) | (refine AWP.exit ?_; conv => whnf) | (refine AWP.block ?_; conv => whnf) | (refine AWP.cond ?_; conv => whnf) | (refine AB.tt ?_; conv => whnf) | (refine AB.ff ?_; conv => whnf) | (refine AB.ofT (by assumption) ?_; conv => whnf) | (refine AB.ofF (by assumption) ?_; conv => whnf) | (refine ACall.pure sp rfl ?_; conv => whnf) | (exact trivial) | (refine And.intro rfl ?_; conv => whnf) | (refine AB.mk (fun h => ?_) (fun h => ?_) <;> (conv => whnf)) | (with_reducible_and_instances rfl) | (exact (rfl : AP.tup _ = AP.tup _)))
    refine' AWP.draw av_ok 7 [[], [], [1], [1, 2], [2, 1, 3, 0], [0, 3, 1, 2, 4], [], [4, 2, 1, 3, 0, 5, 6]] [(_, _), (_, _), (_, _), (_, _), (_, _), (_, _), (_, _)] ?hD ?hok ?hl ?hf ?hno ?ht
    case hD => kernel_rfl
    case hok => kernel_rfl
    case hl => rfl
    case hf => (conv => whnf); repeat' (first | (refine ⟨rfl, rfl⟩) | exact trivial | (refine AFCall.mk ⟨_, _, sl32Kinds_p, .inl rfl, ?_⟩; conv => whnf) | (refine AFCall.mk ⟨_, _, kp, .inl rfl, ?_⟩; conv => whnf) | (refine AIx.at 0 _ rfl rfl ?_; conv => whnf) | (refine And.intro ?_ ?_ <;> conv => whnf))
    case hno => rfl
    case ht =>
      (conv => whnf)
      repeat' (first | (refine AWP.seq ?_) | (refine AWP.region av_ok ?_; conv => whnf) | (refine AWP.ret ?_; conv => whnf) | (refine AWP.skip ?_; conv => whnf) | (refine AWP.exit ?_; conv => whnf) | (refine AWP.block ?_; conv => whnf) | (refine AWP.cond ?_; conv => whnf) | (refine AB.tt ?_; conv => whnf) | (refine AB.ff ?_; conv => whnf) | (refine AB.ofT (by assumption) ?_; conv => whnf) | (refine AB.ofF (by assumption) ?_; conv => whnf) | (refine AIx.at 1 _ rfl rfl ?_; conv => whnf) | (refine AIx.at 2 _ rfl rfl ?_; conv => whnf) | (refine ACall.pure n1 rfl ?_; conv => whnf) | (refine ACall.pure o1 rfl ?_; conv => whnf) | (refine ACall.pure nd rfl ?_; conv => whnf) | (refine ACall.pure tp rfl ?_; conv => whnf) | (refine AB.ofT (by decide) ?_; conv => whnf) | (refine AB.ofF (by decide) ?_; conv => whnf) | (exact trivial) | (refine And.intro rfl ?_; conv => whnf) | (refine AB.mk (fun h => ?_) (fun h => ?_) <;> (conv => whnf)) | (with_reducible_and_instances rfl) | (exact (rfl : AP.tup _ = AP.tup _)))
  · have h3' := ne_dec' h3
    rw [if_neg h3]
    refine pcall_of av_ok Tryd.func48 rfl Tryd.call48 Tryd.ntmps48 (congrArg Array.toList Tryd.results48) fun S => ?_; conv => whnf
    repeat' (first | (refine AWP.seq ?_) | (refine AWP.region av_ok ?_; conv => whnf) | (refine AWP.ret ?_; conv => whnf) | (refine AWP.skip ?_; conv => whnf) | (refine AWP.exit ?_; conv => whnf) | (refine AWP.block ?_; conv => whnf) | (refine AWP.cond ?_; conv => whnf) | (refine AB.tt ?_; conv => whnf) | (refine AB.ff ?_; conv => whnf) | (refine AB.ofT (by assumption) ?_; conv => whnf) | (refine AB.ofF (by assumption) ?_; conv => whnf) | (refine ACall.pure sp rfl ?_; conv => whnf) | (exact trivial) | (refine And.intro rfl ?_; conv => whnf) | (refine AB.mk (fun h => ?_) (fun h => ?_) <;> (conv => whnf)) | (with_reducible_and_instances rfl) | (exact (rfl : AP.tup _ = AP.tup _)))
    refine' AWP.draw av_ok 7 [[], [], [1], [1, 2], [2, 1, 3, 0], [0, 3, 1, 2, 4], [], [4, 2, 1, 3, 0, 5, 6]] [(_, _), (_, _), (_, _), (_, _), (_, _), (_, _), (_, _)] ?hD ?hok ?hl ?hf ?hno ?ht
    case hD => kernel_rfl
    case hok => kernel_rfl
    case hl => rfl
    case hf => (conv => whnf); repeat' (first | (refine ⟨rfl, rfl⟩) | exact trivial | (refine AFCall.mk ⟨_, _, sl32Kinds_p, .inl rfl, ?_⟩; conv => whnf) | (refine AFCall.mk ⟨_, _, kp, .inl rfl, ?_⟩; conv => whnf) | (refine AIx.at 0 _ rfl rfl ?_; conv => whnf) | (refine And.intro ?_ ?_ <;> conv => whnf))
    case hno => rfl
    case ht =>
      (conv => whnf)
      repeat' (first | (refine AWP.seq ?_) | (refine AWP.region av_ok ?_; conv => whnf) | (refine AWP.ret ?_; conv => whnf) | (refine AWP.skip ?_; conv => whnf) | (refine AWP.exit ?_; conv => whnf) | (refine AWP.block ?_; conv => whnf) | (refine AWP.cond ?_; conv => whnf) | (refine AB.tt ?_; conv => whnf) | (refine AB.ff ?_; conv => whnf) | (refine AB.ofT (by assumption) ?_; conv => whnf) | (refine AB.ofF (by assumption) ?_; conv => whnf) | (refine AIx.at 1 _ rfl rfl ?_; conv => whnf) | (refine AIx.at 2 _ rfl rfl ?_; conv => whnf) | (refine ACall.pure n1 rfl ?_; conv => whnf) | (refine ACall.pure o1 rfl ?_; conv => whnf) | (refine ACall.pure nd rfl ?_; conv => whnf) | (refine ACall.pure tp rfl ?_; conv => whnf) | (refine AB.ofT (by decide) ?_; conv => whnf) | (refine AB.ofF (by decide) ?_; conv => whnf) | (exact trivial) | (refine And.intro rfl ?_; conv => whnf) | (refine AB.mk (fun h => ?_) (fun h => ?_) <;> (conv => whnf)) | (with_reducible_and_instances rfl) | (exact (rfl : AP.tup _ = AP.tup _)))
theorem sTextStep_3 (l w0 w1 : List UInt8) (r : List (List UInt8)) (hl : l.length ≤ 160) (hw : wordsL 32 l = w0 :: w1 :: r) (hk : idxL kindsL w0 = 3) : PCall av 48 [pL l] (pAns (stAns ⟨3, nodeIx w1, atN (w0 :: w1 :: r) 2, 0, []⟩ l)) := by
  have hwl : ∀ w ∈ wordsL 32 l, w.length ≤ 2000000 := fun w h => by have := words_len w h; omega
  rw [hw] at hwl
  have sp := sl1Split_p l 32 (by omega)
  rw [hw] at sp
  have kp := sl1At_p kindsL w0 (by decide)
  rw [hk] at kp
  have hlt : decide (((⟨l.toArray⟩ : ByteArray).size : Int) > 160) = false := by rw [sz_dL]; simp; omega
  have h2 : decide ((((w0 :: w1 :: r).map eS).length : Int) < 2) = false := by simp only [List.length_map, List.length_cons, decide_eq_false_iff_not]; omega
  have n1 := sl32Number_p w1 (hwl w1 (by simp))
  have o1 := sNodeOf_p w1
  have nd : PCall av 83 [pI 3] (rB true) := sl32Node_p 3
  have at2 := sl32At_p (w0 :: w1 :: r) 2 hwl
  have tp := sStepText_p ⟨3, nodeIx w1, atN (w0 :: w1 :: r) 2, 0, []⟩
  unfold stAns
  by_cases h3 : stepTextL ⟨3, nodeIx w1, atN (w0 :: w1 :: r) 2, 0, []⟩ = l
  · have h3' := ne_dec h3
    rw [if_pos h3]
    refine pcall_of av_ok Tryd.func48 rfl Tryd.call48 Tryd.ntmps48 (congrArg Array.toList Tryd.results48) fun S => ?_; conv => whnf
    repeat' (first | (refine AWP.seq ?_) | (refine AWP.region av_ok ?_; conv => whnf) | (refine AWP.ret ?_; conv => whnf) | (refine AWP.skip ?_; conv => whnf) | (refine AWP.exit ?_; conv => whnf) | (refine AWP.block ?_; conv => whnf) | (refine AWP.cond ?_; conv => whnf) | (refine AB.tt ?_; conv => whnf) | (refine AB.ff ?_; conv => whnf) | (refine AB.ofT (by assumption) ?_; conv => whnf) | (refine AB.ofF (by assumption) ?_; conv => whnf) | (refine ACall.pure sp rfl ?_; conv => whnf) | (exact trivial) | (refine And.intro rfl ?_; conv => whnf) | (refine AB.mk (fun h => ?_) (fun h => ?_) <;> (conv => whnf)) | (with_reducible_and_instances rfl) | (exact (rfl : AP.tup _ = AP.tup _)))
    refine' AWP.draw av_ok 7 [[], [], [1], [1, 2], [2, 1, 3, 0], [0, 3, 1, 2, 4], [], [4, 2, 1, 3, 0, 5, 6]] [(_, _), (_, _), (_, _), (_, _), (_, _), (_, _), (_, _)] ?hD ?hok ?hl ?hf ?hno ?ht
    case hD => kernel_rfl
    case hok => kernel_rfl
    case hl => rfl
    case hf => (conv => whnf); repeat' (first | (refine ⟨rfl, rfl⟩) | exact trivial | (refine AFCall.mk ⟨_, _, sl32Kinds_p, .inl rfl, ?_⟩; conv => whnf) | (refine AFCall.mk ⟨_, _, kp, .inl rfl, ?_⟩; conv => whnf) | (refine AIx.at 0 _ rfl rfl ?_; conv => whnf) | (refine And.intro ?_ ?_ <;> conv => whnf))
    case hno => rfl
    case ht =>
      (conv => whnf)
      repeat' (first | (refine AWP.seq ?_) | (refine AWP.region av_ok ?_; conv => whnf) | (refine AWP.ret ?_; conv => whnf) | (refine AWP.skip ?_; conv => whnf) | (refine AWP.exit ?_; conv => whnf) | (refine AWP.block ?_; conv => whnf) | (refine AWP.cond ?_; conv => whnf) | (refine AB.tt ?_; conv => whnf) | (refine AB.ff ?_; conv => whnf) | (refine AB.ofT (by assumption) ?_; conv => whnf) | (refine AB.ofF (by assumption) ?_; conv => whnf) | (refine AIx.at 1 _ rfl rfl ?_; conv => whnf) | (refine AIx.at 2 _ rfl rfl ?_; conv => whnf) | (refine ACall.pure n1 rfl ?_; conv => whnf) | (refine ACall.pure o1 rfl ?_; conv => whnf) | (refine ACall.pure nd rfl ?_; conv => whnf) | (refine ACall.pure at2 rfl ?_; conv => whnf) | (refine ACall.pure tp rfl ?_; conv => whnf) | (refine AB.ofT (by decide) ?_; conv => whnf) | (refine AB.ofF (by decide) ?_; conv => whnf) | (exact trivial) | (refine And.intro rfl ?_; conv => whnf) | (refine AB.mk (fun h => ?_) (fun h => ?_) <;> (conv => whnf)) | (with_reducible_and_instances rfl) | (exact (rfl : AP.tup _ = AP.tup _)))
  · have h3' := ne_dec' h3
    rw [if_neg h3]
    refine pcall_of av_ok Tryd.func48 rfl Tryd.call48 Tryd.ntmps48 (congrArg Array.toList Tryd.results48) fun S => ?_; conv => whnf
    repeat' (first | (refine AWP.seq ?_) | (refine AWP.region av_ok ?_; conv => whnf) | (refine AWP.ret ?_; conv => whnf) | (refine AWP.skip ?_; conv => whnf) | (refine AWP.exit ?_; conv => whnf) | (refine AWP.block ?_; conv => whnf) | (refine AWP.cond ?_; conv => whnf) | (refine AB.tt ?_; conv => whnf) | (refine AB.ff ?_; conv => whnf) | (refine AB.ofT (by assumption) ?_; conv => whnf) | (refine AB.ofF (by assumption) ?_; conv => whnf) | (refine ACall.pure sp rfl ?_; conv => whnf) | (exact trivial) | (refine And.intro rfl ?_; conv => whnf) | (refine AB.mk (fun h => ?_) (fun h => ?_) <;> (conv => whnf)) | (with_reducible_and_instances rfl) | (exact (rfl : AP.tup _ = AP.tup _)))
    refine' AWP.draw av_ok 7 [[], [], [1], [1, 2], [2, 1, 3, 0], [0, 3, 1, 2, 4], [], [4, 2, 1, 3, 0, 5, 6]] [(_, _), (_, _), (_, _), (_, _), (_, _), (_, _), (_, _)] ?hD ?hok ?hl ?hf ?hno ?ht
    case hD => kernel_rfl
    case hok => kernel_rfl
    case hl => rfl
    case hf => (conv => whnf); repeat' (first | (refine ⟨rfl, rfl⟩) | exact trivial | (refine AFCall.mk ⟨_, _, sl32Kinds_p, .inl rfl, ?_⟩; conv => whnf) | (refine AFCall.mk ⟨_, _, kp, .inl rfl, ?_⟩; conv => whnf) | (refine AIx.at 0 _ rfl rfl ?_; conv => whnf) | (refine And.intro ?_ ?_ <;> conv => whnf))
    case hno => rfl
    case ht =>
      (conv => whnf)
      repeat' (first | (refine AWP.seq ?_) | (refine AWP.region av_ok ?_; conv => whnf) | (refine AWP.ret ?_; conv => whnf) | (refine AWP.skip ?_; conv => whnf) | (refine AWP.exit ?_; conv => whnf) | (refine AWP.block ?_; conv => whnf) | (refine AWP.cond ?_; conv => whnf) | (refine AB.tt ?_; conv => whnf) | (refine AB.ff ?_; conv => whnf) | (refine AB.ofT (by assumption) ?_; conv => whnf) | (refine AB.ofF (by assumption) ?_; conv => whnf) | (refine AIx.at 1 _ rfl rfl ?_; conv => whnf) | (refine AIx.at 2 _ rfl rfl ?_; conv => whnf) | (refine ACall.pure n1 rfl ?_; conv => whnf) | (refine ACall.pure o1 rfl ?_; conv => whnf) | (refine ACall.pure nd rfl ?_; conv => whnf) | (refine ACall.pure at2 rfl ?_; conv => whnf) | (refine ACall.pure tp rfl ?_; conv => whnf) | (refine AB.ofT (by decide) ?_; conv => whnf) | (refine AB.ofF (by decide) ?_; conv => whnf) | (exact trivial) | (refine And.intro rfl ?_; conv => whnf) | (refine AB.mk (fun h => ?_) (fun h => ?_) <;> (conv => whnf)) | (with_reducible_and_instances rfl) | (exact (rfl : AP.tup _ = AP.tup _)))
theorem sTextStep_4 (l w0 w1 : List UInt8) (r : List (List UInt8)) (hl : l.length ≤ 160) (hw : wordsL 32 l = w0 :: w1 :: r) (hk : idxL kindsL w0 = 4) : PCall av 48 [pL l] (pAns (stAns ⟨4, nodeIx w1, atN (w0 :: w1 :: r) 2, 0, []⟩ l)) := by
  have hwl : ∀ w ∈ wordsL 32 l, w.length ≤ 2000000 := fun w h => by have := words_len w h; omega
  rw [hw] at hwl
  have sp := sl1Split_p l 32 (by omega)
  rw [hw] at sp
  have kp := sl1At_p kindsL w0 (by decide)
  rw [hk] at kp
  have hlt : decide (((⟨l.toArray⟩ : ByteArray).size : Int) > 160) = false := by rw [sz_dL]; simp; omega
  have h2 : decide ((((w0 :: w1 :: r).map eS).length : Int) < 2) = false := by simp only [List.length_map, List.length_cons, decide_eq_false_iff_not]; omega
  have n1 := sl32Number_p w1 (hwl w1 (by simp))
  have o1 := sNodeOf_p w1
  have nd : PCall av 83 [pI 4] (rB true) := sl32Node_p 4
  have at2 := sl32At_p (w0 :: w1 :: r) 2 hwl
  have tp := sStepText_p ⟨4, nodeIx w1, atN (w0 :: w1 :: r) 2, 0, []⟩
  unfold stAns
  by_cases h3 : stepTextL ⟨4, nodeIx w1, atN (w0 :: w1 :: r) 2, 0, []⟩ = l
  · have h3' := ne_dec h3
    rw [if_pos h3]
    refine pcall_of av_ok Tryd.func48 rfl Tryd.call48 Tryd.ntmps48 (congrArg Array.toList Tryd.results48) fun S => ?_; conv => whnf
    repeat' (first | (refine AWP.seq ?_) | (refine AWP.region av_ok ?_; conv => whnf) | (refine AWP.ret ?_; conv => whnf) | (refine AWP.skip ?_; conv => whnf) | (refine AWP.exit ?_; conv => whnf) | (refine AWP.block ?_; conv => whnf) | (refine AWP.cond ?_; conv => whnf) | (refine AB.tt ?_; conv => whnf) | (refine AB.ff ?_; conv => whnf) | (refine AB.ofT (by assumption) ?_; conv => whnf) | (refine AB.ofF (by assumption) ?_; conv => whnf) | (refine ACall.pure sp rfl ?_; conv => whnf) | (exact trivial) | (refine And.intro rfl ?_; conv => whnf) | (refine AB.mk (fun h => ?_) (fun h => ?_) <;> (conv => whnf)) | (with_reducible_and_instances rfl) | (exact (rfl : AP.tup _ = AP.tup _)))
    refine' AWP.draw av_ok 7 [[], [], [1], [1, 2], [2, 1, 3, 0], [0, 3, 1, 2, 4], [], [4, 2, 1, 3, 0, 5, 6]] [(_, _), (_, _), (_, _), (_, _), (_, _), (_, _), (_, _)] ?hD ?hok ?hl ?hf ?hno ?ht
    case hD => kernel_rfl
    case hok => kernel_rfl
    case hl => rfl
    case hf => (conv => whnf); repeat' (first | (refine ⟨rfl, rfl⟩) | exact trivial | (refine AFCall.mk ⟨_, _, sl32Kinds_p, .inl rfl, ?_⟩; conv => whnf) | (refine AFCall.mk ⟨_, _, kp, .inl rfl, ?_⟩; conv => whnf) | (refine AIx.at 0 _ rfl rfl ?_; conv => whnf) | (refine And.intro ?_ ?_ <;> conv => whnf))
    case hno => rfl
    case ht =>
      (conv => whnf)
      repeat' (first | (refine AWP.seq ?_) | (refine AWP.region av_ok ?_; conv => whnf) | (refine AWP.ret ?_; conv => whnf) | (refine AWP.skip ?_; conv => whnf) | (refine AWP.exit ?_; conv => whnf) | (refine AWP.block ?_; conv => whnf) | (refine AWP.cond ?_; conv => whnf) | (refine AB.tt ?_; conv => whnf) | (refine AB.ff ?_; conv => whnf) | (refine AB.ofT (by assumption) ?_; conv => whnf) | (refine AB.ofF (by assumption) ?_; conv => whnf) | (refine AIx.at 1 _ rfl rfl ?_; conv => whnf) | (refine AIx.at 2 _ rfl rfl ?_; conv => whnf) | (refine ACall.pure n1 rfl ?_; conv => whnf) | (refine ACall.pure o1 rfl ?_; conv => whnf) | (refine ACall.pure nd rfl ?_; conv => whnf) | (refine ACall.pure at2 rfl ?_; conv => whnf) | (refine ACall.pure tp rfl ?_; conv => whnf) | (refine AB.ofT (by decide) ?_; conv => whnf) | (refine AB.ofF (by decide) ?_; conv => whnf) | (exact trivial) | (refine And.intro rfl ?_; conv => whnf) | (refine AB.mk (fun h => ?_) (fun h => ?_) <;> (conv => whnf)) | (with_reducible_and_instances rfl) | (exact (rfl : AP.tup _ = AP.tup _)))
  · have h3' := ne_dec' h3
    rw [if_neg h3]
    refine pcall_of av_ok Tryd.func48 rfl Tryd.call48 Tryd.ntmps48 (congrArg Array.toList Tryd.results48) fun S => ?_; conv => whnf
    repeat' (first | (refine AWP.seq ?_) | (refine AWP.region av_ok ?_; conv => whnf) | (refine AWP.ret ?_; conv => whnf) | (refine AWP.skip ?_; conv => whnf) | (refine AWP.exit ?_; conv => whnf) | (refine AWP.block ?_; conv => whnf) | (refine AWP.cond ?_; conv => whnf) | (refine AB.tt ?_; conv => whnf) | (refine AB.ff ?_; conv => whnf) | (refine AB.ofT (by assumption) ?_; conv => whnf) | (refine AB.ofF (by assumption) ?_; conv => whnf) | (refine ACall.pure sp rfl ?_; conv => whnf) | (exact trivial) | (refine And.intro rfl ?_; conv => whnf) | (refine AB.mk (fun h => ?_) (fun h => ?_) <;> (conv => whnf)) | (with_reducible_and_instances rfl) | (exact (rfl : AP.tup _ = AP.tup _)))
    refine' AWP.draw av_ok 7 [[], [], [1], [1, 2], [2, 1, 3, 0], [0, 3, 1, 2, 4], [], [4, 2, 1, 3, 0, 5, 6]] [(_, _), (_, _), (_, _), (_, _), (_, _), (_, _), (_, _)] ?hD ?hok ?hl ?hf ?hno ?ht
    case hD => kernel_rfl
    case hok => kernel_rfl
    case hl => rfl
    case hf => (conv => whnf); repeat' (first | (refine ⟨rfl, rfl⟩) | exact trivial | (refine AFCall.mk ⟨_, _, sl32Kinds_p, .inl rfl, ?_⟩; conv => whnf) | (refine AFCall.mk ⟨_, _, kp, .inl rfl, ?_⟩; conv => whnf) | (refine AIx.at 0 _ rfl rfl ?_; conv => whnf) | (refine And.intro ?_ ?_ <;> conv => whnf))
    case hno => rfl
    case ht =>
      (conv => whnf)
      repeat' (first | (refine AWP.seq ?_) | (refine AWP.region av_ok ?_; conv => whnf) | (refine AWP.ret ?_; conv => whnf) | (refine AWP.skip ?_; conv => whnf) | (refine AWP.exit ?_; conv => whnf) | (refine AWP.block ?_; conv => whnf) | (refine AWP.cond ?_; conv => whnf) | (refine AB.tt ?_; conv => whnf) | (refine AB.ff ?_; conv => whnf) | (refine AB.ofT (by assumption) ?_; conv => whnf) | (refine AB.ofF (by assumption) ?_; conv => whnf) | (refine AIx.at 1 _ rfl rfl ?_; conv => whnf) | (refine AIx.at 2 _ rfl rfl ?_; conv => whnf) | (refine ACall.pure n1 rfl ?_; conv => whnf) | (refine ACall.pure o1 rfl ?_; conv => whnf) | (refine ACall.pure nd rfl ?_; conv => whnf) | (refine ACall.pure at2 rfl ?_; conv => whnf) | (refine ACall.pure tp rfl ?_; conv => whnf) | (refine AB.ofT (by decide) ?_; conv => whnf) | (refine AB.ofF (by decide) ?_; conv => whnf) | (exact trivial) | (refine And.intro rfl ?_; conv => whnf) | (refine AB.mk (fun h => ?_) (fun h => ?_) <;> (conv => whnf)) | (with_reducible_and_instances rfl) | (exact (rfl : AP.tup _ = AP.tup _)))
theorem sTextStep_11 (l w0 w1 : List UInt8) (r : List (List UInt8)) (hl : l.length ≤ 160) (hw : wordsL 32 l = w0 :: w1 :: r) (hk : idxL kindsL w0 = 11) : PCall av 48 [pL l] (pAns (stAns ⟨11, numN w1, atN (w0 :: w1 :: r) 2, atN (w0 :: w1 :: r) 3, []⟩ l)) := by
  have hwl : ∀ w ∈ wordsL 32 l, w.length ≤ 2000000 := fun w h => by have := words_len w h; omega
  rw [hw] at hwl
  have sp := sl1Split_p l 32 (by omega)
  rw [hw] at sp
  have kp := sl1At_p kindsL w0 (by decide)
  rw [hk] at kp
  have hlt : decide (((⟨l.toArray⟩ : ByteArray).size : Int) > 160) = false := by rw [sz_dL]; simp; omega
  have h2 : decide ((((w0 :: w1 :: r).map eS).length : Int) < 2) = false := by simp only [List.length_map, List.length_cons, decide_eq_false_iff_not]; omega
  have n1 := sl32Number_p w1 (hwl w1 (by simp))
  have o1 := sNodeOf_p w1
  have nd : PCall av 83 [pI 11] (rB false) := sl32Node_p 11
  have at2 := sl32At_p (w0 :: w1 :: r) 2 hwl
  have at3 := sl32At_p (w0 :: w1 :: r) 3 hwl
  have tp := sStepText_p ⟨11, numN w1, atN (w0 :: w1 :: r) 2, atN (w0 :: w1 :: r) 3, []⟩
  unfold stAns
  by_cases h3 : stepTextL ⟨11, numN w1, atN (w0 :: w1 :: r) 2, atN (w0 :: w1 :: r) 3, []⟩ = l
  · have h3' := ne_dec h3
    rw [if_pos h3]
    refine pcall_of av_ok Tryd.func48 rfl Tryd.call48 Tryd.ntmps48 (congrArg Array.toList Tryd.results48) fun S => ?_; conv => whnf
    repeat' (first | (refine AWP.seq ?_) | (refine AWP.region av_ok ?_; conv => whnf) | (refine AWP.ret ?_; conv => whnf) | (refine AWP.skip ?_; conv => whnf) | (refine AWP.exit ?_; conv => whnf) | (refine AWP.block ?_; conv => whnf) | (refine AWP.cond ?_; conv => whnf) | (refine AB.tt ?_; conv => whnf) | (refine AB.ff ?_; conv => whnf) | (refine AB.ofT (by assumption) ?_; conv => whnf) | (refine AB.ofF (by assumption) ?_; conv => whnf) | (refine ACall.pure sp rfl ?_; conv => whnf) | (exact trivial) | (refine And.intro rfl ?_; conv => whnf) | (refine AB.mk (fun h => ?_) (fun h => ?_) <;> (conv => whnf)) | (with_reducible_and_instances rfl) | (exact (rfl : AP.tup _ = AP.tup _)))
    refine' AWP.draw av_ok 7 [[], [], [1], [1, 2], [2, 1, 3, 0], [0, 3, 1, 2, 4], [], [4, 2, 1, 3, 0, 5, 6]] [(_, _), (_, _), (_, _), (_, _), (_, _), (_, _), (_, _)] ?hD ?hok ?hl ?hf ?hno ?ht
    case hD => kernel_rfl
    case hok => kernel_rfl
    case hl => rfl
    case hf => (conv => whnf); repeat' (first | (refine ⟨rfl, rfl⟩) | exact trivial | (refine AFCall.mk ⟨_, _, sl32Kinds_p, .inl rfl, ?_⟩; conv => whnf) | (refine AFCall.mk ⟨_, _, kp, .inl rfl, ?_⟩; conv => whnf) | (refine AIx.at 0 _ rfl rfl ?_; conv => whnf) | (refine And.intro ?_ ?_ <;> conv => whnf))
    case hno => rfl
    case ht =>
      (conv => whnf)
      repeat' (first | (refine AWP.seq ?_) | (refine AWP.region av_ok ?_; conv => whnf) | (refine AWP.ret ?_; conv => whnf) | (refine AWP.skip ?_; conv => whnf) | (refine AWP.exit ?_; conv => whnf) | (refine AWP.block ?_; conv => whnf) | (refine AWP.cond ?_; conv => whnf) | (refine AB.tt ?_; conv => whnf) | (refine AB.ff ?_; conv => whnf) | (refine AB.ofT (by assumption) ?_; conv => whnf) | (refine AB.ofF (by assumption) ?_; conv => whnf) | (refine AIx.at 1 _ rfl rfl ?_; conv => whnf) | (refine AIx.at 2 _ rfl rfl ?_; conv => whnf) | (refine ACall.pure n1 rfl ?_; conv => whnf) | (refine ACall.pure o1 rfl ?_; conv => whnf) | (refine ACall.pure nd rfl ?_; conv => whnf) | (refine ACall.pure at2 rfl ?_; conv => whnf) | (refine ACall.pure at3 rfl ?_; conv => whnf) | (refine ACall.pure tp rfl ?_; conv => whnf) | (refine AB.ofT (by decide) ?_; conv => whnf) | (refine AB.ofF (by decide) ?_; conv => whnf) | (exact trivial) | (refine And.intro rfl ?_; conv => whnf) | (refine AB.mk (fun h => ?_) (fun h => ?_) <;> (conv => whnf)) | (with_reducible_and_instances rfl) | (exact (rfl : AP.tup _ = AP.tup _)))
  · have h3' := ne_dec' h3
    rw [if_neg h3]
    refine pcall_of av_ok Tryd.func48 rfl Tryd.call48 Tryd.ntmps48 (congrArg Array.toList Tryd.results48) fun S => ?_; conv => whnf
    repeat' (first | (refine AWP.seq ?_) | (refine AWP.region av_ok ?_; conv => whnf) | (refine AWP.ret ?_; conv => whnf) | (refine AWP.skip ?_; conv => whnf) | (refine AWP.exit ?_; conv => whnf) | (refine AWP.block ?_; conv => whnf) | (refine AWP.cond ?_; conv => whnf) | (refine AB.tt ?_; conv => whnf) | (refine AB.ff ?_; conv => whnf) | (refine AB.ofT (by assumption) ?_; conv => whnf) | (refine AB.ofF (by assumption) ?_; conv => whnf) | (refine ACall.pure sp rfl ?_; conv => whnf) | (exact trivial) | (refine And.intro rfl ?_; conv => whnf) | (refine AB.mk (fun h => ?_) (fun h => ?_) <;> (conv => whnf)) | (with_reducible_and_instances rfl) | (exact (rfl : AP.tup _ = AP.tup _)))
    refine' AWP.draw av_ok 7 [[], [], [1], [1, 2], [2, 1, 3, 0], [0, 3, 1, 2, 4], [], [4, 2, 1, 3, 0, 5, 6]] [(_, _), (_, _), (_, _), (_, _), (_, _), (_, _), (_, _)] ?hD ?hok ?hl ?hf ?hno ?ht
    case hD => kernel_rfl
    case hok => kernel_rfl
    case hl => rfl
    case hf => (conv => whnf); repeat' (first | (refine ⟨rfl, rfl⟩) | exact trivial | (refine AFCall.mk ⟨_, _, sl32Kinds_p, .inl rfl, ?_⟩; conv => whnf) | (refine AFCall.mk ⟨_, _, kp, .inl rfl, ?_⟩; conv => whnf) | (refine AIx.at 0 _ rfl rfl ?_; conv => whnf) | (refine And.intro ?_ ?_ <;> conv => whnf))
    case hno => rfl
    case ht =>
      (conv => whnf)
      repeat' (first | (refine AWP.seq ?_) | (refine AWP.region av_ok ?_; conv => whnf) | (refine AWP.ret ?_; conv => whnf) | (refine AWP.skip ?_; conv => whnf) | (refine AWP.exit ?_; conv => whnf) | (refine AWP.block ?_; conv => whnf) | (refine AWP.cond ?_; conv => whnf) | (refine AB.tt ?_; conv => whnf) | (refine AB.ff ?_; conv => whnf) | (refine AB.ofT (by assumption) ?_; conv => whnf) | (refine AB.ofF (by assumption) ?_; conv => whnf) | (refine AIx.at 1 _ rfl rfl ?_; conv => whnf) | (refine AIx.at 2 _ rfl rfl ?_; conv => whnf) | (refine ACall.pure n1 rfl ?_; conv => whnf) | (refine ACall.pure o1 rfl ?_; conv => whnf) | (refine ACall.pure nd rfl ?_; conv => whnf) | (refine ACall.pure at2 rfl ?_; conv => whnf) | (refine ACall.pure at3 rfl ?_; conv => whnf) | (refine ACall.pure tp rfl ?_; conv => whnf) | (refine AB.ofT (by decide) ?_; conv => whnf) | (refine AB.ofF (by decide) ?_; conv => whnf) | (exact trivial) | (refine And.intro rfl ?_; conv => whnf) | (refine AB.mk (fun h => ?_) (fun h => ?_) <;> (conv => whnf)) | (with_reducible_and_instances rfl) | (exact (rfl : AP.tup _ = AP.tup _)))
theorem sTextStep_9n (l w0 w1 : List UInt8) (r : List (List UInt8)) (hl : l.length ≤ 160) (hw : wordsL 32 l = w0 :: w1 :: r) (hk : idxL kindsL w0 = 9) (hr : r = []) : PCall av 48 [pL l] (pAns (stAns ⟨9, nodeIx w1, -1, 0, []⟩ l)) := by
  have hwl : ∀ w ∈ wordsL 32 l, w.length ≤ 2000000 := fun w h => by have := words_len w h; omega
  rw [hw] at hwl
  have sp := sl1Split_p l 32 (by omega)
  rw [hw] at sp
  have kp := sl1At_p kindsL w0 (by decide)
  rw [hk] at kp
  have hlt : decide (((⟨l.toArray⟩ : ByteArray).size : Int) > 160) = false := by rw [sz_dL]; simp; omega
  have h2 : decide ((((w0 :: w1 :: r).map eS).length : Int) < 2) = false := by simp only [List.length_map, List.length_cons, decide_eq_false_iff_not]; omega
  have n1 := sl32Number_p w1 (hwl w1 (by simp))
  have o1 := sNodeOf_p w1
  have nd : PCall av 83 [pI 9] (rB true) := sl32Node_p 9
  subst hr
  have tp := sStepText_p ⟨9, nodeIx w1, -1, 0, []⟩
  unfold stAns
  by_cases h3 : stepTextL ⟨9, nodeIx w1, -1, 0, []⟩ = l
  · have h3' := ne_dec h3
    rw [if_pos h3]
    refine pcall_of av_ok Tryd.func48 rfl Tryd.call48 Tryd.ntmps48 (congrArg Array.toList Tryd.results48) fun S => ?_; conv => whnf
    repeat' (first | (refine AWP.seq ?_) | (refine AWP.region av_ok ?_; conv => whnf) | (refine AWP.ret ?_; conv => whnf) | (refine AWP.skip ?_; conv => whnf) | (refine AWP.exit ?_; conv => whnf) | (refine AWP.block ?_; conv => whnf) | (refine AWP.cond ?_; conv => whnf) | (refine AB.tt ?_; conv => whnf) | (refine AB.ff ?_; conv => whnf) | (refine AB.ofT (by assumption) ?_; conv => whnf) | (refine AB.ofF (by assumption) ?_; conv => whnf) | (refine ACall.pure sp rfl ?_; conv => whnf) | (exact trivial) | (refine And.intro rfl ?_; conv => whnf) | (refine AB.mk (fun h => ?_) (fun h => ?_) <;> (conv => whnf)) | (with_reducible_and_instances rfl) | (exact (rfl : AP.tup _ = AP.tup _)))
    refine' AWP.draw av_ok 7 [[], [], [1], [1, 2], [2, 1, 3, 0], [0, 3, 1, 2, 4], [], [4, 2, 1, 3, 0, 5, 6]] [(_, _), (_, _), (_, _), (_, _), (_, _), (_, _), (_, _)] ?hD ?hok ?hl ?hf ?hno ?ht
    case hD => kernel_rfl
    case hok => kernel_rfl
    case hl => rfl
    case hf => (conv => whnf); repeat' (first | (refine ⟨rfl, rfl⟩) | exact trivial | (refine AFCall.mk ⟨_, _, sl32Kinds_p, .inl rfl, ?_⟩; conv => whnf) | (refine AFCall.mk ⟨_, _, kp, .inl rfl, ?_⟩; conv => whnf) | (refine AIx.at 0 _ rfl rfl ?_; conv => whnf) | (refine And.intro ?_ ?_ <;> conv => whnf))
    case hno => rfl
    case ht =>
      (conv => whnf)
      repeat' (first | (refine AWP.seq ?_) | (refine AWP.region av_ok ?_; conv => whnf) | (refine AWP.ret ?_; conv => whnf) | (refine AWP.skip ?_; conv => whnf) | (refine AWP.exit ?_; conv => whnf) | (refine AWP.block ?_; conv => whnf) | (refine AWP.cond ?_; conv => whnf) | (refine AB.tt ?_; conv => whnf) | (refine AB.ff ?_; conv => whnf) | (refine AB.ofT (by assumption) ?_; conv => whnf) | (refine AB.ofF (by assumption) ?_; conv => whnf) | (refine AIx.at 1 _ rfl rfl ?_; conv => whnf) | (refine AIx.at 2 _ rfl rfl ?_; conv => whnf) | (refine ACall.pure n1 rfl ?_; conv => whnf) | (refine ACall.pure o1 rfl ?_; conv => whnf) | (refine ACall.pure nd rfl ?_; conv => whnf) | (refine ACall.pure tp rfl ?_; conv => whnf) | (refine AB.ofT (by decide) ?_; conv => whnf) | (refine AB.ofF (by decide) ?_; conv => whnf) | (exact trivial) | (refine And.intro rfl ?_; conv => whnf) | (refine AB.mk (fun h => ?_) (fun h => ?_) <;> (conv => whnf)) | (with_reducible_and_instances rfl) | (exact (rfl : AP.tup _ = AP.tup _)))
  · have h3' := ne_dec' h3
    rw [if_neg h3]
    refine pcall_of av_ok Tryd.func48 rfl Tryd.call48 Tryd.ntmps48 (congrArg Array.toList Tryd.results48) fun S => ?_; conv => whnf
    repeat' (first | (refine AWP.seq ?_) | (refine AWP.region av_ok ?_; conv => whnf) | (refine AWP.ret ?_; conv => whnf) | (refine AWP.skip ?_; conv => whnf) | (refine AWP.exit ?_; conv => whnf) | (refine AWP.block ?_; conv => whnf) | (refine AWP.cond ?_; conv => whnf) | (refine AB.tt ?_; conv => whnf) | (refine AB.ff ?_; conv => whnf) | (refine AB.ofT (by assumption) ?_; conv => whnf) | (refine AB.ofF (by assumption) ?_; conv => whnf) | (refine ACall.pure sp rfl ?_; conv => whnf) | (exact trivial) | (refine And.intro rfl ?_; conv => whnf) | (refine AB.mk (fun h => ?_) (fun h => ?_) <;> (conv => whnf)) | (with_reducible_and_instances rfl) | (exact (rfl : AP.tup _ = AP.tup _)))
    refine' AWP.draw av_ok 7 [[], [], [1], [1, 2], [2, 1, 3, 0], [0, 3, 1, 2, 4], [], [4, 2, 1, 3, 0, 5, 6]] [(_, _), (_, _), (_, _), (_, _), (_, _), (_, _), (_, _)] ?hD ?hok ?hl ?hf ?hno ?ht
    case hD => kernel_rfl
    case hok => kernel_rfl
    case hl => rfl
    case hf => (conv => whnf); repeat' (first | (refine ⟨rfl, rfl⟩) | exact trivial | (refine AFCall.mk ⟨_, _, sl32Kinds_p, .inl rfl, ?_⟩; conv => whnf) | (refine AFCall.mk ⟨_, _, kp, .inl rfl, ?_⟩; conv => whnf) | (refine AIx.at 0 _ rfl rfl ?_; conv => whnf) | (refine And.intro ?_ ?_ <;> conv => whnf))
    case hno => rfl
    case ht =>
      (conv => whnf)
      repeat' (first | (refine AWP.seq ?_) | (refine AWP.region av_ok ?_; conv => whnf) | (refine AWP.ret ?_; conv => whnf) | (refine AWP.skip ?_; conv => whnf) | (refine AWP.exit ?_; conv => whnf) | (refine AWP.block ?_; conv => whnf) | (refine AWP.cond ?_; conv => whnf) | (refine AB.tt ?_; conv => whnf) | (refine AB.ff ?_; conv => whnf) | (refine AB.ofT (by assumption) ?_; conv => whnf) | (refine AB.ofF (by assumption) ?_; conv => whnf) | (refine AIx.at 1 _ rfl rfl ?_; conv => whnf) | (refine AIx.at 2 _ rfl rfl ?_; conv => whnf) | (refine ACall.pure n1 rfl ?_; conv => whnf) | (refine ACall.pure o1 rfl ?_; conv => whnf) | (refine ACall.pure nd rfl ?_; conv => whnf) | (refine ACall.pure tp rfl ?_; conv => whnf) | (refine AB.ofT (by decide) ?_; conv => whnf) | (refine AB.ofF (by decide) ?_; conv => whnf) | (exact trivial) | (refine And.intro rfl ?_; conv => whnf) | (refine AB.mk (fun h => ?_) (fun h => ?_) <;> (conv => whnf)) | (with_reducible_and_instances rfl) | (exact (rfl : AP.tup _ = AP.tup _)))
theorem sTextStep_9c (l w0 w1 : List UInt8) (r : List (List UInt8)) (hl : l.length ≤ 160) (hw : wordsL 32 l = w0 :: w1 :: r) (hk : idxL kindsL w0 = 9) (w2 : List UInt8) (r2 : List (List UInt8)) (hr : r = w2 :: r2) : PCall av 48 [pL l] (pAns (stAns ⟨9, nodeIx w1, nodeIx w2, 0, []⟩ l)) := by
  have hwl : ∀ w ∈ wordsL 32 l, w.length ≤ 2000000 := fun w h => by have := words_len w h; omega
  rw [hw] at hwl
  have sp := sl1Split_p l 32 (by omega)
  rw [hw] at sp
  have kp := sl1At_p kindsL w0 (by decide)
  rw [hk] at kp
  have hlt : decide (((⟨l.toArray⟩ : ByteArray).size : Int) > 160) = false := by rw [sz_dL]; simp; omega
  have h2 : decide ((((w0 :: w1 :: r).map eS).length : Int) < 2) = false := by simp only [List.length_map, List.length_cons, decide_eq_false_iff_not]; omega
  have n1 := sl32Number_p w1 (hwl w1 (by simp))
  have o1 := sNodeOf_p w1
  have nd : PCall av 83 [pI 9] (rB true) := sl32Node_p 9
  subst hr
  have o2 := sNodeOf_p w2
  have h22 : decide ((((w0 :: w1 :: w2 :: r2).map eS).length : Int) > 2) = true := by simp only [List.length_map, List.length_cons, decide_eq_true_eq]; omega
  have tp := sStepText_p ⟨9, nodeIx w1, nodeIx w2, 0, []⟩
  unfold stAns
  by_cases h3 : stepTextL ⟨9, nodeIx w1, nodeIx w2, 0, []⟩ = l
  · have h3' := ne_dec h3
    rw [if_pos h3]
    refine pcall_of av_ok Tryd.func48 rfl Tryd.call48 Tryd.ntmps48 (congrArg Array.toList Tryd.results48) fun S => ?_; conv => whnf
    repeat' (first | (refine AWP.seq ?_) | (refine AWP.region av_ok ?_; conv => whnf) | (refine AWP.ret ?_; conv => whnf) | (refine AWP.skip ?_; conv => whnf) | (refine AWP.exit ?_; conv => whnf) | (refine AWP.block ?_; conv => whnf) | (refine AWP.cond ?_; conv => whnf) | (refine AB.tt ?_; conv => whnf) | (refine AB.ff ?_; conv => whnf) | (refine AB.ofT (by assumption) ?_; conv => whnf) | (refine AB.ofF (by assumption) ?_; conv => whnf) | (refine ACall.pure sp rfl ?_; conv => whnf) | (exact trivial) | (refine And.intro rfl ?_; conv => whnf) | (refine AB.mk (fun h => ?_) (fun h => ?_) <;> (conv => whnf)) | (with_reducible_and_instances rfl) | (exact (rfl : AP.tup _ = AP.tup _)))
    refine' AWP.draw av_ok 7 [[], [], [1], [1, 2], [2, 1, 3, 0], [0, 3, 1, 2, 4], [], [4, 2, 1, 3, 0, 5, 6]] [(_, _), (_, _), (_, _), (_, _), (_, _), (_, _), (_, _)] ?hD ?hok ?hl ?hf ?hno ?ht
    case hD => kernel_rfl
    case hok => kernel_rfl
    case hl => rfl
    case hf => (conv => whnf); repeat' (first | (refine ⟨rfl, rfl⟩) | exact trivial | (refine AFCall.mk ⟨_, _, sl32Kinds_p, .inl rfl, ?_⟩; conv => whnf) | (refine AFCall.mk ⟨_, _, kp, .inl rfl, ?_⟩; conv => whnf) | (refine AIx.at 0 _ rfl rfl ?_; conv => whnf) | (refine And.intro ?_ ?_ <;> conv => whnf))
    case hno => rfl
    case ht =>
      (conv => whnf)
      repeat' (first | (refine AWP.seq ?_) | (refine AWP.region av_ok ?_; conv => whnf) | (refine AWP.ret ?_; conv => whnf) | (refine AWP.skip ?_; conv => whnf) | (refine AWP.exit ?_; conv => whnf) | (refine AWP.block ?_; conv => whnf) | (refine AWP.cond ?_; conv => whnf) | (refine AB.tt ?_; conv => whnf) | (refine AB.ff ?_; conv => whnf) | (refine AB.ofT (by assumption) ?_; conv => whnf) | (refine AB.ofF (by assumption) ?_; conv => whnf) | (refine AIx.at 1 _ rfl rfl ?_; conv => whnf) | (refine AIx.at 2 _ rfl rfl ?_; conv => whnf) | (refine ACall.pure n1 rfl ?_; conv => whnf) | (refine ACall.pure o1 rfl ?_; conv => whnf) | (refine ACall.pure nd rfl ?_; conv => whnf) | (refine ACall.pure o2 rfl ?_; conv => whnf) | (refine ACall.pure tp rfl ?_; conv => whnf) | (refine AB.ofT (by decide) ?_; conv => whnf) | (refine AB.ofF (by decide) ?_; conv => whnf) | (exact trivial) | (refine And.intro rfl ?_; conv => whnf) | (refine AB.mk (fun h => ?_) (fun h => ?_) <;> (conv => whnf)) | (with_reducible_and_instances rfl) | (exact (rfl : AP.tup _ = AP.tup _)))
  · have h3' := ne_dec' h3
    rw [if_neg h3]
    refine pcall_of av_ok Tryd.func48 rfl Tryd.call48 Tryd.ntmps48 (congrArg Array.toList Tryd.results48) fun S => ?_; conv => whnf
    repeat' (first | (refine AWP.seq ?_) | (refine AWP.region av_ok ?_; conv => whnf) | (refine AWP.ret ?_; conv => whnf) | (refine AWP.skip ?_; conv => whnf) | (refine AWP.exit ?_; conv => whnf) | (refine AWP.block ?_; conv => whnf) | (refine AWP.cond ?_; conv => whnf) | (refine AB.tt ?_; conv => whnf) | (refine AB.ff ?_; conv => whnf) | (refine AB.ofT (by assumption) ?_; conv => whnf) | (refine AB.ofF (by assumption) ?_; conv => whnf) | (refine ACall.pure sp rfl ?_; conv => whnf) | (exact trivial) | (refine And.intro rfl ?_; conv => whnf) | (refine AB.mk (fun h => ?_) (fun h => ?_) <;> (conv => whnf)) | (with_reducible_and_instances rfl) | (exact (rfl : AP.tup _ = AP.tup _)))
    refine' AWP.draw av_ok 7 [[], [], [1], [1, 2], [2, 1, 3, 0], [0, 3, 1, 2, 4], [], [4, 2, 1, 3, 0, 5, 6]] [(_, _), (_, _), (_, _), (_, _), (_, _), (_, _), (_, _)] ?hD ?hok ?hl ?hf ?hno ?ht
    case hD => kernel_rfl
    case hok => kernel_rfl
    case hl => rfl
    case hf => (conv => whnf); repeat' (first | (refine ⟨rfl, rfl⟩) | exact trivial | (refine AFCall.mk ⟨_, _, sl32Kinds_p, .inl rfl, ?_⟩; conv => whnf) | (refine AFCall.mk ⟨_, _, kp, .inl rfl, ?_⟩; conv => whnf) | (refine AIx.at 0 _ rfl rfl ?_; conv => whnf) | (refine And.intro ?_ ?_ <;> conv => whnf))
    case hno => rfl
    case ht =>
      (conv => whnf)
      repeat' (first | (refine AWP.seq ?_) | (refine AWP.region av_ok ?_; conv => whnf) | (refine AWP.ret ?_; conv => whnf) | (refine AWP.skip ?_; conv => whnf) | (refine AWP.exit ?_; conv => whnf) | (refine AWP.block ?_; conv => whnf) | (refine AWP.cond ?_; conv => whnf) | (refine AB.tt ?_; conv => whnf) | (refine AB.ff ?_; conv => whnf) | (refine AB.ofT (by assumption) ?_; conv => whnf) | (refine AB.ofF (by assumption) ?_; conv => whnf) | (refine AIx.at 1 _ rfl rfl ?_; conv => whnf) | (refine AIx.at 2 _ rfl rfl ?_; conv => whnf) | (refine ACall.pure n1 rfl ?_; conv => whnf) | (refine ACall.pure o1 rfl ?_; conv => whnf) | (refine ACall.pure nd rfl ?_; conv => whnf) | (refine ACall.pure o2 rfl ?_; conv => whnf) | (refine ACall.pure tp rfl ?_; conv => whnf) | (refine AB.ofT (by decide) ?_; conv => whnf) | (refine AB.ofF (by decide) ?_; conv => whnf) | (exact trivial) | (refine And.intro rfl ?_; conv => whnf) | (refine AB.mk (fun h => ?_) (fun h => ?_) <;> (conv => whnf)) | (with_reducible_and_instances rfl) | (exact (rfl : AP.tup _ = AP.tup _)))
theorem sTextStep_10n (l w0 w1 : List UInt8) (r : List (List UInt8)) (hl : l.length ≤ 160) (hw : wordsL 32 l = w0 :: w1 :: r) (hk : idxL kindsL w0 = 10) (hr : r = []) : PCall av 48 [pL l] (pAns (stAns ⟨10, nodeIx w1, -1, 0, []⟩ l)) := by
  have hwl : ∀ w ∈ wordsL 32 l, w.length ≤ 2000000 := fun w h => by have := words_len w h; omega
  rw [hw] at hwl
  have sp := sl1Split_p l 32 (by omega)
  rw [hw] at sp
  have kp := sl1At_p kindsL w0 (by decide)
  rw [hk] at kp
  have hlt : decide (((⟨l.toArray⟩ : ByteArray).size : Int) > 160) = false := by rw [sz_dL]; simp; omega
  have h2 : decide ((((w0 :: w1 :: r).map eS).length : Int) < 2) = false := by simp only [List.length_map, List.length_cons, decide_eq_false_iff_not]; omega
  have n1 := sl32Number_p w1 (hwl w1 (by simp))
  have o1 := sNodeOf_p w1
  have nd : PCall av 83 [pI 10] (rB true) := sl32Node_p 10
  subst hr
  have tp := sStepText_p ⟨10, nodeIx w1, -1, 0, []⟩
  unfold stAns
  by_cases h3 : stepTextL ⟨10, nodeIx w1, -1, 0, []⟩ = l
  · have h3' := ne_dec h3
    rw [if_pos h3]
    refine pcall_of av_ok Tryd.func48 rfl Tryd.call48 Tryd.ntmps48 (congrArg Array.toList Tryd.results48) fun S => ?_; conv => whnf
    repeat' (first | (refine AWP.seq ?_) | (refine AWP.region av_ok ?_; conv => whnf) | (refine AWP.ret ?_; conv => whnf) | (refine AWP.skip ?_; conv => whnf) | (refine AWP.exit ?_; conv => whnf) | (refine AWP.block ?_; conv => whnf) | (refine AWP.cond ?_; conv => whnf) | (refine AB.tt ?_; conv => whnf) | (refine AB.ff ?_; conv => whnf) | (refine AB.ofT (by assumption) ?_; conv => whnf) | (refine AB.ofF (by assumption) ?_; conv => whnf) | (refine ACall.pure sp rfl ?_; conv => whnf) | (exact trivial) | (refine And.intro rfl ?_; conv => whnf) | (refine AB.mk (fun h => ?_) (fun h => ?_) <;> (conv => whnf)) | (with_reducible_and_instances rfl) | (exact (rfl : AP.tup _ = AP.tup _)))
    refine' AWP.draw av_ok 7 [[], [], [1], [1, 2], [2, 1, 3, 0], [0, 3, 1, 2, 4], [], [4, 2, 1, 3, 0, 5, 6]] [(_, _), (_, _), (_, _), (_, _), (_, _), (_, _), (_, _)] ?hD ?hok ?hl ?hf ?hno ?ht
    case hD => kernel_rfl
    case hok => kernel_rfl
    case hl => rfl
    case hf => (conv => whnf); repeat' (first | (refine ⟨rfl, rfl⟩) | exact trivial | (refine AFCall.mk ⟨_, _, sl32Kinds_p, .inl rfl, ?_⟩; conv => whnf) | (refine AFCall.mk ⟨_, _, kp, .inl rfl, ?_⟩; conv => whnf) | (refine AIx.at 0 _ rfl rfl ?_; conv => whnf) | (refine And.intro ?_ ?_ <;> conv => whnf))
    case hno => rfl
    case ht =>
      (conv => whnf)
      repeat' (first | (refine AWP.seq ?_) | (refine AWP.region av_ok ?_; conv => whnf) | (refine AWP.ret ?_; conv => whnf) | (refine AWP.skip ?_; conv => whnf) | (refine AWP.exit ?_; conv => whnf) | (refine AWP.block ?_; conv => whnf) | (refine AWP.cond ?_; conv => whnf) | (refine AB.tt ?_; conv => whnf) | (refine AB.ff ?_; conv => whnf) | (refine AB.ofT (by assumption) ?_; conv => whnf) | (refine AB.ofF (by assumption) ?_; conv => whnf) | (refine AIx.at 1 _ rfl rfl ?_; conv => whnf) | (refine AIx.at 2 _ rfl rfl ?_; conv => whnf) | (refine ACall.pure n1 rfl ?_; conv => whnf) | (refine ACall.pure o1 rfl ?_; conv => whnf) | (refine ACall.pure nd rfl ?_; conv => whnf) | (refine ACall.pure tp rfl ?_; conv => whnf) | (refine AB.ofT (by decide) ?_; conv => whnf) | (refine AB.ofF (by decide) ?_; conv => whnf) | (exact trivial) | (refine And.intro rfl ?_; conv => whnf) | (refine AB.mk (fun h => ?_) (fun h => ?_) <;> (conv => whnf)) | (with_reducible_and_instances rfl) | (exact (rfl : AP.tup _ = AP.tup _)))
  · have h3' := ne_dec' h3
    rw [if_neg h3]
    refine pcall_of av_ok Tryd.func48 rfl Tryd.call48 Tryd.ntmps48 (congrArg Array.toList Tryd.results48) fun S => ?_; conv => whnf
    repeat' (first | (refine AWP.seq ?_) | (refine AWP.region av_ok ?_; conv => whnf) | (refine AWP.ret ?_; conv => whnf) | (refine AWP.skip ?_; conv => whnf) | (refine AWP.exit ?_; conv => whnf) | (refine AWP.block ?_; conv => whnf) | (refine AWP.cond ?_; conv => whnf) | (refine AB.tt ?_; conv => whnf) | (refine AB.ff ?_; conv => whnf) | (refine AB.ofT (by assumption) ?_; conv => whnf) | (refine AB.ofF (by assumption) ?_; conv => whnf) | (refine ACall.pure sp rfl ?_; conv => whnf) | (exact trivial) | (refine And.intro rfl ?_; conv => whnf) | (refine AB.mk (fun h => ?_) (fun h => ?_) <;> (conv => whnf)) | (with_reducible_and_instances rfl) | (exact (rfl : AP.tup _ = AP.tup _)))
    refine' AWP.draw av_ok 7 [[], [], [1], [1, 2], [2, 1, 3, 0], [0, 3, 1, 2, 4], [], [4, 2, 1, 3, 0, 5, 6]] [(_, _), (_, _), (_, _), (_, _), (_, _), (_, _), (_, _)] ?hD ?hok ?hl ?hf ?hno ?ht
    case hD => kernel_rfl
    case hok => kernel_rfl
    case hl => rfl
    case hf => (conv => whnf); repeat' (first | (refine ⟨rfl, rfl⟩) | exact trivial | (refine AFCall.mk ⟨_, _, sl32Kinds_p, .inl rfl, ?_⟩; conv => whnf) | (refine AFCall.mk ⟨_, _, kp, .inl rfl, ?_⟩; conv => whnf) | (refine AIx.at 0 _ rfl rfl ?_; conv => whnf) | (refine And.intro ?_ ?_ <;> conv => whnf))
    case hno => rfl
    case ht =>
      (conv => whnf)
      repeat' (first | (refine AWP.seq ?_) | (refine AWP.region av_ok ?_; conv => whnf) | (refine AWP.ret ?_; conv => whnf) | (refine AWP.skip ?_; conv => whnf) | (refine AWP.exit ?_; conv => whnf) | (refine AWP.block ?_; conv => whnf) | (refine AWP.cond ?_; conv => whnf) | (refine AB.tt ?_; conv => whnf) | (refine AB.ff ?_; conv => whnf) | (refine AB.ofT (by assumption) ?_; conv => whnf) | (refine AB.ofF (by assumption) ?_; conv => whnf) | (refine AIx.at 1 _ rfl rfl ?_; conv => whnf) | (refine AIx.at 2 _ rfl rfl ?_; conv => whnf) | (refine ACall.pure n1 rfl ?_; conv => whnf) | (refine ACall.pure o1 rfl ?_; conv => whnf) | (refine ACall.pure nd rfl ?_; conv => whnf) | (refine ACall.pure tp rfl ?_; conv => whnf) | (refine AB.ofT (by decide) ?_; conv => whnf) | (refine AB.ofF (by decide) ?_; conv => whnf) | (exact trivial) | (refine And.intro rfl ?_; conv => whnf) | (refine AB.mk (fun h => ?_) (fun h => ?_) <;> (conv => whnf)) | (with_reducible_and_instances rfl) | (exact (rfl : AP.tup _ = AP.tup _)))
theorem sTextStep_10c (l w0 w1 : List UInt8) (r : List (List UInt8)) (hl : l.length ≤ 160) (hw : wordsL 32 l = w0 :: w1 :: r) (hk : idxL kindsL w0 = 10) (w2 : List UInt8) (r2 : List (List UInt8)) (hr : r = w2 :: r2) : PCall av 48 [pL l] (pAns (stAns ⟨10, nodeIx w1, nodeIx w2, 0, []⟩ l)) := by
  have hwl : ∀ w ∈ wordsL 32 l, w.length ≤ 2000000 := fun w h => by have := words_len w h; omega
  rw [hw] at hwl
  have sp := sl1Split_p l 32 (by omega)
  rw [hw] at sp
  have kp := sl1At_p kindsL w0 (by decide)
  rw [hk] at kp
  have hlt : decide (((⟨l.toArray⟩ : ByteArray).size : Int) > 160) = false := by rw [sz_dL]; simp; omega
  have h2 : decide ((((w0 :: w1 :: r).map eS).length : Int) < 2) = false := by simp only [List.length_map, List.length_cons, decide_eq_false_iff_not]; omega
  have n1 := sl32Number_p w1 (hwl w1 (by simp))
  have o1 := sNodeOf_p w1
  have nd : PCall av 83 [pI 10] (rB true) := sl32Node_p 10
  subst hr
  have o2 := sNodeOf_p w2
  have h22 : decide ((((w0 :: w1 :: w2 :: r2).map eS).length : Int) > 2) = true := by simp only [List.length_map, List.length_cons, decide_eq_true_eq]; omega
  have tp := sStepText_p ⟨10, nodeIx w1, nodeIx w2, 0, []⟩
  unfold stAns
  by_cases h3 : stepTextL ⟨10, nodeIx w1, nodeIx w2, 0, []⟩ = l
  · have h3' := ne_dec h3
    rw [if_pos h3]
    refine pcall_of av_ok Tryd.func48 rfl Tryd.call48 Tryd.ntmps48 (congrArg Array.toList Tryd.results48) fun S => ?_; conv => whnf
    repeat' (first | (refine AWP.seq ?_) | (refine AWP.region av_ok ?_; conv => whnf) | (refine AWP.ret ?_; conv => whnf) | (refine AWP.skip ?_; conv => whnf) | (refine AWP.exit ?_; conv => whnf) | (refine AWP.block ?_; conv => whnf) | (refine AWP.cond ?_; conv => whnf) | (refine AB.tt ?_; conv => whnf) | (refine AB.ff ?_; conv => whnf) | (refine AB.ofT (by assumption) ?_; conv => whnf) | (refine AB.ofF (by assumption) ?_; conv => whnf) | (refine ACall.pure sp rfl ?_; conv => whnf) | (exact trivial) | (refine And.intro rfl ?_; conv => whnf) | (refine AB.mk (fun h => ?_) (fun h => ?_) <;> (conv => whnf)) | (with_reducible_and_instances rfl) | (exact (rfl : AP.tup _ = AP.tup _)))
    refine' AWP.draw av_ok 7 [[], [], [1], [1, 2], [2, 1, 3, 0], [0, 3, 1, 2, 4], [], [4, 2, 1, 3, 0, 5, 6]] [(_, _), (_, _), (_, _), (_, _), (_, _), (_, _), (_, _)] ?hD ?hok ?hl ?hf ?hno ?ht
    case hD => kernel_rfl
    case hok => kernel_rfl
    case hl => rfl
    case hf => (conv => whnf); repeat' (first | (refine ⟨rfl, rfl⟩) | exact trivial | (refine AFCall.mk ⟨_, _, sl32Kinds_p, .inl rfl, ?_⟩; conv => whnf) | (refine AFCall.mk ⟨_, _, kp, .inl rfl, ?_⟩; conv => whnf) | (refine AIx.at 0 _ rfl rfl ?_; conv => whnf) | (refine And.intro ?_ ?_ <;> conv => whnf))
    case hno => rfl
    case ht =>
      (conv => whnf)
      repeat' (first | (refine AWP.seq ?_) | (refine AWP.region av_ok ?_; conv => whnf) | (refine AWP.ret ?_; conv => whnf) | (refine AWP.skip ?_; conv => whnf) | (refine AWP.exit ?_; conv => whnf) | (refine AWP.block ?_; conv => whnf) | (refine AWP.cond ?_; conv => whnf) | (refine AB.tt ?_; conv => whnf) | (refine AB.ff ?_; conv => whnf) | (refine AB.ofT (by assumption) ?_; conv => whnf) | (refine AB.ofF (by assumption) ?_; conv => whnf) | (refine AIx.at 1 _ rfl rfl ?_; conv => whnf) | (refine AIx.at 2 _ rfl rfl ?_; conv => whnf) | (refine ACall.pure n1 rfl ?_; conv => whnf) | (refine ACall.pure o1 rfl ?_; conv => whnf) | (refine ACall.pure nd rfl ?_; conv => whnf) | (refine ACall.pure o2 rfl ?_; conv => whnf) | (refine ACall.pure tp rfl ?_; conv => whnf) | (refine AB.ofT (by decide) ?_; conv => whnf) | (refine AB.ofF (by decide) ?_; conv => whnf) | (exact trivial) | (refine And.intro rfl ?_; conv => whnf) | (refine AB.mk (fun h => ?_) (fun h => ?_) <;> (conv => whnf)) | (with_reducible_and_instances rfl) | (exact (rfl : AP.tup _ = AP.tup _)))
  · have h3' := ne_dec' h3
    rw [if_neg h3]
    refine pcall_of av_ok Tryd.func48 rfl Tryd.call48 Tryd.ntmps48 (congrArg Array.toList Tryd.results48) fun S => ?_; conv => whnf
    repeat' (first | (refine AWP.seq ?_) | (refine AWP.region av_ok ?_; conv => whnf) | (refine AWP.ret ?_; conv => whnf) | (refine AWP.skip ?_; conv => whnf) | (refine AWP.exit ?_; conv => whnf) | (refine AWP.block ?_; conv => whnf) | (refine AWP.cond ?_; conv => whnf) | (refine AB.tt ?_; conv => whnf) | (refine AB.ff ?_; conv => whnf) | (refine AB.ofT (by assumption) ?_; conv => whnf) | (refine AB.ofF (by assumption) ?_; conv => whnf) | (refine ACall.pure sp rfl ?_; conv => whnf) | (exact trivial) | (refine And.intro rfl ?_; conv => whnf) | (refine AB.mk (fun h => ?_) (fun h => ?_) <;> (conv => whnf)) | (with_reducible_and_instances rfl) | (exact (rfl : AP.tup _ = AP.tup _)))
    refine' AWP.draw av_ok 7 [[], [], [1], [1, 2], [2, 1, 3, 0], [0, 3, 1, 2, 4], [], [4, 2, 1, 3, 0, 5, 6]] [(_, _), (_, _), (_, _), (_, _), (_, _), (_, _), (_, _)] ?hD ?hok ?hl ?hf ?hno ?ht
    case hD => kernel_rfl
    case hok => kernel_rfl
    case hl => rfl
    case hf => (conv => whnf); repeat' (first | (refine ⟨rfl, rfl⟩) | exact trivial | (refine AFCall.mk ⟨_, _, sl32Kinds_p, .inl rfl, ?_⟩; conv => whnf) | (refine AFCall.mk ⟨_, _, kp, .inl rfl, ?_⟩; conv => whnf) | (refine AIx.at 0 _ rfl rfl ?_; conv => whnf) | (refine And.intro ?_ ?_ <;> conv => whnf))
    case hno => rfl
    case ht =>
      (conv => whnf)
      repeat' (first | (refine AWP.seq ?_) | (refine AWP.region av_ok ?_; conv => whnf) | (refine AWP.ret ?_; conv => whnf) | (refine AWP.skip ?_; conv => whnf) | (refine AWP.exit ?_; conv => whnf) | (refine AWP.block ?_; conv => whnf) | (refine AWP.cond ?_; conv => whnf) | (refine AB.tt ?_; conv => whnf) | (refine AB.ff ?_; conv => whnf) | (refine AB.ofT (by assumption) ?_; conv => whnf) | (refine AB.ofF (by assumption) ?_; conv => whnf) | (refine AIx.at 1 _ rfl rfl ?_; conv => whnf) | (refine AIx.at 2 _ rfl rfl ?_; conv => whnf) | (refine ACall.pure n1 rfl ?_; conv => whnf) | (refine ACall.pure o1 rfl ?_; conv => whnf) | (refine ACall.pure nd rfl ?_; conv => whnf) | (refine ACall.pure o2 rfl ?_; conv => whnf) | (refine ACall.pure tp rfl ?_; conv => whnf) | (refine AB.ofT (by decide) ?_; conv => whnf) | (refine AB.ofF (by decide) ?_; conv => whnf) | (exact trivial) | (refine And.intro rfl ?_; conv => whnf) | (refine AB.mk (fun h => ?_) (fun h => ?_) <;> (conv => whnf)) | (with_reducible_and_instances rfl) | (exact (rfl : AP.tup _ = AP.tup _)))
end Go.Proofs.YtlhanpkfnhnegaaDoor
/- TextStep of the reference: fall. -/
namespace Go.Proofs.YtlhanpkfnhnegaaDoor
open Go.RowKit

def falO (a : Int) (w2 : List UInt8) : Nat → List (Nat × AO)
  | 0 => [(2, .cells 47 [.d (dI 0), .d (dI 0), .d (dI 0), .d (dI 0), .nil]), (5, .cells 47 [.d (dI 5), .d (dI a), .d (dI 0), .d (dI 0), .nil])]
  | k + 1 => [(2, .cells 47 [.d (dI 0), .d (dI 0), .d (dI 0), .d (dI 0), .nil]), (5, .cells 47 [.d (dI 5), .d (dI a), .d (dI 0), .d (dI 0), .own 94]), (94, .row 2 1 (((w2.take (k + 1)).map fun b => (b.toNat : Int) - 48).map eI))]
theorem sTextStep_5n (l w0 w1 : List UInt8) (hl : l.length ≤ 160) (hw : wordsL 32 l = [w0, w1]) (hk : idxL kindsL w0 = 5) : PCall av 48 [pL l] (pAns (stAns ⟨5, nodeIx w1, 0, 0, []⟩ l)) := by
  have hwl : ∀ w ∈ wordsL 32 l, w.length ≤ 2000000 := fun w h => by have := words_len w h; omega
  rw [hw] at hwl
  have sp := sl1Split_p l 32 (by omega)
  rw [hw] at sp
  have kp := sl1At_p kindsL w0 (by decide)
  rw [hk] at kp
  have hlt : decide (((⟨l.toArray⟩ : ByteArray).size : Int) > 160) = false := by rw [sz_dL]; simp; omega
  have n1 := sl32Number_p w1 (hwl w1 (by simp))
  have o1 := sNodeOf_p w1
  have nd : PCall av 83 [pI 5] (rB true) := sl32Node_p 5
  have h2 : decide ((([w0, w1].map eS).length : Int) < 2) = false := rfl
  have h22 : decide ((([w0, w1].map eS).length : Int) > 2) = false := rfl
  have tp := sStepText_p ⟨5, nodeIx w1, 0, 0, []⟩
  unfold stAns
  by_cases h3 : stepTextL ⟨5, nodeIx w1, 0, 0, []⟩ = l
  · have h3' := ne_dec h3
    rw [if_pos h3]
    refine pcall_of av_ok Tryd.func48 rfl Tryd.call48 Tryd.ntmps48 (congrArg Array.toList Tryd.results48) fun S => ?_; conv => whnf
    repeat' (first | (refine AWP.seq ?_) | (refine AWP.region av_ok ?_; conv => whnf) | (refine AWP.ret ?_; conv => whnf) | (refine AWP.skip ?_; conv => whnf) | (refine AWP.exit ?_; conv => whnf) | (refine AWP.block ?_; conv => whnf) | (refine AWP.cond ?_; conv => whnf) | (refine AB.tt ?_; conv => whnf) | (refine AB.ff ?_; conv => whnf) | (refine AB.ofT (by assumption) ?_; conv => whnf) | (refine AB.ofF (by assumption) ?_; conv => whnf) | (refine ACall.pure sp rfl ?_; conv => whnf) | (exact trivial) | (refine And.intro rfl ?_; conv => whnf) | (refine AB.mk (fun h => ?_) (fun h => ?_) <;> (conv => whnf)) | (with_reducible_and_instances rfl) | (exact (rfl : AP.tup _ = AP.tup _)))
    refine' AWP.draw av_ok 7 [[], [], [1], [1, 2], [2, 1, 3, 0], [0, 3, 1, 2, 4], [], [4, 2, 1, 3, 0, 5, 6]] [(_, _), (_, _), (_, _), (_, _), (_, _), (_, _), (_, _)] ?hD ?hok ?hl ?hf ?hno ?ht
    case hD => kernel_rfl
    case hok => kernel_rfl
    case hl => rfl
    case hf => (conv => whnf); repeat' (first | (refine ⟨rfl, rfl⟩) | exact trivial | (refine AFCall.mk ⟨_, _, sl32Kinds_p, .inl rfl, ?_⟩; conv => whnf) | (refine AFCall.mk ⟨_, _, kp, .inl rfl, ?_⟩; conv => whnf) | (refine AIx.at 0 _ rfl rfl ?_; conv => whnf) | (refine And.intro ?_ ?_ <;> conv => whnf))
    case hno => rfl
    case ht =>
      (conv => whnf)
      repeat' (first | (refine AWP.seq ?_) | (refine AWP.region av_ok ?_; conv => whnf) | (refine AWP.ret ?_; conv => whnf) | (refine AWP.skip ?_; conv => whnf) | (refine AWP.exit ?_; conv => whnf) | (refine AWP.block ?_; conv => whnf) | (refine AWP.cond ?_; conv => whnf) | (refine AB.tt ?_; conv => whnf) | (refine AB.ff ?_; conv => whnf) | (refine AB.ofT (by assumption) ?_; conv => whnf) | (refine AB.ofF (by assumption) ?_; conv => whnf) | (refine AIx.at 1 _ rfl rfl ?_; conv => whnf) | (refine AIx.at 2 _ rfl rfl ?_; conv => whnf) | (refine ACall.pure n1 rfl ?_; conv => whnf) | (refine ACall.pure o1 rfl ?_; conv => whnf) | (refine ACall.pure nd rfl ?_; conv => whnf) | (refine ACall.pure tp rfl ?_; conv => whnf) | (refine AB.ofT (by decide) ?_; conv => whnf) | (refine AB.ofF (by decide) ?_; conv => whnf) | (exact trivial) | (refine And.intro rfl ?_; conv => whnf) | (refine AB.mk (fun h => ?_) (fun h => ?_) <;> (conv => whnf)) | (with_reducible_and_instances rfl) | (exact (rfl : AP.tup _ = AP.tup _)) | (refine AWP.unroll 1 ?_; conv => whnf))
  · have h3' := ne_dec' h3
    rw [if_neg h3]
    refine pcall_of av_ok Tryd.func48 rfl Tryd.call48 Tryd.ntmps48 (congrArg Array.toList Tryd.results48) fun S => ?_; conv => whnf
    repeat' (first | (refine AWP.seq ?_) | (refine AWP.region av_ok ?_; conv => whnf) | (refine AWP.ret ?_; conv => whnf) | (refine AWP.skip ?_; conv => whnf) | (refine AWP.exit ?_; conv => whnf) | (refine AWP.block ?_; conv => whnf) | (refine AWP.cond ?_; conv => whnf) | (refine AB.tt ?_; conv => whnf) | (refine AB.ff ?_; conv => whnf) | (refine AB.ofT (by assumption) ?_; conv => whnf) | (refine AB.ofF (by assumption) ?_; conv => whnf) | (refine ACall.pure sp rfl ?_; conv => whnf) | (exact trivial) | (refine And.intro rfl ?_; conv => whnf) | (refine AB.mk (fun h => ?_) (fun h => ?_) <;> (conv => whnf)) | (with_reducible_and_instances rfl) | (exact (rfl : AP.tup _ = AP.tup _)))
    refine' AWP.draw av_ok 7 [[], [], [1], [1, 2], [2, 1, 3, 0], [0, 3, 1, 2, 4], [], [4, 2, 1, 3, 0, 5, 6]] [(_, _), (_, _), (_, _), (_, _), (_, _), (_, _), (_, _)] ?hD ?hok ?hl ?hf ?hno ?ht
    case hD => kernel_rfl
    case hok => kernel_rfl
    case hl => rfl
    case hf => (conv => whnf); repeat' (first | (refine ⟨rfl, rfl⟩) | exact trivial | (refine AFCall.mk ⟨_, _, sl32Kinds_p, .inl rfl, ?_⟩; conv => whnf) | (refine AFCall.mk ⟨_, _, kp, .inl rfl, ?_⟩; conv => whnf) | (refine AIx.at 0 _ rfl rfl ?_; conv => whnf) | (refine And.intro ?_ ?_ <;> conv => whnf))
    case hno => rfl
    case ht =>
      (conv => whnf)
      repeat' (first | (refine AWP.seq ?_) | (refine AWP.region av_ok ?_; conv => whnf) | (refine AWP.ret ?_; conv => whnf) | (refine AWP.skip ?_; conv => whnf) | (refine AWP.exit ?_; conv => whnf) | (refine AWP.block ?_; conv => whnf) | (refine AWP.cond ?_; conv => whnf) | (refine AB.tt ?_; conv => whnf) | (refine AB.ff ?_; conv => whnf) | (refine AB.ofT (by assumption) ?_; conv => whnf) | (refine AB.ofF (by assumption) ?_; conv => whnf) | (refine AIx.at 1 _ rfl rfl ?_; conv => whnf) | (refine AIx.at 2 _ rfl rfl ?_; conv => whnf) | (refine ACall.pure n1 rfl ?_; conv => whnf) | (refine ACall.pure o1 rfl ?_; conv => whnf) | (refine ACall.pure nd rfl ?_; conv => whnf) | (refine ACall.pure tp rfl ?_; conv => whnf) | (refine AB.ofT (by decide) ?_; conv => whnf) | (refine AB.ofF (by decide) ?_; conv => whnf) | (exact trivial) | (refine And.intro rfl ?_; conv => whnf) | (refine AB.mk (fun h => ?_) (fun h => ?_) <;> (conv => whnf)) | (with_reducible_and_instances rfl) | (exact (rfl : AP.tup _ = AP.tup _)) | (refine AWP.unroll 1 ?_; conv => whnf))
set_option maxHeartbeats 4000000 in
theorem sTextStep_5c (l w0 w1 w2 : List UInt8) (r : List (List UInt8)) (hl : l.length ≤ 160) (hw : wordsL 32 l = w0 :: w1 :: w2 :: r) (hk : idxL kindsL w0 = 5) : PCall av 48 [pL l] (pAns (stAns ⟨5, nodeIx w1, 0, 0, w2.map fun b => (b.toNat : Int) - 48⟩ l)) := by
  have hwl : ∀ w ∈ wordsL 32 l, w.length ≤ 2000000 := fun w h => by have := words_len w h; omega
  rw [hw] at hwl
  have sp := sl1Split_p l 32 (by omega)
  rw [hw] at sp
  have kp := sl1At_p kindsL w0 (by decide)
  rw [hk] at kp
  have hlt : decide (((⟨l.toArray⟩ : ByteArray).size : Int) > 160) = false := by rw [sz_dL]; simp; omega
  have n1 := sl32Number_p w1 (hwl w1 (by simp))
  have o1 := sNodeOf_p w1
  have nd : PCall av 83 [pI 5] (rB true) := sl32Node_p 5
  have h2 : decide ((((w0 :: w1 :: w2 :: r).map eS).length : Int) < 2) = false := by simp only [List.length_map, List.length_cons, decide_eq_false_iff_not]; omega
  have h22 : decide ((((w0 :: w1 :: w2 :: r).map eS).length : Int) > 2) = true := by simp only [List.length_map, List.length_cons, decide_eq_true_eq]; omega
  have h2l := hwl w2 (by simp)
  have tp := sStepText_p ⟨5, nodeIx w1, 0, 0, w2.map fun b => (b.toNat : Int) - 48⟩
  unfold stAns
  by_cases h3 : stepTextL ⟨5, nodeIx w1, 0, 0, w2.map fun b => (b.toNat : Int) - 48⟩ = l
  · have h3' := ne_dec h3
    rw [if_pos h3]
    refine pcall_of av_ok Tryd.func48 rfl Tryd.call48 Tryd.ntmps48 (congrArg Array.toList Tryd.results48) fun S => ?_; conv => whnf
    repeat' (first | (refine AWP.seq ?_) | (refine AWP.region av_ok ?_; conv => whnf) | (refine AWP.ret ?_; conv => whnf) | (refine AWP.skip ?_; conv => whnf) | (refine AWP.exit ?_; conv => whnf) | (refine AWP.block ?_; conv => whnf) | (refine AWP.cond ?_; conv => whnf) | (refine AB.tt ?_; conv => whnf) | (refine AB.ff ?_; conv => whnf) | (refine AB.ofT (by assumption) ?_; conv => whnf) | (refine AB.ofF (by assumption) ?_; conv => whnf) | (refine ACall.pure sp rfl ?_; conv => whnf) | (exact trivial) | (refine And.intro rfl ?_; conv => whnf) | (refine AB.mk (fun h => ?_) (fun h => ?_) <;> (conv => whnf)) | (with_reducible_and_instances rfl) | (exact (rfl : AP.tup _ = AP.tup _)))
    refine' AWP.draw av_ok 7 [[], [], [1], [1, 2], [2, 1, 3, 0], [0, 3, 1, 2, 4], [], [4, 2, 1, 3, 0, 5, 6]] [(_, _), (_, _), (_, _), (_, _), (_, _), (_, _), (_, _)] ?hD ?hok ?hl ?hf ?hno ?ht
    case hD => kernel_rfl
    case hok => kernel_rfl
    case hl => rfl
    case hf => (conv => whnf); repeat' (first | (refine ⟨rfl, rfl⟩) | exact trivial | (refine AFCall.mk ⟨_, _, sl32Kinds_p, .inl rfl, ?_⟩; conv => whnf) | (refine AFCall.mk ⟨_, _, kp, .inl rfl, ?_⟩; conv => whnf) | (refine AIx.at 0 _ rfl rfl ?_; conv => whnf) | (refine And.intro ?_ ?_ <;> conv => whnf))
    case hno => rfl
    case ht =>
      (conv => whnf)
      repeat' (first | (refine AWP.seq ?_) | (refine AWP.region av_ok ?_; conv => whnf) | (refine AWP.ret ?_; conv => whnf) | (refine AWP.skip ?_; conv => whnf) | (refine AWP.exit ?_; conv => whnf) | (refine AWP.block ?_; conv => whnf) | (refine AWP.cond ?_; conv => whnf) | (refine AB.tt ?_; conv => whnf) | (refine AB.ff ?_; conv => whnf) | (refine AB.ofT (by assumption) ?_; conv => whnf) | (refine AB.ofF (by assumption) ?_; conv => whnf) | (refine AIx.at 1 _ rfl rfl ?_; conv => whnf) | (refine AIx.at 2 _ rfl rfl ?_; conv => whnf) | (refine ACall.pure n1 rfl ?_; conv => whnf) | (refine ACall.pure o1 rfl ?_; conv => whnf) | (refine ACall.pure nd rfl ?_; conv => whnf) | (refine AB.ofT (by decide) ?_; conv => whnf) | (refine AB.ofF (by decide) ?_; conv => whnf) | (exact trivial) | (refine And.intro rfl ?_; conv => whnf) | (refine AB.mk (fun h => ?_) (fun h => ?_) <;> (conv => whnf)) | (with_reducible_and_instances rfl) | (exact (rfl : AP.tup _ = AP.tup _)))
      refine AWP.loopS (fun k : Nat => k ≤ w2.length) [6, 71, 72, 73, 74, 75, 76, 77, 78, 79, 80, 81, 82, 83, 84, 85, 86, 87, 88, 89, 90, 91, 92, 93, 94, 95] (fun k => [(6, vI .i64 (k : Int))]) (fun k => falO (nodeIx w1) w2 k) (fun k => w2.length - k) 0 (by omega) ?_ (SubO.cons rfl (SubO.cons rfl SubO.nil)) (fun k hR => ?_) <;> (conv => whnf)
      · repeat' (first | exact trivial | (refine And.intro rfl ?_; conv => whnf))
      · cases k with
        | zero =>
          repeat' (first | (refine AWP.seq ?_) | (refine AWP.region av_ok ?_; conv => whnf) | (refine AWP.ret ?_; conv => whnf) | (refine AWP.skip ?_; conv => whnf) | (refine AWP.exit ?_; conv => whnf) | (refine AWP.block ?_; conv => whnf) | (refine AWP.cond ?_; conv => whnf) | (refine AB.tt ?_; conv => whnf) | (refine AB.ff ?_; conv => whnf) | (refine AB.ofT (by assumption) ?_; conv => whnf) | (refine AB.ofF (by assumption) ?_; conv => whnf) | (refine AIx.at 1 _ rfl rfl ?_; conv => whnf) | (refine AIx.at 2 _ rfl rfl ?_; conv => whnf) | (refine And.intro rfl ?_; conv => whnf))
          refine AB.mk (fun h => ?_) (fun h => ?_) <;> (conv => whnf)
          · have hlt : 0 < w2.length := (by simp only [sz_dL, decide_eq_true_eq, decide_eq_false_iff_not, beq_iff_eq, beq_eq_false_iff_ne, List.length_map, Bool.not_eq_true', Bool.not_eq_false', ne_eq] at *; omega)
            have hb : w2[0].toNat ≤ 255 := by have := w2[0].toNat_lt; omega
            have hrow : [[dI ((w2[0].toNat : Int) - 48)]] = ((w2.take 1).map fun b => (b.toNat : Int) - 48).map eI := by
              have := List.take_append_getElem hlt
              rw [← this]; rfl
            repeat' (first | (refine AWP.seq ?_) | (refine AWP.region av_ok ?_; conv => whnf) | (refine AWP.ret ?_; conv => whnf) | (refine AWP.skip ?_; conv => whnf) | (refine AWP.exit ?_; conv => whnf) | (refine AWP.block ?_; conv => whnf) | (refine AWP.cond ?_; conv => whnf) | (refine AB.tt ?_; conv => whnf) | (refine AB.ff ?_; conv => whnf) | (refine AB.ofT (by assumption) ?_; conv => whnf) | (refine AB.ofF (by assumption) ?_; conv => whnf) | (refine And.intro rfl ?_; conv => whnf))
            refine' AWP.draw av_ok 10 [[], [0], [], [2], [2, 3], [], [5, 3, 2, 4], [4, 2, 3, 5, 6], [6, 5, 3, 2, 4, 7], [7, 4, 2, 3, 5, 6, 8], [8, 6, 5, 3, 2, 4, 7, 9, 0, 1], [10, 9, 8, 7, 6, 5, 4, 3, 2, 1, 0], [0, 1, 2, 3, 4, 5, 6, 7, 8, 9, 10, 11]] [(_, _), (_, _), (_, _), (_, _), (_, _), (_, _), (_, _), (_, _), (_, _), (_, _)] ?hD ?hok ?hl ?hf ?hno ?ht
            case hD => kernel_rfl
            case hok => kernel_rfl
            case hl => rfl
            case hf => (conv => whnf); repeat' (first | (refine ⟨rfl, rfl⟩) | exact trivial | (refine AIx.at 2 _ rfl rfl ?_; conv => whnf) | (refine ⟨0, w2[0]'hlt, rfl, sget hlt, ?_⟩; conv => whnf) | (refine AW.i64 (by omega) (by omega) ?_; conv => whnf) | (refine And.intro ?_ ?_ <;> conv => whnf))
            case hno => rfl
            case ht =>
              (conv => whnf)
              repeat' (first | (refine AWP.seq ?_) | (refine AWP.region av_ok ?_; conv => whnf) | (refine AWP.ret ?_; conv => whnf) | (refine AWP.skip ?_; conv => whnf) | (refine AWP.exit ?_; conv => whnf) | (refine AWP.block ?_; conv => whnf) | (refine AWP.cond ?_; conv => whnf) | (refine AB.tt ?_; conv => whnf) | (refine AB.ff ?_; conv => whnf) | (refine AB.ofT (by assumption) ?_; conv => whnf) | (refine AB.ofF (by assumption) ?_; conv => whnf) | (refine AW.i64 (by simp only [decide_eq_true_eq, decide_eq_false_iff_not, List.length_map, Bool.not_eq_true', Bool.not_eq_false'] at *; omega) (by simp only [decide_eq_true_eq, decide_eq_false_iff_not, List.length_map, Bool.not_eq_true', Bool.not_eq_false'] at *; omega) ?_; conv => whnf) | (refine all_len (by simp [eI]) ?_; conv => whnf) | (refine sz_app (by simp only [List.length_map, List.length_take, List.length_cons, List.length_nil]; omega) ?_; conv => whnf) | (exact trivial) | (refine And.intro rfl ?_; conv => whnf))
              refine ANext.mk ⟨1, hlt, by omega, ?_, SubO.cons rfl (SubO.cons rfl (SubO.cons (congrArg some (congrArg (AO.row 2 1) hrow)) SubO.nil))⟩
              (conv => whnf); repeat' (first | exact trivial | (refine ⟨rfl, ?_⟩; conv => whnf))
          · have h0 : w2.length = 0 := (by simp only [sz_dL, decide_eq_true_eq, decide_eq_false_iff_not, beq_iff_eq, beq_eq_false_iff_ne, List.length_map, Bool.not_eq_true', Bool.not_eq_false', ne_eq] at *; omega)
            have e0 : w2 = [] := List.eq_nil_of_length_eq_zero h0
            subst e0
            repeat' (first | (refine AWP.seq ?_) | (refine AWP.region av_ok ?_; conv => whnf) | (refine AWP.ret ?_; conv => whnf) | (refine AWP.skip ?_; conv => whnf) | (refine AWP.exit ?_; conv => whnf) | (refine AWP.block ?_; conv => whnf) | (refine AWP.cond ?_; conv => whnf) | (refine AB.tt ?_; conv => whnf) | (refine AB.ff ?_; conv => whnf) | (refine AB.ofT (by assumption) ?_; conv => whnf) | (refine AB.ofF (by assumption) ?_; conv => whnf) | (refine ACall.pure tp rfl ?_; conv => whnf) | (exact trivial) | (refine And.intro rfl ?_; conv => whnf) | (refine AB.mk (fun h => ?_) (fun h => ?_) <;> (conv => whnf)) | (with_reducible_and_instances rfl) | (exact (rfl : AP.tup _ = AP.tup _)))
        | succ k =>
          repeat' (first | (refine AWP.seq ?_) | (refine AWP.region av_ok ?_; conv => whnf) | (refine AWP.ret ?_; conv => whnf) | (refine AWP.skip ?_; conv => whnf) | (refine AWP.exit ?_; conv => whnf) | (refine AWP.block ?_; conv => whnf) | (refine AWP.cond ?_; conv => whnf) | (refine AB.tt ?_; conv => whnf) | (refine AB.ff ?_; conv => whnf) | (refine AB.ofT (by assumption) ?_; conv => whnf) | (refine AB.ofF (by assumption) ?_; conv => whnf) | (refine AIx.at 1 _ rfl rfl ?_; conv => whnf) | (refine AIx.at 2 _ rfl rfl ?_; conv => whnf) | (refine And.intro rfl ?_; conv => whnf))
          refine AB.mk (fun h => ?_) (fun h => ?_) <;> (conv => whnf)
          · have hlt : k + 1 < w2.length := (by simp only [sz_dL, decide_eq_true_eq, decide_eq_false_iff_not, beq_iff_eq, beq_eq_false_iff_ne, List.length_map, Bool.not_eq_true', Bool.not_eq_false', ne_eq] at *; omega)
            have hb : w2[k + 1].toNat ≤ 255 := by have := w2[k + 1].toNat_lt; omega
            have hrow : ((w2.take (k + 1)).map fun b => (b.toNat : Int) - 48).map eI ++ [[dI ((w2[k + 1].toNat : Int) - 48)]] = ((w2.take (k + 1 + 1)).map fun b => (b.toNat : Int) - 48).map eI := by
              rw [← List.take_append_getElem hlt, List.map_append, List.map_append]; rfl
            repeat' (first | (refine AWP.seq ?_) | (refine AWP.region av_ok ?_; conv => whnf) | (refine AWP.ret ?_; conv => whnf) | (refine AWP.skip ?_; conv => whnf) | (refine AWP.exit ?_; conv => whnf) | (refine AWP.block ?_; conv => whnf) | (refine AWP.cond ?_; conv => whnf) | (refine AB.tt ?_; conv => whnf) | (refine AB.ff ?_; conv => whnf) | (refine AB.ofT (by assumption) ?_; conv => whnf) | (refine AB.ofF (by assumption) ?_; conv => whnf) | (refine And.intro rfl ?_; conv => whnf))
            refine' AWP.draw av_ok 10 [[], [0], [], [2], [2, 3], [], [5, 3, 2, 4], [4, 2, 3, 5, 6], [6, 5, 3, 2, 4, 7], [7, 4, 2, 3, 5, 6, 8], [8, 6, 5, 3, 2, 4, 7, 9, 0, 1], [10, 9, 8, 7, 6, 5, 4, 3, 2, 1, 0], [0, 1, 2, 3, 4, 5, 6, 7, 8, 9, 10, 11]] [(_, _), (_, _), (_, _), (_, _), (_, _), (_, _), (_, _), (_, _), (_, _), (_, _)] ?hD ?hok ?hl ?hf ?hno ?ht
            case hD => kernel_rfl
            case hok => kernel_rfl
            case hl => rfl
            case hf => (conv => whnf); repeat' (first | (refine ⟨rfl, rfl⟩) | exact trivial | (refine AIx.at 2 _ rfl rfl ?_; conv => whnf) | (refine ⟨k + 1, w2[k + 1]'hlt, rfl, sget hlt, ?_⟩; conv => whnf) | (refine AW.i64 (by omega) (by omega) ?_; conv => whnf) | (refine And.intro ?_ ?_ <;> conv => whnf))
            case hno => rfl
            case ht =>
              (conv => whnf)
              repeat' (first | (refine AWP.seq ?_) | (refine AWP.region av_ok ?_; conv => whnf) | (refine AWP.ret ?_; conv => whnf) | (refine AWP.skip ?_; conv => whnf) | (refine AWP.exit ?_; conv => whnf) | (refine AWP.block ?_; conv => whnf) | (refine AWP.cond ?_; conv => whnf) | (refine AB.tt ?_; conv => whnf) | (refine AB.ff ?_; conv => whnf) | (refine AB.ofT (by assumption) ?_; conv => whnf) | (refine AB.ofF (by assumption) ?_; conv => whnf) | (refine AW.i64 (by simp only [decide_eq_true_eq, decide_eq_false_iff_not, List.length_map, Bool.not_eq_true', Bool.not_eq_false'] at *; omega) (by simp only [decide_eq_true_eq, decide_eq_false_iff_not, List.length_map, Bool.not_eq_true', Bool.not_eq_false'] at *; omega) ?_; conv => whnf) | (refine all_len (by simp [eI]) ?_; conv => whnf) | (refine sz_app (by simp only [List.length_map, List.length_take, List.length_cons, List.length_nil]; omega) ?_; conv => whnf) | (exact trivial) | (refine And.intro rfl ?_; conv => whnf))
              refine ANext.mk ⟨k + 2, hlt, by omega, ?_, SubO.cons rfl (SubO.cons rfl (SubO.cons (congrArg some (congrArg (AO.row 2 1) hrow)) SubO.nil))⟩
              (conv => whnf); repeat' (first | exact trivial | (refine ⟨rfl, ?_⟩; conv => whnf))
          · have h0 : k + 1 = w2.length := (by simp only [sz_dL, decide_eq_true_eq, decide_eq_false_iff_not, beq_iff_eq, beq_eq_false_iff_ne, List.length_map, Bool.not_eq_true', Bool.not_eq_false', ne_eq] at *; omega)
            have e0 : w2.take (k + 1) = w2 := by rw [h0, List.take_length]
            rw [← e0] at tp h3'
            repeat' (first | (refine AWP.seq ?_) | (refine AWP.region av_ok ?_; conv => whnf) | (refine AWP.ret ?_; conv => whnf) | (refine AWP.skip ?_; conv => whnf) | (refine AWP.exit ?_; conv => whnf) | (refine AWP.block ?_; conv => whnf) | (refine AWP.cond ?_; conv => whnf) | (refine AB.tt ?_; conv => whnf) | (refine AB.ff ?_; conv => whnf) | (refine AB.ofT (by assumption) ?_; conv => whnf) | (refine AB.ofF (by assumption) ?_; conv => whnf) | (refine ACall.scalar tp rfl rfl ?_; conv => whnf) | (exact trivial) | (refine And.intro rfl ?_; conv => whnf) | (refine AB.mk (fun h => ?_) (fun h => ?_) <;> (conv => whnf)) | (with_reducible_and_instances rfl) | (exact (rfl : AP.tup _ = AP.tup _)))
            all_goals (rw [e0]; rfl)
  · have h3' := ne_dec' h3
    rw [if_neg h3]
    refine pcall_of av_ok Tryd.func48 rfl Tryd.call48 Tryd.ntmps48 (congrArg Array.toList Tryd.results48) fun S => ?_; conv => whnf
    repeat' (first | (refine AWP.seq ?_) | (refine AWP.region av_ok ?_; conv => whnf) | (refine AWP.ret ?_; conv => whnf) | (refine AWP.skip ?_; conv => whnf) | (refine AWP.exit ?_; conv => whnf) | (refine AWP.block ?_; conv => whnf) | (refine AWP.cond ?_; conv => whnf) | (refine AB.tt ?_; conv => whnf) | (refine AB.ff ?_; conv => whnf) | (refine AB.ofT (by assumption) ?_; conv => whnf) | (refine AB.ofF (by assumption) ?_; conv => whnf) | (refine ACall.pure sp rfl ?_; conv => whnf) | (exact trivial) | (refine And.intro rfl ?_; conv => whnf) | (refine AB.mk (fun h => ?_) (fun h => ?_) <;> (conv => whnf)) | (with_reducible_and_instances rfl) | (exact (rfl : AP.tup _ = AP.tup _)))
    refine' AWP.draw av_ok 7 [[], [], [1], [1, 2], [2, 1, 3, 0], [0, 3, 1, 2, 4], [], [4, 2, 1, 3, 0, 5, 6]] [(_, _), (_, _), (_, _), (_, _), (_, _), (_, _), (_, _)] ?hD ?hok ?hl ?hf ?hno ?ht
    case hD => kernel_rfl
    case hok => kernel_rfl
    case hl => rfl
    case hf => (conv => whnf); repeat' (first | (refine ⟨rfl, rfl⟩) | exact trivial | (refine AFCall.mk ⟨_, _, sl32Kinds_p, .inl rfl, ?_⟩; conv => whnf) | (refine AFCall.mk ⟨_, _, kp, .inl rfl, ?_⟩; conv => whnf) | (refine AIx.at 0 _ rfl rfl ?_; conv => whnf) | (refine And.intro ?_ ?_ <;> conv => whnf))
    case hno => rfl
    case ht =>
      (conv => whnf)
      repeat' (first | (refine AWP.seq ?_) | (refine AWP.region av_ok ?_; conv => whnf) | (refine AWP.ret ?_; conv => whnf) | (refine AWP.skip ?_; conv => whnf) | (refine AWP.exit ?_; conv => whnf) | (refine AWP.block ?_; conv => whnf) | (refine AWP.cond ?_; conv => whnf) | (refine AB.tt ?_; conv => whnf) | (refine AB.ff ?_; conv => whnf) | (refine AB.ofT (by assumption) ?_; conv => whnf) | (refine AB.ofF (by assumption) ?_; conv => whnf) | (refine AIx.at 1 _ rfl rfl ?_; conv => whnf) | (refine AIx.at 2 _ rfl rfl ?_; conv => whnf) | (refine ACall.pure n1 rfl ?_; conv => whnf) | (refine ACall.pure o1 rfl ?_; conv => whnf) | (refine ACall.pure nd rfl ?_; conv => whnf) | (refine AB.ofT (by decide) ?_; conv => whnf) | (refine AB.ofF (by decide) ?_; conv => whnf) | (exact trivial) | (refine And.intro rfl ?_; conv => whnf) | (refine AB.mk (fun h => ?_) (fun h => ?_) <;> (conv => whnf)) | (with_reducible_and_instances rfl) | (exact (rfl : AP.tup _ = AP.tup _)))
      refine AWP.loopS (fun k : Nat => k ≤ w2.length) [6, 71, 72, 73, 74, 75, 76, 77, 78, 79, 80, 81, 82, 83, 84, 85, 86, 87, 88, 89, 90, 91, 92, 93, 94, 95] (fun k => [(6, vI .i64 (k : Int))]) (fun k => falO (nodeIx w1) w2 k) (fun k => w2.length - k) 0 (by omega) ?_ (SubO.cons rfl (SubO.cons rfl SubO.nil)) (fun k hR => ?_) <;> (conv => whnf)
      · repeat' (first | exact trivial | (refine And.intro rfl ?_; conv => whnf))
      · cases k with
        | zero =>
          repeat' (first | (refine AWP.seq ?_) | (refine AWP.region av_ok ?_; conv => whnf) | (refine AWP.ret ?_; conv => whnf) | (refine AWP.skip ?_; conv => whnf) | (refine AWP.exit ?_; conv => whnf) | (refine AWP.block ?_; conv => whnf) | (refine AWP.cond ?_; conv => whnf) | (refine AB.tt ?_; conv => whnf) | (refine AB.ff ?_; conv => whnf) | (refine AB.ofT (by assumption) ?_; conv => whnf) | (refine AB.ofF (by assumption) ?_; conv => whnf) | (refine AIx.at 1 _ rfl rfl ?_; conv => whnf) | (refine AIx.at 2 _ rfl rfl ?_; conv => whnf) | (refine And.intro rfl ?_; conv => whnf))
          refine AB.mk (fun h => ?_) (fun h => ?_) <;> (conv => whnf)
          · have hlt : 0 < w2.length := (by simp only [sz_dL, decide_eq_true_eq, decide_eq_false_iff_not, beq_iff_eq, beq_eq_false_iff_ne, List.length_map, Bool.not_eq_true', Bool.not_eq_false', ne_eq] at *; omega)
            have hb : w2[0].toNat ≤ 255 := by have := w2[0].toNat_lt; omega
            have hrow : [[dI ((w2[0].toNat : Int) - 48)]] = ((w2.take 1).map fun b => (b.toNat : Int) - 48).map eI := by
              have := List.take_append_getElem hlt
              rw [← this]; rfl
            repeat' (first | (refine AWP.seq ?_) | (refine AWP.region av_ok ?_; conv => whnf) | (refine AWP.ret ?_; conv => whnf) | (refine AWP.skip ?_; conv => whnf) | (refine AWP.exit ?_; conv => whnf) | (refine AWP.block ?_; conv => whnf) | (refine AWP.cond ?_; conv => whnf) | (refine AB.tt ?_; conv => whnf) | (refine AB.ff ?_; conv => whnf) | (refine AB.ofT (by assumption) ?_; conv => whnf) | (refine AB.ofF (by assumption) ?_; conv => whnf) | (refine And.intro rfl ?_; conv => whnf))
            refine' AWP.draw av_ok 10 [[], [0], [], [2], [2, 3], [], [5, 3, 2, 4], [4, 2, 3, 5, 6], [6, 5, 3, 2, 4, 7], [7, 4, 2, 3, 5, 6, 8], [8, 6, 5, 3, 2, 4, 7, 9, 0, 1], [10, 9, 8, 7, 6, 5, 4, 3, 2, 1, 0], [0, 1, 2, 3, 4, 5, 6, 7, 8, 9, 10, 11]] [(_, _), (_, _), (_, _), (_, _), (_, _), (_, _), (_, _), (_, _), (_, _), (_, _)] ?hD ?hok ?hl ?hf ?hno ?ht
            case hD => kernel_rfl
            case hok => kernel_rfl
            case hl => rfl
            case hf => (conv => whnf); repeat' (first | (refine ⟨rfl, rfl⟩) | exact trivial | (refine AIx.at 2 _ rfl rfl ?_; conv => whnf) | (refine ⟨0, w2[0]'hlt, rfl, sget hlt, ?_⟩; conv => whnf) | (refine AW.i64 (by omega) (by omega) ?_; conv => whnf) | (refine And.intro ?_ ?_ <;> conv => whnf))
            case hno => rfl
            case ht =>
              (conv => whnf)
              repeat' (first | (refine AWP.seq ?_) | (refine AWP.region av_ok ?_; conv => whnf) | (refine AWP.ret ?_; conv => whnf) | (refine AWP.skip ?_; conv => whnf) | (refine AWP.exit ?_; conv => whnf) | (refine AWP.block ?_; conv => whnf) | (refine AWP.cond ?_; conv => whnf) | (refine AB.tt ?_; conv => whnf) | (refine AB.ff ?_; conv => whnf) | (refine AB.ofT (by assumption) ?_; conv => whnf) | (refine AB.ofF (by assumption) ?_; conv => whnf) | (refine AW.i64 (by simp only [decide_eq_true_eq, decide_eq_false_iff_not, List.length_map, Bool.not_eq_true', Bool.not_eq_false'] at *; omega) (by simp only [decide_eq_true_eq, decide_eq_false_iff_not, List.length_map, Bool.not_eq_true', Bool.not_eq_false'] at *; omega) ?_; conv => whnf) | (refine all_len (by simp [eI]) ?_; conv => whnf) | (refine sz_app (by simp only [List.length_map, List.length_take, List.length_cons, List.length_nil]; omega) ?_; conv => whnf) | (exact trivial) | (refine And.intro rfl ?_; conv => whnf))
              refine ANext.mk ⟨1, hlt, by omega, ?_, SubO.cons rfl (SubO.cons rfl (SubO.cons (congrArg some (congrArg (AO.row 2 1) hrow)) SubO.nil))⟩
              (conv => whnf); repeat' (first | exact trivial | (refine ⟨rfl, ?_⟩; conv => whnf))
          · have h0 : w2.length = 0 := (by simp only [sz_dL, decide_eq_true_eq, decide_eq_false_iff_not, beq_iff_eq, beq_eq_false_iff_ne, List.length_map, Bool.not_eq_true', Bool.not_eq_false', ne_eq] at *; omega)
            have e0 : w2 = [] := List.eq_nil_of_length_eq_zero h0
            subst e0
            repeat' (first | (refine AWP.seq ?_) | (refine AWP.region av_ok ?_; conv => whnf) | (refine AWP.ret ?_; conv => whnf) | (refine AWP.skip ?_; conv => whnf) | (refine AWP.exit ?_; conv => whnf) | (refine AWP.block ?_; conv => whnf) | (refine AWP.cond ?_; conv => whnf) | (refine AB.tt ?_; conv => whnf) | (refine AB.ff ?_; conv => whnf) | (refine AB.ofT (by assumption) ?_; conv => whnf) | (refine AB.ofF (by assumption) ?_; conv => whnf) | (refine ACall.pure tp rfl ?_; conv => whnf) | (exact trivial) | (refine And.intro rfl ?_; conv => whnf) | (refine AB.mk (fun h => ?_) (fun h => ?_) <;> (conv => whnf)) | (with_reducible_and_instances rfl) | (exact (rfl : AP.tup _ = AP.tup _)))
        | succ k =>
          repeat' (first | (refine AWP.seq ?_) | (refine AWP.region av_ok ?_; conv => whnf) | (refine AWP.ret ?_; conv => whnf) | (refine AWP.skip ?_; conv => whnf) | (refine AWP.exit ?_; conv => whnf) | (refine AWP.block ?_; conv => whnf) | (refine AWP.cond ?_; conv => whnf) | (refine AB.tt ?_; conv => whnf) | (refine AB.ff ?_; conv => whnf) | (refine AB.ofT (by assumption) ?_; conv => whnf) | (refine AB.ofF (by assumption) ?_; conv => whnf) | (refine AIx.at 1 _ rfl rfl ?_; conv => whnf) | (refine AIx.at 2 _ rfl rfl ?_; conv => whnf) | (refine And.intro rfl ?_; conv => whnf))
          refine AB.mk (fun h => ?_) (fun h => ?_) <;> (conv => whnf)
          · have hlt : k + 1 < w2.length := (by simp only [sz_dL, decide_eq_true_eq, decide_eq_false_iff_not, beq_iff_eq, beq_eq_false_iff_ne, List.length_map, Bool.not_eq_true', Bool.not_eq_false', ne_eq] at *; omega)
            have hb : w2[k + 1].toNat ≤ 255 := by have := w2[k + 1].toNat_lt; omega
            have hrow : ((w2.take (k + 1)).map fun b => (b.toNat : Int) - 48).map eI ++ [[dI ((w2[k + 1].toNat : Int) - 48)]] = ((w2.take (k + 1 + 1)).map fun b => (b.toNat : Int) - 48).map eI := by
              rw [← List.take_append_getElem hlt, List.map_append, List.map_append]; rfl
            repeat' (first | (refine AWP.seq ?_) | (refine AWP.region av_ok ?_; conv => whnf) | (refine AWP.ret ?_; conv => whnf) | (refine AWP.skip ?_; conv => whnf) | (refine AWP.exit ?_; conv => whnf) | (refine AWP.block ?_; conv => whnf) | (refine AWP.cond ?_; conv => whnf) | (refine AB.tt ?_; conv => whnf) | (refine AB.ff ?_; conv => whnf) | (refine AB.ofT (by assumption) ?_; conv => whnf) | (refine AB.ofF (by assumption) ?_; conv => whnf) | (refine And.intro rfl ?_; conv => whnf))
            refine' AWP.draw av_ok 10 [[], [0], [], [2], [2, 3], [], [5, 3, 2, 4], [4, 2, 3, 5, 6], [6, 5, 3, 2, 4, 7], [7, 4, 2, 3, 5, 6, 8], [8, 6, 5, 3, 2, 4, 7, 9, 0, 1], [10, 9, 8, 7, 6, 5, 4, 3, 2, 1, 0], [0, 1, 2, 3, 4, 5, 6, 7, 8, 9, 10, 11]] [(_, _), (_, _), (_, _), (_, _), (_, _), (_, _), (_, _), (_, _), (_, _), (_, _)] ?hD ?hok ?hl ?hf ?hno ?ht
            case hD => kernel_rfl
            case hok => kernel_rfl
            case hl => rfl
            case hf => (conv => whnf); repeat' (first | (refine ⟨rfl, rfl⟩) | exact trivial | (refine AIx.at 2 _ rfl rfl ?_; conv => whnf) | (refine ⟨k + 1, w2[k + 1]'hlt, rfl, sget hlt, ?_⟩; conv => whnf) | (refine AW.i64 (by omega) (by omega) ?_; conv => whnf) | (refine And.intro ?_ ?_ <;> conv => whnf))
            case hno => rfl
            case ht =>
              (conv => whnf)
              repeat' (first | (refine AWP.seq ?_) | (refine AWP.region av_ok ?_; conv => whnf) | (refine AWP.ret ?_; conv => whnf) | (refine AWP.skip ?_; conv => whnf) | (refine AWP.exit ?_; conv => whnf) | (refine AWP.block ?_; conv => whnf) | (refine AWP.cond ?_; conv => whnf) | (refine AB.tt ?_; conv => whnf) | (refine AB.ff ?_; conv => whnf) | (refine AB.ofT (by assumption) ?_; conv => whnf) | (refine AB.ofF (by assumption) ?_; conv => whnf) | (refine AW.i64 (by simp only [decide_eq_true_eq, decide_eq_false_iff_not, List.length_map, Bool.not_eq_true', Bool.not_eq_false'] at *; omega) (by simp only [decide_eq_true_eq, decide_eq_false_iff_not, List.length_map, Bool.not_eq_true', Bool.not_eq_false'] at *; omega) ?_; conv => whnf) | (refine all_len (by simp [eI]) ?_; conv => whnf) | (refine sz_app (by simp only [List.length_map, List.length_take, List.length_cons, List.length_nil]; omega) ?_; conv => whnf) | (exact trivial) | (refine And.intro rfl ?_; conv => whnf))
              refine ANext.mk ⟨k + 2, hlt, by omega, ?_, SubO.cons rfl (SubO.cons rfl (SubO.cons (congrArg some (congrArg (AO.row 2 1) hrow)) SubO.nil))⟩
              (conv => whnf); repeat' (first | exact trivial | (refine ⟨rfl, ?_⟩; conv => whnf))
          · have h0 : k + 1 = w2.length := (by simp only [sz_dL, decide_eq_true_eq, decide_eq_false_iff_not, beq_iff_eq, beq_eq_false_iff_ne, List.length_map, Bool.not_eq_true', Bool.not_eq_false', ne_eq] at *; omega)
            have e0 : w2.take (k + 1) = w2 := by rw [h0, List.take_length]
            rw [← e0] at tp h3'
            repeat' (first | (refine AWP.seq ?_) | (refine AWP.region av_ok ?_; conv => whnf) | (refine AWP.ret ?_; conv => whnf) | (refine AWP.skip ?_; conv => whnf) | (refine AWP.exit ?_; conv => whnf) | (refine AWP.block ?_; conv => whnf) | (refine AWP.cond ?_; conv => whnf) | (refine AB.tt ?_; conv => whnf) | (refine AB.ff ?_; conv => whnf) | (refine AB.ofT (by assumption) ?_; conv => whnf) | (refine AB.ofF (by assumption) ?_; conv => whnf) | (refine ACall.scalar tp rfl rfl ?_; conv => whnf) | (exact trivial) | (refine And.intro rfl ?_; conv => whnf) | (refine AB.mk (fun h => ?_) (fun h => ?_) <;> (conv => whnf)) | (with_reducible_and_instances rfl) | (exact (rfl : AP.tup _ = AP.tup _)))
end Go.Proofs.YtlhanpkfnhnegaaDoor
/- TextStep: the reference whole. -/
namespace Go.Proofs.YtlhanpkfnhnegaaDoor
open Go.RowKit

theorem sTextStep_p (l : List UInt8) : PCall av 48 [pL l] (pAns (sTextStepL l)) := by
  by_cases h160 : 160 < l.length
  · have e : sTextStepL l = (stpZ, false) := by unfold sTextStepL; rw [if_pos h160]
    rw [e]
    exact sTextStep_long l h160
  · obtain ⟨w0, r, hw⟩ := wordsL_split (c := 32) (s := l)
    have hl : l.length ≤ 160 := by omega
    have hd : (w0 :: r).getD 0 [] = w0 := rfl
    by_cases hc : stIx w0 < 1 ∨ (w0 :: r).length < 2
    · have e : sTextStepL l = (stpZ, false) := by unfold sTextStepL; rw [if_neg h160, hw, hd, if_pos hc]
      rw [e]
      exact sTextStep_none l w0 r hl hw hc
    · have e : sTextStepL l = stAns (sStepOf (stIx w0) (wordsL 32 l)) l := by unfold sTextStepL stAns; rw [if_neg h160, hw, hd, if_neg hc]
      rw [e]
      cases r with
      | nil => exact absurd (.inr (by simp)) hc
      | cons w1 r =>
        rw [hw]
        have hr := stIx_range w0
        generalize hk : stIx w0 = k at hr hc
        rcases kind_cases (k := k) (by omega) (by omega) with rfl | rfl | rfl | rfl | rfl | rfl | rfl | rfl | rfl | rfl | rfl
        · exact sTextStep_1 l w0 w1 r hl hw hk
        · exact sTextStep_2 l w0 w1 r hl hw hk
        · exact sTextStep_3 l w0 w1 r hl hw hk
        · exact sTextStep_4 l w0 w1 r hl hw hk
        · cases r with
          | nil => exact sTextStep_5n l w0 w1 hl hw hk
          | cons w2 r => exact sTextStep_5c l w0 w1 w2 r hl hw hk
        · exact sTextStep_6 l w0 w1 r hl hw hk
        · exact sTextStep_7 l w0 w1 r hl hw hk
        · exact sTextStep_8 l w0 w1 r hl hw hk
        · cases r with
          | nil => exact sTextStep_9n l w0 w1 [] hl hw hk rfl
          | cons w2 r => exact sTextStep_9c l w0 w1 (w2 :: r) hl hw hk w2 r rfl
        · cases r with
          | nil => exact sTextStep_10n l w0 w1 [] hl hw hk rfl
          | cons w2 r => exact sTextStep_10c l w0 w1 (w2 :: r) hl hw hk w2 r rfl
        · exact sTextStep_11 l w0 w1 r hl hw hk
end Go.Proofs.YtlhanpkfnhnegaaDoor
