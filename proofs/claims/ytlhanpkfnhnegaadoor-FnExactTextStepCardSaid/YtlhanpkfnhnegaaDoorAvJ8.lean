/- Joined by join.py: AvWJ AvWK AvWL AvWM AvWN AvWO AvWP -/
import Derived.Test.YtlhanpkfnhnegaaDoorAvJ7
import Derived.Test.YtlhanpkfnhnegaaDoorAvWE
import Derived.Test.YtlhanpkfnhnegaaDoorAvS8
set_option linter.unusedVariables false
set_option linter.unusedSimpArgs false
set_option maxRecDepth 100000
/- TextStep of the reference, by kinds. -/
namespace Go.Proofs.YtlhanpkfnhnegaaDoor
open Go.RowKit

/-- The reference's answer for the step that was read. -/
def stAns (x : DStep) (l : List UInt8) : DStep × Bool := if stepTextL x = l then (x, true) else (stpZ, false)
def pAns (y : DStep × Bool) : AP := .tup [.agg y.1.ds, .one (dB y.2)]
theorem ne_dec {a l : List UInt8} (h : a = l) : (!((⟨a.toArray⟩ : ByteArray).toList == (⟨l.toArray⟩ : ByteArray).toList)) = false := by rw [str_dec, decide_eq_true h]; rfl
theorem ne_dec' {a l : List UInt8} (h : ¬ a = l) : (!((⟨a.toArray⟩ : ByteArray).toList == (⟨l.toArray⟩ : ByteArray).toList)) = true := by rw [str_dec, decide_eq_false h]; rfl
theorem sTextStep_1 (l w0 w1 : List UInt8) (r : List (List UInt8)) (hl : l.length ≤ 160) (hw : wordsL 32 l = w0 :: w1 :: r) (hk : idxL kindsL w0 = 1) : PCall av 48 [pL l] (pAns (stAns ⟨1, numN w1, 0, 0, []⟩ l)) := by
  have hwl : ∀ w ∈ wordsL 32 l, w.length ≤ 2000000 := fun w h => by have := words_len w h; omega
  rw [hw] at hwl
  have sp := sl1Split_p l 32 (by omega)
  rw [hw] at sp
  have kp := sl1At_p kindsL w0 (by decide)
  rw [hk] at kp
  have hlt : decide (((⟨l.toArray⟩ : ByteArray).size : Int) > 160) = false := by rw [sz_dL]; simp; omega
  have h2 : decide ((((w0 :: w1 :: r).map eS).length : Int) < 2) = false := by simp only [List.length_map, List.length_cons, decide_eq_false_iff_not]; omega
  have n1 := sl32Number_p w1 (hwl w1 (by simp))
  have o1 := sNodeOf_p w1
  have nd : PCall av 83 [pI 1] (rB false) := sl32Node_p 1
  have tp := sStepText_p ⟨1, numN w1, 0, 0, []⟩
  unfold stAns
  by_cases h3 : stepTextL ⟨1, numN w1, 0, 0, []⟩ = l
  · have h3' := ne_dec h3
    rw [if_pos h3]
    refine pcall_of av_ok Tryd.func48 rfl Tryd.call48 Tryd.ntmps48 (congrArg Array.toList Tryd.results48) fun S => ?_; conv => whnf
    repeat' (first | (refine AWP.seq ?_) | (refine AWP.region av_ok ?_; conv => whnf) | (refine AWP.ret ?_; conv => whnf) | (refine AWP.skip ?_; conv => whnf) | (refine AWP.exit ?_; conv => whnf) | (refine AWP.block ?_; conv => whnf) | (refine AWP.cond ?_; conv => whnf) | (refine AB.tt ?_; conv => whnf) | (refine AB.ff ?_; conv => whnf) | (refine AB.ofT (by assumption) ?_; conv => whnf) | (refine AB.ofF (by assumption) ?_; conv => whnf) | (refine ACall.pure sp rfl ?_; conv => whnf) | (exact trivial) | (refine And.intro rfl ?_; conv => whnf) | (refine AB.mk (fun h => ?_) (fun h => ?_) <;> (conv => whnf)) | (with_reducible_and_instances rfl) | (exact (rfl : AP.tup _ = AP.tup _)))
    refine' AWP.draw av_ok 7 [[], [], [1], [1, 2], [2, 1, 3, 0], [0, 3, 1, 2, 4], [], [4, 2, 1, 3, 0, 5, 6]] [(_, _), (_, _), (_, _), (_, _), (_, _), (_, _), (_, _)] ?hD ?hok ?hl ?hf ?hno ?ht
    case hD => kernel_rfl
    case hok => kernel_rfl
    case hl => rfl
    case hf => (conv => whnf); repeat' (first | (refine ⟨rfl, rfl⟩) | exact trivial | (refine AFCall.mk ⟨_, _, sl32Kinds_p, .inl rfl, ?_⟩; conv => whnf) | (refine AFCall.mk ⟨_, _, kp, .inl rfl, ?_⟩; conv => whnf) | (refine AIx.at 0 _ rfl rfl ?_; conv => whnf) | (refine And.intro ?_ ?_ <;> conv => whnf))
    case hno => rfl
    case ht =>
      (conv => whnf)
      repeat' (first | (refine AWP.seq ?_) | (refine AWP.region av_ok ?_; conv => whnf) | (refine AWP.ret ?_; conv => whnf) | (refine AWP.skip ?_; conv => whnf) | (refine AWP.exit ?_; conv => whnf) | (refine AWP.block ?_; conv => whnf) | (refine AWP.cond ?_; conv => whnf) | (refine AB.tt ?_; conv => whnf) | (refine AB.ff ?_; conv => whnf) | (refine AB.ofT (by assumption) ?_; conv => whnf) | (refine AB.ofF (by assumption) ?_; conv => whnf) | (refine AIx.at 1 _ rfl rfl ?_; conv => whnf) | (refine AIx.at 2 _ rfl rfl ?_; conv => whnf) | (refine ACall.pure n1 rfl ?_; conv => whnf) | (refine ACall.pure o1 rfl ?_; conv => whnf) | (refine ACall.pure nd rfl ?_; conv => whnf) | (refine ACall.pure tp rfl ?_; conv => whnf) | (refine AB.ofT (by decide) ?_; conv => whnf) | (refine AB.ofF (by decide) ?_; conv => whnf) | (exact trivial) | (refine And.intro rfl ?_; conv => whnf) | (refine AB.mk (fun h => ?_) (fun h => ?_) <;> (conv => whnf)) | (with_reducible_and_instances rfl) | (exact (rfl : AP.tup _ = AP.tup _)))
  · have h3' := ne_dec' h3
    rw [if_neg h3]
    refine pcall_of av_ok Tryd.func48 rfl Tryd.call48 Tryd.ntmps48 (congrArg Array.toList Tryd.results48) fun S => ?_; conv => whnf
    repeat' (first | (refine AWP.seq ?_) | (refine AWP.region av_ok ?_; conv => whnf) | (refine AWP.ret ?_; conv => whnf) | (refine AWP.skip ?_; conv => whnf) | (refine AWP.exit ?_; conv => whnf) | (refine AWP.block ?_; conv => whnf) | (refine AWP.cond ?_; conv => whnf) | (refine AB.tt ?_; conv => whnf) | (refine AB.ff ?_; conv => whnf) | (refine AB.ofT (by assumption) ?_; conv => whnf) | (refine AB.ofF (by assumption) ?_; conv => whnf) | (refine ACall.pure sp rfl ?_; conv => whnf) | (exact trivial) | (refine And.intro rfl ?_; conv => whnf) | (refine AB.mk (fun h => ?_) (fun h => ?_) <;> (conv => whnf)) | (with_reducible_and_instances rfl) | (exact (rfl : AP.tup _ = AP.tup _)))
    refine' AWP.draw av_ok 7 [[], [], [1], [1, 2], [2, 1, 3, 0], [0, 3, 1, 2, 4], [], [4, 2, 1, 3, 0, 5, 6]] [(_, _), (_, _), (_, _), (_, _), (_, _), (_, _), (_, _)] ?hD ?hok ?hl ?hf ?hno ?ht
    case hD => kernel_rfl
    case hok => kernel_rfl
    case hl => rfl
    case hf => (conv => whnf); repeat' (first | (refine ⟨rfl, rfl⟩) | exact trivial | (refine AFCall.mk ⟨_, _, sl32Kinds_p, .inl rfl, ?_⟩; conv => whnf) | (refine AFCall.mk ⟨_, _, kp, .inl rfl, ?_⟩; conv => whnf) | (refine AIx.at 0 _ rfl rfl ?_; conv => whnf) | (refine And.intro ?_ ?_ <;> conv => whnf))
    case hno => rfl
    case ht =>
      (conv => whnf)
      repeat' (first | (refine AWP.seq ?_) | (refine AWP.region av_ok ?_; conv => whnf) | (refine AWP.ret ?_; conv => whnf) | (refine AWP.skip ?_; conv => whnf) | (refine AWP.exit ?_; conv => whnf) | (refine AWP.block ?_; conv => whnf) | (refine AWP.cond ?_; conv => whnf) | (refine AB.tt ?_; conv => whnf) | (refine AB.ff ?_; conv => whnf) | (refine AB.ofT (by assumption) ?_; conv => whnf) | (refine AB.ofF (by assumption) ?_; conv => whnf) | (refine AIx.at 1 _ rfl rfl ?_; conv => whnf) | (refine AIx.at 2 _ rfl rfl ?_; conv => whnf) | (refine ACall.pure n1 rfl ?_; conv => whnf) | (refine ACall.pure o1 rfl ?_; conv => whnf) | (refine ACall.pure nd rfl ?_; conv => whnf) | (refine ACall.pure tp rfl ?_; conv => whnf) | (refine AB.ofT (by decide) ?_; conv => whnf) | (refine AB.ofF (by decide) ?_; conv => whnf) | (exact trivial) | (refine And.intro rfl ?_; conv => whnf) | (refine AB.mk (fun h => ?_) (fun h => ?_) <;> (conv => whnf)) | (with_reducible_and_instances rfl) | (exact (rfl : AP.tup _ = AP.tup _)))
theorem sTextStep_7 (l w0 w1 : List UInt8) (r : List (List UInt8)) (hl : l.length ≤ 160) (hw : wordsL 32 l = w0 :: w1 :: r) (hk : idxL kindsL w0 = 7) : PCall av 48 [pL l] (pAns (stAns ⟨7, numN w1, 0, 0, []⟩ l)) := by
  have hwl : ∀ w ∈ wordsL 32 l, w.length ≤ 2000000 := fun w h => by have := words_len w h; omega
  rw [hw] at hwl
  have sp := sl1Split_p l 32 (by omega)
  rw [hw] at sp
  have kp := sl1At_p kindsL w0 (by decide)
  rw [hk] at kp
  have hlt : decide (((⟨l.toArray⟩ : ByteArray).size : Int) > 160) = false := by rw [sz_dL]; simp; omega
  have h2 : decide ((((w0 :: w1 :: r).map eS).length : Int) < 2) = false := by simp only [List.length_map, List.length_cons, decide_eq_false_iff_not]; omega
  have n1 := sl32Number_p w1 (hwl w1 (by simp))
  have o1 := sNodeOf_p w1
  have nd : PCall av 83 [pI 7] (rB false) := sl32Node_p 7
  have tp := sStepText_p ⟨7, numN w1, 0, 0, []⟩
  unfold stAns
  by_cases h3 : stepTextL ⟨7, numN w1, 0, 0, []⟩ = l
  · have h3' := ne_dec h3
    rw [if_pos h3]
    refine pcall_of av_ok Tryd.func48 rfl Tryd.call48 Tryd.ntmps48 (congrArg Array.toList Tryd.results48) fun S => ?_; conv => whnf
    repeat' (first | (refine AWP.seq ?_) | (refine AWP.region av_ok ?_; conv => whnf) | (refine AWP.ret ?_; conv => whnf) | (refine AWP.skip ?_; conv => whnf) | (refine AWP.exit ?_; conv => whnf) | (refine AWP.block ?_; conv => whnf) | (refine AWP.cond ?_; conv => whnf) | (refine AB.tt ?_; conv => whnf) | (refine AB.ff ?_; conv => whnf) | (refine AB.ofT (by assumption) ?_; conv => whnf) | (refine AB.ofF (by assumption) ?_; conv => whnf) | (refine ACall.pure sp rfl ?_; conv => whnf) | (exact trivial) | (refine And.intro rfl ?_; conv => whnf) | (refine AB.mk (fun h => ?_) (fun h => ?_) <;> (conv => whnf)) | (with_reducible_and_instances rfl) | (exact (rfl : AP.tup _ = AP.tup _)))
    refine' AWP.draw av_ok 7 [[], [], [1], [1, 2], [2, 1, 3, 0], [0, 3, 1, 2, 4], [], [4, 2, 1, 3, 0, 5, 6]] [(_, _), (_, _), (_, _), (_, _), (_, _), (_, _), (_, _)] ?hD ?hok ?hl ?hf ?hno ?ht
    case hD => kernel_rfl
    case hok => kernel_rfl
    case hl => rfl
    case hf => (conv => whnf); repeat' (first | (refine ⟨rfl, rfl⟩) | exact trivial | (refine AFCall.mk ⟨_, _, sl32Kinds_p, .inl rfl, ?_⟩; conv => whnf) | (refine AFCall.mk ⟨_, _, kp, .inl rfl, ?_⟩; conv => whnf) | (refine AIx.at 0 _ rfl rfl ?_; conv => whnf) | (refine And.intro ?_ ?_ <;> conv => whnf))
    case hno => rfl
    case ht =>
      (conv => whnf)
      repeat' (first | (refine AWP.seq ?_) | (refine AWP.region av_ok ?_; conv => whnf) | (refine AWP.ret ?_; conv => whnf) | (refine AWP.skip ?_; conv => whnf) | (refine AWP.exit ?_; conv => whnf) | (refine AWP.block ?_; conv => whnf) | (refine AWP.cond ?_; conv => whnf) | (refine AB.tt ?_; conv => whnf) | (refine AB.ff ?_; conv => whnf) | (refine AB.ofT (by assumption) ?_; conv => whnf) | (refine AB.ofF (by assumption) ?_; conv => whnf) | (refine AIx.at 1 _ rfl rfl ?_; conv => whnf) | (refine AIx.at 2 _ rfl rfl ?_; conv => whnf) | (refine ACall.pure n1 rfl ?_; conv => whnf) | (refine ACall.pure o1 rfl ?_; conv => whnf) | (refine ACall.pure nd rfl ?_; conv => whnf) | (refine ACall.pure tp rfl ?_; conv => whnf) | (refine AB.ofT (by decide) ?_; conv => whnf) | (refine AB.ofF (by decide) ?_; conv => whnf) | (exact trivial) | (refine And.intro rfl ?_; conv => whnf) | (refine AB.mk (fun h => ?_) (fun h => ?_) <;> (conv => whnf)) | (with_reducible_and_instances rfl) | (exact (rfl : AP.tup _ = AP.tup _)))
  · have h3' := ne_dec' h3
    rw [if_neg h3]
    refine pcall_of av_ok Tryd.func48 rfl Tryd.call48 Tryd.ntmps48 (congrArg Array.toList Tryd.results48) fun S => ?_; conv => whnf
    repeat' (first | (refine AWP.seq ?_) | (refine AWP.region av_ok ?_; conv => whnf) | (refine AWP.ret ?_; conv => whnf) | (refine AWP.skip ?_; conv => whnf) | (refine AWP.exit ?_; conv => whnf) | (refine AWP.block ?_; conv => whnf) | (refine AWP.cond ?_; conv => whnf) | (refine AB.tt ?_; conv => whnf) | (refine AB.ff ?_; conv => whnf) | (refine AB.ofT (by assumption) ?_; conv => whnf) | (refine AB.ofF (by assumption) ?_; conv => whnf) | (refine ACall.pure sp rfl ?_; conv => whnf) | (exact trivial) | (refine And.intro rfl ?_; conv => whnf) | (refine AB.mk (fun h => ?_) (fun h => ?_) <;> (conv => whnf)) | (with_reducible_and_instances rfl) | (exact (rfl : AP.tup _ = AP.tup _)))
    refine' AWP.draw av_ok 7 [[], [], [1], [1, 2], [2, 1, 3, 0], [0, 3, 1, 2, 4], [], [4, 2, 1, 3, 0, 5, 6]] [(_, _), (_, _), (_, _), (_, _), (_, _), (_, _), (_, _)] ?hD ?hok ?hl ?hf ?hno ?ht
    case hD => kernel_rfl
    case hok => kernel_rfl
    case hl => rfl
    case hf => (conv => whnf); repeat' (first | (refine ⟨rfl, rfl⟩) | exact trivial | (refine AFCall.mk ⟨_, _, sl32Kinds_p, .inl rfl, ?_⟩; conv => whnf) | (refine AFCall.mk ⟨_, _, kp, .inl rfl, ?_⟩; conv => whnf) | (refine AIx.at 0 _ rfl rfl ?_; conv => whnf) | (refine And.intro ?_ ?_ <;> conv => whnf))
    case hno => rfl
    case ht =>
      (conv => whnf)
      repeat' (first | (refine AWP.seq ?_) | (refine AWP.region av_ok ?_; conv => whnf) | (refine AWP.ret ?_; conv => whnf) | (refine AWP.skip ?_; conv => whnf) | (refine AWP.exit ?_; conv => whnf) | (refine AWP.block ?_; conv => whnf) | (refine AWP.cond ?_; conv => whnf) | (refine AB.tt ?_; conv => whnf) | (refine AB.ff ?_; conv => whnf) | (refine AB.ofT (by assumption) ?_; conv => whnf) | (refine AB.ofF (by assumption) ?_; conv => whnf) | (refine AIx.at 1 _ rfl rfl ?_; conv => whnf) | (refine AIx.at 2 _ rfl rfl ?_; conv => whnf) | (refine ACall.pure n1 rfl ?_; conv => whnf) | (refine ACall.pure o1 rfl ?_; conv => whnf) | (refine ACall.pure nd rfl ?_; conv => whnf) | (refine ACall.pure tp rfl ?_; conv => whnf) | (refine AB.ofT (by decide) ?_; conv => whnf) | (refine AB.ofF (by decide) ?_; conv => whnf) | (exact trivial) | (refine And.intro rfl ?_; conv => whnf) | (refine AB.mk (fun h => ?_) (fun h => ?_) <;> (conv => whnf)) | (with_reducible_and_instances rfl) | (exact (rfl : AP.tup _ = AP.tup _)))
theorem sTextStep_8 (l w0 w1 : List UInt8) (r : List (List UInt8)) (hl : l.length ≤ 160) (hw : wordsL 32 l = w0 :: w1 :: r) (hk : idxL kindsL w0 = 8) : PCall av 48 [pL l] (pAns (stAns ⟨8, numN w1, 0, 0, []⟩ l)) := by
  have hwl : ∀ w ∈ wordsL 32 l, w.length ≤ 2000000 := fun w h => by have := words_len w h; omega
  rw [hw] at hwl
  have sp := sl1Split_p l 32 (by omega)
  rw [hw] at sp
  have kp := sl1At_p kindsL w0 (by decide)
  rw [hk] at kp
  have hlt : decide (((⟨l.toArray⟩ : ByteArray).size : Int) > 160) = false := by rw [sz_dL]; simp; omega
  have h2 : decide ((((w0 :: w1 :: r).map eS).length : Int) < 2) = false := by simp only [List.length_map, List.length_cons, decide_eq_false_iff_not]; omega
  have n1 := sl32Number_p w1 (hwl w1 (by simp))
  have o1 := sNodeOf_p w1
  have nd : PCall av 83 [pI 8] (rB false) := sl32Node_p 8
  have tp := sStepText_p ⟨8, numN w1, 0, 0, []⟩
  unfold stAns
  by_cases h3 : stepTextL ⟨8, numN w1, 0, 0, []⟩ = l
  · have h3' := ne_dec h3
    rw [if_pos h3]
    refine pcall_of av_ok Tryd.func48 rfl Tryd.call48 Tryd.ntmps48 (congrArg Array.toList Tryd.results48) fun S => ?_; conv => whnf
    repeat' (first | (refine AWP.seq ?_) | (refine AWP.region av_ok ?_; conv => whnf) | (refine AWP.ret ?_; conv => whnf) | (refine AWP.skip ?_; conv => whnf) | (refine AWP.exit ?_; conv => whnf) | (refine AWP.block ?_; conv => whnf) | (refine AWP.cond ?_; conv => whnf) | (refine AB.tt ?_; conv => whnf) | (refine AB.ff ?_; conv => whnf) | (refine AB.ofT (by assumption) ?_; conv => whnf) | (refine AB.ofF (by assumption) ?_; conv => whnf) | (refine ACall.pure sp rfl ?_; conv => whnf) | (exact trivial) | (refine And.intro rfl ?_; conv => whnf) | (refine AB.mk (fun h => ?_) (fun h => ?_) <;> (conv => whnf)) | (with_reducible_and_instances rfl) | (exact (rfl : AP.tup _ = AP.tup _)))
    refine' AWP.draw av_ok 7 [[], [], [1], [1, 2], [2, 1, 3, 0], [0, 3, 1, 2, 4], [], [4, 2, 1, 3, 0, 5, 6]] [(_, _), (_, _), (_, _), (_, _), (_, _), (_, _), (_, _)] ?hD ?hok ?hl ?hf ?hno ?ht
    case hD => kernel_rfl
    case hok => kernel_rfl
    case hl => rfl
    case hf => (conv => whnf); repeat' (first | (refine ⟨rfl, rfl⟩) | exact trivial | (refine AFCall.mk ⟨_, _, sl32Kinds_p, .inl rfl, ?_⟩; conv => whnf) | (refine AFCall.mk ⟨_, _, kp, .inl rfl, ?_⟩; conv => whnf) | (refine AIx.at 0 _ rfl rfl ?_; conv => whnf) | (refine And.intro ?_ ?_ <;> conv => whnf))
    case hno => rfl
    case ht =>
      (conv => whnf)
      repeat' (first | (refine AWP.seq ?_) | (refine AWP.region av_ok ?_; conv => whnf) | (refine AWP.ret ?_; conv => whnf) | (refine AWP.skip ?_; conv => whnf) | (refine AWP.exit ?_; conv => whnf) | (refine AWP.block ?_; conv => whnf) | (refine AWP.cond ?_; conv => whnf) | (refine AB.tt ?_; conv => whnf) | (refine AB.ff ?_; conv => whnf) | (refine AB.ofT (by assumption) ?_; conv => whnf) | (refine AB.ofF (by assumption) ?_; conv => whnf) | (refine AIx.at 1 _ rfl rfl ?_; conv => whnf) | (refine AIx.at 2 _ rfl rfl ?_; conv => whnf) | (refine ACall.pure n1 rfl ?_; conv => whnf) | (refine ACall.pure o1 rfl ?_; conv => whnf) | (refine ACall.pure nd rfl ?_; conv => whnf) | (refine ACall.pure tp rfl ?_; conv => whnf) | (refine AB.ofT (by decide) ?_; conv => whnf) | (refine AB.ofF (by decide) ?_; conv => whnf) | (exact trivial) | (refine And.intro rfl ?_; conv => whnf) | (refine AB.mk (fun h => ?_) (fun h => ?_) <;> (conv => whnf)) | (with_reducible_and_instances rfl) | (exact (rfl : AP.tup _ = AP.tup _)))
  · have h3' := ne_dec' h3
    rw [if_neg h3]
    refine pcall_of av_ok Tryd.func48 rfl Tryd.call48 Tryd.ntmps48 (congrArg Array.toList Tryd.results48) fun S => ?_; conv => whnf
    repeat' (first | (refine AWP.seq ?_) | (refine AWP.region av_ok ?_; conv => whnf) | (refine AWP.ret ?_; conv => whnf) | (refine AWP.skip ?_; conv => whnf) | (refine AWP.exit ?_; conv => whnf) | (refine AWP.block ?_; conv => whnf) | (refine AWP.cond ?_; conv => whnf) | (refine AB.tt ?_; conv => whnf) | (refine AB.ff ?_; conv => whnf) | (refine AB.ofT (by assumption) ?_; conv => whnf) | (refine AB.ofF (by assumption) ?_; conv => whnf) | (refine ACall.pure sp rfl ?_; conv => whnf) | (exact trivial) | (refine And.intro rfl ?_; conv => whnf) | (refine AB.mk (fun h => ?_) (fun h => ?_) <;> (conv => whnf)) | (with_reducible_and_instances rfl) | (exact (rfl : AP.tup _ = AP.tup _)))
    refine' AWP.draw av_ok 7 [[], [], [1], [1, 2], [2, 1, 3, 0], [0, 3, 1, 2, 4], [], [4, 2, 1, 3, 0, 5, 6]] [(_, _), (_, _), (_, _), (_, _), (_, _), (_, _), (_, _)] ?hD ?hok ?hl ?hf ?hno ?ht
    case hD => kernel_rfl
    case hok => kernel_rfl
    case hl => rfl
    case hf => (conv => whnf); repeat' (first | (refine ⟨rfl, rfl⟩) | exact trivial | (refine AFCall.mk ⟨_, _, sl32Kinds_p, .inl rfl, ?_⟩; conv => whnf) | (refine AFCall.mk ⟨_, _, kp, .inl rfl, ?_⟩; conv => whnf) | (refine AIx.at 0 _ rfl rfl ?_; conv => whnf) | (refine And.intro ?_ ?_ <;> conv => whnf))
    case hno => rfl
    case ht =>
      (conv => whnf)
      repeat' (first | (refine AWP.seq ?_) | (refine AWP.region av_ok ?_; conv => whnf) | (refine AWP.ret ?_; conv => whnf) | (refine AWP.skip ?_; conv => whnf) | (refine AWP.exit ?_; conv => whnf) | (refine AWP.block ?_; conv => whnf) | (refine AWP.cond ?_; conv => whnf) | (refine AB.tt ?_; conv => whnf) | (refine AB.ff ?_; conv => whnf) | (refine AB.ofT (by assumption) ?_; conv => whnf) | (refine AB.ofF (by assumption) ?_; conv => whnf) | (refine AIx.at 1 _ rfl rfl ?_; conv => whnf) | (refine AIx.at 2 _ rfl rfl ?_; conv => whnf) | (refine ACall.pure n1 rfl ?_; conv => whnf) | (refine ACall.pure o1 rfl ?_; conv => whnf) | (refine ACall.pure nd rfl ?_; conv => whnf) | (refine ACall.pure tp rfl ?_; conv => whnf) | (refine AB.ofT (by decide) ?_; conv => whnf) | (refine AB.ofF (by decide) ?_; conv => whnf) | (exact trivial) | (refine And.intro rfl ?_; conv => whnf) | (refine AB.mk (fun h => ?_) (fun h => ?_) <;> (conv => whnf)) | (with_reducible_and_instances rfl) | (exact (rfl : AP.tup _ = AP.tup _)))
theorem sTextStep_2 (l w0 w1 : List UInt8) (r : List (List UInt8)) (hl : l.length ≤ 160) (hw : wordsL 32 l = w0 :: w1 :: r) (hk : idxL kindsL w0 = 2) : PCall av 48 [pL l] (pAns (stAns ⟨2, nodeIx w1, 0, 0, []⟩ l)) := by
  have hwl : ∀ w ∈ wordsL 32 l, w.length ≤ 2000000 := fun w h => by have := words_len w h; omega
  rw [hw] at hwl
  have sp := sl1Split_p l 32 (by omega)
  rw [hw] at sp
  have kp := sl1At_p kindsL w0 (by decide)
  rw [hk] at kp
  have hlt : decide (((⟨l.toArray⟩ : ByteArray).size : Int) > 160) = false := by rw [sz_dL]; simp; omega
  have h2 : decide ((((w0 :: w1 :: r).map eS).length : Int) < 2) = false := by simp only [List.length_map, List.length_cons, decide_eq_false_iff_not]; omega
  have n1 := sl32Number_p w1 (hwl w1 (by simp))
  have o1 := sNodeOf_p w1
  have nd : PCall av 83 [pI 2] (rB true) := sl32Node_p 2
  have tp := sStepText_p ⟨2, nodeIx w1, 0, 0, []⟩
  unfold stAns
  by_cases h3 : stepTextL ⟨2, nodeIx w1, 0, 0, []⟩ = l
  · have h3' := ne_dec h3
    rw [if_pos h3]
    refine pcall_of av_ok Tryd.func48 rfl Tryd.call48 Tryd.ntmps48 (congrArg Array.toList Tryd.results48) fun S => ?_; conv => whnf
    repeat' (first | (refine AWP.seq ?_) | (refine AWP.region av_ok ?_; conv => whnf) | (refine AWP.ret ?_; conv => whnf) | (refine AWP.skip ?_; conv => whnf) | (refine AWP.exit ?_; conv => whnf) | (refine AWP.block ?_; conv => whnf) | (refine AWP.cond ?_; conv => whnf) | (refine AB.tt ?_; conv => whnf) | (refine AB.ff ?_; conv => whnf) | (refine AB.ofT (by assumption) ?_; conv => whnf) | (refine AB.ofF (by assumption) ?_; conv => whnf) | (refine ACall.pure sp rfl ?_; conv => whnf) | (exact trivial) | (refine And.intro rfl ?_; conv => whnf) | (refine AB.mk (fun h => ?_) (fun h => ?_) <;> (conv => whnf)) | (with_reducible_and_instances rfl) | (exact (rfl : AP.tup _ = AP.tup _)))
    refine' AWP.draw av_ok 7 [[], [], [1], [1, 2], [2, 1, 3, 0], [0, 3, 1, 2, 4], [], [4, 2, 1, 3, 0, 5, 6]] [(_, _), (_, _), (_, _), (_, _), (_, _), (_, _), (_, _)] ?hD ?hok ?hl ?hf ?hno ?ht
    case hD => kernel_rfl
    case hok => kernel_rfl
    case hl => rfl
    case hf => (conv => whnf); repeat' (first | (refine ⟨rfl, rfl⟩) | exact trivial | (refine AFCall.mk ⟨_, _, sl32Kinds_p, .inl rfl, ?_⟩; conv => whnf) | (refine AFCall.mk ⟨_, _, kp, .inl rfl, ?_⟩; conv => whnf) | (refine AIx.at 0 _ rfl rfl ?_; conv => whnf) | (refine And.intro ?_ ?_ <;> conv => whnf))
    case hno => rfl
    case ht =>
      (conv => whnf)
      repeat' (first | (refine AWP.seq ?_) | (refine AWP.region av_ok ?_; conv => whnf) | (refine AWP.ret ?_; conv => whnf) | (refine AWP.skip ?_; conv => whnf) | (refine AWP.exit ?_; conv => whnf) | (refine AWP.block ?_; conv => whnf) | (refine AWP.cond ?_; conv => whnf) | (refine AB.tt ?_; conv => whnf) | (refine AB.ff ?_; conv => whnf) | (refine AB.ofT (by assumption) ?_; conv => whnf) | (refine AB.ofF (by assumption) ?_; conv => whnf) | (refine AIx.at 1 _ rfl rfl ?_; conv => whnf) | (refine AIx.at 2 _ rfl rfl ?_; conv => whnf) | (refine ACall.pure n1 rfl ?_; conv => whnf) | (refine ACall.pure o1 rfl ?_; conv => whnf) | (refine ACall.pure nd rfl ?_; conv => whnf) | (refine ACall.pure tp rfl ?_; conv => whnf) | (refine AB.ofT (by decide) ?_; conv => whnf) | (refine AB.ofF (by decide) ?_; conv => whnf) | (exact trivial) | (refine And.intro rfl ?_; conv => whnf) | (refine AB.mk (fun h => ?_) (fun h => ?_) <;> (conv => whnf)) | (with_reducible_and_instances rfl) | (exact (rfl : AP.tup _ = AP.tup _)))
  · have h3' := ne_dec' h3
    rw [if_neg h3]
    refine pcall_of av_ok Tryd.func48 rfl Tryd.call48 Tryd.ntmps48 (congrArg Array.toList Tryd.results48) fun S => ?_; conv => whnf
    repeat' (first | (refine AWP.seq ?_) | (refine AWP.region av_ok ?_; conv => whnf) | (refine AWP.ret ?_; conv => whnf) | (refine AWP.skip ?_; conv => whnf) | (refine AWP.exit ?_; conv => whnf) | (refine AWP.block ?_; conv => whnf) | (refine AWP.cond ?_; conv => whnf) | (refine AB.tt ?_; conv => whnf) | (refine AB.ff ?_; conv => whnf) | (refine AB.ofT (by assumption) ?_; conv => whnf) | (refine AB.ofF (by assumption) ?_; conv => whnf) | (refine ACall.pure sp rfl ?_; conv => whnf) | (exact trivial) | (refine And.intro rfl ?_; conv => whnf) | (refine AB.mk (fun h => ?_) (fun h => ?_) <;> (conv => whnf)) | (with_reducible_and_instances rfl) | (exact (rfl : AP.tup _ = AP.tup _)))
    refine' AWP.draw av_ok 7 [[], [], [1], [1, 2], [2, 1, 3, 0], [0, 3, 1, 2, 4], [], [4, 2, 1, 3, 0, 5, 6]] [(_, _), (_, _), (_, _), (_, _), (_, _), (_, _), (_, _)] ?hD ?hok ?hl ?hf ?hno ?ht
    case hD => kernel_rfl
    case hok => kernel_rfl
    case hl => rfl
    case hf => (conv => whnf); repeat' (first | (refine ⟨rfl, rfl⟩) | exact trivial | (refine AFCall.mk ⟨_, _, sl32Kinds_p, .inl rfl, ?_⟩; conv => whnf) | (refine AFCall.mk ⟨_, _, kp, .inl rfl, ?_⟩; conv => whnf) | (refine AIx.at 0 _ rfl rfl ?_; conv => whnf) | (refine And.intro ?_ ?_ <;> conv => whnf))
    case hno => rfl
    case ht =>
      (conv => whnf)
      repeat' (first | (refine AWP.seq ?_) | (refine AWP.region av_ok ?_; conv => whnf) | (refine AWP.ret ?_; conv => whnf) | (refine AWP.skip ?_; conv => whnf) | (refine AWP.exit ?_; conv => whnf) | (refine AWP.block ?_; conv => whnf) | (refine AWP.cond ?_; conv => whnf) | (refine AB.tt ?_; conv => whnf) | (refine AB.ff ?_; conv => whnf) | (refine AB.ofT (by assumption) ?_; conv => whnf) | (refine AB.ofF (by assumption) ?_; conv => whnf) | (refine AIx.at 1 _ rfl rfl ?_; conv => whnf) | (refine AIx.at 2 _ rfl rfl ?_; conv => whnf) | (refine ACall.pure n1 rfl ?_; conv => whnf) | (refine ACall.pure o1 rfl ?_; conv => whnf) | (refine ACall.pure nd rfl ?_; conv => whnf) | (refine ACall.pure tp rfl ?_; conv => whnf) | (refine AB.ofT (by decide) ?_; conv => whnf) | (refine AB.ofF (by decide) ?_; conv => whnf) | (exact trivial) | (refine And.intro rfl ?_; conv => whnf) | (refine AB.mk (fun h => ?_) (fun h => ?_) <;> (conv => whnf)) | (with_reducible_and_instances rfl) | (exact (rfl : AP.tup _ = AP.tup _)))
theorem sTextStep_6 (l w0 w1 : List UInt8) (r : List (List UInt8)) (hl : l.length ≤ 160) (hw : wordsL 32 l = w0 :: w1 :: r) (hk : idxL kindsL w0 = 6) : PCall av 48 [pL l] (pAns (stAns ⟨6, nodeIx w1, 0, 0, []⟩ l)) := by
  have hwl : ∀ w ∈ wordsL 32 l, w.length ≤ 2000000 := fun w h => by have := words_len w h; omega
  rw [hw] at hwl
  have sp := sl1Split_p l 32 (by omega)
  rw [hw] at sp
  have kp := sl1At_p kindsL w0 (by decide)
  rw [hk] at kp
  have hlt : decide (((⟨l.toArray⟩ : ByteArray).size : Int) > 160) = false := by rw [sz_dL]; simp; omega
  have h2 : decide ((((w0 :: w1 :: r).map eS).length : Int) < 2) = false := by simp only [List.length_map, List.length_cons, decide_eq_false_iff_not]; omega
  have n1 := sl32Number_p w1 (hwl w1 (by simp))
  have o1 := sNodeOf_p w1
  have nd : PCall av 83 [pI 6] (rB true) := sl32Node_p 6
  have tp := sStepText_p ⟨6, nodeIx w1, 0, 0, []⟩
  unfold stAns
  by_cases h3 : stepTextL ⟨6, nodeIx w1, 0, 0, []⟩ = l
  · have h3' := ne_dec h3
    rw [if_pos h3]
    refine pcall_of av_ok Tryd.func48 rfl Tryd.call48 Tryd.ntmps48 (congrArg Array.toList Tryd.results48) fun S => ?_; conv => whnf
    repeat' (first | (refine AWP.seq ?_) | (refine AWP.region av_ok ?_; conv => whnf) | (refine AWP.ret ?_; conv => whnf) | (refine AWP.skip ?_; conv => whnf) | (refine AWP.exit ?_; conv => whnf) | (refine AWP.block ?_; conv => whnf) | (refine AWP.cond ?_; conv => whnf) | (refine AB.tt ?_; conv => whnf) | (refine AB.ff ?_; conv => whnf) | (refine AB.ofT (by assumption) ?_; conv => whnf) | (refine AB.ofF (by assumption) ?_; conv => whnf) | (refine ACall.pure sp rfl ?_; conv => whnf) | (exact trivial) | (refine And.intro rfl ?_; conv => whnf) | (refine AB.mk (fun h => ?_) (fun h => ?_) <;> (conv => whnf)) | (with_reducible_and_instances rfl) | (exact (rfl : AP.tup _ = AP.tup _)))
    refine' AWP.draw av_ok 7 [[], [], [1], [1, 2], [2, 1, 3, 0], [0, 3, 1, 2, 4], [], [4, 2, 1, 3, 0, 5, 6]] [(_, _), (_, _), (_, _), (_, _), (_, _), (_, _), (_, _)] ?hD ?hok ?hl ?hf ?hno ?ht
    case hD => kernel_rfl
    case hok => kernel_rfl
    case hl => rfl
    case hf => (conv => whnf); repeat' (first | (refine ⟨rfl, rfl⟩) | exact trivial | (refine AFCall.mk ⟨_, _, sl32Kinds_p, .inl rfl, ?_⟩; conv => whnf) | (refine AFCall.mk ⟨_, _, kp, .inl rfl, ?_⟩; conv => whnf) | (refine AIx.at 0 _ rfl rfl ?_; conv => whnf) | (refine And.intro ?_ ?_ <;> conv => whnf))
    case hno => rfl
    case ht =>
      (conv => whnf)
      repeat' (first | (refine AWP.seq ?_) | (refine AWP.region av_ok ?_; conv => whnf) | (refine AWP.ret ?_; conv => whnf) | (refine AWP.skip ?_; conv => whnf) | (refine AWP.exit ?_; conv => whnf) | (refine AWP.block ?_; conv => whnf) | (refine AWP.cond ?_; conv => whnf) | (refine AB.tt ?_; conv => whnf) | (refine AB.ff ?_; conv => whnf) | (refine AB.ofT (by assumption) ?_; conv => whnf) | (refine AB.ofF (by assumption) ?_; conv => whnf) | (refine AIx.at 1 _ rfl rfl ?_; conv => whnf) | (refine AIx.at 2 _ rfl rfl ?_; conv => whnf) | (refine ACall.pure n1 rfl ?_; conv => whnf) | (refine ACall.pure o1 rfl ?_; conv => whnf) | (refine ACall.pure nd rfl ?_; conv => whnf) | (refine ACall.pure tp rfl ?_; conv => whnf) | (refine AB.ofT (by decide) ?_; conv => whnf) | (refine AB.ofF (by decide) ?_; conv => whnf) | (exact trivial) | (refine And.intro rfl ?_; conv => whnf) | (refine AB.mk (fun h => ?_) (fun h => ?_) <;> (conv => whnf)) | (with_reducible_and_instances rfl) | (exact (rfl : AP.tup _ = AP.tup _)))
  · have h3' := ne_dec' h3
    rw [if_neg h3]
    refine pcall_of av_ok Tryd.func48 rfl Tryd.call48 Tryd.ntmps48 (congrArg Array.toList Tryd.results48) fun S => ?_; conv => whnf
    repeat' (first | (refine AWP.seq ?_) | (refine AWP.region av_ok ?_; conv => whnf) | (refine AWP.ret ?_; conv => whnf) | (refine AWP.skip ?_; conv => whnf) | (refine AWP.exit ?_; conv => whnf) | (refine AWP.block ?_; conv => whnf) | (refine AWP.cond ?_; conv => whnf) | (refine AB.tt ?_; conv => whnf) | (refine AB.ff ?_; conv => whnf) | (refine AB.ofT (by assumption) ?_; conv => whnf) | (refine AB.ofF (by assumption) ?_; conv => whnf) | (refine ACall.pure sp rfl ?_; conv => whnf) | (exact trivial) | (refine And.intro rfl ?_; conv => whnf) | (refine AB.mk (fun h => ?_) (fun h => ?_) <;> (conv => whnf)) | (with_reducible_and_instances rfl) | (exact (rfl : AP.tup _ = AP.tup _)))
    refine' AWP.draw av_ok 7 [[], [], [1], [1, 2], [2, 1, 3, 0], [0, 3, 1, 2, 4], [], [4, 2, 1, 3, 0, 5, 6]] [(_, _), (_, _), (_, _), (_, _), (_, _), (_, _), (_, _)] ?hD ?hok ?hl ?hf ?hno ?ht
    case hD => kernel_rfl
    case hok => kernel_rfl
    case hl => rfl
    case hf => (conv => whnf); repeat' (first | (refine ⟨rfl, rfl⟩) | exact trivial | (refine AFCall.mk ⟨_, _, sl32Kinds_p, .inl rfl, ?_⟩; conv => whnf) | (refine AFCall.mk ⟨_, _, kp, .inl rfl, ?_⟩; conv => whnf) | (refine AIx.at 0 _ rfl rfl ?_; conv => whnf) | (refine And.intro ?_ ?_ <;> conv => whnf))
    case hno => rfl
    case ht =>
      (conv => whnf)
      repeat' (first | (refine AWP.seq ?_) | (refine AWP.region av_ok ?_; conv => whnf) | (refine AWP.ret ?_; conv => whnf) | (refine AWP.skip ?_; conv => whnf) | (refine AWP.exit ?_; conv => whnf) | (refine AWP.block ?_; conv => whnf) | (refine AWP.cond ?_; conv => whnf) | (refine AB.tt ?_; conv => whnf) | (refine AB.ff ?_; conv => whnf) | (refine AB.ofT (by assumption) ?_; conv => whnf) | (refine AB.ofF (by assumption) ?_; conv => whnf) | (refine AIx.at 1 _ rfl rfl ?_; conv => whnf) | (refine AIx.at 2 _ rfl rfl ?_; conv => whnf) | (refine ACall.pure n1 rfl ?_; conv => whnf) | (refine ACall.pure o1 rfl ?_; conv => whnf) | (refine ACall.pure nd rfl ?_; conv => whnf) | (refine ACall.pure tp rfl ?_; conv => whnf) | (refine AB.ofT (by decide) ?_; conv => whnf) | (refine AB.ofF (by decide) ?_; conv => whnf) | (exact trivial) | (refine And.intro rfl ?_; conv => whnf) | (refine AB.mk (fun h => ?_) (fun h => ?_) <;> (conv => whnf)) | (with_reducible_and_instances rfl) | (exact (rfl : AP.tup _ = AP.tup _)))
theorem sTextStep_3 (l w0 w1 : List UInt8) (r : List (List UInt8)) (hl : l.length ≤ 160) (hw : wordsL 32 l = w0 :: w1 :: r) (hk : idxL kindsL w0 = 3) : PCall av 48 [pL l] (pAns (stAns ⟨3, nodeIx w1, atN (w0 :: w1 :: r) 2, 0, []⟩ l)) := by
  have hwl : ∀ w ∈ wordsL 32 l, w.length ≤ 2000000 := fun w h => by have := words_len w h; omega
  rw [hw] at hwl
  have sp := sl1Split_p l 32 (by omega)
  rw [hw] at sp
  have kp := sl1At_p kindsL w0 (by decide)
  rw [hk] at kp
  have hlt : decide (((⟨l.toArray⟩ : ByteArray).size : Int) > 160) = false := by rw [sz_dL]; simp; omega
  have h2 : decide ((((w0 :: w1 :: r).map eS).length : Int) < 2) = false := by simp only [List.length_map, List.length_cons, decide_eq_false_iff_not]; omega
  have n1 := sl32Number_p w1 (hwl w1 (by simp))
  have o1 := sNodeOf_p w1
  have nd : PCall av 83 [pI 3] (rB true) := sl32Node_p 3
  have at2 := sl32At_p (w0 :: w1 :: r) 2 hwl
  have tp := sStepText_p ⟨3, nodeIx w1, atN (w0 :: w1 :: r) 2, 0, []⟩
  unfold stAns
  by_cases h3 : stepTextL ⟨3, nodeIx w1, atN (w0 :: w1 :: r) 2, 0, []⟩ = l
  · have h3' := ne_dec h3
    rw [if_pos h3]
    refine pcall_of av_ok Tryd.func48 rfl Tryd.call48 Tryd.ntmps48 (congrArg Array.toList Tryd.results48) fun S => ?_; conv => whnf
    repeat' (first | (refine AWP.seq ?_) | (refine AWP.region av_ok ?_; conv => whnf) | (refine AWP.ret ?_; conv => whnf) | (refine AWP.skip ?_; conv => whnf) | (refine AWP.exit ?_; conv => whnf) | (refine AWP.block ?_; conv => whnf) | (refine AWP.cond ?_; conv => whnf) | (refine AB.tt ?_; conv => whnf) | (refine AB.ff ?_; conv => whnf) | (refine AB.ofT (by assumption) ?_; conv => whnf) | (refine AB.ofF (by assumption) ?_; conv => whnf) | (refine ACall.pure sp rfl ?_; conv => whnf) | (exact trivial) | (refine And.intro rfl ?_; conv => whnf) | (refine AB.mk (fun h => ?_) (fun h => ?_) <;> (conv => whnf)) | (with_reducible_and_instances rfl) | (exact (rfl : AP.tup _ = AP.tup _)))
    refine' AWP.draw av_ok 7 [[], [], [1], [1, 2], [2, 1, 3, 0], [0, 3, 1, 2, 4], [], [4, 2, 1, 3, 0, 5, 6]] [(_, _), (_, _), (_, _), (_, _), (_, _), (_, _), (_, _)] ?hD ?hok ?hl ?hf ?hno ?ht
    case hD => kernel_rfl
    case hok => kernel_rfl
    case hl => rfl
    case hf => (conv => whnf); repeat' (first | (refine ⟨rfl, rfl⟩) | exact trivial | (refine AFCall.mk ⟨_, _, sl32Kinds_p, .inl rfl, ?_⟩; conv => whnf) | (refine AFCall.mk ⟨_, _, kp, .inl rfl, ?_⟩; conv => whnf) | (refine AIx.at 0 _ rfl rfl ?_; conv => whnf) | (refine And.intro ?_ ?_ <;> conv => whnf))
    case hno => rfl
    case ht =>
      (conv => whnf)
      repeat' (first | (refine AWP.seq ?_) | (refine AWP.region av_ok ?_; conv => whnf) | (refine AWP.ret ?_; conv => whnf) | (refine AWP.skip ?_; conv => whnf) | (refine AWP.exit ?_; conv => whnf) | (refine AWP.block ?_; conv => whnf) | (refine AWP.cond ?_; conv => whnf) | (refine AB.tt ?_; conv => whnf) | (refine AB.ff ?_; conv => whnf) | (refine AB.ofT (by assumption) ?_; conv => whnf) | (refine AB.ofF (by assumption) ?_; conv => whnf) | (refine AIx.at 1 _ rfl rfl ?_; conv => whnf) | (refine AIx.at 2 _ rfl rfl ?_; conv => whnf) | (refine ACall.pure n1 rfl ?_; conv => whnf) | (refine ACall.pure o1 rfl ?_; conv => whnf) | (refine ACall.pure nd rfl ?_; conv => whnf) | (refine ACall.pure at2 rfl ?_; conv => whnf) | (refine ACall.pure tp rfl ?_; conv => whnf) | (refine AB.ofT (by decide) ?_; conv => whnf) | (refine AB.ofF (by decide) ?_; conv => whnf) | (exact trivial) | (refine And.intro rfl ?_; conv => whnf) | (refine AB.mk (fun h => ?_) (fun h => ?_) <;> (conv => whnf)) | (with_reducible_and_instances rfl) | (exact (rfl : AP.tup _ = AP.tup _)))
  · have h3' := ne_dec' h3
    rw [if_neg h3]
    refine pcall_of av_ok Tryd.func48 rfl Tryd.call48 Tryd.ntmps48 (congrArg Array.toList Tryd.results48) fun S => ?_; conv => whnf
    repeat' (first | (refine AWP.seq ?_) | (refine AWP.region av_ok ?_; conv => whnf) | (refine AWP.ret ?_; conv => whnf) | (refine AWP.skip ?_; conv => whnf) | (refine AWP.exit ?_; conv => whnf) | (refine AWP.block ?_; conv => whnf) | (refine AWP.cond ?_; conv => whnf) | (refine AB.tt ?_; conv => whnf) | (refine AB.ff ?_; conv => whnf) | (refine AB.ofT (by assumption) ?_; conv => whnf) | (refine AB.ofF (by assumption) ?_; conv => whnf) | (refine ACall.pure sp rfl ?_; conv => whnf) | (exact trivial) | (refine And.intro rfl ?_; conv => whnf) | (refine AB.mk (fun h => ?_) (fun h => ?_) <;> (conv => whnf)) | (with_reducible_and_instances rfl) | (exact (rfl : AP.tup _ = AP.tup _)))
    refine' AWP.draw av_ok 7 [[], [], [1], [1, 2], [2, 1, 3, 0], [0, 3, 1, 2, 4], [], [4, 2, 1, 3, 0, 5, 6]] [(_, _), (_, _), (_, _), (_, _), (_, _), (_, _), (_, _)] ?hD ?hok ?hl ?hf ?hno ?ht
    case hD => kernel_rfl
    case hok => kernel_rfl
    case hl => rfl
    case hf => (conv => whnf); repeat' (first | (refine ⟨rfl, rfl⟩) | exact trivial | (refine AFCall.mk ⟨_, _, sl32Kinds_p, .inl rfl, ?_⟩; conv => whnf) | (refine AFCall.mk ⟨_, _, kp, .inl rfl, ?_⟩; conv => whnf) | (refine AIx.at 0 _ rfl rfl ?_; conv => whnf) | (refine And.intro ?_ ?_ <;> conv => whnf))
    case hno => rfl
    case ht =>
      (conv => whnf)
      repeat' (first | (refine AWP.seq ?_) | (refine AWP.region av_ok ?_; conv => whnf) | (refine AWP.ret ?_; conv => whnf) | (refine AWP.skip ?_; conv => whnf) | (refine AWP.exit ?_; conv => whnf) | (refine AWP.block ?_; conv => whnf) | (refine AWP.cond ?_; conv => whnf) | (refine AB.tt ?_; conv => whnf) | (refine AB.ff ?_; conv => whnf) | (refine AB.ofT (by assumption) ?_; conv => whnf) | (refine AB.ofF (by assumption) ?_; conv => whnf) | (refine AIx.at 1 _ rfl rfl ?_; conv => whnf) | (refine AIx.at 2 _ rfl rfl ?_; conv => whnf) | (refine ACall.pure n1 rfl ?_; conv => whnf) | (refine ACall.pure o1 rfl ?_; conv => whnf) | (refine ACall.pure nd rfl ?_; conv => whnf) | (refine ACall.pure at2 rfl ?_; conv => whnf) | (refine ACall.pure tp rfl ?_; conv => whnf) | (refine AB.ofT (by decide) ?_; conv => whnf) | (refine AB.ofF (by decide) ?_; conv => whnf) | (exact trivial) | (refine And.intro rfl ?_; conv => whnf) | (refine AB.mk (fun h => ?_) (fun h => ?_) <;> (conv => whnf)) | (with_reducible_and_instances rfl) | (exact (rfl : AP.tup _ = AP.tup _)))
theorem sTextStep_4 (l w0 w1 : List UInt8) (r : List (List UInt8)) (hl : l.length ≤ 160) (hw : wordsL 32 l = w0 :: w1 :: r) (hk : idxL kindsL w0 = 4) : PCall av 48 [pL l] (pAns (stAns ⟨4, nodeIx w1, atN (w0 :: w1 :: r) 2, 0, []⟩ l)) := by
  have hwl : ∀ w ∈ wordsL 32 l, w.length ≤ 2000000 := fun w h => by have := words_len w h; omega
  rw [hw] at hwl
  have sp := sl1Split_p l 32 (by omega)
  rw [hw] at sp
  have kp := sl1At_p kindsL w0 (by decide)
  rw [hk] at kp
  have hlt : decide (((⟨l.toArray⟩ : ByteArray).size : Int) > 160) = false := by rw [sz_dL]; simp; omega
  have h2 : decide ((((w0 :: w1 :: r).map eS).length : Int) < 2) = false := by simp only [List.length_map, List.length_cons, decide_eq_false_iff_not]; omega
  have n1 := sl32Number_p w1 (hwl w1 (by simp))
  have o1 := sNodeOf_p w1
  have nd : PCall av 83 [pI 4] (rB true) := sl32Node_p 4
  have at2 := sl32At_p (w0 :: w1 :: r) 2 hwl
  have tp := sStepText_p ⟨4, nodeIx w1, atN (w0 :: w1 :: r) 2, 0, []⟩
  unfold stAns
  by_cases h3 : stepTextL ⟨4, nodeIx w1, atN (w0 :: w1 :: r) 2, 0, []⟩ = l
  · have h3' := ne_dec h3
    rw [if_pos h3]
    refine pcall_of av_ok Tryd.func48 rfl Tryd.call48 Tryd.ntmps48 (congrArg Array.toList Tryd.results48) fun S => ?_; conv => whnf
    repeat' (first | (refine AWP.seq ?_) | (refine AWP.region av_ok ?_; conv => whnf) | (refine AWP.ret ?_; conv => whnf) | (refine AWP.skip ?_; conv => whnf) | (refine AWP.exit ?_; conv => whnf) | (refine AWP.block ?_; conv => whnf) | (refine AWP.cond ?_; conv => whnf) | (refine AB.tt ?_; conv => whnf) | (refine AB.ff ?_; conv => whnf) | (refine AB.ofT (by assumption) ?_; conv => whnf) | (refine AB.ofF (by assumption) ?_; conv => whnf) | (refine ACall.pure sp rfl ?_; conv => whnf) | (exact trivial) | (refine And.intro rfl ?_; conv => whnf) | (refine AB.mk (fun h => ?_) (fun h => ?_) <;> (conv => whnf)) | (with_reducible_and_instances rfl) | (exact (rfl : AP.tup _ = AP.tup _)))
    refine' AWP.draw av_ok 7 [[], [], [1], [1, 2], [2, 1, 3, 0], [0, 3, 1, 2, 4], [], [4, 2, 1, 3, 0, 5, 6]] [(_, _), (_, _), (_, _), (_, _), (_, _), (_, _), (_, _)] ?hD ?hok ?hl ?hf ?hno ?ht
    case hD => kernel_rfl
    case hok => kernel_rfl
    case hl => rfl
    case hf => (conv => whnf); repeat' (first | (refine ⟨rfl, rfl⟩) | exact trivial | (refine AFCall.mk ⟨_, _, sl32Kinds_p, .inl rfl, ?_⟩; conv => whnf) | (refine AFCall.mk ⟨_, _, kp, .inl rfl, ?_⟩; conv => whnf) | (refine AIx.at 0 _ rfl rfl ?_; conv => whnf) | (refine And.intro ?_ ?_ <;> conv => whnf))
    case hno => rfl
    case ht =>
      (conv => whnf)
      repeat' (first | (refine AWP.seq ?_) | (refine AWP.region av_ok ?_; conv => whnf) | (refine AWP.ret ?_; conv => whnf) | (refine AWP.skip ?_; conv => whnf) | (refine AWP.exit ?_; conv => whnf) | (refine AWP.block ?_; conv => whnf) | (refine AWP.cond ?_; conv => whnf) | (refine AB.tt ?_; conv => whnf) | (refine AB.ff ?_; conv => whnf) | (refine AB.ofT (by assumption) ?_; conv => whnf) | (refine AB.ofF (by assumption) ?_; conv => whnf) | (refine AIx.at 1 _ rfl rfl ?_; conv => whnf) | (refine AIx.at 2 _ rfl rfl ?_; conv => whnf) | (refine ACall.pure n1 rfl ?_; conv => whnf) | (refine ACall.pure o1 rfl ?_; conv => whnf) | (refine ACall.pure nd rfl ?_; conv => whnf) | (refine ACall.pure at2 rfl ?_; conv => whnf) | (refine ACall.pure tp rfl ?_; conv => whnf) | (refine AB.ofT (by decide) ?_; conv => whnf) | (refine AB.ofF (by decide) ?_; conv => whnf) | (exact trivial) | (refine And.intro rfl ?_; conv => whnf) | (refine AB.mk (fun h => ?_) (fun h => ?_) <;> (conv => whnf)) | (with_reducible_and_instances rfl) | (exact (rfl : AP.tup _ = AP.tup _)))
  · have h3' := ne_dec' h3
    rw [if_neg h3]
    refine pcall_of av_ok Tryd.func48 rfl Tryd.call48 Tryd.ntmps48 (congrArg Array.toList Tryd.results48) fun S => ?_; conv => whnf
    repeat' (first | (refine AWP.seq ?_) | (refine AWP.region av_ok ?_; conv => whnf) | (refine AWP.ret ?_; conv => whnf) | (refine AWP.skip ?_; conv => whnf) | (refine AWP.exit ?_; conv => whnf) | (refine AWP.block ?_; conv => whnf) | (refine AWP.cond ?_; conv => whnf) | (refine AB.tt ?_; conv => whnf) | (refine AB.ff ?_; conv => whnf) | (refine AB.ofT (by assumption) ?_; conv => whnf) | (refine AB.ofF (by assumption) ?_; conv => whnf) | (refine ACall.pure sp rfl ?_; conv => whnf) | (exact trivial) | (refine And.intro rfl ?_; conv => whnf) | (refine AB.mk (fun h => ?_) (fun h => ?_) <;> (conv => whnf)) | (with_reducible_and_instances rfl) | (exact (rfl : AP.tup _ = AP.tup _)))
    refine' AWP.draw av_ok 7 [[], [], [1], [1, 2], [2, 1, 3, 0], [0, 3, 1, 2, 4], [], [4, 2, 1, 3, 0, 5, 6]] [(_, _), (_, _), (_, _), (_, _), (_, _), (_, _), (_, _)] ?hD ?hok ?hl ?hf ?hno ?ht
    case hD => kernel_rfl
    case hok => kernel_rfl
    case hl => rfl
    case hf => (conv => whnf); repeat' (first | (refine ⟨rfl, rfl⟩) | exact trivial | (refine AFCall.mk ⟨_, _, sl32Kinds_p, .inl rfl, ?_⟩; conv => whnf) | (refine AFCall.mk ⟨_, _, kp, .inl rfl, ?_⟩; conv => whnf) | (refine AIx.at 0 _ rfl rfl ?_; conv => whnf) | (refine And.intro ?_ ?_ <;> conv => whnf))
    case hno => rfl
    case ht =>
      (conv => whnf)
      repeat' (first | (refine AWP.seq ?_) | (refine AWP.region av_ok ?_; conv => whnf) | (refine AWP.ret ?_; conv => whnf) | (refine AWP.skip ?_; conv => whnf) | (refine AWP.exit ?_; conv => whnf) | (refine AWP.block ?_; conv => whnf) | (refine AWP.cond ?_; conv => whnf) | (refine AB.tt ?_; conv => whnf) | (refine AB.ff ?_; conv => whnf) | (refine AB.ofT (by assumption) ?_; conv => whnf) | (refine AB.ofF (by assumption) ?_; conv => whnf) | (refine AIx.at 1 _ rfl rfl ?_; conv => whnf) | (refine AIx.at 2 _ rfl rfl ?_; conv => whnf) | (refine ACall.pure n1 rfl ?_; conv => whnf) | (refine ACall.pure o1 rfl ?_; conv => whnf) | (refine ACall.pure nd rfl ?_; conv => whnf) | (refine ACall.pure at2 rfl ?_; conv => whnf) | (refine ACall.pure tp rfl ?_; conv => whnf) | (refine AB.ofT (by decide) ?_; conv => whnf) | (refine AB.ofF (by decide) ?_; conv => whnf) | (exact trivial) | (refine And.intro rfl ?_; conv => whnf) | (refine AB.mk (fun h => ?_) (fun h => ?_) <;> (conv => whnf)) | (with_reducible_and_instances rfl) | (exact (rfl : AP.tup _ = AP.tup _)))
theorem sTextStep_11 (l w0 w1 : List UInt8) (r : List (List UInt8)) (hl : l.length ≤ 160) (hw : wordsL 32 l = w0 :: w1 :: r) (hk : idxL kindsL w0 = 11) : PCall av 48 [pL l] (pAns (stAns ⟨11, numN w1, atN (w0 :: w1 :: r) 2, atN (w0 :: w1 :: r) 3, []⟩ l)) := by
  have hwl : ∀ w ∈ wordsL 32 l, w.length ≤ 2000000 := fun w h => by have := words_len w h; omega
  rw [hw] at hwl
  have sp := sl1Split_p l 32 (by omega)
  rw [hw] at sp
  have kp := sl1At_p kindsL w0 (by decide)
  rw [hk] at kp
  have hlt : decide (((⟨l.toArray⟩ : ByteArray).size : Int) > 160) = false := by rw [sz_dL]; simp; omega
  have h2 : decide ((((w0 :: w1 :: r).map eS).length : Int) < 2) = false := by simp only [List.length_map, List.length_cons, decide_eq_false_iff_not]; omega
  have n1 := sl32Number_p w1 (hwl w1 (by simp))
  have o1 := sNodeOf_p w1
  have nd : PCall av 83 [pI 11] (rB false) := sl32Node_p 11
  have at2 := sl32At_p (w0 :: w1 :: r) 2 hwl
  have at3 := sl32At_p (w0 :: w1 :: r) 3 hwl
  have tp := sStepText_p ⟨11, numN w1, atN (w0 :: w1 :: r) 2, atN (w0 :: w1 :: r) 3, []⟩
  unfold stAns
  by_cases h3 : stepTextL ⟨11, numN w1, atN (w0 :: w1 :: r) 2, atN (w0 :: w1 :: r) 3, []⟩ = l
  · have h3' := ne_dec h3
    rw [if_pos h3]
    refine pcall_of av_ok Tryd.func48 rfl Tryd.call48 Tryd.ntmps48 (congrArg Array.toList Tryd.results48) fun S => ?_; conv => whnf
    repeat' (first | (refine AWP.seq ?_) | (refine AWP.region av_ok ?_; conv => whnf) | (refine AWP.ret ?_; conv => whnf) | (refine AWP.skip ?_; conv => whnf) | (refine AWP.exit ?_; conv => whnf) | (refine AWP.block ?_; conv => whnf) | (refine AWP.cond ?_; conv => whnf) | (refine AB.tt ?_; conv => whnf) | (refine AB.ff ?_; conv => whnf) | (refine AB.ofT (by assumption) ?_; conv => whnf) | (refine AB.ofF (by assumption) ?_; conv => whnf) | (refine ACall.pure sp rfl ?_; conv => whnf) | (exact trivial) | (refine And.intro rfl ?_; conv => whnf) | (refine AB.mk (fun h => ?_) (fun h => ?_) <;> (conv => whnf)) | (with_reducible_and_instances rfl) | (exact (rfl : AP.tup _ = AP.tup _)))
    refine' AWP.draw av_ok 7 [[], [], [1], [1, 2], [2, 1, 3, 0], [0, 3, 1, 2, 4], [], [4, 2, 1, 3, 0, 5, 6]] [(_, _), (_, _), (_, _), (_, _), (_, _), (_, _), (_, _)] ?hD ?hok ?hl ?hf ?hno ?ht
    case hD => kernel_rfl
    case hok => kernel_rfl
    case hl => rfl
    case hf => (conv => whnf); repeat' (first | (refine ⟨rfl, rfl⟩) | exact trivial | (refine AFCall.mk ⟨_, _, sl32Kinds_p, .inl rfl, ?_⟩; conv => whnf) | (refine AFCall.mk ⟨_, _, kp, .inl rfl, ?_⟩; conv => whnf) | (refine AIx.at 0 _ rfl rfl ?_; conv => whnf) | (refine And.intro ?_ ?_ <;> conv => whnf))
    case hno => rfl
    case ht =>
      (conv => whnf)
      repeat' (first | (refine AWP.seq ?_) | (refine AWP.region av_ok ?_; conv => whnf) | (refine AWP.ret ?_; conv => whnf) | (refine AWP.skip ?_; conv => whnf) | (refine AWP.exit ?_; conv => whnf) | (refine AWP.block ?_; conv => whnf) | (refine AWP.cond ?_; conv => whnf) | (refine AB.tt ?_; conv => whnf) | (refine AB.ff ?_; conv => whnf) | (refine AB.ofT (by assumption) ?_; conv => whnf) | (refine AB.ofF (by assumption) ?_; conv => whnf) | (refine AIx.at 1 _ rfl rfl ?_; conv => whnf) | (refine AIx.at 2 _ rfl rfl ?_; conv => whnf) | (refine ACall.pure n1 rfl ?_; conv => whnf) | (refine ACall.pure o1 rfl ?_; conv => whnf) | (refine ACall.pure nd rfl ?_; conv => whnf) | (refine ACall.pure at2 rfl ?_; conv => whnf) | (refine ACall.pure at3 rfl ?_; conv => whnf) | (refine ACall.pure tp rfl ?_; conv => whnf) | (refine AB.ofT (by decide) ?_; conv => whnf) | (refine AB.ofF (by decide) ?_; conv => whnf) | (exact trivial) | (refine And.intro rfl ?_; conv => whnf) | (refine AB.mk (fun h => ?_) (fun h => ?_) <;> (conv => whnf)) | (with_reducible_and_instances rfl) | (exact (rfl : AP.tup _ = AP.tup _)))
  · have h3' := ne_dec' h3
    rw [if_neg h3]
    refine pcall_of av_ok Tryd.func48 rfl Tryd.call48 Tryd.ntmps48 (congrArg Array.toList Tryd.results48) fun S => ?_; conv => whnf
    repeat' (first | (refine AWP.seq ?_) | (refine AWP.region av_ok ?_; conv => whnf) | (refine AWP.ret ?_; conv => whnf) | (refine AWP.skip ?_; conv => whnf) | (refine AWP.exit ?_; conv => whnf) | (refine AWP.block ?_; conv => whnf) | (refine AWP.cond ?_; conv => whnf) | (refine AB.tt ?_; conv => whnf) | (refine AB.ff ?_; conv => whnf) | (refine AB.ofT (by assumption) ?_; conv => whnf) | (refine AB.ofF (by assumption) ?_; conv => whnf) | (refine ACall.pure sp rfl ?_; conv => whnf) | (exact trivial) | (refine And.intro rfl ?_; conv => whnf) | (refine AB.mk (fun h => ?_) (fun h => ?_) <;> (conv => whnf)) | (with_reducible_and_instances rfl) | (exact (rfl : AP.tup _ = AP.tup _)))
    refine' AWP.draw av_ok 7 [[], [], [1], [1, 2], [2, 1, 3, 0], [0, 3, 1, 2, 4], [], [4, 2, 1, 3, 0, 5, 6]] [(_, _), (_, _), (_, _), (_, _), (_, _), (_, _), (_, _)] ?hD ?hok ?hl ?hf ?hno ?ht
    case hD => kernel_rfl
    case hok => kernel_rfl
    case hl => rfl
    case hf => (conv => whnf); repeat' (first | (refine ⟨rfl, rfl⟩) | exact trivial | (refine AFCall.mk ⟨_, _, sl32Kinds_p, .inl rfl, ?_⟩; conv => whnf) | (refine AFCall.mk ⟨_, _, kp, .inl rfl, ?_⟩; conv => whnf) | (refine AIx.at 0 _ rfl rfl ?_; conv => whnf) | (refine And.intro ?_ ?_ <;> conv => whnf))
    case hno => rfl
    case ht =>
      (conv => whnf)
      repeat' (first | (refine AWP.seq ?_) | (refine AWP.region av_ok ?_; conv => whnf) | (refine AWP.ret ?_; conv => whnf) | (refine AWP.skip ?_; conv => whnf) | (refine AWP.exit ?_; conv => whnf) | (refine AWP.block ?_; conv => whnf) | (refine AWP.cond ?_; conv => whnf) | (refine AB.tt ?_; conv => whnf) | (refine AB.ff ?_; conv => whnf) | (refine AB.ofT (by assumption) ?_; conv => whnf) | (refine AB.ofF (by assumption) ?_; conv => whnf) | (refine AIx.at 1 _ rfl rfl ?_; conv => whnf) | (refine AIx.at 2 _ rfl rfl ?_; conv => whnf) | (refine ACall.pure n1 rfl ?_; conv => whnf) | (refine ACall.pure o1 rfl ?_; conv => whnf) | (refine ACall.pure nd rfl ?_; conv => whnf) | (refine ACall.pure at2 rfl ?_; conv => whnf) | (refine ACall.pure at3 rfl ?_; conv => whnf) | (refine ACall.pure tp rfl ?_; conv => whnf) | (refine AB.ofT (by decide) ?_; conv => whnf) | (refine AB.ofF (by decide) ?_; conv => whnf) | (exact trivial) | (refine And.intro rfl ?_; conv => whnf) | (refine AB.mk (fun h => ?_) (fun h => ?_) <;> (conv => whnf)) | (with_reducible_and_instances rfl) | (exact (rfl : AP.tup _ = AP.tup _)))
theorem sTextStep_9n (l w0 w1 : List UInt8) (r : List (List UInt8)) (hl : l.length ≤ 160) (hw : wordsL 32 l = w0 :: w1 :: r) (hk : idxL kindsL w0 = 9) (hr : r = []) : PCall av 48 [pL l] (pAns (stAns ⟨9, nodeIx w1, -1, 0, []⟩ l)) := by
  have hwl : ∀ w ∈ wordsL 32 l, w.length ≤ 2000000 := fun w h => by have := words_len w h; omega
  rw [hw] at hwl
  have sp := sl1Split_p l 32 (by omega)
  rw [hw] at sp
  have kp := sl1At_p kindsL w0 (by decide)
  rw [hk] at kp
  have hlt : decide (((⟨l.toArray⟩ : ByteArray).size : Int) > 160) = false := by rw [sz_dL]; simp; omega
  have h2 : decide ((((w0 :: w1 :: r).map eS).length : Int) < 2) = false := by simp only [List.length_map, List.length_cons, decide_eq_false_iff_not]; omega
  have n1 := sl32Number_p w1 (hwl w1 (by simp))
  have o1 := sNodeOf_p w1
  have nd : PCall av 83 [pI 9] (rB true) := sl32Node_p 9
  subst hr
  have tp := sStepText_p ⟨9, nodeIx w1, -1, 0, []⟩
  unfold stAns
  by_cases h3 : stepTextL ⟨9, nodeIx w1, -1, 0, []⟩ = l
  · have h3' := ne_dec h3
    rw [if_pos h3]
    refine pcall_of av_ok Tryd.func48 rfl Tryd.call48 Tryd.ntmps48 (congrArg Array.toList Tryd.results48) fun S => ?_; conv => whnf
    repeat' (first | (refine AWP.seq ?_) | (refine AWP.region av_ok ?_; conv => whnf) | (refine AWP.ret ?_; conv => whnf) | (refine AWP.skip ?_; conv => whnf) | (refine AWP.exit ?_; conv => whnf) | (refine AWP.block ?_; conv => whnf) | (refine AWP.cond ?_; conv => whnf) | (refine AB.tt ?_; conv => whnf) | (refine AB.ff ?_; conv => whnf) | (refine AB.ofT (by assumption) ?_; conv => whnf) | (refine AB.ofF (by assumption) ?_; conv => whnf) | (refine ACall.pure sp rfl ?_; conv => whnf) | (exact trivial) | (refine And.intro rfl ?_; conv => whnf) | (refine AB.mk (fun h => ?_) (fun h => ?_) <;> (conv => whnf)) | (with_reducible_and_instances rfl) | (exact (rfl : AP.tup _ = AP.tup _)))
    refine' AWP.draw av_ok 7 [[], [], [1], [1, 2], [2, 1, 3, 0], [0, 3, 1, 2, 4], [], [4, 2, 1, 3, 0, 5, 6]] [(_, _), (_, _), (_, _), (_, _), (_, _), (_, _), (_, _)] ?hD ?hok ?hl ?hf ?hno ?ht
    case hD => kernel_rfl
    case hok => kernel_rfl
    case hl => rfl
    case hf => (conv => whnf); repeat' (first | (refine ⟨rfl, rfl⟩) | exact trivial | (refine AFCall.mk ⟨_, _, sl32Kinds_p, .inl rfl, ?_⟩; conv => whnf) | (refine AFCall.mk ⟨_, _, kp, .inl rfl, ?_⟩; conv => whnf) | (refine AIx.at 0 _ rfl rfl ?_; conv => whnf) | (refine And.intro ?_ ?_ <;> conv => whnf))
    case hno => rfl
    case ht =>
      (conv => whnf)
      repeat' (first | (refine AWP.seq ?_) | (refine AWP.region av_ok ?_; conv => whnf) | (refine AWP.ret ?_; conv => whnf) | (refine AWP.skip ?_; conv => whnf) | (refine AWP.exit ?_; conv => whnf) | (refine AWP.block ?_; conv => whnf) | (refine AWP.cond ?_; conv => whnf) | (refine AB.tt ?_; conv => whnf) | (refine AB.ff ?_; conv => whnf) | (refine AB.ofT (by assumption) ?_; conv => whnf) | (refine AB.ofF (by assumption) ?_; conv => whnf) | (refine AIx.at 1 _ rfl rfl ?_; conv => whnf) | (refine AIx.at 2 _ rfl rfl ?_; conv => whnf) | (refine ACall.pure n1 rfl ?_; conv => whnf) | (refine ACall.pure o1 rfl ?_; conv => whnf) | (refine ACall.pure nd rfl ?_; conv => whnf) | (refine ACall.pure tp rfl ?_; conv => whnf) | (refine AB.ofT (by decide) ?_; conv => whnf) | (refine AB.ofF (by decide) ?_; conv => whnf) | (exact trivial) | (refine And.intro rfl ?_; conv => whnf) | (refine AB.mk (fun h => ?_) (fun h => ?_) <;> (conv => whnf)) | (with_reducible_and_instances rfl) | (exact (rfl : AP.tup _ = AP.tup _)))
  · have h3' := ne_dec' h3
    rw [if_neg h3]
    refine pcall_of av_ok Tryd.func48 rfl Tryd.call48 Tryd.ntmps48 (congrArg Array.toList Tryd.results48) fun S => ?_; conv => whnf
    repeat' (first | (refine AWP.seq ?_) | (refine AWP.region av_ok ?_; conv => whnf) | (refine AWP.ret ?_; conv => whnf) | (refine AWP.skip ?_; conv => whnf) | (refine AWP.exit ?_; conv => whnf) | (refine AWP.block ?_; conv => whnf) | (refine AWP.cond ?_; conv => whnf) | (refine AB.tt ?_; conv => whnf) | (refine AB.ff ?_; conv => whnf) | (refine AB.ofT (by assumption) ?_; conv => whnf) | (refine AB.ofF (by assumption) ?_; conv => whnf) | (refine ACall.pure sp rfl ?_; conv => whnf) | (exact trivial) | (refine And.intro rfl ?_; conv => whnf) | (refine AB.mk (fun h => ?_) (fun h => ?_) <;> (conv => whnf)) | (with_reducible_and_instances rfl) | (exact (rfl : AP.tup _ = AP.tup _)))
    refine' AWP.draw av_ok 7 [[], [], [1], [1, 2], [2, 1, 3, 0], [0, 3, 1, 2, 4], [], [4, 2, 1, 3, 0, 5, 6]] [(_, _), (_, _), (_, _), (_, _), (_, _), (_, _), (_, _)] ?hD ?hok ?hl ?hf ?hno ?ht
    case hD => kernel_rfl
    case hok => kernel_rfl
    case hl => rfl
    case hf => (conv => whnf); repeat' (first | (refine ⟨rfl, rfl⟩) | exact trivial | (refine AFCall.mk ⟨_, _, sl32Kinds_p, .inl rfl, ?_⟩; conv => whnf) | (refine AFCall.mk ⟨_, _, kp, .inl rfl, ?_⟩; conv => whnf) | (refine AIx.at 0 _ rfl rfl ?_; conv => whnf) | (refine And.intro ?_ ?_ <;> conv => whnf))
    case hno => rfl
    case ht =>
      (conv => whnf)
      repeat' (first | (refine AWP.seq ?_) | (refine AWP.region av_ok ?_; conv => whnf) | (refine AWP.ret ?_; conv => whnf) | (refine AWP.skip ?_; conv => whnf) | (refine AWP.exit ?_; conv => whnf) | (refine AWP.block ?_; conv => whnf) | (refine AWP.cond ?_; conv => whnf) | (refine AB.tt ?_; conv => whnf) | (refine AB.ff ?_; conv => whnf) | (refine AB.ofT (by assumption) ?_; conv => whnf) | (refine AB.ofF (by assumption) ?_; conv => whnf) | (refine AIx.at 1 _ rfl rfl ?_; conv => whnf) | (refine AIx.at 2 _ rfl rfl ?_; conv => whnf) | (refine ACall.pure n1 rfl ?_; conv => whnf) | (refine ACall.pure o1 rfl ?_; conv => whnf) | (refine ACall.pure nd rfl ?_; conv => whnf) | (refine ACall.pure tp rfl ?_; conv => whnf) | (refine AB.ofT (by decide) ?_; conv => whnf) | (refine AB.ofF (by decide) ?_; conv => whnf) | (exact trivial) | (refine And.intro rfl ?_; conv => whnf) | (refine AB.mk (fun h => ?_) (fun h => ?_) <;> (conv => whnf)) | (with_reducible_and_instances rfl) | (exact (rfl : AP.tup _ = AP.tup _)))
theorem sTextStep_9c (l w0 w1 : List UInt8) (r : List (List UInt8)) (hl : l.length ≤ 160) (hw : wordsL 32 l = w0 :: w1 :: r) (hk : idxL kindsL w0 = 9) (w2 : List UInt8) (r2 : List (List UInt8)) (hr : r = w2 :: r2) : PCall av 48 [pL l] (pAns (stAns ⟨9, nodeIx w1, nodeIx w2, 0, []⟩ l)) := by
  have hwl : ∀ w ∈ wordsL 32 l, w.length ≤ 2000000 := fun w h => by have := words_len w h; omega
  rw [hw] at hwl
  have sp := sl1Split_p l 32 (by omega)
  rw [hw] at sp
  have kp := sl1At_p kindsL w0 (by decide)
  rw [hk] at kp
  have hlt : decide (((⟨l.toArray⟩ : ByteArray).size : Int) > 160) = false := by rw [sz_dL]; simp; omega
  have h2 : decide ((((w0 :: w1 :: r).map eS).length : Int) < 2) = false := by simp only [List.length_map, List.length_cons, decide_eq_false_iff_not]; omega
  have n1 := sl32Number_p w1 (hwl w1 (by simp))
  have o1 := sNodeOf_p w1
  have nd : PCall av 83 [pI 9] (rB true) := sl32Node_p 9
  subst hr
  have o2 := sNodeOf_p w2
  have h22 : decide ((((w0 :: w1 :: w2 :: r2).map eS).length : Int) > 2) = true := by simp only [List.length_map, List.length_cons, decide_eq_true_eq]; omega
  have tp := sStepText_p ⟨9, nodeIx w1, nodeIx w2, 0, []⟩
  unfold stAns
  by_cases h3 : stepTextL ⟨9, nodeIx w1, nodeIx w2, 0, []⟩ = l
  · have h3' := ne_dec h3
    rw [if_pos h3]
    refine pcall_of av_ok Tryd.func48 rfl Tryd.call48 Tryd.ntmps48 (congrArg Array.toList Tryd.results48) fun S => ?_; conv => whnf
    repeat' (first | (refine AWP.seq ?_) | (refine AWP.region av_ok ?_; conv => whnf) | (refine AWP.ret ?_; conv => whnf) | (refine AWP.skip ?_; conv => whnf) | (refine AWP.exit ?_; conv => whnf) | (refine AWP.block ?_; conv => whnf) | (refine AWP.cond ?_; conv => whnf) | (refine AB.tt ?_; conv => whnf) | (refine AB.ff ?_; conv => whnf) | (refine AB.ofT (by assumption) ?_; conv => whnf) | (refine AB.ofF (by assumption) ?_; conv => whnf) | (refine ACall.pure sp rfl ?_; conv => whnf) | (exact trivial) | (refine And.intro rfl ?_; conv => whnf) | (refine AB.mk (fun h => ?_) (fun h => ?_) <;> (conv => whnf)) | (with_reducible_and_instances rfl) | (exact (rfl : AP.tup _ = AP.tup _)))
    refine' AWP.draw av_ok 7 [[], [], [1], [1, 2], [2, 1, 3, 0], [0, 3, 1, 2, 4], [], [4, 2, 1, 3, 0, 5, 6]] [(_, _), (_, _), (_, _), (_, _), (_, _), (_, _), (_, _)] ?hD ?hok ?hl ?hf ?hno ?ht
    case hD => kernel_rfl
    case hok => kernel_rfl
    case hl => rfl
    case hf => (conv => whnf); repeat' (first | (refine ⟨rfl, rfl⟩) | exact trivial | (refine AFCall.mk ⟨_, _, sl32Kinds_p, .inl rfl, ?_⟩; conv => whnf) | (refine AFCall.mk ⟨_, _, kp, .inl rfl, ?_⟩; conv => whnf) | (refine AIx.at 0 _ rfl rfl ?_; conv => whnf) | (refine And.intro ?_ ?_ <;> conv => whnf))
    case hno => rfl
    case ht =>
      (conv => whnf)
      repeat' (first | (refine AWP.seq ?_) | (refine AWP.region av_ok ?_; conv => whnf) | (refine AWP.ret ?_; conv => whnf) | (refine AWP.skip ?_; conv => whnf) | (refine AWP.exit ?_; conv => whnf) | (refine AWP.block ?_; conv => whnf) | (refine AWP.cond ?_; conv => whnf) | (refine AB.tt ?_; conv => whnf) | (refine AB.ff ?_; conv => whnf) | (refine AB.ofT (by assumption) ?_; conv => whnf) | (refine AB.ofF (by assumption) ?_; conv => whnf) | (refine AIx.at 1 _ rfl rfl ?_; conv => whnf) | (refine AIx.at 2 _ rfl rfl ?_; conv => whnf) | (refine ACall.pure n1 rfl ?_; conv => whnf) | (refine ACall.pure o1 rfl ?_; conv => whnf) | (refine ACall.pure nd rfl ?_; conv => whnf) | (refine ACall.pure o2 rfl ?_; conv => whnf) | (refine ACall.pure tp rfl ?_; conv => whnf) | (refine AB.ofT (by decide) ?_; conv => whnf) | (refine AB.ofF (by decide) ?_; conv => whnf) | (exact trivial) | (refine And.intro rfl ?_; conv => whnf) | (refine AB.mk (fun h => ?_) (fun h => ?_) <;> (conv => whnf)) | (with_reducible_and_instances rfl) | (exact (rfl : AP.tup _ = AP.tup _)))
  · have h3' := ne_dec' h3
    rw [if_neg h3]
    refine pcall_of av_ok Tryd.func48 rfl Tryd.call48 Tryd.ntmps48 (congrArg Array.toList Tryd.results48) fun S => ?_; conv => whnf
    repeat' (first | (refine AWP.seq ?_) | (refine AWP.region av_ok ?_; conv => whnf) | (refine AWP.ret ?_; conv => whnf) | (refine AWP.skip ?_; conv => whnf) | (refine AWP.exit ?_; conv => whnf) | (refine AWP.block ?_; conv => whnf) | (refine AWP.cond ?_; conv => whnf) | (refine AB.tt ?_; conv => whnf) | (refine AB.ff ?_; conv => whnf) | (refine AB.ofT (by assumption) ?_; conv => whnf) | (refine AB.ofF (by assumption) ?_; conv => whnf) | (refine ACall.pure sp rfl ?_; conv => whnf) | (exact trivial) | (refine And.intro rfl ?_; conv => whnf) | (refine AB.mk (fun h => ?_) (fun h => ?_) <;> (conv => whnf)) | (with_reducible_and_instances rfl) | (exact (rfl : AP.tup _ = AP.tup _)))
    refine' AWP.draw av_ok 7 [[], [], [1], [1, 2], [2, 1, 3, 0], [0, 3, 1, 2, 4], [], [4, 2, 1, 3, 0, 5, 6]] [(_, _), (_, _), (_, _), (_, _), (_, _), (_, _), (_, _)] ?hD ?hok ?hl ?hf ?hno ?ht
    case hD => kernel_rfl
    case hok => kernel_rfl
    case hl => rfl
    case hf => (conv => whnf); repeat' (first | (refine ⟨rfl, rfl⟩) | exact trivial | (refine AFCall.mk ⟨_, _, sl32Kinds_p, .inl rfl, ?_⟩; conv => whnf) | (refine AFCall.mk ⟨_, _, kp, .inl rfl, ?_⟩; conv => whnf) | (refine AIx.at 0 _ rfl rfl ?_; conv => whnf) | (refine And.intro ?_ ?_ <;> conv => whnf))
    case hno => rfl
    case ht =>
      (conv => whnf)
      repeat' (first | (refine AWP.seq ?_) | (refine AWP.region av_ok ?_; conv => whnf) | (refine AWP.ret ?_; conv => whnf) | (refine AWP.skip ?_; conv => whnf) | (refine AWP.exit ?_; conv => whnf) | (refine AWP.block ?_; conv => whnf) | (refine AWP.cond ?_; conv => whnf) | (refine AB.tt ?_; conv => whnf) | (refine AB.ff ?_; conv => whnf) | (refine AB.ofT (by assumption) ?_; conv => whnf) | (refine AB.ofF (by assumption) ?_; conv => whnf) | (refine AIx.at 1 _ rfl rfl ?_; conv => whnf) | (refine AIx.at 2 _ rfl rfl ?_; conv => whnf) | (refine ACall.pure n1 rfl ?_; conv => whnf) | (refine ACall.pure o1 rfl ?_; conv => whnf) | (refine ACall.pure nd rfl ?_; conv => whnf) | (refine ACall.pure o2 rfl ?_; conv => whnf) | (refine ACall.pure tp rfl ?_; conv => whnf) | (refine AB.ofT (by decide) ?_; conv => whnf) | (refine AB.ofF (by decide) ?_; conv => whnf) | (exact trivial) | (refine And.intro rfl ?_; conv => whnf) | (refine AB.mk (fun h => ?_) (fun h => ?_) <;> (conv => whnf)) | (with_reducible_and_instances rfl) | (exact (rfl : AP.tup _ = AP.tup _)))
theorem sTextStep_10n (l w0 w1 : List UInt8) (r : List (List UInt8)) (hl : l.length ≤ 160) (hw : wordsL 32 l = w0 :: w1 :: r) (hk : idxL kindsL w0 = 10) (hr : r = []) : PCall av 48 [pL l] (pAns (stAns ⟨10, nodeIx w1, -1, 0, []⟩ l)) := by
  have hwl : ∀ w ∈ wordsL 32 l, w.length ≤ 2000000 := fun w h => by have := words_len w h; omega
  rw [hw] at hwl
  have sp := sl1Split_p l 32 (by omega)
  rw [hw] at sp
  have kp := sl1At_p kindsL w0 (by decide)
  rw [hk] at kp
  have hlt : decide (((⟨l.toArray⟩ : ByteArray).size : Int) > 160) = false := by rw [sz_dL]; simp; omega
  have h2 : decide ((((w0 :: w1 :: r).map eS).length : Int) < 2) = false := by simp only [List.length_map, List.length_cons, decide_eq_false_iff_not]; omega
  have n1 := sl32Number_p w1 (hwl w1 (by simp))
  have o1 := sNodeOf_p w1
  have nd : PCall av 83 [pI 10] (rB true) := sl32Node_p 10
  subst hr
  have tp := sStepText_p ⟨10, nodeIx w1, -1, 0, []⟩
  unfold stAns
  by_cases h3 : stepTextL ⟨10, nodeIx w1, -1, 0, []⟩ = l
  · have h3' := ne_dec h3
    rw [if_pos h3]
    refine pcall_of av_ok Tryd.func48 rfl Tryd.call48 Tryd.ntmps48 (congrArg Array.toList Tryd.results48) fun S => ?_; conv => whnf
    repeat' (first | (refine AWP.seq ?_) | (refine AWP.region av_ok ?_; conv => whnf) | (refine AWP.ret ?_; conv => whnf) | (refine AWP.skip ?_; conv => whnf) | (refine AWP.exit ?_; conv => whnf) | (refine AWP.block ?_; conv => whnf) | (refine AWP.cond ?_; conv => whnf) | (refine AB.tt ?_; conv => whnf) | (refine AB.ff ?_; conv => whnf) | (refine AB.ofT (by assumption) ?_; conv => whnf) | (refine AB.ofF (by assumption) ?_; conv => whnf) | (refine ACall.pure sp rfl ?_; conv => whnf) | (exact trivial) | (refine And.intro rfl ?_; conv => whnf) | (refine AB.mk (fun h => ?_) (fun h => ?_) <;> (conv => whnf)) | (with_reducible_and_instances rfl) | (exact (rfl : AP.tup _ = AP.tup _)))
    refine' AWP.draw av_ok 7 [[], [], [1], [1, 2], [2, 1, 3, 0], [0, 3, 1, 2, 4], [], [4, 2, 1, 3, 0, 5, 6]] [(_, _), (_, _), (_, _), (_, _), (_, _), (_, _), (_, _)] ?hD ?hok ?hl ?hf ?hno ?ht
    case hD => kernel_rfl
    case hok => kernel_rfl
    case hl => rfl
    case hf => (conv => whnf); repeat' (first | (refine ⟨rfl, rfl⟩) | exact trivial | (refine AFCall.mk ⟨_, _, sl32Kinds_p, .inl rfl, ?_⟩; conv => whnf) | (refine AFCall.mk ⟨_, _, kp, .inl rfl, ?_⟩; conv => whnf) | (refine AIx.at 0 _ rfl rfl ?_; conv => whnf) | (refine And.intro ?_ ?_ <;> conv => whnf))
    case hno => rfl
    case ht =>
      (conv => whnf)
      repeat' (first | (refine AWP.seq ?_) | (refine AWP.region av_ok ?_; conv => whnf) | (refine AWP.ret ?_; conv => whnf) | (refine AWP.skip ?_; conv => whnf) | (refine AWP.exit ?_; conv => whnf) | (refine AWP.block ?_; conv => whnf) | (refine AWP.cond ?_; conv => whnf) | (refine AB.tt ?_; conv => whnf) | (refine AB.ff ?_; conv => whnf) | (refine AB.ofT (by assumption) ?_; conv => whnf) | (refine AB.ofF (by assumption) ?_; conv => whnf) | (refine AIx.at 1 _ rfl rfl ?_; conv => whnf) | (refine AIx.at 2 _ rfl rfl ?_; conv => whnf) | (refine ACall.pure n1 rfl ?_; conv => whnf) | (refine ACall.pure o1 rfl ?_; conv => whnf) | (refine ACall.pure nd rfl ?_; conv => whnf) | (refine ACall.pure tp rfl ?_; conv => whnf) | (refine AB.ofT (by decide) ?_; conv => whnf) | (refine AB.ofF (by decide) ?_; conv => whnf) | (exact trivial) | (refine And.intro rfl ?_; conv => whnf) | (refine AB.mk (fun h => ?_) (fun h => ?_) <;> (conv => whnf)) | (with_reducible_and_instances rfl) | (exact (rfl : AP.tup _ = AP.tup _)))
  · have h3' := ne_dec' h3
    rw [if_neg h3]
    refine pcall_of av_ok Tryd.func48 rfl Tryd.call48 Tryd.ntmps48 (congrArg Array.toList Tryd.results48) fun S => ?_; conv => whnf
    repeat' (first | (refine AWP.seq ?_) | (refine AWP.region av_ok ?_; conv => whnf) | (refine AWP.ret ?_; conv => whnf) | (refine AWP.skip ?_; conv => whnf) | (refine AWP.exit ?_; conv => whnf) | (refine AWP.block ?_; conv => whnf) | (refine AWP.cond ?_; conv => whnf) | (refine AB.tt ?_; conv => whnf) | (refine AB.ff ?_; conv => whnf) | (refine AB.ofT (by assumption) ?_; conv => whnf) | (refine AB.ofF (by assumption) ?_; conv => whnf) | (refine ACall.pure sp rfl ?_; conv => whnf) | (exact trivial) | (refine And.intro rfl ?_; conv => whnf) | (refine AB.mk (fun h => ?_) (fun h => ?_) <;> (conv => whnf)) | (with_reducible_and_instances rfl) | (exact (rfl : AP.tup _ = AP.tup _)))
    refine' AWP.draw av_ok 7 [[], [], [1], [1, 2], [2, 1, 3, 0], [0, 3, 1, 2, 4], [], [4, 2, 1, 3, 0, 5, 6]] [(_, _), (_, _), (_, _), (_, _), (_, _), (_, _), (_, _)] ?hD ?hok ?hl ?hf ?hno ?ht
    case hD => kernel_rfl
    case hok => kernel_rfl
    case hl => rfl
    case hf => (conv => whnf); repeat' (first | (refine ⟨rfl, rfl⟩) | exact trivial | (refine AFCall.mk ⟨_, _, sl32Kinds_p, .inl rfl, ?_⟩; conv => whnf) | (refine AFCall.mk ⟨_, _, kp, .inl rfl, ?_⟩; conv => whnf) | (refine AIx.at 0 _ rfl rfl ?_; conv => whnf) | (refine And.intro ?_ ?_ <;> conv => whnf))
    case hno => rfl
    case ht =>
      (conv => whnf)
      repeat' (first | (refine AWP.seq ?_) | (refine AWP.region av_ok ?_; conv => whnf) | (refine AWP.ret ?_; conv => whnf) | (refine AWP.skip ?_; conv => whnf) | (refine AWP.exit ?_; conv => whnf) | (refine AWP.block ?_; conv => whnf) | (refine AWP.cond ?_; conv => whnf) | (refine AB.tt ?_; conv => whnf) | (refine AB.ff ?_; conv => whnf) | (refine AB.ofT (by assumption) ?_; conv => whnf) | (refine AB.ofF (by assumption) ?_; conv => whnf) | (refine AIx.at 1 _ rfl rfl ?_; conv => whnf) | (refine AIx.at 2 _ rfl rfl ?_; conv => whnf) | (refine ACall.pure n1 rfl ?_; conv => whnf) | (refine ACall.pure o1 rfl ?_; conv => whnf) | (refine ACall.pure nd rfl ?_; conv => whnf) | (refine ACall.pure tp rfl ?_; conv => whnf) | (refine AB.ofT (by decide) ?_; conv => whnf) | (refine AB.ofF (by decide) ?_; conv => whnf) | (exact trivial) | (refine And.intro rfl ?_; conv => whnf) | (refine AB.mk (fun h => ?_) (fun h => ?_) <;> (conv => whnf)) | (with_reducible_and_instances rfl) | (exact (rfl : AP.tup _ = AP.tup _)))
theorem sTextStep_10c (l w0 w1 : List UInt8) (r : List (List UInt8)) (hl : l.length ≤ 160) (hw : wordsL 32 l = w0 :: w1 :: r) (hk : idxL kindsL w0 = 10) (w2 : List UInt8) (r2 : List (List UInt8)) (hr : r = w2 :: r2) : PCall av 48 [pL l] (pAns (stAns ⟨10, nodeIx w1, nodeIx w2, 0, []⟩ l)) := by
  have hwl : ∀ w ∈ wordsL 32 l, w.length ≤ 2000000 := fun w h => by have := words_len w h; omega
  rw [hw] at hwl
  have sp := sl1Split_p l 32 (by omega)
  rw [hw] at sp
  have kp := sl1At_p kindsL w0 (by decide)
  rw [hk] at kp
  have hlt : decide (((⟨l.toArray⟩ : ByteArray).size : Int) > 160) = false := by rw [sz_dL]; simp; omega
  have h2 : decide ((((w0 :: w1 :: r).map eS).length : Int) < 2) = false := by simp only [List.length_map, List.length_cons, decide_eq_false_iff_not]; omega
  have n1 := sl32Number_p w1 (hwl w1 (by simp))
  have o1 := sNodeOf_p w1
  have nd : PCall av 83 [pI 10] (rB true) := sl32Node_p 10
  subst hr
  have o2 := sNodeOf_p w2
  have h22 : decide ((((w0 :: w1 :: w2 :: r2).map eS).length : Int) > 2) = true := by simp only [List.length_map, List.length_cons, decide_eq_true_eq]; omega
  have tp := sStepText_p ⟨10, nodeIx w1, nodeIx w2, 0, []⟩
  unfold stAns
  by_cases h3 : stepTextL ⟨10, nodeIx w1, nodeIx w2, 0, []⟩ = l
  · have h3' := ne_dec h3
    rw [if_pos h3]
    refine pcall_of av_ok Tryd.func48 rfl Tryd.call48 Tryd.ntmps48 (congrArg Array.toList Tryd.results48) fun S => ?_; conv => whnf
    repeat' (first | (refine AWP.seq ?_) | (refine AWP.region av_ok ?_; conv => whnf) | (refine AWP.ret ?_; conv => whnf) | (refine AWP.skip ?_; conv => whnf) | (refine AWP.exit ?_; conv => whnf) | (refine AWP.block ?_; conv => whnf) | (refine AWP.cond ?_; conv => whnf) | (refine AB.tt ?_; conv => whnf) | (refine AB.ff ?_; conv => whnf) | (refine AB.ofT (by assumption) ?_; conv => whnf) | (refine AB.ofF (by assumption) ?_; conv => whnf) | (refine ACall.pure sp rfl ?_; conv => whnf) | (exact trivial) | (refine And.intro rfl ?_; conv => whnf) | (refine AB.mk (fun h => ?_) (fun h => ?_) <;> (conv => whnf)) | (with_reducible_and_instances rfl) | (exact (rfl : AP.tup _ = AP.tup _)))
    refine' AWP.draw av_ok 7 [[], [], [1], [1, 2], [2, 1, 3, 0], [0, 3, 1, 2, 4], [], [4, 2, 1, 3, 0, 5, 6]] [(_, _), (_, _), (_, _), (_, _), (_, _), (_, _), (_, _)] ?hD ?hok ?hl ?hf ?hno ?ht
    case hD => kernel_rfl
    case hok => kernel_rfl
    case hl => rfl
    case hf => (conv => whnf); repeat' (first | (refine ⟨rfl, rfl⟩) | exact trivial | (refine AFCall.mk ⟨_, _, sl32Kinds_p, .inl rfl, ?_⟩; conv => whnf) | (refine AFCall.mk ⟨_, _, kp, .inl rfl, ?_⟩; conv => whnf) | (refine AIx.at 0 _ rfl rfl ?_; conv => whnf) | (refine And.intro ?_ ?_ <;> conv => whnf))
    case hno => rfl
    case ht =>
      (conv => whnf)
      repeat' (first | (refine AWP.seq ?_) | (refine AWP.region av_ok ?_; conv => whnf) | (refine AWP.ret ?_; conv => whnf) | (refine AWP.skip ?_; conv => whnf) | (refine AWP.exit ?_; conv => whnf) | (refine AWP.block ?_; conv => whnf) | (refine AWP.cond ?_; conv => whnf) | (refine AB.tt ?_; conv => whnf) | (refine AB.ff ?_; conv => whnf) | (refine AB.ofT (by assumption) ?_; conv => whnf) | (refine AB.ofF (by assumption) ?_; conv => whnf) | (refine AIx.at 1 _ rfl rfl ?_; conv => whnf) | (refine AIx.at 2 _ rfl rfl ?_; conv => whnf) | (refine ACall.pure n1 rfl ?_; conv => whnf) | (refine ACall.pure o1 rfl ?_; conv => whnf) | (refine ACall.pure nd rfl ?_; conv => whnf) | (refine ACall.pure o2 rfl ?_; conv => whnf) | (refine ACall.pure tp rfl ?_; conv => whnf) | (refine AB.ofT (by decide) ?_; conv => whnf) | (refine AB.ofF (by decide) ?_; conv => whnf) | (exact trivial) | (refine And.intro rfl ?_; conv => whnf) | (refine AB.mk (fun h => ?_) (fun h => ?_) <;> (conv => whnf)) | (with_reducible_and_instances rfl) | (exact (rfl : AP.tup _ = AP.tup _)))
  · have h3' := ne_dec' h3
    rw [if_neg h3]
    refine pcall_of av_ok Tryd.func48 rfl Tryd.call48 Tryd.ntmps48 (congrArg Array.toList Tryd.results48) fun S => ?_; conv => whnf
    repeat' (first | (refine AWP.seq ?_) | (refine AWP.region av_ok ?_; conv => whnf) | (refine AWP.ret ?_; conv => whnf) | (refine AWP.skip ?_; conv => whnf) | (refine AWP.exit ?_; conv => whnf) | (refine AWP.block ?_; conv => whnf) | (refine AWP.cond ?_; conv => whnf) | (refine AB.tt ?_; conv => whnf) | (refine AB.ff ?_; conv => whnf) | (refine AB.ofT (by assumption) ?_; conv => whnf) | (refine AB.ofF (by assumption) ?_; conv => whnf) | (refine ACall.pure sp rfl ?_; conv => whnf) | (exact trivial) | (refine And.intro rfl ?_; conv => whnf) | (refine AB.mk (fun h => ?_) (fun h => ?_) <;> (conv => whnf)) | (with_reducible_and_instances rfl) | (exact (rfl : AP.tup _ = AP.tup _)))
    refine' AWP.draw av_ok 7 [[], [], [1], [1, 2], [2, 1, 3, 0], [0, 3, 1, 2, 4], [], [4, 2, 1, 3, 0, 5, 6]] [(_, _), (_, _), (_, _), (_, _), (_, _), (_, _), (_, _)] ?hD ?hok ?hl ?hf ?hno ?ht
    case hD => kernel_rfl
    case hok => kernel_rfl
    case hl => rfl
    case hf => (conv => whnf); repeat' (first | (refine ⟨rfl, rfl⟩) | exact trivial | (refine AFCall.mk ⟨_, _, sl32Kinds_p, .inl rfl, ?_⟩; conv => whnf) | (refine AFCall.mk ⟨_, _, kp, .inl rfl, ?_⟩; conv => whnf) | (refine AIx.at 0 _ rfl rfl ?_; conv => whnf) | (refine And.intro ?_ ?_ <;> conv => whnf))
    case hno => rfl
    case ht =>
      (conv => whnf)
      repeat' (first | (refine AWP.seq ?_) | (refine AWP.region av_ok ?_; conv => whnf) | (refine AWP.ret ?_; conv => whnf) | (refine AWP.skip ?_; conv => whnf) | (refine AWP.exit ?_; conv => whnf) | (refine AWP.block ?_; conv => whnf) | (refine AWP.cond ?_; conv => whnf) | (refine AB.tt ?_; conv => whnf) | (refine AB.ff ?_; conv => whnf) | (refine AB.ofT (by assumption) ?_; conv => whnf) | (refine AB.ofF (by assumption) ?_; conv => whnf) | (refine AIx.at 1 _ rfl rfl ?_; conv => whnf) | (refine AIx.at 2 _ rfl rfl ?_; conv => whnf) | (refine ACall.pure n1 rfl ?_; conv => whnf) | (refine ACall.pure o1 rfl ?_; conv => whnf) | (refine ACall.pure nd rfl ?_; conv => whnf) | (refine ACall.pure o2 rfl ?_; conv => whnf) | (refine ACall.pure tp rfl ?_; conv => whnf) | (refine AB.ofT (by decide) ?_; conv => whnf) | (refine AB.ofF (by decide) ?_; conv => whnf) | (exact trivial) | (refine And.intro rfl ?_; conv => whnf) | (refine AB.mk (fun h => ?_) (fun h => ?_) <;> (conv => whnf)) | (with_reducible_and_instances rfl) | (exact (rfl : AP.tup _ = AP.tup _)))
end Go.Proofs.YtlhanpkfnhnegaaDoor
/- TextStep of the reference: fall. -/
namespace Go.Proofs.YtlhanpkfnhnegaaDoor
open Go.RowKit

def falO (a : Int) (w2 : List UInt8) : Nat → List (Nat × AO)
  | 0 => [(2, .cells 47 [.d (dI 0), .d (dI 0), .d (dI 0), .d (dI 0), .nil]), (5, .cells 47 [.d (dI 5), .d (dI a), .d (dI 0), .d (dI 0), .nil])]
  | k + 1 => [(2, .cells 47 [.d (dI 0), .d (dI 0), .d (dI 0), .d (dI 0), .nil]), (5, .cells 47 [.d (dI 5), .d (dI a), .d (dI 0), .d (dI 0), .own 94]), (94, .row 2 1 (((w2.take (k + 1)).map fun b => (b.toNat : Int) - 48).map eI))]
theorem sTextStep_5n (l w0 w1 : List UInt8) (hl : l.length ≤ 160) (hw : wordsL 32 l = [w0, w1]) (hk : idxL kindsL w0 = 5) : PCall av 48 [pL l] (pAns (stAns ⟨5, nodeIx w1, 0, 0, []⟩ l)) := by
  have hwl : ∀ w ∈ wordsL 32 l, w.length ≤ 2000000 := fun w h => by have := words_len w h; omega
  rw [hw] at hwl
  have sp := sl1Split_p l 32 (by omega)
  rw [hw] at sp
  have kp := sl1At_p kindsL w0 (by decide)
  rw [hk] at kp
  have hlt : decide (((⟨l.toArray⟩ : ByteArray).size : Int) > 160) = false := by rw [sz_dL]; simp; omega
  have n1 := sl32Number_p w1 (hwl w1 (by simp))
  have o1 := sNodeOf_p w1
  have nd : PCall av 83 [pI 5] (rB true) := sl32Node_p 5
  have h2 : decide ((([w0, w1].map eS).length : Int) < 2) = false := rfl
  have h22 : decide ((([w0, w1].map eS).length : Int) > 2) = false := rfl
  have tp := sStepText_p ⟨5, nodeIx w1, 0, 0, []⟩
  unfold stAns
  by_cases h3 : stepTextL ⟨5, nodeIx w1, 0, 0, []⟩ = l
  · have h3' := ne_dec h3
    rw [if_pos h3]
    refine pcall_of av_ok Tryd.func48 rfl Tryd.call48 Tryd.ntmps48 (congrArg Array.toList Tryd.results48) fun S => ?_; conv => whnf
    repeat' (first | (refine AWP.seq ?_) | (refine AWP.region av_ok ?_; conv => whnf) | (refine AWP.ret ?_; conv => whnf) | (refine AWP.skip ?_; conv => whnf) | (refine AWP.exit ?_; conv => whnf) | (refine AWP.block ?_; conv => whnf) | (refine AWP.cond ?_; conv => whnf) | (refine AB.tt ?_; conv => whnf) | (refine AB.ff ?_; conv => whnf) | (refine AB.ofT (by assumption) ?_; conv => whnf) | (refine AB.ofF (by assumption) ?_; conv => whnf) | (refine ACall.pure sp rfl ?_; conv => whnf) | (exact trivial) | (refine And.intro rfl ?_; conv => whnf) | (refine AB.mk (fun h => ?_) (fun h => ?_) <;> (conv => whnf)) | (with_reducible_and_instances rfl) | (exact (rfl : AP.tup _ = AP.tup _)))
    refine' AWP.draw av_ok 7 [[], [], [1], [1, 2], [2, 1, 3, 0], [0, 3, 1, 2, 4], [], [4, 2, 1, 3, 0, 5, 6]] [(_, _), (_, _), (_, _), (_, _), (_, _), (_, _), (_, _)] ?hD ?hok ?hl ?hf ?hno ?ht
    case hD => kernel_rfl
    case hok => kernel_rfl
    case hl => rfl
    case hf => (conv => whnf); repeat' (first | (refine ⟨rfl, rfl⟩) | exact trivial | (refine AFCall.mk ⟨_, _, sl32Kinds_p, .inl rfl, ?_⟩; conv => whnf) | (refine AFCall.mk ⟨_, _, kp, .inl rfl, ?_⟩; conv => whnf) | (refine AIx.at 0 _ rfl rfl ?_; conv => whnf) | (refine And.intro ?_ ?_ <;> conv => whnf))
    case hno => rfl
    case ht =>
      (conv => whnf)
      repeat' (first | (refine AWP.seq ?_) | (refine AWP.region av_ok ?_; conv => whnf) | (refine AWP.ret ?_; conv => whnf) | (refine AWP.skip ?_; conv => whnf) | (refine AWP.exit ?_; conv => whnf) | (refine AWP.block ?_; conv => whnf) | (refine AWP.cond ?_; conv => whnf) | (refine AB.tt ?_; conv => whnf) | (refine AB.ff ?_; conv => whnf) | (refine AB.ofT (by assumption) ?_; conv => whnf) | (refine AB.ofF (by assumption) ?_; conv => whnf) | (refine AIx.at 1 _ rfl rfl ?_; conv => whnf) | (refine AIx.at 2 _ rfl rfl ?_; conv => whnf) | (refine ACall.pure n1 rfl ?_; conv => whnf) | (refine ACall.pure o1 rfl ?_; conv => whnf) | (refine ACall.pure nd rfl ?_; conv => whnf) | (refine ACall.pure tp rfl ?_; conv => whnf) | (refine AB.ofT (by decide) ?_; conv => whnf) | (refine AB.ofF (by decide) ?_; conv => whnf) | (exact trivial) | (refine And.intro rfl ?_; conv => whnf) | (refine AB.mk (fun h => ?_) (fun h => ?_) <;> (conv => whnf)) | (with_reducible_and_instances rfl) | (exact (rfl : AP.tup _ = AP.tup _)) | (refine AWP.unroll 1 ?_; conv => whnf))
  · have h3' := ne_dec' h3
    rw [if_neg h3]
    refine pcall_of av_ok Tryd.func48 rfl Tryd.call48 Tryd.ntmps48 (congrArg Array.toList Tryd.results48) fun S => ?_; conv => whnf
    repeat' (first | (refine AWP.seq ?_) | (refine AWP.region av_ok ?_; conv => whnf) | (refine AWP.ret ?_; conv => whnf) | (refine AWP.skip ?_; conv => whnf) | (refine AWP.exit ?_; conv => whnf) | (refine AWP.block ?_; conv => whnf) | (refine AWP.cond ?_; conv => whnf) | (refine AB.tt ?_; conv => whnf) | (refine AB.ff ?_; conv => whnf) | (refine AB.ofT (by assumption) ?_; conv => whnf) | (refine AB.ofF (by assumption) ?_; conv => whnf) | (refine ACall.pure sp rfl ?_; conv => whnf) | (exact trivial) | (refine And.intro rfl ?_; conv => whnf) | (refine AB.mk (fun h => ?_) (fun h => ?_) <;> (conv => whnf)) | (with_reducible_and_instances rfl) | (exact (rfl : AP.tup _ = AP.tup _)))
    refine' AWP.draw av_ok 7 [[], [], [1], [1, 2], [2, 1, 3, 0], [0, 3, 1, 2, 4], [], [4, 2, 1, 3, 0, 5, 6]] [(_, _), (_, _), (_, _), (_, _), (_, _), (_, _), (_, _)] ?hD ?hok ?hl ?hf ?hno ?ht
    case hD => kernel_rfl
    case hok => kernel_rfl
    case hl => rfl
    case hf => (conv => whnf); repeat' (first | (refine ⟨rfl, rfl⟩) | exact trivial | (refine AFCall.mk ⟨_, _, sl32Kinds_p, .inl rfl, ?_⟩; conv => whnf) | (refine AFCall.mk ⟨_, _, kp, .inl rfl, ?_⟩; conv => whnf) | (refine AIx.at 0 _ rfl rfl ?_; conv => whnf) | (refine And.intro ?_ ?_ <;> conv => whnf))
    case hno => rfl
    case ht =>
      (conv => whnf)
      repeat' (first | (refine AWP.seq ?_) | (refine AWP.region av_ok ?_; conv => whnf) | (refine AWP.ret ?_; conv => whnf) | (refine AWP.skip ?_; conv => whnf) | (refine AWP.exit ?_; conv => whnf) | (refine AWP.block ?_; conv => whnf) | (refine AWP.cond ?_; conv => whnf) | (refine AB.tt ?_; conv => whnf) | (refine AB.ff ?_; conv => whnf) | (refine AB.ofT (by assumption) ?_; conv => whnf) | (refine AB.ofF (by assumption) ?_; conv => whnf) | (refine AIx.at 1 _ rfl rfl ?_; conv => whnf) | (refine AIx.at 2 _ rfl rfl ?_; conv => whnf) | (refine ACall.pure n1 rfl ?_; conv => whnf) | (refine ACall.pure o1 rfl ?_; conv => whnf) | (refine ACall.pure nd rfl ?_; conv => whnf) | (refine ACall.pure tp rfl ?_; conv => whnf) | (refine AB.ofT (by decide) ?_; conv => whnf) | (refine AB.ofF (by decide) ?_; conv => whnf) | (exact trivial) | (refine And.intro rfl ?_; conv => whnf) | (refine AB.mk (fun h => ?_) (fun h => ?_) <;> (conv => whnf)) | (with_reducible_and_instances rfl) | (exact (rfl : AP.tup _ = AP.tup _)) | (refine AWP.unroll 1 ?_; conv => whnf))
set_option maxHeartbeats 4000000 in
theorem sTextStep_5c (l w0 w1 w2 : List UInt8) (r : List (List UInt8)) (hl : l.length ≤ 160) (hw : wordsL 32 l = w0 :: w1 :: w2 :: r) (hk : idxL kindsL w0 = 5) : PCall av 48 [pL l] (pAns (stAns ⟨5, nodeIx w1, 0, 0, w2.map fun b => (b.toNat : Int) - 48⟩ l)) := by
  have hwl : ∀ w ∈ wordsL 32 l, w.length ≤ 2000000 := fun w h => by have := words_len w h; omega
  rw [hw] at hwl
  have sp := sl1Split_p l 32 (by omega)
  rw [hw] at sp
  have kp := sl1At_p kindsL w0 (by decide)
  rw [hk] at kp
  have hlt : decide (((⟨l.toArray⟩ : ByteArray).size : Int) > 160) = false := by rw [sz_dL]; simp; omega
  have n1 := sl32Number_p w1 (hwl w1 (by simp))
  have o1 := sNodeOf_p w1
  have nd : PCall av 83 [pI 5] (rB true) := sl32Node_p 5
  have h2 : decide ((((w0 :: w1 :: w2 :: r).map eS).length : Int) < 2) = false := by simp only [List.length_map, List.length_cons, decide_eq_false_iff_not]; omega
  have h22 : decide ((((w0 :: w1 :: w2 :: r).map eS).length : Int) > 2) = true := by simp only [List.length_map, List.length_cons, decide_eq_true_eq]; omega
  have h2l := hwl w2 (by simp)
  have tp := sStepText_p ⟨5, nodeIx w1, 0, 0, w2.map fun b => (b.toNat : Int) - 48⟩
  unfold stAns
  by_cases h3 : stepTextL ⟨5, nodeIx w1, 0, 0, w2.map fun b => (b.toNat : Int) - 48⟩ = l
  · have h3' := ne_dec h3
    rw [if_pos h3]
    refine pcall_of av_ok Tryd.func48 rfl Tryd.call48 Tryd.ntmps48 (congrArg Array.toList Tryd.results48) fun S => ?_; conv => whnf
    repeat' (first | (refine AWP.seq ?_) | (refine AWP.region av_ok ?_; conv => whnf) | (refine AWP.ret ?_; conv => whnf) | (refine AWP.skip ?_; conv => whnf) | (refine AWP.exit ?_; conv => whnf) | (refine AWP.block ?_; conv => whnf) | (refine AWP.cond ?_; conv => whnf) | (refine AB.tt ?_; conv => whnf) | (refine AB.ff ?_; conv => whnf) | (refine AB.ofT (by assumption) ?_; conv => whnf) | (refine AB.ofF (by assumption) ?_; conv => whnf) | (refine ACall.pure sp rfl ?_; conv => whnf) | (exact trivial) | (refine And.intro rfl ?_; conv => whnf) | (refine AB.mk (fun h => ?_) (fun h => ?_) <;> (conv => whnf)) | (with_reducible_and_instances rfl) | (exact (rfl : AP.tup _ = AP.tup _)))
    refine' AWP.draw av_ok 7 [[], [], [1], [1, 2], [2, 1, 3, 0], [0, 3, 1, 2, 4], [], [4, 2, 1, 3, 0, 5, 6]] [(_, _), (_, _), (_, _), (_, _), (_, _), (_, _), (_, _)] ?hD ?hok ?hl ?hf ?hno ?ht
    case hD => kernel_rfl
    case hok => kernel_rfl
    case hl => rfl
    case hf => (conv => whnf); repeat' (first | (refine ⟨rfl, rfl⟩) | exact trivial | (refine AFCall.mk ⟨_, _, sl32Kinds_p, .inl rfl, ?_⟩; conv => whnf) | (refine AFCall.mk ⟨_, _, kp, .inl rfl, ?_⟩; conv => whnf) | (refine AIx.at 0 _ rfl rfl ?_; conv => whnf) | (refine And.intro ?_ ?_ <;> conv => whnf))
    case hno => rfl
    case ht =>
      (conv => whnf)
      repeat' (first | (refine AWP.seq ?_) | (refine AWP.region av_ok ?_; conv => whnf) | (refine AWP.ret ?_; conv => whnf) | (refine AWP.skip ?_; conv => whnf) | (refine AWP.exit ?_; conv => whnf) | (refine AWP.block ?_; conv => whnf) | (refine AWP.cond ?_; conv => whnf) | (refine AB.tt ?_; conv => whnf) | (refine AB.ff ?_; conv => whnf) | (refine AB.ofT (by assumption) ?_; conv => whnf) | (refine AB.ofF (by assumption) ?_; conv => whnf) | (refine AIx.at 1 _ rfl rfl ?_; conv => whnf) | (refine AIx.at 2 _ rfl rfl ?_; conv => whnf) | (refine ACall.pure n1 rfl ?_; conv => whnf) | (refine ACall.pure o1 rfl ?_; conv => whnf) | (refine ACall.pure nd rfl ?_; conv => whnf) | (refine AB.ofT (by decide) ?_; conv => whnf) | (refine AB.ofF (by decide) ?_; conv => whnf) | (exact trivial) | (refine And.intro rfl ?_; conv => whnf) | (refine AB.mk (fun h => ?_) (fun h => ?_) <;> (conv => whnf)) | (with_reducible_and_instances rfl) | (exact (rfl : AP.tup _ = AP.tup _)))
      refine AWP.loopS (fun k : Nat => k ≤ w2.length) [6, 71, 72, 73, 74, 75, 76, 77, 78, 79, 80, 81, 82, 83, 84, 85, 86, 87, 88, 89, 90, 91, 92, 93, 94, 95] (fun k => [(6, vI .i64 (k : Int))]) (fun k => falO (nodeIx w1) w2 k) (fun k => w2.length - k) 0 (by omega) ?_ (SubO.cons rfl (SubO.cons rfl SubO.nil)) (fun k hR => ?_) <;> (conv => whnf)
      · repeat' (first | exact trivial | (refine And.intro rfl ?_; conv => whnf))
      · cases k with
        | zero =>
          repeat' (first | (refine AWP.seq ?_) | (refine AWP.region av_ok ?_; conv => whnf) | (refine AWP.ret ?_; conv => whnf) | (refine AWP.skip ?_; conv => whnf) | (refine AWP.exit ?_; conv => whnf) | (refine AWP.block ?_; conv => whnf) | (refine AWP.cond ?_; conv => whnf) | (refine AB.tt ?_; conv => whnf) | (refine AB.ff ?_; conv => whnf) | (refine AB.ofT (by assumption) ?_; conv => whnf) | (refine AB.ofF (by assumption) ?_; conv => whnf) | (refine AIx.at 1 _ rfl rfl ?_; conv => whnf) | (refine AIx.at 2 _ rfl rfl ?_; conv => whnf) | (refine And.intro rfl ?_; conv => whnf))
          refine AB.mk (fun h => ?_) (fun h => ?_) <;> (conv => whnf)
          · have hlt : 0 < w2.length := (by simp only [sz_dL, decide_eq_true_eq, decide_eq_false_iff_not, beq_iff_eq, beq_eq_false_iff_ne, List.length_map, Bool.not_eq_true', Bool.not_eq_false', ne_eq] at *; omega)
            have hb : w2[0].toNat ≤ 255 := by have := w2[0].toNat_lt; omega
            have hrow : [[dI ((w2[0].toNat : Int) - 48)]] = ((w2.take 1).map fun b => (b.toNat : Int) - 48).map eI := by
              have := List.take_append_getElem hlt
              rw [← this]; rfl
            repeat' (first | (refine AWP.seq ?_) | (refine AWP.region av_ok ?_; conv => whnf) | (refine AWP.ret ?_; conv => whnf) | (refine AWP.skip ?_; conv => whnf) | (refine AWP.exit ?_; conv => whnf) | (refine AWP.block ?_; conv => whnf) | (refine AWP.cond ?_; conv => whnf) | (refine AB.tt ?_; conv => whnf) | (refine AB.ff ?_; conv => whnf) | (refine AB.ofT (by assumption) ?_; conv => whnf) | (refine AB.ofF (by assumption) ?_; conv => whnf) | (refine And.intro rfl ?_; conv => whnf))
            refine' AWP.draw av_ok 10 [[], [0], [], [2], [2, 3], [], [5, 3, 2, 4], [4, 2, 3, 5, 6], [6, 5, 3, 2, 4, 7], [7, 4, 2, 3, 5, 6, 8], [8, 6, 5, 3, 2, 4, 7, 9, 0, 1], [10, 9, 8, 7, 6, 5, 4, 3, 2, 1, 0], [0, 1, 2, 3, 4, 5, 6, 7, 8, 9, 10, 11]] [(_, _), (_, _), (_, _), (_, _), (_, _), (_, _), (_, _), (_, _), (_, _), (_, _)] ?hD ?hok ?hl ?hf ?hno ?ht
            case hD => kernel_rfl
            case hok => kernel_rfl
            case hl => rfl
            case hf => (conv => whnf); repeat' (first | (refine ⟨rfl, rfl⟩) | exact trivial | (refine AIx.at 2 _ rfl rfl ?_; conv => whnf) | (refine ⟨0, w2[0]'hlt, rfl, sget hlt, ?_⟩; conv => whnf) | (refine AW.i64 (by omega) (by omega) ?_; conv => whnf) | (refine And.intro ?_ ?_ <;> conv => whnf))
            case hno => rfl
            case ht =>
              (conv => whnf)
              repeat' (first | (refine AWP.seq ?_) | (refine AWP.region av_ok ?_; conv => whnf) | (refine AWP.ret ?_; conv => whnf) | (refine AWP.skip ?_; conv => whnf) | (refine AWP.exit ?_; conv => whnf) | (refine AWP.block ?_; conv => whnf) | (refine AWP.cond ?_; conv => whnf) | (refine AB.tt ?_; conv => whnf) | (refine AB.ff ?_; conv => whnf) | (refine AB.ofT (by assumption) ?_; conv => whnf) | (refine AB.ofF (by assumption) ?_; conv => whnf) | (refine AW.i64 (by simp only [decide_eq_true_eq, decide_eq_false_iff_not, List.length_map, Bool.not_eq_true', Bool.not_eq_false'] at *; omega) (by simp only [decide_eq_true_eq, decide_eq_false_iff_not, List.length_map, Bool.not_eq_true', Bool.not_eq_false'] at *; omega) ?_; conv => whnf) | (refine all_len (by simp [eI]) ?_; conv => whnf) | (refine sz_app (by simp only [List.length_map, List.length_take, List.length_cons, List.length_nil]; omega) ?_; conv => whnf) | (exact trivial) | (refine And.intro rfl ?_; conv => whnf))
              refine ANext.mk ⟨1, hlt, by omega, ?_, SubO.cons rfl (SubO.cons rfl (SubO.cons (congrArg some (congrArg (AO.row 2 1) hrow)) SubO.nil))⟩
              (conv => whnf); repeat' (first | exact trivial | (refine ⟨rfl, ?_⟩; conv => whnf))
          · have h0 : w2.length = 0 := (by simp only [sz_dL, decide_eq_true_eq, decide_eq_false_iff_not, beq_iff_eq, beq_eq_false_iff_ne, List.length_map, Bool.not_eq_true', Bool.not_eq_false', ne_eq] at *; omega)
            have e0 : w2 = [] := List.eq_nil_of_length_eq_zero h0
            subst e0
            repeat' (first | (refine AWP.seq ?_) | (refine AWP.region av_ok ?_; conv => whnf) | (refine AWP.ret ?_; conv => whnf) | (refine AWP.skip ?_; conv => whnf) | (refine AWP.exit ?_; conv => whnf) | (refine AWP.block ?_; conv => whnf) | (refine AWP.cond ?_; conv => whnf) | (refine AB.tt ?_; conv => whnf) | (refine AB.ff ?_; conv => whnf) | (refine AB.ofT (by assumption) ?_; conv => whnf) | (refine AB.ofF (by assumption) ?_; conv => whnf) | (refine ACall.pure tp rfl ?_; conv => whnf) | (exact trivial) | (refine And.intro rfl ?_; conv => whnf) | (refine AB.mk (fun h => ?_) (fun h => ?_) <;> (conv => whnf)) | (with_reducible_and_instances rfl) | (exact (rfl : AP.tup _ = AP.tup _)))
        | succ k =>
          repeat' (first | (refine AWP.seq ?_) | (refine AWP.region av_ok ?_; conv => whnf) | (refine AWP.ret ?_; conv => whnf) | (refine AWP.skip ?_; conv => whnf) | (refine AWP.exit ?_; conv => whnf) | (refine AWP.block ?_; conv => whnf) | (refine AWP.cond ?_; conv => whnf) | (refine AB.tt ?_; conv => whnf) | (refine AB.ff ?_; conv => whnf) | (refine AB.ofT (by assumption) ?_; conv => whnf) | (refine AB.ofF (by assumption) ?_; conv => whnf) | (refine AIx.at 1 _ rfl rfl ?_; conv => whnf) | (refine AIx.at 2 _ rfl rfl ?_; conv => whnf) | (refine And.intro rfl ?_; conv => whnf))
          refine AB.mk (fun h => ?_) (fun h => ?_) <;> (conv => whnf)
          · have hlt : k + 1 < w2.length := (by simp only [sz_dL, decide_eq_true_eq, decide_eq_false_iff_not, beq_iff_eq, beq_eq_false_iff_ne, List.length_map, Bool.not_eq_true', Bool.not_eq_false', ne_eq] at *; omega)
            have hb : w2[k + 1].toNat ≤ 255 := by have := w2[k + 1].toNat_lt; omega
            have hrow : ((w2.take (k + 1)).map fun b => (b.toNat : Int) - 48).map eI ++ [[dI ((w2[k + 1].toNat : Int) - 48)]] = ((w2.take (k + 1 + 1)).map fun b => (b.toNat : Int) - 48).map eI := by
              rw [← List.take_append_getElem hlt, List.map_append, List.map_append]; rfl
            repeat' (first | (refine AWP.seq ?_) | (refine AWP.region av_ok ?_; conv => whnf) | (refine AWP.ret ?_; conv => whnf) | (refine AWP.skip ?_; conv => whnf) | (refine AWP.exit ?_; conv => whnf) | (refine AWP.block ?_; conv => whnf) | (refine AWP.cond ?_; conv => whnf) | (refine AB.tt ?_; conv => whnf) | (refine AB.ff ?_; conv => whnf) | (refine AB.ofT (by assumption) ?_; conv => whnf) | (refine AB.ofF (by assumption) ?_; conv => whnf) | (refine And.intro rfl ?_; conv => whnf))
            refine' AWP.draw av_ok 10 [[], [0], [], [2], [2, 3], [], [5, 3, 2, 4], [4, 2, 3, 5, 6], [6, 5, 3, 2, 4, 7], [7, 4, 2, 3, 5, 6, 8], [8, 6, 5, 3, 2, 4, 7, 9, 0, 1], [10, 9, 8, 7, 6, 5, 4, 3, 2, 1, 0], [0, 1, 2, 3, 4, 5, 6, 7, 8, 9, 10, 11]] [(_, _), (_, _), (_, _), (_, _), (_, _), (_, _), (_, _), (_, _), (_, _), (_, _)] ?hD ?hok ?hl ?hf ?hno ?ht
            case hD => kernel_rfl
            case hok => kernel_rfl
            case hl => rfl
            case hf => (conv => whnf); repeat' (first | (refine ⟨rfl, rfl⟩) | exact trivial | (refine AIx.at 2 _ rfl rfl ?_; conv => whnf) | (refine ⟨k + 1, w2[k + 1]'hlt, rfl, sget hlt, ?_⟩; conv => whnf) | (refine AW.i64 (by omega) (by omega) ?_; conv => whnf) | (refine And.intro ?_ ?_ <;> conv => whnf))
            case hno => rfl
            case ht =>
              (conv => whnf)
              repeat' (first | (refine AWP.seq ?_) | (refine AWP.region av_ok ?_; conv => whnf) | (refine AWP.ret ?_; conv => whnf) | (refine AWP.skip ?_; conv => whnf) | (refine AWP.exit ?_; conv => whnf) | (refine AWP.block ?_; conv => whnf) | (refine AWP.cond ?_; conv => whnf) | (refine AB.tt ?_; conv => whnf) | (refine AB.ff ?_; conv => whnf) | (refine AB.ofT (by assumption) ?_; conv => whnf) | (refine AB.ofF (by assumption) ?_; conv => whnf) | (refine AW.i64 (by simp only [decide_eq_true_eq, decide_eq_false_iff_not, List.length_map, Bool.not_eq_true', Bool.not_eq_false'] at *; omega) (by simp only [decide_eq_true_eq, decide_eq_false_iff_not, List.length_map, Bool.not_eq_true', Bool.not_eq_false'] at *; omega) ?_; conv => whnf) | (refine all_len (by simp [eI]) ?_; conv => whnf) | (refine sz_app (by simp only [List.length_map, List.length_take, List.length_cons, List.length_nil]; omega) ?_; conv => whnf) | (exact trivial) | (refine And.intro rfl ?_; conv => whnf))
              refine ANext.mk ⟨k + 2, hlt, by omega, ?_, SubO.cons rfl (SubO.cons rfl (SubO.cons (congrArg some (congrArg (AO.row 2 1) hrow)) SubO.nil))⟩
              (conv => whnf); repeat' (first | exact trivial | (refine ⟨rfl, ?_⟩; conv => whnf))
          · have h0 : k + 1 = w2.length := (by simp only [sz_dL, decide_eq_true_eq, decide_eq_false_iff_not, beq_iff_eq, beq_eq_false_iff_ne, List.length_map, Bool.not_eq_true', Bool.not_eq_false', ne_eq] at *; omega)
            have e0 : w2.take (k + 1) = w2 := by rw [h0, List.take_length]
            rw [← e0] at tp h3'
            repeat' (first | (refine AWP.seq ?_) | (refine AWP.region av_ok ?_; conv => whnf) | (refine AWP.ret ?_; conv => whnf) | (refine AWP.skip ?_; conv => whnf) | (refine AWP.exit ?_; conv => whnf) | (refine AWP.block ?_; conv => whnf) | (refine AWP.cond ?_; conv => whnf) | (refine AB.tt ?_; conv => whnf) | (refine AB.ff ?_; conv => whnf) | (refine AB.ofT (by assumption) ?_; conv => whnf) | (refine AB.ofF (by assumption) ?_; conv => whnf) | (refine ACall.scalar tp rfl rfl ?_; conv => whnf) | (exact trivial) | (refine And.intro rfl ?_; conv => whnf) | (refine AB.mk (fun h => ?_) (fun h => ?_) <;> (conv => whnf)) | (with_reducible_and_instances rfl) | (exact (rfl : AP.tup _ = AP.tup _)))
            all_goals (rw [e0]; rfl)
  · have h3' := ne_dec' h3
    rw [if_neg h3]
    refine pcall_of av_ok Tryd.func48 rfl Tryd.call48 Tryd.ntmps48 (congrArg Array.toList Tryd.results48) fun S => ?_; conv => whnf
    repeat' (first | (refine AWP.seq ?_) | (refine AWP.region av_ok ?_; conv => whnf) | (refine AWP.ret ?_; conv => whnf) | (refine AWP.skip ?_; conv => whnf) | (refine AWP.exit ?_; conv => whnf) | (refine AWP.block ?_; conv => whnf) | (refine AWP.cond ?_; conv => whnf) | (refine AB.tt ?_; conv => whnf) | (refine AB.ff ?_; conv => whnf) | (refine AB.ofT (by assumption) ?_; conv => whnf) | (refine AB.ofF (by assumption) ?_; conv => whnf) | (refine ACall.pure sp rfl ?_; conv => whnf) | (exact trivial) | (refine And.intro rfl ?_; conv => whnf) | (refine AB.mk (fun h => ?_) (fun h => ?_) <;> (conv => whnf)) | (with_reducible_and_instances rfl) | (exact (rfl : AP.tup _ = AP.tup _)))
    refine' AWP.draw av_ok 7 [[], [], [1], [1, 2], [2, 1, 3, 0], [0, 3, 1, 2, 4], [], [4, 2, 1, 3, 0, 5, 6]] [(_, _), (_, _), (_, _), (_, _), (_, _), (_, _), (_, _)] ?hD ?hok ?hl ?hf ?hno ?ht
    case hD => kernel_rfl
    case hok => kernel_rfl
    case hl => rfl
    case hf => (conv => whnf); repeat' (first | (refine ⟨rfl, rfl⟩) | exact trivial | (refine AFCall.mk ⟨_, _, sl32Kinds_p, .inl rfl, ?_⟩; conv => whnf) | (refine AFCall.mk ⟨_, _, kp, .inl rfl, ?_⟩; conv => whnf) | (refine AIx.at 0 _ rfl rfl ?_; conv => whnf) | (refine And.intro ?_ ?_ <;> conv => whnf))
    case hno => rfl
    case ht =>
      (conv => whnf)
      repeat' (first | (refine AWP.seq ?_) | (refine AWP.region av_ok ?_; conv => whnf) | (refine AWP.ret ?_; conv => whnf) | (refine AWP.skip ?_; conv => whnf) | (refine AWP.exit ?_; conv => whnf) | (refine AWP.block ?_; conv => whnf) | (refine AWP.cond ?_; conv => whnf) | (refine AB.tt ?_; conv => whnf) | (refine AB.ff ?_; conv => whnf) | (refine AB.ofT (by assumption) ?_; conv => whnf) | (refine AB.ofF (by assumption) ?_; conv => whnf) | (refine AIx.at 1 _ rfl rfl ?_; conv => whnf) | (refine AIx.at 2 _ rfl rfl ?_; conv => whnf) | (refine ACall.pure n1 rfl ?_; conv => whnf) | (refine ACall.pure o1 rfl ?_; conv => whnf) | (refine ACall.pure nd rfl ?_; conv => whnf) | (refine AB.ofT (by decide) ?_; conv => whnf) | (refine AB.ofF (by decide) ?_; conv => whnf) | (exact trivial) | (refine And.intro rfl ?_; conv => whnf) | (refine AB.mk (fun h => ?_) (fun h => ?_) <;> (conv => whnf)) | (with_reducible_and_instances rfl) | (exact (rfl : AP.tup _ = AP.tup _)))
      refine AWP.loopS (fun k : Nat => k ≤ w2.length) [6, 71, 72, 73, 74, 75, 76, 77, 78, 79, 80, 81, 82, 83, 84, 85, 86, 87, 88, 89, 90, 91, 92, 93, 94, 95] (fun k => [(6, vI .i64 (k : Int))]) (fun k => falO (nodeIx w1) w2 k) (fun k => w2.length - k) 0 (by omega) ?_ (SubO.cons rfl (SubO.cons rfl SubO.nil)) (fun k hR => ?_) <;> (conv => whnf)
      · repeat' (first | exact trivial | (refine And.intro rfl ?_; conv => whnf))
      · cases k with
        | zero =>
          repeat' (first | (refine AWP.seq ?_) | (refine AWP.region av_ok ?_; conv => whnf) | (refine AWP.ret ?_; conv => whnf) | (refine AWP.skip ?_; conv => whnf) | (refine AWP.exit ?_; conv => whnf) | (refine AWP.block ?_; conv => whnf) | (refine AWP.cond ?_; conv => whnf) | (refine AB.tt ?_; conv => whnf) | (refine AB.ff ?_; conv => whnf) | (refine AB.ofT (by assumption) ?_; conv => whnf) | (refine AB.ofF (by assumption) ?_; conv => whnf) | (refine AIx.at 1 _ rfl rfl ?_; conv => whnf) | (refine AIx.at 2 _ rfl rfl ?_; conv => whnf) | (refine And.intro rfl ?_; conv => whnf))
          refine AB.mk (fun h => ?_) (fun h => ?_) <;> (conv => whnf)
          · have hlt : 0 < w2.length := (by simp only [sz_dL, decide_eq_true_eq, decide_eq_false_iff_not, beq_iff_eq, beq_eq_false_iff_ne, List.length_map, Bool.not_eq_true', Bool.not_eq_false', ne_eq] at *; omega)
            have hb : w2[0].toNat ≤ 255 := by have := w2[0].toNat_lt; omega
            have hrow : [[dI ((w2[0].toNat : Int) - 48)]] = ((w2.take 1).map fun b => (b.toNat : Int) - 48).map eI := by
              have := List.take_append_getElem hlt
              rw [← this]; rfl
            repeat' (first | (refine AWP.seq ?_) | (refine AWP.region av_ok ?_; conv => whnf) | (refine AWP.ret ?_; conv => whnf) | (refine AWP.skip ?_; conv => whnf) | (refine AWP.exit ?_; conv => whnf) | (refine AWP.block ?_; conv => whnf) | (refine AWP.cond ?_; conv => whnf) | (refine AB.tt ?_; conv => whnf) | (refine AB.ff ?_; conv => whnf) | (refine AB.ofT (by assumption) ?_; conv => whnf) | (refine AB.ofF (by assumption) ?_; conv => whnf) | (refine And.intro rfl ?_; conv => whnf))
            refine' AWP.draw av_ok 10 [[], [0], [], [2], [2, 3], [], [5, 3, 2, 4], [4, 2, 3, 5, 6], [6, 5, 3, 2, 4, 7], [7, 4, 2, 3, 5, 6, 8], [8, 6, 5, 3, 2, 4, 7, 9, 0, 1], [10, 9, 8, 7, 6, 5, 4, 3, 2, 1, 0], [0, 1, 2, 3, 4, 5, 6, 7, 8, 9, 10, 11]] [(_, _), (_, _), (_, _), (_, _), (_, _), (_, _), (_, _), (_, _), (_, _), (_, _)] ?hD ?hok ?hl ?hf ?hno ?ht
            case hD => kernel_rfl
            case hok => kernel_rfl
            case hl => rfl
            case hf => (conv => whnf); repeat' (first | (refine ⟨rfl, rfl⟩) | exact trivial | (refine AIx.at 2 _ rfl rfl ?_; conv => whnf) | (refine ⟨0, w2[0]'hlt, rfl, sget hlt, ?_⟩; conv => whnf) | (refine AW.i64 (by omega) (by omega) ?_; conv => whnf) | (refine And.intro ?_ ?_ <;> conv => whnf))
            case hno => rfl
            case ht =>
              (conv => whnf)
              repeat' (first | (refine AWP.seq ?_) | (refine AWP.region av_ok ?_; conv => whnf) | (refine AWP.ret ?_; conv => whnf) | (refine AWP.skip ?_; conv => whnf) | (refine AWP.exit ?_; conv => whnf) | (refine AWP.block ?_; conv => whnf) | (refine AWP.cond ?_; conv => whnf) | (refine AB.tt ?_; conv => whnf) | (refine AB.ff ?_; conv => whnf) | (refine AB.ofT (by assumption) ?_; conv => whnf) | (refine AB.ofF (by assumption) ?_; conv => whnf) | (refine AW.i64 (by simp only [decide_eq_true_eq, decide_eq_false_iff_not, List.length_map, Bool.not_eq_true', Bool.not_eq_false'] at *; omega) (by simp only [decide_eq_true_eq, decide_eq_false_iff_not, List.length_map, Bool.not_eq_true', Bool.not_eq_false'] at *; omega) ?_; conv => whnf) | (refine all_len (by simp [eI]) ?_; conv => whnf) | (refine sz_app (by simp only [List.length_map, List.length_take, List.length_cons, List.length_nil]; omega) ?_; conv => whnf) | (exact trivial) | (refine And.intro rfl ?_; conv => whnf))
              refine ANext.mk ⟨1, hlt, by omega, ?_, SubO.cons rfl (SubO.cons rfl (SubO.cons (congrArg some (congrArg (AO.row 2 1) hrow)) SubO.nil))⟩
              (conv => whnf); repeat' (first | exact trivial | (refine ⟨rfl, ?_⟩; conv => whnf))
          · have h0 : w2.length = 0 := (by simp only [sz_dL, decide_eq_true_eq, decide_eq_false_iff_not, beq_iff_eq, beq_eq_false_iff_ne, List.length_map, Bool.not_eq_true', Bool.not_eq_false', ne_eq] at *; omega)
            have e0 : w2 = [] := List.eq_nil_of_length_eq_zero h0
            subst e0
            repeat' (first | (refine AWP.seq ?_) | (refine AWP.region av_ok ?_; conv => whnf) | (refine AWP.ret ?_; conv => whnf) | (refine AWP.skip ?_; conv => whnf) | (refine AWP.exit ?_; conv => whnf) | (refine AWP.block ?_; conv => whnf) | (refine AWP.cond ?_; conv => whnf) | (refine AB.tt ?_; conv => whnf) | (refine AB.ff ?_; conv => whnf) | (refine AB.ofT (by assumption) ?_; conv => whnf) | (refine AB.ofF (by assumption) ?_; conv => whnf) | (refine ACall.pure tp rfl ?_; conv => whnf) | (exact trivial) | (refine And.intro rfl ?_; conv => whnf) | (refine AB.mk (fun h => ?_) (fun h => ?_) <;> (conv => whnf)) | (with_reducible_and_instances rfl) | (exact (rfl : AP.tup _ = AP.tup _)))
        | succ k =>
          repeat' (first | (refine AWP.seq ?_) | (refine AWP.region av_ok ?_; conv => whnf) | (refine AWP.ret ?_; conv => whnf) | (refine AWP.skip ?_; conv => whnf) | (refine AWP.exit ?_; conv => whnf) | (refine AWP.block ?_; conv => whnf) | (refine AWP.cond ?_; conv => whnf) | (refine AB.tt ?_; conv => whnf) | (refine AB.ff ?_; conv => whnf) | (refine AB.ofT (by assumption) ?_; conv => whnf) | (refine AB.ofF (by assumption) ?_; conv => whnf) | (refine AIx.at 1 _ rfl rfl ?_; conv => whnf) | (refine AIx.at 2 _ rfl rfl ?_; conv => whnf) | (refine And.intro rfl ?_; conv => whnf))
          refine AB.mk (fun h => ?_) (fun h => ?_) <;> (conv => whnf)
          · have hlt : k + 1 < w2.length := (by simp only [sz_dL, decide_eq_true_eq, decide_eq_false_iff_not, beq_iff_eq, beq_eq_false_iff_ne, List.length_map, Bool.not_eq_true', Bool.not_eq_false', ne_eq] at *; omega)
            have hb : w2[k + 1].toNat ≤ 255 := by have := w2[k + 1].toNat_lt; omega
            have hrow : ((w2.take (k + 1)).map fun b => (b.toNat : Int) - 48).map eI ++ [[dI ((w2[k + 1].toNat : Int) - 48)]] = ((w2.take (k + 1 + 1)).map fun b => (b.toNat : Int) - 48).map eI := by
              rw [← List.take_append_getElem hlt, List.map_append, List.map_append]; rfl
            repeat' (first | (refine AWP.seq ?_) | (refine AWP.region av_ok ?_; conv => whnf) | (refine AWP.ret ?_; conv => whnf) | (refine AWP.skip ?_; conv => whnf) | (refine AWP.exit ?_; conv => whnf) | (refine AWP.block ?_; conv => whnf) | (refine AWP.cond ?_; conv => whnf) | (refine AB.tt ?_; conv => whnf) | (refine AB.ff ?_; conv => whnf) | (refine AB.ofT (by assumption) ?_; conv => whnf) | (refine AB.ofF (by assumption) ?_; conv => whnf) | (refine And.intro rfl ?_; conv => whnf))
            refine' AWP.draw av_ok 10 [[], [0], [], [2], [2, 3], [], [5, 3, 2, 4], [4, 2, 3, 5, 6], [6, 5, 3, 2, 4, 7], [7, 4, 2, 3, 5, 6, 8], [8, 6, 5, 3, 2, 4, 7, 9, 0, 1], [10, 9, 8, 7, 6, 5, 4, 3, 2, 1, 0], [0, 1, 2, 3, 4, 5, 6, 7, 8, 9, 10, 11]] [(_, _), (_, _), (_, _), (_, _), (_, _), (_, _), (_, _), (_, _), (_, _), (_, _)] ?hD ?hok ?hl ?hf ?hno ?ht
            case hD => kernel_rfl
            case hok => kernel_rfl
            case hl => rfl
            case hf => (conv => whnf); repeat' (first | (refine ⟨rfl, rfl⟩) | exact trivial | (refine AIx.at 2 _ rfl rfl ?_; conv => whnf) | (refine ⟨k + 1, w2[k + 1]'hlt, rfl, sget hlt, ?_⟩; conv => whnf) | (refine AW.i64 (by omega) (by omega) ?_; conv => whnf) | (refine And.intro ?_ ?_ <;> conv => whnf))
            case hno => rfl
            case ht =>
              (conv => whnf)
              repeat' (first | (refine AWP.seq ?_) | (refine AWP.region av_ok ?_; conv => whnf) | (refine AWP.ret ?_; conv => whnf) | (refine AWP.skip ?_; conv => whnf) | (refine AWP.exit ?_; conv => whnf) | (refine AWP.block ?_; conv => whnf) | (refine AWP.cond ?_; conv => whnf) | (refine AB.tt ?_; conv => whnf) | (refine AB.ff ?_; conv => whnf) | (refine AB.ofT (by assumption) ?_; conv => whnf) | (refine AB.ofF (by assumption) ?_; conv => whnf) | (refine AW.i64 (by simp only [decide_eq_true_eq, decide_eq_false_iff_not, List.length_map, Bool.not_eq_true', Bool.not_eq_false'] at *; omega) (by simp only [decide_eq_true_eq, decide_eq_false_iff_not, List.length_map, Bool.not_eq_true', Bool.not_eq_false'] at *; omega) ?_; conv => whnf) | (refine all_len (by simp [eI]) ?_; conv => whnf) | (refine sz_app (by simp only [List.length_map, List.length_take, List.length_cons, List.length_nil]; omega) ?_; conv => whnf) | (exact trivial) | (refine And.intro rfl ?_; conv => whnf))
              refine ANext.mk ⟨k + 2, hlt, by omega, ?_, SubO.cons rfl (SubO.cons rfl (SubO.cons (congrArg some (congrArg (AO.row 2 1) hrow)) SubO.nil))⟩
              (conv => whnf); repeat' (first | exact trivial | (refine ⟨rfl, ?_⟩; conv => whnf))
          · have h0 : k + 1 = w2.length := (by simp only [sz_dL, decide_eq_true_eq, decide_eq_false_iff_not, beq_iff_eq, beq_eq_false_iff_ne, List.length_map, Bool.not_eq_true', Bool.not_eq_false', ne_eq] at *; omega)
            have e0 : w2.take (k + 1) = w2 := by rw [h0, List.take_length]
            rw [← e0] at tp h3'
            repeat' (first | (refine AWP.seq ?_) | (refine AWP.region av_ok ?_; conv => whnf) | (refine AWP.ret ?_; conv => whnf) | (refine AWP.skip ?_; conv => whnf) | (refine AWP.exit ?_; conv => whnf) | (refine AWP.block ?_; conv => whnf) | (refine AWP.cond ?_; conv => whnf) | (refine AB.tt ?_; conv => whnf) | (refine AB.ff ?_; conv => whnf) | (refine AB.ofT (by assumption) ?_; conv => whnf) | (refine AB.ofF (by assumption) ?_; conv => whnf) | (refine ACall.scalar tp rfl rfl ?_; conv => whnf) | (exact trivial) | (refine And.intro rfl ?_; conv => whnf) | (refine AB.mk (fun h => ?_) (fun h => ?_) <;> (conv => whnf)) | (with_reducible_and_instances rfl) | (exact (rfl : AP.tup _ = AP.tup _)))
end Go.Proofs.YtlhanpkfnhnegaaDoor
/- TextStep: the plain law. -/
namespace Go.Proofs.YtlhanpkfnhnegaaDoor
open Go.RowKit

/-- What the program reads of a step. -/
noncomputable def scStep (w0 : List UInt8) (s : Sc) : DStep × Sc :=
  if implKind w0 = 5 then (if (scNode s).2.ws = [] then (⟨5, (scNode s).1, 0, 0, []⟩, (scNode s).2) else (⟨5, (scNode s).1, 0, 0, fatesOf (scNode s).2.cur⟩, scFates (scNode s).2))
  else (⟨implKind w0, (stRead (implKind w0) s).a, (stRead (implKind w0) s).b, (stRead (implKind w0) s).c, []⟩, (stRead (implKind w0) s).s)
noncomputable def iTextStepL (l : List UInt8) : DStep × Bool :=
  if (scStep (Sc.start l).cur (Sc.start l).next).2.over && stepOk (scStep (Sc.start l).cur (Sc.start l).next).1 then ((scStep (Sc.start l).cur (Sc.start l).next).1, true) else (stpZ, false)

theorem rd_num {s : Sc} {x : Int} {r : List (List UInt8)} (hb : s.bad = false) (hw : s.ws = Lib.itoa x :: r) (h0 : 0 ≤ x ∧ x ≤ 1000000000) : (scNum s).1 = x ∧ (scNum s).2.bad = false ∧ (scNum s).2.ws = r := by
  have h := scNum_good hw (numOf_itoa9 h0.1 h0.2)
  refine ⟨by rw [h.1]; omega, by rw [h.2, hb], by rw [scNum_ws, hw]; rfl⟩
theorem rd_node {s : Sc} {x : Int} {r : List (List UInt8)} (hb : s.bad = false) (hw : s.ws = nodeWordL x :: r) (h0 : 0 ≤ x ∧ x ≤ 5) : (scNode s).1 = x ∧ (scNode s).2.bad = false ∧ (scNode s).2.ws = r := by
  have hn := (nodeWord_facts h0).1
  have h := scNode_good hw (by rw [hn]; exact h0.1)
  refine ⟨by rw [h.1, hn], by rw [h.2, hb], by rw [scNode_ws, hw]; rfl⟩
theorem num_rd {s : Sc} (h : (scNum s).2.bad = false) : s.bad = false ∧ s.ws = Lib.itoa (scNum s).1 :: (scNum s).2.ws := by
  obtain ⟨hb, w, r, v, hw, hv⟩ := scNum_bad h
  have g := scNum_good hw hv
  refine ⟨hb, ?_⟩
  rw [scNum_ws, g.1, hw, itoa_nat, ← (numOf_iff.1 hv).1]; rfl
theorem node_rd {s : Sc} (h : (scNode s).2.bad = false) : s.bad = false ∧ s.ws = nodeWordL (scNode s).1 :: (scNode s).2.ws := by
  obtain ⟨hb, w, r, hw, hv⟩ := scNode_bad h
  have g := scNode_good hw hv
  refine ⟨hb, ?_⟩
  rw [scNode_ws, g.1, hw, nodeIx_word hv]; rfl
theorem fateL_of (w : List UInt8) : fateL (w.map fun b => (b.toNat : Int) - 48) = w := by
  unfold fateL
  rw [List.map_map]
  conv => rhs; rw [← List.map_id w]
  refine List.map_congr_left fun b _ => ?_
  simp only [Function.comp, id]
  rw [show (48 + ((b.toNat : Int) - 48)).toNat = b.toNat by omega]
  exact UInt8.ofNat_toNat
theorem fates_mem {f : List Int} (h : fatesB f = true) : f.length ≤ 120 ∧ ∀ x ∈ f, 0 ≤ x ∧ x ≤ 2 := by
  simp only [fatesB, Bool.and_eq_true, decide_eq_true_eq, List.all_eq_true] at h
  exact ⟨h.1, fun x hx => by have := h.2 x hx; simpa [betweenB_iff] using this⟩
theorem of_fateL {f : List Int} (h : fatesB f = true) : (fateL f).map (fun b => (b.toNat : Int) - 48) = f := by
  unfold fateL
  rw [List.map_map]
  conv => rhs; rw [← List.map_id f]
  refine List.map_congr_left fun x hx => ?_
  have := (fates_mem h).2 x hx
  have : x = 0 ∨ x = 1 ∨ x = 2 := by omega
  rcases this with rfl | rfl | rfl <;> decide
theorem fateL_no {f : List Int} (h : fatesB f = true) : (32 : UInt8) ∉ fateL f := by
  intro hm
  obtain ⟨x, hx, he⟩ := List.mem_map.1 hm
  have := (fates_mem h).2 x hx
  have : x = 0 ∨ x = 1 ∨ x = 2 := by omega
  rcases this with rfl | rfl | rfl <;> exact absurd he (by decide)
theorem kindL_no {k : Int} (h : 1 ≤ k ∧ k ≤ 11) : (32 : UInt8) ∉ kindL k := by
  rcases kind_cases h.1 h.2 with rfl | rfl | rfl | rfl | rfl | rfl | rfl | rfl | rfl | rfl | rfl <;> decide
/-- The forms of good steps. -/
inductive StepF : DStep → Prop
  | num (k a : Int) (hk : k = 1 ∨ k = 7 ∨ k = 8) (ha : 0 ≤ a ∧ a ≤ 1000000000) : StepF ⟨k, a, 0, 0, []⟩
  | node (k a : Int) (hk : k = 2 ∨ k = 6) (ha : 0 ≤ a ∧ a ≤ 5) : StepF ⟨k, a, 0, 0, []⟩
  | time (k a b : Int) (hk : k = 3 ∨ k = 4) (ha : 0 ≤ a ∧ a ≤ 5) (hb : 0 ≤ b ∧ b ≤ 1000000000) : StepF ⟨k, a, b, 0, []⟩
  | cut (k a b : Int) (hk : k = 9 ∨ k = 10) (ha : 0 ≤ a ∧ a ≤ 5) (hb : 0 ≤ b ∧ b ≤ 5) : StepF ⟨k, a, b, 0, []⟩
  | rot (a b c : Int) (ha : 0 ≤ a ∧ a ≤ 1000000000) (hb : 0 ≤ b ∧ b ≤ 1000000000) (hc : 0 ≤ c ∧ c ≤ 1000000000) : StepF ⟨11, a, b, c, []⟩
  | fall (a : Int) (f : List Int) (ha : 0 ≤ a ∧ a ≤ 5) (hf : fatesB f = true) : StepF ⟨5, a, 0, 0, f⟩
theorem stepF_of {x : DStep} (h : stepOk x = true) : StepF x := by
  have hF := stepOk_facts h
  obtain ⟨k, a, b, c, f⟩ := x
  simp only at hF
  have hc : k ≠ 11 → c = 0 := by
    intro hk
    have h2 := h
    simp only [stepOk, stepNums, Bool.and_eq_true, Bool.not_eq_true', Bool.and_eq_false_iff, decide_eq_false_iff_not] at h2
    have h3 := h2.1.2
    rcases h3 with h3 | h3
    · omega
    · simp [hk] at h3
  have hs : stepKind ⟨k, a, b, c, f⟩ = true := by
    simp only [stepOk, Bool.and_eq_true] at h
    exact h.2
  clear h
  obtain ⟨hk, ha, hb, hcc, hf, hf5⟩ := hF
  rcases kind_cases hk.1 hk.2 with rfl | rfl | rfl | rfl | rfl | rfl | rfl | rfl | rfl | rfl | rfl
  all_goals simp [stepKind, betweenB_iff] at hs
  all_goals simp at hc hf5
  all_goals subst_vars
  · exact .num 1 a (.inl rfl) ha
  · obtain rfl : b = 0 := by omega
    exact .node 2 a (.inl rfl) (by omega)
  · exact .time 3 a b (.inl rfl) (by omega) hb
  · exact .time 4 a b (.inr rfl) (by omega) hb
  · obtain rfl : b = 0 := by omega
    exact .fall a f (by omega) hf
  · obtain rfl : b = 0 := by omega
    exact .node 6 a (.inr rfl) (by omega)
  · exact .num 7 a (.inr (.inl rfl)) ha
  · exact .num 8 a (.inr (.inr rfl)) ha
  · exact .cut 9 a b (.inl rfl) (by omega) (by omega)
  · exact .cut 10 a b (.inr rfl) (by omega) (by omega)
  · exact .rot a b c ha hb hcc
end Go.Proofs.YtlhanpkfnhnegaaDoor
/- TextStep: what the program reads is what the reference reads. -/
namespace Go.Proofs.YtlhanpkfnhnegaaDoor
open Go.RowKit

theorem scStep_zero {w0 : List UInt8} (hk : implKind w0 = 0) (s : Sc) : scStep w0 s = (⟨0, 0, 0, 0, []⟩, s) := by
  unfold scStep; rw [hk]; simp [stRead]
theorem scStep_num {w0 : List UInt8} {k : Int} (hk : implKind w0 = k) (h : k = 1 ∨ k = 7 ∨ k = 8) (s : Sc) : scStep w0 s = (⟨k, (scNum s).1, 0, 0, []⟩, (scNum s).2) := by
  unfold scStep; rw [hk]; rcases h with rfl | rfl | rfl <;> simp [stRead, rNum]
theorem scStep_node {w0 : List UInt8} {k : Int} (hk : implKind w0 = k) (h : k = 2 ∨ k = 6) (s : Sc) : scStep w0 s = (⟨k, (scNode s).1, 0, 0, []⟩, (scNode s).2) := by
  unfold scStep; rw [hk]; rcases h with rfl | rfl <;> simp [stRead, rNode]
theorem scStep_time {w0 : List UInt8} {k : Int} (hk : implKind w0 = k) (h : k = 3 ∨ k = 4) (s : Sc) : scStep w0 s = (⟨k, (scNode s).1, (scNum (scNode s).2).1, 0, []⟩, (scNum (scNode s).2).2) := by
  unfold scStep; rw [hk]; rcases h with rfl | rfl <;> simp [stRead, rNodeNum]
theorem scStep_cut {w0 : List UInt8} {k : Int} (hk : implKind w0 = k) (h : k = 9 ∨ k = 10) (s : Sc) : scStep w0 s = (⟨k, (scNode s).1, (scNode (scNode s).2).1, 0, []⟩, (scNode (scNode s).2).2) := by
  unfold scStep; rw [hk]; rcases h with rfl | rfl <;> simp [stRead, rNodeNode]
theorem scStep_rot {w0 : List UInt8} (hk : implKind w0 = 11) (s : Sc) : scStep w0 s = (⟨11, (scNum s).1, (scNum (scNum s).2).1, (scNum (scNum (scNum s).2).2).1, []⟩, (scNum (scNum (scNum s).2).2).2) := by
  unfold scStep; rw [hk]; simp [stRead, rNum3]
theorem scStep_fall {w0 : List UInt8} (hk : implKind w0 = 5) (s : Sc) : scStep w0 s = if (scNode s).2.ws = [] then (⟨5, (scNode s).1, 0, 0, []⟩, (scNode s).2) else (⟨5, (scNode s).1, 0, 0, fatesOf (scNode s).2.cur⟩, scFates (scNode s).2) := by
  unfold scStep; rw [hk]; simp
theorem sw_num {k : Int} (a : Int) (h : k = 1 ∨ k = 7 ∨ k = 8) : stepWords ⟨k, a, 0, 0, []⟩ = [kindL k, Lib.itoa a] := by
  rcases h with rfl | rfl | rfl <;> simp [stepWords]
theorem sw_node {k : Int} (a : Int) (h : k = 2 ∨ k = 6) : stepWords ⟨k, a, 0, 0, []⟩ = [kindL k, nodeWordL a] := by
  rcases h with rfl | rfl <;> simp [stepWords]
theorem sw_time {k : Int} (a b : Int) (h : k = 3 ∨ k = 4) : stepWords ⟨k, a, b, 0, []⟩ = [kindL k, nodeWordL a, Lib.itoa b] := by
  rcases h with rfl | rfl <;> simp [stepWords]
theorem sw_cut {k : Int} (a b : Int) (h : k = 9 ∨ k = 10) : stepWords ⟨k, a, b, 0, []⟩ = [kindL k, nodeWordL a, nodeWordL b] := by
  rcases h with rfl | rfl <;> simp [stepWords]
theorem sw_rot (a b c : Int) : stepWords ⟨11, a, b, c, []⟩ = [kindL 11, Lib.itoa a, Lib.itoa b, Lib.itoa c] := by simp [stepWords]
theorem sw_fall (a : Int) (f : List Int) : stepWords ⟨5, a, 0, 0, f⟩ = kindL 5 :: nodeWordL a :: (if f = [] then [] else [fateL f]) := by simp [stepWords]
theorem start_next {l w0 : List UInt8} {r : List (List UInt8)} (hw : wordsL 32 l = w0 :: r) : (Sc.start l).cur = w0 ∧ (Sc.start l).next.bad = false ∧ (Sc.start l).next.ws = r := by
  unfold Sc.start; rw [hw]; exact ⟨rfl, rfl, rfl⟩
theorem implKind_word {k : Int} (h : 1 ≤ k ∧ k ≤ 11) : implKind (kindL k) = k := by
  have := (stIx_word h).2 rfl
  unfold implKind; rw [this, if_neg (by omega)]
theorem word_implKind {w : List UInt8} {k : Int} (hk : implKind w = k) (h : 1 ≤ k) : kindL k = w := by
  have hr := stIx_range w
  unfold implKind at hk
  split at hk
  · omega
  · exact (stIx_word ⟨h, by omega⟩).1 hk
theorem fin_yes {y : DStep × Sc} {x : DStep} (h1 : y.1 = x) (hb : y.2.bad = false) (hw : y.2.ws = []) (hok : stepOk x = true) : (if y.2.over && stepOk y.1 then (y.1, true) else (stpZ, false)) = (x, true) := by
  rw [h1, hok]; simp [Sc.over, hb, hw]
theorem fatesOf_fateL {f : List Int} (h : fatesB f = true) : fatesOf (fateL f) = f := by
  have hl : (fateL f).length ≤ 121 := by rw [fateL_len]; have := (fates_mem h).1; omega
  unfold fatesOf
  rw [List.take_of_length_le hl, of_fateL h]
theorem next_of {s : Sc} {w : List UInt8} {r : List (List UInt8)} (hw : s.ws = w :: r) : s.next.bad = s.bad ∧ s.next.ws = r := by
  unfold Sc.next; rw [hw]; exact ⟨rfl, rfl⟩
theorem iStep_complete {x : DStep} {l : List UInt8} (h : stepOk x = true) (hw : wordsL 32 l = stepWords x) : iTextStepL l = (x, true) := by
  have hF := stepF_of h
  unfold iTextStepL
  cases hF with
  | num k a hk ha =>
    rw [sw_num a hk] at hw
    obtain ⟨h1, h2, h3⟩ := start_next hw
    have r1 := rd_num h2 h3 ha
    rw [h1, scStep_num (implKind_word (by omega)) hk]
    exact fin_yes (by rw [r1.1]) r1.2.1 r1.2.2 h
  | node k a hk ha =>
    rw [sw_node a hk] at hw
    obtain ⟨h1, h2, h3⟩ := start_next hw
    have r1 := rd_node h2 h3 ha
    rw [h1, scStep_node (implKind_word (by omega)) hk]
    exact fin_yes (by rw [r1.1]) r1.2.1 r1.2.2 h
  | time k a b hk ha hb =>
    rw [sw_time a b hk] at hw
    obtain ⟨h1, h2, h3⟩ := start_next hw
    have r1 := rd_node h2 h3 ha
    have r2 := rd_num r1.2.1 r1.2.2 hb
    rw [h1, scStep_time (implKind_word (by omega)) hk]
    exact fin_yes (by rw [r1.1, r2.1]) r2.2.1 r2.2.2 h
  | cut k a b hk ha hb =>
    rw [sw_cut a b hk] at hw
    obtain ⟨h1, h2, h3⟩ := start_next hw
    have r1 := rd_node h2 h3 ha
    have r2 := rd_node r1.2.1 r1.2.2 hb
    rw [h1, scStep_cut (implKind_word (by omega)) hk]
    exact fin_yes (by rw [r1.1, r2.1]) r2.2.1 r2.2.2 h
  | rot a b c ha hb hc =>
    rw [sw_rot a b c] at hw
    obtain ⟨h1, h2, h3⟩ := start_next hw
    have r1 := rd_num h2 h3 ha
    have r2 := rd_num r1.2.1 r1.2.2 hb
    have r3 := rd_num r2.2.1 r2.2.2 hc
    rw [h1, scStep_rot (implKind_word (by omega))]
    exact fin_yes (by rw [r1.1, r2.1, r3.1]) r3.2.1 r3.2.2 h
  | fall a f ha hf =>
    rw [sw_fall a f] at hw
    obtain ⟨h1, h2, h3⟩ := start_next hw
    have r1 := rd_node h2 h3 ha
    rw [h1, scStep_fall (implKind_word (by omega))]
    by_cases hfn : f = []
    · subst hfn
      rw [if_pos rfl] at r1
      rw [if_pos r1.2.2]
      exact fin_yes (by rw [r1.1]) r1.2.1 r1.2.2 h
    · rw [if_neg hfn] at r1
      have hcur : (scNode (Sc.start l).next).2.cur = fateL f := by unfold Sc.cur; rw [r1.2.2]; rfl
      have hne : fateL f ≠ [] := by
        intro e
        have := fateL_len f
        rw [e] at this
        exact hfn (List.eq_nil_of_length_eq_zero this.symm)
      rw [if_neg (show ¬ (scNode (Sc.start l).next).2.ws = [] by rw [r1.2.2]; simp)]
      refine fin_yes (y := (⟨5, (scNode (Sc.start l).next).1, 0, 0, fatesOf (scNode (Sc.start l).next).2.cur⟩, scFates (scNode (Sc.start l).next).2)) (by rw [r1.1, hcur, fatesOf_fateL hf]) ?_ ?_ h
      · show (scFates (scNode (Sc.start l).next).2).bad = false
        unfold scFates
        rw [hcur, if_neg hne]
        exact (next_of r1.2.2).1.trans r1.2.1
      · show (scFates (scNode (Sc.start l).next).2).ws = []
        unfold scFates
        rw [hcur, if_neg hne]
        exact (next_of r1.2.2).2
theorem over_of {s : Sc} (h : s.over = true) : s.bad = false ∧ s.ws = [] := by
  simp only [Sc.over, Bool.and_eq_true, Bool.not_eq_true', List.isEmpty_iff] at h
  exact ⟨h.2, h.1⟩
theorem iStep_sound {l : List UInt8} (h : (iTextStepL l).2 = true) : ∃ x, iTextStepL l = (x, true) ∧ stepOk x = true ∧ wordsL 32 l = stepWords x := by
  obtain ⟨w0, r, hw⟩ := wordsL_split (c := 32) (s := l)
  obtain ⟨h1, h2, h3⟩ := start_next hw
  unfold iTextStepL at h ⊢
  rw [h1] at h ⊢
  rw [hw]
  generalize (Sc.start l).next = s at *
  split at h
  · rename_i hc
    rw [if_pos hc]
    refine ⟨_, rfl, ?_⟩
    rw [Bool.and_eq_true] at hc
    obtain ⟨hov, hok⟩ := hc
    refine ⟨hok, ?_⟩
    obtain ⟨tb, tw⟩ := over_of hov
    clear hov h
    have hr := implKind_range w0
    generalize hk : implKind w0 = k at hr
    by_cases k0 : k = 0
    · subst k0
      rw [scStep_zero hk] at hok
      have hok : stepOk ⟨0, 0, 0, 0, []⟩ = true := hok
      exact absurd hok (by decide)
    have hkw := word_implKind hk (by omega)
    rcases kind_cases (k := k) (by omega) (by omega) with e | e | e | e | e | e | e | e | e | e | e
    case inl | inr.inr.inr.inr.inr.inr.inl | inr.inr.inr.inr.inr.inr.inr.inl =>
      rw [scStep_num hk (by omega)] at tb tw ⊢
      have g := num_rd tb
      rw [sw_num _ (by omega), hkw, ← h3, g.2, tw]
    case inr.inl | inr.inr.inr.inr.inr.inl =>
      rw [scStep_node hk (by omega)] at tb tw ⊢
      have g := node_rd tb
      rw [sw_node _ (by omega), hkw, ← h3, g.2, tw]
    case inr.inr.inl | inr.inr.inr.inl =>
      rw [scStep_time hk (by omega)] at tb tw ⊢
      have g := num_rd tb
      have g1 := node_rd g.1
      rw [sw_time _ _ (by omega), hkw, ← h3, g1.2, g.2, tw]
    case inr.inr.inr.inr.inr.inr.inr.inr.inl | inr.inr.inr.inr.inr.inr.inr.inr.inr.inl =>
      rw [scStep_cut hk (by omega)] at tb tw ⊢
      have g := node_rd tb
      have g1 := node_rd g.1
      rw [sw_cut _ _ (by omega), hkw, ← h3, g1.2, g.2, tw]
    case inr.inr.inr.inr.inr.inr.inr.inr.inr.inr =>
      subst e
      rw [scStep_rot hk] at tb tw ⊢
      have g := num_rd tb
      have g1 := num_rd g.1
      have g2 := num_rd g1.1
      rw [sw_rot, hkw, ← h3, g2.2, g1.2, g.2, tw]
    case inr.inr.inr.inr.inl =>
      subst e
      rw [scStep_fall hk] at tb tw hok ⊢
      split at tb
      · rename_i hn
        rw [if_pos hn]
        have g := node_rd tb
        rw [sw_fall, if_pos rfl, hkw, ← h3, g.2, hn]
      · rename_i hn
        rw [if_neg hn] at tw hok ⊢
        simp only at tb tw hok ⊢
        obtain ⟨ws1, b1, a1⟩ : ∃ ws1 b1 a1, (scNode s).2 = ⟨ws1, b1, a1⟩ := ⟨_, _, _, rfl⟩
        obtain ⟨a1, e2⟩ := a1
        cases ws1 with
        | nil => exact absurd (by rw [e2]) hn
        | cons v ws1 =>
          have hcur : (scNode s).2.cur = v := by rw [e2]; rfl
          have hv : v ≠ [] := by
            rintro rfl
            rw [scFates, if_pos hcur] at tb
            cases tb
          rw [scFates, if_neg (by rw [hcur]; exact hv), e2] at tb tw
          have hb1 : b1 = false := tb
          have hw1 : ws1 = [] := tw
          have g := node_rd (s := s) (by rw [e2]; exact hb1)
          have hfl := (fates_mem (stepOk_facts hok).2.2.2.2.1).1
          have hlen : v.length ≤ 121 := by
            simp only [hcur, fatesOf, List.length_map, List.length_take] at hfl
            omega
          have hfo : fatesOf v = v.map fun b => (b.toNat : Int) - 48 := by unfold fatesOf; rw [List.take_of_length_le hlen]
          rw [hcur, hfo, sw_fall, if_neg (by simpa using hv), fateL_of, hkw, ← h3, g.2, e2, hw1]
  · cases h
end Go.Proofs.YtlhanpkfnhnegaaDoor
/- TextStep: the reference's side, and that both are one. -/
namespace Go.Proofs.YtlhanpkfnhnegaaDoor
open Go.RowKit

theorem stepWords_no {x : DStep} (h : stepOk x = true) : ∀ w ∈ stepWords x, (32 : UInt8) ∉ w := by
  have hF := stepF_of h
  cases hF with
  | num k a hk ha =>
    rw [sw_num a hk]
    intro w hw
    simp only [List.mem_cons, List.not_mem_nil, or_false] at hw
    rcases hw with rfl | rfl
    · exact kindL_no (by omega)
    · exact no32_itoa ha.1
  | node k a hk ha =>
    rw [sw_node a hk]
    intro w hw
    simp only [List.mem_cons, List.not_mem_nil, or_false] at hw
    rcases hw with rfl | rfl
    · exact kindL_no (by omega)
    · exact (nodeWord_facts ha).2.1
  | time k a b hk ha hb =>
    rw [sw_time a b hk]
    intro w hw
    simp only [List.mem_cons, List.not_mem_nil, or_false] at hw
    rcases hw with rfl | rfl | rfl
    · exact kindL_no (by omega)
    · exact (nodeWord_facts ha).2.1
    · exact no32_itoa hb.1
  | cut k a b hk ha hb =>
    rw [sw_cut a b hk]
    intro w hw
    simp only [List.mem_cons, List.not_mem_nil, or_false] at hw
    rcases hw with rfl | rfl | rfl
    · exact kindL_no (by omega)
    · exact (nodeWord_facts ha).2.1
    · exact (nodeWord_facts hb).2.1
  | rot a b c ha hb hc =>
    rw [sw_rot a b c]
    intro w hw
    simp only [List.mem_cons, List.not_mem_nil, or_false] at hw
    rcases hw with rfl | rfl | rfl | rfl
    · exact kindL_no (by omega)
    · exact no32_itoa ha.1
    · exact no32_itoa hb.1
    · exact no32_itoa hc.1
  | fall a f ha hf =>
    rw [sw_fall a f]
    intro w hw
    split at hw
    · simp only [List.mem_cons, List.not_mem_nil, or_false] at hw
      rcases hw with rfl | rfl
      · exact kindL_no (by omega)
      · exact (nodeWord_facts ha).2.1
    · simp only [List.mem_cons, List.not_mem_nil, or_false] at hw
      rcases hw with rfl | rfl | rfl
      · exact kindL_no (by omega)
      · exact (nodeWord_facts ha).2.1
      · exact fateL_no hf
theorem kindL_len {k : Int} (h : 1 ≤ k ∧ k ≤ 11) : (kindL k).length ≤ 5 := by
  rcases kind_cases h.1 h.2 with rfl | rfl | rfl | rfl | rfl | rfl | rfl | rfl | rfl | rfl | rfl <;> decide
theorem itoa10 {x : Int} (h : 0 ≤ x ∧ x ≤ 1000000000) : (Lib.itoa x).length ≤ 10 := itoa_len h.1 (by omega) (by omega)
theorem stepWords_160 {x : DStep} (h : stepOk x = true) : (joinL 32 (stepWords x)).length ≤ 160 := by
  have hF := stepF_of h
  cases hF with
  | num k a hk ha =>
    rw [sw_num a hk]
    have a1 := kindL_len (k := k) (by omega)
    have a2 := itoa10 ha
    simp only [joinL, List.length_append, List.length_cons]
    omega
  | node k a hk ha =>
    rw [sw_node a hk]
    have a1 := kindL_len (k := k) (by omega)
    have a2 := (nodeWord_facts ha).2.2
    simp only [joinL, List.length_append, List.length_cons]
    omega
  | time k a b hk ha hb =>
    rw [sw_time a b hk]
    have a1 := kindL_len (k := k) (by omega)
    have a2 := (nodeWord_facts ha).2.2
    have a3 := itoa10 hb
    simp only [joinL, List.length_append, List.length_cons]
    omega
  | cut k a b hk ha hb =>
    rw [sw_cut a b hk]
    have a1 := kindL_len (k := k) (by omega)
    have a2 := (nodeWord_facts ha).2.2
    have a3 := (nodeWord_facts hb).2.2
    simp only [joinL, List.length_append, List.length_cons]
    omega
  | rot a b c ha hb hc =>
    rw [sw_rot a b c]
    have a1 := kindL_len (k := 11) (by omega)
    have a2 := itoa10 ha
    have a3 := itoa10 hb
    have a4 := itoa10 hc
    simp only [joinL, List.length_append, List.length_cons]
    omega
  | fall a f ha hf =>
    rw [sw_fall a f]
    have a1 := kindL_len (k := 5) (by omega)
    have a2 := (nodeWord_facts ha).2.2
    have a3 := fateL_len f
    have a4 := (fates_mem hf).1
    split
    · simp only [joinL, List.length_append, List.length_cons]
      omega
    · simp only [joinL, List.length_append, List.length_cons]
      omega
theorem numN_itoa {x : Int} (h : 0 ≤ x ∧ x ≤ 1000000000) : numN (Lib.itoa x) = x := by
  rw [numN_yes (numOf_itoa9 h.1 h.2)]; omega
theorem sStepOf_words {x : DStep} (h : stepOk x = true) : stIx ((stepWords x).getD 0 []) = x.kind ∧ 1 ≤ x.kind ∧ ¬ (stepWords x).length < 2 ∧ sStepOf x.kind (stepWords x) = x := by
  have hF := stepF_of h
  cases hF with
  | num k a hk ha =>
    rw [sw_num a hk]
    refine ⟨(stIx_word (k := k) (by omega)).2 rfl, show 1 ≤ k by omega, by simp, ?_⟩
    rcases hk with rfl | rfl | rfl <;> simp [sStepOf, stA, stB, stC, stF, numN_itoa ha]
  | node k a hk ha =>
    rw [sw_node a hk]
    refine ⟨(stIx_word (k := k) (by omega)).2 rfl, show 1 ≤ k by omega, by simp, ?_⟩
    rcases hk with rfl | rfl <;> simp [sStepOf, stA, stB, stC, stF, (nodeWord_facts ha).1]
  | time k a b hk ha hb =>
    rw [sw_time a b hk]
    refine ⟨(stIx_word (k := k) (by omega)).2 rfl, show 1 ≤ k by omega, by simp, ?_⟩
    rcases hk with rfl | rfl <;> simp [sStepOf, stA, stB, stC, stF, atN, numN_itoa hb, (nodeWord_facts ha).1]
  | cut k a b hk ha hb =>
    rw [sw_cut a b hk]
    refine ⟨(stIx_word (k := k) (by omega)).2 rfl, show 1 ≤ k by omega, by simp, ?_⟩
    rcases hk with rfl | rfl <;> simp [sStepOf, stA, stB, stC, stF, (nodeWord_facts hb).1, (nodeWord_facts ha).1]
  | rot a b c ha hb hc =>
    rw [sw_rot a b c]
    refine ⟨(stIx_word (k := 11) (by omega)).2 rfl, show (1 : Int) ≤ 11 by omega, by simp, ?_⟩
    simp [sStepOf, stA, stB, stC, stF, atN, numN_itoa ha, numN_itoa hb, numN_itoa hc]
  | fall a f ha hf =>
    rw [sw_fall a f]
    refine ⟨(stIx_word (k := 5) (by omega)).2 rfl, show (1 : Int) ≤ 5 by omega, by split <;> simp, ?_⟩
    split
    · rename_i e; subst e; simp [sStepOf, stA, stB, stC, stF, (nodeWord_facts ha).1]
    · simp only [sStepOf, stA, stB, stC, stF]
      simp [(nodeWord_facts ha).1]
      exact of_fateL hf
theorem stepTextL_join {x : DStep} (h : stepOk x = true) : stepTextL x = joinL 32 (stepWords x) := by
  unfold stepTextL; rw [if_pos h, wordsB_join]
theorem stepWords_ne (x : DStep) : stepWords x ≠ [] := by simp [stepWords]
theorem sStep_complete {x : DStep} {l : List UInt8} (h : stepOk x = true) (hw : wordsL 32 l = stepWords x) : sTextStepL l = (x, true) := by
  have hj : joinL 32 (stepWords x) = l := by rw [← hw]; exact join_words 32 l
  have h160 := stepWords_160 h
  rw [hj] at h160
  obtain ⟨h1, h2, h3, h4⟩ := sStepOf_words h
  unfold sTextStepL
  rw [hw, h1, if_neg (by omega), if_neg (by omega), h4, if_pos (by rw [stepTextL_join h, hj])]
theorem sStep_sound {l : List UInt8} (h : (sTextStepL l).2 = true) : ∃ x, sTextStepL l = (x, true) ∧ stepOk x = true ∧ wordsL 32 l = stepWords x := by
  unfold sTextStepL at h ⊢
  split at h
  · cases h
  · rename_i c1
    rw [if_neg c1]
    split at h
    · cases h
    · rename_i c2
      rw [if_neg c2]
      split at h
      · rename_i c3
        rw [if_pos c3]
        refine ⟨_, rfl, ?_⟩
        generalize sStepOf (stIx ((wordsL 32 l).getD 0 [])) (wordsL 32 l) = x at c3
        cases hok : stepOk x with
        | false =>
          exfalso
          have e := stepTextL_empty.2 hok
          rw [c3] at e
          subst e
          exact c2 (.inr (by decide))
        | true =>
          refine ⟨rfl, ?_⟩
          rw [← c3, stepTextL_join hok, words_join (stepWords_ne x) (stepWords_no hok)]
      · cases h
theorem iStep_no {l : List UInt8} (h : ¬ (iTextStepL l).2 = true) : iTextStepL l = (stpZ, false) := by
  unfold iTextStepL at h ⊢
  split
  · rename_i c; rw [if_pos c] at h; exact absurd rfl h
  · rfl
theorem sStep_no {l : List UInt8} (h : ¬ (sTextStepL l).2 = true) : sTextStepL l = (stpZ, false) := by
  unfold sTextStepL at h ⊢
  split
  · rfl
  · rename_i c1
    rw [if_neg c1] at h
    split
    · rfl
    · rename_i c2
      rw [if_neg c2] at h
      split
      · rename_i c; rw [if_pos c] at h; exact absurd rfl h
      · rfl
theorem textStep_eq (l : List UInt8) : iTextStepL l = sTextStepL l := by
  by_cases hi : (iTextStepL l).2 = true
  · obtain ⟨x, e, ok, hw⟩ := iStep_sound hi
    rw [e, sStep_complete ok hw]
  · by_cases hs : (sTextStepL l).2 = true
    · obtain ⟨x, e, ok, hw⟩ := sStep_sound hs
      rw [e, iStep_complete ok hw]
    · rw [iStep_no hi, sStep_no hs]
end Go.Proofs.YtlhanpkfnhnegaaDoor
/- TextStep: both sides whole. -/
namespace Go.Proofs.YtlhanpkfnhnegaaDoor
open Go.RowKit

theorem sTextStep_p (l : List UInt8) : PCall av 48 [pL l] (pAns (sTextStepL l)) := by
  by_cases h160 : 160 < l.length
  · have e : sTextStepL l = (stpZ, false) := by unfold sTextStepL; rw [if_pos h160]
    rw [e]
    exact sTextStep_long l h160
  · obtain ⟨w0, r, hw⟩ := wordsL_split (c := 32) (s := l)
    have hl : l.length ≤ 160 := by omega
    have hd : (w0 :: r).getD 0 [] = w0 := rfl
    by_cases hc : stIx w0 < 1 ∨ (w0 :: r).length < 2
    · have e : sTextStepL l = (stpZ, false) := by unfold sTextStepL; rw [if_neg h160, hw, hd, if_pos hc]
      rw [e]
      exact sTextStep_none l w0 r hl hw hc
    · have e : sTextStepL l = stAns (sStepOf (stIx w0) (wordsL 32 l)) l := by unfold sTextStepL stAns; rw [if_neg h160, hw, hd, if_neg hc]
      rw [e]
      cases r with
      | nil => exact absurd (.inr (by simp)) hc
      | cons w1 r =>
        rw [hw]
        have hr := stIx_range w0
        generalize hk : stIx w0 = k at hr hc
        rcases kind_cases (k := k) (by omega) (by omega) with rfl | rfl | rfl | rfl | rfl | rfl | rfl | rfl | rfl | rfl | rfl
        · exact sTextStep_1 l w0 w1 r hl hw hk
        · exact sTextStep_2 l w0 w1 r hl hw hk
        · exact sTextStep_3 l w0 w1 r hl hw hk
        · exact sTextStep_4 l w0 w1 r hl hw hk
        · cases r with
          | nil => exact sTextStep_5n l w0 w1 hl hw hk
          | cons w2 r => exact sTextStep_5c l w0 w1 w2 r hl hw hk
        · exact sTextStep_6 l w0 w1 r hl hw hk
        · exact sTextStep_7 l w0 w1 r hl hw hk
        · exact sTextStep_8 l w0 w1 r hl hw hk
        · cases r with
          | nil => exact sTextStep_9n l w0 w1 [] hl hw hk rfl
          | cons w2 r => exact sTextStep_9c l w0 w1 (w2 :: r) hl hw hk w2 r rfl
        · cases r with
          | nil => exact sTextStep_10n l w0 w1 [] hl hw hk rfl
          | cons w2 r => exact sTextStep_10c l w0 w1 (w2 :: r) hl hw hk w2 r rfl
        · exact sTextStep_11 l w0 w1 r hl hw hk
def StepNil (l : List UInt8) (y : DStep × Bool) : Prop := y.1.fates = [] ∧ MCall av 49 [.one (.d (dL l))] [] [] [] (.tup [stAgg y.1.kind y.1.a y.1.b y.1.c .nil, .one (.d (dB y.2))])
def StepOwn (l : List UInt8) (y : DStep × Bool) : Prop := y.2 = true ∧ y.1.fates.length ≤ 120 ∧ MCall av 49 [.one (.d (dL l))] [] [(901, .row 2 1 (y.1.fates.map eI))] [] (.tup [stAgg y.1.kind y.1.a y.1.b y.1.c (.own 901), .one (.d (dB true))])
theorem step_nil_of {l : List UInt8} {k a b c : Int} {t : Sc} (e : scStep (Sc.start l).cur (Sc.start l).next = (⟨k, a, b, c, []⟩, t))
    (m : MCall av 49 [.one (.d (dL l))] [] [] [] (if t.over && stepOk ⟨k, a, b, c, []⟩ then .tup [stAgg k a b c .nil, .one (.d (dB true))] else .tup [stAgg 0 0 0 0 .nil, .one (.d (dB false))])) : StepNil l (iTextStepL l) ∨ StepOwn l (iTextStepL l) := by
  refine .inl ?_
  unfold iTextStepL
  rw [e]
  simp only
  split
  · rename_i h; rw [if_pos h] at m; exact ⟨rfl, m⟩
  · rename_i h; rw [if_neg h] at m; exact ⟨rfl, m⟩
theorem step_own_of {l : List UInt8} {k a b c : Int} {f : List Int} {t : Sc} (e : scStep (Sc.start l).cur (Sc.start l).next = (⟨k, a, b, c, f⟩, t))
    (m : (t.over = true → stepOk ⟨k, a, b, c, f⟩ = true → MCall av 49 [.one (.d (dL l))] [] [(901, .row 2 1 (f.map eI))] [] (.tup [stAgg k a b c (.own 901), .one (.d (dB true))])) ∧
    ((t.over && stepOk ⟨k, a, b, c, f⟩) = false → MCall av 49 [.one (.d (dL l))] [] [] [] (.tup [stAgg 0 0 0 0 .nil, .one (.d (dB false))]))) : StepNil l (iTextStepL l) ∨ StepOwn l (iTextStepL l) := by
  unfold iTextStepL
  rw [e]
  simp only
  split
  · rename_i h
    rw [Bool.and_eq_true] at h
    exact .inr ⟨rfl, (fates_mem (stepOk_facts h.2).2.2.2.2.1).1, m.1 h.1 h.2⟩
  · rename_i h
    exact .inl ⟨rfl, m.2 (by simpa using h)⟩
theorem scStep_plain {w0 : List UInt8} {k : Int} (hk : implKind w0 = k) (h : k ≠ 5) (s : Sc) : scStep w0 s = (⟨k, (stRead k s).a, (stRead k s).b, (stRead k s).c, []⟩, (stRead k s).s) := by
  unfold scStep; rw [hk, if_neg h]
theorem iTextStep_m (l : List UInt8) (hl : l.length ≤ 2000000) : StepNil l (iTextStepL l) ∨ StepOwn l (iTextStepL l) := by
  have h0 := start_ok hl
  have hr := implKind_range (Sc.start l).cur
  generalize hk : implKind (Sc.start l).cur = k at hr
  by_cases k0 : k = 0
  · subst k0
    have sm := step_m0 _ h0 hk
    rw [start_o] at sm
    exact step_nil_of (scStep_plain hk (by omega) _) (textStep_nil l _ _ _ _ _ sm)
  rcases kind_cases (k := k) (by omega) (by omega) with rfl | rfl | rfl | rfl | rfl | rfl | rfl | rfl | rfl | rfl | rfl
  case inr.inr.inr.inr.inl =>
    by_cases hd : (scNode (Sc.start l).next).2.ws = []
    · have sm := step_m5a _ h0 hk hd
      rw [start_o] at sm
      exact step_nil_of (by rw [scStep_fall hk, if_pos hd]) (textStep_nil l _ _ _ _ _ sm)
    · have sm := step_m5b _ h0 hk hd
      rw [start_o] at sm
      exact step_own_of (by rw [scStep_fall hk, if_neg hd]) (textStep_own l _ _ _ _ _ _ sm)
  · have sm := step_m1 _ h0 hk
    rw [start_o] at sm
    exact step_nil_of (scStep_plain hk (by omega) _) (textStep_nil l _ _ _ _ _ sm)
  · have sm := step_m2 _ h0 hk
    rw [start_o] at sm
    exact step_nil_of (scStep_plain hk (by omega) _) (textStep_nil l _ _ _ _ _ sm)
  · have sm := step_m3 _ h0 hk
    rw [start_o] at sm
    exact step_nil_of (scStep_plain hk (by omega) _) (textStep_nil l _ _ _ _ _ sm)
  · have sm := step_m4 _ h0 hk
    rw [start_o] at sm
    exact step_nil_of (scStep_plain hk (by omega) _) (textStep_nil l _ _ _ _ _ sm)
  · have sm := step_m6 _ h0 hk
    rw [start_o] at sm
    exact step_nil_of (scStep_plain hk (by omega) _) (textStep_nil l _ _ _ _ _ sm)
  · have sm := step_m7 _ h0 hk
    rw [start_o] at sm
    exact step_nil_of (scStep_plain hk (by omega) _) (textStep_nil l _ _ _ _ _ sm)
  · have sm := step_m8 _ h0 hk
    rw [start_o] at sm
    exact step_nil_of (scStep_plain hk (by omega) _) (textStep_nil l _ _ _ _ _ sm)
  · have sm := step_m9 _ h0 hk
    rw [start_o] at sm
    exact step_nil_of (scStep_plain hk (by omega) _) (textStep_nil l _ _ _ _ _ sm)
  · have sm := step_m10 _ h0 hk
    rw [start_o] at sm
    exact step_nil_of (scStep_plain hk (by omega) _) (textStep_nil l _ _ _ _ _ sm)
  · have sm := step_m11 _ h0 hk
    rw [start_o] at sm
    exact step_nil_of (scStep_plain hk (by omega) _) (textStep_nil l _ _ _ _ _ sm)
end Go.Proofs.YtlhanpkfnhnegaaDoor
/- TextStep: the law. -/
namespace Go.Proofs.YtlhanpkfnhnegaaDoor
open Go.RowKit

theorem lawTextStep_p (l : List UInt8) : PCall av 12 [pL l] (rB true) := by
  by_cases h : 1048576 < l.length
  · have hlt : decide (((⟨l.toArray⟩ : ByteArray).size : Int) > 1048576) = true := by rw [sz_dL]; simp; omega
    refine pcall_of av_ok Tryd.func12 rfl Tryd.call12 Tryd.ntmps12 (congrArg Array.toList Tryd.results12) fun S => ?_; conv => whnf
    repeat' (first | (refine AWP.seq ?_) | (refine AWP.region av_ok ?_; conv => whnf) | (refine AWP.ret ?_; conv => whnf) | (refine AWP.skip ?_; conv => whnf) | (refine AWP.exit ?_; conv => whnf) | (refine AWP.block ?_; conv => whnf) | (refine AWP.cond ?_; conv => whnf) | (refine AB.tt ?_; conv => whnf) | (refine AB.ff ?_; conv => whnf) | (refine AB.ofT (by assumption) ?_; conv => whnf) | (refine AB.ofF (by assumption) ?_; conv => whnf) | (exact trivial) | (refine And.intro rfl ?_; conv => whnf) | (refine AB.mk (fun h => ?_) (fun h => ?_) <;> (conv => whnf)) | (with_reducible_and_instances rfl) | (exact (rfl : AP.tup _ = AP.tup _)))
  · have hlt : decide (((⟨l.toArray⟩ : ByteArray).size : Int) > 1048576) = false := by rw [sz_dL]; simp; omega
    have ip := iTextStep_m l (by omega)
    have sp := sTextStep_p l
    rw [textStep_eq] at ip
    generalize sTextStepL l = y at ip sp
    obtain ⟨⟨k, a, b, c, f⟩, q⟩ := y
    unfold pAns at sp
    rcases ip with ⟨hf, m⟩ | ⟨hq, hfl, m⟩
    · simp only at hf
      subst hf
      have hb : (q != q) = false := by simp
      have h1 : ((1 : Int) != 1) = false := rfl
      have hp := heldStep_p k a b c 1 0 (by omega) (by omega)
      have mp := markStep_p k a b c 1
      have ep := eqStep_p ⟨k, a, b, c, []⟩ (by simp)
      refine pcall_of av_ok Tryd.func12 rfl Tryd.call12 Tryd.ntmps12 (congrArg Array.toList Tryd.results12) fun S => ?_; conv => whnf
      repeat' (first | (refine AWP.seq ?_) | (refine AWP.region av_ok ?_; conv => whnf) | (refine AWP.ret ?_; conv => whnf) | (refine AWP.skip ?_; conv => whnf) | (refine AWP.exit ?_; conv => whnf) | (refine AWP.block ?_; conv => whnf) | (refine AWP.cond ?_; conv => whnf) | (refine AB.tt ?_; conv => whnf) | (refine AB.ff ?_; conv => whnf) | (refine AB.ofT (by assumption) ?_; conv => whnf) | (refine AB.ofF (by assumption) ?_; conv => whnf) | (refine ACall.pure sp rfl ?_; conv => whnf) | (refine ACall.meth m [] rfl rfl ?_; conv => whnf) | (refine ACall.pure ep rfl ?_; conv => whnf) | (refine ACall.pure mp rfl ?_; conv => whnf) | (refine ACall.pure hp rfl ?_; conv => whnf) | (exact trivial) | (refine And.intro rfl ?_; conv => whnf) | (refine AB.mk (fun h => ?_) (fun h => ?_) <;> (conv => whnf)) | (with_reducible_and_instances rfl) | (exact (rfl : AP.tup _ = AP.tup _)))
    · simp only at hq hfl
      subst hq
      have hb : (true != true) = false := by simp
      simp only at m sp
      have ep := eqStep_p ⟨k, a, b, c, f⟩ (by simp only; omega)
      have mm := markStep_m k a b c f 1 (by omega) (by omega)
      have hp := heldStep_p k a b c 1 f.length (by omega) (by omega)
      have h1 : decide (1 + (f.length : Int) < 0) = false := by simp only [decide_eq_false_iff_not]; omega
      have h2 : (1 + (f.length : Int) != 1 + (f.length : Int)) = false := by simp
      refine pcall_of av_ok Tryd.func12 rfl Tryd.call12 Tryd.ntmps12 (congrArg Array.toList Tryd.results12) fun S => ?_; conv => whnf
      repeat' (first | (refine AWP.seq ?_) | (refine AWP.region av_ok ?_; conv => whnf) | (refine AWP.ret ?_; conv => whnf) | (refine AWP.skip ?_; conv => whnf) | (refine AWP.exit ?_; conv => whnf) | (refine AWP.block ?_; conv => whnf) | (refine AWP.cond ?_; conv => whnf) | (refine AB.tt ?_; conv => whnf) | (refine AB.ff ?_; conv => whnf) | (refine AB.ofT (by assumption) ?_; conv => whnf) | (refine AB.ofF (by assumption) ?_; conv => whnf) | (refine ACall.pure sp rfl ?_; conv => whnf) | (exact trivial) | (refine And.intro rfl ?_; conv => whnf) | (refine AB.mk (fun h => ?_) (fun h => ?_) <;> (conv => whnf)) | (with_reducible_and_instances rfl) | (exact (rfl : AP.tup _ = AP.tup _)))
      refine ACall.meth m [(901, 960)] rfl rfl ?_
      conv => whnf
      repeat' (first | (refine AWP.seq ?_) | (refine AWP.region av_ok ?_; conv => whnf) | (refine AWP.ret ?_; conv => whnf) | (refine AWP.skip ?_; conv => whnf) | (refine AWP.exit ?_; conv => whnf) | (refine AWP.block ?_; conv => whnf) | (refine AWP.cond ?_; conv => whnf) | (refine AB.tt ?_; conv => whnf) | (refine AB.ff ?_; conv => whnf) | (refine AB.ofT (by assumption) ?_; conv => whnf) | (refine AB.ofF (by assumption) ?_; conv => whnf) | (refine ACall.scalar ep rfl rfl ?_; conv => whnf) | (refine ACall.upd mm 960 rfl rfl rfl ?_; conv => whnf) | (refine ACall.scalar hp rfl rfl ?_; conv => whnf) | (exact trivial) | (refine And.intro rfl ?_; conv => whnf) | (refine AB.mk (fun h => ?_) (fun h => ?_) <;> (conv => whnf)) | (with_reducible_and_instances rfl) | (exact (rfl : AP.tup _ = AP.tup _)))
      refine ACall.meth m [(901, 950)] rfl rfl ?_
      conv => whnf
      repeat' (first | (refine AWP.seq ?_) | (refine AWP.region av_ok ?_; conv => whnf) | (refine AWP.ret ?_; conv => whnf) | (refine AWP.skip ?_; conv => whnf) | (refine AWP.exit ?_; conv => whnf) | (refine AWP.block ?_; conv => whnf) | (refine AWP.cond ?_; conv => whnf) | (refine AB.tt ?_; conv => whnf) | (refine AB.ff ?_; conv => whnf) | (refine AB.ofT (by assumption) ?_; conv => whnf) | (refine AB.ofF (by assumption) ?_; conv => whnf) | (refine ACall.scalar ep rfl rfl ?_; conv => whnf) | (refine ACall.scalar hp rfl rfl ?_; conv => whnf) | (exact trivial) | (refine And.intro rfl ?_; conv => whnf) | (refine AB.mk (fun h => ?_) (fun h => ?_) <;> (conv => whnf)) | (with_reducible_and_instances rfl) | (exact (rfl : AP.tup _ = AP.tup _)))
end Go.Proofs.YtlhanpkfnhnegaaDoor
