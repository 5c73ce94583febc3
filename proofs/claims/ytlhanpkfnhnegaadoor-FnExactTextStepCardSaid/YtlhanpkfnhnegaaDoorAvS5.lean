/- Steps as text: the reference. -/
import Derived.Test.YtlhanpkfnhnegaaDoorAvS4
set_option linter.unusedVariables false
set_option linter.unusedSimpArgs false
set_option maxRecDepth 100000
namespace Go.Proofs.YtlhanpkfnhnegaaDoor
open Go.ChangeShapes Go.WideShapes Go.RowKit

theorem stepWords_len {x : DStep} (h : stepOk x = true) : (wordsB [32] (stepWords x)).length ≤ 1000 := by
  have hF := stepOk_facts h
  have s1 := itoa_le (x := x.a) (by omega) (by omega)
  have s2 := itoa_le (x := x.b) (by omega) (by omega)
  have s3 := itoa_le (x := x.c) (by omega) (by omega)
  have s4 := nodeWordL_len x.a
  have s5 := nodeWordL_len x.b
  have s6 := fatesB_l hF.2.2.2.2.1
  have s7 : (kindL x.kind).length ≤ 5 := by
    rcases kind_cases hF.1.1 hF.1.2 with e | e | e | e | e | e | e | e | e | e | e <;> rw [e] <;> decide
  unfold stepWords
  repeat' split
  all_goals simp [wordsB, fateL_len]
  all_goals omega
theorem sl32Kinds_p : PCall av 82 [] (.val (.one (.sl (kindsL.map eS)))) := by
  refine pcall_of av_ok Tryd.func82 rfl Tryd.call82 Tryd.ntmps82 (congrArg Array.toList Tryd.results82) fun S => ?_; conv => whnf
  repeat' (first | (refine AWP.seq ?_) | (refine AWP.region av_ok ?_; conv => whnf) | (refine AWP.ret ?_; conv => whnf) | (refine AWP.skip ?_; conv => whnf) | (refine AWP.exit ?_; conv => whnf) | (refine AWP.block ?_; conv => whnf) | (refine AWP.cond ?_; conv => whnf) | (refine AB.tt ?_; conv => whnf) | (refine AB.ff ?_; conv => whnf) | (exact trivial) | (refine And.intro rfl ?_; conv => whnf) | (refine AB.mk (fun h => ?_) (fun h => ?_) <;> (conv => whnf)) | (with_reducible_and_instances rfl) | (exact (rfl : AP.tup _ = AP.tup _)))
  all_goals rfl
theorem sl32Node_p (k : Int) : PCall av 83 [pI k] (rB (k != 1 && k != 7 && k != 8 && k != 11)) := by
  refine pcall_of av_ok Tryd.func83 rfl Tryd.call83 Tryd.ntmps83 (congrArg Array.toList Tryd.results83) fun S => ?_; conv => whnf
  repeat' (first | (refine AWP.seq ?_) | (refine AWP.region av_ok ?_; conv => whnf) | (refine AWP.ret ?_; conv => whnf) | (refine AWP.skip ?_; conv => whnf) | (refine AWP.exit ?_; conv => whnf) | (refine AWP.block ?_; conv => whnf) | (refine AWP.cond ?_; conv => whnf) | (refine AB.tt ?_; conv => whnf) | (refine AB.ff ?_; conv => whnf) | (refine AB.ofT (by assumption) ?_; conv => whnf) | (refine AB.ofF (by assumption) ?_; conv => whnf) | (exact trivial) | (refine And.intro rfl ?_; conv => whnf) | (refine AB.mk (fun h => ?_) (fun h => ?_) <;> (conv => whnf)) | (with_reducible_and_instances rfl) | (exact (rfl : AP.tup _ = AP.tup _)))
  all_goals simp_all
theorem sStepText_1 (a b c : Int) (h : stepOk ⟨1, a, b, c, []⟩ = true) : PCall av 25 [.agg (DStep.ds ⟨1, a, b, c, []⟩)] (rL (stepTextL ⟨1, a, b, c, []⟩)) := by
  have hF := stepOk_facts h
  simp only at hF
  have hn : (!stepOk ⟨1, a, b, c, []⟩) = false := by simp [h]
  have hw : (wordsB [32] [kindL 1, Lib.itoa a]).length ≤ 1000 := by simpa [stepWords] using stepWords_len h
  refine pcall_of av_ok Tryd.func25 rfl Tryd.call25 Tryd.ntmps25 (congrArg Array.toList Tryd.results25) fun S => ?_; conv => whnf
  repeat' (first | (refine AWP.seq ?_) | (refine AWP.region av_ok ?_; conv => whnf) | (refine AWP.ret ?_; conv => whnf) | (refine AWP.skip ?_; conv => whnf) | (refine AWP.exit ?_; conv => whnf) | (refine AWP.block ?_; conv => whnf) | (refine AWP.cond ?_; conv => whnf) | (refine AB.tt ?_; conv => whnf) | (refine AB.ff ?_; conv => whnf) | (refine ACall.pure (sStepOk_p ⟨1, a, b, c, []⟩) rfl ?_; conv => whnf) | (refine AB.ofT (by assumption) ?_; conv => whnf) | (refine AB.ofF (by assumption) ?_; conv => whnf) | (exact trivial) | (refine And.intro rfl ?_; conv => whnf) | (refine AB.mk (fun h => ?_) (fun h => ?_) <;> (conv => whnf)) | (with_reducible_and_instances rfl) | (exact (rfl : AP.tup _ = AP.tup _)))
  refine' AWP.draw av_ok 3 [[], [], [1], [1, 2, 0], [0, 2, 1, 3], [3, 1, 2, 0, 4], [4, 0, 2, 1, 3, 5]] [(_, _), (_, _), (_, _)] ?hD ?hok ?hl ?hf ?hno ?ht
  case hD => kernel_rfl
  case hok => kernel_rfl
  case hl => rfl
  case hf =>
    conv => whnf
    repeat' (first | (refine ⟨rfl, rfl⟩) | exact trivial | (refine AFCall.mk ⟨_, _, sl32Kinds_p, .inl rfl, ?_⟩; conv => whnf) | (refine And.intro ?_ ?_ <;> conv => whnf))
  case hno => rfl
  case ht =>
    conv => whnf
    repeat' (first | (refine AWP.seq ?_) | (refine AWP.region av_ok ?_; conv => whnf) | (refine AWP.ret ?_; conv => whnf) | (refine AWP.skip ?_; conv => whnf) | (refine AWP.exit ?_; conv => whnf) | (refine AWP.block ?_; conv => whnf) | (refine AWP.cond ?_; conv => whnf) | (refine AB.tt ?_; conv => whnf) | (refine AB.ff ?_; conv => whnf) | (refine ACall.pure (sStepOk_p ⟨1, a, b, c, []⟩) rfl ?_; conv => whnf) | (refine ACall.pure (sl32Node_p _) rfl ?_; conv => whnf) | (refine AIx.at _ _ rfl rfl ?_; conv => whnf) | (refine ACall.pure (sNodeWord_p _) rfl ?_; conv => whnf) | (refine ACall.pure (sl1IntZ_p a (by omega) (by omega)) rfl ?_; conv => whnf) | (refine ACall.pure (sl1IntZ_p b (by omega) (by omega)) rfl ?_; conv => whnf) | (refine sz_app (by simp) ?_; conv => whnf) | (refine all_len (by simp) ?_; conv => whnf) | (refine ACall.scalar (sl1Words_p [kindL 1, Lib.itoa a] [32] (by simp) (by omega) (by simp)) rfl rfl ?_; conv => whnf) | (refine AB.ofT (by assumption) ?_; conv => whnf) | (refine AB.ofF (by assumption) ?_; conv => whnf) | (exact trivial) | (refine And.intro rfl ?_; conv => whnf) | (refine AB.mk (fun h => ?_) (fun h => ?_) <;> (conv => whnf)) | (with_reducible_and_instances rfl) | (exact (rfl : AP.tup _ = AP.tup _)))
    simp [stepTextL, h, stepWords]
theorem sStepText_2 (a b c : Int) (h : stepOk ⟨2, a, b, c, []⟩ = true) : PCall av 25 [.agg (DStep.ds ⟨2, a, b, c, []⟩)] (rL (stepTextL ⟨2, a, b, c, []⟩)) := by
  have hF := stepOk_facts h
  simp only at hF
  have hn : (!stepOk ⟨2, a, b, c, []⟩) = false := by simp [h]
  have hw : (wordsB [32] [kindL 2, nodeWordL a]).length ≤ 1000 := by simpa [stepWords] using stepWords_len h
  refine pcall_of av_ok Tryd.func25 rfl Tryd.call25 Tryd.ntmps25 (congrArg Array.toList Tryd.results25) fun S => ?_; conv => whnf
  repeat' (first | (refine AWP.seq ?_) | (refine AWP.region av_ok ?_; conv => whnf) | (refine AWP.ret ?_; conv => whnf) | (refine AWP.skip ?_; conv => whnf) | (refine AWP.exit ?_; conv => whnf) | (refine AWP.block ?_; conv => whnf) | (refine AWP.cond ?_; conv => whnf) | (refine AB.tt ?_; conv => whnf) | (refine AB.ff ?_; conv => whnf) | (refine ACall.pure (sStepOk_p ⟨2, a, b, c, []⟩) rfl ?_; conv => whnf) | (refine AB.ofT (by assumption) ?_; conv => whnf) | (refine AB.ofF (by assumption) ?_; conv => whnf) | (exact trivial) | (refine And.intro rfl ?_; conv => whnf) | (refine AB.mk (fun h => ?_) (fun h => ?_) <;> (conv => whnf)) | (with_reducible_and_instances rfl) | (exact (rfl : AP.tup _ = AP.tup _)))
  refine' AWP.draw av_ok 3 [[], [], [1], [1, 2, 0], [0, 2, 1, 3], [3, 1, 2, 0, 4], [4, 0, 2, 1, 3, 5]] [(_, _), (_, _), (_, _)] ?hD ?hok ?hl ?hf ?hno ?ht
  case hD => kernel_rfl
  case hok => kernel_rfl
  case hl => rfl
  case hf =>
    conv => whnf
    repeat' (first | (refine ⟨rfl, rfl⟩) | exact trivial | (refine AFCall.mk ⟨_, _, sl32Kinds_p, .inl rfl, ?_⟩; conv => whnf) | (refine And.intro ?_ ?_ <;> conv => whnf))
  case hno => rfl
  case ht =>
    conv => whnf
    repeat' (first | (refine AWP.seq ?_) | (refine AWP.region av_ok ?_; conv => whnf) | (refine AWP.ret ?_; conv => whnf) | (refine AWP.skip ?_; conv => whnf) | (refine AWP.exit ?_; conv => whnf) | (refine AWP.block ?_; conv => whnf) | (refine AWP.cond ?_; conv => whnf) | (refine AB.tt ?_; conv => whnf) | (refine AB.ff ?_; conv => whnf) | (refine ACall.pure (sStepOk_p ⟨2, a, b, c, []⟩) rfl ?_; conv => whnf) | (refine ACall.pure (sl32Node_p _) rfl ?_; conv => whnf) | (refine AIx.at _ _ rfl rfl ?_; conv => whnf) | (refine ACall.pure (sNodeWord_p _) rfl ?_; conv => whnf) | (refine ACall.pure (sl1IntZ_p a (by omega) (by omega)) rfl ?_; conv => whnf) | (refine ACall.pure (sl1IntZ_p b (by omega) (by omega)) rfl ?_; conv => whnf) | (refine sz_app (by simp) ?_; conv => whnf) | (refine all_len (by simp) ?_; conv => whnf) | (refine ACall.scalar (sl1Words_p [kindL 2, nodeWordL a] [32] (by simp) (by omega) (by simp)) rfl rfl ?_; conv => whnf) | (refine AB.ofT (by assumption) ?_; conv => whnf) | (refine AB.ofF (by assumption) ?_; conv => whnf) | (exact trivial) | (refine And.intro rfl ?_; conv => whnf) | (refine AB.mk (fun h => ?_) (fun h => ?_) <;> (conv => whnf)) | (with_reducible_and_instances rfl) | (exact (rfl : AP.tup _ = AP.tup _)))
    simp [stepTextL, h, stepWords]
theorem sStepText_3 (a b c : Int) (h : stepOk ⟨3, a, b, c, []⟩ = true) : PCall av 25 [.agg (DStep.ds ⟨3, a, b, c, []⟩)] (rL (stepTextL ⟨3, a, b, c, []⟩)) := by
  have hF := stepOk_facts h
  simp only at hF
  have hn : (!stepOk ⟨3, a, b, c, []⟩) = false := by simp [h]
  have hw : (wordsB [32] [kindL 3, nodeWordL a, Lib.itoa b]).length ≤ 1000 := by simpa [stepWords] using stepWords_len h
  refine pcall_of av_ok Tryd.func25 rfl Tryd.call25 Tryd.ntmps25 (congrArg Array.toList Tryd.results25) fun S => ?_; conv => whnf
  repeat' (first | (refine AWP.seq ?_) | (refine AWP.region av_ok ?_; conv => whnf) | (refine AWP.ret ?_; conv => whnf) | (refine AWP.skip ?_; conv => whnf) | (refine AWP.exit ?_; conv => whnf) | (refine AWP.block ?_; conv => whnf) | (refine AWP.cond ?_; conv => whnf) | (refine AB.tt ?_; conv => whnf) | (refine AB.ff ?_; conv => whnf) | (refine ACall.pure (sStepOk_p ⟨3, a, b, c, []⟩) rfl ?_; conv => whnf) | (refine AB.ofT (by assumption) ?_; conv => whnf) | (refine AB.ofF (by assumption) ?_; conv => whnf) | (exact trivial) | (refine And.intro rfl ?_; conv => whnf) | (refine AB.mk (fun h => ?_) (fun h => ?_) <;> (conv => whnf)) | (with_reducible_and_instances rfl) | (exact (rfl : AP.tup _ = AP.tup _)))
  refine' AWP.draw av_ok 3 [[], [], [1], [1, 2, 0], [0, 2, 1, 3], [3, 1, 2, 0, 4], [4, 0, 2, 1, 3, 5]] [(_, _), (_, _), (_, _)] ?hD ?hok ?hl ?hf ?hno ?ht
  case hD => kernel_rfl
  case hok => kernel_rfl
  case hl => rfl
  case hf =>
    conv => whnf
    repeat' (first | (refine ⟨rfl, rfl⟩) | exact trivial | (refine AFCall.mk ⟨_, _, sl32Kinds_p, .inl rfl, ?_⟩; conv => whnf) | (refine And.intro ?_ ?_ <;> conv => whnf))
  case hno => rfl
  case ht =>
    conv => whnf
    repeat' (first | (refine AWP.seq ?_) | (refine AWP.region av_ok ?_; conv => whnf) | (refine AWP.ret ?_; conv => whnf) | (refine AWP.skip ?_; conv => whnf) | (refine AWP.exit ?_; conv => whnf) | (refine AWP.block ?_; conv => whnf) | (refine AWP.cond ?_; conv => whnf) | (refine AB.tt ?_; conv => whnf) | (refine AB.ff ?_; conv => whnf) | (refine ACall.pure (sStepOk_p ⟨3, a, b, c, []⟩) rfl ?_; conv => whnf) | (refine ACall.pure (sl32Node_p _) rfl ?_; conv => whnf) | (refine AIx.at _ _ rfl rfl ?_; conv => whnf) | (refine ACall.pure (sNodeWord_p _) rfl ?_; conv => whnf) | (refine ACall.pure (sl1IntZ_p a (by omega) (by omega)) rfl ?_; conv => whnf) | (refine ACall.pure (sl1IntZ_p b (by omega) (by omega)) rfl ?_; conv => whnf) | (refine sz_app (by simp) ?_; conv => whnf) | (refine all_len (by simp) ?_; conv => whnf) | (refine ACall.scalar (sl1Words_p [kindL 3, nodeWordL a, Lib.itoa b] [32] (by simp) (by omega) (by simp)) rfl rfl ?_; conv => whnf) | (refine AB.ofT (by assumption) ?_; conv => whnf) | (refine AB.ofF (by assumption) ?_; conv => whnf) | (exact trivial) | (refine And.intro rfl ?_; conv => whnf) | (refine AB.mk (fun h => ?_) (fun h => ?_) <;> (conv => whnf)) | (with_reducible_and_instances rfl) | (exact (rfl : AP.tup _ = AP.tup _)))
    simp [stepTextL, h, stepWords]
theorem sStepText_4 (a b c : Int) (h : stepOk ⟨4, a, b, c, []⟩ = true) : PCall av 25 [.agg (DStep.ds ⟨4, a, b, c, []⟩)] (rL (stepTextL ⟨4, a, b, c, []⟩)) := by
  have hF := stepOk_facts h
  simp only at hF
  have hn : (!stepOk ⟨4, a, b, c, []⟩) = false := by simp [h]
  have hw : (wordsB [32] [kindL 4, nodeWordL a, Lib.itoa b]).length ≤ 1000 := by simpa [stepWords] using stepWords_len h
  refine pcall_of av_ok Tryd.func25 rfl Tryd.call25 Tryd.ntmps25 (congrArg Array.toList Tryd.results25) fun S => ?_; conv => whnf
  repeat' (first | (refine AWP.seq ?_) | (refine AWP.region av_ok ?_; conv => whnf) | (refine AWP.ret ?_; conv => whnf) | (refine AWP.skip ?_; conv => whnf) | (refine AWP.exit ?_; conv => whnf) | (refine AWP.block ?_; conv => whnf) | (refine AWP.cond ?_; conv => whnf) | (refine AB.tt ?_; conv => whnf) | (refine AB.ff ?_; conv => whnf) | (refine ACall.pure (sStepOk_p ⟨4, a, b, c, []⟩) rfl ?_; conv => whnf) | (refine AB.ofT (by assumption) ?_; conv => whnf) | (refine AB.ofF (by assumption) ?_; conv => whnf) | (exact trivial) | (refine And.intro rfl ?_; conv => whnf) | (refine AB.mk (fun h => ?_) (fun h => ?_) <;> (conv => whnf)) | (with_reducible_and_instances rfl) | (exact (rfl : AP.tup _ = AP.tup _)))
  refine' AWP.draw av_ok 3 [[], [], [1], [1, 2, 0], [0, 2, 1, 3], [3, 1, 2, 0, 4], [4, 0, 2, 1, 3, 5]] [(_, _), (_, _), (_, _)] ?hD ?hok ?hl ?hf ?hno ?ht
  case hD => kernel_rfl
  case hok => kernel_rfl
  case hl => rfl
  case hf =>
    conv => whnf
    repeat' (first | (refine ⟨rfl, rfl⟩) | exact trivial | (refine AFCall.mk ⟨_, _, sl32Kinds_p, .inl rfl, ?_⟩; conv => whnf) | (refine And.intro ?_ ?_ <;> conv => whnf))
  case hno => rfl
  case ht =>
    conv => whnf
    repeat' (first | (refine AWP.seq ?_) | (refine AWP.region av_ok ?_; conv => whnf) | (refine AWP.ret ?_; conv => whnf) | (refine AWP.skip ?_; conv => whnf) | (refine AWP.exit ?_; conv => whnf) | (refine AWP.block ?_; conv => whnf) | (refine AWP.cond ?_; conv => whnf) | (refine AB.tt ?_; conv => whnf) | (refine AB.ff ?_; conv => whnf) | (refine ACall.pure (sStepOk_p ⟨4, a, b, c, []⟩) rfl ?_; conv => whnf) | (refine ACall.pure (sl32Node_p _) rfl ?_; conv => whnf) | (refine AIx.at _ _ rfl rfl ?_; conv => whnf) | (refine ACall.pure (sNodeWord_p _) rfl ?_; conv => whnf) | (refine ACall.pure (sl1IntZ_p a (by omega) (by omega)) rfl ?_; conv => whnf) | (refine ACall.pure (sl1IntZ_p b (by omega) (by omega)) rfl ?_; conv => whnf) | (refine sz_app (by simp) ?_; conv => whnf) | (refine all_len (by simp) ?_; conv => whnf) | (refine ACall.scalar (sl1Words_p [kindL 4, nodeWordL a, Lib.itoa b] [32] (by simp) (by omega) (by simp)) rfl rfl ?_; conv => whnf) | (refine AB.ofT (by assumption) ?_; conv => whnf) | (refine AB.ofF (by assumption) ?_; conv => whnf) | (exact trivial) | (refine And.intro rfl ?_; conv => whnf) | (refine AB.mk (fun h => ?_) (fun h => ?_) <;> (conv => whnf)) | (with_reducible_and_instances rfl) | (exact (rfl : AP.tup _ = AP.tup _)))
    simp [stepTextL, h, stepWords]
theorem sStepText_6 (a b c : Int) (h : stepOk ⟨6, a, b, c, []⟩ = true) : PCall av 25 [.agg (DStep.ds ⟨6, a, b, c, []⟩)] (rL (stepTextL ⟨6, a, b, c, []⟩)) := by
  have hF := stepOk_facts h
  simp only at hF
  have hn : (!stepOk ⟨6, a, b, c, []⟩) = false := by simp [h]
  have hw : (wordsB [32] [kindL 6, nodeWordL a]).length ≤ 1000 := by simpa [stepWords] using stepWords_len h
  refine pcall_of av_ok Tryd.func25 rfl Tryd.call25 Tryd.ntmps25 (congrArg Array.toList Tryd.results25) fun S => ?_; conv => whnf
  repeat' (first | (refine AWP.seq ?_) | (refine AWP.region av_ok ?_; conv => whnf) | (refine AWP.ret ?_; conv => whnf) | (refine AWP.skip ?_; conv => whnf) | (refine AWP.exit ?_; conv => whnf) | (refine AWP.block ?_; conv => whnf) | (refine AWP.cond ?_; conv => whnf) | (refine AB.tt ?_; conv => whnf) | (refine AB.ff ?_; conv => whnf) | (refine ACall.pure (sStepOk_p ⟨6, a, b, c, []⟩) rfl ?_; conv => whnf) | (refine AB.ofT (by assumption) ?_; conv => whnf) | (refine AB.ofF (by assumption) ?_; conv => whnf) | (exact trivial) | (refine And.intro rfl ?_; conv => whnf) | (refine AB.mk (fun h => ?_) (fun h => ?_) <;> (conv => whnf)) | (with_reducible_and_instances rfl) | (exact (rfl : AP.tup _ = AP.tup _)))
  refine' AWP.draw av_ok 3 [[], [], [1], [1, 2, 0], [0, 2, 1, 3], [3, 1, 2, 0, 4], [4, 0, 2, 1, 3, 5]] [(_, _), (_, _), (_, _)] ?hD ?hok ?hl ?hf ?hno ?ht
  case hD => kernel_rfl
  case hok => kernel_rfl
  case hl => rfl
  case hf =>
    conv => whnf
    repeat' (first | (refine ⟨rfl, rfl⟩) | exact trivial | (refine AFCall.mk ⟨_, _, sl32Kinds_p, .inl rfl, ?_⟩; conv => whnf) | (refine And.intro ?_ ?_ <;> conv => whnf))
  case hno => rfl
  case ht =>
    conv => whnf
    repeat' (first | (refine AWP.seq ?_) | (refine AWP.region av_ok ?_; conv => whnf) | (refine AWP.ret ?_; conv => whnf) | (refine AWP.skip ?_; conv => whnf) | (refine AWP.exit ?_; conv => whnf) | (refine AWP.block ?_; conv => whnf) | (refine AWP.cond ?_; conv => whnf) | (refine AB.tt ?_; conv => whnf) | (refine AB.ff ?_; conv => whnf) | (refine ACall.pure (sStepOk_p ⟨6, a, b, c, []⟩) rfl ?_; conv => whnf) | (refine ACall.pure (sl32Node_p _) rfl ?_; conv => whnf) | (refine AIx.at _ _ rfl rfl ?_; conv => whnf) | (refine ACall.pure (sNodeWord_p _) rfl ?_; conv => whnf) | (refine ACall.pure (sl1IntZ_p a (by omega) (by omega)) rfl ?_; conv => whnf) | (refine ACall.pure (sl1IntZ_p b (by omega) (by omega)) rfl ?_; conv => whnf) | (refine sz_app (by simp) ?_; conv => whnf) | (refine all_len (by simp) ?_; conv => whnf) | (refine ACall.scalar (sl1Words_p [kindL 6, nodeWordL a] [32] (by simp) (by omega) (by simp)) rfl rfl ?_; conv => whnf) | (refine AB.ofT (by assumption) ?_; conv => whnf) | (refine AB.ofF (by assumption) ?_; conv => whnf) | (exact trivial) | (refine And.intro rfl ?_; conv => whnf) | (refine AB.mk (fun h => ?_) (fun h => ?_) <;> (conv => whnf)) | (with_reducible_and_instances rfl) | (exact (rfl : AP.tup _ = AP.tup _)))
    simp [stepTextL, h, stepWords]
theorem sStepText_7 (a b c : Int) (h : stepOk ⟨7, a, b, c, []⟩ = true) : PCall av 25 [.agg (DStep.ds ⟨7, a, b, c, []⟩)] (rL (stepTextL ⟨7, a, b, c, []⟩)) := by
  have hF := stepOk_facts h
  simp only at hF
  have hn : (!stepOk ⟨7, a, b, c, []⟩) = false := by simp [h]
  have hw : (wordsB [32] [kindL 7, Lib.itoa a]).length ≤ 1000 := by simpa [stepWords] using stepWords_len h
  refine pcall_of av_ok Tryd.func25 rfl Tryd.call25 Tryd.ntmps25 (congrArg Array.toList Tryd.results25) fun S => ?_; conv => whnf
  repeat' (first | (refine AWP.seq ?_) | (refine AWP.region av_ok ?_; conv => whnf) | (refine AWP.ret ?_; conv => whnf) | (refine AWP.skip ?_; conv => whnf) | (refine AWP.exit ?_; conv => whnf) | (refine AWP.block ?_; conv => whnf) | (refine AWP.cond ?_; conv => whnf) | (refine AB.tt ?_; conv => whnf) | (refine AB.ff ?_; conv => whnf) | (refine ACall.pure (sStepOk_p ⟨7, a, b, c, []⟩) rfl ?_; conv => whnf) | (refine AB.ofT (by assumption) ?_; conv => whnf) | (refine AB.ofF (by assumption) ?_; conv => whnf) | (exact trivial) | (refine And.intro rfl ?_; conv => whnf) | (refine AB.mk (fun h => ?_) (fun h => ?_) <;> (conv => whnf)) | (with_reducible_and_instances rfl) | (exact (rfl : AP.tup _ = AP.tup _)))
  refine' AWP.draw av_ok 3 [[], [], [1], [1, 2, 0], [0, 2, 1, 3], [3, 1, 2, 0, 4], [4, 0, 2, 1, 3, 5]] [(_, _), (_, _), (_, _)] ?hD ?hok ?hl ?hf ?hno ?ht
  case hD => kernel_rfl
  case hok => kernel_rfl
  case hl => rfl
  case hf =>
    conv => whnf
    repeat' (first | (refine ⟨rfl, rfl⟩) | exact trivial | (refine AFCall.mk ⟨_, _, sl32Kinds_p, .inl rfl, ?_⟩; conv => whnf) | (refine And.intro ?_ ?_ <;> conv => whnf))
  case hno => rfl
  case ht =>
    conv => whnf
    repeat' (first | (refine AWP.seq ?_) | (refine AWP.region av_ok ?_; conv => whnf) | (refine AWP.ret ?_; conv => whnf) | (refine AWP.skip ?_; conv => whnf) | (refine AWP.exit ?_; conv => whnf) | (refine AWP.block ?_; conv => whnf) | (refine AWP.cond ?_; conv => whnf) | (refine AB.tt ?_; conv => whnf) | (refine AB.ff ?_; conv => whnf) | (refine ACall.pure (sStepOk_p ⟨7, a, b, c, []⟩) rfl ?_; conv => whnf) | (refine ACall.pure (sl32Node_p _) rfl ?_; conv => whnf) | (refine AIx.at _ _ rfl rfl ?_; conv => whnf) | (refine ACall.pure (sNodeWord_p _) rfl ?_; conv => whnf) | (refine ACall.pure (sl1IntZ_p a (by omega) (by omega)) rfl ?_; conv => whnf) | (refine ACall.pure (sl1IntZ_p b (by omega) (by omega)) rfl ?_; conv => whnf) | (refine sz_app (by simp) ?_; conv => whnf) | (refine all_len (by simp) ?_; conv => whnf) | (refine ACall.scalar (sl1Words_p [kindL 7, Lib.itoa a] [32] (by simp) (by omega) (by simp)) rfl rfl ?_; conv => whnf) | (refine AB.ofT (by assumption) ?_; conv => whnf) | (refine AB.ofF (by assumption) ?_; conv => whnf) | (exact trivial) | (refine And.intro rfl ?_; conv => whnf) | (refine AB.mk (fun h => ?_) (fun h => ?_) <;> (conv => whnf)) | (with_reducible_and_instances rfl) | (exact (rfl : AP.tup _ = AP.tup _)))
    simp [stepTextL, h, stepWords]
theorem sStepText_8 (a b c : Int) (h : stepOk ⟨8, a, b, c, []⟩ = true) : PCall av 25 [.agg (DStep.ds ⟨8, a, b, c, []⟩)] (rL (stepTextL ⟨8, a, b, c, []⟩)) := by
  have hF := stepOk_facts h
  simp only at hF
  have hn : (!stepOk ⟨8, a, b, c, []⟩) = false := by simp [h]
  have hw : (wordsB [32] [kindL 8, Lib.itoa a]).length ≤ 1000 := by simpa [stepWords] using stepWords_len h
  refine pcall_of av_ok Tryd.func25 rfl Tryd.call25 Tryd.ntmps25 (congrArg Array.toList Tryd.results25) fun S => ?_; conv => whnf
  repeat' (first | (refine AWP.seq ?_) | (refine AWP.region av_ok ?_; conv => whnf) | (refine AWP.ret ?_; conv => whnf) | (refine AWP.skip ?_; conv => whnf) | (refine AWP.exit ?_; conv => whnf) | (refine AWP.block ?_; conv => whnf) | (refine AWP.cond ?_; conv => whnf) | (refine AB.tt ?_; conv => whnf) | (refine AB.ff ?_; conv => whnf) | (refine ACall.pure (sStepOk_p ⟨8, a, b, c, []⟩) rfl ?_; conv => whnf) | (refine AB.ofT (by assumption) ?_; conv => whnf) | (refine AB.ofF (by assumption) ?_; conv => whnf) | (exact trivial) | (refine And.intro rfl ?_; conv => whnf) | (refine AB.mk (fun h => ?_) (fun h => ?_) <;> (conv => whnf)) | (with_reducible_and_instances rfl) | (exact (rfl : AP.tup _ = AP.tup _)))
  refine' AWP.draw av_ok 3 [[], [], [1], [1, 2, 0], [0, 2, 1, 3], [3, 1, 2, 0, 4], [4, 0, 2, 1, 3, 5]] [(_, _), (_, _), (_, _)] ?hD ?hok ?hl ?hf ?hno ?ht
  case hD => kernel_rfl
  case hok => kernel_rfl
  case hl => rfl
  case hf =>
    conv => whnf
    repeat' (first | (refine ⟨rfl, rfl⟩) | exact trivial | (refine AFCall.mk ⟨_, _, sl32Kinds_p, .inl rfl, ?_⟩; conv => whnf) | (refine And.intro ?_ ?_ <;> conv => whnf))
  case hno => rfl
  case ht =>
    conv => whnf
    repeat' (first | (refine AWP.seq ?_) | (refine AWP.region av_ok ?_; conv => whnf) | (refine AWP.ret ?_; conv => whnf) | (refine AWP.skip ?_; conv => whnf) | (refine AWP.exit ?_; conv => whnf) | (refine AWP.block ?_; conv => whnf) | (refine AWP.cond ?_; conv => whnf) | (refine AB.tt ?_; conv => whnf) | (refine AB.ff ?_; conv => whnf) | (refine ACall.pure (sStepOk_p ⟨8, a, b, c, []⟩) rfl ?_; conv => whnf) | (refine ACall.pure (sl32Node_p _) rfl ?_; conv => whnf) | (refine AIx.at _ _ rfl rfl ?_; conv => whnf) | (refine ACall.pure (sNodeWord_p _) rfl ?_; conv => whnf) | (refine ACall.pure (sl1IntZ_p a (by omega) (by omega)) rfl ?_; conv => whnf) | (refine ACall.pure (sl1IntZ_p b (by omega) (by omega)) rfl ?_; conv => whnf) | (refine sz_app (by simp) ?_; conv => whnf) | (refine all_len (by simp) ?_; conv => whnf) | (refine ACall.scalar (sl1Words_p [kindL 8, Lib.itoa a] [32] (by simp) (by omega) (by simp)) rfl rfl ?_; conv => whnf) | (refine AB.ofT (by assumption) ?_; conv => whnf) | (refine AB.ofF (by assumption) ?_; conv => whnf) | (exact trivial) | (refine And.intro rfl ?_; conv => whnf) | (refine AB.mk (fun h => ?_) (fun h => ?_) <;> (conv => whnf)) | (with_reducible_and_instances rfl) | (exact (rfl : AP.tup _ = AP.tup _)))
    simp [stepTextL, h, stepWords]
theorem sStepText_9 (a b c : Int) (h : stepOk ⟨9, a, b, c, []⟩ = true) : PCall av 25 [.agg (DStep.ds ⟨9, a, b, c, []⟩)] (rL (stepTextL ⟨9, a, b, c, []⟩)) := by
  have hF := stepOk_facts h
  simp only at hF
  have hn : (!stepOk ⟨9, a, b, c, []⟩) = false := by simp [h]
  have hw : (wordsB [32] [kindL 9, nodeWordL a, nodeWordL b]).length ≤ 1000 := by simpa [stepWords] using stepWords_len h
  refine pcall_of av_ok Tryd.func25 rfl Tryd.call25 Tryd.ntmps25 (congrArg Array.toList Tryd.results25) fun S => ?_; conv => whnf
  repeat' (first | (refine AWP.seq ?_) | (refine AWP.region av_ok ?_; conv => whnf) | (refine AWP.ret ?_; conv => whnf) | (refine AWP.skip ?_; conv => whnf) | (refine AWP.exit ?_; conv => whnf) | (refine AWP.block ?_; conv => whnf) | (refine AWP.cond ?_; conv => whnf) | (refine AB.tt ?_; conv => whnf) | (refine AB.ff ?_; conv => whnf) | (refine ACall.pure (sStepOk_p ⟨9, a, b, c, []⟩) rfl ?_; conv => whnf) | (refine AB.ofT (by assumption) ?_; conv => whnf) | (refine AB.ofF (by assumption) ?_; conv => whnf) | (exact trivial) | (refine And.intro rfl ?_; conv => whnf) | (refine AB.mk (fun h => ?_) (fun h => ?_) <;> (conv => whnf)) | (with_reducible_and_instances rfl) | (exact (rfl : AP.tup _ = AP.tup _)))
  refine' AWP.draw av_ok 3 [[], [], [1], [1, 2, 0], [0, 2, 1, 3], [3, 1, 2, 0, 4], [4, 0, 2, 1, 3, 5]] [(_, _), (_, _), (_, _)] ?hD ?hok ?hl ?hf ?hno ?ht
  case hD => kernel_rfl
  case hok => kernel_rfl
  case hl => rfl
  case hf =>
    conv => whnf
    repeat' (first | (refine ⟨rfl, rfl⟩) | exact trivial | (refine AFCall.mk ⟨_, _, sl32Kinds_p, .inl rfl, ?_⟩; conv => whnf) | (refine And.intro ?_ ?_ <;> conv => whnf))
  case hno => rfl
  case ht =>
    conv => whnf
    repeat' (first | (refine AWP.seq ?_) | (refine AWP.region av_ok ?_; conv => whnf) | (refine AWP.ret ?_; conv => whnf) | (refine AWP.skip ?_; conv => whnf) | (refine AWP.exit ?_; conv => whnf) | (refine AWP.block ?_; conv => whnf) | (refine AWP.cond ?_; conv => whnf) | (refine AB.tt ?_; conv => whnf) | (refine AB.ff ?_; conv => whnf) | (refine ACall.pure (sStepOk_p ⟨9, a, b, c, []⟩) rfl ?_; conv => whnf) | (refine ACall.pure (sl32Node_p _) rfl ?_; conv => whnf) | (refine AIx.at _ _ rfl rfl ?_; conv => whnf) | (refine ACall.pure (sNodeWord_p _) rfl ?_; conv => whnf) | (refine ACall.pure (sl1IntZ_p a (by omega) (by omega)) rfl ?_; conv => whnf) | (refine ACall.pure (sl1IntZ_p b (by omega) (by omega)) rfl ?_; conv => whnf) | (refine sz_app (by simp) ?_; conv => whnf) | (refine all_len (by simp) ?_; conv => whnf) | (refine ACall.scalar (sl1Words_p [kindL 9, nodeWordL a, nodeWordL b] [32] (by simp) (by omega) (by simp)) rfl rfl ?_; conv => whnf) | (refine AB.ofT (by assumption) ?_; conv => whnf) | (refine AB.ofF (by assumption) ?_; conv => whnf) | (exact trivial) | (refine And.intro rfl ?_; conv => whnf) | (refine AB.mk (fun h => ?_) (fun h => ?_) <;> (conv => whnf)) | (with_reducible_and_instances rfl) | (exact (rfl : AP.tup _ = AP.tup _)))
    simp [stepTextL, h, stepWords]
theorem sStepText_10 (a b c : Int) (h : stepOk ⟨10, a, b, c, []⟩ = true) : PCall av 25 [.agg (DStep.ds ⟨10, a, b, c, []⟩)] (rL (stepTextL ⟨10, a, b, c, []⟩)) := by
  have hF := stepOk_facts h
  simp only at hF
  have hn : (!stepOk ⟨10, a, b, c, []⟩) = false := by simp [h]
  have hw : (wordsB [32] [kindL 10, nodeWordL a, nodeWordL b]).length ≤ 1000 := by simpa [stepWords] using stepWords_len h
  refine pcall_of av_ok Tryd.func25 rfl Tryd.call25 Tryd.ntmps25 (congrArg Array.toList Tryd.results25) fun S => ?_; conv => whnf
  repeat' (first | (refine AWP.seq ?_) | (refine AWP.region av_ok ?_; conv => whnf) | (refine AWP.ret ?_; conv => whnf) | (refine AWP.skip ?_; conv => whnf) | (refine AWP.exit ?_; conv => whnf) | (refine AWP.block ?_; conv => whnf) | (refine AWP.cond ?_; conv => whnf) | (refine AB.tt ?_; conv => whnf) | (refine AB.ff ?_; conv => whnf) | (refine ACall.pure (sStepOk_p ⟨10, a, b, c, []⟩) rfl ?_; conv => whnf) | (refine AB.ofT (by assumption) ?_; conv => whnf) | (refine AB.ofF (by assumption) ?_; conv => whnf) | (exact trivial) | (refine And.intro rfl ?_; conv => whnf) | (refine AB.mk (fun h => ?_) (fun h => ?_) <;> (conv => whnf)) | (with_reducible_and_instances rfl) | (exact (rfl : AP.tup _ = AP.tup _)))
  refine' AWP.draw av_ok 3 [[], [], [1], [1, 2, 0], [0, 2, 1, 3], [3, 1, 2, 0, 4], [4, 0, 2, 1, 3, 5]] [(_, _), (_, _), (_, _)] ?hD ?hok ?hl ?hf ?hno ?ht
  case hD => kernel_rfl
  case hok => kernel_rfl
  case hl => rfl
  case hf =>
    conv => whnf
    repeat' (first | (refine ⟨rfl, rfl⟩) | exact trivial | (refine AFCall.mk ⟨_, _, sl32Kinds_p, .inl rfl, ?_⟩; conv => whnf) | (refine And.intro ?_ ?_ <;> conv => whnf))
  case hno => rfl
  case ht =>
    conv => whnf
    repeat' (first | (refine AWP.seq ?_) | (refine AWP.region av_ok ?_; conv => whnf) | (refine AWP.ret ?_; conv => whnf) | (refine AWP.skip ?_; conv => whnf) | (refine AWP.exit ?_; conv => whnf) | (refine AWP.block ?_; conv => whnf) | (refine AWP.cond ?_; conv => whnf) | (refine AB.tt ?_; conv => whnf) | (refine AB.ff ?_; conv => whnf) | (refine ACall.pure (sStepOk_p ⟨10, a, b, c, []⟩) rfl ?_; conv => whnf) | (refine ACall.pure (sl32Node_p _) rfl ?_; conv => whnf) | (refine AIx.at _ _ rfl rfl ?_; conv => whnf) | (refine ACall.pure (sNodeWord_p _) rfl ?_; conv => whnf) | (refine ACall.pure (sl1IntZ_p a (by omega) (by omega)) rfl ?_; conv => whnf) | (refine ACall.pure (sl1IntZ_p b (by omega) (by omega)) rfl ?_; conv => whnf) | (refine sz_app (by simp) ?_; conv => whnf) | (refine all_len (by simp) ?_; conv => whnf) | (refine ACall.scalar (sl1Words_p [kindL 10, nodeWordL a, nodeWordL b] [32] (by simp) (by omega) (by simp)) rfl rfl ?_; conv => whnf) | (refine AB.ofT (by assumption) ?_; conv => whnf) | (refine AB.ofF (by assumption) ?_; conv => whnf) | (exact trivial) | (refine And.intro rfl ?_; conv => whnf) | (refine AB.mk (fun h => ?_) (fun h => ?_) <;> (conv => whnf)) | (with_reducible_and_instances rfl) | (exact (rfl : AP.tup _ = AP.tup _)))
    simp [stepTextL, h, stepWords]
theorem sStepText_11 (a b c : Int) (h : stepOk ⟨11, a, b, c, []⟩ = true) : PCall av 25 [.agg (DStep.ds ⟨11, a, b, c, []⟩)] (rL (stepTextL ⟨11, a, b, c, []⟩)) := by
  have hF := stepOk_facts h
  simp only at hF
  have hn : (!stepOk ⟨11, a, b, c, []⟩) = false := by simp [h]
  have hw : (wordsB [32] [kindL 11, Lib.itoa a, Lib.itoa b, Lib.itoa c]).length ≤ 1000 := by simpa [stepWords] using stepWords_len h
  refine pcall_of av_ok Tryd.func25 rfl Tryd.call25 Tryd.ntmps25 (congrArg Array.toList Tryd.results25) fun S => ?_; conv => whnf
  repeat' (first | (refine AWP.seq ?_) | (refine AWP.region av_ok ?_; conv => whnf) | (refine AWP.ret ?_; conv => whnf) | (refine AWP.skip ?_; conv => whnf) | (refine AWP.exit ?_; conv => whnf) | (refine AWP.block ?_; conv => whnf) | (refine AWP.cond ?_; conv => whnf) | (refine AB.tt ?_; conv => whnf) | (refine AB.ff ?_; conv => whnf) | (refine ACall.pure (sStepOk_p ⟨11, a, b, c, []⟩) rfl ?_; conv => whnf) | (refine AB.ofT (by assumption) ?_; conv => whnf) | (refine AB.ofF (by assumption) ?_; conv => whnf) | (exact trivial) | (refine And.intro rfl ?_; conv => whnf) | (refine AB.mk (fun h => ?_) (fun h => ?_) <;> (conv => whnf)) | (with_reducible_and_instances rfl) | (exact (rfl : AP.tup _ = AP.tup _)))
  refine' AWP.draw av_ok 3 [[], [], [1], [1, 2, 0], [0, 2, 1, 3], [3, 1, 2, 0, 4], [4, 0, 2, 1, 3, 5]] [(_, _), (_, _), (_, _)] ?hD ?hok ?hl ?hf ?hno ?ht
  case hD => kernel_rfl
  case hok => kernel_rfl
  case hl => rfl
  case hf =>
    conv => whnf
    repeat' (first | (refine ⟨rfl, rfl⟩) | exact trivial | (refine AFCall.mk ⟨_, _, sl32Kinds_p, .inl rfl, ?_⟩; conv => whnf) | (refine And.intro ?_ ?_ <;> conv => whnf))
  case hno => rfl
  case ht =>
    conv => whnf
    repeat' (first | (refine AWP.seq ?_) | (refine AWP.region av_ok ?_; conv => whnf) | (refine AWP.ret ?_; conv => whnf) | (refine AWP.skip ?_; conv => whnf) | (refine AWP.exit ?_; conv => whnf) | (refine AWP.block ?_; conv => whnf) | (refine AWP.cond ?_; conv => whnf) | (refine AB.tt ?_; conv => whnf) | (refine AB.ff ?_; conv => whnf) | (refine ACall.pure (sStepOk_p ⟨11, a, b, c, []⟩) rfl ?_; conv => whnf) | (refine ACall.pure (sl32Node_p _) rfl ?_; conv => whnf) | (refine AIx.at _ _ rfl rfl ?_; conv => whnf) | (refine ACall.pure (sNodeWord_p _) rfl ?_; conv => whnf) | (refine ACall.pure (sl1IntZ_p a (by omega) (by omega)) rfl ?_; conv => whnf) | (refine ACall.pure (sl1IntZ_p b (by omega) (by omega)) rfl ?_; conv => whnf) | (refine sz_app (by simp) ?_; conv => whnf) | (refine all_len (by simp) ?_; conv => whnf) | (refine ACall.scalar (sl1Words_p [kindL 11, Lib.itoa a, Lib.itoa b, Lib.itoa c] [32] (by simp) (by omega) (by simp)) rfl rfl ?_; conv => whnf) | (refine AB.ofT (by assumption) ?_; conv => whnf) | (refine AB.ofF (by assumption) ?_; conv => whnf) | (exact trivial) | (refine And.intro rfl ?_; conv => whnf) | (refine AB.mk (fun h => ?_) (fun h => ?_) <;> (conv => whnf)) | (with_reducible_and_instances rfl) | (exact (rfl : AP.tup _ = AP.tup _)))
    refine' AWP.draw av_ok 8 [[], [], [1], [1, 2], [], [4], [2, 1, 3, 4, 5], [5, 4, 6, 2, 1, 3], [3, 1, 2, 6, 4, 5, 7, 0], [0, 7, 5, 4, 6, 2, 1, 3, 8]] [(_, _), (_, _), (_, _), (_, _), (_, _), (_, _), (_, _), (_, _)] ?hD ?hok ?hl ?hf ?hno ?ht
    case hD => kernel_rfl
    case hok => kernel_rfl
    case hl => rfl
    case hf =>
      conv => whnf
      repeat' (first | (refine ⟨rfl, rfl⟩) | exact trivial | (refine AFCall.mk ⟨_, _, sl1IntZ_p b (by omega) (by omega), .inl rfl, ?_⟩; conv => whnf) | (refine AFCall.mk ⟨_, _, sl1IntZ_p c (by omega) (by omega), .inl rfl, ?_⟩; conv => whnf) | (refine And.intro ?_ ?_ <;> conv => whnf))
    case hno => rfl
    case ht =>
      conv => whnf
      repeat' (first | (refine AWP.seq ?_) | (refine AWP.region av_ok ?_; conv => whnf) | (refine AWP.ret ?_; conv => whnf) | (refine AWP.skip ?_; conv => whnf) | (refine AWP.exit ?_; conv => whnf) | (refine AWP.block ?_; conv => whnf) | (refine AWP.cond ?_; conv => whnf) | (refine AB.tt ?_; conv => whnf) | (refine AB.ff ?_; conv => whnf) | (refine ACall.pure (sStepOk_p ⟨11, a, b, c, []⟩) rfl ?_; conv => whnf) | (refine ACall.pure (sl32Node_p _) rfl ?_; conv => whnf) | (refine AIx.at _ _ rfl rfl ?_; conv => whnf) | (refine ACall.pure (sNodeWord_p _) rfl ?_; conv => whnf) | (refine ACall.pure (sl1IntZ_p a (by omega) (by omega)) rfl ?_; conv => whnf) | (refine ACall.pure (sl1IntZ_p b (by omega) (by omega)) rfl ?_; conv => whnf) | (refine sz_app (by simp) ?_; conv => whnf) | (refine all_len (by simp) ?_; conv => whnf) | (refine ACall.scalar (sl1Words_p [kindL 11, Lib.itoa a, Lib.itoa b, Lib.itoa c] [32] (by simp) (by omega) (by simp)) rfl rfl ?_; conv => whnf) | (refine AB.ofT (by assumption) ?_; conv => whnf) | (refine AB.ofF (by assumption) ?_; conv => whnf) | (exact trivial) | (refine And.intro rfl ?_; conv => whnf) | (refine AB.mk (fun h => ?_) (fun h => ?_) <;> (conv => whnf)) | (with_reducible_and_instances rfl) | (exact (rfl : AP.tup _ = AP.tup _)))
      simp [stepTextL, h, stepWords]
theorem sStepText_5 (a b c : Int) (f : List Int) (h : stepOk ⟨5, a, b, c, f⟩ = true) (hf : f ≠ []) : PCall av 25 [.agg (DStep.ds ⟨5, a, b, c, f⟩)] (rL (stepTextL ⟨5, a, b, c, f⟩)) := by
  have hF := stepOk_facts h
  simp only at hF
  have hn : (!stepOk ⟨5, a, b, c, f⟩) = false := by simp [h]
  have hw : (wordsB [32] [kindL 5, nodeWordL a, fateL f]).length ≤ 1000 := by simpa [stepWords, hf] using stepWords_len h
  have hf1 : decide (((f.map eI).length : Int) > 0) = true := by simpa using List.length_pos_iff.2 hf
  refine pcall_of av_ok Tryd.func25 rfl Tryd.call25 Tryd.ntmps25 (congrArg Array.toList Tryd.results25) fun S => ?_; conv => whnf
  repeat' (first | (refine AWP.seq ?_) | (refine AWP.region av_ok ?_; conv => whnf) | (refine AWP.ret ?_; conv => whnf) | (refine AWP.skip ?_; conv => whnf) | (refine AWP.exit ?_; conv => whnf) | (refine AWP.block ?_; conv => whnf) | (refine AWP.cond ?_; conv => whnf) | (refine AB.tt ?_; conv => whnf) | (refine AB.ff ?_; conv => whnf) | (refine ACall.pure (sStepOk_p ⟨5, a, b, c, f⟩) rfl ?_; conv => whnf) | (refine AB.ofT (by assumption) ?_; conv => whnf) | (refine AB.ofF (by assumption) ?_; conv => whnf) | (exact trivial) | (refine And.intro rfl ?_; conv => whnf) | (refine AB.mk (fun h => ?_) (fun h => ?_) <;> (conv => whnf)) | (with_reducible_and_instances rfl) | (exact (rfl : AP.tup _ = AP.tup _)))
  refine' AWP.draw av_ok 3 [[], [], [1], [1, 2, 0], [0, 2, 1, 3], [3, 1, 2, 0, 4], [4, 0, 2, 1, 3, 5]] [(_, _), (_, _), (_, _)] ?hD ?hok ?hl ?hf ?hno ?ht
  case hD => kernel_rfl
  case hok => kernel_rfl
  case hl => rfl
  case hf =>
    conv => whnf
    repeat' (first | (refine ⟨rfl, rfl⟩) | exact trivial | (refine AFCall.mk ⟨_, _, sl32Kinds_p, .inl rfl, ?_⟩; conv => whnf) | (refine And.intro ?_ ?_ <;> conv => whnf))
  case hno => rfl
  case ht =>
    conv => whnf
    repeat' (first | (refine AWP.seq ?_) | (refine AWP.region av_ok ?_; conv => whnf) | (refine AWP.ret ?_; conv => whnf) | (refine AWP.skip ?_; conv => whnf) | (refine AWP.exit ?_; conv => whnf) | (refine AWP.block ?_; conv => whnf) | (refine AWP.cond ?_; conv => whnf) | (refine AB.tt ?_; conv => whnf) | (refine AB.ff ?_; conv => whnf) | (refine ACall.pure (sStepOk_p ⟨5, a, b, c, f⟩) rfl ?_; conv => whnf) | (refine ACall.pure (sl32Node_p _) rfl ?_; conv => whnf) | (refine AIx.at _ _ rfl rfl ?_; conv => whnf) | (refine ACall.pure (sNodeWord_p _) rfl ?_; conv => whnf) | (refine ACall.pure (sl1IntZ_p a (by omega) (by omega)) rfl ?_; conv => whnf) | (refine ACall.pure (sl1IntZ_p b (by omega) (by omega)) rfl ?_; conv => whnf) | (refine sz_app (by simp) ?_; conv => whnf) | (refine all_len (by simp) ?_; conv => whnf) | (refine ACall.pure (sl32Fates_p f hF.2.2.2.2.1) rfl ?_; conv => whnf) | (refine ACall.scalar (sl1Words_p [kindL 5, nodeWordL a, fateL f] [32] (by simp) (by omega) (by simp)) rfl rfl ?_; conv => whnf) | (refine AB.ofT (by assumption) ?_; conv => whnf) | (refine AB.ofF (by assumption) ?_; conv => whnf) | (exact trivial) | (refine And.intro rfl ?_; conv => whnf) | (refine AB.mk (fun h => ?_) (fun h => ?_) <;> (conv => whnf)) | (with_reducible_and_instances rfl) | (exact (rfl : AP.tup _ = AP.tup _)))
    simp [stepTextL, h, stepWords, hf]
theorem sStepText_5n (a b c : Int) (f : List Int) (h : stepOk ⟨5, a, b, c, f⟩ = true) (hf : f = []) : PCall av 25 [.agg (DStep.ds ⟨5, a, b, c, f⟩)] (rL (stepTextL ⟨5, a, b, c, f⟩)) := by
  have hF := stepOk_facts h
  simp only at hF
  have hn : (!stepOk ⟨5, a, b, c, f⟩) = false := by simp [h]
  have hw : (wordsB [32] [kindL 5, nodeWordL a]).length ≤ 1000 := by simpa [stepWords, hf] using stepWords_len h
  have hf1 : decide (((f.map eI).length : Int) > 0) = false := by simp [hf]
  refine pcall_of av_ok Tryd.func25 rfl Tryd.call25 Tryd.ntmps25 (congrArg Array.toList Tryd.results25) fun S => ?_; conv => whnf
  repeat' (first | (refine AWP.seq ?_) | (refine AWP.region av_ok ?_; conv => whnf) | (refine AWP.ret ?_; conv => whnf) | (refine AWP.skip ?_; conv => whnf) | (refine AWP.exit ?_; conv => whnf) | (refine AWP.block ?_; conv => whnf) | (refine AWP.cond ?_; conv => whnf) | (refine AB.tt ?_; conv => whnf) | (refine AB.ff ?_; conv => whnf) | (refine ACall.pure (sStepOk_p ⟨5, a, b, c, f⟩) rfl ?_; conv => whnf) | (refine AB.ofT (by assumption) ?_; conv => whnf) | (refine AB.ofF (by assumption) ?_; conv => whnf) | (exact trivial) | (refine And.intro rfl ?_; conv => whnf) | (refine AB.mk (fun h => ?_) (fun h => ?_) <;> (conv => whnf)) | (with_reducible_and_instances rfl) | (exact (rfl : AP.tup _ = AP.tup _)))
  refine' AWP.draw av_ok 3 [[], [], [1], [1, 2, 0], [0, 2, 1, 3], [3, 1, 2, 0, 4], [4, 0, 2, 1, 3, 5]] [(_, _), (_, _), (_, _)] ?hD ?hok ?hl ?hf ?hno ?ht
  case hD => kernel_rfl
  case hok => kernel_rfl
  case hl => rfl
  case hf =>
    conv => whnf
    repeat' (first | (refine ⟨rfl, rfl⟩) | exact trivial | (refine AFCall.mk ⟨_, _, sl32Kinds_p, .inl rfl, ?_⟩; conv => whnf) | (refine And.intro ?_ ?_ <;> conv => whnf))
  case hno => rfl
  case ht =>
    conv => whnf
    repeat' (first | (refine AWP.seq ?_) | (refine AWP.region av_ok ?_; conv => whnf) | (refine AWP.ret ?_; conv => whnf) | (refine AWP.skip ?_; conv => whnf) | (refine AWP.exit ?_; conv => whnf) | (refine AWP.block ?_; conv => whnf) | (refine AWP.cond ?_; conv => whnf) | (refine AB.tt ?_; conv => whnf) | (refine AB.ff ?_; conv => whnf) | (refine ACall.pure (sStepOk_p ⟨5, a, b, c, f⟩) rfl ?_; conv => whnf) | (refine ACall.pure (sl32Node_p _) rfl ?_; conv => whnf) | (refine AIx.at _ _ rfl rfl ?_; conv => whnf) | (refine ACall.pure (sNodeWord_p _) rfl ?_; conv => whnf) | (refine ACall.pure (sl1IntZ_p a (by omega) (by omega)) rfl ?_; conv => whnf) | (refine ACall.pure (sl1IntZ_p b (by omega) (by omega)) rfl ?_; conv => whnf) | (refine sz_app (by simp) ?_; conv => whnf) | (refine all_len (by simp) ?_; conv => whnf) | (refine ACall.pure (sl32Fates_p f hF.2.2.2.2.1) rfl ?_; conv => whnf) | (refine ACall.scalar (sl1Words_p [kindL 5, nodeWordL a] [32] (by simp) (by omega) (by simp)) rfl rfl ?_; conv => whnf) | (refine AB.ofT (by assumption) ?_; conv => whnf) | (refine AB.ofF (by assumption) ?_; conv => whnf) | (exact trivial) | (refine And.intro rfl ?_; conv => whnf) | (refine AB.mk (fun h => ?_) (fun h => ?_) <;> (conv => whnf)) | (with_reducible_and_instances rfl) | (exact (rfl : AP.tup _ = AP.tup _)))
    subst hf
    simp [stepTextL, h, stepWords]
theorem sStepText_no (x : DStep) (h : stepOk x = false) : PCall av 25 [.agg x.ds] (rL (stepTextL x)) := by
  have hn : (!stepOk x) = true := by simp [h]
  refine pcall_of av_ok Tryd.func25 rfl Tryd.call25 Tryd.ntmps25 (congrArg Array.toList Tryd.results25) fun S => ?_; conv => whnf
  repeat' (first | (refine AWP.seq ?_) | (refine AWP.region av_ok ?_; conv => whnf) | (refine AWP.ret ?_; conv => whnf) | (refine AWP.skip ?_; conv => whnf) | (refine AWP.exit ?_; conv => whnf) | (refine AWP.block ?_; conv => whnf) | (refine AWP.cond ?_; conv => whnf) | (refine AB.tt ?_; conv => whnf) | (refine AB.ff ?_; conv => whnf) | (refine ACall.pure (sStepOk_p x) rfl ?_; conv => whnf) | (refine AB.ofT (by assumption) ?_; conv => whnf) | (refine AB.ofF (by assumption) ?_; conv => whnf) | (exact trivial) | (refine And.intro rfl ?_; conv => whnf) | (refine AB.mk (fun h => ?_) (fun h => ?_) <;> (conv => whnf)) | (with_reducible_and_instances rfl) | (exact (rfl : AP.tup _ = AP.tup _)))
  simp [stepTextL, h]
theorem sStepText_p (x : DStep) : PCall av 25 [.agg x.ds] (rL (stepTextL x)) := by
  cases h : stepOk x
  · exact sStepText_no x h
  · have hF := stepOk_facts h
    obtain ⟨k, a, b, c, f⟩ := x
    simp only at hF
    rcases kind_cases hF.1.1 hF.1.2 with rfl | rfl | rfl | rfl | rfl | rfl | rfl | rfl | rfl | rfl | rfl
    case inr.inr.inr.inr.inl =>
      by_cases hf : f = []
      · exact sStepText_5n a b c f h hf
      · exact sStepText_5 a b c f h hf
    all_goals
      have hf : f = [] := hF.2.2.2.2.2 (by decide)
      subst hf
    · exact sStepText_1 a b c h
    · exact sStepText_2 a b c h
    · exact sStepText_3 a b c h
    · exact sStepText_4 a b c h
    · exact sStepText_6 a b c h
    · exact sStepText_7 a b c h
    · exact sStepText_8 a b c h
    · exact sStepText_9 a b c h
    · exact sStepText_10 a b c h
    · exact sStepText_11 a b c h
end Go.Proofs.YtlhanpkfnhnegaaDoor
