/- The law of steps' text. -/
import Derived.Test.YtlhanpkfnhnegaaDoorAvS5
set_option linter.unusedVariables false
set_option linter.unusedSimpArgs false
set_option maxRecDepth 100000
namespace Go.Proofs.YtlhanpkfnhnegaaDoor
open Go.ChangeShapes Go.WideShapes Go.RowKit

def szN (n : Int) : Int := if n < 0 then -1 else n
theorem szInt64S_p (l : List Int) (hl : l.length ≤ 9223372036854775807) : PCall av 80 [.one (dIs l), pI 1048576] (rI (szN (1048576 - l.length))) := by
  refine pcall_of av_ok Tryd.func80 rfl Tryd.call80 Tryd.ntmps80 (congrArg Array.toList Tryd.results80) fun S => ?_; conv => whnf
  repeat' (first | (refine AWP.seq ?_) | (refine AWP.region av_ok ?_; conv => whnf) | (refine AWP.ret ?_; conv => whnf) | (refine AWP.skip ?_; conv => whnf) | (refine AWP.exit ?_; conv => whnf) | (refine AWP.block ?_; conv => whnf) | (refine AWP.cond ?_; conv => whnf) | (refine AB.tt ?_; conv => whnf) | (refine AB.ff ?_; conv => whnf) | (refine AW.i64 (n := _ - _) (by simp; omega) (by simp; omega) ?_; conv => whnf) | (refine AB.ofT (by assumption) ?_; conv => whnf) | (refine AB.ofF (by assumption) ?_; conv => whnf) | (exact trivial) | (refine And.intro rfl ?_; conv => whnf) | (refine AB.mk (fun h => ?_) (fun h => ?_) <;> (conv => whnf)) | (with_reducible_and_instances rfl) | (exact (rfl : AP.tup _ = AP.tup _)))
  all_goals
    simp_all [szN]
  all_goals omega
theorem szStep_p (x : DStep) (hl : x.fates.length ≤ 9223372036854775807) : PCall av 24 [.agg x.ds, pI 1048576] (rI (szN (1048576 - x.fates.length))) := by
  refine pcall_of av_ok Tryd.func24 rfl Tryd.call24 Tryd.ntmps24 (congrArg Array.toList Tryd.results24) fun S => ?_; conv => whnf
  repeat' (first | (refine AWP.seq ?_) | (refine AWP.region av_ok ?_; conv => whnf) | (refine AWP.ret ?_; conv => whnf) | (refine AWP.skip ?_; conv => whnf) | (refine AWP.exit ?_; conv => whnf) | (refine AWP.block ?_; conv => whnf) | (refine AWP.cond ?_; conv => whnf) | (refine AB.tt ?_; conv => whnf) | (refine AB.ff ?_; conv => whnf) | (refine ACall.pure (szInt64S_p _ hl) rfl ?_; conv => whnf) | (refine AB.ofT (by assumption) ?_; conv => whnf) | (refine AB.ofF (by assumption) ?_; conv => whnf) | (exact trivial) | (refine And.intro rfl ?_; conv => whnf) | (refine AB.mk (fun h => ?_) (fun h => ?_) <;> (conv => whnf)) | (with_reducible_and_instances rfl) | (exact (rfl : AP.tup _ = AP.tup _)))
  all_goals
    unfold szN at *
    split at * <;> simp_all
def cpL (l : List Int) (k : Nat) : List (List AD) := (l.take k).map eI ++ List.replicate (l.length - k) [dI 0]
theorem cpL_zero (l : List Int) : cpL l 0 = List.replicate l.length [dI 0] := by simp [cpL]
theorem cpL_end (l : List Int) : cpL l l.length = l.map eI := by simp [cpL]
theorem cpL_len (l : List Int) (k : Nat) (hk : k ≤ l.length) : (cpL l k).length = l.length := by simp [cpL]; omega
theorem cpL_set (l : List Int) (k : Nat) (hk : k < l.length) : (cpL l k).set k (eI l[k]) = cpL l (k + 1) := by
  unfold cpL
  have h1 : ((l.take k).map eI).length = k := by simp; omega
  rw [List.set_append_right _ _ (by omega), h1, Nat.sub_self, take_snoc eI hk, List.append_assoc]
  congr 1
  rw [show l.length - k = (l.length - (k + 1)) + 1 by omega, List.replicate_succ]
  rfl
theorem cpL_at (l : List Int) (k : Nat) (hk : k < l.length) : (cpL l k)[k]? = some [dI 0] := by
  have h1 : ((l.take k).map eI).length = k := by simp; omega
  unfold cpL
  rw [List.getElem?_append_right (by omega), h1, List.getElem?_replicate, if_pos (by omega)]
theorem toInt64S_p (l : List Int) (hl : l.length ≤ 1048576) : PCall av 85 [.one (dIs l)] (.val (.one (dIs l))) := by
  refine pcall_of av_ok Tryd.func85 rfl Tryd.call85 Tryd.ntmps85 (congrArg Array.toList Tryd.results85) fun S => ?_; conv => whnf
  repeat' (first | (refine AWP.seq ?_) | (refine AWP.region av_ok ?_; conv => whnf) | (refine AWP.ret ?_; conv => whnf) | (refine AWP.skip ?_; conv => whnf) | (refine AWP.exit ?_; conv => whnf) | (refine AWP.block ?_; conv => whnf) | (refine AWP.cond ?_; conv => whnf) | (refine AB.tt ?_; conv => whnf) | (refine AB.ff ?_; conv => whnf) | (refine AB.ofT (by assumption) ?_; conv => whnf) | (refine AB.ofF (by assumption) ?_; conv => whnf) | (exact trivial) | (refine And.intro rfl ?_; conv => whnf) | (refine AB.mk (fun h => ?_) (fun h => ?_) <;> (conv => whnf)) | (with_reducible_and_instances rfl) | (exact (rfl : AP.tup _ = AP.tup _)))
  refine ⟨l.length, by simp, by simp, (show 8 * l.length ≤ _ by omega), by omega, ?_⟩
  conv => whnf
  repeat' (first | (refine AWP.seq ?_) | (refine AWP.region av_ok ?_; conv => whnf) | (refine AWP.ret ?_; conv => whnf) | (refine AWP.skip ?_; conv => whnf) | (refine AWP.exit ?_; conv => whnf) | (refine AWP.block ?_; conv => whnf) | (refine AWP.cond ?_; conv => whnf) | (refine AB.tt ?_; conv => whnf) | (refine AB.ff ?_; conv => whnf) | (refine AB.ofT (by assumption) ?_; conv => whnf) | (refine AB.ofF (by assumption) ?_; conv => whnf) | (exact trivial) | (refine And.intro rfl ?_; conv => whnf) | (refine AB.mk (fun h => ?_) (fun h => ?_) <;> (conv => whnf)) | (with_reducible_and_instances rfl) | (exact (rfl : AP.tup _ = AP.tup _)))
  refine AWP.loopS (fun k : Nat => k ≤ l.length) (7 :: [4, 8, 9, 10, 11, 12, 13, 14, 15, 16, 17, 18, 19, 20]) (fun k => [(3, .one (.own 7)), (4, vI .i64 (k : Int))]) (fun k => [(7, .row 2 1 (cpL l k))]) (fun k => l.length - k) 0 (by omega) ?_ (SubO.cons (congrArg some (congrArg (AO.row 2 1) (cpL_zero l).symm)) SubO.nil) (fun k hR => ?_) <;> (conv => whnf)
  · repeat' (first | exact trivial | (refine ⟨rfl, ?_⟩; conv => whnf))
  · repeat' (first | (refine AWP.seq ?_) | (refine AWP.region av_ok ?_; conv => whnf) | (refine AWP.ret ?_; conv => whnf) | (refine AWP.skip ?_; conv => whnf) | (refine AWP.exit ?_; conv => whnf) | (refine AWP.block ?_; conv => whnf) | (refine AWP.cond ?_; conv => whnf) | (refine AB.tt ?_; conv => whnf) | (refine AB.ff ?_; conv => whnf) | (refine AB.ofT (by assumption) ?_; conv => whnf) | (refine AB.ofF (by assumption) ?_; conv => whnf) | (refine AIx.mapF (by simp only [decide_eq_true_eq, decide_eq_false_iff_not, List.length_map, Bool.not_eq_true', Bool.not_eq_false'] at *; omega) (fun hlt => ?_); conv => whnf) | (refine AIx.at k _ rfl (cpL_at l k hlt) ?_; conv => whnf) | (refine AIx.at k _ rfl (cpL_at l k (by simp only [decide_eq_true_eq, decide_eq_false_iff_not, List.length_map, Bool.not_eq_true', Bool.not_eq_false'] at *; omega)) ?_; conv => whnf) | (refine AW.i64 (by simp only [decide_eq_true_eq, decide_eq_false_iff_not, List.length_map, Bool.not_eq_true', Bool.not_eq_false'] at *; omega) (by simp only [decide_eq_true_eq, decide_eq_false_iff_not, List.length_map, Bool.not_eq_true', Bool.not_eq_false'] at *; omega) ?_; conv => whnf) | (exact trivial) | (refine And.intro rfl ?_; conv => whnf) | (refine AB.mk (fun h => ?_) (fun h => ?_) <;> (conv => whnf)) | (with_reducible_and_instances rfl) | (exact (rfl : AP.tup _ = AP.tup _)))
    · refine ANext.mk ⟨k + 1, hlt, by omega, ?_, SubO.cons (congrArg some (congrArg (AO.row 2 1) (cpL_set l k hlt))) SubO.nil⟩
      (conv => whnf); repeat' (first | exact trivial | (refine ⟨rfl, ?_⟩; conv => whnf))
    · have : k = l.length := (by simp only [decide_eq_true_eq, decide_eq_false_iff_not, List.length_map, Bool.not_eq_true', Bool.not_eq_false'] at *; omega)
      subst this
      show AP.val (AP1.one (AD.sl (cpL l l.length))) = _
      rw [cpL_end]
theorem toStep_p (x : DStep) (hl : x.fates.length ≤ 1048576) : PCall av 26 [.agg x.ds] (.val (.agg x.ds)) := by
  refine pcall_of av_ok Tryd.func26 rfl Tryd.call26 Tryd.ntmps26 (congrArg Array.toList Tryd.results26) fun S => ?_; conv => whnf
  repeat' (first | (refine AWP.seq ?_) | (refine AWP.region av_ok ?_; conv => whnf) | (refine AWP.ret ?_; conv => whnf) | (refine AWP.skip ?_; conv => whnf) | (refine AWP.exit ?_; conv => whnf) | (refine AWP.block ?_; conv => whnf) | (refine AWP.cond ?_; conv => whnf) | (refine AB.tt ?_; conv => whnf) | (refine AB.ff ?_; conv => whnf) | (refine ACall.pure (toInt64S_p _ hl) rfl ?_; conv => whnf) | (exact trivial) | (refine And.intro rfl ?_; conv => whnf) | (refine AB.mk (fun h => ?_) (fun h => ?_) <;> (conv => whnf)) | (with_reducible_and_instances rfl) | (exact (rfl : AP.tup _ = AP.tup _)))
  all_goals rfl
theorem eqInt64S_p (l : List Int) (hl : l.length ≤ 1048576) : PCall av 89 [.one (dIs l), .one (dIs l)] (rB true) := by
  refine pcall_of av_ok Tryd.func89 rfl Tryd.call89 Tryd.ntmps89 (congrArg Array.toList Tryd.results89) fun S => ?_; conv => whnf
  have h0 : (((l.map eI).length : Int) != ((l.map eI).length : Int)) = false := by simp
  repeat' (first | (refine AWP.seq ?_) | (refine AWP.region av_ok ?_; conv => whnf) | (refine AWP.ret ?_; conv => whnf) | (refine AWP.skip ?_; conv => whnf) | (refine AWP.exit ?_; conv => whnf) | (refine AWP.block ?_; conv => whnf) | (refine AWP.cond ?_; conv => whnf) | (refine AB.tt ?_; conv => whnf) | (refine AB.ff ?_; conv => whnf) | (refine AB.ofT (by assumption) ?_; conv => whnf) | (refine AB.ofF (by assumption) ?_; conv => whnf) | (exact trivial) | (refine And.intro rfl ?_; conv => whnf) | (refine AB.mk (fun h => ?_) (fun h => ?_) <;> (conv => whnf)) | (with_reducible_and_instances rfl) | (exact (rfl : AP.tup _ = AP.tup _)))
  refine AWP.loopS (fun k : Nat => k ≤ l.length) [4, 5, 11, 12, 13, 14, 15, 16, 17, 18, 19, 20, 21, 22, 23, 24, 25] (fun k => [(5, vI .i64 (k : Int))]) (fun k => []) (fun k => l.length - k) 0 (by omega) ?_ SubO.nil (fun k hR => ?_) <;> (conv => whnf)
  · repeat' (first | exact trivial | (refine ⟨rfl, ?_⟩; conv => whnf))
  · repeat' (first | (refine AWP.seq ?_) | (refine AWP.region av_ok ?_; conv => whnf) | (refine AWP.ret ?_; conv => whnf) | (refine AWP.skip ?_; conv => whnf) | (refine AWP.exit ?_; conv => whnf) | (refine AWP.block ?_; conv => whnf) | (refine AWP.cond ?_; conv => whnf) | (refine AB.tt ?_; conv => whnf) | (refine AB.ff ?_; conv => whnf) | (refine AB.ofT (by assumption) ?_; conv => whnf) | (refine AB.ofF (by assumption) ?_; conv => whnf) | (exact trivial) | (refine And.intro rfl ?_; conv => whnf) | (refine AB.mk (fun h => ?_) (fun h => ?_) <;> (conv => whnf)) | (with_reducible_and_instances rfl) | (exact (rfl : AP.tup _ = AP.tup _)))
    · have hlt : k < l.length := (by simp only [decide_eq_true_eq, decide_eq_false_iff_not, List.length_map, Bool.not_eq_true', Bool.not_eq_false'] at *; omega)
      refine' AWP.draw av_ok 8 [[], [], [1, 0], [0, 1, 2], [], [], [5, 4], [4, 5, 6], [6, 5, 4, 7, 2, 1, 0, 3]] [(_, _), (_, _), (_, _), (_, _), (_, _), (_, _), (_, _), (_, _)] ?hD ?hok ?hl ?hf ?hno ?ht
      case hD => kernel_rfl
      case hok => kernel_rfl
      case hl => rfl
      case hf =>
        conv => whnf
        repeat' (first | (refine ⟨rfl, rfl⟩) | exact trivial | (refine AIx.map hlt ?_; conv => whnf) | (refine And.intro ?_ ?_ <;> conv => whnf))
      case hno => rfl
      case ht =>
        conv => whnf
        have hne : (l[k] != l[k]) = false := by simp
        repeat' (first | (refine AWP.seq ?_) | (refine AWP.region av_ok ?_; conv => whnf) | (refine AWP.ret ?_; conv => whnf) | (refine AWP.skip ?_; conv => whnf) | (refine AWP.exit ?_; conv => whnf) | (refine AWP.block ?_; conv => whnf) | (refine AWP.cond ?_; conv => whnf) | (refine AB.tt ?_; conv => whnf) | (refine AB.ff ?_; conv => whnf) | (refine AB.ofT (by assumption) ?_; conv => whnf) | (refine AB.ofF (by assumption) ?_; conv => whnf) | (refine AW.i64 (by simp only [decide_eq_true_eq, decide_eq_false_iff_not, List.length_map, Bool.not_eq_true', Bool.not_eq_false'] at *; omega) (by simp only [decide_eq_true_eq, decide_eq_false_iff_not, List.length_map, Bool.not_eq_true', Bool.not_eq_false'] at *; omega) ?_; conv => whnf) | (exact trivial) | (refine And.intro rfl ?_; conv => whnf) | (refine AB.mk (fun h => ?_) (fun h => ?_) <;> (conv => whnf)) | (with_reducible_and_instances rfl) | (exact (rfl : AP.tup _ = AP.tup _)))
        refine ANext.mk ⟨k + 1, hlt, by omega, ?_, SubO.nil⟩
        (conv => whnf); repeat' (first | exact trivial | (refine ⟨rfl, ?_⟩; conv => whnf))
theorem eqStep_p (x : DStep) (hl : x.fates.length ≤ 1048576) : PCall av 28 [.agg x.ds, .agg x.ds] (rB true) := by
  refine pcall_of av_ok Tryd.func28 rfl Tryd.call28 Tryd.ntmps28 (congrArg Array.toList Tryd.results28) fun S => ?_; conv => whnf
  have h1 : (x.kind != x.kind) = false := by simp
  have h2 : (x.a != x.a) = false := by simp
  have h3 : (x.b != x.b) = false := by simp
  have h4 : (x.c != x.c) = false := by simp
  repeat' (first | (refine AWP.seq ?_) | (refine AWP.region av_ok ?_; conv => whnf) | (refine AWP.ret ?_; conv => whnf) | (refine AWP.skip ?_; conv => whnf) | (refine AWP.exit ?_; conv => whnf) | (refine AWP.block ?_; conv => whnf) | (refine AWP.cond ?_; conv => whnf) | (refine AB.tt ?_; conv => whnf) | (refine AB.ff ?_; conv => whnf) | (refine ACall.pure (eqInt64S_p _ hl) rfl ?_; conv => whnf) | (refine AB.ofT (by assumption) ?_; conv => whnf) | (refine AB.ofF (by assumption) ?_; conv => whnf) | (exact trivial) | (refine And.intro rfl ?_; conv => whnf) | (refine AB.mk (fun h => ?_) (fun h => ?_) <;> (conv => whnf)) | (with_reducible_and_instances rfl) | (exact (rfl : AP.tup _ = AP.tup _)))
  all_goals rfl
theorem szN_neg {n : Nat} (h : decide (szN (1048576 - n) < 0) = false) : n ≤ 1048576 := by
  unfold szN at h
  split at h
  · simp at h
  · omega
theorem lawStepText_p (x : DStep) (hl : x.fates.length ≤ 9223372036854775807) : PCall av 6 [.agg x.ds] (rB true) := by
  refine pcall_of av_ok Tryd.func6 rfl Tryd.call6 Tryd.ntmps6 (congrArg Array.toList Tryd.results6) fun S => ?_; conv => whnf
  have h1 : (!((⟨(stepTextL x).toArray⟩ : ByteArray).toList == (⟨(stepTextL x).toArray⟩ : ByteArray).toList)) = false := by simp
  repeat' (first | (refine AWP.seq ?_) | (refine AWP.region av_ok ?_; conv => whnf) | (refine AWP.ret ?_; conv => whnf) | (refine AWP.skip ?_; conv => whnf) | (refine AWP.exit ?_; conv => whnf) | (refine AWP.block ?_; conv => whnf) | (refine AWP.cond ?_; conv => whnf) | (refine AB.tt ?_; conv => whnf) | (refine AB.ff ?_; conv => whnf) | (refine ACall.pure (szStep_p x hl) rfl ?_; conv => whnf) | (refine ACall.pure (toStep_p x (szN_neg (by assumption))) rfl ?_; conv => whnf) | (refine ACall.pure (sStepText_p x) rfl ?_; conv => whnf) | (refine ACall.pure (iStepText_p x) rfl ?_; conv => whnf) | (refine AB.ofT (by assumption) ?_; conv => whnf) | (refine AB.ofF (by assumption) ?_; conv => whnf) | (exact trivial) | (refine And.intro rfl ?_; conv => whnf) | (refine AB.mk (fun h => ?_) (fun h => ?_) <;> (conv => whnf)) | (with_reducible_and_instances rfl) | (exact (rfl : AP.tup _ = AP.tup _)))
  · have hs := szN_neg (by assumption)
    refine' AWP.draw av_ok 3 [[], [], [1], [1, 2, 0], [0, 2, 1, 3]] [(_, _), (_, _), (_, _)] ?hD ?hok ?hl ?hf ?hno ?ht
    case hD => kernel_rfl
    case hok => kernel_rfl
    case hl => rfl
    case hf =>
      conv => whnf
      repeat' (first | (refine ⟨rfl, rfl⟩) | exact trivial | (refine AFCall.mk ⟨_, _, toStep_p x hs, .inl rfl, ?_⟩; conv => whnf) | (refine AFCall.mk ⟨_, _, eqStep_p x hs, .inl rfl, ?_⟩; conv => whnf) | (refine And.intro ?_ ?_ <;> conv => whnf))
    case hno => rfl
    case ht =>
      conv => whnf
      repeat' (first | (refine AWP.seq ?_) | (refine AWP.region av_ok ?_; conv => whnf) | (refine AWP.ret ?_; conv => whnf) | (refine AWP.skip ?_; conv => whnf) | (refine AWP.exit ?_; conv => whnf) | (refine AWP.block ?_; conv => whnf) | (refine AWP.cond ?_; conv => whnf) | (refine AB.tt ?_; conv => whnf) | (refine AB.ff ?_; conv => whnf) | (refine ACall.pure (toStep_p x hs) rfl ?_; conv => whnf) | (refine ACall.pure (eqStep_p x hs) rfl ?_; conv => whnf) | (refine AB.ofT (by assumption) ?_; conv => whnf) | (refine AB.ofF (by assumption) ?_; conv => whnf) | (exact trivial) | (refine And.intro rfl ?_; conv => whnf) | (refine AB.mk (fun h => ?_) (fun h => ?_) <;> (conv => whnf)) | (with_reducible_and_instances rfl) | (exact (rfl : AP.tup _ = AP.tup _)))
end Go.Proofs.YtlhanpkfnhnegaaDoor
