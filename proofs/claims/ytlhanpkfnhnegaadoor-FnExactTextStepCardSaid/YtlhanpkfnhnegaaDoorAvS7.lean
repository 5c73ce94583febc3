/- Scripts: budget, copies, equality. -/
import Derived.Test.YtlhanpkfnhnegaaDoorAvS6
set_option linter.unusedVariables false
set_option linter.unusedSimpArgs false
set_option maxRecDepth 100000
namespace Go.Proofs.YtlhanpkfnhnegaaDoor
open Go.ChangeShapes Go.WideShapes Go.RowKit

theorem szInt64S_n (n : Int) (h0 : 0 ≤ n) (h1 : n ≤ 1048576) (l : List Int) (hl : l.length ≤ 9223372036854775807) : PCall av 80 [.one (dIs l), pI n] (rI (szN (n - l.length))) := by
  refine pcall_of av_ok Tryd.func80 rfl Tryd.call80 Tryd.ntmps80 (congrArg Array.toList Tryd.results80) fun S => ?_; conv => whnf
  repeat' (first | (refine AWP.seq ?_) | (refine AWP.region av_ok ?_; conv => whnf) | (refine AWP.ret ?_; conv => whnf) | (refine AWP.skip ?_; conv => whnf) | (refine AWP.exit ?_; conv => whnf) | (refine AWP.block ?_; conv => whnf) | (refine AWP.cond ?_; conv => whnf) | (refine AB.tt ?_; conv => whnf) | (refine AB.ff ?_; conv => whnf) | (refine AW.i64 (n := _ - _) (by simp; omega) (by simp; omega) ?_; conv => whnf) | (refine AB.ofT (by assumption) ?_; conv => whnf) | (refine AB.ofF (by assumption) ?_; conv => whnf) | (exact trivial) | (refine And.intro rfl ?_; conv => whnf) | (refine AB.mk (fun h => ?_) (fun h => ?_) <;> (conv => whnf)) | (with_reducible_and_instances rfl) | (exact (rfl : AP.tup _ = AP.tup _)))
  all_goals
    simp_all [szN]
  all_goals omega
theorem szStep_n (n : Int) (h0 : 0 ≤ n) (h1 : n ≤ 1048576) (x : DStep) (hl : x.fates.length ≤ 9223372036854775807) : PCall av 24 [.agg x.ds, pI n] (rI (szN (n - x.fates.length))) := by
  refine pcall_of av_ok Tryd.func24 rfl Tryd.call24 Tryd.ntmps24 (congrArg Array.toList Tryd.results24) fun S => ?_; conv => whnf
  repeat' (first | (refine AWP.seq ?_) | (refine AWP.region av_ok ?_; conv => whnf) | (refine AWP.ret ?_; conv => whnf) | (refine AWP.skip ?_; conv => whnf) | (refine AWP.exit ?_; conv => whnf) | (refine AWP.block ?_; conv => whnf) | (refine AWP.cond ?_; conv => whnf) | (refine AB.tt ?_; conv => whnf) | (refine AB.ff ?_; conv => whnf) | (refine ACall.pure (szInt64S_n n h0 h1 _ hl) rfl ?_; conv => whnf) | (refine AB.ofT (by assumption) ?_; conv => whnf) | (refine AB.ofF (by assumption) ?_; conv => whnf) | (exact trivial) | (refine And.intro rfl ?_; conv => whnf) | (refine AB.mk (fun h => ?_) (fun h => ?_) <;> (conv => whnf)) | (with_reducible_and_instances rfl) | (exact (rfl : AP.tup _ = AP.tup _)))
  all_goals
    unfold szN at *
    split at * <;> simp_all
def szGo : List DStep → Int → Int
  | [], n => n
  | x :: r, n => if szN (n - x.fates.length) < 0 then -1 else szGo r (szN (n - x.fates.length))
theorem szGo_all : ∀ {l : List DStep} {n : Int}, 0 ≤ szGo l n → n ≤ 1048576 → ∀ x ∈ l, x.fates.length ≤ 1048576
  | [], _, _, _, x, hx => by cases hx
  | y :: r, n, h, hn, x, hx => by
    unfold szGo at h
    split at h
    · omega
    · rename_i h1
      have h2 : (y.fates.length : Int) ≤ n ∧ szN (n - y.fates.length) ≤ n := by
        unfold szN at h1 ⊢
        split at h1 <;> rename_i h3
        · omega
        · rw [if_neg h3]; omega
      rcases List.mem_cons.1 hx with rfl | hx
      · omega
      · exact szGo_all h (by omega) x hx
abbrev eStep (x : DStep) : List AD := x.ds
abbrev dSteps (l : List DStep) : AD := .sl (l.map DStep.ds)
def szL (l : List DStep) : Int := if (1048576 : Int) - l.length < 0 then -1 else szGo l (1048576 - l.length)
theorem szStepS_p (l : List DStep) (hl : l.length ≤ 9223372036854775807) (hx : ∀ x ∈ l, x.fates.length ≤ 9223372036854775807) : PCall av 29 [.one (dSteps l), pI 1048576] (rI (szL l)) := by
  refine pcall_of av_ok Tryd.func29 rfl Tryd.call29 Tryd.ntmps29 (congrArg Array.toList Tryd.results29) fun S => ?_; conv => whnf
  repeat' (first | (refine AWP.seq ?_) | (refine AWP.region av_ok ?_; conv => whnf) | (refine AWP.ret ?_; conv => whnf) | (refine AWP.skip ?_; conv => whnf) | (refine AWP.exit ?_; conv => whnf) | (refine AWP.block ?_; conv => whnf) | (refine AWP.cond ?_; conv => whnf) | (refine AB.tt ?_; conv => whnf) | (refine AB.ff ?_; conv => whnf) | (refine AW.i64 (n := _ - _) (by simp; omega) (by simp; omega) ?_; conv => whnf) | (refine AB.ofT (by assumption) ?_; conv => whnf) | (refine AB.ofF (by assumption) ?_; conv => whnf) | (exact trivial) | (refine And.intro rfl ?_; conv => whnf) | (refine AB.mk (fun h => ?_) (fun h => ?_) <;> (conv => whnf)) | (with_reducible_and_instances rfl) | (exact (rfl : AP.tup _ = AP.tup _)))
  · have : (1048576 : Int) - l.length < 0 := (by simp only [decide_eq_true_eq, decide_eq_false_iff_not, List.length_map, Bool.not_eq_true', Bool.not_eq_false'] at *; omega)
    simp [szL, this]
  · have hn : ¬ (1048576 : Int) - l.length < 0 := (by simp only [decide_eq_true_eq, decide_eq_false_iff_not, List.length_map, Bool.not_eq_true', Bool.not_eq_false'] at *; omega)
    have e0 : szL l = szGo l (1048576 - l.length) := by simp only [szL, if_neg hn]
    rw [e0]
    refine AWP.loopS (fun s : Nat × Int => s.1 ≤ l.length ∧ 0 ≤ s.2 ∧ s.2 ≤ 1048576 ∧ szGo (l.drop s.1) s.2 = szGo l (1048576 - l.length)) (1 :: [1, 4, 5, 12, 13, 14, 15, 16, 17, 18, 19, 20, 21, 22, 23, 24, 25]) (fun s => [(1, vI .i64 s.2), (5, vI .i64 (s.1 : Int))]) (fun s => []) (fun s => l.length - s.1) (0, (1048576 : Int) - ((l.map DStep.ds).length : Nat)) ⟨by simp, by simp; omega, by simp <;> omega, by simp⟩ ?_ SubO.nil (fun s hR => ?_) <;> (conv => whnf)
    · repeat' (first | exact trivial | (refine And.intro rfl ?_; conv => whnf))
    · obtain ⟨k, n⟩ := s
      obtain ⟨hk, hn0, hn1, hgo⟩ := hR
      simp only at hk hn0 hn1 hgo
      repeat' (first | (refine AWP.seq ?_) | (refine AWP.region av_ok ?_; conv => whnf) | (refine AWP.ret ?_; conv => whnf) | (refine AWP.skip ?_; conv => whnf) | (refine AWP.exit ?_; conv => whnf) | (refine AWP.block ?_; conv => whnf) | (refine AWP.cond ?_; conv => whnf) | (refine AB.tt ?_; conv => whnf) | (refine AB.ff ?_; conv => whnf) | (refine AB.ofT (by assumption) ?_; conv => whnf) | (refine AB.ofF (by assumption) ?_; conv => whnf) | (refine AIx.mapF (by simp only [decide_eq_true_eq, decide_eq_false_iff_not, List.length_map, Bool.not_eq_true', Bool.not_eq_false'] at *; omega) (fun hlt => ?_); conv => whnf) | (refine AW.i64 (by simp only [decide_eq_true_eq, decide_eq_false_iff_not, List.length_map, Bool.not_eq_true', Bool.not_eq_false'] at *; omega) (by simp only [decide_eq_true_eq, decide_eq_false_iff_not, List.length_map, Bool.not_eq_true', Bool.not_eq_false'] at *; omega) ?_; conv => whnf) | (refine ACall.pure (szStep_n n hn0 hn1 _ (hx _ (List.getElem_mem hlt))) rfl ?_; conv => whnf) | (exact trivial) | (refine And.intro rfl ?_; conv => whnf) | (refine AB.mk (fun h => ?_) (fun h => ?_) <;> (conv => whnf)) | (with_reducible_and_instances rfl) | (exact (rfl : AP.tup _ = AP.tup _)))
      · have e1 := List.drop_eq_getElem_cons hlt
        simp only at e1
        rw [e1, szGo, if_pos (by simpa using h)] at hgo
        rw [← hgo]
      · have e1 := List.drop_eq_getElem_cons hlt
        simp only at e1 hlt h
        have h' : ¬ szN (n - l[k].fates.length) < 0 := by simpa using h
        rw [e1, szGo, if_neg h'] at hgo
        have hb : szN (n - l[k].fates.length) ≤ n := by unfold szN; split <;> omega
        refine ANext.mk ⟨(k + 1, szN (n - l[k].fates.length)), ⟨hlt, by simp only; omega, by simp only; omega, hgo⟩, by simp only; omega, ?_, SubO.nil⟩
        (conv => whnf); repeat' (first | exact trivial | (refine ⟨rfl, ?_⟩; conv => whnf))
      · have : k = l.length := (by simp only [decide_eq_true_eq, decide_eq_false_iff_not, List.length_map, Bool.not_eq_true', Bool.not_eq_false'] at *; omega)
        subst this
        rw [List.drop_length, szGo] at hgo
        rw [hgo]
theorem szL_facts {l : List DStep} (h : decide (szL l < 0) = false) : l.length ≤ 1048576 ∧ ∀ x ∈ l, x.fates.length ≤ 1048576 := by
  unfold szL at h
  split at h
  · simp at h
  · rename_i h1
    have h2 : 0 ≤ szGo l (1048576 - l.length) := by simpa using h
    exact ⟨by omega, szGo_all h2 (by omega)⟩
def cpS (l : List DStep) (k : Nat) : List (List AD) := (l.take k).map DStep.ds ++ List.replicate (l.length - k) [dI 0, dI 0, dI 0, dI 0, .sl []]
theorem cpS_zero (l : List DStep) : cpS l 0 = List.replicate l.length [dI 0, dI 0, dI 0, dI 0, .sl []] := by simp [cpS]
theorem cpS_end (l : List DStep) : cpS l l.length = l.map DStep.ds := by simp [cpS]
theorem cpS_at (l : List DStep) (k : Nat) (hk : k < l.length) : (cpS l k)[k]? = some [dI 0, dI 0, dI 0, dI 0, .sl []] := by
  have h1 : ((l.take k).map DStep.ds).length = k := by simp; omega
  unfold cpS
  rw [List.getElem?_append_right (by omega), h1, List.getElem?_replicate, if_pos (by omega)]
theorem cpS_set (l : List DStep) (k : Nat) (hk : k < l.length) : (cpS l k).set k (l[k].ds) = cpS l (k + 1) := by
  unfold cpS
  have h1 : ((l.take k).map DStep.ds).length = k := by simp; omega
  rw [List.set_append_right _ _ (by omega), h1, Nat.sub_self, take_snoc DStep.ds hk, List.append_assoc]
  congr 1
  rw [show l.length - k = (l.length - (k + 1)) + 1 by omega, List.replicate_succ]
  rfl
theorem toStepS_p (l : List DStep) (hl : l.length ≤ 1048576) (hx : ∀ x ∈ l, x.fates.length ≤ 1048576) : PCall av 31 [.one (dSteps l)] (.val (.one (dSteps l))) := by
  refine pcall_of av_ok Tryd.func31 rfl Tryd.call31 Tryd.ntmps31 (congrArg Array.toList Tryd.results31) fun S => ?_; conv => whnf
  repeat' (first | (refine AWP.seq ?_) | (refine AWP.region av_ok ?_; conv => whnf) | (refine AWP.ret ?_; conv => whnf) | (refine AWP.skip ?_; conv => whnf) | (refine AWP.exit ?_; conv => whnf) | (refine AWP.block ?_; conv => whnf) | (refine AWP.cond ?_; conv => whnf) | (refine AB.tt ?_; conv => whnf) | (refine AB.ff ?_; conv => whnf) | (refine AB.ofT (by assumption) ?_; conv => whnf) | (refine AB.ofF (by assumption) ?_; conv => whnf) | (exact trivial) | (refine And.intro rfl ?_; conv => whnf) | (refine AB.mk (fun h => ?_) (fun h => ?_) <;> (conv => whnf)) | (with_reducible_and_instances rfl) | (exact (rfl : AP.tup _ = AP.tup _)))
  refine ⟨l.length, by simp, by simp, (show 56 * l.length ≤ _ by omega), by omega, ?_⟩
  conv => whnf
  repeat' (first | (refine AWP.seq ?_) | (refine AWP.region av_ok ?_; conv => whnf) | (refine AWP.ret ?_; conv => whnf) | (refine AWP.skip ?_; conv => whnf) | (refine AWP.exit ?_; conv => whnf) | (refine AWP.block ?_; conv => whnf) | (refine AWP.cond ?_; conv => whnf) | (refine AB.tt ?_; conv => whnf) | (refine AB.ff ?_; conv => whnf) | (refine AB.ofT (by assumption) ?_; conv => whnf) | (refine AB.ofF (by assumption) ?_; conv => whnf) | (exact trivial) | (refine And.intro rfl ?_; conv => whnf) | (refine AB.mk (fun h => ?_) (fun h => ?_) <;> (conv => whnf)) | (with_reducible_and_instances rfl) | (exact (rfl : AP.tup _ = AP.tup _)))
  refine AWP.loopS (fun k : Nat => k ≤ l.length) (7 :: [4, 8, 9, 10, 11, 12, 13, 14, 15, 16, 17, 18, 19, 20, 21]) (fun k => [(3, .one (.own 7)), (4, vI .i64 (k : Int))]) (fun k => [(7, .row 47 5 (cpS l k))]) (fun k => l.length - k) 0 (by omega) ?_ (SubO.cons (congrArg some (congrArg (AO.row 47 5) (cpS_zero l).symm)) SubO.nil) (fun k hR => ?_) <;> (conv => whnf)
  · repeat' (first | exact trivial | (refine And.intro rfl ?_; conv => whnf))
  · repeat' (first | (refine AWP.seq ?_) | (refine AWP.region av_ok ?_; conv => whnf) | (refine AWP.ret ?_; conv => whnf) | (refine AWP.skip ?_; conv => whnf) | (refine AWP.exit ?_; conv => whnf) | (refine AWP.block ?_; conv => whnf) | (refine AWP.cond ?_; conv => whnf) | (refine AB.tt ?_; conv => whnf) | (refine AB.ff ?_; conv => whnf) | (refine AB.ofT (by assumption) ?_; conv => whnf) | (refine AB.ofF (by assumption) ?_; conv => whnf) | (refine AIx.mapF (by simp only [decide_eq_true_eq, decide_eq_false_iff_not, List.length_map, Bool.not_eq_true', Bool.not_eq_false'] at *; omega) (fun hlt => ?_); conv => whnf) | (refine AIx.at k _ rfl (cpS_at l k hlt) ?_; conv => whnf) | (refine ACall.pure (toStep_p l[k] (hx _ (List.getElem_mem hlt))) rfl ?_; conv => whnf) | (refine AW.i64 (by simp only [decide_eq_true_eq, decide_eq_false_iff_not, List.length_map, Bool.not_eq_true', Bool.not_eq_false'] at *; omega) (by simp only [decide_eq_true_eq, decide_eq_false_iff_not, List.length_map, Bool.not_eq_true', Bool.not_eq_false'] at *; omega) ?_; conv => whnf) | (exact trivial) | (refine And.intro rfl ?_; conv => whnf) | (refine AB.mk (fun h => ?_) (fun h => ?_) <;> (conv => whnf)) | (with_reducible_and_instances rfl) | (exact (rfl : AP.tup _ = AP.tup _)))
    · refine ANext.mk ⟨k + 1, hlt, by omega, ?_, SubO.cons (congrArg some (congrArg (AO.row 47 5) (cpS_set l k hlt))) SubO.nil⟩
      (conv => whnf); repeat' (first | exact trivial | (refine ⟨rfl, ?_⟩; conv => whnf))
    · have : k = l.length := (by simp only [decide_eq_true_eq, decide_eq_false_iff_not, List.length_map, Bool.not_eq_true', Bool.not_eq_false'] at *; omega)
      subst this
      show AP.val (AP1.one (AD.sl (cpS l l.length))) = _
      rw [cpS_end]
theorem eqStepS_p (l : List DStep) (hl : l.length ≤ 1048576) (hx : ∀ x ∈ l, x.fates.length ≤ 1048576) : PCall av 33 [.one (dSteps l), .one (dSteps l)] (rB true) := by
  refine pcall_of av_ok Tryd.func33 rfl Tryd.call33 Tryd.ntmps33 (congrArg Array.toList Tryd.results33) fun S => ?_; conv => whnf
  have h0 : (((l.map DStep.ds).length : Int) != ((l.map DStep.ds).length : Int)) = false := by simp
  repeat' (first | (refine AWP.seq ?_) | (refine AWP.region av_ok ?_; conv => whnf) | (refine AWP.ret ?_; conv => whnf) | (refine AWP.skip ?_; conv => whnf) | (refine AWP.exit ?_; conv => whnf) | (refine AWP.block ?_; conv => whnf) | (refine AWP.cond ?_; conv => whnf) | (refine AB.tt ?_; conv => whnf) | (refine AB.ff ?_; conv => whnf) | (refine AB.ofT (by assumption) ?_; conv => whnf) | (refine AB.ofF (by assumption) ?_; conv => whnf) | (exact trivial) | (refine And.intro rfl ?_; conv => whnf) | (refine AB.mk (fun h => ?_) (fun h => ?_) <;> (conv => whnf)) | (with_reducible_and_instances rfl) | (exact (rfl : AP.tup _ = AP.tup _)))
  refine AWP.loopS (fun k : Nat => k ≤ l.length) [4, 5, 11, 12, 13, 14, 15, 16, 17, 18, 19, 20, 21, 22, 23, 24, 25, 26] (fun k => [(5, vI .i64 (k : Int))]) (fun k => []) (fun k => l.length - k) 0 (by omega) ?_ SubO.nil (fun k hR => ?_) <;> (conv => whnf)
  · repeat' (first | exact trivial | (refine And.intro rfl ?_; conv => whnf))
  · repeat' (first | (refine AWP.seq ?_) | (refine AWP.region av_ok ?_; conv => whnf) | (refine AWP.ret ?_; conv => whnf) | (refine AWP.skip ?_; conv => whnf) | (refine AWP.exit ?_; conv => whnf) | (refine AWP.block ?_; conv => whnf) | (refine AWP.cond ?_; conv => whnf) | (refine AB.tt ?_; conv => whnf) | (refine AB.ff ?_; conv => whnf) | (refine AB.ofT (by assumption) ?_; conv => whnf) | (refine AB.ofF (by assumption) ?_; conv => whnf) | (exact trivial) | (refine And.intro rfl ?_; conv => whnf) | (refine AB.mk (fun h => ?_) (fun h => ?_) <;> (conv => whnf)) | (with_reducible_and_instances rfl) | (exact (rfl : AP.tup _ = AP.tup _)))
    · have hlt : k < l.length := (by simp only [decide_eq_true_eq, decide_eq_false_iff_not, List.length_map, Bool.not_eq_true', Bool.not_eq_false'] at *; omega)
      refine' AWP.draw av_ok 8 [[], [], [1, 0], [0, 1, 2], [], [], [5, 4], [4, 5, 6], [6, 5, 4, 7, 2, 1, 0, 3], [3, 0, 1, 2, 7, 4, 5, 6, 8]] [(_, _), (_, _), (_, _), (_, _), (_, _), (_, _), (_, _), (_, _)] ?hD ?hok ?hl ?hf ?hno ?ht
      case hD => kernel_rfl
      case hok => kernel_rfl
      case hl => rfl
      case hf =>
        conv => whnf
        repeat' (first | (refine ⟨rfl, rfl⟩) | exact trivial | (refine AIx.map hlt ?_; conv => whnf) | (refine And.intro ?_ ?_ <;> conv => whnf))
      case hno => rfl
      case ht =>
        conv => whnf
        repeat' (first | (refine AWP.seq ?_) | (refine AWP.region av_ok ?_; conv => whnf) | (refine AWP.ret ?_; conv => whnf) | (refine AWP.skip ?_; conv => whnf) | (refine AWP.exit ?_; conv => whnf) | (refine AWP.block ?_; conv => whnf) | (refine AWP.cond ?_; conv => whnf) | (refine AB.tt ?_; conv => whnf) | (refine AB.ff ?_; conv => whnf) | (refine ACall.pure (eqStep_p l[k] (hx _ (List.getElem_mem hlt))) rfl ?_; conv => whnf) | (refine AB.ofT (by assumption) ?_; conv => whnf) | (refine AB.ofF (by assumption) ?_; conv => whnf) | (refine AW.i64 (by simp only [decide_eq_true_eq, decide_eq_false_iff_not, List.length_map, Bool.not_eq_true', Bool.not_eq_false'] at *; omega) (by simp only [decide_eq_true_eq, decide_eq_false_iff_not, List.length_map, Bool.not_eq_true', Bool.not_eq_false'] at *; omega) ?_; conv => whnf) | (exact trivial) | (refine And.intro rfl ?_; conv => whnf) | (refine AB.mk (fun h => ?_) (fun h => ?_) <;> (conv => whnf)) | (with_reducible_and_instances rfl) | (exact (rfl : AP.tup _ = AP.tup _)))
        refine ANext.mk ⟨k + 1, hlt, by omega, ?_, SubO.nil⟩
        (conv => whnf); repeat' (first | exact trivial | (refine ⟨rfl, ?_⟩; conv => whnf))
end Go.Proofs.YtlhanpkfnhnegaaDoor
