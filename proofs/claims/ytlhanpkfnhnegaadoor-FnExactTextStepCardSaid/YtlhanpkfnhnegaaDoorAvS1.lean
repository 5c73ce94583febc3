/- Steps: valid. -/
import Derived.Test.YtlhanpkfnhnegaaDoorAvT2
import Derived.Test.YtlhanpkfnhnegaaDoorAvR
set_option linter.unusedVariables false
set_option linter.unusedSimpArgs false
set_option maxRecDepth 100000
namespace Go.Proofs.YtlhanpkfnhnegaaDoor
open Go.ChangeShapes Go.WideShapes Go.RowKit

theorem ibetween_p (x lo hi : Int) : PCall av 121 [pI x, pI lo, pI hi] (rB (betweenB x lo hi)) := PCall.plain av_ok Tryd.call121 rfl rfl fun w _ => (between_calls x lo hi w _ rfl).mono fun e w' h => ⟨h.1, by first | exact h.2 | exact below_eq h.2⟩
theorem sl1In_p (x lo hi : Int) : PCall av 116 [pI x, pI lo, pI hi] (rB (betweenB x lo hi)) := PCall.plain av_ok Tryd.call116 rfl rfl fun w _ => (l1In_calls x lo hi w _ rfl).mono fun e w' h => ⟨h.1, by first | exact h.2 | exact below_eq h.2⟩
theorem inodeOk_p (x : Int) : PCall av 131 [pI x] (rB (betweenB x 0 5)) := PCall.plain av_ok Tryd.call131 rfl rfl fun w _ => (nodeOk_calls x w _ rfl).mono fun e w' h => ⟨h.1, by first | exact h.2 | exact below_eq h.2⟩

def DStep.ds (x : DStep) : List AD := [dI x.kind, dI x.a, dI x.b, dI x.c, dIs x.fates]
def fatesB (l : List Int) : Bool := decide (l.length ≤ 120) && l.all fun x => betweenB x 0 2
theorem fatesB_len {l : List Int} (h : ¬ l.length ≤ 120) : fatesB l = false := by simp [fatesB, h]
theorem fatesB_no {l : List Int} {k : Nat} (hk : k < l.length) (h : betweenB l[k] 0 2 = false) : fatesB l = false := by
  simp only [fatesB, Bool.and_eq_false_iff]
  refine .inr ?_
  rw [← Bool.not_eq_true, List.all_eq_true]
  intro hall
  have := hall l[k] (List.getElem_mem hk)
  rw [h] at this
  cases this
theorem fatesB_yes {l : List Int} (h : l.length ≤ 120) (hall : ∀ (j : Nat) (hj : j < l.length), betweenB l[j] 0 2 = true) : fatesB l = true := by
  simp only [fatesB, Bool.and_eq_true, decide_eq_true_eq, List.all_eq_true]
  refine ⟨h, fun x hx => ?_⟩
  obtain ⟨j, hj, rfl⟩ := List.getElem_of_mem hx
  exact hall j hj
theorem sl26Fates_p (l : List Int) : PCall av 134 [.one (dIs l)] (rB (fatesB l)) := by
  refine pcall_of av_ok Tryd.func134 rfl Tryd.call134 Tryd.ntmps134 (congrArg Array.toList Tryd.results134) fun S => ?_; conv => whnf
  repeat' (first | (refine AWP.seq ?_) | (refine AWP.region av_ok ?_; conv => whnf) | (refine AWP.ret ?_; conv => whnf) | (refine AWP.skip ?_; conv => whnf) | (refine AWP.exit ?_; conv => whnf) | (refine AWP.block ?_; conv => whnf) | (refine AWP.cond ?_; conv => whnf) | (refine AB.tt ?_; conv => whnf) | (refine AB.ff ?_; conv => whnf) | (refine AB.ofT (by assumption) ?_; conv => whnf) | (refine AB.ofF (by assumption) ?_; conv => whnf) | (exact trivial) | (refine And.intro rfl ?_; conv => whnf) | (refine AB.mk (fun h => ?_) (fun h => ?_) <;> (conv => whnf)) | (with_reducible_and_instances rfl) | (exact (rfl : AP.tup _ = AP.tup _)))
  · rw [fatesB_len (by simp only [decide_eq_true_eq, decide_eq_false_iff_not, List.length_map, Bool.not_eq_true', Bool.not_eq_false'] at *; omega)]
  · have h120 : l.length ≤ 120 := (by simp only [decide_eq_true_eq, decide_eq_false_iff_not, List.length_map, Bool.not_eq_true', Bool.not_eq_false'] at *; omega)
    clear h
    refine AWP.loopS (fun k : Nat => k ≤ l.length ∧ ∀ (j : Nat) (hj : j < k) (hl : j < l.length), betweenB l[j] 0 2 = true) [2, 3, 7, 8, 9, 10, 11, 12, 13, 14, 15, 16, 17, 18] (fun k => [(3, vI .i64 (k : Int))]) (fun _ => []) (fun k => l.length - k) 0 ⟨by omega, by omega⟩ ?_ SubO.nil (fun k hR => ?_) <;> (conv => whnf)
    · repeat' (first | exact trivial | (refine ⟨rfl, ?_⟩; conv => whnf))
    · obtain ⟨hk, hall⟩ := hR
      repeat' (first | (refine AWP.seq ?_) | (refine AWP.region av_ok ?_; conv => whnf) | (refine AWP.ret ?_; conv => whnf) | (refine AWP.skip ?_; conv => whnf) | (refine AWP.exit ?_; conv => whnf) | (refine AWP.block ?_; conv => whnf) | (refine AWP.cond ?_; conv => whnf) | (refine AB.tt ?_; conv => whnf) | (refine AB.ff ?_; conv => whnf) | (refine AB.ofT (by assumption) ?_; conv => whnf) | (refine AB.ofF (by assumption) ?_; conv => whnf) | (refine AIx.mapF (by simp only [decide_eq_true_eq, decide_eq_false_iff_not, List.length_map, Bool.not_eq_true', Bool.not_eq_false'] at *; omega) (fun hlt => ?_); conv => whnf) | (refine AW.i64 (by simp only [decide_eq_true_eq, decide_eq_false_iff_not, List.length_map, Bool.not_eq_true', Bool.not_eq_false'] at *; omega) (by simp only [decide_eq_true_eq, decide_eq_false_iff_not, List.length_map, Bool.not_eq_true', Bool.not_eq_false'] at *; omega) ?_; conv => whnf) | (refine ACall.pure (sl1In_p _ _ _) rfl ?_; conv => whnf) | (exact trivial) | (refine And.intro rfl ?_; conv => whnf) | (refine AB.mk (fun h => ?_) (fun h => ?_) <;> (conv => whnf)) | (with_reducible_and_instances rfl) | (exact (rfl : AP.tup _ = AP.tup _)))
      · rw [fatesB_no hlt (by simpa using h)]
      · have h2 : betweenB l[k] 0 2 = true := by simpa using h
        refine ANext.mk ⟨k + 1, ⟨hlt, fun j hj hl => ?_⟩, by omega, ?_, SubO.nil⟩
        · by_cases hjk : j = k
          · subst hjk; exact h2
          · exact hall j (by omega) hl
        · (conv => whnf); repeat' (first | exact trivial | (refine ⟨rfl, ?_⟩; conv => whnf))
      · have : k = l.length := (by simp only [decide_eq_true_eq, decide_eq_false_iff_not, List.length_map, Bool.not_eq_true', Bool.not_eq_false'] at *; omega)
        subst this
        rw [fatesB_yes h120 fun j hj => hall j hj hj]
def numsB (x : DStep) : Bool := betweenB x.a 0 1000000000 && betweenB x.b 0 1000000000 && betweenB x.c 0 1000000000
theorem inumbersOk_p (x : DStep) : PCall av 136 [.agg x.ds] (rB (fatesB x.fates && numsB x)) := by
  refine pcall_of av_ok Tryd.func136 rfl Tryd.call136 Tryd.ntmps136 (congrArg Array.toList Tryd.results136) fun S => ?_; conv => whnf
  repeat' (first | (refine AWP.seq ?_) | (refine AWP.region av_ok ?_; conv => whnf) | (refine AWP.ret ?_; conv => whnf) | (refine AWP.skip ?_; conv => whnf) | (refine AWP.exit ?_; conv => whnf) | (refine AWP.block ?_; conv => whnf) | (refine AWP.cond ?_; conv => whnf) | (refine AB.tt ?_; conv => whnf) | (refine AB.ff ?_; conv => whnf) | (refine AB.ofT (by assumption) ?_; conv => whnf) | (refine AB.ofF (by assumption) ?_; conv => whnf) | (exact trivial) | (refine And.intro rfl ?_; conv => whnf) | (refine AB.mk (fun h => ?_) (fun h => ?_) <;> (conv => whnf)) | (with_reducible_and_instances rfl) | (exact (rfl : AP.tup _ = AP.tup _)))
  · rw [fatesB_len (by simp only [decide_eq_true_eq, decide_eq_false_iff_not, List.length_map, Bool.not_eq_true', Bool.not_eq_false'] at *; omega)]; rfl
  · have h120 : x.fates.length ≤ 120 := (by simp only [decide_eq_true_eq, decide_eq_false_iff_not, List.length_map, Bool.not_eq_true', Bool.not_eq_false'] at *; omega)
    clear h
    refine AWP.loopS (fun k : Nat => k ≤ x.fates.length ∧ ∀ (j : Nat) (hj : j < k) (hl : j < x.fates.length), betweenB x.fates[j] 0 2 = true) [2, 4, 12, 13, 14, 15, 16, 17, 18, 19] (fun k => [(12, vI .i64 (k : Int))]) (fun _ => [(1, .cells 47 (x.ds.map .d))]) (fun k => x.fates.length - k) 0 ⟨by omega, by omega⟩ ?_ (SubO.cons rfl SubO.nil) (fun k hR => ?_) <;> (conv => whnf)
    · repeat' (first | exact trivial | (refine ⟨rfl, ?_⟩; conv => whnf))
    · obtain ⟨hk, hall⟩ := hR
      repeat' (first | (refine AWP.seq ?_) | (refine AWP.region av_ok ?_; conv => whnf) | (refine AWP.ret ?_; conv => whnf) | (refine AWP.skip ?_; conv => whnf) | (refine AWP.exit ?_; conv => whnf) | (refine AWP.block ?_; conv => whnf) | (refine AWP.cond ?_; conv => whnf) | (refine AB.tt ?_; conv => whnf) | (refine AB.ff ?_; conv => whnf) | (refine AB.ofT (by assumption) ?_; conv => whnf) | (refine AB.ofF (by assumption) ?_; conv => whnf) | (refine AIx.mapF (by simp only [decide_eq_true_eq, decide_eq_false_iff_not, List.length_map, Bool.not_eq_true', Bool.not_eq_false'] at *; omega) (fun hlt => ?_); conv => whnf) | (refine AW.i64 (by simp only [decide_eq_true_eq, decide_eq_false_iff_not, List.length_map, Bool.not_eq_true', Bool.not_eq_false'] at *; omega) (by simp only [decide_eq_true_eq, decide_eq_false_iff_not, List.length_map, Bool.not_eq_true', Bool.not_eq_false'] at *; omega) ?_; conv => whnf) | (refine ACall.pure (ibetween_p _ _ _) rfl ?_; conv => whnf) | (exact trivial) | (refine And.intro rfl ?_; conv => whnf) | (refine AB.mk (fun h => ?_) (fun h => ?_) <;> (conv => whnf)) | (with_reducible_and_instances rfl) | (exact (rfl : AP.tup _ = AP.tup _)))
      · rw [fatesB_no hlt (by simpa using h)]; rfl
      · have h2 : betweenB x.fates[k] 0 2 = true := by simpa using h
        refine ANext.mk ⟨k + 1, ⟨hlt, fun j hj hl => ?_⟩, by omega, ?_, SubO.cons rfl SubO.nil⟩
        · by_cases hjk : j = k
          · subst hjk; exact h2
          · exact hall j (by omega) hl
        · (conv => whnf); repeat' (first | exact trivial | (refine ⟨rfl, ?_⟩; conv => whnf))
      all_goals
        have : k = x.fates.length := (by simp only [decide_eq_true_eq, decide_eq_false_iff_not, List.length_map, Bool.not_eq_true', Bool.not_eq_false'] at *; omega)
        rw [fatesB_yes h120 fun j hj => hall j (by omega) hj]
        simp_all [numsB]
end Go.Proofs.YtlhanpkfnhnegaaDoor
