/- Joined by join.py: AvS1 AvS2 AvS3 AvS4 AvS5 -/
import Derived.Test.YtlhanpkfnhnegaaDoorAvT2
import Derived.Test.YtlhanpkfnhnegaaDoorAvR
set_option linter.unusedVariables false
set_option linter.unusedSimpArgs false
set_option maxRecDepth 100000
/- Steps: valid. -/
namespace Go.Proofs.YtlhanpkfnhnegaaDoor
open Go.ChangeShapes Go.WideShapes Go.RowKit

theorem ibetween_p (x lo hi : Int) : PCall av 121 [pI x, pI lo, pI hi] (rB (betweenB x lo hi)) := PCall.plain av_ok Tryd.call121 rfl rfl fun w _ => (between_calls x lo hi w _ rfl).mono fun e w' h => ⟨h.1, by first | exact h.2 | exact below_eq h.2⟩
theorem sl1In_p (x lo hi : Int) : PCall av 116 [pI x, pI lo, pI hi] (rB (betweenB x lo hi)) := PCall.plain av_ok Tryd.call116 rfl rfl fun w _ => (l1In_calls x lo hi w _ rfl).mono fun e w' h => ⟨h.1, by first | exact h.2 | exact below_eq h.2⟩
theorem inodeOk_p (x : Int) : PCall av 131 [pI x] (rB (betweenB x 0 5)) := PCall.plain av_ok Tryd.call131 rfl rfl fun w _ => (nodeOk_calls x w _ rfl).mono fun e w' h => ⟨h.1, by first | exact h.2 | exact below_eq h.2⟩

def DStep.ds (x : DStep) : List AD := [dI x.kind, dI x.a, dI x.b, dI x.c, dIs x.fates]
def fatesB (l : List Int) : Bool := decide (l.length ≤ 120) && l.all fun x => betweenB x 0 2
theorem fatesB_len {l : List Int} (h : ¬ l.length ≤ 120) : fatesB l = false := by simp [fatesB, h]
theorem fatesB_no {l : List Int} {k : Nat} (hk : k < l.length) (h : betweenB l[k] 0 2 = false) : fatesB l = false := by
  simp only [fatesB, Bool.and_eq_false_iff]
  refine .inr ?_
  rw [← Bool.not_eq_true, List.all_eq_true]
  intro hall
  have := hall l[k] (List.getElem_mem hk)
  rw [h] at this
  cases this
theorem fatesB_yes {l : List Int} (h : l.length ≤ 120) (hall : ∀ (j : Nat) (hj : j < l.length), betweenB l[j] 0 2 = true) : fatesB l = true := by
  simp only [fatesB, Bool.and_eq_true, decide_eq_true_eq, List.all_eq_true]
  refine ⟨h, fun x hx => ?_⟩
  obtain ⟨j, hj, rfl⟩ := List.getElem_of_mem hx
  exact hall j hj
theorem sl26Fates_p (l : List Int) : PCall av 134 [.one (dIs l)] (rB (fatesB l)) := by
  refine pcall_of av_ok Tryd.func134 rfl Tryd.call134 Tryd.ntmps134 (congrArg Array.toList Tryd.results134) fun S => ?_; conv => whnf
  repeat' (first | (refine AWP.seq ?_) | (refine AWP.region av_ok ?_; conv => whnf) | (refine AWP.ret ?_; conv => whnf) | (refine AWP.skip ?_; conv => whnf) | (refine AWP.exit ?_; conv => whnf) | (refine AWP.block ?_; conv => whnf) | (refine AWP.cond ?_; conv => whnf) | (refine AB.tt ?_; conv => whnf) | (refine AB.ff ?_; conv => whnf) | (refine AB.ofT (by assumption) ?_; conv => whnf) | (refine AB.ofF (by assumption) ?_; conv => whnf) | (exact trivial) | (refine And.intro rfl ?_; conv => whnf) | (refine AB.mk (fun h => ?_) (fun h => ?_) <;> (conv => whnf)) | (with_reducible_and_instances rfl) | (exact (rfl : AP.tup _ = AP.tup _)))
  · rw [fatesB_len (by simp only [decide_eq_true_eq, decide_eq_false_iff_not, List.length_map, Bool.not_eq_true', Bool.not_eq_false'] at *; omega)]
  · have h120 : l.length ≤ 120 := (by simp only [decide_eq_true_eq, decide_eq_false_iff_not, List.length_map, Bool.not_eq_true', Bool.not_eq_false'] at *; omega)
    clear h
    refine AWP.loopS (fun k : Nat => k ≤ l.length ∧ ∀ (j : Nat) (hj : j < k) (hl : j < l.length), betweenB l[j] 0 2 = true) [2, 3, 7, 8, 9, 10, 11, 12, 13, 14, 15, 16, 17, 18] (fun k => [(3, vI .i64 (k : Int))]) (fun _ => []) (fun k => l.length - k) 0 ⟨by omega, by omega⟩ ?_ SubO.nil (fun k hR => ?_) <;> (conv => whnf)
    · repeat' (first | exact trivial | (refine ⟨rfl, ?_⟩; conv => whnf))
    · obtain ⟨hk, hall⟩ := hR
      repeat' (first | (refine AWP.seq ?_) | (refine AWP.region av_ok ?_; conv => whnf) | (refine AWP.ret ?_; conv => whnf) | (refine AWP.skip ?_; conv => whnf) | (refine AWP.exit ?_; conv => whnf) | (refine AWP.block ?_; conv => whnf) | (refine AWP.cond ?_; conv => whnf) | (refine AB.tt ?_; conv => whnf) | (refine AB.ff ?_; conv => whnf) | (refine AB.ofT (by assumption) ?_; conv => whnf) | (refine AB.ofF (by assumption) ?_; conv => whnf) | (refine AIx.mapF (by simp only [decide_eq_true_eq, decide_eq_false_iff_not, List.length_map, Bool.not_eq_true', Bool.not_eq_false'] at *; omega) (fun hlt => ?_); conv => whnf) | (refine AW.i64 (by simp only [decide_eq_true_eq, decide_eq_false_iff_not, List.length_map, Bool.not_eq_true', Bool.not_eq_false'] at *; omega) (by simp only [decide_eq_true_eq, decide_eq_false_iff_not, List.length_map, Bool.not_eq_true', Bool.not_eq_false'] at *; omega) ?_; conv => whnf) | (refine ACall.pure (sl1In_p _ _ _) rfl ?_; conv => whnf) | (exact trivial) | (refine And.intro rfl ?_; conv => whnf) | (refine AB.mk (fun h => ?_) (fun h => ?_) <;> (conv => whnf)) | (with_reducible_and_instances rfl) | (exact (rfl : AP.tup _ = AP.tup _)))
      · rw [fatesB_no hlt (by simpa using h)]
      · have h2 : betweenB l[k] 0 2 = true := by simpa using h
        refine ANext.mk ⟨k + 1, ⟨hlt, fun j hj hl => ?_⟩, by omega, ?_, SubO.nil⟩
        · by_cases hjk : j = k
          · subst hjk; exact h2
          · exact hall j (by omega) hl
        · (conv => whnf); repeat' (first | exact trivial | (refine ⟨rfl, ?_⟩; conv => whnf))
      · have : k = l.length := (by simp only [decide_eq_true_eq, decide_eq_false_iff_not, List.length_map, Bool.not_eq_true', Bool.not_eq_false'] at *; omega)
        subst this
        rw [fatesB_yes h120 fun j hj => hall j hj hj]
def numsB (x : DStep) : Bool := betweenB x.a 0 1000000000 && betweenB x.b 0 1000000000 && betweenB x.c 0 1000000000
theorem inumbersOk_p (x : DStep) : PCall av 136 [.agg x.ds] (rB (fatesB x.fates && numsB x)) := by
  refine pcall_of av_ok Tryd.func136 rfl Tryd.call136 Tryd.ntmps136 (congrArg Array.toList Tryd.results136) fun S => ?_; conv => whnf
  repeat' (first | (refine AWP.seq ?_) | (refine AWP.region av_ok ?_; conv => whnf) | (refine AWP.ret ?_; conv => whnf) | (refine AWP.skip ?_; conv => whnf) | (refine AWP.exit ?_; conv => whnf) | (refine AWP.block ?_; conv => whnf) | (refine AWP.cond ?_; conv => whnf) | (refine AB.tt ?_; conv => whnf) | (refine AB.ff ?_; conv => whnf) | (refine AB.ofT (by assumption) ?_; conv => whnf) | (refine AB.ofF (by assumption) ?_; conv => whnf) | (exact trivial) | (refine And.intro rfl ?_; conv => whnf) | (refine AB.mk (fun h => ?_) (fun h => ?_) <;> (conv => whnf)) | (with_reducible_and_instances rfl) | (exact (rfl : AP.tup _ = AP.tup _)))
  · rw [fatesB_len (by simp only [decide_eq_true_eq, decide_eq_false_iff_not, List.length_map, Bool.not_eq_true', Bool.not_eq_false'] at *; omega)]; rfl
  · have h120 : x.fates.length ≤ 120 := (by simp only [decide_eq_true_eq, decide_eq_false_iff_not, List.length_map, Bool.not_eq_true', Bool.not_eq_false'] at *; omega)
    clear h
    refine AWP.loopS (fun k : Nat => k ≤ x.fates.length ∧ ∀ (j : Nat) (hj : j < k) (hl : j < x.fates.length), betweenB x.fates[j] 0 2 = true) [2, 4, 12, 13, 14, 15, 16, 17, 18, 19] (fun k => [(12, vI .i64 (k : Int))]) (fun _ => [(1, .cells 47 (x.ds.map .d))]) (fun k => x.fates.length - k) 0 ⟨by omega, by omega⟩ ?_ (SubO.cons rfl SubO.nil) (fun k hR => ?_) <;> (conv => whnf)
    · repeat' (first | exact trivial | (refine ⟨rfl, ?_⟩; conv => whnf))
    · obtain ⟨hk, hall⟩ := hR
      repeat' (first | (refine AWP.seq ?_) | (refine AWP.region av_ok ?_; conv => whnf) | (refine AWP.ret ?_; conv => whnf) | (refine AWP.skip ?_; conv => whnf) | (refine AWP.exit ?_; conv => whnf) | (refine AWP.block ?_; conv => whnf) | (refine AWP.cond ?_; conv => whnf) | (refine AB.tt ?_; conv => whnf) | (refine AB.ff ?_; conv => whnf) | (refine AB.ofT (by assumption) ?_; conv => whnf) | (refine AB.ofF (by assumption) ?_; conv => whnf) | (refine AIx.mapF (by simp only [decide_eq_true_eq, decide_eq_false_iff_not, List.length_map, Bool.not_eq_true', Bool.not_eq_false'] at *; omega) (fun hlt => ?_); conv => whnf) | (refine AW.i64 (by simp only [decide_eq_true_eq, decide_eq_false_iff_not, List.length_map, Bool.not_eq_true', Bool.not_eq_false'] at *; omega) (by simp only [decide_eq_true_eq, decide_eq_false_iff_not, List.length_map, Bool.not_eq_true', Bool.not_eq_false'] at *; omega) ?_; conv => whnf) | (refine ACall.pure (ibetween_p _ _ _) rfl ?_; conv => whnf) | (exact trivial) | (refine And.intro rfl ?_; conv => whnf) | (refine AB.mk (fun h => ?_) (fun h => ?_) <;> (conv => whnf)) | (with_reducible_and_instances rfl) | (exact (rfl : AP.tup _ = AP.tup _)))
      · rw [fatesB_no hlt (by simpa using h)]; rfl
      · have h2 : betweenB x.fates[k] 0 2 = true := by simpa using h
        refine ANext.mk ⟨k + 1, ⟨hlt, fun j hj hl => ?_⟩, by omega, ?_, SubO.cons rfl SubO.nil⟩
        · by_cases hjk : j = k
          · subst hjk; exact h2
          · exact hall j (by omega) hl
        · (conv => whnf); repeat' (first | exact trivial | (refine ⟨rfl, ?_⟩; conv => whnf))
      all_goals
        have : k = x.fates.length := (by simp only [decide_eq_true_eq, decide_eq_false_iff_not, List.length_map, Bool.not_eq_true', Bool.not_eq_false'] at *; omega)
        rw [fatesB_yes h120 fun j hj => hall j (by omega) hj]
        simp_all [numsB]
end Go.Proofs.YtlhanpkfnhnegaaDoor
/- Steps: valid, both sides. -/
namespace Go.Proofs.YtlhanpkfnhnegaaDoor
open Go.ChangeShapes Go.WideShapes Go.RowKit

def stepKind (x : DStep) : Bool :=
  if x.kind == 1 || x.kind == 7 || x.kind == 8 then x.b == 0
  else if x.kind == 2 || x.kind == 5 || x.kind == 6 then betweenB x.a 0 5 && x.b == 0
  else if x.kind == 3 then betweenB x.a 0 5 && betweenB x.b 1 1000
  else if x.kind == 4 then betweenB x.a 0 5 && betweenB x.b 0 1000000
  else if x.kind == 9 || x.kind == 10 then betweenB x.a 0 5 && betweenB x.b 0 5
  else x.kind == 11
def stepNums (x : DStep) : Bool := numsB x && fatesB x.fates && !(decide (((x.fates.map eI).length : Int) > 0) && x.kind != 5) && !(decide (x.c > 0) && x.kind != 11)
def stepOk (x : DStep) : Bool := stepNums x && stepKind x
set_option maxHeartbeats 4000000 in
theorem sStepOk_p (x : DStep) : PCall av 81 [.agg x.ds] (rB (stepOk x)) := by
  refine pcall_of av_ok Tryd.func81 rfl Tryd.call81 Tryd.ntmps81 (congrArg Array.toList Tryd.results81) fun S => ?_; conv => whnf
  repeat' (first | (refine AWP.seq ?_) | (refine AWP.region av_ok ?_; conv => whnf) | (refine AWP.ret ?_; conv => whnf) | (refine AWP.skip ?_; conv => whnf) | (refine AWP.exit ?_; conv => whnf) | (refine AWP.block ?_; conv => whnf) | (refine AWP.cond ?_; conv => whnf) | (refine AB.tt ?_; conv => whnf) | (refine AB.ff ?_; conv => whnf) | (refine ACall.pure (sl1In_p _ _ _) rfl ?_; conv => whnf) | (refine ACall.pure (sl26Fates_p _) rfl ?_; conv => whnf) | (refine ACall.pure (sl22Node_p _) rfl ?_; conv => whnf) | (refine ACall.pure (sTimeOk_p _) rfl ?_; conv => whnf) | (refine AB.ofT (by assumption) ?_; conv => whnf) | (refine AB.ofF (by assumption) ?_; conv => whnf) | (exact trivial) | (refine And.intro rfl ?_; conv => whnf) | (refine AB.mk (fun h => ?_) (fun h => ?_) <;> (conv => whnf)) | (with_reducible_and_instances rfl) | (exact (rfl : AP.tup _ = AP.tup _)))
  all_goals
    clear S
    simp_all [stepOk, stepNums, stepKind, numsB]
def numFate (x : DStep) : Bool := fatesB x.fates && numsB x
def stepNums2 (x : DStep) : Bool := numFate x && !(x.kind != 11 && x.c != 0) && !(x.kind != 5 && decide (((x.fates.map eI).length : Int) > 0))
theorem stepNums_eq (x : DStep) : stepNums x = stepNums2 x := by
  unfold stepNums stepNums2 numFate
  cases hn : numsB x
  · simp
  · have hc : decide (x.c > 0) = (x.c != 0) := by
      simp only [numsB, Bool.and_eq_true, betweenB_iff] at hn
      by_cases h : x.c = 0
      · simp [h]
      · have : x.c > 0 := by omega
        simp [h, this]
    rw [hc]
    cases fatesB x.fates <;> cases (x.kind != 11) <;> cases (x.c != 0) <;> cases (x.kind != 5) <;> cases (decide (((x.fates.map eI).length : Int) > 0)) <;> rfl
set_option maxHeartbeats 4000000 in
theorem iStepOk_p (x : DStep) : PCall av 86 [.agg x.ds] (rB (stepOk x)) := by
  rw [stepOk, stepNums_eq]
  refine pcall_of av_ok Tryd.func86 rfl Tryd.call86 Tryd.ntmps86 (congrArg Array.toList Tryd.results86) fun S => ?_; conv => whnf
  repeat' (first | (refine AWP.seq ?_) | (refine AWP.region av_ok ?_; conv => whnf) | (refine AWP.ret ?_; conv => whnf) | (refine AWP.skip ?_; conv => whnf) | (refine AWP.exit ?_; conv => whnf) | (refine AWP.block ?_; conv => whnf) | (refine AWP.cond ?_; conv => whnf) | (refine AB.tt ?_; conv => whnf) | (refine AB.ff ?_; conv => whnf) | (refine ACall.pure (show PCall av 136 [.agg x.ds] (rB (numFate x)) from inumbersOk_p x) rfl ?_; conv => whnf) | (refine ACall.pure (ibetween_p _ _ _) rfl ?_; conv => whnf) | (refine ACall.pure (inodeOk_p _) rfl ?_; conv => whnf) | (refine ACall.pure (iTimeOk_p _) rfl ?_; conv => whnf) | (refine AB.ofT (by assumption) ?_; conv => whnf) | (refine AB.ofF (by assumption) ?_; conv => whnf) | (exact trivial) | (refine And.intro rfl ?_; conv => whnf) | (refine AB.mk (fun h => ?_) (fun h => ?_) <;> (conv => whnf)) | (with_reducible_and_instances rfl) | (exact (rfl : AP.tup _ = AP.tup _)))
  all_goals
    clear S
    simp_all [stepNums2, stepKind]
end Go.Proofs.YtlhanpkfnhnegaaDoor
/- The words of a step. -/
namespace Go.Proofs.YtlhanpkfnhnegaaDoor
open Go.ChangeShapes Go.WideShapes Go.RowKit

theorem fatesB_at {l : List Int} (h : fatesB l = true) {k : Nat} (hk : k < l.length) : 0 ≤ l[k] ∧ l[k] ≤ 2 := by
  simp only [fatesB, Bool.and_eq_true, List.all_eq_true, betweenB_iff] at h
  exact h.2 _ (List.getElem_mem hk)
theorem fatesB_l {l : List Int} (h : fatesB l = true) : l.length ≤ 120 := by
  simp only [fatesB, Bool.and_eq_true, decide_eq_true_eq] at h
  exact h.1
theorem take_snoc {α β : Type} (f : α → β) {l : List α} {k : Nat} (hk : k < l.length) : (l.take (k + 1)).map f = (l.take k).map f ++ [f l[k]] := by
  rw [← List.take_append_getElem hk, List.map_append]; rfl
theorem wrapU {n : Int} (h0 : 0 ≤ n) (h1 : n ≤ 255) : IntKind.u8.wrap n = n := by
  rw [IntKind.wrap_u8]
  omega
def fateL (l : List Int) : List UInt8 := l.map fun x => UInt8.ofNat (48 + x).toNat
theorem strOf_fates (l : List Int) : strOfNums (l.map fun x => 48 + x) = ⟨(fateL l).toArray⟩ := by
  simp [strOfNums, fateL]
theorem ifateWord_p (l : List Int) (hl : fatesB l = true) : PCall av 88 [.one (dIs l)] (rL (fateL l)) := by
  have h120 := fatesB_l hl
  refine pcall_of av_ok Tryd.func88 rfl Tryd.call88 Tryd.ntmps88 (congrArg Array.toList Tryd.results88) fun S => ?_; conv => whnf
  repeat' (first | (refine AWP.seq ?_) | (refine AWP.region av_ok ?_; conv => whnf) | (refine AWP.ret ?_; conv => whnf) | (refine AWP.skip ?_; conv => whnf) | (refine AWP.exit ?_; conv => whnf) | (refine AWP.block ?_; conv => whnf) | (refine AWP.cond ?_; conv => whnf) | (refine AB.tt ?_; conv => whnf) | (refine AB.ff ?_; conv => whnf) | (refine AB.ofT (by assumption) ?_; conv => whnf) | (refine AB.ofF (by assumption) ?_; conv => whnf) | (exact trivial) | (refine And.intro rfl ?_; conv => whnf) | (refine AB.mk (fun h => ?_) (fun h => ?_) <;> (conv => whnf)) | (with_reducible_and_instances rfl) | (exact (rfl : AP.tup _ = AP.tup _)))
  refine AWP.loopS (fun k : Nat => k ≤ l.length) (6 :: [3, 5, 9, 10, 11, 12, 13, 14, 15, 16, 17, 18, 19]) (fun k => [(3, .one (.own 6)), (9, vI .i64 (k : Int))]) (fun k => [(6, .row 5 1 ((l.take k).map fun x => eU (48 + x)))]) (fun k => l.length - k) 0 (by omega) ?_ (SubO.cons rfl SubO.nil) (fun k hR => ?_) <;> (conv => whnf)
  · repeat' (first | exact trivial | (refine ⟨rfl, ?_⟩; conv => whnf))
  · repeat' (first | (refine AWP.seq ?_) | (refine AWP.region av_ok ?_; conv => whnf) | (refine AWP.ret ?_; conv => whnf) | (refine AWP.skip ?_; conv => whnf) | (refine AWP.exit ?_; conv => whnf) | (refine AWP.block ?_; conv => whnf) | (refine AWP.cond ?_; conv => whnf) | (refine AB.tt ?_; conv => whnf) | (refine AB.ff ?_; conv => whnf) | (refine AB.ofT (by assumption) ?_; conv => whnf) | (refine AB.ofF (by assumption) ?_; conv => whnf) | (refine AIx.mapF (by simp only [decide_eq_true_eq, decide_eq_false_iff_not, List.length_map, Bool.not_eq_true', Bool.not_eq_false'] at *; omega) (fun hlt => ?_); have hb := fatesB_at hl hlt; conv => whnf) | (refine AW.as (k := .u8) _ (wrapU (by simp only [decide_eq_true_eq, decide_eq_false_iff_not, List.length_map, Bool.not_eq_true', Bool.not_eq_false'] at *; omega) (by simp only [decide_eq_true_eq, decide_eq_false_iff_not, List.length_map, Bool.not_eq_true', Bool.not_eq_false'] at *; omega)) ?_; conv => whnf) | (refine AW.i64 (by simp only [decide_eq_true_eq, decide_eq_false_iff_not, List.length_map, Bool.not_eq_true', Bool.not_eq_false'] at *; omega) (by simp only [decide_eq_true_eq, decide_eq_false_iff_not, List.length_map, Bool.not_eq_true', Bool.not_eq_false'] at *; omega) ?_; conv => whnf) | (refine sz_app (by simp; omega) ?_; conv => whnf) | (refine AOp.bytes (e := 5) (l.map fun x => 48 + x) rfl Tryd.underlying76 Tryd.underlying5 Tryd.underlying9 ?_ ?_) | (exact trivial) | (refine And.intro rfl ?_; conv => whnf) | (refine AB.mk (fun h => ?_) (fun h => ?_) <;> (conv => whnf)) | (with_reducible_and_instances rfl) | (exact (rfl : AP.tup _ = AP.tup _)))
    · refine ANext.mk ⟨k + 1, hlt, by omega, ?_, SubO.cons (congrArg some (congrArg (AO.row 5 1) (take_snoc (fun x => eU (48 + x)) hlt).symm)) SubO.nil⟩
      (conv => whnf); repeat' (first | exact trivial | (refine ⟨rfl, ?_⟩; conv => whnf))
    · have : k = l.length := (by simp only [decide_eq_true_eq, decide_eq_false_iff_not, List.length_map, Bool.not_eq_true', Bool.not_eq_false'] at *; omega)
      conv => whnf
      subst this
      simp [List.map_map, Function.comp_def]
    · conv => whnf
      repeat' (first | (refine AWP.seq ?_) | (refine AWP.region av_ok ?_; conv => whnf) | (refine AWP.ret ?_; conv => whnf) | (refine AWP.skip ?_; conv => whnf) | (refine AWP.exit ?_; conv => whnf) | (refine AWP.block ?_; conv => whnf) | (refine AWP.cond ?_; conv => whnf) | (refine AB.tt ?_; conv => whnf) | (refine AB.ff ?_; conv => whnf) | (exact trivial) | (refine And.intro rfl ?_; conv => whnf) | (refine AB.mk (fun h => ?_) (fun h => ?_) <;> (conv => whnf)) | (with_reducible_and_instances rfl) | (exact (rfl : AP.tup _ = AP.tup _)))
      rw [strOf_fates]
theorem sl32Fates_p (l : List Int) (hl : fatesB l = true) : PCall av 84 [.one (dIs l)] (rL (fateL l)) := by
  have h120 := fatesB_l hl
  refine pcall_of av_ok Tryd.func84 rfl Tryd.call84 Tryd.ntmps84 (congrArg Array.toList Tryd.results84) fun S => ?_; conv => whnf
  repeat' (first | (refine AWP.seq ?_) | (refine AWP.region av_ok ?_; conv => whnf) | (refine AWP.ret ?_; conv => whnf) | (refine AWP.skip ?_; conv => whnf) | (refine AWP.exit ?_; conv => whnf) | (refine AWP.block ?_; conv => whnf) | (refine AWP.cond ?_; conv => whnf) | (refine AB.tt ?_; conv => whnf) | (refine AB.ff ?_; conv => whnf) | (refine AB.ofT (by assumption) ?_; conv => whnf) | (refine AB.ofF (by assumption) ?_; conv => whnf) | (exact trivial) | (refine And.intro rfl ?_; conv => whnf) | (refine AB.mk (fun h => ?_) (fun h => ?_) <;> (conv => whnf)) | (with_reducible_and_instances rfl) | (exact (rfl : AP.tup _ = AP.tup _)))
  refine AWP.loopS (fun k : Nat => k ≤ l.length) (5 :: [3, 4, 6, 7, 8, 9, 10, 11, 12, 13, 14, 15, 16, 17, 18, 19, 20]) (fun k => [(3, .one (.own 5)), (4, vI .i64 (k : Int))]) (fun k => [(5, .row 5 1 ((l.take k).map fun x => eU (48 + x)))]) (fun k => l.length - k) 0 (by omega) ?_ (SubO.cons rfl SubO.nil) (fun k hR => ?_) <;> (conv => whnf)
  · repeat' (first | exact trivial | (refine ⟨rfl, ?_⟩; conv => whnf))
  · repeat' (first | (refine AWP.seq ?_) | (refine AWP.region av_ok ?_; conv => whnf) | (refine AWP.ret ?_; conv => whnf) | (refine AWP.skip ?_; conv => whnf) | (refine AWP.exit ?_; conv => whnf) | (refine AWP.block ?_; conv => whnf) | (refine AWP.cond ?_; conv => whnf) | (refine AB.tt ?_; conv => whnf) | (refine AB.ff ?_; conv => whnf) | (refine AB.ofT (by assumption) ?_; conv => whnf) | (refine AB.ofF (by assumption) ?_; conv => whnf) | (refine AIx.mapF (by simp only [decide_eq_true_eq, decide_eq_false_iff_not, List.length_map, Bool.not_eq_true', Bool.not_eq_false'] at *; omega) (fun hlt => ?_); have hb := fatesB_at hl hlt; conv => whnf) | (refine AW.as (k := .u8) _ (wrapU (by simp only [decide_eq_true_eq, decide_eq_false_iff_not, List.length_map, Bool.not_eq_true', Bool.not_eq_false'] at *; omega) (by simp only [decide_eq_true_eq, decide_eq_false_iff_not, List.length_map, Bool.not_eq_true', Bool.not_eq_false'] at *; omega)) ?_; conv => whnf) | (refine AW.i64 (by simp only [decide_eq_true_eq, decide_eq_false_iff_not, List.length_map, Bool.not_eq_true', Bool.not_eq_false'] at *; omega) (by simp only [decide_eq_true_eq, decide_eq_false_iff_not, List.length_map, Bool.not_eq_true', Bool.not_eq_false'] at *; omega) ?_; conv => whnf) | (refine sz_app (by simp; omega) ?_; conv => whnf) | (refine AOp.bytes (e := 5) (l.map fun x => 48 + x) rfl Tryd.underlying76 Tryd.underlying5 Tryd.underlying9 ?_ ?_) | (exact trivial) | (refine And.intro rfl ?_; conv => whnf) | (refine AB.mk (fun h => ?_) (fun h => ?_) <;> (conv => whnf)) | (with_reducible_and_instances rfl) | (exact (rfl : AP.tup _ = AP.tup _)))
    · refine ANext.mk ⟨k + 1, hlt, by omega, ?_, SubO.cons (congrArg some (congrArg (AO.row 5 1) (take_snoc (fun x => eU (48 + x)) hlt).symm)) SubO.nil⟩
      (conv => whnf); repeat' (first | exact trivial | (refine ⟨rfl, ?_⟩; conv => whnf))
    · have : k = l.length := (by simp only [decide_eq_true_eq, decide_eq_false_iff_not, List.length_map, Bool.not_eq_true', Bool.not_eq_false'] at *; omega)
      conv => whnf
      subst this
      simp [List.map_map, Function.comp_def]
    · conv => whnf
      repeat' (first | (refine AWP.seq ?_) | (refine AWP.region av_ok ?_; conv => whnf) | (refine AWP.ret ?_; conv => whnf) | (refine AWP.skip ?_; conv => whnf) | (refine AWP.exit ?_; conv => whnf) | (refine AWP.block ?_; conv => whnf) | (refine AWP.cond ?_; conv => whnf) | (refine AB.tt ?_; conv => whnf) | (refine AB.ff ?_; conv => whnf) | (exact trivial) | (refine And.intro rfl ?_; conv => whnf) | (refine AB.mk (fun h => ?_) (fun h => ?_) <;> (conv => whnf)) | (with_reducible_and_instances rfl) | (exact (rfl : AP.tup _ = AP.tup _)))
      rw [strOf_fates]
end Go.Proofs.YtlhanpkfnhnegaaDoor
/- Steps as text. -/
namespace Go.Proofs.YtlhanpkfnhnegaaDoor
open Go.ChangeShapes Go.WideShapes Go.RowKit

def kindsL : List (List UInt8) := [[], [104, 97, 110, 100], [116, 105, 99, 107], [116, 105, 109, 101], [106, 117, 109, 112], [102, 97, 108, 108], [114, 105, 115, 101], [108, 111, 115, 101], [116, 119, 105, 99, 101], [99, 117, 116], [104, 101, 97, 108], [114, 111, 116]]
def kindL (k : Int) : List UInt8 := kindsL.getD k.toNat []
theorem kind_cases {k : Int} (h0 : 1 ≤ k) (h1 : k ≤ 11) : k = 1 ∨ k = 2 ∨ k = 3 ∨ k = 4 ∨ k = 5 ∨ k = 6 ∨ k = 7 ∨ k = 8 ∨ k = 9 ∨ k = 10 ∨ k = 11 := by omega
theorem stepOk_facts {x : DStep} (h : stepOk x = true) : (1 ≤ x.kind ∧ x.kind ≤ 11) ∧ (0 ≤ x.a ∧ x.a ≤ 1000000000) ∧ (0 ≤ x.b ∧ x.b ≤ 1000000000) ∧ (0 ≤ x.c ∧ x.c ≤ 1000000000) ∧ fatesB x.fates = true ∧ (x.kind ≠ 5 → x.fates = []) := by
  unfold stepOk at h
  simp only [Bool.and_eq_true] at h
  obtain ⟨h, hk⟩ := h
  simp only [stepNums, numsB, Bool.and_eq_true, betweenB_iff] at h
  obtain ⟨⟨⟨⟨⟨ha, hb⟩, hc⟩, hf⟩, h5⟩, _⟩ := h
  refine ⟨?_, ha, hb, hc, hf, fun hne => ?_⟩
  · unfold stepKind at hk
    repeat' split at hk
    all_goals simp_all
    all_goals omega
  · simpa [hne] using h5
theorem istepWord_p (k : Int) (h0 : 1 ≤ k) (h1 : k ≤ 11) : PCall av 87 [pI k] (rL (kindL k)) := by
  rcases kind_cases h0 h1 with rfl | rfl | rfl | rfl | rfl | rfl | rfl | rfl | rfl | rfl | rfl
  all_goals
    refine pcall_of av_ok Tryd.func87 rfl Tryd.call87 Tryd.ntmps87 (congrArg Array.toList Tryd.results87) fun S => ?_; conv => whnf
    repeat' (first | (refine AWP.seq ?_) | (refine AWP.region av_ok ?_; conv => whnf) | (refine AWP.ret ?_; conv => whnf) | (refine AWP.skip ?_; conv => whnf) | (refine AWP.exit ?_; conv => whnf) | (refine AWP.block ?_; conv => whnf) | (refine AWP.cond ?_; conv => whnf) | (refine AB.tt ?_; conv => whnf) | (refine AB.ff ?_; conv => whnf) | (refine ACall.pure (ibetween_p _ _ _) rfl ?_; conv => whnf) | (refine AIx.at _ _ rfl rfl ?_; conv => whnf) | (exact trivial) | (refine And.intro rfl ?_; conv => whnf) | (refine AB.mk (fun h => ?_) (fun h => ?_) <;> (conv => whnf)) | (with_reducible_and_instances rfl) | (exact (rfl : AP.tup _ = AP.tup _)))
  all_goals rfl
def stepWords (x : DStep) : List (List UInt8) :=
  [kindL x.kind, if x.kind == 1 || x.kind == 7 || x.kind == 8 || x.kind == 11 then Lib.itoa x.a else nodeWordL x.a] ++
    (if x.kind == 3 || x.kind == 4 then [Lib.itoa x.b] else if x.kind == 9 || x.kind == 10 then [nodeWordL x.b] else if x.kind == 11 then [Lib.itoa x.b, Lib.itoa x.c] else []) ++
    (if x.fates = [] then [] else [fateL x.fates])
def stepTextL (x : DStep) : List UInt8 := if stepOk x then wordsB [32] (stepWords x) else []
theorem fateL_len (l : List Int) : (fateL l).length = l.length := by simp [fateL]
theorem iStepText_1 (a b c : Int) (h : stepOk ⟨1, a, b, c, []⟩ = true) : PCall av 27 [.agg (DStep.ds ⟨1, a, b, c, []⟩)] (rL (stepTextL ⟨1, a, b, c, []⟩)) := by
  have hF := stepOk_facts h
  simp only at hF
  have hn : (!stepOk ⟨1, a, b, c, []⟩) = false := by simp [h]
  have wa : (Lit.int .i64 a).wf = true := i64_wf (by omega) (by omega)
  have wb : (Lit.int .i64 b).wf = true := i64_wf (by omega) (by omega)
  have wc : (Lit.int .i64 c).wf = true := i64_wf (by omega) (by omega)
  have s1 : (spacedB [a]).length ≤ 22 := by simpa using spacedB_len [a] (by simpa using wa)
  have s2 : (spacedB [b]).length ≤ 22 := by simpa using spacedB_len [b] (by simpa using wb)
  have s3 : (spacedB [a, b, c]).length ≤ 66 := by simpa using spacedB_len [a, b, c] (by simp [wa, wb, wc])
  have s4 := nodeWordL_len a
  have s5 := nodeWordL_len b
  refine pcall_of av_ok Tryd.func27 rfl Tryd.call27 Tryd.ntmps27 (congrArg Array.toList Tryd.results27) fun S => ?_; conv => whnf
  repeat' (first | (refine AWP.seq ?_) | (refine AWP.region av_ok ?_; conv => whnf) | (refine AWP.ret ?_; conv => whnf) | (refine AWP.skip ?_; conv => whnf) | (refine AWP.exit ?_; conv => whnf) | (refine AWP.block ?_; conv => whnf) | (refine AWP.cond ?_; conv => whnf) | (refine AB.tt ?_; conv => whnf) | (refine AB.ff ?_; conv => whnf) | (refine ACall.pure (iStepOk_p ⟨1, a, b, c, []⟩) rfl ?_; conv => whnf) | (refine ACall.pure (istepWord_p 1 (by omega) (by omega)) rfl ?_; conv => whnf) | (refine ACall.scalar (ispaced_p [a] (by simpa using wa) (by simp)) rfl rfl ?_; conv => whnf) | (refine ACall.scalar (ispaced_p [a, b, c] (by simp [wa, wb, wc]) (by simp)) rfl rfl ?_; conv => whnf) | (refine ACall.pure (iNodeWord_p a) rfl ?_; conv => whnf) | (refine sz_and (by simp [kindL, kindsL] <;> omega) ?_; conv => whnf) | (refine AB.ofT (by assumption) ?_; conv => whnf) | (refine AB.ofF (by assumption) ?_; conv => whnf) | (exact trivial) | (refine And.intro rfl ?_; conv => whnf) | (refine AB.mk (fun h => ?_) (fun h => ?_) <;> (conv => whnf)) | (with_reducible_and_instances rfl) | (exact (rfl : AP.tup _ = AP.tup _)))
  refine str_eq ?_
  simp [stepTextL, h, stepWords, wordsB, spacedB, kindL, kindsL]
theorem iStepText_7 (a b c : Int) (h : stepOk ⟨7, a, b, c, []⟩ = true) : PCall av 27 [.agg (DStep.ds ⟨7, a, b, c, []⟩)] (rL (stepTextL ⟨7, a, b, c, []⟩)) := by
  have hF := stepOk_facts h
  simp only at hF
  have hn : (!stepOk ⟨7, a, b, c, []⟩) = false := by simp [h]
  have wa : (Lit.int .i64 a).wf = true := i64_wf (by omega) (by omega)
  have wb : (Lit.int .i64 b).wf = true := i64_wf (by omega) (by omega)
  have wc : (Lit.int .i64 c).wf = true := i64_wf (by omega) (by omega)
  have s1 : (spacedB [a]).length ≤ 22 := by simpa using spacedB_len [a] (by simpa using wa)
  have s2 : (spacedB [b]).length ≤ 22 := by simpa using spacedB_len [b] (by simpa using wb)
  have s3 : (spacedB [a, b, c]).length ≤ 66 := by simpa using spacedB_len [a, b, c] (by simp [wa, wb, wc])
  have s4 := nodeWordL_len a
  have s5 := nodeWordL_len b
  refine pcall_of av_ok Tryd.func27 rfl Tryd.call27 Tryd.ntmps27 (congrArg Array.toList Tryd.results27) fun S => ?_; conv => whnf
  repeat' (first | (refine AWP.seq ?_) | (refine AWP.region av_ok ?_; conv => whnf) | (refine AWP.ret ?_; conv => whnf) | (refine AWP.skip ?_; conv => whnf) | (refine AWP.exit ?_; conv => whnf) | (refine AWP.block ?_; conv => whnf) | (refine AWP.cond ?_; conv => whnf) | (refine AB.tt ?_; conv => whnf) | (refine AB.ff ?_; conv => whnf) | (refine ACall.pure (iStepOk_p ⟨7, a, b, c, []⟩) rfl ?_; conv => whnf) | (refine ACall.pure (istepWord_p 7 (by omega) (by omega)) rfl ?_; conv => whnf) | (refine ACall.scalar (ispaced_p [a] (by simpa using wa) (by simp)) rfl rfl ?_; conv => whnf) | (refine ACall.scalar (ispaced_p [a, b, c] (by simp [wa, wb, wc]) (by simp)) rfl rfl ?_; conv => whnf) | (refine ACall.pure (iNodeWord_p a) rfl ?_; conv => whnf) | (refine sz_and (by simp [kindL, kindsL] <;> omega) ?_; conv => whnf) | (refine AB.ofT (by assumption) ?_; conv => whnf) | (refine AB.ofF (by assumption) ?_; conv => whnf) | (exact trivial) | (refine And.intro rfl ?_; conv => whnf) | (refine AB.mk (fun h => ?_) (fun h => ?_) <;> (conv => whnf)) | (with_reducible_and_instances rfl) | (exact (rfl : AP.tup _ = AP.tup _)))
  refine str_eq ?_
  simp [stepTextL, h, stepWords, wordsB, spacedB, kindL, kindsL]
theorem iStepText_8 (a b c : Int) (h : stepOk ⟨8, a, b, c, []⟩ = true) : PCall av 27 [.agg (DStep.ds ⟨8, a, b, c, []⟩)] (rL (stepTextL ⟨8, a, b, c, []⟩)) := by
  have hF := stepOk_facts h
  simp only at hF
  have hn : (!stepOk ⟨8, a, b, c, []⟩) = false := by simp [h]
  have wa : (Lit.int .i64 a).wf = true := i64_wf (by omega) (by omega)
  have wb : (Lit.int .i64 b).wf = true := i64_wf (by omega) (by omega)
  have wc : (Lit.int .i64 c).wf = true := i64_wf (by omega) (by omega)
  have s1 : (spacedB [a]).length ≤ 22 := by simpa using spacedB_len [a] (by simpa using wa)
  have s2 : (spacedB [b]).length ≤ 22 := by simpa using spacedB_len [b] (by simpa using wb)
  have s3 : (spacedB [a, b, c]).length ≤ 66 := by simpa using spacedB_len [a, b, c] (by simp [wa, wb, wc])
  have s4 := nodeWordL_len a
  have s5 := nodeWordL_len b
  refine pcall_of av_ok Tryd.func27 rfl Tryd.call27 Tryd.ntmps27 (congrArg Array.toList Tryd.results27) fun S => ?_; conv => whnf
  repeat' (first | (refine AWP.seq ?_) | (refine AWP.region av_ok ?_; conv => whnf) | (refine AWP.ret ?_; conv => whnf) | (refine AWP.skip ?_; conv => whnf) | (refine AWP.exit ?_; conv => whnf) | (refine AWP.block ?_; conv => whnf) | (refine AWP.cond ?_; conv => whnf) | (refine AB.tt ?_; conv => whnf) | (refine AB.ff ?_; conv => whnf) | (refine ACall.pure (iStepOk_p ⟨8, a, b, c, []⟩) rfl ?_; conv => whnf) | (refine ACall.pure (istepWord_p 8 (by omega) (by omega)) rfl ?_; conv => whnf) | (refine ACall.scalar (ispaced_p [a] (by simpa using wa) (by simp)) rfl rfl ?_; conv => whnf) | (refine ACall.scalar (ispaced_p [a, b, c] (by simp [wa, wb, wc]) (by simp)) rfl rfl ?_; conv => whnf) | (refine ACall.pure (iNodeWord_p a) rfl ?_; conv => whnf) | (refine sz_and (by simp [kindL, kindsL] <;> omega) ?_; conv => whnf) | (refine AB.ofT (by assumption) ?_; conv => whnf) | (refine AB.ofF (by assumption) ?_; conv => whnf) | (exact trivial) | (refine And.intro rfl ?_; conv => whnf) | (refine AB.mk (fun h => ?_) (fun h => ?_) <;> (conv => whnf)) | (with_reducible_and_instances rfl) | (exact (rfl : AP.tup _ = AP.tup _)))
  refine str_eq ?_
  simp [stepTextL, h, stepWords, wordsB, spacedB, kindL, kindsL]
theorem iStepText_2 (a b c : Int) (h : stepOk ⟨2, a, b, c, []⟩ = true) : PCall av 27 [.agg (DStep.ds ⟨2, a, b, c, []⟩)] (rL (stepTextL ⟨2, a, b, c, []⟩)) := by
  have hF := stepOk_facts h
  simp only at hF
  have hn : (!stepOk ⟨2, a, b, c, []⟩) = false := by simp [h]
  have wa : (Lit.int .i64 a).wf = true := i64_wf (by omega) (by omega)
  have wb : (Lit.int .i64 b).wf = true := i64_wf (by omega) (by omega)
  have wc : (Lit.int .i64 c).wf = true := i64_wf (by omega) (by omega)
  have s1 : (spacedB [a]).length ≤ 22 := by simpa using spacedB_len [a] (by simpa using wa)
  have s2 : (spacedB [b]).length ≤ 22 := by simpa using spacedB_len [b] (by simpa using wb)
  have s3 : (spacedB [a, b, c]).length ≤ 66 := by simpa using spacedB_len [a, b, c] (by simp [wa, wb, wc])
  have s4 := nodeWordL_len a
  have s5 := nodeWordL_len b
  refine pcall_of av_ok Tryd.func27 rfl Tryd.call27 Tryd.ntmps27 (congrArg Array.toList Tryd.results27) fun S => ?_; conv => whnf
  repeat' (first | (refine AWP.seq ?_) | (refine AWP.region av_ok ?_; conv => whnf) | (refine AWP.ret ?_; conv => whnf) | (refine AWP.skip ?_; conv => whnf) | (refine AWP.exit ?_; conv => whnf) | (refine AWP.block ?_; conv => whnf) | (refine AWP.cond ?_; conv => whnf) | (refine AB.tt ?_; conv => whnf) | (refine AB.ff ?_; conv => whnf) | (refine ACall.pure (iStepOk_p ⟨2, a, b, c, []⟩) rfl ?_; conv => whnf) | (refine ACall.pure (istepWord_p 2 (by omega) (by omega)) rfl ?_; conv => whnf) | (refine ACall.scalar (ispaced_p [a] (by simpa using wa) (by simp)) rfl rfl ?_; conv => whnf) | (refine ACall.scalar (ispaced_p [a, b, c] (by simp [wa, wb, wc]) (by simp)) rfl rfl ?_; conv => whnf) | (refine ACall.pure (iNodeWord_p a) rfl ?_; conv => whnf) | (refine sz_and (by simp [kindL, kindsL] <;> omega) ?_; conv => whnf) | (refine AB.ofT (by assumption) ?_; conv => whnf) | (refine AB.ofF (by assumption) ?_; conv => whnf) | (exact trivial) | (refine And.intro rfl ?_; conv => whnf) | (refine AB.mk (fun h => ?_) (fun h => ?_) <;> (conv => whnf)) | (with_reducible_and_instances rfl) | (exact (rfl : AP.tup _ = AP.tup _)))
  refine str_eq ?_
  simp [stepTextL, h, stepWords, wordsB, spacedB, kindL, kindsL]
theorem iStepText_6 (a b c : Int) (h : stepOk ⟨6, a, b, c, []⟩ = true) : PCall av 27 [.agg (DStep.ds ⟨6, a, b, c, []⟩)] (rL (stepTextL ⟨6, a, b, c, []⟩)) := by
  have hF := stepOk_facts h
  simp only at hF
  have hn : (!stepOk ⟨6, a, b, c, []⟩) = false := by simp [h]
  have wa : (Lit.int .i64 a).wf = true := i64_wf (by omega) (by omega)
  have wb : (Lit.int .i64 b).wf = true := i64_wf (by omega) (by omega)
  have wc : (Lit.int .i64 c).wf = true := i64_wf (by omega) (by omega)
  have s1 : (spacedB [a]).length ≤ 22 := by simpa using spacedB_len [a] (by simpa using wa)
  have s2 : (spacedB [b]).length ≤ 22 := by simpa using spacedB_len [b] (by simpa using wb)
  have s3 : (spacedB [a, b, c]).length ≤ 66 := by simpa using spacedB_len [a, b, c] (by simp [wa, wb, wc])
  have s4 := nodeWordL_len a
  have s5 := nodeWordL_len b
  refine pcall_of av_ok Tryd.func27 rfl Tryd.call27 Tryd.ntmps27 (congrArg Array.toList Tryd.results27) fun S => ?_; conv => whnf
  repeat' (first | (refine AWP.seq ?_) | (refine AWP.region av_ok ?_; conv => whnf) | (refine AWP.ret ?_; conv => whnf) | (refine AWP.skip ?_; conv => whnf) | (refine AWP.exit ?_; conv => whnf) | (refine AWP.block ?_; conv => whnf) | (refine AWP.cond ?_; conv => whnf) | (refine AB.tt ?_; conv => whnf) | (refine AB.ff ?_; conv => whnf) | (refine ACall.pure (iStepOk_p ⟨6, a, b, c, []⟩) rfl ?_; conv => whnf) | (refine ACall.pure (istepWord_p 6 (by omega) (by omega)) rfl ?_; conv => whnf) | (refine ACall.scalar (ispaced_p [a] (by simpa using wa) (by simp)) rfl rfl ?_; conv => whnf) | (refine ACall.scalar (ispaced_p [a, b, c] (by simp [wa, wb, wc]) (by simp)) rfl rfl ?_; conv => whnf) | (refine ACall.pure (iNodeWord_p a) rfl ?_; conv => whnf) | (refine sz_and (by simp [kindL, kindsL] <;> omega) ?_; conv => whnf) | (refine AB.ofT (by assumption) ?_; conv => whnf) | (refine AB.ofF (by assumption) ?_; conv => whnf) | (exact trivial) | (refine And.intro rfl ?_; conv => whnf) | (refine AB.mk (fun h => ?_) (fun h => ?_) <;> (conv => whnf)) | (with_reducible_and_instances rfl) | (exact (rfl : AP.tup _ = AP.tup _)))
  refine str_eq ?_
  simp [stepTextL, h, stepWords, wordsB, spacedB, kindL, kindsL]
theorem iStepText_11 (a b c : Int) (h : stepOk ⟨11, a, b, c, []⟩ = true) : PCall av 27 [.agg (DStep.ds ⟨11, a, b, c, []⟩)] (rL (stepTextL ⟨11, a, b, c, []⟩)) := by
  have hF := stepOk_facts h
  simp only at hF
  have hn : (!stepOk ⟨11, a, b, c, []⟩) = false := by simp [h]
  have wa : (Lit.int .i64 a).wf = true := i64_wf (by omega) (by omega)
  have wb : (Lit.int .i64 b).wf = true := i64_wf (by omega) (by omega)
  have wc : (Lit.int .i64 c).wf = true := i64_wf (by omega) (by omega)
  have s1 : (spacedB [a]).length ≤ 22 := by simpa using spacedB_len [a] (by simpa using wa)
  have s2 : (spacedB [b]).length ≤ 22 := by simpa using spacedB_len [b] (by simpa using wb)
  have s3 : (spacedB [a, b, c]).length ≤ 66 := by simpa using spacedB_len [a, b, c] (by simp [wa, wb, wc])
  have s4 := nodeWordL_len a
  have s5 := nodeWordL_len b
  refine pcall_of av_ok Tryd.func27 rfl Tryd.call27 Tryd.ntmps27 (congrArg Array.toList Tryd.results27) fun S => ?_; conv => whnf
  repeat' (first | (refine AWP.seq ?_) | (refine AWP.region av_ok ?_; conv => whnf) | (refine AWP.ret ?_; conv => whnf) | (refine AWP.skip ?_; conv => whnf) | (refine AWP.exit ?_; conv => whnf) | (refine AWP.block ?_; conv => whnf) | (refine AWP.cond ?_; conv => whnf) | (refine AB.tt ?_; conv => whnf) | (refine AB.ff ?_; conv => whnf) | (refine ACall.pure (iStepOk_p ⟨11, a, b, c, []⟩) rfl ?_; conv => whnf) | (refine ACall.pure (istepWord_p 11 (by omega) (by omega)) rfl ?_; conv => whnf) | (refine ACall.scalar (ispaced_p [a] (by simpa using wa) (by simp)) rfl rfl ?_; conv => whnf) | (refine ACall.scalar (ispaced_p [a, b, c] (by simp [wa, wb, wc]) (by simp)) rfl rfl ?_; conv => whnf) | (refine ACall.pure (iNodeWord_p a) rfl ?_; conv => whnf) | (refine sz_and (by simp [kindL, kindsL] <;> omega) ?_; conv => whnf) | (refine AB.ofT (by assumption) ?_; conv => whnf) | (refine AB.ofF (by assumption) ?_; conv => whnf) | (exact trivial) | (refine And.intro rfl ?_; conv => whnf) | (refine AB.mk (fun h => ?_) (fun h => ?_) <;> (conv => whnf)) | (with_reducible_and_instances rfl) | (exact (rfl : AP.tup _ = AP.tup _)))
  refine str_eq ?_
  simp [stepTextL, h, stepWords, wordsB, spacedB, kindL, kindsL]
theorem iStepText_3 (a b c : Int) (h : stepOk ⟨3, a, b, c, []⟩ = true) : PCall av 27 [.agg (DStep.ds ⟨3, a, b, c, []⟩)] (rL (stepTextL ⟨3, a, b, c, []⟩)) := by
  have hF := stepOk_facts h
  simp only at hF
  have hn : (!stepOk ⟨3, a, b, c, []⟩) = false := by simp [h]
  have wa : (Lit.int .i64 a).wf = true := i64_wf (by omega) (by omega)
  have wb : (Lit.int .i64 b).wf = true := i64_wf (by omega) (by omega)
  have wc : (Lit.int .i64 c).wf = true := i64_wf (by omega) (by omega)
  have s1 : (spacedB [a]).length ≤ 22 := by simpa using spacedB_len [a] (by simpa using wa)
  have s2 : (spacedB [b]).length ≤ 22 := by simpa using spacedB_len [b] (by simpa using wb)
  have s3 : (spacedB [a, b, c]).length ≤ 66 := by simpa using spacedB_len [a, b, c] (by simp [wa, wb, wc])
  have s4 := nodeWordL_len a
  have s5 := nodeWordL_len b
  refine pcall_of av_ok Tryd.func27 rfl Tryd.call27 Tryd.ntmps27 (congrArg Array.toList Tryd.results27) fun S => ?_; conv => whnf
  repeat' (first | (refine AWP.seq ?_) | (refine AWP.region av_ok ?_; conv => whnf) | (refine AWP.ret ?_; conv => whnf) | (refine AWP.skip ?_; conv => whnf) | (refine AWP.exit ?_; conv => whnf) | (refine AWP.block ?_; conv => whnf) | (refine AWP.cond ?_; conv => whnf) | (refine AB.tt ?_; conv => whnf) | (refine AB.ff ?_; conv => whnf) | (refine ACall.pure (iStepOk_p ⟨3, a, b, c, []⟩) rfl ?_; conv => whnf) | (refine ACall.pure (istepWord_p 3 (by omega) (by omega)) rfl ?_; conv => whnf) | (refine ACall.scalar (ispaced_p [a] (by simpa using wa) (by simp)) rfl rfl ?_; conv => whnf) | (refine ACall.scalar (ispaced_p [a, b, c] (by simp [wa, wb, wc]) (by simp)) rfl rfl ?_; conv => whnf) | (refine ACall.pure (iNodeWord_p a) rfl ?_; conv => whnf) | (refine sz_and (by simp [kindL, kindsL] <;> omega) ?_; conv => whnf) | (refine AB.ofT (by assumption) ?_; conv => whnf) | (refine AB.ofF (by assumption) ?_; conv => whnf) | (exact trivial) | (refine And.intro rfl ?_; conv => whnf) | (refine AB.mk (fun h => ?_) (fun h => ?_) <;> (conv => whnf)) | (with_reducible_and_instances rfl) | (exact (rfl : AP.tup _ = AP.tup _)))
  refine' AWP.draw av_ok 10 [[], [0], [], [2], [2, 3], [3, 2, 4, 0, 1], [], [6], [6, 7], [3, 2, 4, 7, 6, 8], [8, 6, 7, 9, 1, 0, 4, 2, 3, 5], [5, 3, 2, 4, 0, 1, 9, 7, 6, 8, 10]] [(_, _), (_, _), (_, _), (_, _), (_, _), (_, _), (_, _), (_, _), (_, _), (_, _)] ?hD ?hok ?hl ?hf ?hno ?ht
  case hD => kernel_rfl
  case hok => kernel_rfl
  case hl => rfl
  case hf =>
    conv => whnf
    repeat' (first | (refine ⟨rfl, rfl⟩) | exact trivial | (refine AFCall.mk ⟨_, _, iNodeWord_p a, .inl rfl, ?_⟩; conv => whnf) | (refine AFCall.mk ⟨_, _, iNodeWord_p b, .inl rfl, ?_⟩; conv => whnf) | (refine AFCall.mk ⟨_, _, ispaced_p [b] (by simpa using wb) (by simp), .inl rfl, ?_⟩; conv => whnf) | (refine sz_and (by simp [kindL, kindsL] <;> omega) ?_; conv => whnf) | (refine And.intro ?_ ?_ <;> conv => whnf))
  case hno => rfl
  case ht =>
    conv => whnf
    repeat' (first | (refine AWP.seq ?_) | (refine AWP.region av_ok ?_; conv => whnf) | (refine AWP.ret ?_; conv => whnf) | (refine AWP.skip ?_; conv => whnf) | (refine AWP.exit ?_; conv => whnf) | (refine AWP.block ?_; conv => whnf) | (refine AWP.cond ?_; conv => whnf) | (refine AB.tt ?_; conv => whnf) | (refine AB.ff ?_; conv => whnf) | (refine sz_and (by simp [kindL, kindsL] <;> omega) ?_; conv => whnf) | (exact trivial) | (refine And.intro rfl ?_; conv => whnf) | (refine AB.mk (fun h => ?_) (fun h => ?_) <;> (conv => whnf)) | (with_reducible_and_instances rfl) | (exact (rfl : AP.tup _ = AP.tup _)))
    refine str_eq ?_
    simp [stepTextL, h, stepWords, wordsB, spacedB, kindL, kindsL]
theorem iStepText_4 (a b c : Int) (h : stepOk ⟨4, a, b, c, []⟩ = true) : PCall av 27 [.agg (DStep.ds ⟨4, a, b, c, []⟩)] (rL (stepTextL ⟨4, a, b, c, []⟩)) := by
  have hF := stepOk_facts h
  simp only at hF
  have hn : (!stepOk ⟨4, a, b, c, []⟩) = false := by simp [h]
  have wa : (Lit.int .i64 a).wf = true := i64_wf (by omega) (by omega)
  have wb : (Lit.int .i64 b).wf = true := i64_wf (by omega) (by omega)
  have wc : (Lit.int .i64 c).wf = true := i64_wf (by omega) (by omega)
  have s1 : (spacedB [a]).length ≤ 22 := by simpa using spacedB_len [a] (by simpa using wa)
  have s2 : (spacedB [b]).length ≤ 22 := by simpa using spacedB_len [b] (by simpa using wb)
  have s3 : (spacedB [a, b, c]).length ≤ 66 := by simpa using spacedB_len [a, b, c] (by simp [wa, wb, wc])
  have s4 := nodeWordL_len a
  have s5 := nodeWordL_len b
  refine pcall_of av_ok Tryd.func27 rfl Tryd.call27 Tryd.ntmps27 (congrArg Array.toList Tryd.results27) fun S => ?_; conv => whnf
  repeat' (first | (refine AWP.seq ?_) | (refine AWP.region av_ok ?_; conv => whnf) | (refine AWP.ret ?_; conv => whnf) | (refine AWP.skip ?_; conv => whnf) | (refine AWP.exit ?_; conv => whnf) | (refine AWP.block ?_; conv => whnf) | (refine AWP.cond ?_; conv => whnf) | (refine AB.tt ?_; conv => whnf) | (refine AB.ff ?_; conv => whnf) | (refine ACall.pure (iStepOk_p ⟨4, a, b, c, []⟩) rfl ?_; conv => whnf) | (refine ACall.pure (istepWord_p 4 (by omega) (by omega)) rfl ?_; conv => whnf) | (refine ACall.scalar (ispaced_p [a] (by simpa using wa) (by simp)) rfl rfl ?_; conv => whnf) | (refine ACall.scalar (ispaced_p [a, b, c] (by simp [wa, wb, wc]) (by simp)) rfl rfl ?_; conv => whnf) | (refine ACall.pure (iNodeWord_p a) rfl ?_; conv => whnf) | (refine sz_and (by simp [kindL, kindsL] <;> omega) ?_; conv => whnf) | (refine AB.ofT (by assumption) ?_; conv => whnf) | (refine AB.ofF (by assumption) ?_; conv => whnf) | (exact trivial) | (refine And.intro rfl ?_; conv => whnf) | (refine AB.mk (fun h => ?_) (fun h => ?_) <;> (conv => whnf)) | (with_reducible_and_instances rfl) | (exact (rfl : AP.tup _ = AP.tup _)))
  refine' AWP.draw av_ok 10 [[], [0], [], [2], [2, 3], [3, 2, 4, 0, 1], [], [6], [6, 7], [3, 2, 4, 7, 6, 8], [8, 6, 7, 9, 1, 0, 4, 2, 3, 5], [5, 3, 2, 4, 0, 1, 9, 7, 6, 8, 10]] [(_, _), (_, _), (_, _), (_, _), (_, _), (_, _), (_, _), (_, _), (_, _), (_, _)] ?hD ?hok ?hl ?hf ?hno ?ht
  case hD => kernel_rfl
  case hok => kernel_rfl
  case hl => rfl
  case hf =>
    conv => whnf
    repeat' (first | (refine ⟨rfl, rfl⟩) | exact trivial | (refine AFCall.mk ⟨_, _, iNodeWord_p a, .inl rfl, ?_⟩; conv => whnf) | (refine AFCall.mk ⟨_, _, iNodeWord_p b, .inl rfl, ?_⟩; conv => whnf) | (refine AFCall.mk ⟨_, _, ispaced_p [b] (by simpa using wb) (by simp), .inl rfl, ?_⟩; conv => whnf) | (refine sz_and (by simp [kindL, kindsL] <;> omega) ?_; conv => whnf) | (refine And.intro ?_ ?_ <;> conv => whnf))
  case hno => rfl
  case ht =>
    conv => whnf
    repeat' (first | (refine AWP.seq ?_) | (refine AWP.region av_ok ?_; conv => whnf) | (refine AWP.ret ?_; conv => whnf) | (refine AWP.skip ?_; conv => whnf) | (refine AWP.exit ?_; conv => whnf) | (refine AWP.block ?_; conv => whnf) | (refine AWP.cond ?_; conv => whnf) | (refine AB.tt ?_; conv => whnf) | (refine AB.ff ?_; conv => whnf) | (refine sz_and (by simp [kindL, kindsL] <;> omega) ?_; conv => whnf) | (exact trivial) | (refine And.intro rfl ?_; conv => whnf) | (refine AB.mk (fun h => ?_) (fun h => ?_) <;> (conv => whnf)) | (with_reducible_and_instances rfl) | (exact (rfl : AP.tup _ = AP.tup _)))
    refine str_eq ?_
    simp [stepTextL, h, stepWords, wordsB, spacedB, kindL, kindsL]
theorem iStepText_9 (a b c : Int) (h : stepOk ⟨9, a, b, c, []⟩ = true) : PCall av 27 [.agg (DStep.ds ⟨9, a, b, c, []⟩)] (rL (stepTextL ⟨9, a, b, c, []⟩)) := by
  have hF := stepOk_facts h
  simp only at hF
  have hn : (!stepOk ⟨9, a, b, c, []⟩) = false := by simp [h]
  have wa : (Lit.int .i64 a).wf = true := i64_wf (by omega) (by omega)
  have wb : (Lit.int .i64 b).wf = true := i64_wf (by omega) (by omega)
  have wc : (Lit.int .i64 c).wf = true := i64_wf (by omega) (by omega)
  have s1 : (spacedB [a]).length ≤ 22 := by simpa using spacedB_len [a] (by simpa using wa)
  have s2 : (spacedB [b]).length ≤ 22 := by simpa using spacedB_len [b] (by simpa using wb)
  have s3 : (spacedB [a, b, c]).length ≤ 66 := by simpa using spacedB_len [a, b, c] (by simp [wa, wb, wc])
  have s4 := nodeWordL_len a
  have s5 := nodeWordL_len b
  refine pcall_of av_ok Tryd.func27 rfl Tryd.call27 Tryd.ntmps27 (congrArg Array.toList Tryd.results27) fun S => ?_; conv => whnf
  repeat' (first | (refine AWP.seq ?_) | (refine AWP.region av_ok ?_; conv => whnf) | (refine AWP.ret ?_; conv => whnf) | (refine AWP.skip ?_; conv => whnf) | (refine AWP.exit ?_; conv => whnf) | (refine AWP.block ?_; conv => whnf) | (refine AWP.cond ?_; conv => whnf) | (refine AB.tt ?_; conv => whnf) | (refine AB.ff ?_; conv => whnf) | (refine ACall.pure (iStepOk_p ⟨9, a, b, c, []⟩) rfl ?_; conv => whnf) | (refine ACall.pure (istepWord_p 9 (by omega) (by omega)) rfl ?_; conv => whnf) | (refine ACall.scalar (ispaced_p [a] (by simpa using wa) (by simp)) rfl rfl ?_; conv => whnf) | (refine ACall.scalar (ispaced_p [a, b, c] (by simp [wa, wb, wc]) (by simp)) rfl rfl ?_; conv => whnf) | (refine ACall.pure (iNodeWord_p a) rfl ?_; conv => whnf) | (refine sz_and (by simp [kindL, kindsL] <;> omega) ?_; conv => whnf) | (refine AB.ofT (by assumption) ?_; conv => whnf) | (refine AB.ofF (by assumption) ?_; conv => whnf) | (exact trivial) | (refine And.intro rfl ?_; conv => whnf) | (refine AB.mk (fun h => ?_) (fun h => ?_) <;> (conv => whnf)) | (with_reducible_and_instances rfl) | (exact (rfl : AP.tup _ = AP.tup _)))
  refine' AWP.draw av_ok 10 [[], [0], [], [2], [2, 3], [3, 2, 4, 0, 1], [1, 0, 4, 2, 3, 5], [], [7], [3, 2, 4, 7, 8], [8, 7, 9, 5, 3, 2, 4, 0, 1, 6], [6, 1, 0, 4, 2, 3, 5, 9, 7, 8, 10]] [(_, _), (_, _), (_, _), (_, _), (_, _), (_, _), (_, _), (_, _), (_, _), (_, _)] ?hD ?hok ?hl ?hf ?hno ?ht
  case hD => kernel_rfl
  case hok => kernel_rfl
  case hl => rfl
  case hf =>
    conv => whnf
    repeat' (first | (refine ⟨rfl, rfl⟩) | exact trivial | (refine AFCall.mk ⟨_, _, iNodeWord_p a, .inl rfl, ?_⟩; conv => whnf) | (refine AFCall.mk ⟨_, _, iNodeWord_p b, .inl rfl, ?_⟩; conv => whnf) | (refine AFCall.mk ⟨_, _, ispaced_p [b] (by simpa using wb) (by simp), .inl rfl, ?_⟩; conv => whnf) | (refine sz_and (by simp [kindL, kindsL] <;> omega) ?_; conv => whnf) | (refine And.intro ?_ ?_ <;> conv => whnf))
  case hno => rfl
  case ht =>
    conv => whnf
    repeat' (first | (refine AWP.seq ?_) | (refine AWP.region av_ok ?_; conv => whnf) | (refine AWP.ret ?_; conv => whnf) | (refine AWP.skip ?_; conv => whnf) | (refine AWP.exit ?_; conv => whnf) | (refine AWP.block ?_; conv => whnf) | (refine AWP.cond ?_; conv => whnf) | (refine AB.tt ?_; conv => whnf) | (refine AB.ff ?_; conv => whnf) | (refine sz_and (by simp [kindL, kindsL] <;> omega) ?_; conv => whnf) | (exact trivial) | (refine And.intro rfl ?_; conv => whnf) | (refine AB.mk (fun h => ?_) (fun h => ?_) <;> (conv => whnf)) | (with_reducible_and_instances rfl) | (exact (rfl : AP.tup _ = AP.tup _)))
    refine str_eq ?_
    simp [stepTextL, h, stepWords, wordsB, spacedB, kindL, kindsL]
theorem iStepText_10 (a b c : Int) (h : stepOk ⟨10, a, b, c, []⟩ = true) : PCall av 27 [.agg (DStep.ds ⟨10, a, b, c, []⟩)] (rL (stepTextL ⟨10, a, b, c, []⟩)) := by
  have hF := stepOk_facts h
  simp only at hF
  have hn : (!stepOk ⟨10, a, b, c, []⟩) = false := by simp [h]
  have wa : (Lit.int .i64 a).wf = true := i64_wf (by omega) (by omega)
  have wb : (Lit.int .i64 b).wf = true := i64_wf (by omega) (by omega)
  have wc : (Lit.int .i64 c).wf = true := i64_wf (by omega) (by omega)
  have s1 : (spacedB [a]).length ≤ 22 := by simpa using spacedB_len [a] (by simpa using wa)
  have s2 : (spacedB [b]).length ≤ 22 := by simpa using spacedB_len [b] (by simpa using wb)
  have s3 : (spacedB [a, b, c]).length ≤ 66 := by simpa using spacedB_len [a, b, c] (by simp [wa, wb, wc])
  have s4 := nodeWordL_len a
  have s5 := nodeWordL_len b
  refine pcall_of av_ok Tryd.func27 rfl Tryd.call27 Tryd.ntmps27 (congrArg Array.toList Tryd.results27) fun S => ?_; conv => whnf
  repeat' (first | (refine AWP.seq ?_) | (refine AWP.region av_ok ?_; conv => whnf) | (refine AWP.ret ?_; conv => whnf) | (refine AWP.skip ?_; conv => whnf) | (refine AWP.exit ?_; conv => whnf) | (refine AWP.block ?_; conv => whnf) | (refine AWP.cond ?_; conv => whnf) | (refine AB.tt ?_; conv => whnf) | (refine AB.ff ?_; conv => whnf) | (refine ACall.pure (iStepOk_p ⟨10, a, b, c, []⟩) rfl ?_; conv => whnf) | (refine ACall.pure (istepWord_p 10 (by omega) (by omega)) rfl ?_; conv => whnf) | (refine ACall.scalar (ispaced_p [a] (by simpa using wa) (by simp)) rfl rfl ?_; conv => whnf) | (refine ACall.scalar (ispaced_p [a, b, c] (by simp [wa, wb, wc]) (by simp)) rfl rfl ?_; conv => whnf) | (refine ACall.pure (iNodeWord_p a) rfl ?_; conv => whnf) | (refine sz_and (by simp [kindL, kindsL] <;> omega) ?_; conv => whnf) | (refine AB.ofT (by assumption) ?_; conv => whnf) | (refine AB.ofF (by assumption) ?_; conv => whnf) | (exact trivial) | (refine And.intro rfl ?_; conv => whnf) | (refine AB.mk (fun h => ?_) (fun h => ?_) <;> (conv => whnf)) | (with_reducible_and_instances rfl) | (exact (rfl : AP.tup _ = AP.tup _)))
  refine' AWP.draw av_ok 10 [[], [0], [], [2], [2, 3], [3, 2, 4, 0, 1], [1, 0, 4, 2, 3, 5], [], [7], [3, 2, 4, 7, 8], [8, 7, 9, 5, 3, 2, 4, 0, 1, 6], [6, 1, 0, 4, 2, 3, 5, 9, 7, 8, 10]] [(_, _), (_, _), (_, _), (_, _), (_, _), (_, _), (_, _), (_, _), (_, _), (_, _)] ?hD ?hok ?hl ?hf ?hno ?ht
  case hD => kernel_rfl
  case hok => kernel_rfl
  case hl => rfl
  case hf =>
    conv => whnf
    repeat' (first | (refine ⟨rfl, rfl⟩) | exact trivial | (refine AFCall.mk ⟨_, _, iNodeWord_p a, .inl rfl, ?_⟩; conv => whnf) | (refine AFCall.mk ⟨_, _, iNodeWord_p b, .inl rfl, ?_⟩; conv => whnf) | (refine AFCall.mk ⟨_, _, ispaced_p [b] (by simpa using wb) (by simp), .inl rfl, ?_⟩; conv => whnf) | (refine sz_and (by simp [kindL, kindsL] <;> omega) ?_; conv => whnf) | (refine And.intro ?_ ?_ <;> conv => whnf))
  case hno => rfl
  case ht =>
    conv => whnf
    repeat' (first | (refine AWP.seq ?_) | (refine AWP.region av_ok ?_; conv => whnf) | (refine AWP.ret ?_; conv => whnf) | (refine AWP.skip ?_; conv => whnf) | (refine AWP.exit ?_; conv => whnf) | (refine AWP.block ?_; conv => whnf) | (refine AWP.cond ?_; conv => whnf) | (refine AB.tt ?_; conv => whnf) | (refine AB.ff ?_; conv => whnf) | (refine sz_and (by simp [kindL, kindsL] <;> omega) ?_; conv => whnf) | (exact trivial) | (refine And.intro rfl ?_; conv => whnf) | (refine AB.mk (fun h => ?_) (fun h => ?_) <;> (conv => whnf)) | (with_reducible_and_instances rfl) | (exact (rfl : AP.tup _ = AP.tup _)))
    refine str_eq ?_
    simp [stepTextL, h, stepWords, wordsB, spacedB, kindL, kindsL]
theorem iStepText_5 (a b c : Int) (f : List Int) (hk : stepOk ⟨5, a, b, c, f⟩ = true) : PCall av 27 [.agg (DStep.ds ⟨5, a, b, c, f⟩)] (rL (stepTextL ⟨5, a, b, c, f⟩)) := by
  have hF := stepOk_facts hk
  simp only at hF
  have hn : (!stepOk ⟨5, a, b, c, f⟩) = false := by simp [hk]
  have s4 := nodeWordL_len a
  have s5 := fateL_len f
  have s6 := fatesB_l hF.2.2.2.2.1
  refine pcall_of av_ok Tryd.func27 rfl Tryd.call27 Tryd.ntmps27 (congrArg Array.toList Tryd.results27) fun S => ?_; conv => whnf
  repeat' (first | (refine AWP.seq ?_) | (refine AWP.region av_ok ?_; conv => whnf) | (refine AWP.ret ?_; conv => whnf) | (refine AWP.skip ?_; conv => whnf) | (refine AWP.exit ?_; conv => whnf) | (refine AWP.block ?_; conv => whnf) | (refine AWP.cond ?_; conv => whnf) | (refine AB.tt ?_; conv => whnf) | (refine AB.ff ?_; conv => whnf) | (refine ACall.pure (iStepOk_p ⟨5, a, b, c, f⟩) rfl ?_; conv => whnf) | (refine ACall.pure (istepWord_p 5 (by omega) (by omega)) rfl ?_; conv => whnf) | (refine ACall.pure (iNodeWord_p a) rfl ?_; conv => whnf) | (refine sz_and (by simp [kindL, kindsL] <;> omega) ?_; conv => whnf) | (refine AB.ofT (by assumption) ?_; conv => whnf) | (refine AB.ofF (by assumption) ?_; conv => whnf) | (exact trivial) | (refine And.intro rfl ?_; conv => whnf) | (refine AB.mk (fun h => ?_) (fun h => ?_) <;> (conv => whnf)) | (with_reducible_and_instances rfl) | (exact (rfl : AP.tup _ = AP.tup _)))
  · have hf0 : f = [] := by simpa using h
    subst hf0
    refine str_eq ?_
    simp [stepTextL, hk, stepWords, wordsB, kindL, kindsL]
  · have hf0 : f ≠ [] := by simpa using h
    refine' AWP.draw av_ok 10 [[], [0], [], [2], [2, 3], [3, 2, 4, 0, 1], [1, 0, 4, 2, 3, 5], [], [7], [3, 2, 4, 7, 8], [8, 7, 9, 5, 3, 2, 4, 0, 1, 6], [6, 1, 0, 4, 2, 3, 5, 9, 7, 8, 10]] [(_, _), (_, _), (_, _), (_, _), (_, _), (_, _), (_, _), (_, _), (_, _), (_, _)] ?hD ?hok ?hl ?hf ?hno ?ht
    case hD => kernel_rfl
    case hok => kernel_rfl
    case hl => rfl
    case hf =>
      conv => whnf
      repeat' (first | (refine ⟨rfl, rfl⟩) | exact trivial | (refine AFCall.mk ⟨_, _, iNodeWord_p a, .inl rfl, ?_⟩; conv => whnf) | (refine AFCall.mk ⟨_, _, ifateWord_p f hF.2.2.2.2.1, .inl rfl, ?_⟩; conv => whnf) | (refine sz_and (by simp [kindL, kindsL] <;> omega) ?_; conv => whnf) | (refine And.intro ?_ ?_ <;> conv => whnf))
    case hno => rfl
    case ht =>
      conv => whnf
      repeat' (first | (refine AWP.seq ?_) | (refine AWP.region av_ok ?_; conv => whnf) | (refine AWP.ret ?_; conv => whnf) | (refine AWP.skip ?_; conv => whnf) | (refine AWP.exit ?_; conv => whnf) | (refine AWP.block ?_; conv => whnf) | (refine AWP.cond ?_; conv => whnf) | (refine AB.tt ?_; conv => whnf) | (refine AB.ff ?_; conv => whnf) | (refine sz_and (by simp [kindL, kindsL] <;> omega) ?_; conv => whnf) | (exact trivial) | (refine And.intro rfl ?_; conv => whnf) | (refine AB.mk (fun h => ?_) (fun h => ?_) <;> (conv => whnf)) | (with_reducible_and_instances rfl) | (exact (rfl : AP.tup _ = AP.tup _)))
      refine str_eq ?_
      simp [stepTextL, hk, hf0, stepWords, wordsB, kindL, kindsL]
theorem iStepText_no (x : DStep) (h : stepOk x = false) : PCall av 27 [.agg x.ds] (rL (stepTextL x)) := by
  have hn : (!stepOk x) = true := by simp [h]
  refine pcall_of av_ok Tryd.func27 rfl Tryd.call27 Tryd.ntmps27 (congrArg Array.toList Tryd.results27) fun S => ?_; conv => whnf
  repeat' (first | (refine AWP.seq ?_) | (refine AWP.region av_ok ?_; conv => whnf) | (refine AWP.ret ?_; conv => whnf) | (refine AWP.skip ?_; conv => whnf) | (refine AWP.exit ?_; conv => whnf) | (refine AWP.block ?_; conv => whnf) | (refine AWP.cond ?_; conv => whnf) | (refine AB.tt ?_; conv => whnf) | (refine AB.ff ?_; conv => whnf) | (refine ACall.pure (iStepOk_p x) rfl ?_; conv => whnf) | (refine AB.ofT (by assumption) ?_; conv => whnf) | (refine AB.ofF (by assumption) ?_; conv => whnf) | (exact trivial) | (refine And.intro rfl ?_; conv => whnf) | (refine AB.mk (fun h => ?_) (fun h => ?_) <;> (conv => whnf)) | (with_reducible_and_instances rfl) | (exact (rfl : AP.tup _ = AP.tup _)))
  simp [stepTextL, h]
theorem iStepText_p (x : DStep) : PCall av 27 [.agg x.ds] (rL (stepTextL x)) := by
  cases h : stepOk x
  · exact iStepText_no x h
  · have hF := stepOk_facts h
    obtain ⟨k, a, b, c, f⟩ := x
    simp only at hF
    rcases kind_cases hF.1.1 hF.1.2 with rfl | rfl | rfl | rfl | rfl | rfl | rfl | rfl | rfl | rfl | rfl
    case inr.inr.inr.inr.inl => exact iStepText_5 a b c f h
    all_goals
      have hf : f = [] := hF.2.2.2.2.2 (by decide)
      subst hf
    · exact iStepText_1 a b c h
    · exact iStepText_2 a b c h
    · exact iStepText_3 a b c h
    · exact iStepText_4 a b c h
    · exact iStepText_6 a b c h
    · exact iStepText_7 a b c h
    · exact iStepText_8 a b c h
    · exact iStepText_9 a b c h
    · exact iStepText_10 a b c h
    · exact iStepText_11 a b c h
end Go.Proofs.YtlhanpkfnhnegaaDoor
/- Steps as text: the reference. -/
namespace Go.Proofs.YtlhanpkfnhnegaaDoor
open Go.ChangeShapes Go.WideShapes Go.RowKit

theorem stepWords_len {x : DStep} (h : stepOk x = true) : (wordsB [32] (stepWords x)).length ≤ 1000 := by
  have hF := stepOk_facts h
  have s1 := itoa_le (x := x.a) (by omega) (by omega)
  have s2 := itoa_le (x := x.b) (by omega) (by omega)
  have s3 := itoa_le (x := x.c) (by omega) (by omega)
  have s4 := nodeWordL_len x.a
  have s5 := nodeWordL_len x.b
  have s6 := fatesB_l hF.2.2.2.2.1
  have s7 : (kindL x.kind).length ≤ 5 := by
    rcases kind_cases hF.1.1 hF.1.2 with e | e | e | e | e | e | e | e | e | e | e <;> rw [e] <;> decide
  unfold stepWords
  repeat' split
  all_goals simp [wordsB, fateL_len]
  all_goals omega
theorem sl32Kinds_p : PCall av 82 [] (.val (.one (.sl (kindsL.map eS)))) := by
  refine pcall_of av_ok Tryd.func82 rfl Tryd.call82 Tryd.ntmps82 (congrArg Array.toList Tryd.results82) fun S => ?_; conv => whnf
  repeat' (first | (refine AWP.seq ?_) | (refine AWP.region av_ok ?_; conv => whnf) | (refine AWP.ret ?_; conv => whnf) | (refine AWP.skip ?_; conv => whnf) | (refine AWP.exit ?_; conv => whnf) | (refine AWP.block ?_; conv => whnf) | (refine AWP.cond ?_; conv => whnf) | (refine AB.tt ?_; conv => whnf) | (refine AB.ff ?_; conv => whnf) | (exact trivial) | (refine And.intro rfl ?_; conv => whnf) | (refine AB.mk (fun h => ?_) (fun h => ?_) <;> (conv => whnf)) | (with_reducible_and_instances rfl) | (exact (rfl : AP.tup _ = AP.tup _)))
  all_goals rfl
theorem sl32Node_p (k : Int) : PCall av 83 [pI k] (rB (k != 1 && k != 7 && k != 8 && k != 11)) := by
  refine pcall_of av_ok Tryd.func83 rfl Tryd.call83 Tryd.ntmps83 (congrArg Array.toList Tryd.results83) fun S => ?_; conv => whnf
  repeat' (first | (refine AWP.seq ?_) | (refine AWP.region av_ok ?_; conv => whnf) | (refine AWP.ret ?_; conv => whnf) | (refine AWP.skip ?_; conv => whnf) | (refine AWP.exit ?_; conv => whnf) | (refine AWP.block ?_; conv => whnf) | (refine AWP.cond ?_; conv => whnf) | (refine AB.tt ?_; conv => whnf) | (refine AB.ff ?_; conv => whnf) | (refine AB.ofT (by assumption) ?_; conv => whnf) | (refine AB.ofF (by assumption) ?_; conv => whnf) | (exact trivial) | (refine And.intro rfl ?_; conv => whnf) | (refine AB.mk (fun h => ?_) (fun h => ?_) <;> (conv => whnf)) | (with_reducible_and_instances rfl) | (exact (rfl : AP.tup _ = AP.tup _)))
  all_goals simp_all
theorem sStepText_1 (a b c : Int) (h : stepOk ⟨1, a, b, c, []⟩ = true) : PCall av 25 [.agg (DStep.ds ⟨1, a, b, c, []⟩)] (rL (stepTextL ⟨1, a, b, c, []⟩)) := by
  have hF := stepOk_facts h
  simp only at hF
  have hn : (!stepOk ⟨1, a, b, c, []⟩) = false := by simp [h]
  have hw : (wordsB [32] [kindL 1, Lib.itoa a]).length ≤ 1000 := by simpa [stepWords] using stepWords_len h
  refine pcall_of av_ok Tryd.func25 rfl Tryd.call25 Tryd.ntmps25 (congrArg Array.toList Tryd.results25) fun S => ?_; conv => whnf
  repeat' (first | (refine AWP.seq ?_) | (refine AWP.region av_ok ?_; conv => whnf) | (refine AWP.ret ?_; conv => whnf) | (refine AWP.skip ?_; conv => whnf) | (refine AWP.exit ?_; conv => whnf) | (refine AWP.block ?_; conv => whnf) | (refine AWP.cond ?_; conv => whnf) | (refine AB.tt ?_; conv => whnf) | (refine AB.ff ?_; conv => whnf) | (refine ACall.pure (sStepOk_p ⟨1, a, b, c, []⟩) rfl ?_; conv => whnf) | (refine AB.ofT (by assumption) ?_; conv => whnf) | (refine AB.ofF (by assumption) ?_; conv => whnf) | (exact trivial) | (refine And.intro rfl ?_; conv => whnf) | (refine AB.mk (fun h => ?_) (fun h => ?_) <;> (conv => whnf)) | (with_reducible_and_instances rfl) | (exact (rfl : AP.tup _ = AP.tup _)))
  refine' AWP.draw av_ok 3 [[], [], [1], [1, 2, 0], [0, 2, 1, 3], [3, 1, 2, 0, 4], [4, 0, 2, 1, 3, 5]] [(_, _), (_, _), (_, _)] ?hD ?hok ?hl ?hf ?hno ?ht
  case hD => kernel_rfl
  case hok => kernel_rfl
  case hl => rfl
  case hf =>
    conv => whnf
    repeat' (first | (refine ⟨rfl, rfl⟩) | exact trivial | (refine AFCall.mk ⟨_, _, sl32Kinds_p, .inl rfl, ?_⟩; conv => whnf) | (refine And.intro ?_ ?_ <;> conv => whnf))
  case hno => rfl
  case ht =>
    conv => whnf
    repeat' (first | (refine AWP.seq ?_) | (refine AWP.region av_ok ?_; conv => whnf) | (refine AWP.ret ?_; conv => whnf) | (refine AWP.skip ?_; conv => whnf) | (refine AWP.exit ?_; conv => whnf) | (refine AWP.block ?_; conv => whnf) | (refine AWP.cond ?_; conv => whnf) | (refine AB.tt ?_; conv => whnf) | (refine AB.ff ?_; conv => whnf) | (refine ACall.pure (sStepOk_p ⟨1, a, b, c, []⟩) rfl ?_; conv => whnf) | (refine ACall.pure (sl32Node_p _) rfl ?_; conv => whnf) | (refine AIx.at _ _ rfl rfl ?_; conv => whnf) | (refine ACall.pure (sNodeWord_p _) rfl ?_; conv => whnf) | (refine ACall.pure (sl1IntZ_p a (by omega) (by omega)) rfl ?_; conv => whnf) | (refine ACall.pure (sl1IntZ_p b (by omega) (by omega)) rfl ?_; conv => whnf) | (refine sz_app (by simp) ?_; conv => whnf) | (refine all_len (by simp) ?_; conv => whnf) | (refine ACall.scalar (sl1Words_p [kindL 1, Lib.itoa a] [32] (by simp) (by omega) (by simp)) rfl rfl ?_; conv => whnf) | (refine AB.ofT (by assumption) ?_; conv => whnf) | (refine AB.ofF (by assumption) ?_; conv => whnf) | (exact trivial) | (refine And.intro rfl ?_; conv => whnf) | (refine AB.mk (fun h => ?_) (fun h => ?_) <;> (conv => whnf)) | (with_reducible_and_instances rfl) | (exact (rfl : AP.tup _ = AP.tup _)))
    simp [stepTextL, h, stepWords]
theorem sStepText_2 (a b c : Int) (h : stepOk ⟨2, a, b, c, []⟩ = true) : PCall av 25 [.agg (DStep.ds ⟨2, a, b, c, []⟩)] (rL (stepTextL ⟨2, a, b, c, []⟩)) := by
  have hF := stepOk_facts h
  simp only at hF
  have hn : (!stepOk ⟨2, a, b, c, []⟩) = false := by simp [h]
  have hw : (wordsB [32] [kindL 2, nodeWordL a]).length ≤ 1000 := by simpa [stepWords] using stepWords_len h
  refine pcall_of av_ok Tryd.func25 rfl Tryd.call25 Tryd.ntmps25 (congrArg Array.toList Tryd.results25) fun S => ?_; conv => whnf
  repeat' (first | (refine AWP.seq ?_) | (refine AWP.region av_ok ?_; conv => whnf) | (refine AWP.ret ?_; conv => whnf) | (refine AWP.skip ?_; conv => whnf) | (refine AWP.exit ?_; conv => whnf) | (refine AWP.block ?_; conv => whnf) | (refine AWP.cond ?_; conv => whnf) | (refine AB.tt ?_; conv => whnf) | (refine AB.ff ?_; conv => whnf) | (refine ACall.pure (sStepOk_p ⟨2, a, b, c, []⟩) rfl ?_; conv => whnf) | (refine AB.ofT (by assumption) ?_; conv => whnf) | (refine AB.ofF (by assumption) ?_; conv => whnf) | (exact trivial) | (refine And.intro rfl ?_; conv => whnf) | (refine AB.mk (fun h => ?_) (fun h => ?_) <;> (conv => whnf)) | (with_reducible_and_instances rfl) | (exact (rfl : AP.tup _ = AP.tup _)))
  refine' AWP.draw av_ok 3 [[], [], [1], [1, 2, 0], [0, 2, 1, 3], [3, 1, 2, 0, 4], [4, 0, 2, 1, 3, 5]] [(_, _), (_, _), (_, _)] ?hD ?hok ?hl ?hf ?hno ?ht
  case hD => kernel_rfl
  case hok => kernel_rfl
  case hl => rfl
  case hf =>
    conv => whnf
    repeat' (first | (refine ⟨rfl, rfl⟩) | exact trivial | (refine AFCall.mk ⟨_, _, sl32Kinds_p, .inl rfl, ?_⟩; conv => whnf) | (refine And.intro ?_ ?_ <;> conv => whnf))
  case hno => rfl
  case ht =>
    conv => whnf
    repeat' (first | (refine AWP.seq ?_) | (refine AWP.region av_ok ?_; conv => whnf) | (refine AWP.ret ?_; conv => whnf) | (refine AWP.skip ?_; conv => whnf) | (refine AWP.exit ?_; conv => whnf) | (refine AWP.block ?_; conv => whnf) | (refine AWP.cond ?_; conv => whnf) | (refine AB.tt ?_; conv => whnf) | (refine AB.ff ?_; conv => whnf) | (refine ACall.pure (sStepOk_p ⟨2, a, b, c, []⟩) rfl ?_; conv => whnf) | (refine ACall.pure (sl32Node_p _) rfl ?_; conv => whnf) | (refine AIx.at _ _ rfl rfl ?_; conv => whnf) | (refine ACall.pure (sNodeWord_p _) rfl ?_; conv => whnf) | (refine ACall.pure (sl1IntZ_p a (by omega) (by omega)) rfl ?_; conv => whnf) | (refine ACall.pure (sl1IntZ_p b (by omega) (by omega)) rfl ?_; conv => whnf) | (refine sz_app (by simp) ?_; conv => whnf) | (refine all_len (by simp) ?_; conv => whnf) | (refine ACall.scalar (sl1Words_p [kindL 2, nodeWordL a] [32] (by simp) (by omega) (by simp)) rfl rfl ?_; conv => whnf) | (refine AB.ofT (by assumption) ?_; conv => whnf) | (refine AB.ofF (by assumption) ?_; conv => whnf) | (exact trivial) | (refine And.intro rfl ?_; conv => whnf) | (refine AB.mk (fun h => ?_) (fun h => ?_) <;> (conv => whnf)) | (with_reducible_and_instances rfl) | (exact (rfl : AP.tup _ = AP.tup _)))
    simp [stepTextL, h, stepWords]
theorem sStepText_3 (a b c : Int) (h : stepOk ⟨3, a, b, c, []⟩ = true) : PCall av 25 [.agg (DStep.ds ⟨3, a, b, c, []⟩)] (rL (stepTextL ⟨3, a, b, c, []⟩)) := by
  have hF := stepOk_facts h
  simp only at hF
  have hn : (!stepOk ⟨3, a, b, c, []⟩) = false := by simp [h]
  have hw : (wordsB [32] [kindL 3, nodeWordL a, Lib.itoa b]).length ≤ 1000 := by simpa [stepWords] using stepWords_len h
  refine pcall_of av_ok Tryd.func25 rfl Tryd.call25 Tryd.ntmps25 (congrArg Array.toList Tryd.results25) fun S => ?_; conv => whnf
  repeat' (first | (refine AWP.seq ?_) | (refine AWP.region av_ok ?_; conv => whnf) | (refine AWP.ret ?_; conv => whnf) | (refine AWP.skip ?_; conv => whnf) | (refine AWP.exit ?_; conv => whnf) | (refine AWP.block ?_; conv => whnf) | (refine AWP.cond ?_; conv => whnf) | (refine AB.tt ?_; conv => whnf) | (refine AB.ff ?_; conv => whnf) | (refine ACall.pure (sStepOk_p ⟨3, a, b, c, []⟩) rfl ?_; conv => whnf) | (refine AB.ofT (by assumption) ?_; conv => whnf) | (refine AB.ofF (by assumption) ?_; conv => whnf) | (exact trivial) | (refine And.intro rfl ?_; conv => whnf) | (refine AB.mk (fun h => ?_) (fun h => ?_) <;> (conv => whnf)) | (with_reducible_and_instances rfl) | (exact (rfl : AP.tup _ = AP.tup _)))
  refine' AWP.draw av_ok 3 [[], [], [1], [1, 2, 0], [0, 2, 1, 3], [3, 1, 2, 0, 4], [4, 0, 2, 1, 3, 5]] [(_, _), (_, _), (_, _)] ?hD ?hok ?hl ?hf ?hno ?ht
  case hD => kernel_rfl
  case hok => kernel_rfl
  case hl => rfl
  case hf =>
    conv => whnf
    repeat' (first | (refine ⟨rfl, rfl⟩) | exact trivial | (refine AFCall.mk ⟨_, _, sl32Kinds_p, .inl rfl, ?_⟩; conv => whnf) | (refine And.intro ?_ ?_ <;> conv => whnf))
  case hno => rfl
  case ht =>
    conv => whnf
    repeat' (first | (refine AWP.seq ?_) | (refine AWP.region av_ok ?_; conv => whnf) | (refine AWP.ret ?_; conv => whnf) | (refine AWP.skip ?_; conv => whnf) | (refine AWP.exit ?_; conv => whnf) | (refine AWP.block ?_; conv => whnf) | (refine AWP.cond ?_; conv => whnf) | (refine AB.tt ?_; conv => whnf) | (refine AB.ff ?_; conv => whnf) | (refine ACall.pure (sStepOk_p ⟨3, a, b, c, []⟩) rfl ?_; conv => whnf) | (refine ACall.pure (sl32Node_p _) rfl ?_; conv => whnf) | (refine AIx.at _ _ rfl rfl ?_; conv => whnf) | (refine ACall.pure (sNodeWord_p _) rfl ?_; conv => whnf) | (refine ACall.pure (sl1IntZ_p a (by omega) (by omega)) rfl ?_; conv => whnf) | (refine ACall.pure (sl1IntZ_p b (by omega) (by omega)) rfl ?_; conv => whnf) | (refine sz_app (by simp) ?_; conv => whnf) | (refine all_len (by simp) ?_; conv => whnf) | (refine ACall.scalar (sl1Words_p [kindL 3, nodeWordL a, Lib.itoa b] [32] (by simp) (by omega) (by simp)) rfl rfl ?_; conv => whnf) | (refine AB.ofT (by assumption) ?_; conv => whnf) | (refine AB.ofF (by assumption) ?_; conv => whnf) | (exact trivial) | (refine And.intro rfl ?_; conv => whnf) | (refine AB.mk (fun h => ?_) (fun h => ?_) <;> (conv => whnf)) | (with_reducible_and_instances rfl) | (exact (rfl : AP.tup _ = AP.tup _)))
    simp [stepTextL, h, stepWords]
theorem sStepText_4 (a b c : Int) (h : stepOk ⟨4, a, b, c, []⟩ = true) : PCall av 25 [.agg (DStep.ds ⟨4, a, b, c, []⟩)] (rL (stepTextL ⟨4, a, b, c, []⟩)) := by
  have hF := stepOk_facts h
  simp only at hF
  have hn : (!stepOk ⟨4, a, b, c, []⟩) = false := by simp [h]
  have hw : (wordsB [32] [kindL 4, nodeWordL a, Lib.itoa b]).length ≤ 1000 := by simpa [stepWords] using stepWords_len h
  refine pcall_of av_ok Tryd.func25 rfl Tryd.call25 Tryd.ntmps25 (congrArg Array.toList Tryd.results25) fun S => ?_; conv => whnf
  repeat' (first | (refine AWP.seq ?_) | (refine AWP.region av_ok ?_; conv => whnf) | (refine AWP.ret ?_; conv => whnf) | (refine AWP.skip ?_; conv => whnf) | (refine AWP.exit ?_; conv => whnf) | (refine AWP.block ?_; conv => whnf) | (refine AWP.cond ?_; conv => whnf) | (refine AB.tt ?_; conv => whnf) | (refine AB.ff ?_; conv => whnf) | (refine ACall.pure (sStepOk_p ⟨4, a, b, c, []⟩) rfl ?_; conv => whnf) | (refine AB.ofT (by assumption) ?_; conv => whnf) | (refine AB.ofF (by assumption) ?_; conv => whnf) | (exact trivial) | (refine And.intro rfl ?_; conv => whnf) | (refine AB.mk (fun h => ?_) (fun h => ?_) <;> (conv => whnf)) | (with_reducible_and_instances rfl) | (exact (rfl : AP.tup _ = AP.tup _)))
  refine' AWP.draw av_ok 3 [[], [], [1], [1, 2, 0], [0, 2, 1, 3], [3, 1, 2, 0, 4], [4, 0, 2, 1, 3, 5]] [(_, _), (_, _), (_, _)] ?hD ?hok ?hl ?hf ?hno ?ht
  case hD => kernel_rfl
  case hok => kernel_rfl
  case hl => rfl
  case hf =>
    conv => whnf
    repeat' (first | (refine ⟨rfl, rfl⟩) | exact trivial | (refine AFCall.mk ⟨_, _, sl32Kinds_p, .inl rfl, ?_⟩; conv => whnf) | (refine And.intro ?_ ?_ <;> conv => whnf))
  case hno => rfl
  case ht =>
    conv => whnf
    repeat' (first | (refine AWP.seq ?_) | (refine AWP.region av_ok ?_; conv => whnf) | (refine AWP.ret ?_; conv => whnf) | (refine AWP.skip ?_; conv => whnf) | (refine AWP.exit ?_; conv => whnf) | (refine AWP.block ?_; conv => whnf) | (refine AWP.cond ?_; conv => whnf) | (refine AB.tt ?_; conv => whnf) | (refine AB.ff ?_; conv => whnf) | (refine ACall.pure (sStepOk_p ⟨4, a, b, c, []⟩) rfl ?_; conv => whnf) | (refine ACall.pure (sl32Node_p _) rfl ?_; conv => whnf) | (refine AIx.at _ _ rfl rfl ?_; conv => whnf) | (refine ACall.pure (sNodeWord_p _) rfl ?_; conv => whnf) | (refine ACall.pure (sl1IntZ_p a (by omega) (by omega)) rfl ?_; conv => whnf) | (refine ACall.pure (sl1IntZ_p b (by omega) (by omega)) rfl ?_; conv => whnf) | (refine sz_app (by simp) ?_; conv => whnf) | (refine all_len (by simp) ?_; conv => whnf) | (refine ACall.scalar (sl1Words_p [kindL 4, nodeWordL a, Lib.itoa b] [32] (by simp) (by omega) (by simp)) rfl rfl ?_; conv => whnf) | (refine AB.ofT (by assumption) ?_; conv => whnf) | (refine AB.ofF (by assumption) ?_; conv => whnf) | (exact trivial) | (refine And.intro rfl ?_; conv => whnf) | (refine AB.mk (fun h => ?_) (fun h => ?_) <;> (conv => whnf)) | (with_reducible_and_instances rfl) | (exact (rfl : AP.tup _ = AP.tup _)))
    simp [stepTextL, h, stepWords]
theorem sStepText_6 (a b c : Int) (h : stepOk ⟨6, a, b, c, []⟩ = true) : PCall av 25 [.agg (DStep.ds ⟨6, a, b, c, []⟩)] (rL (stepTextL ⟨6, a, b, c, []⟩)) := by
  have hF := stepOk_facts h
  simp only at hF
  have hn : (!stepOk ⟨6, a, b, c, []⟩) = false := by simp [h]
  have hw : (wordsB [32] [kindL 6, nodeWordL a]).length ≤ 1000 := by simpa [stepWords] using stepWords_len h
  refine pcall_of av_ok Tryd.func25 rfl Tryd.call25 Tryd.ntmps25 (congrArg Array.toList Tryd.results25) fun S => ?_; conv => whnf
  repeat' (first | (refine AWP.seq ?_) | (refine AWP.region av_ok ?_; conv => whnf) | (refine AWP.ret ?_; conv => whnf) | (refine AWP.skip ?_; conv => whnf) | (refine AWP.exit ?_; conv => whnf) | (refine AWP.block ?_; conv => whnf) | (refine AWP.cond ?_; conv => whnf) | (refine AB.tt ?_; conv => whnf) | (refine AB.ff ?_; conv => whnf) | (refine ACall.pure (sStepOk_p ⟨6, a, b, c, []⟩) rfl ?_; conv => whnf) | (refine AB.ofT (by assumption) ?_; conv => whnf) | (refine AB.ofF (by assumption) ?_; conv => whnf) | (exact trivial) | (refine And.intro rfl ?_; conv => whnf) | (refine AB.mk (fun h => ?_) (fun h => ?_) <;> (conv => whnf)) | (with_reducible_and_instances rfl) | (exact (rfl : AP.tup _ = AP.tup _)))
  refine' AWP.draw av_ok 3 [[], [], [1], [1, 2, 0], [0, 2, 1, 3], [3, 1, 2, 0, 4], [4, 0, 2, 1, 3, 5]] [(_, _), (_, _), (_, _)] ?hD ?hok ?hl ?hf ?hno ?ht
  case hD => kernel_rfl
  case hok => kernel_rfl
  case hl => rfl
  case hf =>
    conv => whnf
    repeat' (first | (refine ⟨rfl, rfl⟩) | exact trivial | (refine AFCall.mk ⟨_, _, sl32Kinds_p, .inl rfl, ?_⟩; conv => whnf) | (refine And.intro ?_ ?_ <;> conv => whnf))
  case hno => rfl
  case ht =>
    conv => whnf
    repeat' (first | (refine AWP.seq ?_) | (refine AWP.region av_ok ?_; conv => whnf) | (refine AWP.ret ?_; conv => whnf) | (refine AWP.skip ?_; conv => whnf) | (refine AWP.exit ?_; conv => whnf) | (refine AWP.block ?_; conv => whnf) | (refine AWP.cond ?_; conv => whnf) | (refine AB.tt ?_; conv => whnf) | (refine AB.ff ?_; conv => whnf) | (refine ACall.pure (sStepOk_p ⟨6, a, b, c, []⟩) rfl ?_; conv => whnf) | (refine ACall.pure (sl32Node_p _) rfl ?_; conv => whnf) | (refine AIx.at _ _ rfl rfl ?_; conv => whnf) | (refine ACall.pure (sNodeWord_p _) rfl ?_; conv => whnf) | (refine ACall.pure (sl1IntZ_p a (by omega) (by omega)) rfl ?_; conv => whnf) | (refine ACall.pure (sl1IntZ_p b (by omega) (by omega)) rfl ?_; conv => whnf) | (refine sz_app (by simp) ?_; conv => whnf) | (refine all_len (by simp) ?_; conv => whnf) | (refine ACall.scalar (sl1Words_p [kindL 6, nodeWordL a] [32] (by simp) (by omega) (by simp)) rfl rfl ?_; conv => whnf) | (refine AB.ofT (by assumption) ?_; conv => whnf) | (refine AB.ofF (by assumption) ?_; conv => whnf) | (exact trivial) | (refine And.intro rfl ?_; conv => whnf) | (refine AB.mk (fun h => ?_) (fun h => ?_) <;> (conv => whnf)) | (with_reducible_and_instances rfl) | (exact (rfl : AP.tup _ = AP.tup _)))
    simp [stepTextL, h, stepWords]
theorem sStepText_7 (a b c : Int) (h : stepOk ⟨7, a, b, c, []⟩ = true) : PCall av 25 [.agg (DStep.ds ⟨7, a, b, c, []⟩)] (rL (stepTextL ⟨7, a, b, c, []⟩)) := by
  have hF := stepOk_facts h
  simp only at hF
  have hn : (!stepOk ⟨7, a, b, c, []⟩) = false := by simp [h]
  have hw : (wordsB [32] [kindL 7, Lib.itoa a]).length ≤ 1000 := by simpa [stepWords] using stepWords_len h
  refine pcall_of av_ok Tryd.func25 rfl Tryd.call25 Tryd.ntmps25 (congrArg Array.toList Tryd.results25) fun S => ?_; conv => whnf
  repeat' (first | (refine AWP.seq ?_) | (refine AWP.region av_ok ?_; conv => whnf) | (refine AWP.ret ?_; conv => whnf) | (refine AWP.skip ?_; conv => whnf) | (refine AWP.exit ?_; conv => whnf) | (refine AWP.block ?_; conv => whnf) | (refine AWP.cond ?_; conv => whnf) | (refine AB.tt ?_; conv => whnf) | (refine AB.ff ?_; conv => whnf) | (refine ACall.pure (sStepOk_p ⟨7, a, b, c, []⟩) rfl ?_; conv => whnf) | (refine AB.ofT (by assumption) ?_; conv => whnf) | (refine AB.ofF (by assumption) ?_; conv => whnf) | (exact trivial) | (refine And.intro rfl ?_; conv => whnf) | (refine AB.mk (fun h => ?_) (fun h => ?_) <;> (conv => whnf)) | (with_reducible_and_instances rfl) | (exact (rfl : AP.tup _ = AP.tup _)))
  refine' AWP.draw av_ok 3 [[], [], [1], [1, 2, 0], [0, 2, 1, 3], [3, 1, 2, 0, 4], [4, 0, 2, 1, 3, 5]] [(_, _), (_, _), (_, _)] ?hD ?hok ?hl ?hf ?hno ?ht
  case hD => kernel_rfl
  case hok => kernel_rfl
  case hl => rfl
  case hf =>
    conv => whnf
    repeat' (first | (refine ⟨rfl, rfl⟩) | exact trivial | (refine AFCall.mk ⟨_, _, sl32Kinds_p, .inl rfl, ?_⟩; conv => whnf) | (refine And.intro ?_ ?_ <;> conv => whnf))
  case hno => rfl
  case ht =>
    conv => whnf
    repeat' (first | (refine AWP.seq ?_) | (refine AWP.region av_ok ?_; conv => whnf) | (refine AWP.ret ?_; conv => whnf) | (refine AWP.skip ?_; conv => whnf) | (refine AWP.exit ?_; conv => whnf) | (refine AWP.block ?_; conv => whnf) | (refine AWP.cond ?_; conv => whnf) | (refine AB.tt ?_; conv => whnf) | (refine AB.ff ?_; conv => whnf) | (refine ACall.pure (sStepOk_p ⟨7, a, b, c, []⟩) rfl ?_; conv => whnf) | (refine ACall.pure (sl32Node_p _) rfl ?_; conv => whnf) | (refine AIx.at _ _ rfl rfl ?_; conv => whnf) | (refine ACall.pure (sNodeWord_p _) rfl ?_; conv => whnf) | (refine ACall.pure (sl1IntZ_p a (by omega) (by omega)) rfl ?_; conv => whnf) | (refine ACall.pure (sl1IntZ_p b (by omega) (by omega)) rfl ?_; conv => whnf) | (refine sz_app (by simp) ?_; conv => whnf) | (refine all_len (by simp) ?_; conv => whnf) | (refine ACall.scalar (sl1Words_p [kindL 7, Lib.itoa a] [32] (by simp) (by omega) (by simp)) rfl rfl ?_; conv => whnf) | (refine AB.ofT (by assumption) ?_; conv => whnf) | (refine AB.ofF (by assumption) ?_; conv => whnf) | (exact trivial) | (refine And.intro rfl ?_; conv => whnf) | (refine AB.mk (fun h => ?_) (fun h => ?_) <;> (conv => whnf)) | (with_reducible_and_instances rfl) | (exact (rfl : AP.tup _ = AP.tup _)))
    simp [stepTextL, h, stepWords]
theorem sStepText_8 (a b c : Int) (h : stepOk ⟨8, a, b, c, []⟩ = true) : PCall av 25 [.agg (DStep.ds ⟨8, a, b, c, []⟩)] (rL (stepTextL ⟨8, a, b, c, []⟩)) := by
  have hF := stepOk_facts h
  simp only at hF
  have hn : (!stepOk ⟨8, a, b, c, []⟩) = false := by simp [h]
  have hw : (wordsB [32] [kindL 8, Lib.itoa a]).length ≤ 1000 := by simpa [stepWords] using stepWords_len h
  refine pcall_of av_ok Tryd.func25 rfl Tryd.call25 Tryd.ntmps25 (congrArg Array.toList Tryd.results25) fun S => ?_; conv => whnf
  repeat' (first | (refine AWP.seq ?_) | (refine AWP.region av_ok ?_; conv => whnf) | (refine AWP.ret ?_; conv => whnf) | (refine AWP.skip ?_; conv => whnf) | (refine AWP.exit ?_; conv => whnf) | (refine AWP.block ?_; conv => whnf) | (refine AWP.cond ?_; conv => whnf) | (refine AB.tt ?_; conv => whnf) | (refine AB.ff ?_; conv => whnf) | (refine ACall.pure (sStepOk_p ⟨8, a, b, c, []⟩) rfl ?_; conv => whnf) | (refine AB.ofT (by assumption) ?_; conv => whnf) | (refine AB.ofF (by assumption) ?_; conv => whnf) | (exact trivial) | (refine And.intro rfl ?_; conv => whnf) | (refine AB.mk (fun h => ?_) (fun h => ?_) <;> (conv => whnf)) | (with_reducible_and_instances rfl) | (exact (rfl : AP.tup _ = AP.tup _)))
  refine' AWP.draw av_ok 3 [[], [], [1], [1, 2, 0], [0, 2, 1, 3], [3, 1, 2, 0, 4], [4, 0, 2, 1, 3, 5]] [(_, _), (_, _), (_, _)] ?hD ?hok ?hl ?hf ?hno ?ht
  case hD => kernel_rfl
  case hok => kernel_rfl
  case hl => rfl
  case hf =>
    conv => whnf
    repeat' (first | (refine ⟨rfl, rfl⟩) | exact trivial | (refine AFCall.mk ⟨_, _, sl32Kinds_p, .inl rfl, ?_⟩; conv => whnf) | (refine And.intro ?_ ?_ <;> conv => whnf))
  case hno => rfl
  case ht =>
    conv => whnf
    repeat' (first | (refine AWP.seq ?_) | (refine AWP.region av_ok ?_; conv => whnf) | (refine AWP.ret ?_; conv => whnf) | (refine AWP.skip ?_; conv => whnf) | (refine AWP.exit ?_; conv => whnf) | (refine AWP.block ?_; conv => whnf) | (refine AWP.cond ?_; conv => whnf) | (refine AB.tt ?_; conv => whnf) | (refine AB.ff ?_; conv => whnf) | (refine ACall.pure (sStepOk_p ⟨8, a, b, c, []⟩) rfl ?_; conv => whnf) | (refine ACall.pure (sl32Node_p _) rfl ?_; conv => whnf) | (refine AIx.at _ _ rfl rfl ?_; conv => whnf) | (refine ACall.pure (sNodeWord_p _) rfl ?_; conv => whnf) | (refine ACall.pure (sl1IntZ_p a (by omega) (by omega)) rfl ?_; conv => whnf) | (refine ACall.pure (sl1IntZ_p b (by omega) (by omega)) rfl ?_; conv => whnf) | (refine sz_app (by simp) ?_; conv => whnf) | (refine all_len (by simp) ?_; conv => whnf) | (refine ACall.scalar (sl1Words_p [kindL 8, Lib.itoa a] [32] (by simp) (by omega) (by simp)) rfl rfl ?_; conv => whnf) | (refine AB.ofT (by assumption) ?_; conv => whnf) | (refine AB.ofF (by assumption) ?_; conv => whnf) | (exact trivial) | (refine And.intro rfl ?_; conv => whnf) | (refine AB.mk (fun h => ?_) (fun h => ?_) <;> (conv => whnf)) | (with_reducible_and_instances rfl) | (exact (rfl : AP.tup _ = AP.tup _)))
    simp [stepTextL, h, stepWords]
theorem sStepText_9 (a b c : Int) (h : stepOk ⟨9, a, b, c, []⟩ = true) : PCall av 25 [.agg (DStep.ds ⟨9, a, b, c, []⟩)] (rL (stepTextL ⟨9, a, b, c, []⟩)) := by
  have hF := stepOk_facts h
  simp only at hF
  have hn : (!stepOk ⟨9, a, b, c, []⟩) = false := by simp [h]
  have hw : (wordsB [32] [kindL 9, nodeWordL a, nodeWordL b]).length ≤ 1000 := by simpa [stepWords] using stepWords_len h
  refine pcall_of av_ok Tryd.func25 rfl Tryd.call25 Tryd.ntmps25 (congrArg Array.toList Tryd.results25) fun S => ?_; conv => whnf
  repeat' (first | (refine AWP.seq ?_) | (refine AWP.region av_ok ?_; conv => whnf) | (refine AWP.ret ?_; conv => whnf) | (refine AWP.skip ?_; conv => whnf) | (refine AWP.exit ?_; conv => whnf) | (refine AWP.block ?_; conv => whnf) | (refine AWP.cond ?_; conv => whnf) | (refine AB.tt ?_; conv => whnf) | (refine AB.ff ?_; conv => whnf) | (refine ACall.pure (sStepOk_p ⟨9, a, b, c, []⟩) rfl ?_; conv => whnf) | (refine AB.ofT (by assumption) ?_; conv => whnf) | (refine AB.ofF (by assumption) ?_; conv => whnf) | (exact trivial) | (refine And.intro rfl ?_; conv => whnf) | (refine AB.mk (fun h => ?_) (fun h => ?_) <;> (conv => whnf)) | (with_reducible_and_instances rfl) | (exact (rfl : AP.tup _ = AP.tup _)))
  refine' AWP.draw av_ok 3 [[], [], [1], [1, 2, 0], [0, 2, 1, 3], [3, 1, 2, 0, 4], [4, 0, 2, 1, 3, 5]] [(_, _), (_, _), (_, _)] ?hD ?hok ?hl ?hf ?hno ?ht
  case hD => kernel_rfl
  case hok => kernel_rfl
  case hl => rfl
  case hf =>
    conv => whnf
    repeat' (first | (refine ⟨rfl, rfl⟩) | exact trivial | (refine AFCall.mk ⟨_, _, sl32Kinds_p, .inl rfl, ?_⟩; conv => whnf) | (refine And.intro ?_ ?_ <;> conv => whnf))
  case hno => rfl
  case ht =>
    conv => whnf
    repeat' (first | (refine AWP.seq ?_) | (refine AWP.region av_ok ?_; conv => whnf) | (refine AWP.ret ?_; conv => whnf) | (refine AWP.skip ?_; conv => whnf) | (refine AWP.exit ?_; conv => whnf) | (refine AWP.block ?_; conv => whnf) | (refine AWP.cond ?_; conv => whnf) | (refine AB.tt ?_; conv => whnf) | (refine AB.ff ?_; conv => whnf) | (refine ACall.pure (sStepOk_p ⟨9, a, b, c, []⟩) rfl ?_; conv => whnf) | (refine ACall.pure (sl32Node_p _) rfl ?_; conv => whnf) | (refine AIx.at _ _ rfl rfl ?_; conv => whnf) | (refine ACall.pure (sNodeWord_p _) rfl ?_; conv => whnf) | (refine ACall.pure (sl1IntZ_p a (by omega) (by omega)) rfl ?_; conv => whnf) | (refine ACall.pure (sl1IntZ_p b (by omega) (by omega)) rfl ?_; conv => whnf) | (refine sz_app (by simp) ?_; conv => whnf) | (refine all_len (by simp) ?_; conv => whnf) | (refine ACall.scalar (sl1Words_p [kindL 9, nodeWordL a, nodeWordL b] [32] (by simp) (by omega) (by simp)) rfl rfl ?_; conv => whnf) | (refine AB.ofT (by assumption) ?_; conv => whnf) | (refine AB.ofF (by assumption) ?_; conv => whnf) | (exact trivial) | (refine And.intro rfl ?_; conv => whnf) | (refine AB.mk (fun h => ?_) (fun h => ?_) <;> (conv => whnf)) | (with_reducible_and_instances rfl) | (exact (rfl : AP.tup _ = AP.tup _)))
    simp [stepTextL, h, stepWords]
theorem sStepText_10 (a b c : Int) (h : stepOk ⟨10, a, b, c, []⟩ = true) : PCall av 25 [.agg (DStep.ds ⟨10, a, b, c, []⟩)] (rL (stepTextL ⟨10, a, b, c, []⟩)) := by
  have hF := stepOk_facts h
  simp only at hF
  have hn : (!stepOk ⟨10, a, b, c, []⟩) = false := by simp [h]
  have hw : (wordsB [32] [kindL 10, nodeWordL a, nodeWordL b]).length ≤ 1000 := by simpa [stepWords] using stepWords_len h
  refine pcall_of av_ok Tryd.func25 rfl Tryd.call25 Tryd.ntmps25 (congrArg Array.toList Tryd.results25) fun S => ?_; conv => whnf
  repeat' (first | (refine AWP.seq ?_) | (refine AWP.region av_ok ?_; conv => whnf) | (refine AWP.ret ?_; conv => whnf) | (refine AWP.skip ?_; conv => whnf) | (refine AWP.exit ?_; conv => whnf) | (refine AWP.block ?_; conv => whnf) | (refine AWP.cond ?_; conv => whnf) | (refine AB.tt ?_; conv => whnf) | (refine AB.ff ?_; conv => whnf) | (refine ACall.pure (sStepOk_p ⟨10, a, b, c, []⟩) rfl ?_; conv => whnf) | (refine AB.ofT (by assumption) ?_; conv => whnf) | (refine AB.ofF (by assumption) ?_; conv => whnf) | (exact trivial) | (refine And.intro rfl ?_; conv => whnf) | (refine AB.mk (fun h => ?_) (fun h => ?_) <;> (conv => whnf)) | (with_reducible_and_instances rfl) | (exact (rfl : AP.tup _ = AP.tup _)))
  refine' AWP.draw av_ok 3 [[], [], [1], [1, 2, 0], [0, 2, 1, 3], [3, 1, 2, 0, 4], [4, 0, 2, 1, 3, 5]] [(_, _), (_, _), (_, _)] ?hD ?hok ?hl ?hf ?hno ?ht
  case hD => kernel_rfl
  case hok => kernel_rfl
  case hl => rfl
  case hf =>
    conv => whnf
    repeat' (first | (refine ⟨rfl, rfl⟩) | exact trivial | (refine AFCall.mk ⟨_, _, sl32Kinds_p, .inl rfl, ?_⟩; conv => whnf) | (refine And.intro ?_ ?_ <;> conv => whnf))
  case hno => rfl
  case ht =>
    conv => whnf
    repeat' (first | (refine AWP.seq ?_) | (refine AWP.region av_ok ?_; conv => whnf) | (refine AWP.ret ?_; conv => whnf) | (refine AWP.skip ?_; conv => whnf) | (refine AWP.exit ?_; conv => whnf) | (refine AWP.block ?_; conv => whnf) | (refine AWP.cond ?_; conv => whnf) | (refine AB.tt ?_; conv => whnf) | (refine AB.ff ?_; conv => whnf) | (refine ACall.pure (sStepOk_p ⟨10, a, b, c, []⟩) rfl ?_; conv => whnf) | (refine ACall.pure (sl32Node_p _) rfl ?_; conv => whnf) | (refine AIx.at _ _ rfl rfl ?_; conv => whnf) | (refine ACall.pure (sNodeWord_p _) rfl ?_; conv => whnf) | (refine ACall.pure (sl1IntZ_p a (by omega) (by omega)) rfl ?_; conv => whnf) | (refine ACall.pure (sl1IntZ_p b (by omega) (by omega)) rfl ?_; conv => whnf) | (refine sz_app (by simp) ?_; conv => whnf) | (refine all_len (by simp) ?_; conv => whnf) | (refine ACall.scalar (sl1Words_p [kindL 10, nodeWordL a, nodeWordL b] [32] (by simp) (by omega) (by simp)) rfl rfl ?_; conv => whnf) | (refine AB.ofT (by assumption) ?_; conv => whnf) | (refine AB.ofF (by assumption) ?_; conv => whnf) | (exact trivial) | (refine And.intro rfl ?_; conv => whnf) | (refine AB.mk (fun h => ?_) (fun h => ?_) <;> (conv => whnf)) | (with_reducible_and_instances rfl) | (exact (rfl : AP.tup _ = AP.tup _)))
    simp [stepTextL, h, stepWords]
theorem sStepText_11 (a b c : Int) (h : stepOk ⟨11, a, b, c, []⟩ = true) : PCall av 25 [.agg (DStep.ds ⟨11, a, b, c, []⟩)] (rL (stepTextL ⟨11, a, b, c, []⟩)) := by
  have hF := stepOk_facts h
  simp only at hF
  have hn : (!stepOk ⟨11, a, b, c, []⟩) = false := by simp [h]
  have hw : (wordsB [32] [kindL 11, Lib.itoa a, Lib.itoa b, Lib.itoa c]).length ≤ 1000 := by simpa [stepWords] using stepWords_len h
  refine pcall_of av_ok Tryd.func25 rfl Tryd.call25 Tryd.ntmps25 (congrArg Array.toList Tryd.results25) fun S => ?_; conv => whnf
  repeat' (first | (refine AWP.seq ?_) | (refine AWP.region av_ok ?_; conv => whnf) | (refine AWP.ret ?_; conv => whnf) | (refine AWP.skip ?_; conv => whnf) | (refine AWP.exit ?_; conv => whnf) | (refine AWP.block ?_; conv => whnf) | (refine AWP.cond ?_; conv => whnf) | (refine AB.tt ?_; conv => whnf) | (refine AB.ff ?_; conv => whnf) | (refine ACall.pure (sStepOk_p ⟨11, a, b, c, []⟩) rfl ?_; conv => whnf) | (refine AB.ofT (by assumption) ?_; conv => whnf) | (refine AB.ofF (by assumption) ?_; conv => whnf) | (exact trivial) | (refine And.intro rfl ?_; conv => whnf) | (refine AB.mk (fun h => ?_) (fun h => ?_) <;> (conv => whnf)) | (with_reducible_and_instances rfl) | (exact (rfl : AP.tup _ = AP.tup _)))
  refine' AWP.draw av_ok 3 [[], [], [1], [1, 2, 0], [0, 2, 1, 3], [3, 1, 2, 0, 4], [4, 0, 2, 1, 3, 5]] [(_, _), (_, _), (_, _)] ?hD ?hok ?hl ?hf ?hno ?ht
  case hD => kernel_rfl
  case hok => kernel_rfl
  case hl => rfl
  case hf =>
    conv => whnf
    repeat' (first | (refine ⟨rfl, rfl⟩) | exact trivial | (refine AFCall.mk ⟨_, _, sl32Kinds_p, .inl rfl, ?_⟩; conv => whnf) | (refine And.intro ?_ ?_ <;> conv => whnf))
  case hno => rfl
  case ht =>
    conv => whnf
    repeat' (first | (refine AWP.seq ?_) | (refine AWP.region av_ok ?_; conv => whnf) | (refine AWP.ret ?_; conv => whnf) | (refine AWP.skip ?_; conv => whnf) | (refine AWP.exit ?_; conv => whnf) | (refine AWP.block ?_; conv => whnf) | (refine AWP.cond ?_; conv => whnf) | (refine AB.tt ?_; conv => whnf) | (refine AB.ff ?_; conv => whnf) | (refine ACall.pure (sStepOk_p ⟨11, a, b, c, []⟩) rfl ?_; conv => whnf) | (refine ACall.pure (sl32Node_p _) rfl ?_; conv => whnf) | (refine AIx.at _ _ rfl rfl ?_; conv => whnf) | (refine ACall.pure (sNodeWord_p _) rfl ?_; conv => whnf) | (refine ACall.pure (sl1IntZ_p a (by omega) (by omega)) rfl ?_; conv => whnf) | (refine ACall.pure (sl1IntZ_p b (by omega) (by omega)) rfl ?_; conv => whnf) | (refine sz_app (by simp) ?_; conv => whnf) | (refine all_len (by simp) ?_; conv => whnf) | (refine ACall.scalar (sl1Words_p [kindL 11, Lib.itoa a, Lib.itoa b, Lib.itoa c] [32] (by simp) (by omega) (by simp)) rfl rfl ?_; conv => whnf) | (refine AB.ofT (by assumption) ?_; conv => whnf) | (refine AB.ofF (by assumption) ?_; conv => whnf) | (exact trivial) | (refine And.intro rfl ?_; conv => whnf) | (refine AB.mk (fun h => ?_) (fun h => ?_) <;> (conv => whnf)) | (with_reducible_and_instances rfl) | (exact (rfl : AP.tup _ = AP.tup _)))
    refine' AWP.draw av_ok 8 [[], [], [1], [1, 2], [], [4], [2, 1, 3, 4, 5], [5, 4, 6, 2, 1, 3], [3, 1, 2, 6, 4, 5, 7, 0], [0, 7, 5, 4, 6, 2, 1, 3, 8]] [(_, _), (_, _), (_, _), (_, _), (_, _), (_, _), (_, _), (_, _)] ?hD ?hok ?hl ?hf ?hno ?ht
    case hD => kernel_rfl
    case hok => kernel_rfl
    case hl => rfl
    case hf =>
      conv => whnf
      repeat' (first | (refine ⟨rfl, rfl⟩) | exact trivial | (refine AFCall.mk ⟨_, _, sl1IntZ_p b (by omega) (by omega), .inl rfl, ?_⟩; conv => whnf) | (refine AFCall.mk ⟨_, _, sl1IntZ_p c (by omega) (by omega), .inl rfl, ?_⟩; conv => whnf) | (refine And.intro ?_ ?_ <;> conv => whnf))
    case hno => rfl
    case ht =>
      conv => whnf
      repeat' (first | (refine AWP.seq ?_) | (refine AWP.region av_ok ?_; conv => whnf) | (refine AWP.ret ?_; conv => whnf) | (refine AWP.skip ?_; conv => whnf) | (refine AWP.exit ?_; conv => whnf) | (refine AWP.block ?_; conv => whnf) | (refine AWP.cond ?_; conv => whnf) | (refine AB.tt ?_; conv => whnf) | (refine AB.ff ?_; conv => whnf) | (refine ACall.pure (sStepOk_p ⟨11, a, b, c, []⟩) rfl ?_; conv => whnf) | (refine ACall.pure (sl32Node_p _) rfl ?_; conv => whnf) | (refine AIx.at _ _ rfl rfl ?_; conv => whnf) | (refine ACall.pure (sNodeWord_p _) rfl ?_; conv => whnf) | (refine ACall.pure (sl1IntZ_p a (by omega) (by omega)) rfl ?_; conv => whnf) | (refine ACall.pure (sl1IntZ_p b (by omega) (by omega)) rfl ?_; conv => whnf) | (refine sz_app (by simp) ?_; conv => whnf) | (refine all_len (by simp) ?_; conv => whnf) | (refine ACall.scalar (sl1Words_p [kindL 11, Lib.itoa a, Lib.itoa b, Lib.itoa c] [32] (by simp) (by omega) (by simp)) rfl rfl ?_; conv => whnf) | (refine AB.ofT (by assumption) ?_; conv => whnf) | (refine AB.ofF (by assumption) ?_; conv => whnf) | (exact trivial) | (refine And.intro rfl ?_; conv => whnf) | (refine AB.mk (fun h => ?_) (fun h => ?_) <;> (conv => whnf)) | (with_reducible_and_instances rfl) | (exact (rfl : AP.tup _ = AP.tup _)))
      simp [stepTextL, h, stepWords]
theorem sStepText_5 (a b c : Int) (f : List Int) (h : stepOk ⟨5, a, b, c, f⟩ = true) (hf : f ≠ []) : PCall av 25 [.agg (DStep.ds ⟨5, a, b, c, f⟩)] (rL (stepTextL ⟨5, a, b, c, f⟩)) := by
  have hF := stepOk_facts h
  simp only at hF
  have hn : (!stepOk ⟨5, a, b, c, f⟩) = false := by simp [h]
  have hw : (wordsB [32] [kindL 5, nodeWordL a, fateL f]).length ≤ 1000 := by simpa [stepWords, hf] using stepWords_len h
  have hf1 : decide (((f.map eI).length : Int) > 0) = true := by simpa using List.length_pos_iff.2 hf
  refine pcall_of av_ok Tryd.func25 rfl Tryd.call25 Tryd.ntmps25 (congrArg Array.toList Tryd.results25) fun S => ?_; conv => whnf
  repeat' (first | (refine AWP.seq ?_) | (refine AWP.region av_ok ?_; conv => whnf) | (refine AWP.ret ?_; conv => whnf) | (refine AWP.skip ?_; conv => whnf) | (refine AWP.exit ?_; conv => whnf) | (refine AWP.block ?_; conv => whnf) | (refine AWP.cond ?_; conv => whnf) | (refine AB.tt ?_; conv => whnf) | (refine AB.ff ?_; conv => whnf) | (refine ACall.pure (sStepOk_p ⟨5, a, b, c, f⟩) rfl ?_; conv => whnf) | (refine AB.ofT (by assumption) ?_; conv => whnf) | (refine AB.ofF (by assumption) ?_; conv => whnf) | (exact trivial) | (refine And.intro rfl ?_; conv => whnf) | (refine AB.mk (fun h => ?_) (fun h => ?_) <;> (conv => whnf)) | (with_reducible_and_instances rfl) | (exact (rfl : AP.tup _ = AP.tup _)))
  refine' AWP.draw av_ok 3 [[], [], [1], [1, 2, 0], [0, 2, 1, 3], [3, 1, 2, 0, 4], [4, 0, 2, 1, 3, 5]] [(_, _), (_, _), (_, _)] ?hD ?hok ?hl ?hf ?hno ?ht
  case hD => kernel_rfl
  case hok => kernel_rfl
  case hl => rfl
  case hf =>
    conv => whnf
    repeat' (first | (refine ⟨rfl, rfl⟩) | exact trivial | (refine AFCall.mk ⟨_, _, sl32Kinds_p, .inl rfl, ?_⟩; conv => whnf) | (refine And.intro ?_ ?_ <;> conv => whnf))
  case hno => rfl
  case ht =>
    conv => whnf
    repeat' (first | (refine AWP.seq ?_) | (refine AWP.region av_ok ?_; conv => whnf) | (refine AWP.ret ?_; conv => whnf) | (refine AWP.skip ?_; conv => whnf) | (refine AWP.exit ?_; conv => whnf) | (refine AWP.block ?_; conv => whnf) | (refine AWP.cond ?_; conv => whnf) | (refine AB.tt ?_; conv => whnf) | (refine AB.ff ?_; conv => whnf) | (refine ACall.pure (sStepOk_p ⟨5, a, b, c, f⟩) rfl ?_; conv => whnf) | (refine ACall.pure (sl32Node_p _) rfl ?_; conv => whnf) | (refine AIx.at _ _ rfl rfl ?_; conv => whnf) | (refine ACall.pure (sNodeWord_p _) rfl ?_; conv => whnf) | (refine ACall.pure (sl1IntZ_p a (by omega) (by omega)) rfl ?_; conv => whnf) | (refine ACall.pure (sl1IntZ_p b (by omega) (by omega)) rfl ?_; conv => whnf) | (refine sz_app (by simp) ?_; conv => whnf) | (refine all_len (by simp) ?_; conv => whnf) | (refine ACall.pure (sl32Fates_p f hF.2.2.2.2.1) rfl ?_; conv => whnf) | (refine ACall.scalar (sl1Words_p [kindL 5, nodeWordL a, fateL f] [32] (by simp) (by omega) (by simp)) rfl rfl ?_; conv => whnf) | (refine AB.ofT (by assumption) ?_; conv => whnf) | (refine AB.ofF (by assumption) ?_; conv => whnf) | (exact trivial) | (refine And.intro rfl ?_; conv => whnf) | (refine AB.mk (fun h => ?_) (fun h => ?_) <;> (conv => whnf)) | (with_reducible_and_instances rfl) | (exact (rfl : AP.tup _ = AP.tup _)))
    simp [stepTextL, h, stepWords, hf]
theorem sStepText_5n (a b c : Int) (f : List Int) (h : stepOk ⟨5, a, b, c, f⟩ = true) (hf : f = []) : PCall av 25 [.agg (DStep.ds ⟨5, a, b, c, f⟩)] (rL (stepTextL ⟨5, a, b, c, f⟩)) := by
  have hF := stepOk_facts h
  simp only at hF
  have hn : (!stepOk ⟨5, a, b, c, f⟩) = false := by simp [h]
  have hw : (wordsB [32] [kindL 5, nodeWordL a]).length ≤ 1000 := by simpa [stepWords, hf] using stepWords_len h
  have hf1 : decide (((f.map eI).length : Int) > 0) = false := by simp [hf]
  refine pcall_of av_ok Tryd.func25 rfl Tryd.call25 Tryd.ntmps25 (congrArg Array.toList Tryd.results25) fun S => ?_; conv => whnf
  repeat' (first | (refine AWP.seq ?_) | (refine AWP.region av_ok ?_; conv => whnf) | (refine AWP.ret ?_; conv => whnf) | (refine AWP.skip ?_; conv => whnf) | (refine AWP.exit ?_; conv => whnf) | (refine AWP.block ?_; conv => whnf) | (refine AWP.cond ?_; conv => whnf) | (refine AB.tt ?_; conv => whnf) | (refine AB.ff ?_; conv => whnf) | (refine ACall.pure (sStepOk_p ⟨5, a, b, c, f⟩) rfl ?_; conv => whnf) | (refine AB.ofT (by assumption) ?_; conv => whnf) | (refine AB.ofF (by assumption) ?_; conv => whnf) | (exact trivial) | (refine And.intro rfl ?_; conv => whnf) | (refine AB.mk (fun h => ?_) (fun h => ?_) <;> (conv => whnf)) | (with_reducible_and_instances rfl) | (exact (rfl : AP.tup _ = AP.tup _)))
  refine' AWP.draw av_ok 3 [[], [], [1], [1, 2, 0], [0, 2, 1, 3], [3, 1, 2, 0, 4], [4, 0, 2, 1, 3, 5]] [(_, _), (_, _), (_, _)] ?hD ?hok ?hl ?hf ?hno ?ht
  case hD => kernel_rfl
  case hok => kernel_rfl
  case hl => rfl
  case hf =>
    conv => whnf
    repeat' (first | (refine ⟨rfl, rfl⟩) | exact trivial | (refine AFCall.mk ⟨_, _, sl32Kinds_p, .inl rfl, ?_⟩; conv => whnf) | (refine And.intro ?_ ?_ <;> conv => whnf))
  case hno => rfl
  case ht =>
    conv => whnf
    repeat' (first | (refine AWP.seq ?_) | (refine AWP.region av_ok ?_; conv => whnf) | (refine AWP.ret ?_; conv => whnf) | (refine AWP.skip ?_; conv => whnf) | (refine AWP.exit ?_; conv => whnf) | (refine AWP.block ?_; conv => whnf) | (refine AWP.cond ?_; conv => whnf) | (refine AB.tt ?_; conv => whnf) | (refine AB.ff ?_; conv => whnf) | (refine ACall.pure (sStepOk_p ⟨5, a, b, c, f⟩) rfl ?_; conv => whnf) | (refine ACall.pure (sl32Node_p _) rfl ?_; conv => whnf) | (refine AIx.at _ _ rfl rfl ?_; conv => whnf) | (refine ACall.pure (sNodeWord_p _) rfl ?_; conv => whnf) | (refine ACall.pure (sl1IntZ_p a (by omega) (by omega)) rfl ?_; conv => whnf) | (refine ACall.pure (sl1IntZ_p b (by omega) (by omega)) rfl ?_; conv => whnf) | (refine sz_app (by simp) ?_; conv => whnf) | (refine all_len (by simp) ?_; conv => whnf) | (refine ACall.pure (sl32Fates_p f hF.2.2.2.2.1) rfl ?_; conv => whnf) | (refine ACall.scalar (sl1Words_p [kindL 5, nodeWordL a] [32] (by simp) (by omega) (by simp)) rfl rfl ?_; conv => whnf) | (refine AB.ofT (by assumption) ?_; conv => whnf) | (refine AB.ofF (by assumption) ?_; conv => whnf) | (exact trivial) | (refine And.intro rfl ?_; conv => whnf) | (refine AB.mk (fun h => ?_) (fun h => ?_) <;> (conv => whnf)) | (with_reducible_and_instances rfl) | (exact (rfl : AP.tup _ = AP.tup _)))
    subst hf
    simp [stepTextL, h, stepWords]
theorem sStepText_no (x : DStep) (h : stepOk x = false) : PCall av 25 [.agg x.ds] (rL (stepTextL x)) := by
  have hn : (!stepOk x) = true := by simp [h]
  refine pcall_of av_ok Tryd.func25 rfl Tryd.call25 Tryd.ntmps25 (congrArg Array.toList Tryd.results25) fun S => ?_; conv => whnf
  repeat' (first | (refine AWP.seq ?_) | (refine AWP.region av_ok ?_; conv => whnf) | (refine AWP.ret ?_; conv => whnf) | (refine AWP.skip ?_; conv => whnf) | (refine AWP.exit ?_; conv => whnf) | (refine AWP.block ?_; conv => whnf) | (refine AWP.cond ?_; conv => whnf) | (refine AB.tt ?_; conv => whnf) | (refine AB.ff ?_; conv => whnf) | (refine ACall.pure (sStepOk_p x) rfl ?_; conv => whnf) | (refine AB.ofT (by assumption) ?_; conv => whnf) | (refine AB.ofF (by assumption) ?_; conv => whnf) | (exact trivial) | (refine And.intro rfl ?_; conv => whnf) | (refine AB.mk (fun h => ?_) (fun h => ?_) <;> (conv => whnf)) | (with_reducible_and_instances rfl) | (exact (rfl : AP.tup _ = AP.tup _)))
  simp [stepTextL, h]
theorem sStepText_p (x : DStep) : PCall av 25 [.agg x.ds] (rL (stepTextL x)) := by
  cases h : stepOk x
  · exact sStepText_no x h
  · have hF := stepOk_facts h
    obtain ⟨k, a, b, c, f⟩ := x
    simp only at hF
    rcases kind_cases hF.1.1 hF.1.2 with rfl | rfl | rfl | rfl | rfl | rfl | rfl | rfl | rfl | rfl | rfl
    case inr.inr.inr.inr.inl =>
      by_cases hf : f = []
      · exact sStepText_5n a b c f h hf
      · exact sStepText_5 a b c f h hf
    all_goals
      have hf : f = [] := hF.2.2.2.2.2 (by decide)
      subst hf
    · exact sStepText_1 a b c h
    · exact sStepText_2 a b c h
    · exact sStepText_3 a b c h
    · exact sStepText_4 a b c h
    · exact sStepText_6 a b c h
    · exact sStepText_7 a b c h
    · exact sStepText_8 a b c h
    · exact sStepText_9 a b c h
    · exact sStepText_10 a b c h
    · exact sStepText_11 a b c h
theorem stepTextL_len (x : DStep) : (stepTextL x).length ≤ 1000 := by
  unfold stepTextL
  split
  · rename_i h; exact stepWords_len h
  · simp
theorem stepTextL_empty {x : DStep} : stepTextL x = [] ↔ stepOk x = false := by
  unfold stepTextL
  cases h : stepOk x
  · simp
  · have hF := stepOk_facts h
    simp only [if_true, Bool.true_eq_false, iff_false]
    have : (kindL x.kind).length ≠ 0 := by
      rcases kind_cases hF.1.1 hF.1.2 with e | e | e | e | e | e | e | e | e | e | e <;> rw [e] <;> decide
    unfold stepWords
    intro h0
    apply this
    have h1 := congrArg List.length h0
    simp only [List.cons_append, wordsB, List.length_append, List.length_nil] at h1
    omega
end Go.Proofs.YtlhanpkfnhnegaaDoor
