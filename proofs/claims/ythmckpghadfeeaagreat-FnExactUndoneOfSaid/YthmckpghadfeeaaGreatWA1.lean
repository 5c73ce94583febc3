/- Valid rows, disks, pairs of disks, messages, networks, clocks: both sides. -/
import Derived.Test.YthmckpghadfeeaaGreatWOk
set_option linter.unusedVariables false
set_option linter.unusedSimpArgs false
set_option maxRecDepth 100000
namespace Go.Proofs.YthmckpghadfeeaaGreat
open Go.ChangeShapes Go.WideShapes Go.RowKit
def dk_WA1_spec_DiskOk_11 : List (List Nat) := [[], [], [1], [], [3, 1, 2], [2, 1, 3, 4], [4, 3, 1, 2, 5], [5, 2, 1, 3, 4, 6, 0], [0, 6, 4, 3, 1, 2, 5, 7], [7, 5, 2, 1, 3, 4, 6, 0, 8], [8, 0, 6, 4, 3, 1, 2, 5, 7, 9], [9, 7, 5, 2, 1, 3, 4, 6, 0, 8, 10], [8, 0, 6, 4, 3, 1, 2, 5, 7, 9], [12, 10, 8, 0, 6, 4, 3, 1, 2, 5, 7, 9, 11], [11, 9, 7, 5, 2, 1, 3, 4, 6, 0, 8, 10, 12, 13], [13, 12, 10, 8, 0, 6, 4, 3, 1, 2, 5, 7, 9, 11, 14], [14, 11, 9, 7, 5, 2, 1, 3, 4, 6, 0, 8, 10, 12, 13, 15], [15, 13, 12, 10, 8, 0, 6, 4, 3, 1, 2, 5, 7, 9, 11, 14, 16], [16, 14, 11, 10, 12, 13, 15, 17, 8, 0, 6, 4, 3, 1, 2, 5, 7, 9]]
def fk_WA1_spec_DiskOk_11 : List (List Nat) := [[0, 2, 2, 2, 2, 2, 2, 0, 0, 0, 0, 0, 0], [2, 0, 0, 2, 0, 0, 0, 0, 0, 0, 0, 0, 0], [2, 1, 0, 2, 0, 0, 0, 0, 0, 0, 0, 0, 0], [2, 2, 2, 0, 0, 0, 0, 0, 0, 0, 0, 0, 0], [2, 1, 1, 1, 0, 0, 0, 0, 0, 0, 0, 0, 0], [2, 1, 1, 1, 1, 0, 0, 0, 0, 0, 0, 0, 0], [2, 1, 1, 1, 1, 1, 0, 0, 0, 0, 0, 0, 0], [1, 1, 1, 1, 1, 1, 1, 0, 0, 0, 0, 0, 0], [1, 1, 1, 1, 1, 1, 1, 1, 0, 0, 0, 0, 0], [1, 1, 1, 1, 1, 1, 1, 1, 1, 0, 0, 0, 0], [1, 1, 1, 1, 1, 1, 1, 1, 1, 1, 0, 0, 2], [1, 1, 1, 1, 1, 1, 1, 1, 1, 1, 1, 0, 2], [1, 1, 1, 1, 1, 1, 1, 1, 1, 1, 2, 2, 0]]

theorem rB_of {a b : Bool} (h : a = b) : AP.val (.one (dB a)) = rB b := by rw [h]
theorem step_all {α : Type} {l : List α} {p : α → Bool} {k : Nat} (hall : ∀ (j : Nat) (hj : j < k) (hl : j < l.length), p l[j] = true) (hlt : k < l.length) (h : p l[k] = true) : ∀ (j : Nat) (hj : j < k + 1) (hl : j < l.length), p l[j] = true := by
  intro j hj hl
  by_cases hjk : j = k
  · subst hjk; exact h
  · exact hall j (by omega) hl
theorem end_all {α : Type} {l : List α} {p : α → Bool} {k : Nat} (hall : ∀ (j : Nat) (hj : j < k) (hl : j < l.length), p l[j] = true) (hk : k = l.length) : l.all p = true := all_yes fun j hj => hall j (by omega) hj

theorem rowOk_len {l : List Int} (h : ¬ l.length ≤ 48) : rowOk l = false := by simp [rowOk, h]
theorem rowOk_no {l : List Int} {k : Nat} (hk : k < l.length) (h : betweenB l[k] 0 1000000000 = false) : rowOk l = false := by
  have := all_no (p := fun x => betweenB x 0 1000000000) hk h
  simp only [rowOk, this, Bool.and_false]
theorem iRowOk_p (l : List Int) : PCall av 182 [.one (dIs l)] (rB (rowOk l)) := by
  refine pcall_of av_ok Tryz.func182 rfl Tryz.call182 Tryz.ntmps182 (congrArg Array.toList Tryz.results182) fun S => ?_; conv => whnf
  repeat' (first | (refine AWP.seq ?_) | ((first | refine AWP.region av_ok ?_ | refine AWP.ret ?_ | refine AWP.skip ?_ | refine AWP.exit ?_ | refine AWP.block ?_ | refine AWP.cond ?_ | refine AB.tt ?_ | refine AB.ff ?_); conv => whnf) | ((first | refine AB.ofT (by assumption) ?_ | refine AB.ofF (by assumption) ?_); conv => whnf) | (exact trivial) | (refine And.intro rfl ?_; conv => whnf) | (refine AB.mk (fun h => ?_) (fun h => ?_) <;> (conv => whnf)) | (with_reducible_and_instances rfl) | (exact (rfl : AP.tup _ = AP.tup _)))
  · rw [rowOk_len (by simp only [decide_eq_true_eq, decide_eq_false_iff_not, List.length_map, Bool.not_eq_true', Bool.not_eq_false'] at *; omega)]
  · have h48 : l.length ≤ 48 := (by simp only [decide_eq_true_eq, decide_eq_false_iff_not, List.length_map, Bool.not_eq_true', Bool.not_eq_false'] at *; omega)
    clear h
    refine AWP.loopS (fun k : Nat => k ≤ l.length ∧ ∀ (j : Nat) (hj : j < k) (hl : j < l.length), betweenB l[j] 0 1000000000 = true) [2, 4, 10, 11, 12, 13, 14, 15, 16, 17] (fun k => [(10, vI .i64 (k : Int))]) (fun _ => []) (fun k => l.length - k) 0 ⟨by omega, by omega⟩ ?_ SubO.nil (fun k hR => ?_) <;> (conv => whnf)
    · repeat' (first | exact trivial | (refine ⟨rfl, ?_⟩; conv => whnf))
    · obtain ⟨hk, hall⟩ := hR
      repeat' (first | (refine AWP.seq ?_) | ((first | refine AWP.region av_ok ?_ | refine AWP.ret ?_ | refine AWP.skip ?_ | refine AWP.exit ?_ | refine AWP.block ?_ | refine AWP.cond ?_ | refine AB.tt ?_ | refine AB.ff ?_); conv => whnf) | ((first | refine AB.ofT (by assumption) ?_ | refine AB.ofF (by assumption) ?_); conv => whnf) | (refine AIx.mapF (by simp only [decide_eq_true_eq, decide_eq_false_iff_not, List.length_map, Bool.not_eq_true', Bool.not_eq_false'] at *; omega) (fun hlt => ?_); conv => whnf) | (refine AW.i64 (by simp only [decide_eq_true_eq, decide_eq_false_iff_not, List.length_map, Bool.not_eq_true', Bool.not_eq_false'] at *; omega) (by simp only [decide_eq_true_eq, decide_eq_false_iff_not, List.length_map, Bool.not_eq_true', Bool.not_eq_false'] at *; omega) ?_; conv => whnf) | (refine ACall.pure (ibetween_p _ _ _) rfl ?_; conv => whnf) | (refine AFCall.mk ⟨_, _, ibetween_p _ _ _, .inl rfl, ?_⟩; conv => whnf) | (exact trivial) | (refine And.intro rfl ?_; conv => whnf) | (refine AB.mk (fun h => ?_) (fun h => ?_) <;> (conv => whnf)) | (with_reducible_and_instances rfl) | (exact (rfl : AP.tup _ = AP.tup _)))
      · rw [rowOk_no hlt (by simpa using h)]
      · refine ANext.mk ⟨k + 1, ⟨hlt, step_all (p := fun x => betweenB x 0 1000000000) hall hlt (by simpa using h)⟩, by omega, ?_, SubO.nil⟩
        (conv => whnf); repeat' (first | exact trivial | (refine ⟨rfl, ?_⟩; conv => whnf))
      · refine rB_of ?_
        simp only [rowOk, end_all (p := fun x => betweenB x 0 1000000000) hall (by simp only [decide_eq_true_eq, decide_eq_false_iff_not, List.length_map, Bool.not_eq_true', Bool.not_eq_false'] at *; omega), h48, decide_true, Bool.and_self]
theorem sRowOk_p (l : List Int) : PCall av 176 [.one (dIs l)] (rB (rowOk l)) := by
  refine pcall_of av_ok Tryz.func176 rfl Tryz.call176 Tryz.ntmps176 (congrArg Array.toList Tryz.results176) fun S => ?_; conv => whnf
  repeat' (first | (refine AWP.seq ?_) | ((first | refine AWP.region av_ok ?_ | refine AWP.ret ?_ | refine AWP.skip ?_ | refine AWP.exit ?_ | refine AWP.block ?_ | refine AWP.cond ?_ | refine AB.tt ?_ | refine AB.ff ?_); conv => whnf) | ((first | refine AB.ofT (by assumption) ?_ | refine AB.ofF (by assumption) ?_); conv => whnf) | (exact trivial) | (refine And.intro rfl ?_; conv => whnf) | (refine AB.mk (fun h => ?_) (fun h => ?_) <;> (conv => whnf)) | (with_reducible_and_instances rfl) | (exact (rfl : AP.tup _ = AP.tup _)))
  · rw [rowOk_len (by simp only [decide_eq_true_eq, decide_eq_false_iff_not, List.length_map, Bool.not_eq_true', Bool.not_eq_false'] at *; omega)]
  · have h48 : l.length ≤ 48 := (by simp only [decide_eq_true_eq, decide_eq_false_iff_not, List.length_map, Bool.not_eq_true', Bool.not_eq_false'] at *; omega)
    clear h
    refine AWP.loopS (fun k : Nat => k ≤ l.length ∧ ∀ (j : Nat) (hj : j < k) (hl : j < l.length), betweenB l[j] 0 1000000000 = true) [2, 3, 7, 8, 9, 10, 11, 12, 13, 14, 15, 16, 17, 18] (fun k => [(3, vI .i64 (k : Int))]) (fun _ => []) (fun k => l.length - k) 0 ⟨by omega, by omega⟩ ?_ SubO.nil (fun k hR => ?_) <;> (conv => whnf)
    · repeat' (first | exact trivial | (refine ⟨rfl, ?_⟩; conv => whnf))
    · obtain ⟨hk, hall⟩ := hR
      repeat' (first | (refine AWP.seq ?_) | ((first | refine AWP.region av_ok ?_ | refine AWP.ret ?_ | refine AWP.skip ?_ | refine AWP.exit ?_ | refine AWP.block ?_ | refine AWP.cond ?_ | refine AB.tt ?_ | refine AB.ff ?_); conv => whnf) | ((first | refine AB.ofT (by assumption) ?_ | refine AB.ofF (by assumption) ?_); conv => whnf) | (refine AIx.mapF (by simp only [decide_eq_true_eq, decide_eq_false_iff_not, List.length_map, Bool.not_eq_true', Bool.not_eq_false'] at *; omega) (fun hlt => ?_); conv => whnf) | (refine AW.i64 (by simp only [decide_eq_true_eq, decide_eq_false_iff_not, List.length_map, Bool.not_eq_true', Bool.not_eq_false'] at *; omega) (by simp only [decide_eq_true_eq, decide_eq_false_iff_not, List.length_map, Bool.not_eq_true', Bool.not_eq_false'] at *; omega) ?_; conv => whnf) | (refine ACall.pure (sl1In_p _ _ _) rfl ?_; conv => whnf) | (refine AFCall.mk ⟨_, _, sl1In_p _ _ _, .inl rfl, ?_⟩; conv => whnf) | (exact trivial) | (refine And.intro rfl ?_; conv => whnf) | (refine AB.mk (fun h => ?_) (fun h => ?_) <;> (conv => whnf)) | (with_reducible_and_instances rfl) | (exact (rfl : AP.tup _ = AP.tup _)))
      · rw [rowOk_no hlt (by simpa using h)]
      · refine ANext.mk ⟨k + 1, ⟨hlt, step_all (p := fun x => betweenB x 0 1000000000) hall hlt (by simpa using h)⟩, by omega, ?_, SubO.nil⟩
        (conv => whnf); repeat' (first | exact trivial | (refine ⟨rfl, ?_⟩; conv => whnf))
      · refine rB_of ?_
        simp only [rowOk, end_all (p := fun x => betweenB x 0 1000000000) hall (by simp only [decide_eq_true_eq, decide_eq_false_iff_not, List.length_map, Bool.not_eq_true', Bool.not_eq_false'] at *; omega), h48, decide_true, Bool.and_self]
theorem isectorOk_p (d : DDisk) (at_ : Int) (hs : d.kept.length ≤ 40) : PCall av 202 [.agg d.ds, pI at_] (rB (betweenB at_ 0 ((d.kept.length : Int) - 1))) := by
  have e : ((d.kept.map eIIw).length : Int) = d.kept.length := by simp
  refine pcall_of av_ok Tryz.func202 rfl Tryz.call202 Tryz.ntmps202 (congrArg Array.toList Tryz.results202) fun S => ?_; conv => whnf
  repeat' (first | (refine AWP.seq ?_) | ((first | refine AWP.region av_ok ?_ | refine AWP.ret ?_ | refine AWP.skip ?_ | refine AWP.exit ?_ | refine AWP.block ?_ | refine AWP.cond ?_ | refine AB.tt ?_ | refine AB.ff ?_); conv => whnf) | ((first | refine AB.ofT (by assumption) ?_ | refine AB.ofF (by assumption) ?_); conv => whnf) | (refine AW.i64 (n := _ - _) (by simp only [decide_eq_true_eq, decide_eq_false_iff_not, List.length_map, Bool.not_eq_true', Bool.not_eq_false'] at *; omega) (by simp only [decide_eq_true_eq, decide_eq_false_iff_not, List.length_map, Bool.not_eq_true', Bool.not_eq_false'] at *; omega) ?_; conv => whnf) | (refine ACall.pure (ibetween_p _ _ _) rfl ?_; conv => whnf) | (refine AFCall.mk ⟨_, _, ibetween_p _ _ _, .inl rfl, ?_⟩; conv => whnf) | (exact trivial) | (refine And.intro rfl ?_; conv => whnf) | (refine AB.mk (fun h => ?_) (fun h => ?_) <;> (conv => whnf)) | (with_reducible_and_instances rfl) | (exact (rfl : AP.tup _ = AP.tup _)))
  rw [e]
theorem sl3Has_p (d : DDisk) (at_ : Int) (hs : d.kept.length ≤ 40) : PCall av 222 [.agg d.ds, pI at_] (rB (betweenB at_ 0 ((d.kept.length : Int) - 1))) := by
  have e : ((d.kept.map eIIw).length : Int) = d.kept.length := by simp
  refine pcall_of av_ok Tryz.func222 rfl Tryz.call222 Tryz.ntmps222 (congrArg Array.toList Tryz.results222) fun S => ?_; conv => whnf
  repeat' (first | (refine AWP.seq ?_) | ((first | refine AWP.region av_ok ?_ | refine AWP.ret ?_ | refine AWP.skip ?_ | refine AWP.exit ?_ | refine AWP.block ?_ | refine AWP.cond ?_ | refine AB.tt ?_ | refine AB.ff ?_); conv => whnf) | ((first | refine AB.ofT (by assumption) ?_ | refine AB.ofF (by assumption) ?_); conv => whnf) | (refine AW.i64 (n := _ - _) (by simp only [decide_eq_true_eq, decide_eq_false_iff_not, List.length_map, Bool.not_eq_true', Bool.not_eq_false'] at *; omega) (by simp only [decide_eq_true_eq, decide_eq_false_iff_not, List.length_map, Bool.not_eq_true', Bool.not_eq_false'] at *; omega) ?_; conv => whnf) | (refine ACall.pure (sl1In_p _ _ _) rfl ?_; conv => whnf) | (refine AFCall.mk ⟨_, _, sl1In_p _ _ _, .inl rfl, ?_⟩; conv => whnf) | (exact trivial) | (refine And.intro rfl ?_; conv => whnf) | (refine AB.mk (fun h => ?_) (fun h => ?_) <;> (conv => whnf)) | (with_reducible_and_instances rfl) | (exact (rfl : AP.tup _ = AP.tup _)))
  rw [e]
theorem diskOk_len {d : DDisk} (h : ¬ (1 ≤ d.kept.length ∧ d.kept.length ≤ 40 ∧ d.wait.length ≤ 60)) : diskOk d = false := by
  have : (decide (1 ≤ d.kept.length) && decide (d.kept.length ≤ 40) && decide (d.wait.length ≤ 60)) = false := by
    simp only [Bool.and_eq_false_iff, decide_eq_false_iff_not]
    omega
  simp only [diskOk, this, Bool.false_and]
theorem diskOk_row {d : DDisk} {k : Nat} (hk : k < d.kept.length) (h : rowOk d.kept[k] = false) : diskOk d = false := by
  have := all_no (p := rowOk) hk h
  simp only [diskOk, this, Bool.and_false, Bool.false_and]
theorem diskOk_wait {d : DDisk} {k : Nat} (hk : k < d.wait.length) (h : writeOk d.kept.length d.wait[k] = false) : diskOk d = false := by
  have := all_no (p := writeOk d.kept.length) hk h
  simp only [diskOk, this, Bool.and_false]
theorem iDiskOk_p (d : DDisk) : PCall av 135 [.agg d.ds] (rB (diskOk d)) := by
  refine pcall_of av_ok Tryz.func135 rfl Tryz.call135 Tryz.ntmps135 (congrArg Array.toList Tryz.results135) fun S => ?_; conv => whnf
  repeat' (first | (refine AWP.seq ?_) | ((first | refine AWP.region av_ok ?_ | refine AWP.ret ?_ | refine AWP.skip ?_ | refine AWP.exit ?_ | refine AWP.block ?_ | refine AWP.cond ?_ | refine AB.tt ?_ | refine AB.ff ?_); conv => whnf) | ((first | refine AB.ofT (by assumption) ?_ | refine AB.ofF (by assumption) ?_); conv => whnf) | (exact trivial) | (refine And.intro rfl ?_; conv => whnf) | (refine AB.mk (fun h => ?_) (fun h => ?_) <;> (conv => whnf)) | (with_reducible_and_instances rfl) | (exact (rfl : AP.tup _ = AP.tup _)))
  · rw [diskOk_len (by simp only [decide_eq_true_eq, decide_eq_false_iff_not, List.length_map, Bool.not_eq_true', Bool.not_eq_false'] at *; omega)]
  · rw [diskOk_len (by simp only [decide_eq_true_eq, decide_eq_false_iff_not, List.length_map, Bool.not_eq_true', Bool.not_eq_false'] at *; omega)]
  · rw [diskOk_len (by simp only [decide_eq_true_eq, decide_eq_false_iff_not, List.length_map, Bool.not_eq_true', Bool.not_eq_false'] at *; omega)]
  · have h1 : 1 ≤ d.kept.length := (by simp only [decide_eq_true_eq, decide_eq_false_iff_not, List.length_map, Bool.not_eq_true', Bool.not_eq_false'] at *; omega)
    have h2 : d.kept.length ≤ 40 := (by simp only [decide_eq_true_eq, decide_eq_false_iff_not, List.length_map, Bool.not_eq_true', Bool.not_eq_false'] at *; omega)
    have h3 : d.wait.length ≤ 60 := (by simp only [decide_eq_true_eq, decide_eq_false_iff_not, List.length_map, Bool.not_eq_true', Bool.not_eq_false'] at *; omega)
    clear h
    refine AWP.loopS (fun k : Nat => k ≤ d.kept.length ∧ ∀ (j : Nat) (hj : j < k) (hl : j < d.kept.length), rowOk d.kept[j] = true) [2, 4, 26, 27, 28, 29, 30, 31, 32, 33] (fun k => [(26, vI .i64 (k : Int))]) (fun _ => [(1, .cells 70 (d.ds.map .d))]) (fun k => d.kept.length - k) 0 ⟨by omega, by omega⟩ ?_ (SubO.cons rfl SubO.nil) (fun k hR => ?_) <;> (conv => whnf)
    · repeat' (first | exact trivial | (refine ⟨rfl, ?_⟩; conv => whnf))
    · obtain ⟨hk, hall⟩ := hR
      repeat' (first | (refine AWP.seq ?_) | ((first | refine AWP.region av_ok ?_ | refine AWP.ret ?_ | refine AWP.skip ?_ | refine AWP.exit ?_ | refine AWP.block ?_ | refine AWP.cond ?_ | refine AB.tt ?_ | refine AB.ff ?_); conv => whnf) | ((first | refine AB.ofT (by assumption) ?_ | refine AB.ofF (by assumption) ?_); conv => whnf) | (refine AIx.mapF (by simp only [decide_eq_true_eq, decide_eq_false_iff_not, List.length_map, Bool.not_eq_true', Bool.not_eq_false'] at *; omega) (fun hlt => ?_); conv => whnf) | (refine AW.i64 (by simp only [decide_eq_true_eq, decide_eq_false_iff_not, List.length_map, Bool.not_eq_true', Bool.not_eq_false'] at *; omega) (by simp only [decide_eq_true_eq, decide_eq_false_iff_not, List.length_map, Bool.not_eq_true', Bool.not_eq_false'] at *; omega) ?_; conv => whnf) | (refine ACall.pure (iRowOk_p _) rfl ?_; conv => whnf) | (refine AFCall.mk ⟨_, _, iRowOk_p _, .inl rfl, ?_⟩; conv => whnf) | (exact trivial) | (refine And.intro rfl ?_; conv => whnf) | (refine AB.mk (fun h => ?_) (fun h => ?_) <;> (conv => whnf)) | (with_reducible_and_instances rfl) | (exact (rfl : AP.tup _ = AP.tup _)))
      · rw [diskOk_row hlt (by simpa using h)]
      · refine ANext.mk ⟨k + 1, ⟨hlt, step_all (p := rowOk) hall hlt (by simpa using h)⟩, by omega, ?_, SubO.cons rfl SubO.nil⟩
        (conv => whnf); repeat' (first | exact trivial | (refine ⟨rfl, ?_⟩; conv => whnf))
      · have hrows := end_all (p := rowOk) hall (by simp only [decide_eq_true_eq, decide_eq_false_iff_not, List.length_map, Bool.not_eq_true', Bool.not_eq_false'] at *; omega)
        clear hall hk h
        refine AWP.loopS (fun k : Nat => k ≤ d.wait.length ∧ ∀ (j : Nat) (hj : j < k) (hl : j < d.wait.length), writeOk d.kept.length d.wait[j] = true) [2, 6, 37, 38, 39, 40, 41, 42, 43, 44, 45, 46, 47, 48, 49, 50, 51, 52] (fun k => [(37, vI .i64 (k : Int))]) (fun _ => [(1, .cells 70 (d.ds.map .d))]) (fun k => d.wait.length - k) 0 ⟨by omega, by omega⟩ ?_ (SubO.cons rfl SubO.nil) (fun k hR => ?_) <;> (conv => whnf)
        · repeat' (first | exact trivial | (refine ⟨rfl, ?_⟩; conv => whnf))
        · obtain ⟨hk, hall⟩ := hR
          repeat' (first | (refine AWP.seq ?_) | ((first | refine AWP.region av_ok ?_ | refine AWP.ret ?_ | refine AWP.skip ?_ | refine AWP.exit ?_ | refine AWP.block ?_ | refine AWP.cond ?_ | refine AB.tt ?_ | refine AB.ff ?_); conv => whnf) | ((first | refine AB.ofT (by assumption) ?_ | refine AB.ofF (by assumption) ?_); conv => whnf) | (refine AIx.mapF (by simp only [decide_eq_true_eq, decide_eq_false_iff_not, List.length_map, Bool.not_eq_true', Bool.not_eq_false'] at *; omega) (fun hlt => ?_); conv => whnf) | (refine AW.i64 (by simp only [decide_eq_true_eq, decide_eq_false_iff_not, List.length_map, Bool.not_eq_true', Bool.not_eq_false'] at *; omega) (by simp only [decide_eq_true_eq, decide_eq_false_iff_not, List.length_map, Bool.not_eq_true', Bool.not_eq_false'] at *; omega) ?_; conv => whnf) | (refine ACall.pure (isectorOk_p d _ h2) rfl ?_; conv => whnf) | (refine AFCall.mk ⟨_, _, isectorOk_p d _ h2, .inl rfl, ?_⟩; conv => whnf) | (refine ACall.pure (iRowOk_p _) rfl ?_; conv => whnf) | (refine AFCall.mk ⟨_, _, iRowOk_p _, .inl rfl, ?_⟩; conv => whnf) | (exact trivial) | (refine And.intro rfl ?_; conv => whnf) | (refine AB.mk (fun h => ?_) (fun h => ?_) <;> (conv => whnf)) | (with_reducible_and_instances rfl) | (exact (rfl : AP.tup _ = AP.tup _)))
          all_goals first
            | (rw [diskOk_wait hlt (by simp_all [writeOk])]; done)
            | (refine ANext.mk ⟨k + 1, ⟨hlt, step_all (p := writeOk d.kept.length) hall hlt (by simp_all [writeOk])⟩, by omega, ?_, SubO.cons rfl SubO.nil⟩
               (conv => whnf); repeat' (first | exact trivial | (refine ⟨rfl, ?_⟩; conv => whnf)))
            | (refine rB_of ?_
               simp only [diskOk, hrows, end_all (p := writeOk d.kept.length) hall (by simp only [decide_eq_true_eq, decide_eq_false_iff_not, List.length_map, Bool.not_eq_true', Bool.not_eq_false'] at *; omega), h1, h2, h3, decide_true, Bool.and_self])
theorem sDiskOk_p (d : DDisk) : PCall av 167 [.agg d.ds] (rB (diskOk d)) := by
  refine pcall_of av_ok Tryz.func167 rfl Tryz.call167 Tryz.ntmps167 (congrArg Array.toList Tryz.results167) fun S => ?_; conv => whnf
  repeat' (first | (refine AWP.seq ?_) | ((first | refine AWP.region av_ok ?_ | refine AWP.ret ?_ | refine AWP.skip ?_ | refine AWP.exit ?_ | refine AWP.block ?_ | refine AWP.cond ?_ | refine AB.tt ?_ | refine AB.ff ?_); conv => whnf) | ((first | refine AB.ofT (by assumption) ?_ | refine AB.ofF (by assumption) ?_); conv => whnf) | (exact trivial) | (refine And.intro rfl ?_; conv => whnf) | (refine AB.mk (fun h => ?_) (fun h => ?_) <;> (conv => whnf)) | (with_reducible_and_instances rfl) | (exact (rfl : AP.tup _ = AP.tup _)))
  · rw [diskOk_len (by simp only [decide_eq_true_eq, decide_eq_false_iff_not, List.length_map, Bool.not_eq_true', Bool.not_eq_false'] at *; omega)]
  · rw [diskOk_len (by simp only [decide_eq_true_eq, decide_eq_false_iff_not, List.length_map, Bool.not_eq_true', Bool.not_eq_false'] at *; omega)]
  · rw [diskOk_len (by simp only [decide_eq_true_eq, decide_eq_false_iff_not, List.length_map, Bool.not_eq_true', Bool.not_eq_false'] at *; omega)]
  · have h1 : 1 ≤ d.kept.length := (by simp only [decide_eq_true_eq, decide_eq_false_iff_not, List.length_map, Bool.not_eq_true', Bool.not_eq_false'] at *; omega)
    have h2 : d.kept.length ≤ 40 := (by simp only [decide_eq_true_eq, decide_eq_false_iff_not, List.length_map, Bool.not_eq_true', Bool.not_eq_false'] at *; omega)
    have h3 : d.wait.length ≤ 60 := (by simp only [decide_eq_true_eq, decide_eq_false_iff_not, List.length_map, Bool.not_eq_true', Bool.not_eq_false'] at *; omega)
    clear h
    refine AWP.loopS (fun k : Nat => k ≤ d.kept.length ∧ ∀ (j : Nat) (hj : j < k) (hl : j < d.kept.length), rowOk d.kept[j] = true) [2, 3, 21, 22, 23, 24, 25, 26, 27, 28, 29, 30, 31, 32, 33, 34] (fun k => [(3, vI .i64 (k : Int))]) (fun _ => [(1, .cells 70 (d.ds.map .d))]) (fun k => d.kept.length - k) 0 ⟨by omega, by omega⟩ ?_ (SubO.cons rfl SubO.nil) (fun k hR => ?_) <;> (conv => whnf)
    · repeat' (first | exact trivial | (refine ⟨rfl, ?_⟩; conv => whnf))
    · obtain ⟨hk, hall⟩ := hR
      repeat' (first | (refine AWP.seq ?_) | ((first | refine AWP.region av_ok ?_ | refine AWP.ret ?_ | refine AWP.skip ?_ | refine AWP.exit ?_ | refine AWP.block ?_ | refine AWP.cond ?_ | refine AB.tt ?_ | refine AB.ff ?_); conv => whnf) | ((first | refine AB.ofT (by assumption) ?_ | refine AB.ofF (by assumption) ?_); conv => whnf) | (refine AIx.mapF (by simp only [decide_eq_true_eq, decide_eq_false_iff_not, List.length_map, Bool.not_eq_true', Bool.not_eq_false'] at *; omega) (fun hlt => ?_); conv => whnf) | (refine AW.i64 (by simp only [decide_eq_true_eq, decide_eq_false_iff_not, List.length_map, Bool.not_eq_true', Bool.not_eq_false'] at *; omega) (by simp only [decide_eq_true_eq, decide_eq_false_iff_not, List.length_map, Bool.not_eq_true', Bool.not_eq_false'] at *; omega) ?_; conv => whnf) | (refine ACall.pure (sRowOk_p _) rfl ?_; conv => whnf) | (refine AFCall.mk ⟨_, _, sRowOk_p _, .inl rfl, ?_⟩; conv => whnf) | (exact trivial) | (refine And.intro rfl ?_; conv => whnf) | (refine AB.mk (fun h => ?_) (fun h => ?_) <;> (conv => whnf)) | (with_reducible_and_instances rfl) | (exact (rfl : AP.tup _ = AP.tup _)))
      · rw [diskOk_row hlt (by simpa using h)]
      · refine ANext.mk ⟨k + 1, ⟨hlt, step_all (p := rowOk) hall hlt (by simpa using h)⟩, by omega, ?_, SubO.cons rfl SubO.nil⟩
        (conv => whnf); repeat' (first | exact trivial | (refine ⟨rfl, ?_⟩; conv => whnf))
      · have hrows := end_all (p := rowOk) hall (by simp only [decide_eq_true_eq, decide_eq_false_iff_not, List.length_map, Bool.not_eq_true', Bool.not_eq_false'] at *; omega)
        clear hall hk h
        refine AWP.loopS (fun k : Nat => k ≤ d.wait.length ∧ ∀ (j : Nat) (hj : j < k) (hl : j < d.wait.length), writeOk d.kept.length d.wait[j] = true) [2, 4, 35, 36, 37, 38, 39, 40, 41, 42, 43, 44, 45, 46, 47, 48, 49, 50, 51, 52, 53, 54, 55, 56, 57, 58, 59, 60] (fun k => [(4, vI .i64 (k : Int))]) (fun _ => [(1, .cells 70 (d.ds.map .d))]) (fun k => d.wait.length - k) 0 ⟨by omega, by omega⟩ ?_ (SubO.cons rfl SubO.nil) (fun k hR => ?_) <;> (conv => whnf)
        · repeat' (first | exact trivial | (refine ⟨rfl, ?_⟩; conv => whnf))
        · obtain ⟨hk, hall⟩ := hR
          repeat' (first | (refine AWP.seq ?_) | ((first | refine AWP.region av_ok ?_ | refine AWP.ret ?_ | refine AWP.skip ?_ | refine AWP.exit ?_ | refine AWP.block ?_ | refine AWP.cond ?_ | refine AB.tt ?_ | refine AB.ff ?_); conv => whnf) | ((first | refine AB.ofT (by assumption) ?_ | refine AB.ofF (by assumption) ?_); conv => whnf) | (refine AWP.drawK av_ok 11 13 dk_WA1_spec_DiskOk_11 fk_WA1_spec_DiskOk_11 (by kernel_rfl) (by kernel_rfl) (by kernel_rfl) rfl ?_; conv => whnf) | (refine AIx.mapF (by simp only [decide_eq_true_eq, decide_eq_false_iff_not, List.length_map, Bool.not_eq_true', Bool.not_eq_false'] at *; omega) (fun hlt => ?_); conv => whnf) | (refine AW.i64 (by simp only [decide_eq_true_eq, decide_eq_false_iff_not, List.length_map, Bool.not_eq_true', Bool.not_eq_false'] at *; omega) (by simp only [decide_eq_true_eq, decide_eq_false_iff_not, List.length_map, Bool.not_eq_true', Bool.not_eq_false'] at *; omega) ?_; conv => whnf) | (refine ACall.pure (sl3Has_p d _ h2) rfl ?_; conv => whnf) | (refine AFCall.mk ⟨_, _, sl3Has_p d _ h2, .inl rfl, ?_⟩; conv => whnf) | (refine ACall.pure (sRowOk_p _) rfl ?_; conv => whnf) | (refine AFCall.mk ⟨_, _, sRowOk_p _, .inl rfl, ?_⟩; conv => whnf) | (exact trivial) | (refine And.intro rfl ?_; conv => whnf) | (refine AB.mk (fun h => ?_) (fun h => ?_) <;> (conv => whnf)) | (with_reducible_and_instances rfl) | (exact (rfl : AP.tup _ = AP.tup _)))
          all_goals first
            | (rw [diskOk_wait hlt (by simp_all [writeOk])]; done)
            | (refine ANext.mk ⟨k + 1, ⟨hlt, step_all (p := writeOk d.kept.length) hall hlt (by simp_all [writeOk])⟩, by omega, ?_, SubO.cons rfl SubO.nil⟩
               (conv => whnf); repeat' (first | exact trivial | (refine ⟨rfl, ?_⟩; conv => whnf)))
            | (refine rB_of ?_
               simp only [diskOk, hrows, end_all (p := writeOk d.kept.length) hall (by simp only [decide_eq_true_eq, decide_eq_false_iff_not, List.length_map, Bool.not_eq_true', Bool.not_eq_false'] at *; omega), h1, h2, h3, decide_true, Bool.and_self])
end Go.Proofs.YthmckpghadfeeaaGreat
