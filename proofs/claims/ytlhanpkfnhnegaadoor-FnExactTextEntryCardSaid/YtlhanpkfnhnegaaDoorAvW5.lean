/- The scanner's operations; TextOp of the program. -/
import Derived.Test.YtlhanpkfnhnegaaDoorAvW4
set_option linter.unusedVariables false
set_option linter.unusedSimpArgs false
set_option maxRecDepth 100000
namespace Go.Proofs.YtlhanpkfnhnegaaDoor
open Go.RowKit

/-- The state behind n numbers; the n-th number. -/
noncomputable def scAt (s : Sc) : Nat → Sc
  | 0 => s
  | n + 1 => (scNum (scAt s n)).2
theorem scAt_succ (s : Sc) (n : Nat) : (scNum (scAt s n)).2 = scAt s (n + 1) := rfl
noncomputable def nAt (s : Sc) (n : Nat) : Int := (scNum (scAt s n)).1
theorem Sc.ok.at_ {s : Sc} (h : s.ok) : ∀ n, (scAt s n).ok
  | 0 => h
  | n + 1 => (Sc.ok.at_ h n).num
def opKind (w : List UInt8) : Int := if opWordL 1 = w then 1 else if opWordL 2 = w then 2 else if opWordL 3 = w then 3 else if opWordL 4 = w then 4 else if opWordL 5 = w then 5 else 0
/-- The j-th number of an operation of which n are read. -/
noncomputable def numIf (s : Sc) (n j : Nat) : Int := if j < n then nAt s j else 0
noncomputable def scOp (s : Sc) : DOp × Sc := if opKind s.cur = 0 then (⟨0, 0, 0, 0, 0⟩, { s.next with bad := true }) else
  (⟨opKind s.cur, numIf s.next (opManyN (opKind s.cur)) 0, numIf s.next (opManyN (opKind s.cur)) 1, numIf s.next (opManyN (opKind s.cur)) 2, numIf s.next (opManyN (opKind s.cur)) 3⟩, scAt s.next (opManyN (opKind s.cur)))
theorem Sc.ok.op {s : Sc} (h : s.ok) : (scOp s).2.ok := by
  unfold scOp
  split
  · exact h.next
  · exact h.next.at_ _
abbrev DOp.cs (o : DOp) : List AC := [.d (dI o.kind), .d (dI o.a), .d (dI o.b), .d (dI o.c), .d (dI o.d)]
theorem opKind_word {w : List UInt8} {j : Int} (h : 1 ≤ j ∧ j ≤ 5) : opKind w = j ↔ opWordL j = w := by
  constructor
  · intro e
    unfold opKind at e
    repeat' split at e
    all_goals first
      | (subst e; assumption)
      | omega
  · rintro rfl
    rcases op_cases h with rfl | rfl | rfl | rfl | rfl <;> decide
theorem opKind_range (w : List UInt8) : 0 ≤ opKind w ∧ opKind w ≤ 5 := by
  unfold opKind
  repeat' split
  all_goals omega
theorem opManyN_le (k : Int) : opManyN k ≤ 4 := by
  unfold opManyN
  repeat' split
  all_goals omega
/-- The row of numbers behind n of them. -/
noncomputable def numRow (k : Int) (s : Sc) (n : Nat) : List (List AD) := [k, numIf s n 0, numIf s n 1, numIf s n 2, numIf s n 3].map eI
theorem numRow_len (k : Int) (s : Sc) (n : Nat) : (numRow k s n).length = 5 := rfl
theorem numRow_set {k : Int} {s : Sc} {n : Nat} (h : n < 4) : (numRow k s n).set (n + 1) [dI (nAt s n)] = numRow k s (n + 1) := by
  have : n = 0 ∨ n = 1 ∨ n = 2 ∨ n = 3 := by omega
  rcases this with rfl | rfl | rfl | rfl <;> simp [numRow, numIf, eI]
theorem numRow_get {k : Int} {s : Sc} {n j : Nat} (h : j < 5) : ∃ x, (numRow k s n)[j]? = some [dI x] := by
  have : j = 0 ∨ j = 1 ∨ j = 2 ∨ j = 3 ∨ j = 4 := by omega
  rcases this with rfl | rfl | rfl | rfl | rfl <;> exact ⟨_, rfl⟩
theorem numRow_zero (k : Int) (s : Sc) : numRow k s 0 = [[dI k], [dI 0], [dI 0], [dI 0], [dI 0]] := rfl
theorem iOpWord_p (x : Int) : PCall av 69 [pI x] (rL (opWordL x)) := PCall.plain av_ok Tryd.call69 rfl rfl fun w _ => iOpWord_calls x w
theorem iopFields_p (x : Int) : PCall av 72 [pI x] (rI (opManyN x)) := PCall.plain av_ok Tryd.call72 rfl rfl fun w _ => (iopFields_calls x w).mono fun e w' ⟨h1, h2⟩ => ⟨h1, h2 ▸ Below.refl _ _⟩
theorem op_m (s : Sc) (hs : s.ok) : MCall av 94 [.one (.ref 1000 0 0 0)] [(1000, s.o)] [(1000, (scOp s).2.o)] [1000] (.val (.agg (scOp s).1.cs)) := by
  have wm := word_m s hs
  refine mcall_of av_ok Tryd.func94 rfl Tryd.call94 Tryd.ntmps94 (congrArg Array.toList Tryd.results94) rfl fun S pv => ?_; conv => whnf
  repeat' (first | (refine AWP.seq ?_) | (refine AWP.region av_ok ?_; conv => whnf) | (refine AWP.ret ?_; conv => whnf) | (refine AWP.skip ?_; conv => whnf) | (refine AWP.exit ?_; conv => whnf) | (refine AWP.block ?_; conv => whnf) | (refine AWP.cond ?_; conv => whnf) | (refine AB.tt ?_; conv => whnf) | (refine AB.ff ?_; conv => whnf) | (refine AB.ofT (by assumption) ?_; conv => whnf) | (refine AB.ofF (by assumption) ?_; conv => whnf) | (refine ACall.upd wm 1000 rfl rfl rfl ?_; conv => whnf) | (exact trivial) | (refine And.intro rfl ?_; conv => whnf) | (refine AB.mk (fun h => ?_) (fun h => ?_) <;> (conv => whnf)))
  refine AWP.loopS (fun k : Nat => 1 ≤ k ∧ k ≤ 6 ∧ ∀ j : Int, 1 ≤ j → j < k → opWordL j ≠ s.cur) [4, 5, 6, 9, 10, 11, 12, 13, 14, 15, 16, 17, 18, 19, 20, 21, 22, 23, 24, 25, 26, 27, 28, 29, 30, 31] (fun k => [(4, vI .i64 (k : Int))]) (fun k => [(9999, .frame (pinsOf [1000]) pv), (1000, s.next.o), (2, .cells 25 [.d (dI 0), .d (dI 0), .d (dI 0), .d (dI 0), .d (dI 0)])]) (fun k => 6 - k) 1 ⟨by omega, by omega, fun j h1 h2 => by omega⟩ ?_ (SubO.cons rfl (SubO.cons rfl (SubO.cons rfl SubO.nil))) (fun k hR => ?_) <;> (conv => whnf)
  · repeat' (first | exact trivial | (refine And.intro rfl ?_; conv => whnf))
  · obtain ⟨hk1, hk6, hno⟩ := hR
    repeat' (first | (refine AWP.seq ?_) | (refine AWP.region av_ok ?_; conv => whnf) | (refine AWP.ret ?_; conv => whnf) | (refine AWP.skip ?_; conv => whnf) | (refine AWP.exit ?_; conv => whnf) | (refine AWP.block ?_; conv => whnf) | (refine AWP.cond ?_; conv => whnf) | (refine AB.tt ?_; conv => whnf) | (refine AB.ff ?_; conv => whnf) | (refine AB.ofT (by assumption) ?_; conv => whnf) | (refine AB.ofF (by assumption) ?_; conv => whnf) | (refine ACall.pure (iOpWord_p _) rfl ?_; conv => whnf) | (refine AW.i64 (by simp only [decide_eq_true_eq, decide_eq_false_iff_not, List.length_map, Bool.not_eq_true', Bool.not_eq_false'] at *; omega) (by simp only [decide_eq_true_eq, decide_eq_false_iff_not, List.length_map, Bool.not_eq_true', Bool.not_eq_false'] at *; omega) ?_; conv => whnf) | (exact trivial) | (refine And.intro rfl ?_; conv => whnf) | (refine AB.mk (fun h => ?_) (fun h => ?_) <;> (conv => whnf)))
    · have hk5 : k ≤ 5 := (by simp only [decide_eq_true_eq, decide_eq_false_iff_not, List.length_map, Bool.not_eq_true', Bool.not_eq_false'] at *; omega)
      have hne : opWordL k ≠ s.cur := by rw [str_dec] at h; simpa using h
      refine ANext.mk ⟨k + 1, ⟨by omega, by omega, fun j h1 h2 => ?_⟩, by omega, ?_, SubO.cons rfl (SubO.cons rfl (SubO.cons rfl SubO.nil))⟩
      · by_cases hjk : j = k
        · subst hjk; exact hne
        · exact hno j h1 (by omega)
      · (conv => whnf); repeat' (first | exact trivial | (refine ⟨rfl, ?_⟩; conv => whnf))
    · have hk5 : k ≤ 5 := (by simp only [decide_eq_true_eq, decide_eq_false_iff_not, List.length_map, Bool.not_eq_true', Bool.not_eq_false'] at *; omega)
      have heq : opWordL k = s.cur := by rw [str_dec] at h; simpa using h
      have hkind : opKind s.cur = k := (opKind_word (by omega)).2 heq
      have e : scOp s = (⟨k, numIf s.next (opManyN k) 0, numIf s.next (opManyN k) 1, numIf s.next (opManyN k) 2, numIf s.next (opManyN k) 3⟩, scAt s.next (opManyN k)) := by unfold scOp; rw [if_neg (by omega), hkind]
      rw [e]
      have hm4 := opManyN_le k
      clear h
      refine AWP.loopS (fun n : Nat => n ≤ opManyN k) ([6, 19, 20, 21, 22, 23, 24, 25, 26, 27, 28, 29]) (fun n => [(6, vI .i64 ((n + 1 : Nat) : Int)), (5, .one (.own 18))]) (fun n => [(9999, .frame (pinsOf [1000]) pv), (1000, (scAt s.next n).o), (2, .cells 25 [.d (dI 0), .d (dI 0), .d (dI 0), .d (dI 0), .d (dI 0)]), (18, .row 2 1 (numRow k s.next n))]) (fun n => opManyN k - n) 0 (by omega) ?_ (SubO.cons rfl (SubO.cons rfl (SubO.cons rfl (SubO.cons rfl SubO.nil)))) (fun n hn => ?_) <;> (conv => whnf)
      · repeat' (first | exact trivial | (refine And.intro rfl ?_; conv => whnf))
      · obtain ⟨x, hx⟩ : ∃ x, n < 4 → (numRow k s.next n)[n + 1]? = some [dI x] := by
          by_cases h4 : n < 4
          · obtain ⟨x, hx⟩ := numRow_get (k := k) (s := s.next) (n := n) (j := n + 1) (by omega)
            exact ⟨x, fun _ => hx⟩
          · exact ⟨0, fun h => absurd h h4⟩
        repeat' (first | (refine AWP.seq ?_) | (refine AWP.region av_ok ?_; conv => whnf) | (refine AWP.ret ?_; conv => whnf) | (refine AWP.skip ?_; conv => whnf) | (refine AWP.exit ?_; conv => whnf) | (refine AWP.block ?_; conv => whnf) | (refine AWP.cond ?_; conv => whnf) | (refine AB.tt ?_; conv => whnf) | (refine AB.ff ?_; conv => whnf) | (refine AB.ofT (by assumption) ?_; conv => whnf) | (refine AB.ofF (by assumption) ?_; conv => whnf) | (refine ACall.pure (iopFields_p _) rfl ?_; conv => whnf) | (refine ACall.upd (number_m (scAt s.next n) (hs.next.at_ n)) 1000 rfl rfl rfl ?_; conv => whnf) | (refine AIx.at (n + 1) _ rfl (hx (by simp only [decide_eq_true_eq, decide_eq_false_iff_not, List.length_map, Bool.not_eq_true', Bool.not_eq_false'] at *; omega)) ?_; conv => whnf) | (refine AW.i64 (by simp only [decide_eq_true_eq, decide_eq_false_iff_not, List.length_map, Bool.not_eq_true', Bool.not_eq_false'] at *; omega) (by simp only [decide_eq_true_eq, decide_eq_false_iff_not, List.length_map, Bool.not_eq_true', Bool.not_eq_false'] at *; omega) ?_; conv => whnf) | (refine ACall.meth (opOf_m k (numIf s.next n 0) (numIf s.next n 1) (numIf s.next n 2) (numIf s.next n 3)) [(1001, 18)] rfl rfl ?_; conv => whnf) | (exact trivial) | (refine And.intro rfl ?_; conv => whnf) | (refine AB.mk (fun h => ?_) (fun h => ?_) <;> (conv => whnf)))
        · have hlt : n < opManyN k := (by simp only [decide_eq_true_eq, decide_eq_false_iff_not, List.length_map, Bool.not_eq_true', Bool.not_eq_false'] at *; omega)
          refine ANext.mk ⟨n + 1, by omega, by omega, ?_, SubO.cons rfl (SubO.cons (congrArg (fun t : Sc => some t.o) (scAt_succ s.next n)) (SubO.cons rfl (SubO.cons (congrArg some (congrArg (AO.row 2 1) (numRow_set (by omega)))) SubO.nil)))⟩
          (conv => whnf); repeat' (first | exact trivial | (refine ⟨rfl, ?_⟩; conv => whnf))
        · have hn2 : n = opManyN k := (by simp only [decide_eq_true_eq, decide_eq_false_iff_not, List.length_map, Bool.not_eq_true', Bool.not_eq_false'] at *; omega)
          subst hn2
          repeat' (first | (refine AWP.seq ?_) | (refine AWP.region av_ok ?_; conv => whnf) | (refine AWP.ret ?_; conv => whnf) | (refine AWP.skip ?_; conv => whnf) | (refine AWP.exit ?_; conv => whnf) | (refine AWP.block ?_; conv => whnf) | (refine AWP.cond ?_; conv => whnf) | (refine AB.tt ?_; conv => whnf) | (refine AB.ff ?_; conv => whnf) | (exact trivial) | (refine And.intro rfl ?_; conv => whnf) | (refine AB.mk (fun h => ?_) (fun h => ?_) <;> (conv => whnf)))
    · have hk6 : k = 6 := (by simp only [decide_eq_true_eq, decide_eq_false_iff_not, List.length_map, Bool.not_eq_true', Bool.not_eq_false'] at *; omega)
      subst hk6
      have hz : opKind s.cur = 0 := by
        have hr := opKind_range s.cur
        refine Classical.byContradiction fun hne => ?_
        exact hno (opKind s.cur) (by omega) (by omega) ((opKind_word (by omega)).1 rfl)
      have e : scOp s = (⟨0, 0, 0, 0, 0⟩, { s.next with bad := true }) := by unfold scOp; rw [if_pos hz]
      rw [e]
      repeat' (first | (refine AWP.seq ?_) | (refine AWP.region av_ok ?_; conv => whnf) | (refine AWP.ret ?_; conv => whnf) | (refine AWP.skip ?_; conv => whnf) | (refine AWP.exit ?_; conv => whnf) | (refine AWP.block ?_; conv => whnf) | (refine AWP.cond ?_; conv => whnf) | (refine AB.tt ?_; conv => whnf) | (refine AB.ff ?_; conv => whnf) | (exact trivial) | (refine And.intro rfl ?_; conv => whnf) | (refine AB.mk (fun h => ?_) (fun h => ?_) <;> (conv => whnf)))
end Go.Proofs.YtlhanpkfnhnegaaDoor
