/- Valid pairs of disks, messages, networks, clocks: both sides. -/
import Derived.Test.YthmckpghadfeeaaGreatWA1
set_option linter.unusedVariables false
set_option linter.unusedSimpArgs false
set_option maxRecDepth 100000
namespace Go.Proofs.YthmckpghadfeeaaGreat
open Go.ChangeShapes Go.WideShapes Go.RowKit
def dk_WA2_impl_NetOk_12 : List (List Nat) := [[], [0], [], [2], [2, 3, 0, 1], [1, 0, 3, 2, 4], [4, 2, 3, 0, 1, 5], [5, 1, 0, 3, 2, 4, 6], [6, 4, 2, 3, 0, 1, 5, 7], [5, 1, 0, 3, 2, 4, 6], [6, 4, 2, 3, 0, 1, 5, 9], [9, 10, 7, 5, 1, 0, 3, 2, 4, 6, 8], [8, 7, 10, 9, 11, 5, 1, 0, 3, 2, 4, 6], [6, 4, 2, 3, 0, 1, 5, 11, 9, 10, 7, 8, 12], [12, 8, 7, 10, 9, 11, 5, 1, 0, 3, 2, 4, 6, 13], [13, 6, 4, 2, 3, 0, 1, 5, 11, 9, 10, 7, 8, 12, 14], [14, 12, 8, 7, 10, 9, 11, 5, 1, 0, 3, 2, 4, 6, 13, 15], [15, 13, 6, 4, 2, 3, 0, 1, 5, 11, 9, 10, 7, 8, 12, 14, 16], [16, 14, 12, 8, 7, 10, 9, 11, 5, 1, 0, 3, 2, 4, 6, 13, 15, 17], [15, 13, 6, 4, 2, 3, 0, 1, 5, 11, 9, 10, 7, 8, 12, 14, 16], [16, 14, 12, 8, 7, 10, 9, 11, 5, 1, 0, 3, 2, 4, 6, 13, 15, 19], [19, 20, 17, 15, 13, 6, 4, 2, 3, 0, 1, 5, 11, 9, 10, 7, 8, 12, 14, 16, 18], [18, 16, 14, 12, 8, 7, 10, 9, 11, 5, 1, 0, 3, 2, 4, 6, 13, 15, 17, 20, 19, 21], [15, 13, 6, 4, 2, 3, 0, 1, 5, 11, 9, 10, 7, 8, 12, 14, 16], [23, 21, 19, 20, 17, 15, 13, 6, 4, 2, 3, 0, 1, 5, 11, 9, 10, 7, 8, 12, 14, 16, 18, 22], [22, 18, 16, 14, 12, 8, 7, 10, 9, 11, 5, 1, 0, 3, 2, 4, 6, 13, 15, 17, 20, 19, 21, 23, 24], [24, 23, 21, 19, 20, 17, 18, 22, 25, 15, 13, 6, 4, 2, 3, 0, 1, 5, 11, 9, 10, 7, 8, 12, 14, 16], [16, 14, 15, 25, 22, 18, 17, 20, 19, 21, 23, 24, 26, 12, 8, 7, 10, 9, 11, 5, 1, 0, 3, 2, 4, 6, 13]]
def fk_WA2_impl_NetOk_12 : List (List Nat) := [[0, 0, 2, 2, 0, 0, 0, 0, 0, 0, 0, 0, 0, 0, 0, 0, 0, 0, 0, 0, 0, 0, 0, 0], [1, 0, 2, 2, 0, 0, 0, 0, 0, 0, 0, 0, 0, 0, 0, 0, 0, 0, 0, 0, 0, 0, 0, 0], [2, 2, 0, 0, 0, 0, 0, 0, 0, 0, 0, 0, 0, 0, 0, 0, 0, 0, 0, 0, 0, 0, 0, 0], [2, 2, 1, 0, 0, 0, 0, 0, 0, 0, 0, 0, 0, 0, 0, 0, 0, 0, 0, 0, 0, 0, 0, 0], [1, 1, 1, 1, 0, 0, 0, 0, 0, 0, 0, 0, 0, 0, 0, 0, 0, 0, 0, 0, 0, 0, 0, 0], [1, 1, 1, 1, 1, 0, 0, 0, 0, 0, 0, 0, 0, 0, 0, 0, 0, 0, 0, 0, 0, 0, 0, 0], [1, 1, 1, 1, 1, 1, 0, 0, 0, 0, 0, 0, 0, 0, 0, 0, 0, 0, 0, 0, 0, 0, 0, 0], [1, 1, 1, 1, 1, 1, 1, 0, 0, 2, 2, 0, 0, 0, 0, 0, 0, 0, 0, 0, 0, 0, 0, 0], [1, 1, 1, 1, 1, 1, 1, 1, 0, 2, 2, 0, 0, 0, 0, 0, 0, 0, 0, 0, 0, 0, 0, 0], [1, 1, 1, 1, 1, 1, 1, 2, 2, 0, 0, 0, 0, 0, 0, 0, 0, 0, 0, 0, 0, 0, 0, 0], [1, 1, 1, 1, 1, 1, 1, 2, 2, 1, 0, 0, 0, 0, 0, 0, 0, 0, 0, 0, 0, 0, 0, 0], [1, 1, 1, 1, 1, 1, 1, 1, 1, 1, 1, 0, 0, 0, 0, 0, 0, 0, 0, 0, 0, 0, 0, 0], [1, 1, 1, 1, 1, 1, 1, 1, 1, 1, 1, 1, 0, 0, 0, 0, 0, 0, 0, 0, 0, 0, 0, 0], [1, 1, 1, 1, 1, 1, 1, 1, 1, 1, 1, 1, 1, 0, 0, 0, 0, 0, 0, 0, 0, 0, 0, 0], [1, 1, 1, 1, 1, 1, 1, 1, 1, 1, 1, 1, 1, 1, 0, 0, 0, 0, 0, 0, 0, 0, 0, 0], [1, 1, 1, 1, 1, 1, 1, 1, 1, 1, 1, 1, 1, 1, 1, 0, 0, 0, 0, 0, 0, 0, 0, 0], [1, 1, 1, 1, 1, 1, 1, 1, 1, 1, 1, 1, 1, 1, 1, 1, 0, 0, 0, 0, 0, 0, 0, 0], [1, 1, 1, 1, 1, 1, 1, 1, 1, 1, 1, 1, 1, 1, 1, 1, 1, 0, 0, 2, 2, 0, 0, 2], [1, 1, 1, 1, 1, 1, 1, 1, 1, 1, 1, 1, 1, 1, 1, 1, 1, 1, 0, 2, 2, 0, 0, 2], [1, 1, 1, 1, 1, 1, 1, 1, 1, 1, 1, 1, 1, 1, 1, 1, 1, 2, 2, 0, 0, 0, 0, 2], [1, 1, 1, 1, 1, 1, 1, 1, 1, 1, 1, 1, 1, 1, 1, 1, 1, 2, 2, 1, 0, 0, 0, 2], [1, 1, 1, 1, 1, 1, 1, 1, 1, 1, 1, 1, 1, 1, 1, 1, 1, 1, 1, 1, 1, 0, 0, 2], [1, 1, 1, 1, 1, 1, 1, 1, 1, 1, 1, 1, 1, 1, 1, 1, 1, 1, 1, 1, 1, 1, 0, 2], [1, 1, 1, 1, 1, 1, 1, 1, 1, 1, 1, 1, 1, 1, 1, 1, 1, 2, 2, 2, 2, 2, 2, 0]]
def dk_WA2_spec_NetOk_12 : List (List Nat) := [[], [0], [0, 1], [1, 0, 2], [2, 0, 1, 3], [3, 1, 0, 2, 4], [4, 2, 0, 1, 3, 5], [5, 3, 1, 0, 2, 4, 6], [6, 4, 2, 0, 1, 3, 5, 7], [7, 5, 6, 8, 3, 1, 0, 2, 4], [4, 2, 0, 1, 3, 8, 6, 5, 7, 9], [9, 7, 5, 6, 8, 3, 1, 0, 2, 4, 10], [10, 4, 2, 0, 1, 3, 8, 6, 5, 7, 9, 11], [9, 7, 5, 6, 8, 3, 1, 0, 2, 4, 10], [10, 4, 2, 0, 1, 3, 8, 6, 5, 7, 9, 13], [13, 14, 11, 9, 7, 5, 6, 8, 3, 1, 0, 2, 4, 10, 12], [12, 11, 14, 13, 15, 9, 7, 5, 6, 8, 3, 1, 0, 2, 4, 10], [10, 4, 2, 0, 1, 3, 8, 6, 5, 7, 9, 15, 13, 14, 11, 12, 16], [16, 12, 11, 14, 13, 15, 9, 7, 5, 6, 8, 3, 1, 0, 2, 4, 10, 17], [17, 10, 4, 2, 0, 1, 3, 8, 6, 5, 7, 9, 15, 13, 14, 11, 12, 16, 18], [18, 16, 12, 11, 14, 13, 15, 9, 7, 5, 6, 8, 3, 1, 0, 2, 4, 10, 17, 19], [19, 17, 10, 4, 2, 0, 1, 3, 8, 6, 5, 7, 9, 15, 13, 14, 11, 12, 16, 18, 20], [20, 18, 16, 12, 11, 14, 13, 15, 9, 7, 5, 6, 8, 3, 1, 0, 2, 4, 10, 17, 19, 21], [19, 17, 10, 4, 2, 0, 1, 3, 8, 6, 5, 7, 9, 15, 13, 14, 11, 12, 16, 18, 20], [20, 18, 16, 12, 11, 14, 13, 15, 9, 7, 5, 6, 8, 3, 1, 0, 2, 4, 10, 17, 19, 23], [23, 24, 21, 19, 17, 10, 4, 2, 0, 1, 3, 8, 6, 5, 7, 9, 15, 13, 14, 11, 12, 16, 18, 20, 22], [22, 20, 18, 16, 12, 11, 14, 13, 15, 9, 7, 5, 6, 8, 3, 1, 0, 2, 4, 10, 17, 19, 21, 24, 23, 25], [19, 17, 10, 4, 2, 0, 1, 3, 8, 6, 5, 7, 9, 15, 13, 14, 11, 12, 16, 18, 20], [27, 25, 23, 24, 21, 19, 17, 10, 4, 2, 0, 1, 3, 8, 6, 5, 7, 9, 15, 13, 14, 11, 12, 16, 18, 20, 22, 26], [26, 22, 20, 18, 16, 12, 11, 14, 13, 15, 9, 7, 5, 6, 8, 3, 1, 0, 2, 4, 10, 17, 19, 21, 24, 23, 25, 27, 28], [28, 27, 25, 23, 24, 21, 22, 26, 29, 19, 17, 10, 4, 2, 0, 1, 3, 8, 6, 5, 7, 9, 15, 13, 14, 11, 12, 16, 18, 20], [20, 18, 19, 29, 26, 22, 21, 24, 23, 25, 27, 28, 30, 16, 12, 11, 14, 13, 15, 9, 7, 5, 6, 8, 3, 1, 0, 2, 4, 10, 17]]
def fk_WA2_spec_NetOk_12 : List (List Nat) := [[0, 0, 0, 0, 0, 0, 0, 0, 0, 0, 0, 0, 0, 0, 0, 0, 0, 0, 0, 0, 0, 0, 0, 0, 0, 0, 0, 0], [1, 0, 0, 0, 0, 0, 0, 0, 0, 0, 0, 0, 0, 0, 0, 0, 0, 0, 0, 0, 0, 0, 0, 0, 0, 0, 0, 0], [1, 1, 0, 0, 0, 0, 0, 0, 0, 0, 0, 0, 0, 0, 0, 0, 0, 0, 0, 0, 0, 0, 0, 0, 0, 0, 0, 0], [1, 1, 1, 0, 0, 0, 0, 0, 0, 0, 0, 0, 0, 0, 0, 0, 0, 0, 0, 0, 0, 0, 0, 0, 0, 0, 0, 0], [1, 1, 1, 1, 0, 0, 0, 0, 0, 0, 0, 0, 0, 0, 0, 0, 0, 0, 0, 0, 0, 0, 0, 0, 0, 0, 0, 0], [1, 1, 1, 1, 1, 0, 0, 0, 0, 0, 0, 0, 0, 0, 0, 0, 0, 0, 0, 0, 0, 0, 0, 0, 0, 0, 0, 0], [1, 1, 1, 1, 1, 1, 0, 0, 0, 0, 0, 0, 0, 0, 0, 0, 0, 0, 0, 0, 0, 0, 0, 0, 0, 0, 0, 0], [1, 1, 1, 1, 1, 1, 1, 0, 0, 0, 0, 0, 0, 0, 0, 0, 0, 0, 0, 0, 0, 0, 0, 0, 0, 0, 0, 0], [1, 1, 1, 1, 1, 1, 1, 1, 0, 0, 0, 0, 0, 0, 0, 0, 0, 0, 0, 0, 0, 0, 0, 0, 0, 0, 0, 0], [1, 1, 1, 1, 1, 1, 1, 1, 1, 0, 0, 0, 0, 0, 0, 0, 0, 0, 0, 0, 0, 0, 0, 0, 0, 0, 0, 0], [1, 1, 1, 1, 1, 1, 1, 1, 1, 1, 0, 0, 0, 0, 0, 0, 0, 0, 0, 0, 0, 0, 0, 0, 0, 0, 0, 0], [1, 1, 1, 1, 1, 1, 1, 1, 1, 1, 1, 0, 0, 2, 2, 0, 0, 0, 0, 0, 0, 0, 0, 0, 0, 0, 0, 0], [1, 1, 1, 1, 1, 1, 1, 1, 1, 1, 1, 1, 0, 2, 2, 0, 0, 0, 0, 0, 0, 0, 0, 0, 0, 0, 0, 0], [1, 1, 1, 1, 1, 1, 1, 1, 1, 1, 1, 2, 2, 0, 0, 0, 0, 0, 0, 0, 0, 0, 0, 0, 0, 0, 0, 0], [1, 1, 1, 1, 1, 1, 1, 1, 1, 1, 1, 2, 2, 1, 0, 0, 0, 0, 0, 0, 0, 0, 0, 0, 0, 0, 0, 0], [1, 1, 1, 1, 1, 1, 1, 1, 1, 1, 1, 1, 1, 1, 1, 0, 0, 0, 0, 0, 0, 0, 0, 0, 0, 0, 0, 0], [1, 1, 1, 1, 1, 1, 1, 1, 1, 1, 1, 1, 1, 1, 1, 1, 0, 0, 0, 0, 0, 0, 0, 0, 0, 0, 0, 0], [1, 1, 1, 1, 1, 1, 1, 1, 1, 1, 1, 1, 1, 1, 1, 1, 1, 0, 0, 0, 0, 0, 0, 0, 0, 0, 0, 0], [1, 1, 1, 1, 1, 1, 1, 1, 1, 1, 1, 1, 1, 1, 1, 1, 1, 1, 0, 0, 0, 0, 0, 0, 0, 0, 0, 0], [1, 1, 1, 1, 1, 1, 1, 1, 1, 1, 1, 1, 1, 1, 1, 1, 1, 1, 1, 0, 0, 0, 0, 0, 0, 0, 0, 0], [1, 1, 1, 1, 1, 1, 1, 1, 1, 1, 1, 1, 1, 1, 1, 1, 1, 1, 1, 1, 0, 0, 0, 0, 0, 0, 0, 0], [1, 1, 1, 1, 1, 1, 1, 1, 1, 1, 1, 1, 1, 1, 1, 1, 1, 1, 1, 1, 1, 0, 0, 2, 2, 0, 0, 2], [1, 1, 1, 1, 1, 1, 1, 1, 1, 1, 1, 1, 1, 1, 1, 1, 1, 1, 1, 1, 1, 1, 0, 2, 2, 0, 0, 2], [1, 1, 1, 1, 1, 1, 1, 1, 1, 1, 1, 1, 1, 1, 1, 1, 1, 1, 1, 1, 1, 2, 2, 0, 0, 0, 0, 2], [1, 1, 1, 1, 1, 1, 1, 1, 1, 1, 1, 1, 1, 1, 1, 1, 1, 1, 1, 1, 1, 2, 2, 1, 0, 0, 0, 2], [1, 1, 1, 1, 1, 1, 1, 1, 1, 1, 1, 1, 1, 1, 1, 1, 1, 1, 1, 1, 1, 1, 1, 1, 1, 0, 0, 2], [1, 1, 1, 1, 1, 1, 1, 1, 1, 1, 1, 1, 1, 1, 1, 1, 1, 1, 1, 1, 1, 1, 1, 1, 1, 1, 0, 2], [1, 1, 1, 1, 1, 1, 1, 1, 1, 1, 1, 1, 1, 1, 1, 1, 1, 1, 1, 1, 1, 2, 2, 2, 2, 2, 2, 0]]

theorem AIx.mapP {α : Type} {enc : α → List AD} {l : List α} {k : Nat} {K : Nat → List AD → Prop} (h0 : 0 < k) (hk : k ≤ l.length) (h : ∀ _ : k - 1 < l.length, K (k - 1) (enc l[k - 1])) : AIx (l.map enc) ((k : Int) - 1) K := by
  have e : ((k : Int) - 1) = ((k - 1 : Nat) : Int) := by omega
  rw [e]
  exact AIx.map (by omega) (h (by omega))
/-- An element and the one before it. -/
def chainAt {α : Type} (P : α → Bool) (Q : α → α → Bool) (l : List α) (k : Nat) (hk : k < l.length) : Bool := P l[k] && (if h : 0 < k then Q (l[k - 1]'(by omega)) l[k] else true)
theorem chain_no {α : Type} {P : α → Bool} {Q : α → α → Bool} {l : List α} {k : Nat} (hk : k < l.length) (h : chainAt P Q l k hk = false) : (l.all P && adjB Q l) = false := by
  unfold chainAt at h
  cases hp : P l[k] with
  | false => rw [all_no hk hp]; rfl
  | true =>
    rw [hp] at h
    simp only [Bool.true_and] at h
    split at h
    · rename_i h0
      obtain ⟨j, rfl⟩ : ∃ j, k = j + 1 := ⟨k - 1, by omega⟩
      rw [adjB_no (Q := Q) hk (by simpa using h), Bool.and_false]
    · cases h
theorem chain_yes {α : Type} {P : α → Bool} {Q : α → α → Bool} {l : List α} (h : ∀ (j : Nat) (hl : j < l.length), chainAt P Q l j hl = true) : (l.all P && adjB Q l) = true := by
  rw [Bool.and_eq_true]
  refine ⟨all_yes fun k hk => ?_, adjB_yes fun k hk => ?_⟩
  · have := h k hk
    unfold chainAt at this
    exact (Bool.and_eq_true_iff.1 this).1
  · have := h (k + 1) hk
    unfold chainAt at this
    have := (Bool.and_eq_true_iff.1 this).2
    simpa using this
theorem step_chain {α : Type} {P : α → Bool} {Q : α → α → Bool} {l : List α} {k : Nat} (hall : ∀ (j : Nat) (hj : j < k) (hl : j < l.length), chainAt P Q l j hl = true) (hlt : k < l.length) (h : chainAt P Q l k hlt = true) : ∀ (j : Nat) (hj : j < k + 1) (hl : j < l.length), chainAt P Q l j hl = true := by
  intro j hj hl
  by_cases hjk : j = k
  · subst hjk; exact h
  · exact hall j (by omega) hl
theorem end_chain {α : Type} {P : α → Bool} {Q : α → α → Bool} {l : List α} {k : Nat} (hall : ∀ (j : Nat) (hj : j < k) (hl : j < l.length), chainAt P Q l j hl = true) (hk : k = l.length) : (l.all P && adjB Q l) = true := chain_yes fun j hj => hall j (by omega) hj
theorem chainAt_pos {α : Type} {P : α → Bool} {Q : α → α → Bool} {l : List α} {k : Nat} (hk : k < l.length) (h : 0 < k) : chainAt P Q l k hk = (P l[k] && Q (l[k - 1]'(by omega)) l[k]) := by simp [chainAt, h]
theorem chainAt_zero {α : Type} {P : α → Bool} {Q : α → α → Bool} {l : List α} {k : Nat} (hk : k < l.length) (h : ¬ 0 < k) : chainAt P Q l k hk = P l[k] := by simp [chainAt, h]
theorem chainAt_P {α : Type} {P : α → Bool} {Q : α → α → Bool} {l : List α} {k : Nat} (hk : k < l.length) (h : P l[k] = false) : chainAt P Q l k hk = false := by simp [chainAt, h]

theorem iTwoOk_p (t : DTwo) : PCall av 132 [.agg t.ds] (rB (twoOk t)) := by
  refine pcall_of av_ok Tryz.func132 rfl Tryz.call132 Tryz.ntmps132 (congrArg Array.toList Tryz.results132) fun S => ?_; conv => whnf
  repeat' (first | (refine AWP.seq ?_) | ((first | refine AWP.region av_ok ?_ | refine AWP.ret ?_ | refine AWP.skip ?_ | refine AWP.exit ?_ | refine AWP.block ?_ | refine AWP.cond ?_ | refine AB.tt ?_ | refine AB.ff ?_); conv => whnf) | ((first | refine AB.ofT (by assumption) ?_ | refine AB.ofF (by assumption) ?_); conv => whnf) | (refine ACall.pure (iDiskOk_p t.a) rfl ?_; conv => whnf) | (refine AFCall.mk ⟨_, _, iDiskOk_p t.a, .inl rfl, ?_⟩; conv => whnf) | (refine ACall.pure (iDiskOk_p t.b) rfl ?_; conv => whnf) | (refine AFCall.mk ⟨_, _, iDiskOk_p t.b, .inl rfl, ?_⟩; conv => whnf) | (exact trivial) | (refine And.intro rfl ?_; conv => whnf) | (refine AB.mk (fun h => ?_) (fun h => ?_) <;> (conv => whnf)) | (with_reducible_and_instances rfl) | (exact (rfl : AP.tup _ = AP.tup _)))
  all_goals
    refine rB_of ?_
    simp_all [twoOk]
  all_goals first | omega | (rw [Bool.eq_iff_iff]; simp only [beq_iff_eq, decide_eq_true_eq]; omega)
theorem sTwoOk_p (t : DTwo) : PCall av 163 [.agg t.ds] (rB (twoOk t)) := by
  refine pcall_of av_ok Tryz.func163 rfl Tryz.call163 Tryz.ntmps163 (congrArg Array.toList Tryz.results163) fun S => ?_; conv => whnf
  repeat' (first | (refine AWP.seq ?_) | ((first | refine AWP.region av_ok ?_ | refine AWP.ret ?_ | refine AWP.skip ?_ | refine AWP.exit ?_ | refine AWP.block ?_ | refine AWP.cond ?_ | refine AB.tt ?_ | refine AB.ff ?_); conv => whnf) | ((first | refine AB.ofT (by assumption) ?_ | refine AB.ofF (by assumption) ?_); conv => whnf) | (refine ACall.pure (sDiskOk_p t.a) rfl ?_; conv => whnf) | (refine AFCall.mk ⟨_, _, sDiskOk_p t.a, .inl rfl, ?_⟩; conv => whnf) | (refine ACall.pure (sDiskOk_p t.b) rfl ?_; conv => whnf) | (refine AFCall.mk ⟨_, _, sDiskOk_p t.b, .inl rfl, ?_⟩; conv => whnf) | (exact trivial) | (refine And.intro rfl ?_; conv => whnf) | (refine AB.mk (fun h => ?_) (fun h => ?_) <;> (conv => whnf)) | (with_reducible_and_instances rfl) | (exact (rfl : AP.tup _ = AP.tup _)))
  all_goals
    refine rB_of ?_
    simp_all [twoOk]
  all_goals first | omega | (rw [Bool.eq_iff_iff]; simp only [beq_iff_eq, decide_eq_true_eq]; omega)
theorem iKeptOk_p (t : DTwo) : PCall av 188 [.agg t.ds] (rB (keptOk t)) := by
  refine pcall_of av_ok Tryz.func188 rfl Tryz.call188 Tryz.ntmps188 (congrArg Array.toList Tryz.results188) fun S => ?_; conv => whnf
  repeat' (first | (refine AWP.seq ?_) | ((first | refine AWP.region av_ok ?_ | refine AWP.ret ?_ | refine AWP.skip ?_ | refine AWP.exit ?_ | refine AWP.block ?_ | refine AWP.cond ?_ | refine AB.tt ?_ | refine AB.ff ?_); conv => whnf) | ((first | refine AB.ofT (by assumption) ?_ | refine AB.ofF (by assumption) ?_); conv => whnf) | (refine ACall.pure (iTwoOk_p t) rfl ?_; conv => whnf) | (refine AFCall.mk ⟨_, _, iTwoOk_p t, .inl rfl, ?_⟩; conv => whnf) | (exact trivial) | (refine And.intro rfl ?_; conv => whnf) | (refine AB.mk (fun h => ?_) (fun h => ?_) <;> (conv => whnf)) | (with_reducible_and_instances rfl) | (exact (rfl : AP.tup _ = AP.tup _)))
  all_goals
    refine rB_of ?_
    simp_all [keptOk]
  all_goals first | omega | (rw [Bool.eq_iff_iff]; simp only [beq_iff_eq, decide_eq_true_eq]; omega)
theorem sKeptOk_p (t : DTwo) : PCall av 154 [.agg t.ds] (rB (keptOk t)) := by
  refine pcall_of av_ok Tryz.func154 rfl Tryz.call154 Tryz.ntmps154 (congrArg Array.toList Tryz.results154) fun S => ?_; conv => whnf
  repeat' (first | (refine AWP.seq ?_) | ((first | refine AWP.region av_ok ?_ | refine AWP.ret ?_ | refine AWP.skip ?_ | refine AWP.exit ?_ | refine AWP.block ?_ | refine AWP.cond ?_ | refine AB.tt ?_ | refine AB.ff ?_); conv => whnf) | ((first | refine AB.ofT (by assumption) ?_ | refine AB.ofF (by assumption) ?_); conv => whnf) | (refine ACall.pure (sTwoOk_p t) rfl ?_; conv => whnf) | (refine AFCall.mk ⟨_, _, sTwoOk_p t, .inl rfl, ?_⟩; conv => whnf) | (exact trivial) | (refine And.intro rfl ?_; conv => whnf) | (refine AB.mk (fun h => ?_) (fun h => ?_) <;> (conv => whnf)) | (with_reducible_and_instances rfl) | (exact (rfl : AP.tup _ = AP.tup _)))
  all_goals
    refine rB_of ?_
    simp_all [keptOk]
  all_goals first | omega | (rw [Bool.eq_iff_iff]; simp only [beq_iff_eq, decide_eq_true_eq]; omega)
theorem iShelfOk_p (d : DDisk) : PCall av 200 [.agg d.ds] (rB (shelfOk d)) := by
  refine pcall_of av_ok Tryz.func200 rfl Tryz.call200 Tryz.ntmps200 (congrArg Array.toList Tryz.results200) fun S => ?_; conv => whnf
  repeat' (first | (refine AWP.seq ?_) | ((first | refine AWP.region av_ok ?_ | refine AWP.ret ?_ | refine AWP.skip ?_ | refine AWP.exit ?_ | refine AWP.block ?_ | refine AWP.cond ?_ | refine AB.tt ?_ | refine AB.ff ?_); conv => whnf) | ((first | refine AB.ofT (by assumption) ?_ | refine AB.ofF (by assumption) ?_); conv => whnf) | (refine ACall.pure (iDiskOk_p d) rfl ?_; conv => whnf) | (refine AFCall.mk ⟨_, _, iDiskOk_p d, .inl rfl, ?_⟩; conv => whnf) | (exact trivial) | (refine And.intro rfl ?_; conv => whnf) | (refine AB.mk (fun h => ?_) (fun h => ?_) <;> (conv => whnf)) | (with_reducible_and_instances rfl) | (exact (rfl : AP.tup _ = AP.tup _)))
  all_goals
    refine rB_of ?_
    simp_all [shelfOk]
  all_goals first | omega | (rw [Bool.eq_iff_iff]; simp only [beq_iff_eq, decide_eq_true_eq]; omega)
theorem sShelfOk_p (d : DDisk) : PCall av 165 [.agg d.ds] (rB (shelfOk d)) := by
  refine pcall_of av_ok Tryz.func165 rfl Tryz.call165 Tryz.ntmps165 (congrArg Array.toList Tryz.results165) fun S => ?_; conv => whnf
  repeat' (first | (refine AWP.seq ?_) | ((first | refine AWP.region av_ok ?_ | refine AWP.ret ?_ | refine AWP.skip ?_ | refine AWP.exit ?_ | refine AWP.block ?_ | refine AWP.cond ?_ | refine AB.tt ?_ | refine AB.ff ?_); conv => whnf) | ((first | refine AB.ofT (by assumption) ?_ | refine AB.ofF (by assumption) ?_); conv => whnf) | (refine ACall.pure (sDiskOk_p d) rfl ?_; conv => whnf) | (refine AFCall.mk ⟨_, _, sDiskOk_p d, .inl rfl, ?_⟩; conv => whnf) | (exact trivial) | (refine And.intro rfl ?_; conv => whnf) | (refine AB.mk (fun h => ?_) (fun h => ?_) <;> (conv => whnf)) | (with_reducible_and_instances rfl) | (exact (rfl : AP.tup _ = AP.tup _)))
  all_goals
    refine rB_of ?_
    simp_all [shelfOk]
  all_goals first | omega | (rw [Bool.eq_iff_iff]; simp only [beq_iff_eq, decide_eq_true_eq]; omega)
theorem iapart_p (a b : Int) : PCall av 127 [pI a, pI b] (rB (apartB a b)) := by
  refine pcall_of av_ok Tryz.func127 rfl Tryz.call127 Tryz.ntmps127 (congrArg Array.toList Tryz.results127) fun S => ?_; conv => whnf
  repeat' (first | (refine AWP.seq ?_) | ((first | refine AWP.region av_ok ?_ | refine AWP.ret ?_ | refine AWP.skip ?_ | refine AWP.exit ?_ | refine AWP.block ?_ | refine AWP.cond ?_ | refine AB.tt ?_ | refine AB.ff ?_); conv => whnf) | ((first | refine AB.ofT (by assumption) ?_ | refine AB.ofF (by assumption) ?_); conv => whnf) | (refine ACall.pure (inodeOk_p _) rfl ?_; conv => whnf) | (refine AFCall.mk ⟨_, _, inodeOk_p _, .inl rfl, ?_⟩; conv => whnf) | (exact trivial) | (refine And.intro rfl ?_; conv => whnf) | (refine AB.mk (fun h => ?_) (fun h => ?_) <;> (conv => whnf)) | (with_reducible_and_instances rfl) | (exact (rfl : AP.tup _ = AP.tup _)))
  all_goals
    refine rB_of ?_
    simp_all [apartB]
theorem iMsgOk_p (m : DMsg) : PCall av 126 [.agg m.ds] (rB (msgOk m)) := by
  refine pcall_of av_ok Tryz.func126 rfl Tryz.call126 Tryz.ntmps126 (congrArg Array.toList Tryz.results126) fun S => ?_; conv => whnf
  repeat' (first | (refine AWP.seq ?_) | ((first | refine AWP.region av_ok ?_ | refine AWP.ret ?_ | refine AWP.skip ?_ | refine AWP.exit ?_ | refine AWP.block ?_ | refine AWP.cond ?_ | refine AB.tt ?_ | refine AB.ff ?_); conv => whnf) | ((first | refine AB.ofT (by assumption) ?_ | refine AB.ofF (by assumption) ?_); conv => whnf) | (refine ACall.pure (iapart_p _ _) rfl ?_; conv => whnf) | (refine AFCall.mk ⟨_, _, iapart_p _ _, .inl rfl, ?_⟩; conv => whnf) | (refine ACall.pure (iRowOk_p _) rfl ?_; conv => whnf) | (refine AFCall.mk ⟨_, _, iRowOk_p _, .inl rfl, ?_⟩; conv => whnf) | (exact trivial) | (refine And.intro rfl ?_; conv => whnf) | (refine AB.mk (fun h => ?_) (fun h => ?_) <;> (conv => whnf)) | (with_reducible_and_instances rfl) | (exact (rfl : AP.tup _ = AP.tup _)))
  all_goals
    refine rB_of ?_
    simp_all [msgOk]
theorem sMsgOk_p (m : DMsg) : PCall av 109 [.agg m.ds] (rB (msgOk m)) := by
  refine pcall_of av_ok Tryz.func109 rfl Tryz.call109 Tryz.ntmps109 (congrArg Array.toList Tryz.results109) fun S => ?_; conv => whnf
  repeat' (first | (refine AWP.seq ?_) | ((first | refine AWP.region av_ok ?_ | refine AWP.ret ?_ | refine AWP.skip ?_ | refine AWP.exit ?_ | refine AWP.block ?_ | refine AWP.cond ?_ | refine AB.tt ?_ | refine AB.ff ?_); conv => whnf) | ((first | refine AB.ofT (by assumption) ?_ | refine AB.ofF (by assumption) ?_); conv => whnf) | (refine ACall.pure (sl5Node_p _) rfl ?_; conv => whnf) | (refine AFCall.mk ⟨_, _, sl5Node_p _, .inl rfl, ?_⟩; conv => whnf) | (refine ACall.pure (sRowOk_p _) rfl ?_; conv => whnf) | (refine AFCall.mk ⟨_, _, sRowOk_p _, .inl rfl, ?_⟩; conv => whnf) | (exact trivial) | (refine And.intro rfl ?_; conv => whnf) | (refine AB.mk (fun h => ?_) (fun h => ?_) <;> (conv => whnf)) | (with_reducible_and_instances rfl) | (exact (rfl : AP.tup _ = AP.tup _)))
  all_goals
    refine rB_of ?_
    simp_all [msgOk, apartB]
theorem ilinkLess_p (x y : DLink) : PCall av 128 [.agg x.ds, .agg y.ds] (rB (linkLess x y)) := by
  refine pcall_of av_ok Tryz.func128 rfl Tryz.call128 Tryz.ntmps128 (congrArg Array.toList Tryz.results128) fun S => ?_; conv => whnf
  repeat' (first | (refine AWP.seq ?_) | ((first | refine AWP.region av_ok ?_ | refine AWP.ret ?_ | refine AWP.skip ?_ | refine AWP.exit ?_ | refine AWP.block ?_ | refine AWP.cond ?_ | refine AB.tt ?_ | refine AB.ff ?_); conv => whnf) | ((first | refine AB.ofT (by assumption) ?_ | refine AB.ofF (by assumption) ?_); conv => whnf) | (exact trivial) | (refine And.intro rfl ?_; conv => whnf) | (refine AB.mk (fun h => ?_) (fun h => ?_) <;> (conv => whnf)) | (with_reducible_and_instances rfl) | (exact (rfl : AP.tup _ = AP.tup _)))
  all_goals
    refine rB_of ?_
    simp_all [linkLess]
  all_goals first | omega | (rw [Bool.eq_iff_iff]; simp only [beq_iff_eq, decide_eq_true_eq]; omega)
theorem sl5LinkLess_p (x y : DLink) : PCall av 111 [.agg x.ds, .agg y.ds] (rB (linkLess x y)) := by
  refine pcall_of av_ok Tryz.func111 rfl Tryz.call111 Tryz.ntmps111 (congrArg Array.toList Tryz.results111) fun S => ?_; conv => whnf
  repeat' (first | (refine AWP.seq ?_) | ((first | refine AWP.region av_ok ?_ | refine AWP.ret ?_ | refine AWP.skip ?_ | refine AWP.exit ?_ | refine AWP.block ?_ | refine AWP.cond ?_ | refine AB.tt ?_ | refine AB.ff ?_); conv => whnf) | ((first | refine AB.ofT (by assumption) ?_ | refine AB.ofF (by assumption) ?_); conv => whnf) | (exact trivial) | (refine And.intro rfl ?_; conv => whnf) | (refine AB.mk (fun h => ?_) (fun h => ?_) <;> (conv => whnf)) | (with_reducible_and_instances rfl) | (exact (rfl : AP.tup _ = AP.tup _)))
  all_goals
    refine rB_of ?_
    simp_all [linkLess]
  all_goals first | omega | (rw [Bool.eq_iff_iff]; simp only [beq_iff_eq, decide_eq_true_eq]; omega)
theorem netOk_len {n : DNet} (h : ¬ (n.flight.length ≤ 60 ∧ n.cuts.length ≤ 15)) : netOk n = false := by
  have : (decide (n.flight.length ≤ 60) && decide (n.cuts.length ≤ 15)) = false := by
    simp only [Bool.and_eq_false_iff, decide_eq_false_iff_not]
    omega
  simp only [netOk, this, Bool.false_and]
theorem netOk_msg {n : DNet} {k : Nat} (hk : k < n.flight.length) (h : msgOk n.flight[k] = false) : netOk n = false := by
  have := all_no (p := msgOk) hk h
  simp only [netOk, this, Bool.and_false, Bool.false_and]
theorem netOk_cut {n : DNet} {k : Nat} (hk : k < n.cuts.length) (h : chainAt linkOk linkLess n.cuts k hk = false) : netOk n = false := by
  have := chain_no hk h
  simp only [netOk, Bool.and_assoc] at *
  simp only [this, Bool.and_false]
set_option maxHeartbeats 2000000 in
theorem iNetOk_p (n : DNet) : PCall av 73 [.agg n.ds] (rB (netOk n)) := by
  refine pcall_of av_ok Tryz.func73 rfl Tryz.call73 Tryz.ntmps73 (congrArg Array.toList Tryz.results73) fun S => ?_; conv => whnf
  repeat' (first | (refine AWP.seq ?_) | ((first | refine AWP.region av_ok ?_ | refine AWP.ret ?_ | refine AWP.skip ?_ | refine AWP.exit ?_ | refine AWP.block ?_ | refine AWP.cond ?_ | refine AB.tt ?_ | refine AB.ff ?_); conv => whnf) | ((first | refine AB.ofT (by assumption) ?_ | refine AB.ofF (by assumption) ?_); conv => whnf) | (exact trivial) | (refine And.intro rfl ?_; conv => whnf) | (refine AB.mk (fun h => ?_) (fun h => ?_) <;> (conv => whnf)) | (with_reducible_and_instances rfl) | (exact (rfl : AP.tup _ = AP.tup _)))
  · rw [netOk_len (by simp only [decide_eq_true_eq, decide_eq_false_iff_not, List.length_map, Bool.not_eq_true', Bool.not_eq_false'] at *; omega)]
  · rw [netOk_len (by simp only [decide_eq_true_eq, decide_eq_false_iff_not, List.length_map, Bool.not_eq_true', Bool.not_eq_false'] at *; omega)]
  · have h1 : n.flight.length ≤ 60 := (by simp only [decide_eq_true_eq, decide_eq_false_iff_not, List.length_map, Bool.not_eq_true', Bool.not_eq_false'] at *; omega)
    have h2 : n.cuts.length ≤ 15 := (by simp only [decide_eq_true_eq, decide_eq_false_iff_not, List.length_map, Bool.not_eq_true', Bool.not_eq_false'] at *; omega)
    clear h
    refine AWP.loopS (fun k : Nat => k ≤ n.flight.length ∧ ∀ (j : Nat) (hj : j < k) (hl : j < n.flight.length), msgOk n.flight[j] = true) [2, 4, 20, 21, 22, 23, 24, 25, 26, 27] (fun k => [(20, vI .i64 (k : Int))]) (fun _ => [(1, .cells 104 (n.ds.map .d))]) (fun k => n.flight.length - k) 0 ⟨by omega, by omega⟩ ?_ (SubO.cons rfl SubO.nil) (fun k hR => ?_) <;> (conv => whnf)
    · repeat' (first | exact trivial | (refine ⟨rfl, ?_⟩; conv => whnf))
    · obtain ⟨hk, hall⟩ := hR
      repeat' (first | (refine AWP.seq ?_) | ((first | refine AWP.region av_ok ?_ | refine AWP.ret ?_ | refine AWP.skip ?_ | refine AWP.exit ?_ | refine AWP.block ?_ | refine AWP.cond ?_ | refine AB.tt ?_ | refine AB.ff ?_); conv => whnf) | ((first | refine AB.ofT (by assumption) ?_ | refine AB.ofF (by assumption) ?_); conv => whnf) | (refine AIx.mapF (by simp only [decide_eq_true_eq, decide_eq_false_iff_not, List.length_map, Bool.not_eq_true', Bool.not_eq_false'] at *; omega) (fun hlt => ?_); conv => whnf) | (refine AW.i64 (by simp only [decide_eq_true_eq, decide_eq_false_iff_not, List.length_map, Bool.not_eq_true', Bool.not_eq_false'] at *; omega) (by simp only [decide_eq_true_eq, decide_eq_false_iff_not, List.length_map, Bool.not_eq_true', Bool.not_eq_false'] at *; omega) ?_; conv => whnf) | (refine ACall.pure (iMsgOk_p _) rfl ?_; conv => whnf) | (refine AFCall.mk ⟨_, _, iMsgOk_p _, .inl rfl, ?_⟩; conv => whnf) | (exact trivial) | (refine And.intro rfl ?_; conv => whnf) | (refine AB.mk (fun h => ?_) (fun h => ?_) <;> (conv => whnf)) | (with_reducible_and_instances rfl) | (exact (rfl : AP.tup _ = AP.tup _)))
      · rw [netOk_msg hlt (by simpa using h)]
      · refine ANext.mk ⟨k + 1, ⟨hlt, step_all (p := msgOk) hall hlt (by simpa using h)⟩, by omega, ?_, SubO.cons rfl SubO.nil⟩
        (conv => whnf); repeat' (first | exact trivial | (refine ⟨rfl, ?_⟩; conv => whnf))
      · have hrows := end_all (p := msgOk) hall (by simp only [decide_eq_true_eq, decide_eq_false_iff_not, List.length_map, Bool.not_eq_true', Bool.not_eq_false'] at *; omega)
        clear hall hk h
        refine AWP.loopS (fun k : Nat => k ≤ n.cuts.length ∧ ∀ (j : Nat) (hj : j < k) (hl : j < n.cuts.length), chainAt linkOk linkLess n.cuts j hl = true) [2, 5, 6, 31, 32, 33, 34, 35, 36, 37, 38, 39, 40, 41, 42, 43, 44, 45, 46, 47, 48, 49, 50, 51, 52, 53, 54, 55, 56, 57, 58, 59, 60, 61, 62, 63, 64] (fun k => [(31, vI .i64 (k : Int))]) (fun _ => [(1, .cells 104 (n.ds.map .d))]) (fun k => n.cuts.length - k) 0 ⟨by omega, by omega⟩ ?_ (SubO.cons rfl SubO.nil) (fun k hR => ?_) <;> (conv => whnf)
        · repeat' (first | exact trivial | (refine ⟨rfl, ?_⟩; conv => whnf))
        · obtain ⟨hk, hall⟩ := hR
          repeat' (first | (refine AWP.seq ?_) | ((first | refine AWP.region av_ok ?_ | refine AWP.ret ?_ | refine AWP.skip ?_ | refine AWP.exit ?_ | refine AWP.block ?_ | refine AWP.cond ?_ | refine AB.tt ?_ | refine AB.ff ?_); conv => whnf) | ((first | refine AB.ofT (by assumption) ?_ | refine AB.ofF (by assumption) ?_); conv => whnf) | (refine AWP.drawK av_ok 12 24 dk_WA2_impl_NetOk_12 fk_WA2_impl_NetOk_12 (by kernel_rfl) (by kernel_rfl) (by kernel_rfl) rfl ?_; conv => whnf) | (refine AIx.mapF (by simp only [decide_eq_true_eq, decide_eq_false_iff_not, List.length_map, Bool.not_eq_true', Bool.not_eq_false'] at *; omega) (fun hlt => ?_); conv => whnf) | (refine AIx.mapP (by simp only [decide_eq_true_eq, decide_eq_false_iff_not, List.length_map, Bool.not_eq_true', Bool.not_eq_false'] at *; omega) (by simp only [decide_eq_true_eq, decide_eq_false_iff_not, List.length_map, Bool.not_eq_true', Bool.not_eq_false'] at *; omega) (fun hpv => ?_); conv => whnf) | (refine AW.i64 (n := _ - _) (by simp only [decide_eq_true_eq, decide_eq_false_iff_not, List.length_map, Bool.not_eq_true', Bool.not_eq_false'] at *; omega) (by simp only [decide_eq_true_eq, decide_eq_false_iff_not, List.length_map, Bool.not_eq_true', Bool.not_eq_false'] at *; omega) ?_; conv => whnf) | (refine AW.i64 (by simp only [decide_eq_true_eq, decide_eq_false_iff_not, List.length_map, Bool.not_eq_true', Bool.not_eq_false'] at *; omega) (by simp only [decide_eq_true_eq, decide_eq_false_iff_not, List.length_map, Bool.not_eq_true', Bool.not_eq_false'] at *; omega) ?_; conv => whnf) | (refine ACall.pure (iapart_p _ _) rfl ?_; conv => whnf) | (refine AFCall.mk ⟨_, _, iapart_p _ _, .inl rfl, ?_⟩; conv => whnf) | (refine ACall.pure (ilinkLess_p _ _) rfl ?_; conv => whnf) | (refine AFCall.mk ⟨_, _, ilinkLess_p _ _, .inl rfl, ?_⟩; conv => whnf) | (exact trivial) | (refine And.intro rfl ?_; conv => whnf) | (refine AB.mk (fun h => ?_) (fun h => ?_) <;> (conv => whnf)) | (with_reducible_and_instances rfl) | (exact (rfl : AP.tup _ = AP.tup _)))
          all_goals first
            | (rw [netOk_cut hlt (by first | (refine chainAt_P _ ?_; simp_all [linkOk]; done) | (refine chainAt_P _ ?_; simp_all [linkOk]; omega) | (rw [chainAt_pos _ (by simp only [decide_eq_true_eq, decide_eq_false_iff_not, List.length_map, Bool.not_eq_true', Bool.not_eq_false'] at *; omega)]; simp_all [linkOk]; done) | (rw [chainAt_zero _ (by simp only [decide_eq_true_eq, decide_eq_false_iff_not, List.length_map, Bool.not_eq_true', Bool.not_eq_false'] at *; omega)]; simp_all [linkOk]; done))]; done)
            | (refine ANext.mk ⟨k + 1, ⟨hlt, step_chain hall hlt (by first | (refine chainAt_P _ ?_; simp_all [linkOk]; done) | (refine chainAt_P _ ?_; simp_all [linkOk]; omega) | (rw [chainAt_pos _ (by simp only [decide_eq_true_eq, decide_eq_false_iff_not, List.length_map, Bool.not_eq_true', Bool.not_eq_false'] at *; omega)]; simp_all [linkOk]; done) | (rw [chainAt_zero _ (by simp only [decide_eq_true_eq, decide_eq_false_iff_not, List.length_map, Bool.not_eq_true', Bool.not_eq_false'] at *; omega)]; simp_all [linkOk]; done))⟩, by omega, ?_, SubO.cons rfl SubO.nil⟩
               (conv => whnf); repeat' (first | exact trivial | (refine ⟨rfl, ?_⟩; conv => whnf)))
            | (refine rB_of ?_
               have he := end_chain hall (by simp only [decide_eq_true_eq, decide_eq_false_iff_not, List.length_map, Bool.not_eq_true', Bool.not_eq_false'] at *; omega)
               simp only [netOk, hrows, h1, h2, decide_true, Bool.and_self, Bool.true_and, he])
set_option maxHeartbeats 2000000 in
theorem sNetOk_p (n : DNet) : PCall av 58 [.agg n.ds] (rB (netOk n)) := by
  refine pcall_of av_ok Tryz.func58 rfl Tryz.call58 Tryz.ntmps58 (congrArg Array.toList Tryz.results58) fun S => ?_; conv => whnf
  repeat' (first | (refine AWP.seq ?_) | ((first | refine AWP.region av_ok ?_ | refine AWP.ret ?_ | refine AWP.skip ?_ | refine AWP.exit ?_ | refine AWP.block ?_ | refine AWP.cond ?_ | refine AB.tt ?_ | refine AB.ff ?_); conv => whnf) | ((first | refine AB.ofT (by assumption) ?_ | refine AB.ofF (by assumption) ?_); conv => whnf) | (exact trivial) | (refine And.intro rfl ?_; conv => whnf) | (refine AB.mk (fun h => ?_) (fun h => ?_) <;> (conv => whnf)) | (with_reducible_and_instances rfl) | (exact (rfl : AP.tup _ = AP.tup _)))
  · rw [netOk_len (by simp only [decide_eq_true_eq, decide_eq_false_iff_not, List.length_map, Bool.not_eq_true', Bool.not_eq_false'] at *; omega)]
  · rw [netOk_len (by simp only [decide_eq_true_eq, decide_eq_false_iff_not, List.length_map, Bool.not_eq_true', Bool.not_eq_false'] at *; omega)]
  · have h1 : n.flight.length ≤ 60 := (by simp only [decide_eq_true_eq, decide_eq_false_iff_not, List.length_map, Bool.not_eq_true', Bool.not_eq_false'] at *; omega)
    have h2 : n.cuts.length ≤ 15 := (by simp only [decide_eq_true_eq, decide_eq_false_iff_not, List.length_map, Bool.not_eq_true', Bool.not_eq_false'] at *; omega)
    clear h
    refine AWP.loopS (fun k : Nat => k ≤ n.flight.length ∧ ∀ (j : Nat) (hj : j < k) (hl : j < n.flight.length), msgOk n.flight[j] = true) [2, 3, 16, 17, 18, 19, 20, 21, 22, 23, 24, 25, 26, 27, 28, 29] (fun k => [(3, vI .i64 (k : Int))]) (fun _ => [(1, .cells 104 (n.ds.map .d))]) (fun k => n.flight.length - k) 0 ⟨by omega, by omega⟩ ?_ (SubO.cons rfl SubO.nil) (fun k hR => ?_) <;> (conv => whnf)
    · repeat' (first | exact trivial | (refine ⟨rfl, ?_⟩; conv => whnf))
    · obtain ⟨hk, hall⟩ := hR
      repeat' (first | (refine AWP.seq ?_) | ((first | refine AWP.region av_ok ?_ | refine AWP.ret ?_ | refine AWP.skip ?_ | refine AWP.exit ?_ | refine AWP.block ?_ | refine AWP.cond ?_ | refine AB.tt ?_ | refine AB.ff ?_); conv => whnf) | ((first | refine AB.ofT (by assumption) ?_ | refine AB.ofF (by assumption) ?_); conv => whnf) | (refine AIx.mapF (by simp only [decide_eq_true_eq, decide_eq_false_iff_not, List.length_map, Bool.not_eq_true', Bool.not_eq_false'] at *; omega) (fun hlt => ?_); conv => whnf) | (refine AW.i64 (by simp only [decide_eq_true_eq, decide_eq_false_iff_not, List.length_map, Bool.not_eq_true', Bool.not_eq_false'] at *; omega) (by simp only [decide_eq_true_eq, decide_eq_false_iff_not, List.length_map, Bool.not_eq_true', Bool.not_eq_false'] at *; omega) ?_; conv => whnf) | (refine ACall.pure (sMsgOk_p _) rfl ?_; conv => whnf) | (refine AFCall.mk ⟨_, _, sMsgOk_p _, .inl rfl, ?_⟩; conv => whnf) | (exact trivial) | (refine And.intro rfl ?_; conv => whnf) | (refine AB.mk (fun h => ?_) (fun h => ?_) <;> (conv => whnf)) | (with_reducible_and_instances rfl) | (exact (rfl : AP.tup _ = AP.tup _)))
      · rw [netOk_msg hlt (by simpa using h)]
      · refine ANext.mk ⟨k + 1, ⟨hlt, step_all (p := msgOk) hall hlt (by simpa using h)⟩, by omega, ?_, SubO.cons rfl SubO.nil⟩
        (conv => whnf); repeat' (first | exact trivial | (refine ⟨rfl, ?_⟩; conv => whnf))
      · have hrows := end_all (p := msgOk) hall (by simp only [decide_eq_true_eq, decide_eq_false_iff_not, List.length_map, Bool.not_eq_true', Bool.not_eq_false'] at *; omega)
        clear hall hk h
        refine AWP.loopS (fun k : Nat => k ≤ n.cuts.length ∧ ∀ (j : Nat) (hj : j < k) (hl : j < n.cuts.length), chainAt linkOk linkLess n.cuts j hl = true) [2, 4, 5, 30, 31, 32, 33, 34, 35, 36, 37, 38, 39, 40, 41, 42, 43, 44, 45, 46, 47, 48, 49, 50, 51, 52, 53, 54, 55, 56, 57, 58, 59, 60, 61, 62, 63, 64, 65, 66, 67, 68, 69, 70, 71, 72, 73] (fun k => [(4, vI .i64 (k : Int))]) (fun _ => [(1, .cells 104 (n.ds.map .d))]) (fun k => n.cuts.length - k) 0 ⟨by omega, by omega⟩ ?_ (SubO.cons rfl SubO.nil) (fun k hR => ?_) <;> (conv => whnf)
        · repeat' (first | exact trivial | (refine ⟨rfl, ?_⟩; conv => whnf))
        · obtain ⟨hk, hall⟩ := hR
          repeat' (first | (refine AWP.seq ?_) | ((first | refine AWP.region av_ok ?_ | refine AWP.ret ?_ | refine AWP.skip ?_ | refine AWP.exit ?_ | refine AWP.block ?_ | refine AWP.cond ?_ | refine AB.tt ?_ | refine AB.ff ?_); conv => whnf) | ((first | refine AB.ofT (by assumption) ?_ | refine AB.ofF (by assumption) ?_); conv => whnf) | (refine AWP.drawK av_ok 12 28 dk_WA2_spec_NetOk_12 fk_WA2_spec_NetOk_12 (by kernel_rfl) (by kernel_rfl) (by kernel_rfl) rfl ?_; conv => whnf) | (refine AIx.mapF (by simp only [decide_eq_true_eq, decide_eq_false_iff_not, List.length_map, Bool.not_eq_true', Bool.not_eq_false'] at *; omega) (fun hlt => ?_); conv => whnf) | (refine AIx.mapP (by simp only [decide_eq_true_eq, decide_eq_false_iff_not, List.length_map, Bool.not_eq_true', Bool.not_eq_false'] at *; omega) (by simp only [decide_eq_true_eq, decide_eq_false_iff_not, List.length_map, Bool.not_eq_true', Bool.not_eq_false'] at *; omega) (fun hpv => ?_); conv => whnf) | (refine AW.i64 (n := _ - _) (by simp only [decide_eq_true_eq, decide_eq_false_iff_not, List.length_map, Bool.not_eq_true', Bool.not_eq_false'] at *; omega) (by simp only [decide_eq_true_eq, decide_eq_false_iff_not, List.length_map, Bool.not_eq_true', Bool.not_eq_false'] at *; omega) ?_; conv => whnf) | (refine AW.i64 (by simp only [decide_eq_true_eq, decide_eq_false_iff_not, List.length_map, Bool.not_eq_true', Bool.not_eq_false'] at *; omega) (by simp only [decide_eq_true_eq, decide_eq_false_iff_not, List.length_map, Bool.not_eq_true', Bool.not_eq_false'] at *; omega) ?_; conv => whnf) | (refine ACall.pure (sl5Node_p _) rfl ?_; conv => whnf) | (refine AFCall.mk ⟨_, _, sl5Node_p _, .inl rfl, ?_⟩; conv => whnf) | (refine ACall.pure (sl5LinkLess_p _ _) rfl ?_; conv => whnf) | (refine AFCall.mk ⟨_, _, sl5LinkLess_p _ _, .inl rfl, ?_⟩; conv => whnf) | (exact trivial) | (refine And.intro rfl ?_; conv => whnf) | (refine AB.mk (fun h => ?_) (fun h => ?_) <;> (conv => whnf)) | (with_reducible_and_instances rfl) | (exact (rfl : AP.tup _ = AP.tup _)))
          all_goals first
            | (rw [netOk_cut hlt (by first | (refine chainAt_P _ ?_; simp_all [linkOk, apartB]; done) | (refine chainAt_P _ ?_; simp_all [linkOk, apartB]; intros; omega) | (rw [chainAt_pos _ (by simp only [decide_eq_true_eq, decide_eq_false_iff_not, List.length_map, Bool.not_eq_true', Bool.not_eq_false'] at *; omega)]; simp_all [linkOk, apartB]; done) | (rw [chainAt_zero _ (by simp only [decide_eq_true_eq, decide_eq_false_iff_not, List.length_map, Bool.not_eq_true', Bool.not_eq_false'] at *; omega)]; simp_all [linkOk, apartB]; done) | (rw [chainAt_pos _ (by simp only [decide_eq_true_eq, decide_eq_false_iff_not, List.length_map, Bool.not_eq_true', Bool.not_eq_false'] at *; omega)]; simp_all [linkOk, apartB]; omega) | (rw [chainAt_zero _ (by simp only [decide_eq_true_eq, decide_eq_false_iff_not, List.length_map, Bool.not_eq_true', Bool.not_eq_false'] at *; omega)]; simp_all [linkOk, apartB]; omega))]; done)
            | (refine ANext.mk ⟨k + 1, ⟨hlt, step_chain hall hlt (by first | (refine chainAt_P _ ?_; simp_all [linkOk, apartB]; done) | (refine chainAt_P _ ?_; simp_all [linkOk, apartB]; intros; omega) | (rw [chainAt_pos _ (by simp only [decide_eq_true_eq, decide_eq_false_iff_not, List.length_map, Bool.not_eq_true', Bool.not_eq_false'] at *; omega)]; simp_all [linkOk, apartB]; done) | (rw [chainAt_zero _ (by simp only [decide_eq_true_eq, decide_eq_false_iff_not, List.length_map, Bool.not_eq_true', Bool.not_eq_false'] at *; omega)]; simp_all [linkOk, apartB]; done) | (rw [chainAt_pos _ (by simp only [decide_eq_true_eq, decide_eq_false_iff_not, List.length_map, Bool.not_eq_true', Bool.not_eq_false'] at *; omega)]; simp_all [linkOk, apartB]; omega) | (rw [chainAt_zero _ (by simp only [decide_eq_true_eq, decide_eq_false_iff_not, List.length_map, Bool.not_eq_true', Bool.not_eq_false'] at *; omega)]; simp_all [linkOk, apartB]; omega))⟩, by omega, ?_, SubO.cons rfl SubO.nil⟩
               (conv => whnf); repeat' (first | exact trivial | (refine ⟨rfl, ?_⟩; conv => whnf)))
            | (refine rB_of ?_
               have he := end_chain hall (by simp only [decide_eq_true_eq, decide_eq_false_iff_not, List.length_map, Bool.not_eq_true', Bool.not_eq_false'] at *; omega)
               simp only [netOk, hrows, h1, h2, decide_true, Bool.and_self, Bool.true_and, he])
theorem clocksOk_len {l : List Int} (h : l.length ≠ 6) : clocksOk l = false := by simp [clocksOk, h]
theorem clocksOk_no {l : List Int} {k : Nat} (hk : k < l.length) (h : tOk l[k] = false) : clocksOk l = false := by
  have := all_no (p := tOk) hk h
  simp only [clocksOk, this, Bool.and_false]
theorem iClocksOk_p (l : List Int) : PCall av 72 [.one (dIs l)] (rB (clocksOk l)) := by
  refine pcall_of av_ok Tryz.func72 rfl Tryz.call72 Tryz.ntmps72 (congrArg Array.toList Tryz.results72) fun S => ?_; conv => whnf
  repeat' (first | (refine AWP.seq ?_) | ((first | refine AWP.region av_ok ?_ | refine AWP.ret ?_ | refine AWP.skip ?_ | refine AWP.exit ?_ | refine AWP.block ?_ | refine AWP.cond ?_ | refine AB.tt ?_ | refine AB.ff ?_); conv => whnf) | ((first | refine AB.ofT (by assumption) ?_ | refine AB.ofF (by assumption) ?_); conv => whnf) | (exact trivial) | (refine And.intro rfl ?_; conv => whnf) | (refine AB.mk (fun h => ?_) (fun h => ?_) <;> (conv => whnf)) | (with_reducible_and_instances rfl) | (exact (rfl : AP.tup _ = AP.tup _)))
  · rw [clocksOk_len (by simp only [bne_iff_ne, ne_eq, decide_eq_true_eq, decide_eq_false_iff_not, beq_iff_eq, beq_eq_false_iff_ne, List.length_map, Bool.not_eq_true', Bool.not_eq_false', bne_eq_false_iff_eq] at *; omega)]
  · have h1 : l.length = 6 := (by simp only [bne_iff_ne, ne_eq, decide_eq_true_eq, decide_eq_false_iff_not, beq_iff_eq, beq_eq_false_iff_ne, List.length_map, Bool.not_eq_true', Bool.not_eq_false', bne_eq_false_iff_eq] at *; omega)
    clear h
    refine AWP.loopS (fun k : Nat => k ≤ l.length ∧ ∀ (j : Nat) (hj : j < k) (hl : j < l.length), tOk l[j] = true) [2, 4, 10, 11, 12, 13, 14, 15, 16, 17] (fun k => [(10, vI .i64 (k : Int))]) (fun _ => []) (fun k => l.length - k) 0 ⟨by omega, by omega⟩ ?_ SubO.nil (fun k hR => ?_) <;> (conv => whnf)
    · repeat' (first | exact trivial | (refine ⟨rfl, ?_⟩; conv => whnf))
    · obtain ⟨hk, hall⟩ := hR
      repeat' (first | (refine AWP.seq ?_) | ((first | refine AWP.region av_ok ?_ | refine AWP.ret ?_ | refine AWP.skip ?_ | refine AWP.exit ?_ | refine AWP.block ?_ | refine AWP.cond ?_ | refine AB.tt ?_ | refine AB.ff ?_); conv => whnf) | ((first | refine AB.ofT (by assumption) ?_ | refine AB.ofF (by assumption) ?_); conv => whnf) | (refine AIx.mapF (by simp only [decide_eq_true_eq, decide_eq_false_iff_not, List.length_map, Bool.not_eq_true', Bool.not_eq_false'] at *; omega) (fun hlt => ?_); conv => whnf) | (refine AW.i64 (by simp only [decide_eq_true_eq, decide_eq_false_iff_not, List.length_map, Bool.not_eq_true', Bool.not_eq_false'] at *; omega) (by simp only [decide_eq_true_eq, decide_eq_false_iff_not, List.length_map, Bool.not_eq_true', Bool.not_eq_false'] at *; omega) ?_; conv => whnf) | (refine ACall.pure (iTimeOk_p _) rfl ?_; conv => whnf) | (refine AFCall.mk ⟨_, _, iTimeOk_p _, .inl rfl, ?_⟩; conv => whnf) | (exact trivial) | (refine And.intro rfl ?_; conv => whnf) | (refine AB.mk (fun h => ?_) (fun h => ?_) <;> (conv => whnf)) | (with_reducible_and_instances rfl) | (exact (rfl : AP.tup _ = AP.tup _)))
      · rw [clocksOk_no hlt (by simpa [tOk] using h)]
      · refine ANext.mk ⟨k + 1, ⟨hlt, step_all (p := tOk) hall hlt (by simpa [tOk] using h)⟩, by omega, ?_, SubO.nil⟩
        (conv => whnf); repeat' (first | exact trivial | (refine ⟨rfl, ?_⟩; conv => whnf))
      · refine rB_of ?_
        simp only [clocksOk, end_all (p := tOk) hall (by simp only [decide_eq_true_eq, decide_eq_false_iff_not, List.length_map, Bool.not_eq_true', Bool.not_eq_false'] at *; omega), h1, decide_true, Bool.and_self]
theorem sl22Clocks_p (l : List Int) (h6 : l.length = 6) : PCall av 53 [.one (dIs l)] (rB (clocksOk l)) := by
  refine pcall_of av_ok Tryz.func53 rfl Tryz.call53 Tryz.ntmps53 (congrArg Array.toList Tryz.results53) fun S => ?_; conv => whnf
  repeat' (first | (refine AWP.seq ?_) | ((first | refine AWP.region av_ok ?_ | refine AWP.ret ?_ | refine AWP.skip ?_ | refine AWP.exit ?_ | refine AWP.block ?_ | refine AWP.cond ?_ | refine AB.tt ?_ | refine AB.ff ?_); conv => whnf) | ((first | refine AB.ofT (by assumption) ?_ | refine AB.ofF (by assumption) ?_); conv => whnf) | (exact trivial) | (refine And.intro rfl ?_; conv => whnf) | (refine AB.mk (fun h => ?_) (fun h => ?_) <;> (conv => whnf)) | (with_reducible_and_instances rfl) | (exact (rfl : AP.tup _ = AP.tup _)))
  refine AWP.loopS (fun k : Nat => k ≤ l.length ∧ ∀ (j : Nat) (hj : j < k) (hl : j < l.length), tOk l[j] = true) [2, 3, 4, 5, 6, 7, 8, 9, 10, 11, 12, 13, 14, 15] (fun k => [(3, vI .i64 (k : Int))]) (fun _ => []) (fun k => l.length - k) 0 ⟨by omega, by omega⟩ ?_ SubO.nil (fun k hR => ?_) <;> (conv => whnf)
  · repeat' (first | exact trivial | (refine ⟨rfl, ?_⟩; conv => whnf))
  · obtain ⟨hk, hall⟩ := hR
    repeat' (first | (refine AWP.seq ?_) | ((first | refine AWP.region av_ok ?_ | refine AWP.ret ?_ | refine AWP.skip ?_ | refine AWP.exit ?_ | refine AWP.block ?_ | refine AWP.cond ?_ | refine AB.tt ?_ | refine AB.ff ?_); conv => whnf) | ((first | refine AB.ofT (by assumption) ?_ | refine AB.ofF (by assumption) ?_); conv => whnf) | (refine AIx.mapF (by simp only [decide_eq_true_eq, decide_eq_false_iff_not, List.length_map, Bool.not_eq_true', Bool.not_eq_false'] at *; omega) (fun hlt => ?_); conv => whnf) | (refine AW.i64 (by simp only [decide_eq_true_eq, decide_eq_false_iff_not, List.length_map, Bool.not_eq_true', Bool.not_eq_false'] at *; omega) (by simp only [decide_eq_true_eq, decide_eq_false_iff_not, List.length_map, Bool.not_eq_true', Bool.not_eq_false'] at *; omega) ?_; conv => whnf) | (refine ACall.pure (sTimeOk_p _) rfl ?_; conv => whnf) | (refine AFCall.mk ⟨_, _, sTimeOk_p _, .inl rfl, ?_⟩; conv => whnf) | (exact trivial) | (refine And.intro rfl ?_; conv => whnf) | (refine AB.mk (fun h => ?_) (fun h => ?_) <;> (conv => whnf)) | (with_reducible_and_instances rfl) | (exact (rfl : AP.tup _ = AP.tup _)))
    all_goals first
      | (rw [clocksOk_no hlt (by simpa [tOk] using h)]; done)
      | (refine ANext.mk ⟨k + 1, ⟨hlt, step_all (p := tOk) hall hlt (by simpa [tOk] using h)⟩, by omega, ?_, SubO.nil⟩
         (conv => whnf); repeat' (first | exact trivial | (refine ⟨rfl, ?_⟩; conv => whnf)))
      | (refine rB_of ?_
         simp only [clocksOk, end_all (p := tOk) hall (by simp only [decide_eq_true_eq, decide_eq_false_iff_not, List.length_map, Bool.not_eq_true', Bool.not_eq_false'] at *; omega), Bool.and_true]
         simp only [List.length_map]
         first | omega | (rw [Bool.eq_iff_iff]; simp only [beq_iff_eq, decide_eq_true_eq]; omega))
end Go.Proofs.YthmckpghadfeeaaGreat
