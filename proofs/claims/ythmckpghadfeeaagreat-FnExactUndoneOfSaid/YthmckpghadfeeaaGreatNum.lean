/- Contracts of the smallest functions: between, nodeOk, l1In, l5Node. -/
import Derived.Test.YthmckpghadfeeaaGreatRows
import Derived.WalkKit
import Derived.WalkLawsBesides
import Derived.WalkSpells
import Derived.Lib.Hide
set_option linter.unusedVariables false
set_option linter.unusedSimpArgs false
namespace Go.Proofs.YthmckpghadfeeaaGreat
open Go.ChangeShapes Go.WideShapes Go.RowKit

def betweenB (x lo hi : Int) : Bool := decide (lo ≤ x) && decide (x ≤ hi)
theorem betweenB_true {x lo hi : Int} (h1 : lo ≤ x) (h2 : x ≤ hi) : betweenB x lo hi = true := by simp [betweenB, h1, h2]
theorem betweenB_false {x lo hi : Int} (h : ¬ (lo ≤ x ∧ x ≤ hi)) : betweenB x lo hi = false := by simp only [betweenB, Bool.and_eq_false_iff, decide_eq_false_iff_not]; omega
theorem betweenB_iff {x lo hi : Int} : betweenB x lo hi = true ↔ lo ≤ x ∧ x ≤ hi := by simp [betweenB]

theorem between_calls (x lo hi : Int) (w : World) (b : Bool) (hb : betweenB x lo hi = b) :
    Calls Tryz.prog 151 #[.int .i64 x, .int .i64 lo, .int .i64 hi] w fun e w' => e = .returned (.bool b) ∧ w = w' := by
  subst hb
  by_cases h1 : lo ≤ x
  · by_cases h2 : x ≤ hi
    · rw [betweenB_true h1 h2]
      go_enter Tryz.func151, Tryz.ntmps151
      go_wp2
      go_ret
      exact ⟨rfl, rfl⟩
    · rw [betweenB_false (x := x) (lo := lo) (hi := hi) (by omega)]
      go_enter Tryz.func151, Tryz.ntmps151
      go_wp2
      go_ret
      exact ⟨by simp, rfl⟩
  · rw [betweenB_false (x := x) (lo := lo) (hi := hi) (by omega)]
    go_enter Tryz.func151, Tryz.ntmps151
    go_wp2
    go_ret
    exact ⟨by simp, rfl⟩
theorem l1In_calls (x lo hi : Int) (w : World) (b : Bool) (hb : betweenB x lo hi = b) :
    Calls Tryz.prog 150 #[.int .i64 x, .int .i64 lo, .int .i64 hi] w fun e w' => e = .returned (.bool b) ∧ w = w' := by
  subst hb
  by_cases h1 : lo ≤ x
  · by_cases h2 : x ≤ hi
    · rw [betweenB_true h1 h2]
      go_enter Tryz.func150, Tryz.ntmps150
      go_wp2
      go_ret
      exact ⟨rfl, rfl⟩
    · rw [betweenB_false (x := x) (lo := lo) (hi := hi) (by omega)]
      go_enter Tryz.func150, Tryz.ntmps150
      go_wp2
      go_ret
      exact ⟨by simp, rfl⟩
  · rw [betweenB_false (x := x) (lo := lo) (hi := hi) (by omega)]
    go_enter Tryz.func150, Tryz.ntmps150
    go_wp2
    go_ret
    exact ⟨by simp, rfl⟩
theorem nodeOk_calls (x : Int) (w : World) (b : Bool) (hb : betweenB x 0 5 = b) :
    Calls Tryz.prog 92 #[.int .i64 x] w fun e w' => e = .returned (.bool b) ∧ w = w' := by
  have H := Lib.hid hb
  clear hb
  go_enter Tryz.func92, Tryz.ntmps92
  go_wp2_with (go_at_call 151; refine (between_calls _ _ _ _ b H.out).mono ?_; rintro e w' ⟨rfl, rfl⟩)
  go_ret
  exact ⟨rfl, rfl⟩
theorem l5Node_calls (x : Int) (w : World) (b : Bool) (hb : betweenB x 0 5 = b) :
    Calls Tryz.prog 110 #[.int .i64 x] w fun e w' => e = .returned (.bool b) ∧ w = w' := by
  have H := Lib.hid hb
  clear hb
  go_enter Tryz.func110, Tryz.ntmps110
  go_wp2_with (go_at_call 150; refine (l1In_calls _ _ _ _ b H.out).mono ?_; rintro e w' ⟨rfl, rfl⟩)
  go_ret
  exact ⟨rfl, rfl⟩
end Go.Proofs.YthmckpghadfeeaaGreat
