/- The words of the nodes: NodeWord of the program and of the reference give the same bytes. -/
import Derived.Test.YtlhanpkfnhnegaaDoorRow
set_option linter.unusedVariables false
set_option linter.unusedSimpArgs false
namespace Go.Proofs.YtlhanpkfnhnegaaDoor
open Go.ChangeShapes Go.WideShapes Go.RowKit

def nodeWordB (x : Int) : ByteArray :=
  if x = 0 then ⟨#[108, 111, 103]⟩ else if x = 1 then ⟨#[115, 116, 111, 114, 101]⟩ else if x = 2 then ⟨#[108, 101, 102, 116]⟩ else if x = 3 then ⟨#[114, 105, 103, 104, 116]⟩ else if x = 4 then ⟨#[97, 110, 110]⟩ else if x = 5 then ⟨#[98, 111, 98]⟩ else ⟨#[]⟩

theorem nodeWordB_out {x : Int} (h : ¬ (0 ≤ x ∧ x ≤ 5)) : nodeWordB x = ⟨#[]⟩ := by
  unfold nodeWordB
  repeat rw [if_neg (by omega)]
theorem node_cases {x : Int} (h : 0 ≤ x ∧ x ≤ 5) : x = 0 ∨ x = 1 ∨ x = 2 ∨ x = 3 ∨ x = 4 ∨ x = 5 := by omega

theorem sNodeWord_calls (x : Int) (w : World) :
    Calls Tryd.prog 74 #[.int .i64 x] w fun e w' => e = .returned (.string (nodeWordB x)) ∧ Below w.heap.size w w' := by
  by_cases h : 0 ≤ x ∧ x ≤ 5
  · rcases node_cases h with rfl | rfl | rfl | rfl | rfl | rfl
    all_goals
      go_enter Tryd.func74, Tryd.ntmps74
      go_wp2_with (first | (go_at_call 125; refine (l5Node_calls _ _ true (by decide)).mono ?_; rintro e w' ⟨rfl, rfl⟩) | go_in)
      go_ret
      exact ⟨rfl, (Below.refl _ _).alloc (Nat.le_refl _) _⟩
  · have H := Lib.hid (nodeWordB_out h)
    have hf := Lib.hid (betweenB_false h)
    clear h
    go_enter Tryd.func74, Tryd.ntmps74
    go_wp2_with (first | (go_at_call 125; refine (l5Node_calls _ _ false hf.out).mono ?_; rintro e w' ⟨rfl, rfl⟩) | go_in)
    go_ret
    exact ⟨by rw [H.out]; rfl, Below.refl _ _⟩
theorem iNodeWord_calls (x : Int) (w : World) :
    Calls Tryd.prog 77 #[.int .i64 x] w fun e w' => e = .returned (.string (nodeWordB x)) ∧ Below w.heap.size w w' := by
  by_cases h : 0 ≤ x ∧ x ≤ 5
  · rcases node_cases h with rfl | rfl | rfl | rfl | rfl | rfl
    all_goals
      go_enter Tryd.func77, Tryd.ntmps77
      go_wp2_with (first | (go_at_call 131; refine (nodeOk_calls _ _ true (by decide)).mono ?_; rintro e w' ⟨rfl, rfl⟩) | go_in)
      go_ret
      exact ⟨rfl, (Below.refl _ _).alloc (Nat.le_refl _) _⟩
  · have H := Lib.hid (nodeWordB_out h)
    have hf := Lib.hid (betweenB_false h)
    clear h
    go_enter Tryd.func77, Tryd.ntmps77
    go_wp2_with (first | (go_at_call 131; refine (nodeOk_calls _ _ false hf.out).mono ?_; rintro e w' ⟨rfl, rfl⟩) | go_in)
    go_ret
    exact ⟨by rw [H.out]; rfl, Below.refl _ _⟩
def nodeWordsL : List ByteArray := [⟨#[108, 111, 103]⟩, ⟨#[115, 116, 111, 114, 101]⟩, ⟨#[108, 101, 102, 116]⟩, ⟨#[114, 105, 103, 104, 116]⟩, ⟨#[97, 110, 110]⟩, ⟨#[98, 111, 98]⟩]
def nodeOfZ (s : ByteArray) : Int := idxFrom s 0 nodeWordsL

theorem sNodes_calls (w : World) :
    Calls Tryd.prog 126 #[] w fun e w' => e = .returned (.slice (some ⟨w.heap.size, 0, none⟩) nodeWordsL.length 6) ∧ Row w' (some ⟨w.heap.size, 0, none⟩) (nodeWordsL.map Value.string) ∧ Below w.heap.size w w' := by
  go_enter Tryd.func126, Tryd.ntmps126
  go_wp2
  go_ret
  exact ⟨rfl, Row.new _ _ _, (Below.refl _ _).alloc (Nat.le_refl _) _⟩
theorem iNodes_calls (w : World) :
    Calls Tryd.prog 132 #[] w fun e w' => e = .returned (.slice (some ⟨w.heap.size, 0, none⟩) nodeWordsL.length 6) ∧ Row w' (some ⟨w.heap.size, 0, none⟩) (nodeWordsL.map Value.string) ∧ Below w.heap.size w w' := by
  go_enter Tryd.func132, Tryd.ntmps132
  go_wp2
  go_ret
  exact ⟨rfl, Row.new _ _ _, (Below.refl _ _).alloc (Nat.le_refl _) _⟩
theorem sNodeOf_calls (s : ByteArray) (w : World) :
    Calls Tryd.prog 104 #[.string s] w fun e w' => e = .returned (.int .i64 (nodeOfZ s)) ∧ Below w.heap.size w w' := by
  go_enter Tryd.func104, Tryd.ntmps104
  go_wp2_with fail
  refine (sNodes_calls _).mono ?_; rintro e w1 ⟨rfl, hrow, hb1⟩
  go_wp2_with fail
  refine (l1At_calls nodeWordsL s _ _ _ hrow (by decide)).mono ?_; rintro e w2 ⟨rfl, rfl⟩
  go_wp2_with fail
  go_ret
  exact ⟨rfl, hb1⟩
theorem iNodeOf_calls (s : ByteArray) (w : World) :
    Calls Tryd.prog 146 #[.string s] w fun e w' => e = .returned (.int .i64 (nodeOfZ s)) ∧ Below w.heap.size w w' := by
  go_enter Tryd.func146, Tryd.ntmps146
  go_wp2_with fail
  refine (iNodes_calls _).mono ?_; rintro e w1 ⟨rfl, hrow, hb1⟩
  go_wp2_with fail
  refine (slIndexStr_calls nodeWordsL s _ _ _ hrow (by decide)).mono ?_; rintro e w2 ⟨rfl, rfl⟩
  go_wp2_with fail
  go_ret
  exact ⟨rfl, hb1⟩
end Go.Proofs.YtlhanpkfnhnegaaDoor
