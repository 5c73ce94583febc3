/- Words of operations and their numbers. -/
import Derived.Test.YtlhanpkfnhnegaaDoorText2
set_option linter.unusedVariables false
set_option linter.unusedSimpArgs false
set_option maxRecDepth 100000
namespace Go.Proofs.YtlhanpkfnhnegaaDoor
open Go.ChangeShapes Go.WideShapes Go.RowKit

def opWordL (k : Int) : List UInt8 := if k = 1 then [112, 117, 116] else if k = 2 then [99, 117, 116] else if k = 3 then [106, 111, 98] else if k = 4 then [102, 105, 114, 101] else if k = 5 then [108, 101, 97, 115, 101] else []
def opManyN (k : Int) : Nat := if k = 1 then 2 else if k = 2 then 1 else if k = 3 then 4 else if k = 4 then 2 else if k = 5 then 1 else 0
theorem op_cases {x : Int} (h : 1 ≤ x ∧ x ≤ 5) : x = 1 ∨ x = 2 ∨ x = 3 ∨ x = 4 ∨ x = 5 := by omega
theorem opWordL_out {x : Int} (h : ¬ (1 ≤ x ∧ x ≤ 5)) : opWordL x = [] := by
  unfold opWordL
  repeat rw [if_neg (by omega)]
theorem opManyN_out {x : Int} (h : ¬ (1 ≤ x ∧ x ≤ 5)) : opManyN x = 0 := by
  unfold opManyN
  repeat rw [if_neg (by omega)]
theorem sOpWord_calls (x : Int) (w : World) : Calls Tryd.prog 64 #[.int .i64 x] w (OutStr (opWordL x) w) := by
  by_cases h : 1 ≤ x ∧ x ≤ 5
  · rcases op_cases h with rfl | rfl | rfl | rfl | rfl
    all_goals
      go_enter Tryd.func64, Tryd.ntmps64
      go_wp2_with (first | (go_at_call 116; refine (l1In_calls _ _ _ _ true (by decide)).mono ?_; rintro e w' ⟨rfl, rfl⟩) | go_in)
      go_ret
      exact ⟨rfl, (Below.refl _ _).alloc (Nat.le_refl _) _⟩
  · have H := Lib.hid (opWordL_out h)
    have hf := Lib.hid (betweenB_false h)
    clear h
    go_enter Tryd.func64, Tryd.ntmps64
    go_wp2_with (first | (go_at_call 116; refine (l1In_calls _ _ _ _ false hf.out).mono ?_; rintro e w' ⟨rfl, rfl⟩) | go_in)
    go_ret
    exact ⟨by rw [H.out]; rfl, Below.refl _ _⟩
theorem iOpWord_calls (x : Int) (w : World) : Calls Tryd.prog 69 #[.int .i64 x] w (OutStr (opWordL x) w) := by
  by_cases h : 1 ≤ x ∧ x ≤ 5
  · rcases op_cases h with rfl | rfl | rfl | rfl | rfl
    all_goals
      go_enter Tryd.func69, Tryd.ntmps69
      go_wp2
      go_ret
      exact ⟨rfl, Below.refl _ _⟩
  · have H := Lib.hid (opWordL_out h)
    have g1 : (x == 1) = false := by simp; omega
    have g2 : (x == 2) = false := by simp; omega
    have g3 : (x == 3) = false := by simp; omega
    have g4 : (x == 4) = false := by simp; omega
    have g5 : (x == 5) = false := by simp; omega
    clear h
    go_enter Tryd.func69, Tryd.ntmps69
    go_wp2
    go_ret
    exact ⟨by rw [H.out]; rfl, Below.refl _ _⟩
theorem iopFields_calls (x : Int) (w : World) : Calls Tryd.prog 72 #[.int .i64 x] w fun e w' => e = .returned (.int .i64 (opManyN x)) ∧ w = w' := by
  by_cases h : 1 ≤ x ∧ x ≤ 5
  · rcases op_cases h with rfl | rfl | rfl | rfl | rfl
    all_goals
      go_enter Tryd.func72, Tryd.ntmps72
      go_wp2
      go_ret
      exact ⟨rfl, rfl⟩
  · have H := Lib.hid (opManyN_out h)
    have g1 : (x == 1) = false := by simp; omega
    have g2 : (x == 2) = false := by simp; omega
    have g3 : (x == 3) = false := by simp; omega
    have g4 : (x == 4) = false := by simp; omega
    have g5 : (x == 5) = false := by simp; omega
    clear h
    go_enter Tryd.func72, Tryd.ntmps72
    go_wp2
    go_ret
    exact ⟨by rw [H.out]; rfl, rfl⟩
theorem sl32OpMany_calls (x : Int) (w : World) (h : 1 ≤ x ∧ x ≤ 5) : Calls Tryd.prog 65 #[.int .i64 x] w fun e w' => e = .returned (.int .i64 (opManyN x)) ∧ Below w.heap.size w w' := by
  rcases op_cases h with rfl | rfl | rfl | rfl | rfl
  all_goals
    go_enter Tryd.func65, Tryd.ntmps65
    go_wp2
    go_ret
    exact ⟨rfl, (Below.refl _ _).alloc (Nat.le_refl _) _⟩
def DOp.nums (o : DOp) : List Int := [o.kind, o.a, o.b, o.c, o.d]
def DOp.vals (o : DOp) : Array Value := #[.int .i64 o.kind, .int .i64 o.a, .int .i64 o.b, .int .i64 o.c, .int .i64 o.d]
def DOp.ok64 (o : DOp) : Prop := (Lit.int .i64 o.kind).wf = true ∧ (Lit.int .i64 o.a).wf = true ∧ (Lit.int .i64 o.b).wf = true ∧ (Lit.int .i64 o.c).wf = true ∧ (Lit.int .i64 o.d).wf = true
theorem iOpNumbers_calls (o : DOp) (w : World) : Calls Tryd.prog 71 #[.agg #[.int .i64 o.kind, .int .i64 o.a, .int .i64 o.b, .int .i64 o.c, .int .i64 o.d]] w fun e w' => ∃ g, w.heap.size ≤ g ∧ e = .returned (.slice (some ⟨g, 0, none⟩) 5 5) ∧ Row w' (some ⟨g, 0, none⟩) (o.nums.map (.int .i64)) ∧ Below w.heap.size w w' := by
  obtain ⟨k, a, b, c, d⟩ := o
  go_enter Tryd.func71, Tryd.ntmps71
  go_wp2
  go_ret
  exact ⟨_, (by simp), rfl, (row_one_at (by first | rfl | (simp; done) | simp [World.setCell])), (by repeat (first | with_reducible exact Below.refl _ _ | with_reducible assumption | (with_reducible refine Below.drew ?_) | (with_reducible refine Below.alloc ?_ (by first | with_reducible exact Nat.le_refl _ | omega | (simp; done) | (simp; omega) | (simp [World.setCell]; omega) | (simp [World.setCell]; done)) _) | (with_reducible refine Below.setCell ?_ (by first | with_reducible exact Nat.le_refl _ | omega | (simp; done) | (simp; omega) | (simp [World.setCell]; omega) | (simp [World.setCell]; done)) _)))⟩
theorem toOp_calls (o : DOp) (w : World) : Calls Tryd.prog 16 #[.agg #[.int .i64 o.kind, .int .i64 o.a, .int .i64 o.b, .int .i64 o.c, .int .i64 o.d]] w fun e w' => e = .returned (.agg #[.int .i64 o.kind, .int .i64 o.a, .int .i64 o.b, .int .i64 o.c, .int .i64 o.d]) ∧ Below w.heap.size w w' := by
  obtain ⟨k, a, b, c, d⟩ := o
  go_enter Tryd.func16, Tryd.ntmps16
  go_wp2
  refine bodyPost_ret (v := .agg #[.int .i64 k, .int .i64 a, .int .i64 b, .int .i64 c, .int .i64 d]) ?_ rfl ⟨rfl, (by repeat (first | with_reducible exact Below.refl _ _ | with_reducible assumption | (with_reducible refine Below.drew ?_) | (with_reducible refine Below.alloc ?_ (by first | with_reducible exact Nat.le_refl _ | omega | (simp; done) | (simp; omega) | (simp [World.setCell]; omega) | (simp [World.setCell]; done)) _) | (with_reducible refine Below.setCell ?_ (by first | with_reducible exact Nat.le_refl _ | omega | (simp; done) | (simp; omega) | (simp [World.setCell]; omega) | (simp [World.setCell]; done)) _)))⟩
  simp [results, Tryd.results16, go_sem]
end Go.Proofs.YtlhanpkfnhnegaaDoor
