/- Range predicates, valid operations, words of operations. Printed by gen_text2.py. -/
import Derived.Test.YtlhanpkfnhnegaaDoorText1
import Derived.Test.YtlhanpkfnhnegaaDoorTypes
set_option linter.unusedVariables false
set_option linter.unusedSimpArgs false
set_option maxRecDepth 100000
namespace Go.Proofs.YtlhanpkfnhnegaaDoor
open Go.ChangeShapes Go.WideShapes Go.RowKit

theorem ikeyOk_calls (x : Int) (w : World) (b : Bool) (hb : betweenB x 0 9 = b) :
    Calls Tryd.prog 117 #[.int .i64 x] w fun e w' => e = .returned (.bool b) ∧ w = w' := by
  have H := Lib.hid hb
  clear hb
  go_enter Tryd.func117, Tryd.ntmps117
  go_wp2_with (go_at_call 121; refine (between_calls _ _ _ _ b H.out).mono ?_; rintro e w' ⟨rfl, rfl⟩)
  go_ret
  exact ⟨rfl, rfl⟩
theorem ivalueOk_calls (x : Int) (w : World) (b : Bool) (hb : betweenB x 0 999 = b) :
    Calls Tryd.prog 118 #[.int .i64 x] w fun e w' => e = .returned (.bool b) ∧ w = w' := by
  have H := Lib.hid hb
  clear hb
  go_enter Tryd.func118, Tryd.ntmps118
  go_wp2_with (go_at_call 121; refine (between_calls _ _ _ _ b H.out).mono ?_; rintro e w' ⟨rfl, rfl⟩)
  go_ret
  exact ⟨rfl, rfl⟩
theorem iidOk_calls (x : Int) (w : World) (b : Bool) (hb : betweenB x 1 20 = b) :
    Calls Tryd.prog 119 #[.int .i64 x] w fun e w' => e = .returned (.bool b) ∧ w = w' := by
  have H := Lib.hid hb
  clear hb
  go_enter Tryd.func119, Tryd.ntmps119
  go_wp2_with (go_at_call 121; refine (between_calls _ _ _ _ b H.out).mono ?_; rintro e w' ⟨rfl, rfl⟩)
  go_ret
  exact ⟨rfl, rfl⟩
theorem iseqOk_calls (x : Int) (w : World) (b : Bool) (hb : betweenB x 1 2000 = b) :
    Calls Tryd.prog 129 #[.int .i64 x] w fun e w' => e = .returned (.bool b) ∧ w = w' := by
  have H := Lib.hid hb
  clear hb
  go_enter Tryd.func129, Tryd.ntmps129
  go_wp2_with (go_at_call 121; refine (between_calls _ _ _ _ b H.out).mono ?_; rintro e w' ⟨rfl, rfl⟩)
  go_ret
  exact ⟨rfl, rfl⟩
theorem iindexOk_calls (x : Int) (w : World) (b : Bool) (hb : betweenB x 1 2000 = b) :
    Calls Tryd.prog 127 #[.int .i64 x] w fun e w' => e = .returned (.bool b) ∧ w = w' := by
  have H := Lib.hid hb
  clear hb
  go_enter Tryd.func127, Tryd.ntmps127
  go_wp2_with (go_at_call 121; refine (between_calls _ _ _ _ b H.out).mono ?_; rintro e w' ⟨rfl, rfl⟩)
  go_ret
  exact ⟨rfl, rfl⟩
theorem iTimeOk_calls (x : Int) (w : World) (b : Bool) (hb : betweenB x 0 1000000 = b) :
    Calls Tryd.prog 120 #[.int .i64 x] w fun e w' => e = .returned (.bool b) ∧ w = w' := by
  have H := Lib.hid hb
  clear hb
  go_enter Tryd.func120, Tryd.ntmps120
  go_wp2_with (go_at_call 121; refine (between_calls _ _ _ _ b H.out).mono ?_; rintro e w' ⟨rfl, rfl⟩)
  go_ret
  exact ⟨rfl, rfl⟩
theorem iAskerOk_calls (x : Int) (w : World) (b : Bool) (hb : betweenB x 2 5 = b) :
    Calls Tryd.prog 128 #[.int .i64 x] w fun e w' => e = .returned (.bool b) ∧ w = w' := by
  have H := Lib.hid hb
  clear hb
  go_enter Tryd.func128, Tryd.ntmps128
  go_wp2_with (go_at_call 121; refine (between_calls _ _ _ _ b H.out).mono ?_; rintro e w' ⟨rfl, rfl⟩)
  go_ret
  exact ⟨rfl, rfl⟩
theorem sl7Key_calls (x : Int) (w : World) (b : Bool) (hb : betweenB x 0 9 = b) :
    Calls Tryd.prog 112 #[.int .i64 x] w fun e w' => e = .returned (.bool b) ∧ w = w' := by
  have H := Lib.hid hb
  clear hb
  go_enter Tryd.func112, Tryd.ntmps112
  go_wp2_with (go_at_call 116; refine (l1In_calls _ _ _ _ b H.out).mono ?_; rintro e w' ⟨rfl, rfl⟩)
  go_ret
  exact ⟨rfl, rfl⟩
theorem sl7Value_calls (x : Int) (w : World) (b : Bool) (hb : betweenB x 0 999 = b) :
    Calls Tryd.prog 113 #[.int .i64 x] w fun e w' => e = .returned (.bool b) ∧ w = w' := by
  have H := Lib.hid hb
  clear hb
  go_enter Tryd.func113, Tryd.ntmps113
  go_wp2_with (go_at_call 116; refine (l1In_calls _ _ _ _ b H.out).mono ?_; rintro e w' ⟨rfl, rfl⟩)
  go_ret
  exact ⟨rfl, rfl⟩
theorem sl7Id_calls (x : Int) (w : World) (b : Bool) (hb : betweenB x 1 20 = b) :
    Calls Tryd.prog 114 #[.int .i64 x] w fun e w' => e = .returned (.bool b) ∧ w = w' := by
  have H := Lib.hid hb
  clear hb
  go_enter Tryd.func114, Tryd.ntmps114
  go_wp2_with (go_at_call 116; refine (l1In_calls _ _ _ _ b H.out).mono ?_; rintro e w' ⟨rfl, rfl⟩)
  go_ret
  exact ⟨rfl, rfl⟩
theorem sl7Seq_calls (x : Int) (w : World) (b : Bool) (hb : betweenB x 1 2000 = b) :
    Calls Tryd.prog 124 #[.int .i64 x] w fun e w' => e = .returned (.bool b) ∧ w = w' := by
  have H := Lib.hid hb
  clear hb
  go_enter Tryd.func124, Tryd.ntmps124
  go_wp2_with (go_at_call 116; refine (l1In_calls _ _ _ _ b H.out).mono ?_; rintro e w' ⟨rfl, rfl⟩)
  go_ret
  exact ⟨rfl, rfl⟩
theorem sl7Index_calls (x : Int) (w : World) (b : Bool) (hb : betweenB x 1 2000 = b) :
    Calls Tryd.prog 122 #[.int .i64 x] w fun e w' => e = .returned (.bool b) ∧ w = w' := by
  have H := Lib.hid hb
  clear hb
  go_enter Tryd.func122, Tryd.ntmps122
  go_wp2_with (go_at_call 116; refine (l1In_calls _ _ _ _ b H.out).mono ?_; rintro e w' ⟨rfl, rfl⟩)
  go_ret
  exact ⟨rfl, rfl⟩
theorem sTimeOk_calls (x : Int) (w : World) (b : Bool) (hb : betweenB x 0 1000000 = b) :
    Calls Tryd.prog 115 #[.int .i64 x] w fun e w' => e = .returned (.bool b) ∧ w = w' := by
  have H := Lib.hid hb
  clear hb
  go_enter Tryd.func115, Tryd.ntmps115
  go_wp2_with (go_at_call 116; refine (l1In_calls _ _ _ _ b H.out).mono ?_; rintro e w' ⟨rfl, rfl⟩)
  go_ret
  exact ⟨rfl, rfl⟩
theorem sAskerOk_calls (x : Int) (w : World) (b : Bool) (hb : betweenB x 2 5 = b) :
    Calls Tryd.prog 123 #[.int .i64 x] w fun e w' => e = .returned (.bool b) ∧ w = w' := by
  have H := Lib.hid hb
  clear hb
  go_enter Tryd.func123, Tryd.ntmps123
  go_wp2_with (go_at_call 116; refine (l1In_calls _ _ _ _ b H.out).mono ?_; rintro e w' ⟨rfl, rfl⟩)
  go_ret
  exact ⟨rfl, rfl⟩
theorem sl22Node_calls (x : Int) (w : World) (b : Bool) (hb : betweenB x 0 5 = b) :
    Calls Tryd.prog 135 #[.int .i64 x] w fun e w' => e = .returned (.bool b) ∧ w = w' := by
  have H := Lib.hid hb
  clear hb
  go_enter Tryd.func135, Tryd.ntmps135
  go_wp2_with (go_at_call 116; refine (l1In_calls _ _ _ _ b H.out).mono ?_; rintro e w' ⟨rfl, rfl⟩)
  go_ret
  exact ⟨rfl, rfl⟩
def opOk (o : DOp) : Bool :=
  if o.kind = 1 then betweenB o.a 0 9 && betweenB o.b 0 999 && (o.c == 0) && (o.d == 0)
  else if o.kind = 2 then betweenB o.a 0 9 && (o.b == 0) && (o.c == 0) && (o.d == 0)
  else if o.kind = 3 then betweenB o.a 1 20 && betweenB o.b 0 1000000 && betweenB o.c 0 9 && betweenB o.d 0 999
  else if o.kind = 4 then betweenB o.a 1 20 && betweenB o.b 0 1000 && (o.c == 0) && (o.d == 0)
  else if o.kind = 5 then betweenB o.a 1 1000 && (o.b == 0) && (o.c == 0) && (o.d == 0)
  else false
theorem iOpOk_1 (o_a o_b o_c o_d : Int) (w : World) (b : Bool) (hb : b = opOk ⟨1, o_a, o_b, o_c, o_d⟩) :
    Calls Tryd.prog 68 #[.agg #[.int .i64 1, .int .i64 o_a, .int .i64 o_b, .int .i64 o_c, .int .i64 o_d]] w fun e w' => e = .returned (.bool b) ∧ Below w.heap.size w w' := by
  cases qa : betweenB o_a 0 9
  · have hv : b = false := by rw [hb]; simp [opOk, *]
    subst hv
    clear hb
    have Ha := Lib.hid qa
    clear qa
    go_enter Tryd.func68, Tryd.ntmps68
    go_wp2_with (first | (go_at_call 117; refine (ikeyOk_calls _ _ false Ha.out).mono ?_; rintro e w2 ⟨rfl, rfl⟩))
    go_ret
    exact ⟨by first | rfl | simp, (by repeat (first | with_reducible exact Below.refl _ _ | with_reducible assumption | (with_reducible refine Below.drew ?_) | (with_reducible refine Below.alloc ?_ (by first | with_reducible exact Nat.le_refl _ | omega | (simp; done) | (simp; omega) | (simp [World.setCell]; omega) | (simp [World.setCell]; done)) _) | (with_reducible refine Below.setCell ?_ (by first | with_reducible exact Nat.le_refl _ | omega | (simp; done) | (simp; omega) | (simp [World.setCell]; omega) | (simp [World.setCell]; done)) _)))⟩
  · cases qb : betweenB o_b 0 999
    · have hv : b = false := by rw [hb]; simp [opOk, *]
      subst hv
      clear hb
      have Ha := Lib.hid qa
      clear qa
      have Hb := Lib.hid qb
      clear qb
      go_enter Tryd.func68, Tryd.ntmps68
      go_wp2_with (first | (go_at_call 117; refine (ikeyOk_calls _ _ true Ha.out).mono ?_; rintro e w2 ⟨rfl, rfl⟩) | (go_at_call 118; refine (ivalueOk_calls _ _ false Hb.out).mono ?_; rintro e w2 ⟨rfl, rfl⟩))
      go_ret
      exact ⟨by first | rfl | simp, (by repeat (first | with_reducible exact Below.refl _ _ | with_reducible assumption | (with_reducible refine Below.drew ?_) | (with_reducible refine Below.alloc ?_ (by first | with_reducible exact Nat.le_refl _ | omega | (simp; done) | (simp; omega) | (simp [World.setCell]; omega) | (simp [World.setCell]; done)) _) | (with_reducible refine Below.setCell ?_ (by first | with_reducible exact Nat.le_refl _ | omega | (simp; done) | (simp; omega) | (simp [World.setCell]; omega) | (simp [World.setCell]; done)) _)))⟩
    · cases qc : (o_c == 0)
      · have hv : b = false := by rw [hb]; simp [opOk, *]
        subst hv
        clear hb
        have Ha := Lib.hid qa
        clear qa
        have Hb := Lib.hid qb
        clear qb
        go_enter Tryd.func68, Tryd.ntmps68
        go_wp2_with (first | (go_at_call 117; refine (ikeyOk_calls _ _ true Ha.out).mono ?_; rintro e w2 ⟨rfl, rfl⟩) | (go_at_call 118; refine (ivalueOk_calls _ _ true Hb.out).mono ?_; rintro e w2 ⟨rfl, rfl⟩))
        go_ret
        exact ⟨by first | rfl | simp, (by repeat (first | with_reducible exact Below.refl _ _ | with_reducible assumption | (with_reducible refine Below.drew ?_) | (with_reducible refine Below.alloc ?_ (by first | with_reducible exact Nat.le_refl _ | omega | (simp; done) | (simp; omega) | (simp [World.setCell]; omega) | (simp [World.setCell]; done)) _) | (with_reducible refine Below.setCell ?_ (by first | with_reducible exact Nat.le_refl _ | omega | (simp; done) | (simp; omega) | (simp [World.setCell]; omega) | (simp [World.setCell]; done)) _)))⟩
      · cases qd : (o_d == 0)
        · have hv : b = false := by rw [hb]; simp [opOk, *]
          subst hv
          clear hb
          have Ha := Lib.hid qa
          clear qa
          have Hb := Lib.hid qb
          clear qb
          go_enter Tryd.func68, Tryd.ntmps68
          go_wp2_with (first | (go_at_call 117; refine (ikeyOk_calls _ _ true Ha.out).mono ?_; rintro e w2 ⟨rfl, rfl⟩) | (go_at_call 118; refine (ivalueOk_calls _ _ true Hb.out).mono ?_; rintro e w2 ⟨rfl, rfl⟩))
          go_ret
          exact ⟨by first | rfl | simp, (by repeat (first | with_reducible exact Below.refl _ _ | with_reducible assumption | (with_reducible refine Below.drew ?_) | (with_reducible refine Below.alloc ?_ (by first | with_reducible exact Nat.le_refl _ | omega | (simp; done) | (simp; omega) | (simp [World.setCell]; omega) | (simp [World.setCell]; done)) _) | (with_reducible refine Below.setCell ?_ (by first | with_reducible exact Nat.le_refl _ | omega | (simp; done) | (simp; omega) | (simp [World.setCell]; omega) | (simp [World.setCell]; done)) _)))⟩
        · have hv : b = true := by rw [hb]; simp [opOk, *]
          subst hv
          clear hb
          have Ha := Lib.hid qa
          clear qa
          have Hb := Lib.hid qb
          clear qb
          go_enter Tryd.func68, Tryd.ntmps68
          go_wp2_with (first | (go_at_call 117; refine (ikeyOk_calls _ _ true Ha.out).mono ?_; rintro e w2 ⟨rfl, rfl⟩) | (go_at_call 118; refine (ivalueOk_calls _ _ true Hb.out).mono ?_; rintro e w2 ⟨rfl, rfl⟩))
          go_ret
          exact ⟨by first | rfl | simp, (by repeat (first | with_reducible exact Below.refl _ _ | with_reducible assumption | (with_reducible refine Below.drew ?_) | (with_reducible refine Below.alloc ?_ (by first | with_reducible exact Nat.le_refl _ | omega | (simp; done) | (simp; omega) | (simp [World.setCell]; omega) | (simp [World.setCell]; done)) _) | (with_reducible refine Below.setCell ?_ (by first | with_reducible exact Nat.le_refl _ | omega | (simp; done) | (simp; omega) | (simp [World.setCell]; omega) | (simp [World.setCell]; done)) _)))⟩
theorem iOpOk_2 (o_a o_b o_c o_d : Int) (w : World) (b : Bool) (hb : b = opOk ⟨2, o_a, o_b, o_c, o_d⟩) :
    Calls Tryd.prog 68 #[.agg #[.int .i64 2, .int .i64 o_a, .int .i64 o_b, .int .i64 o_c, .int .i64 o_d]] w fun e w' => e = .returned (.bool b) ∧ Below w.heap.size w w' := by
  cases qa : betweenB o_a 0 9
  · have hv : b = false := by rw [hb]; simp [opOk, *]
    subst hv
    clear hb
    have Ha := Lib.hid qa
    clear qa
    go_enter Tryd.func68, Tryd.ntmps68
    go_wp2_with (first | (go_at_call 117; refine (ikeyOk_calls _ _ false Ha.out).mono ?_; rintro e w2 ⟨rfl, rfl⟩))
    go_ret
    exact ⟨by first | rfl | simp, (by repeat (first | with_reducible exact Below.refl _ _ | with_reducible assumption | (with_reducible refine Below.drew ?_) | (with_reducible refine Below.alloc ?_ (by first | with_reducible exact Nat.le_refl _ | omega | (simp; done) | (simp; omega) | (simp [World.setCell]; omega) | (simp [World.setCell]; done)) _) | (with_reducible refine Below.setCell ?_ (by first | with_reducible exact Nat.le_refl _ | omega | (simp; done) | (simp; omega) | (simp [World.setCell]; omega) | (simp [World.setCell]; done)) _)))⟩
  · cases qb : (o_b == 0)
    · have hv : b = false := by rw [hb]; simp [opOk, *]
      subst hv
      clear hb
      have Ha := Lib.hid qa
      clear qa
      go_enter Tryd.func68, Tryd.ntmps68
      go_wp2_with (first | (go_at_call 117; refine (ikeyOk_calls _ _ true Ha.out).mono ?_; rintro e w2 ⟨rfl, rfl⟩))
      go_ret
      exact ⟨by first | rfl | simp, (by repeat (first | with_reducible exact Below.refl _ _ | with_reducible assumption | (with_reducible refine Below.drew ?_) | (with_reducible refine Below.alloc ?_ (by first | with_reducible exact Nat.le_refl _ | omega | (simp; done) | (simp; omega) | (simp [World.setCell]; omega) | (simp [World.setCell]; done)) _) | (with_reducible refine Below.setCell ?_ (by first | with_reducible exact Nat.le_refl _ | omega | (simp; done) | (simp; omega) | (simp [World.setCell]; omega) | (simp [World.setCell]; done)) _)))⟩
    · cases qc : (o_c == 0)
      · have hv : b = false := by rw [hb]; simp [opOk, *]
        subst hv
        clear hb
        have Ha := Lib.hid qa
        clear qa
        go_enter Tryd.func68, Tryd.ntmps68
        go_wp2_with (first | (go_at_call 117; refine (ikeyOk_calls _ _ true Ha.out).mono ?_; rintro e w2 ⟨rfl, rfl⟩))
        go_ret
        exact ⟨by first | rfl | simp, (by repeat (first | with_reducible exact Below.refl _ _ | with_reducible assumption | (with_reducible refine Below.drew ?_) | (with_reducible refine Below.alloc ?_ (by first | with_reducible exact Nat.le_refl _ | omega | (simp; done) | (simp; omega) | (simp [World.setCell]; omega) | (simp [World.setCell]; done)) _) | (with_reducible refine Below.setCell ?_ (by first | with_reducible exact Nat.le_refl _ | omega | (simp; done) | (simp; omega) | (simp [World.setCell]; omega) | (simp [World.setCell]; done)) _)))⟩
      · cases qd : (o_d == 0)
        · have hv : b = false := by rw [hb]; simp [opOk, *]
          subst hv
          clear hb
          have Ha := Lib.hid qa
          clear qa
          go_enter Tryd.func68, Tryd.ntmps68
          go_wp2_with (first | (go_at_call 117; refine (ikeyOk_calls _ _ true Ha.out).mono ?_; rintro e w2 ⟨rfl, rfl⟩))
          go_ret
          exact ⟨by first | rfl | simp, (by repeat (first | with_reducible exact Below.refl _ _ | with_reducible assumption | (with_reducible refine Below.drew ?_) | (with_reducible refine Below.alloc ?_ (by first | with_reducible exact Nat.le_refl _ | omega | (simp; done) | (simp; omega) | (simp [World.setCell]; omega) | (simp [World.setCell]; done)) _) | (with_reducible refine Below.setCell ?_ (by first | with_reducible exact Nat.le_refl _ | omega | (simp; done) | (simp; omega) | (simp [World.setCell]; omega) | (simp [World.setCell]; done)) _)))⟩
        · have hv : b = true := by rw [hb]; simp [opOk, *]
          subst hv
          clear hb
          have Ha := Lib.hid qa
          clear qa
          go_enter Tryd.func68, Tryd.ntmps68
          go_wp2_with (first | (go_at_call 117; refine (ikeyOk_calls _ _ true Ha.out).mono ?_; rintro e w2 ⟨rfl, rfl⟩))
          go_ret
          exact ⟨by first | rfl | simp, (by repeat (first | with_reducible exact Below.refl _ _ | with_reducible assumption | (with_reducible refine Below.drew ?_) | (with_reducible refine Below.alloc ?_ (by first | with_reducible exact Nat.le_refl _ | omega | (simp; done) | (simp; omega) | (simp [World.setCell]; omega) | (simp [World.setCell]; done)) _) | (with_reducible refine Below.setCell ?_ (by first | with_reducible exact Nat.le_refl _ | omega | (simp; done) | (simp; omega) | (simp [World.setCell]; omega) | (simp [World.setCell]; done)) _)))⟩
theorem iOpOk_3 (o_a o_b o_c o_d : Int) (w : World) (b : Bool) (hb : b = opOk ⟨3, o_a, o_b, o_c, o_d⟩) :
    Calls Tryd.prog 68 #[.agg #[.int .i64 3, .int .i64 o_a, .int .i64 o_b, .int .i64 o_c, .int .i64 o_d]] w fun e w' => e = .returned (.bool b) ∧ Below w.heap.size w w' := by
  cases qa : betweenB o_a 1 20
  · have hv : b = false := by rw [hb]; simp [opOk, *]
    subst hv
    clear hb
    have Ha := Lib.hid qa
    clear qa
    go_enter Tryd.func68, Tryd.ntmps68
    go_wp2_with (first | (go_at_call 119; refine (iidOk_calls _ _ false Ha.out).mono ?_; rintro e w2 ⟨rfl, rfl⟩))
    go_ret
    exact ⟨by first | rfl | simp, (by repeat (first | with_reducible exact Below.refl _ _ | with_reducible assumption | (with_reducible refine Below.drew ?_) | (with_reducible refine Below.alloc ?_ (by first | with_reducible exact Nat.le_refl _ | omega | (simp; done) | (simp; omega) | (simp [World.setCell]; omega) | (simp [World.setCell]; done)) _) | (with_reducible refine Below.setCell ?_ (by first | with_reducible exact Nat.le_refl _ | omega | (simp; done) | (simp; omega) | (simp [World.setCell]; omega) | (simp [World.setCell]; done)) _)))⟩
  · cases qb : betweenB o_b 0 1000000
    · have hv : b = false := by rw [hb]; simp [opOk, *]
      subst hv
      clear hb
      have Ha := Lib.hid qa
      clear qa
      have Hb := Lib.hid qb
      clear qb
      go_enter Tryd.func68, Tryd.ntmps68
      go_wp2_with (first | (go_at_call 119; refine (iidOk_calls _ _ true Ha.out).mono ?_; rintro e w2 ⟨rfl, rfl⟩) | (go_at_call 120; refine (iTimeOk_calls _ _ false Hb.out).mono ?_; rintro e w2 ⟨rfl, rfl⟩))
      go_ret
      exact ⟨by first | rfl | simp, (by repeat (first | with_reducible exact Below.refl _ _ | with_reducible assumption | (with_reducible refine Below.drew ?_) | (with_reducible refine Below.alloc ?_ (by first | with_reducible exact Nat.le_refl _ | omega | (simp; done) | (simp; omega) | (simp [World.setCell]; omega) | (simp [World.setCell]; done)) _) | (with_reducible refine Below.setCell ?_ (by first | with_reducible exact Nat.le_refl _ | omega | (simp; done) | (simp; omega) | (simp [World.setCell]; omega) | (simp [World.setCell]; done)) _)))⟩
    · cases qc : betweenB o_c 0 9
      · have hv : b = false := by rw [hb]; simp [opOk, *]
        subst hv
        clear hb
        have Ha := Lib.hid qa
        clear qa
        have Hb := Lib.hid qb
        clear qb
        have Hc := Lib.hid qc
        clear qc
        go_enter Tryd.func68, Tryd.ntmps68
        go_wp2_with (first | (go_at_call 119; refine (iidOk_calls _ _ true Ha.out).mono ?_; rintro e w2 ⟨rfl, rfl⟩) | (go_at_call 120; refine (iTimeOk_calls _ _ true Hb.out).mono ?_; rintro e w2 ⟨rfl, rfl⟩) | (go_at_call 117; refine (ikeyOk_calls _ _ false Hc.out).mono ?_; rintro e w2 ⟨rfl, rfl⟩))
        go_ret
        exact ⟨by first | rfl | simp, (by repeat (first | with_reducible exact Below.refl _ _ | with_reducible assumption | (with_reducible refine Below.drew ?_) | (with_reducible refine Below.alloc ?_ (by first | with_reducible exact Nat.le_refl _ | omega | (simp; done) | (simp; omega) | (simp [World.setCell]; omega) | (simp [World.setCell]; done)) _) | (with_reducible refine Below.setCell ?_ (by first | with_reducible exact Nat.le_refl _ | omega | (simp; done) | (simp; omega) | (simp [World.setCell]; omega) | (simp [World.setCell]; done)) _)))⟩
      · cases qd : betweenB o_d 0 999
        · have hv : b = false := by rw [hb]; simp [opOk, *]
          subst hv
          clear hb
          have Ha := Lib.hid qa
          clear qa
          have Hb := Lib.hid qb
          clear qb
          have Hc := Lib.hid qc
          clear qc
          have Hd := Lib.hid qd
          clear qd
          go_enter Tryd.func68, Tryd.ntmps68
          go_wp2_with (first | (go_at_call 119; refine (iidOk_calls _ _ true Ha.out).mono ?_; rintro e w2 ⟨rfl, rfl⟩) | (go_at_call 120; refine (iTimeOk_calls _ _ true Hb.out).mono ?_; rintro e w2 ⟨rfl, rfl⟩) | (go_at_call 117; refine (ikeyOk_calls _ _ true Hc.out).mono ?_; rintro e w2 ⟨rfl, rfl⟩) | (go_at_call 118; refine (ivalueOk_calls _ _ false Hd.out).mono ?_; rintro e w2 ⟨rfl, rfl⟩))
          go_ret
          exact ⟨by first | rfl | simp, (by repeat (first | with_reducible exact Below.refl _ _ | with_reducible assumption | (with_reducible refine Below.drew ?_) | (with_reducible refine Below.alloc ?_ (by first | with_reducible exact Nat.le_refl _ | omega | (simp; done) | (simp; omega) | (simp [World.setCell]; omega) | (simp [World.setCell]; done)) _) | (with_reducible refine Below.setCell ?_ (by first | with_reducible exact Nat.le_refl _ | omega | (simp; done) | (simp; omega) | (simp [World.setCell]; omega) | (simp [World.setCell]; done)) _)))⟩
        · have hv : b = true := by rw [hb]; simp [opOk, *]
          subst hv
          clear hb
          have Ha := Lib.hid qa
          clear qa
          have Hb := Lib.hid qb
          clear qb
          have Hc := Lib.hid qc
          clear qc
          have Hd := Lib.hid qd
          clear qd
          go_enter Tryd.func68, Tryd.ntmps68
          go_wp2_with (first | (go_at_call 119; refine (iidOk_calls _ _ true Ha.out).mono ?_; rintro e w2 ⟨rfl, rfl⟩) | (go_at_call 120; refine (iTimeOk_calls _ _ true Hb.out).mono ?_; rintro e w2 ⟨rfl, rfl⟩) | (go_at_call 117; refine (ikeyOk_calls _ _ true Hc.out).mono ?_; rintro e w2 ⟨rfl, rfl⟩) | (go_at_call 118; refine (ivalueOk_calls _ _ true Hd.out).mono ?_; rintro e w2 ⟨rfl, rfl⟩))
          go_ret
          exact ⟨by first | rfl | simp, (by repeat (first | with_reducible exact Below.refl _ _ | with_reducible assumption | (with_reducible refine Below.drew ?_) | (with_reducible refine Below.alloc ?_ (by first | with_reducible exact Nat.le_refl _ | omega | (simp; done) | (simp; omega) | (simp [World.setCell]; omega) | (simp [World.setCell]; done)) _) | (with_reducible refine Below.setCell ?_ (by first | with_reducible exact Nat.le_refl _ | omega | (simp; done) | (simp; omega) | (simp [World.setCell]; omega) | (simp [World.setCell]; done)) _)))⟩
theorem iOpOk_4 (o_a o_b o_c o_d : Int) (w : World) (b : Bool) (hb : b = opOk ⟨4, o_a, o_b, o_c, o_d⟩) :
    Calls Tryd.prog 68 #[.agg #[.int .i64 4, .int .i64 o_a, .int .i64 o_b, .int .i64 o_c, .int .i64 o_d]] w fun e w' => e = .returned (.bool b) ∧ Below w.heap.size w w' := by
  cases qa : betweenB o_a 1 20
  · have hv : b = false := by rw [hb]; simp [opOk, *]
    subst hv
    clear hb
    have Ha := Lib.hid qa
    clear qa
    go_enter Tryd.func68, Tryd.ntmps68
    go_wp2_with (first | (go_at_call 119; refine (iidOk_calls _ _ false Ha.out).mono ?_; rintro e w2 ⟨rfl, rfl⟩))
    go_ret
    exact ⟨by first | rfl | simp, (by repeat (first | with_reducible exact Below.refl _ _ | with_reducible assumption | (with_reducible refine Below.drew ?_) | (with_reducible refine Below.alloc ?_ (by first | with_reducible exact Nat.le_refl _ | omega | (simp; done) | (simp; omega) | (simp [World.setCell]; omega) | (simp [World.setCell]; done)) _) | (with_reducible refine Below.setCell ?_ (by first | with_reducible exact Nat.le_refl _ | omega | (simp; done) | (simp; omega) | (simp [World.setCell]; omega) | (simp [World.setCell]; done)) _)))⟩
  · cases qb : betweenB o_b 0 1000
    · have hv : b = false := by rw [hb]; simp [opOk, *]
      subst hv
      clear hb
      have Ha := Lib.hid qa
      clear qa
      have Hb := Lib.hid qb
      clear qb
      go_enter Tryd.func68, Tryd.ntmps68
      go_wp2_with (first | (go_at_call 119; refine (iidOk_calls _ _ true Ha.out).mono ?_; rintro e w2 ⟨rfl, rfl⟩) | (go_at_call 121; refine (between_calls _ _ _ _ false Hb.out).mono ?_; rintro e w2 ⟨rfl, rfl⟩))
      go_ret
      exact ⟨by first | rfl | simp, (by repeat (first | with_reducible exact Below.refl _ _ | with_reducible assumption | (with_reducible refine Below.drew ?_) | (with_reducible refine Below.alloc ?_ (by first | with_reducible exact Nat.le_refl _ | omega | (simp; done) | (simp; omega) | (simp [World.setCell]; omega) | (simp [World.setCell]; done)) _) | (with_reducible refine Below.setCell ?_ (by first | with_reducible exact Nat.le_refl _ | omega | (simp; done) | (simp; omega) | (simp [World.setCell]; omega) | (simp [World.setCell]; done)) _)))⟩
    · cases qc : (o_c == 0)
      · have hv : b = false := by rw [hb]; simp [opOk, *]
        subst hv
        clear hb
        have Ha := Lib.hid qa
        clear qa
        have Hb := Lib.hid qb
        clear qb
        go_enter Tryd.func68, Tryd.ntmps68
        go_wp2_with (first | (go_at_call 119; refine (iidOk_calls _ _ true Ha.out).mono ?_; rintro e w2 ⟨rfl, rfl⟩) | (go_at_call 121; refine (between_calls _ _ _ _ true Hb.out).mono ?_; rintro e w2 ⟨rfl, rfl⟩))
        go_ret
        exact ⟨by first | rfl | simp, (by repeat (first | with_reducible exact Below.refl _ _ | with_reducible assumption | (with_reducible refine Below.drew ?_) | (with_reducible refine Below.alloc ?_ (by first | with_reducible exact Nat.le_refl _ | omega | (simp; done) | (simp; omega) | (simp [World.setCell]; omega) | (simp [World.setCell]; done)) _) | (with_reducible refine Below.setCell ?_ (by first | with_reducible exact Nat.le_refl _ | omega | (simp; done) | (simp; omega) | (simp [World.setCell]; omega) | (simp [World.setCell]; done)) _)))⟩
      · cases qd : (o_d == 0)
        · have hv : b = false := by rw [hb]; simp [opOk, *]
          subst hv
          clear hb
          have Ha := Lib.hid qa
          clear qa
          have Hb := Lib.hid qb
          clear qb
          go_enter Tryd.func68, Tryd.ntmps68
          go_wp2_with (first | (go_at_call 119; refine (iidOk_calls _ _ true Ha.out).mono ?_; rintro e w2 ⟨rfl, rfl⟩) | (go_at_call 121; refine (between_calls _ _ _ _ true Hb.out).mono ?_; rintro e w2 ⟨rfl, rfl⟩))
          go_ret
          exact ⟨by first | rfl | simp, (by repeat (first | with_reducible exact Below.refl _ _ | with_reducible assumption | (with_reducible refine Below.drew ?_) | (with_reducible refine Below.alloc ?_ (by first | with_reducible exact Nat.le_refl _ | omega | (simp; done) | (simp; omega) | (simp [World.setCell]; omega) | (simp [World.setCell]; done)) _) | (with_reducible refine Below.setCell ?_ (by first | with_reducible exact Nat.le_refl _ | omega | (simp; done) | (simp; omega) | (simp [World.setCell]; omega) | (simp [World.setCell]; done)) _)))⟩
        · have hv : b = true := by rw [hb]; simp [opOk, *]
          subst hv
          clear hb
          have Ha := Lib.hid qa
          clear qa
          have Hb := Lib.hid qb
          clear qb
          go_enter Tryd.func68, Tryd.ntmps68
          go_wp2_with (first | (go_at_call 119; refine (iidOk_calls _ _ true Ha.out).mono ?_; rintro e w2 ⟨rfl, rfl⟩) | (go_at_call 121; refine (between_calls _ _ _ _ true Hb.out).mono ?_; rintro e w2 ⟨rfl, rfl⟩))
          go_ret
          exact ⟨by first | rfl | simp, (by repeat (first | with_reducible exact Below.refl _ _ | with_reducible assumption | (with_reducible refine Below.drew ?_) | (with_reducible refine Below.alloc ?_ (by first | with_reducible exact Nat.le_refl _ | omega | (simp; done) | (simp; omega) | (simp [World.setCell]; omega) | (simp [World.setCell]; done)) _) | (with_reducible refine Below.setCell ?_ (by first | with_reducible exact Nat.le_refl _ | omega | (simp; done) | (simp; omega) | (simp [World.setCell]; omega) | (simp [World.setCell]; done)) _)))⟩
theorem iOpOk_5 (o_a o_b o_c o_d : Int) (w : World) (b : Bool) (hb : b = opOk ⟨5, o_a, o_b, o_c, o_d⟩) :
    Calls Tryd.prog 68 #[.agg #[.int .i64 5, .int .i64 o_a, .int .i64 o_b, .int .i64 o_c, .int .i64 o_d]] w fun e w' => e = .returned (.bool b) ∧ Below w.heap.size w w' := by
  cases qa : betweenB o_a 1 1000
  · have hv : b = false := by rw [hb]; simp [opOk, *]
    subst hv
    clear hb
    have Ha := Lib.hid qa
    clear qa
    go_enter Tryd.func68, Tryd.ntmps68
    go_wp2_with (first | (go_at_call 121; refine (between_calls _ _ _ _ false Ha.out).mono ?_; rintro e w2 ⟨rfl, rfl⟩))
    go_ret
    exact ⟨by first | rfl | simp, (by repeat (first | with_reducible exact Below.refl _ _ | with_reducible assumption | (with_reducible refine Below.drew ?_) | (with_reducible refine Below.alloc ?_ (by first | with_reducible exact Nat.le_refl _ | omega | (simp; done) | (simp; omega) | (simp [World.setCell]; omega) | (simp [World.setCell]; done)) _) | (with_reducible refine Below.setCell ?_ (by first | with_reducible exact Nat.le_refl _ | omega | (simp; done) | (simp; omega) | (simp [World.setCell]; omega) | (simp [World.setCell]; done)) _)))⟩
  · cases qb : (o_b == 0)
    · have hv : b = false := by rw [hb]; simp [opOk, *]
      subst hv
      clear hb
      have Ha := Lib.hid qa
      clear qa
      go_enter Tryd.func68, Tryd.ntmps68
      go_wp2_with (first | (go_at_call 121; refine (between_calls _ _ _ _ true Ha.out).mono ?_; rintro e w2 ⟨rfl, rfl⟩))
      go_ret
      exact ⟨by first | rfl | simp, (by repeat (first | with_reducible exact Below.refl _ _ | with_reducible assumption | (with_reducible refine Below.drew ?_) | (with_reducible refine Below.alloc ?_ (by first | with_reducible exact Nat.le_refl _ | omega | (simp; done) | (simp; omega) | (simp [World.setCell]; omega) | (simp [World.setCell]; done)) _) | (with_reducible refine Below.setCell ?_ (by first | with_reducible exact Nat.le_refl _ | omega | (simp; done) | (simp; omega) | (simp [World.setCell]; omega) | (simp [World.setCell]; done)) _)))⟩
    · cases qc : (o_c == 0)
      · have hv : b = false := by rw [hb]; simp [opOk, *]
        subst hv
        clear hb
        have Ha := Lib.hid qa
        clear qa
        go_enter Tryd.func68, Tryd.ntmps68
        go_wp2_with (first | (go_at_call 121; refine (between_calls _ _ _ _ true Ha.out).mono ?_; rintro e w2 ⟨rfl, rfl⟩))
        go_ret
        exact ⟨by first | rfl | simp, (by repeat (first | with_reducible exact Below.refl _ _ | with_reducible assumption | (with_reducible refine Below.drew ?_) | (with_reducible refine Below.alloc ?_ (by first | with_reducible exact Nat.le_refl _ | omega | (simp; done) | (simp; omega) | (simp [World.setCell]; omega) | (simp [World.setCell]; done)) _) | (with_reducible refine Below.setCell ?_ (by first | with_reducible exact Nat.le_refl _ | omega | (simp; done) | (simp; omega) | (simp [World.setCell]; omega) | (simp [World.setCell]; done)) _)))⟩
      · cases qd : (o_d == 0)
        · have hv : b = false := by rw [hb]; simp [opOk, *]
          subst hv
          clear hb
          have Ha := Lib.hid qa
          clear qa
          go_enter Tryd.func68, Tryd.ntmps68
          go_wp2_with (first | (go_at_call 121; refine (between_calls _ _ _ _ true Ha.out).mono ?_; rintro e w2 ⟨rfl, rfl⟩))
          go_ret
          exact ⟨by first | rfl | simp, (by repeat (first | with_reducible exact Below.refl _ _ | with_reducible assumption | (with_reducible refine Below.drew ?_) | (with_reducible refine Below.alloc ?_ (by first | with_reducible exact Nat.le_refl _ | omega | (simp; done) | (simp; omega) | (simp [World.setCell]; omega) | (simp [World.setCell]; done)) _) | (with_reducible refine Below.setCell ?_ (by first | with_reducible exact Nat.le_refl _ | omega | (simp; done) | (simp; omega) | (simp [World.setCell]; omega) | (simp [World.setCell]; done)) _)))⟩
        · have hv : b = true := by rw [hb]; simp [opOk, *]
          subst hv
          clear hb
          have Ha := Lib.hid qa
          clear qa
          go_enter Tryd.func68, Tryd.ntmps68
          go_wp2_with (first | (go_at_call 121; refine (between_calls _ _ _ _ true Ha.out).mono ?_; rintro e w2 ⟨rfl, rfl⟩))
          go_ret
          exact ⟨by first | rfl | simp, (by repeat (first | with_reducible exact Below.refl _ _ | with_reducible assumption | (with_reducible refine Below.drew ?_) | (with_reducible refine Below.alloc ?_ (by first | with_reducible exact Nat.le_refl _ | omega | (simp; done) | (simp; omega) | (simp [World.setCell]; omega) | (simp [World.setCell]; done)) _) | (with_reducible refine Below.setCell ?_ (by first | with_reducible exact Nat.le_refl _ | omega | (simp; done) | (simp; omega) | (simp [World.setCell]; omega) | (simp [World.setCell]; done)) _)))⟩
theorem iOpOk_calls (o : DOp) (w : World) (b : Bool) (hb : opOk o = b) :
    Calls Tryd.prog 68 #[.agg #[.int .i64 o.kind, .int .i64 o.a, .int .i64 o.b, .int .i64 o.c, .int .i64 o.d]] w fun e w' => e = .returned (.bool b) ∧ Below w.heap.size w w' := by
  obtain ⟨k, o_a, o_b, o_c, o_d⟩ := o
  by_cases h1 : k = 1
  · subst h1; exact iOpOk_1 o_a o_b o_c o_d w b hb.symm
  by_cases h2 : k = 2
  · subst h2; exact iOpOk_2 o_a o_b o_c o_d w b hb.symm
  by_cases h3 : k = 3
  · subst h3; exact iOpOk_3 o_a o_b o_c o_d w b hb.symm
  by_cases h4 : k = 4
  · subst h4; exact iOpOk_4 o_a o_b o_c o_d w b hb.symm
  by_cases h5 : k = 5
  · subst h5; exact iOpOk_5 o_a o_b o_c o_d w b hb.symm
  have hv : b = false := by rw [← hb]; simp [opOk, *]
  subst hv
  clear hb
  have g1 : (k == 1) = false := by simpa using h1
  have g2 : (k == 2) = false := by simpa using h2
  have g3 : (k == 3) = false := by simpa using h3
  have g4 : (k == 4) = false := by simpa using h4
  have g5 : (k == 5) = false := by simpa using h5
  clear h1 h2 h3 h4 h5
  go_enter Tryd.func68, Tryd.ntmps68
  go_wp2
  go_ret
  exact ⟨by first | rfl | simp, (by repeat (first | with_reducible exact Below.refl _ _ | with_reducible assumption | (with_reducible refine Below.drew ?_) | (with_reducible refine Below.alloc ?_ (by first | with_reducible exact Nat.le_refl _ | omega | (simp; done) | (simp; omega) | (simp [World.setCell]; omega) | (simp [World.setCell]; done)) _) | (with_reducible refine Below.setCell ?_ (by first | with_reducible exact Nat.le_refl _ | omega | (simp; done) | (simp; omega) | (simp [World.setCell]; omega) | (simp [World.setCell]; done)) _)))⟩
theorem sOpOk_1 (o_a o_b o_c o_d : Int) (w : World) (b : Bool) (hb : b = opOk ⟨1, o_a, o_b, o_c, o_d⟩) :
    Calls Tryd.prog 63 #[.agg #[.int .i64 1, .int .i64 o_a, .int .i64 o_b, .int .i64 o_c, .int .i64 o_d]] w fun e w' => e = .returned (.bool b) ∧ Below w.heap.size w w' := by
  cases qa : betweenB o_a 0 9
  · have hv : b = false := by rw [hb]; simp [opOk, *]
    subst hv
    clear hb
    have Ha := Lib.hid qa
    clear qa
    go_enter Tryd.func63, Tryd.ntmps63
    go_wp2_with (first | (go_at_call 112; refine (sl7Key_calls _ _ false Ha.out).mono ?_; rintro e w2 ⟨rfl, rfl⟩))
    go_ret
    exact ⟨by first | rfl | simp, (by repeat (first | with_reducible exact Below.refl _ _ | with_reducible assumption | (with_reducible refine Below.drew ?_) | (with_reducible refine Below.alloc ?_ (by first | with_reducible exact Nat.le_refl _ | omega | (simp; done) | (simp; omega) | (simp [World.setCell]; omega) | (simp [World.setCell]; done)) _) | (with_reducible refine Below.setCell ?_ (by first | with_reducible exact Nat.le_refl _ | omega | (simp; done) | (simp; omega) | (simp [World.setCell]; omega) | (simp [World.setCell]; done)) _)))⟩
  · cases qb : betweenB o_b 0 999
    · have hv : b = false := by rw [hb]; simp [opOk, *]
      subst hv
      clear hb
      have Ha := Lib.hid qa
      clear qa
      have Hb := Lib.hid qb
      clear qb
      go_enter Tryd.func63, Tryd.ntmps63
      go_wp2_with (first | (go_at_call 112; refine (sl7Key_calls _ _ true Ha.out).mono ?_; rintro e w2 ⟨rfl, rfl⟩) | (go_at_call 113; refine (sl7Value_calls _ _ false Hb.out).mono ?_; rintro e w2 ⟨rfl, rfl⟩))
      go_ret
      exact ⟨by first | rfl | simp, (by repeat (first | with_reducible exact Below.refl _ _ | with_reducible assumption | (with_reducible refine Below.drew ?_) | (with_reducible refine Below.alloc ?_ (by first | with_reducible exact Nat.le_refl _ | omega | (simp; done) | (simp; omega) | (simp [World.setCell]; omega) | (simp [World.setCell]; done)) _) | (with_reducible refine Below.setCell ?_ (by first | with_reducible exact Nat.le_refl _ | omega | (simp; done) | (simp; omega) | (simp [World.setCell]; omega) | (simp [World.setCell]; done)) _)))⟩
    · cases qc : (o_c == 0)
      · have hv : b = false := by rw [hb]; simp [opOk, *]
        subst hv
        clear hb
        have Ha := Lib.hid qa
        clear qa
        have Hb := Lib.hid qb
        clear qb
        go_enter Tryd.func63, Tryd.ntmps63
        go_wp2_with (first | (go_at_call 112; refine (sl7Key_calls _ _ true Ha.out).mono ?_; rintro e w2 ⟨rfl, rfl⟩) | (go_at_call 113; refine (sl7Value_calls _ _ true Hb.out).mono ?_; rintro e w2 ⟨rfl, rfl⟩))
        go_ret
        exact ⟨by first | rfl | simp, (by repeat (first | with_reducible exact Below.refl _ _ | with_reducible assumption | (with_reducible refine Below.drew ?_) | (with_reducible refine Below.alloc ?_ (by first | with_reducible exact Nat.le_refl _ | omega | (simp; done) | (simp; omega) | (simp [World.setCell]; omega) | (simp [World.setCell]; done)) _) | (with_reducible refine Below.setCell ?_ (by first | with_reducible exact Nat.le_refl _ | omega | (simp; done) | (simp; omega) | (simp [World.setCell]; omega) | (simp [World.setCell]; done)) _)))⟩
      · cases qd : (o_d == 0)
        · have hv : b = false := by rw [hb]; simp [opOk, *]
          subst hv
          clear hb
          have Ha := Lib.hid qa
          clear qa
          have Hb := Lib.hid qb
          clear qb
          go_enter Tryd.func63, Tryd.ntmps63
          go_wp2_with (first | (go_at_call 112; refine (sl7Key_calls _ _ true Ha.out).mono ?_; rintro e w2 ⟨rfl, rfl⟩) | (go_at_call 113; refine (sl7Value_calls _ _ true Hb.out).mono ?_; rintro e w2 ⟨rfl, rfl⟩))
          go_ret
          exact ⟨by first | rfl | simp, (by repeat (first | with_reducible exact Below.refl _ _ | with_reducible assumption | (with_reducible refine Below.drew ?_) | (with_reducible refine Below.alloc ?_ (by first | with_reducible exact Nat.le_refl _ | omega | (simp; done) | (simp; omega) | (simp [World.setCell]; omega) | (simp [World.setCell]; done)) _) | (with_reducible refine Below.setCell ?_ (by first | with_reducible exact Nat.le_refl _ | omega | (simp; done) | (simp; omega) | (simp [World.setCell]; omega) | (simp [World.setCell]; done)) _)))⟩
        · have hv : b = true := by rw [hb]; simp [opOk, *]
          subst hv
          clear hb
          have Ha := Lib.hid qa
          clear qa
          have Hb := Lib.hid qb
          clear qb
          go_enter Tryd.func63, Tryd.ntmps63
          go_wp2_with (first | (go_at_call 112; refine (sl7Key_calls _ _ true Ha.out).mono ?_; rintro e w2 ⟨rfl, rfl⟩) | (go_at_call 113; refine (sl7Value_calls _ _ true Hb.out).mono ?_; rintro e w2 ⟨rfl, rfl⟩))
          go_ret
          exact ⟨by first | rfl | simp, (by repeat (first | with_reducible exact Below.refl _ _ | with_reducible assumption | (with_reducible refine Below.drew ?_) | (with_reducible refine Below.alloc ?_ (by first | with_reducible exact Nat.le_refl _ | omega | (simp; done) | (simp; omega) | (simp [World.setCell]; omega) | (simp [World.setCell]; done)) _) | (with_reducible refine Below.setCell ?_ (by first | with_reducible exact Nat.le_refl _ | omega | (simp; done) | (simp; omega) | (simp [World.setCell]; omega) | (simp [World.setCell]; done)) _)))⟩
theorem sOpOk_2 (o_a o_b o_c o_d : Int) (w : World) (b : Bool) (hb : b = opOk ⟨2, o_a, o_b, o_c, o_d⟩) :
    Calls Tryd.prog 63 #[.agg #[.int .i64 2, .int .i64 o_a, .int .i64 o_b, .int .i64 o_c, .int .i64 o_d]] w fun e w' => e = .returned (.bool b) ∧ Below w.heap.size w w' := by
  cases qa : betweenB o_a 0 9
  · have hv : b = false := by rw [hb]; simp [opOk, *]
    subst hv
    clear hb
    have Ha := Lib.hid qa
    clear qa
    go_enter Tryd.func63, Tryd.ntmps63
    go_wp2_with (first | (go_at_call 112; refine (sl7Key_calls _ _ false Ha.out).mono ?_; rintro e w2 ⟨rfl, rfl⟩))
    go_ret
    exact ⟨by first | rfl | simp, (by repeat (first | with_reducible exact Below.refl _ _ | with_reducible assumption | (with_reducible refine Below.drew ?_) | (with_reducible refine Below.alloc ?_ (by first | with_reducible exact Nat.le_refl _ | omega | (simp; done) | (simp; omega) | (simp [World.setCell]; omega) | (simp [World.setCell]; done)) _) | (with_reducible refine Below.setCell ?_ (by first | with_reducible exact Nat.le_refl _ | omega | (simp; done) | (simp; omega) | (simp [World.setCell]; omega) | (simp [World.setCell]; done)) _)))⟩
  · cases qb : (o_b == 0)
    · have hv : b = false := by rw [hb]; simp [opOk, *]
      subst hv
      clear hb
      have Ha := Lib.hid qa
      clear qa
      go_enter Tryd.func63, Tryd.ntmps63
      go_wp2_with (first | (go_at_call 112; refine (sl7Key_calls _ _ true Ha.out).mono ?_; rintro e w2 ⟨rfl, rfl⟩))
      go_ret
      exact ⟨by first | rfl | simp, (by repeat (first | with_reducible exact Below.refl _ _ | with_reducible assumption | (with_reducible refine Below.drew ?_) | (with_reducible refine Below.alloc ?_ (by first | with_reducible exact Nat.le_refl _ | omega | (simp; done) | (simp; omega) | (simp [World.setCell]; omega) | (simp [World.setCell]; done)) _) | (with_reducible refine Below.setCell ?_ (by first | with_reducible exact Nat.le_refl _ | omega | (simp; done) | (simp; omega) | (simp [World.setCell]; omega) | (simp [World.setCell]; done)) _)))⟩
    · cases qc : (o_c == 0)
      · have hv : b = false := by rw [hb]; simp [opOk, *]
        subst hv
        clear hb
        have Ha := Lib.hid qa
        clear qa
        go_enter Tryd.func63, Tryd.ntmps63
        go_wp2_with (first | (go_at_call 112; refine (sl7Key_calls _ _ true Ha.out).mono ?_; rintro e w2 ⟨rfl, rfl⟩))
        go_ret
        exact ⟨by first | rfl | simp, (by repeat (first | with_reducible exact Below.refl _ _ | with_reducible assumption | (with_reducible refine Below.drew ?_) | (with_reducible refine Below.alloc ?_ (by first | with_reducible exact Nat.le_refl _ | omega | (simp; done) | (simp; omega) | (simp [World.setCell]; omega) | (simp [World.setCell]; done)) _) | (with_reducible refine Below.setCell ?_ (by first | with_reducible exact Nat.le_refl _ | omega | (simp; done) | (simp; omega) | (simp [World.setCell]; omega) | (simp [World.setCell]; done)) _)))⟩
      · cases qd : (o_d == 0)
        · have hv : b = false := by rw [hb]; simp [opOk, *]
          subst hv
          clear hb
          have Ha := Lib.hid qa
          clear qa
          go_enter Tryd.func63, Tryd.ntmps63
          go_wp2_with (first | (go_at_call 112; refine (sl7Key_calls _ _ true Ha.out).mono ?_; rintro e w2 ⟨rfl, rfl⟩))
          go_ret
          exact ⟨by first | rfl | simp, (by repeat (first | with_reducible exact Below.refl _ _ | with_reducible assumption | (with_reducible refine Below.drew ?_) | (with_reducible refine Below.alloc ?_ (by first | with_reducible exact Nat.le_refl _ | omega | (simp; done) | (simp; omega) | (simp [World.setCell]; omega) | (simp [World.setCell]; done)) _) | (with_reducible refine Below.setCell ?_ (by first | with_reducible exact Nat.le_refl _ | omega | (simp; done) | (simp; omega) | (simp [World.setCell]; omega) | (simp [World.setCell]; done)) _)))⟩
        · have hv : b = true := by rw [hb]; simp [opOk, *]
          subst hv
          clear hb
          have Ha := Lib.hid qa
          clear qa
          go_enter Tryd.func63, Tryd.ntmps63
          go_wp2_with (first | (go_at_call 112; refine (sl7Key_calls _ _ true Ha.out).mono ?_; rintro e w2 ⟨rfl, rfl⟩))
          go_ret
          exact ⟨by first | rfl | simp, (by repeat (first | with_reducible exact Below.refl _ _ | with_reducible assumption | (with_reducible refine Below.drew ?_) | (with_reducible refine Below.alloc ?_ (by first | with_reducible exact Nat.le_refl _ | omega | (simp; done) | (simp; omega) | (simp [World.setCell]; omega) | (simp [World.setCell]; done)) _) | (with_reducible refine Below.setCell ?_ (by first | with_reducible exact Nat.le_refl _ | omega | (simp; done) | (simp; omega) | (simp [World.setCell]; omega) | (simp [World.setCell]; done)) _)))⟩
theorem sOpOk_3 (o_a o_b o_c o_d : Int) (w : World) (b : Bool) (hb : b = opOk ⟨3, o_a, o_b, o_c, o_d⟩) :
    Calls Tryd.prog 63 #[.agg #[.int .i64 3, .int .i64 o_a, .int .i64 o_b, .int .i64 o_c, .int .i64 o_d]] w fun e w' => e = .returned (.bool b) ∧ Below w.heap.size w w' := by
  cases qa : betweenB o_a 1 20
  · have hv : b = false := by rw [hb]; simp [opOk, *]
    subst hv
    clear hb
    have Ha := Lib.hid qa
    clear qa
    go_enter Tryd.func63, Tryd.ntmps63
    go_wp2_with (first | (go_at_call 114; refine (sl7Id_calls _ _ false Ha.out).mono ?_; rintro e w2 ⟨rfl, rfl⟩))
    go_ret
    exact ⟨by first | rfl | simp, (by repeat (first | with_reducible exact Below.refl _ _ | with_reducible assumption | (with_reducible refine Below.drew ?_) | (with_reducible refine Below.alloc ?_ (by first | with_reducible exact Nat.le_refl _ | omega | (simp; done) | (simp; omega) | (simp [World.setCell]; omega) | (simp [World.setCell]; done)) _) | (with_reducible refine Below.setCell ?_ (by first | with_reducible exact Nat.le_refl _ | omega | (simp; done) | (simp; omega) | (simp [World.setCell]; omega) | (simp [World.setCell]; done)) _)))⟩
  · cases qb : betweenB o_b 0 1000000
    · have hv : b = false := by rw [hb]; simp [opOk, *]
      subst hv
      clear hb
      have Ha := Lib.hid qa
      clear qa
      have Hb := Lib.hid qb
      clear qb
      go_enter Tryd.func63, Tryd.ntmps63
      go_wp2_with (first | (go_at_call 114; refine (sl7Id_calls _ _ true Ha.out).mono ?_; rintro e w2 ⟨rfl, rfl⟩) | (go_at_call 115; refine (sTimeOk_calls _ _ false Hb.out).mono ?_; rintro e w2 ⟨rfl, rfl⟩))
      go_ret
      exact ⟨by first | rfl | simp, (by repeat (first | with_reducible exact Below.refl _ _ | with_reducible assumption | (with_reducible refine Below.drew ?_) | (with_reducible refine Below.alloc ?_ (by first | with_reducible exact Nat.le_refl _ | omega | (simp; done) | (simp; omega) | (simp [World.setCell]; omega) | (simp [World.setCell]; done)) _) | (with_reducible refine Below.setCell ?_ (by first | with_reducible exact Nat.le_refl _ | omega | (simp; done) | (simp; omega) | (simp [World.setCell]; omega) | (simp [World.setCell]; done)) _)))⟩
    · cases qc : betweenB o_c 0 9
      · have hv : b = false := by rw [hb]; simp [opOk, *]
        subst hv
        clear hb
        have Ha := Lib.hid qa
        clear qa
        have Hb := Lib.hid qb
        clear qb
        have Hc := Lib.hid qc
        clear qc
        go_enter Tryd.func63, Tryd.ntmps63
        go_wp2_with (first | (go_at_call 114; refine (sl7Id_calls _ _ true Ha.out).mono ?_; rintro e w2 ⟨rfl, rfl⟩) | (go_at_call 115; refine (sTimeOk_calls _ _ true Hb.out).mono ?_; rintro e w2 ⟨rfl, rfl⟩) | (go_at_call 112; refine (sl7Key_calls _ _ false Hc.out).mono ?_; rintro e w2 ⟨rfl, rfl⟩))
        go_ret
        exact ⟨by first | rfl | simp, (by repeat (first | with_reducible exact Below.refl _ _ | with_reducible assumption | (with_reducible refine Below.drew ?_) | (with_reducible refine Below.alloc ?_ (by first | with_reducible exact Nat.le_refl _ | omega | (simp; done) | (simp; omega) | (simp [World.setCell]; omega) | (simp [World.setCell]; done)) _) | (with_reducible refine Below.setCell ?_ (by first | with_reducible exact Nat.le_refl _ | omega | (simp; done) | (simp; omega) | (simp [World.setCell]; omega) | (simp [World.setCell]; done)) _)))⟩
      · cases qd : betweenB o_d 0 999
        · have hv : b = false := by rw [hb]; simp [opOk, *]
          subst hv
          clear hb
          have Ha := Lib.hid qa
          clear qa
          have Hb := Lib.hid qb
          clear qb
          have Hc := Lib.hid qc
          clear qc
          have Hd := Lib.hid qd
          clear qd
          go_enter Tryd.func63, Tryd.ntmps63
          go_wp2_with (first | (go_at_call 114; refine (sl7Id_calls _ _ true Ha.out).mono ?_; rintro e w2 ⟨rfl, rfl⟩) | (go_at_call 115; refine (sTimeOk_calls _ _ true Hb.out).mono ?_; rintro e w2 ⟨rfl, rfl⟩) | (go_at_call 112; refine (sl7Key_calls _ _ true Hc.out).mono ?_; rintro e w2 ⟨rfl, rfl⟩) | (go_at_call 113; refine (sl7Value_calls _ _ false Hd.out).mono ?_; rintro e w2 ⟨rfl, rfl⟩))
          go_ret
          exact ⟨by first | rfl | simp, (by repeat (first | with_reducible exact Below.refl _ _ | with_reducible assumption | (with_reducible refine Below.drew ?_) | (with_reducible refine Below.alloc ?_ (by first | with_reducible exact Nat.le_refl _ | omega | (simp; done) | (simp; omega) | (simp [World.setCell]; omega) | (simp [World.setCell]; done)) _) | (with_reducible refine Below.setCell ?_ (by first | with_reducible exact Nat.le_refl _ | omega | (simp; done) | (simp; omega) | (simp [World.setCell]; omega) | (simp [World.setCell]; done)) _)))⟩
        · have hv : b = true := by rw [hb]; simp [opOk, *]
          subst hv
          clear hb
          have Ha := Lib.hid qa
          clear qa
          have Hb := Lib.hid qb
          clear qb
          have Hc := Lib.hid qc
          clear qc
          have Hd := Lib.hid qd
          clear qd
          go_enter Tryd.func63, Tryd.ntmps63
          go_wp2_with (first | (go_at_call 114; refine (sl7Id_calls _ _ true Ha.out).mono ?_; rintro e w2 ⟨rfl, rfl⟩) | (go_at_call 115; refine (sTimeOk_calls _ _ true Hb.out).mono ?_; rintro e w2 ⟨rfl, rfl⟩) | (go_at_call 112; refine (sl7Key_calls _ _ true Hc.out).mono ?_; rintro e w2 ⟨rfl, rfl⟩) | (go_at_call 113; refine (sl7Value_calls _ _ true Hd.out).mono ?_; rintro e w2 ⟨rfl, rfl⟩))
          go_ret
          exact ⟨by first | rfl | simp, (by repeat (first | with_reducible exact Below.refl _ _ | with_reducible assumption | (with_reducible refine Below.drew ?_) | (with_reducible refine Below.alloc ?_ (by first | with_reducible exact Nat.le_refl _ | omega | (simp; done) | (simp; omega) | (simp [World.setCell]; omega) | (simp [World.setCell]; done)) _) | (with_reducible refine Below.setCell ?_ (by first | with_reducible exact Nat.le_refl _ | omega | (simp; done) | (simp; omega) | (simp [World.setCell]; omega) | (simp [World.setCell]; done)) _)))⟩
theorem sOpOk_4 (o_a o_b o_c o_d : Int) (w : World) (b : Bool) (hb : b = opOk ⟨4, o_a, o_b, o_c, o_d⟩) :
    Calls Tryd.prog 63 #[.agg #[.int .i64 4, .int .i64 o_a, .int .i64 o_b, .int .i64 o_c, .int .i64 o_d]] w fun e w' => e = .returned (.bool b) ∧ Below w.heap.size w w' := by
  cases qa : betweenB o_a 1 20
  · have hv : b = false := by rw [hb]; simp [opOk, *]
    subst hv
    clear hb
    have Ha := Lib.hid qa
    clear qa
    go_enter Tryd.func63, Tryd.ntmps63
    go_wp2_with (first | (go_at_call 114; refine (sl7Id_calls _ _ false Ha.out).mono ?_; rintro e w2 ⟨rfl, rfl⟩))
    go_ret
    exact ⟨by first | rfl | simp, (by repeat (first | with_reducible exact Below.refl _ _ | with_reducible assumption | (with_reducible refine Below.drew ?_) | (with_reducible refine Below.alloc ?_ (by first | with_reducible exact Nat.le_refl _ | omega | (simp; done) | (simp; omega) | (simp [World.setCell]; omega) | (simp [World.setCell]; done)) _) | (with_reducible refine Below.setCell ?_ (by first | with_reducible exact Nat.le_refl _ | omega | (simp; done) | (simp; omega) | (simp [World.setCell]; omega) | (simp [World.setCell]; done)) _)))⟩
  · cases qb : betweenB o_b 0 1000
    · have hv : b = false := by rw [hb]; simp [opOk, *]
      subst hv
      clear hb
      have Ha := Lib.hid qa
      clear qa
      have Hb := Lib.hid qb
      clear qb
      go_enter Tryd.func63, Tryd.ntmps63
      go_wp2_with (first | (go_at_call 114; refine (sl7Id_calls _ _ true Ha.out).mono ?_; rintro e w2 ⟨rfl, rfl⟩) | (go_at_call 116; refine (l1In_calls _ _ _ _ false Hb.out).mono ?_; rintro e w2 ⟨rfl, rfl⟩))
      go_ret
      exact ⟨by first | rfl | simp, (by repeat (first | with_reducible exact Below.refl _ _ | with_reducible assumption | (with_reducible refine Below.drew ?_) | (with_reducible refine Below.alloc ?_ (by first | with_reducible exact Nat.le_refl _ | omega | (simp; done) | (simp; omega) | (simp [World.setCell]; omega) | (simp [World.setCell]; done)) _) | (with_reducible refine Below.setCell ?_ (by first | with_reducible exact Nat.le_refl _ | omega | (simp; done) | (simp; omega) | (simp [World.setCell]; omega) | (simp [World.setCell]; done)) _)))⟩
    · cases qc : (o_c == 0)
      · have hv : b = false := by rw [hb]; simp [opOk, *]
        subst hv
        clear hb
        have Ha := Lib.hid qa
        clear qa
        have Hb := Lib.hid qb
        clear qb
        go_enter Tryd.func63, Tryd.ntmps63
        go_wp2_with (first | (go_at_call 114; refine (sl7Id_calls _ _ true Ha.out).mono ?_; rintro e w2 ⟨rfl, rfl⟩) | (go_at_call 116; refine (l1In_calls _ _ _ _ true Hb.out).mono ?_; rintro e w2 ⟨rfl, rfl⟩))
        go_ret
        exact ⟨by first | rfl | simp, (by repeat (first | with_reducible exact Below.refl _ _ | with_reducible assumption | (with_reducible refine Below.drew ?_) | (with_reducible refine Below.alloc ?_ (by first | with_reducible exact Nat.le_refl _ | omega | (simp; done) | (simp; omega) | (simp [World.setCell]; omega) | (simp [World.setCell]; done)) _) | (with_reducible refine Below.setCell ?_ (by first | with_reducible exact Nat.le_refl _ | omega | (simp; done) | (simp; omega) | (simp [World.setCell]; omega) | (simp [World.setCell]; done)) _)))⟩
      · cases qd : (o_d == 0)
        · have hv : b = false := by rw [hb]; simp [opOk, *]
          subst hv
          clear hb
          have Ha := Lib.hid qa
          clear qa
          have Hb := Lib.hid qb
          clear qb
          go_enter Tryd.func63, Tryd.ntmps63
          go_wp2_with (first | (go_at_call 114; refine (sl7Id_calls _ _ true Ha.out).mono ?_; rintro e w2 ⟨rfl, rfl⟩) | (go_at_call 116; refine (l1In_calls _ _ _ _ true Hb.out).mono ?_; rintro e w2 ⟨rfl, rfl⟩))
          go_ret
          exact ⟨by first | rfl | simp, (by repeat (first | with_reducible exact Below.refl _ _ | with_reducible assumption | (with_reducible refine Below.drew ?_) | (with_reducible refine Below.alloc ?_ (by first | with_reducible exact Nat.le_refl _ | omega | (simp; done) | (simp; omega) | (simp [World.setCell]; omega) | (simp [World.setCell]; done)) _) | (with_reducible refine Below.setCell ?_ (by first | with_reducible exact Nat.le_refl _ | omega | (simp; done) | (simp; omega) | (simp [World.setCell]; omega) | (simp [World.setCell]; done)) _)))⟩
        · have hv : b = true := by rw [hb]; simp [opOk, *]
          subst hv
          clear hb
          have Ha := Lib.hid qa
          clear qa
          have Hb := Lib.hid qb
          clear qb
          go_enter Tryd.func63, Tryd.ntmps63
          go_wp2_with (first | (go_at_call 114; refine (sl7Id_calls _ _ true Ha.out).mono ?_; rintro e w2 ⟨rfl, rfl⟩) | (go_at_call 116; refine (l1In_calls _ _ _ _ true Hb.out).mono ?_; rintro e w2 ⟨rfl, rfl⟩))
          go_ret
          exact ⟨by first | rfl | simp, (by repeat (first | with_reducible exact Below.refl _ _ | with_reducible assumption | (with_reducible refine Below.drew ?_) | (with_reducible refine Below.alloc ?_ (by first | with_reducible exact Nat.le_refl _ | omega | (simp; done) | (simp; omega) | (simp [World.setCell]; omega) | (simp [World.setCell]; done)) _) | (with_reducible refine Below.setCell ?_ (by first | with_reducible exact Nat.le_refl _ | omega | (simp; done) | (simp; omega) | (simp [World.setCell]; omega) | (simp [World.setCell]; done)) _)))⟩
theorem sOpOk_5 (o_a o_b o_c o_d : Int) (w : World) (b : Bool) (hb : b = opOk ⟨5, o_a, o_b, o_c, o_d⟩) :
    Calls Tryd.prog 63 #[.agg #[.int .i64 5, .int .i64 o_a, .int .i64 o_b, .int .i64 o_c, .int .i64 o_d]] w fun e w' => e = .returned (.bool b) ∧ Below w.heap.size w w' := by
  cases qa : betweenB o_a 1 1000
  · have hv : b = false := by rw [hb]; simp [opOk, *]
    subst hv
    clear hb
    have Ha := Lib.hid qa
    clear qa
    go_enter Tryd.func63, Tryd.ntmps63
    go_wp2_with (first | (go_at_call 116; refine (l1In_calls _ _ _ _ false Ha.out).mono ?_; rintro e w2 ⟨rfl, rfl⟩))
    go_ret
    exact ⟨by first | rfl | simp, (by repeat (first | with_reducible exact Below.refl _ _ | with_reducible assumption | (with_reducible refine Below.drew ?_) | (with_reducible refine Below.alloc ?_ (by first | with_reducible exact Nat.le_refl _ | omega | (simp; done) | (simp; omega) | (simp [World.setCell]; omega) | (simp [World.setCell]; done)) _) | (with_reducible refine Below.setCell ?_ (by first | with_reducible exact Nat.le_refl _ | omega | (simp; done) | (simp; omega) | (simp [World.setCell]; omega) | (simp [World.setCell]; done)) _)))⟩
  · cases qb : (o_b == 0)
    · have hv : b = false := by rw [hb]; simp [opOk, *]
      subst hv
      clear hb
      have Ha := Lib.hid qa
      clear qa
      go_enter Tryd.func63, Tryd.ntmps63
      go_wp2_with (first | (go_at_call 116; refine (l1In_calls _ _ _ _ true Ha.out).mono ?_; rintro e w2 ⟨rfl, rfl⟩))
      go_ret
      exact ⟨by first | rfl | simp, (by repeat (first | with_reducible exact Below.refl _ _ | with_reducible assumption | (with_reducible refine Below.drew ?_) | (with_reducible refine Below.alloc ?_ (by first | with_reducible exact Nat.le_refl _ | omega | (simp; done) | (simp; omega) | (simp [World.setCell]; omega) | (simp [World.setCell]; done)) _) | (with_reducible refine Below.setCell ?_ (by first | with_reducible exact Nat.le_refl _ | omega | (simp; done) | (simp; omega) | (simp [World.setCell]; omega) | (simp [World.setCell]; done)) _)))⟩
    · cases qc : (o_c == 0)
      · have hv : b = false := by rw [hb]; simp [opOk, *]
        subst hv
        clear hb
        have Ha := Lib.hid qa
        clear qa
        go_enter Tryd.func63, Tryd.ntmps63
        go_wp2_with (first | (go_at_call 116; refine (l1In_calls _ _ _ _ true Ha.out).mono ?_; rintro e w2 ⟨rfl, rfl⟩))
        go_ret
        exact ⟨by first | rfl | simp, (by repeat (first | with_reducible exact Below.refl _ _ | with_reducible assumption | (with_reducible refine Below.drew ?_) | (with_reducible refine Below.alloc ?_ (by first | with_reducible exact Nat.le_refl _ | omega | (simp; done) | (simp; omega) | (simp [World.setCell]; omega) | (simp [World.setCell]; done)) _) | (with_reducible refine Below.setCell ?_ (by first | with_reducible exact Nat.le_refl _ | omega | (simp; done) | (simp; omega) | (simp [World.setCell]; omega) | (simp [World.setCell]; done)) _)))⟩
      · cases qd : (o_d == 0)
        · have hv : b = false := by rw [hb]; simp [opOk, *]
          subst hv
          clear hb
          have Ha := Lib.hid qa
          clear qa
          go_enter Tryd.func63, Tryd.ntmps63
          go_wp2_with (first | (go_at_call 116; refine (l1In_calls _ _ _ _ true Ha.out).mono ?_; rintro e w2 ⟨rfl, rfl⟩))
          go_ret
          exact ⟨by first | rfl | simp, (by repeat (first | with_reducible exact Below.refl _ _ | with_reducible assumption | (with_reducible refine Below.drew ?_) | (with_reducible refine Below.alloc ?_ (by first | with_reducible exact Nat.le_refl _ | omega | (simp; done) | (simp; omega) | (simp [World.setCell]; omega) | (simp [World.setCell]; done)) _) | (with_reducible refine Below.setCell ?_ (by first | with_reducible exact Nat.le_refl _ | omega | (simp; done) | (simp; omega) | (simp [World.setCell]; omega) | (simp [World.setCell]; done)) _)))⟩
        · have hv : b = true := by rw [hb]; simp [opOk, *]
          subst hv
          clear hb
          have Ha := Lib.hid qa
          clear qa
          go_enter Tryd.func63, Tryd.ntmps63
          go_wp2_with (first | (go_at_call 116; refine (l1In_calls _ _ _ _ true Ha.out).mono ?_; rintro e w2 ⟨rfl, rfl⟩))
          go_ret
          exact ⟨by first | rfl | simp, (by repeat (first | with_reducible exact Below.refl _ _ | with_reducible assumption | (with_reducible refine Below.drew ?_) | (with_reducible refine Below.alloc ?_ (by first | with_reducible exact Nat.le_refl _ | omega | (simp; done) | (simp; omega) | (simp [World.setCell]; omega) | (simp [World.setCell]; done)) _) | (with_reducible refine Below.setCell ?_ (by first | with_reducible exact Nat.le_refl _ | omega | (simp; done) | (simp; omega) | (simp [World.setCell]; omega) | (simp [World.setCell]; done)) _)))⟩
theorem sOpOk_calls (o : DOp) (w : World) (b : Bool) (hb : opOk o = b) :
    Calls Tryd.prog 63 #[.agg #[.int .i64 o.kind, .int .i64 o.a, .int .i64 o.b, .int .i64 o.c, .int .i64 o.d]] w fun e w' => e = .returned (.bool b) ∧ Below w.heap.size w w' := by
  obtain ⟨k, o_a, o_b, o_c, o_d⟩ := o
  by_cases h1 : k = 1
  · subst h1; exact sOpOk_1 o_a o_b o_c o_d w b hb.symm
  by_cases h2 : k = 2
  · subst h2; exact sOpOk_2 o_a o_b o_c o_d w b hb.symm
  by_cases h3 : k = 3
  · subst h3; exact sOpOk_3 o_a o_b o_c o_d w b hb.symm
  by_cases h4 : k = 4
  · subst h4; exact sOpOk_4 o_a o_b o_c o_d w b hb.symm
  by_cases h5 : k = 5
  · subst h5; exact sOpOk_5 o_a o_b o_c o_d w b hb.symm
  have hv : b = false := by rw [← hb]; simp [opOk, *]
  subst hv
  clear hb
  have g1 : (k == 1) = false := by simpa using h1
  have g2 : (k == 2) = false := by simpa using h2
  have g3 : (k == 3) = false := by simpa using h3
  have g4 : (k == 4) = false := by simpa using h4
  have g5 : (k == 5) = false := by simpa using h5
  clear h1 h2 h3 h4 h5
  go_enter Tryd.func63, Tryd.ntmps63
  go_wp2
  go_ret
  exact ⟨by first | rfl | simp, (by repeat (first | with_reducible exact Below.refl _ _ | with_reducible assumption | (with_reducible refine Below.drew ?_) | (with_reducible refine Below.alloc ?_ (by first | with_reducible exact Nat.le_refl _ | omega | (simp; done) | (simp; omega) | (simp [World.setCell]; omega) | (simp [World.setCell]; done)) _) | (with_reducible refine Below.setCell ?_ (by first | with_reducible exact Nat.le_refl _ | omega | (simp; done) | (simp; omega) | (simp [World.setCell]; omega) | (simp [World.setCell]; done)) _)))⟩
end Go.Proofs.YtlhanpkfnhnegaaDoor
