/- FaultOf of the reference and of the program: both hand back the steps of the fault. -/
import Derived.Test.YtfehpceafnjmnaaFault
set_option linter.unusedVariables false
set_option linter.unusedSimpArgs false
set_option maxRecDepth 100000
namespace Go.Proofs.Ytfehpceafnjmnaa
open Go.ChangeShapes Go.WideShapes Go.RowKit

theorem singles_all (w : World) (kd a b c : Int) (h0 : (Lit.int .i64 kd).wf = true) (h1 : (Lit.int .i64 a).wf = true) (h2 : (Lit.int .i64 b).wf = true) (h3 : (Lit.int .i64 c).wf = true) :
    Rep.DStep.all w [.int .i64 kd, .int .i64 a, .int .i64 b, .int .i64 c, .slice none 0 0] [⟨kd, a, b, c, []⟩] [] :=
  Rep.all_one_elem (DStep_make (x := ⟨kd, a, b, c, []⟩) h0 h1 h2 h3 (nilInts_rd w))
theorem nil_res (w : World) (t : TypeId) : Res (Rep.sl (Rep.int .i64)) w.heap.size (w.alloc (.cells #[] t)) [.slice (some ⟨w.heap.size, 0, none⟩) 0 0] [] [] :=
  ⟨⟨_, 0, [], [], rfl, Nat.le_refl _, Nat.zero_le _, fun j hj => absurd hj (Nat.not_lt_zero _), ⟨rfl, rfl⟩, rfl⟩, Fresh.nil _ _⟩
theorem OutSlB.up {α : Type} {R : Rep α} {l : List α} {w W : World} {e : Ending} {w' : World} (h : OutSlB R w.heap.size l W e w') (hb : Below w.heap.size w W) : OutSl R l w e w' := by
  obtain ⟨A, cap, F, e, hr, hb1⟩ := h
  exact ⟨A, cap, F, e, hr.rd, hr.fresh, hb.trans (hb1.mono hb.size)⟩

set_option maxHeartbeats 1000000 in
theorem sFaultOf_0 (w : World) : Calls Try.prog 11 #[.int .i64 0] w (OutSl Rep.DStep (faultL 0) w) := by
  go_enter Try.func11, Try.ntmps11
  go_wp2_with fail
  refine (sl31Fall_calls 0 [] _ 0 0 [] w.heap.size _ (nil_res w _) (by simp) (by decide)).mono ?_
  rintro e W2 ⟨A2, c2, F2, rfl, h2, hb2⟩
  have H : OutSl Rep.DStep (faultL 0) w (.returned (.slice A2 (fallL 0 []).length c2)) W2 := OutSlB.up ⟨A2, c2, F2, rfl, h2, hb2⟩ (by repeat (first | with_reducible exact Below.refl _ _ | with_reducible assumption | (with_reducible refine Below.drew ?_) | (with_reducible refine Below.alloc ?_ (by first | with_reducible exact Nat.le_refl _ | omega | (simp; done) | (simp; omega) | (simp [World.setCell]; omega) | (simp [World.setCell]; done)) _) | (with_reducible refine Below.setCell ?_ (by first | with_reducible exact Nat.le_refl _ | omega | (simp; done) | (simp; omega) | (simp [World.setCell]; omega) | (simp [World.setCell]; done)) _)))
  clear h2 hb2
  go_wp2_with fail
  go_ret
  exact H
set_option maxHeartbeats 1000000 in
theorem sFaultOf_1 (w : World) : Calls Try.prog 11 #[.int .i64 1] w (OutSl Rep.DStep (faultL 1) w) := by
  go_enter Try.func11, Try.ntmps11
  go_wp2_with fail
  refine (sl31Twelve_calls 1 _ (by decide)).mono ?_
  rintro e W1 ⟨A1, c1, F1, rfl, h1, hf1, hb1⟩
  go_wp2_with fail
  refine (sl31Fall_calls 0 (List.replicate 12 1) A1 _ c1 F1 w.heap.size _ ⟨h1, hf1⟩ hb1.size (by decide)).mono ?_
  rintro e W2 ⟨A2, c2, F2, rfl, h2, hb2⟩
  have H : OutSl Rep.DStep (faultL 1) w (.returned (.slice A2 (fallL 0 (List.replicate 12 1)).length c2)) W2 := OutSlB.up ⟨A2, c2, F2, rfl, h2, hb2⟩ hb1
  clear h2 hb2
  go_wp2_with fail
  go_ret
  exact H
set_option maxHeartbeats 1000000 in
theorem sFaultOf_2 (w : World) : Calls Try.prog 11 #[.int .i64 2] w (OutSl Rep.DStep (faultL 2) w) := by
  go_enter Try.func11, Try.ntmps11
  go_wp2_with fail
  refine (sl31Twelve_calls 2 _ (by decide)).mono ?_
  rintro e W1 ⟨A1, c1, F1, rfl, h1, hf1, hb1⟩
  go_wp2_with fail
  refine (sl31Fall_calls 0 (List.replicate 12 2) A1 _ c1 F1 w.heap.size _ ⟨h1, hf1⟩ hb1.size (by decide)).mono ?_
  rintro e W2 ⟨A2, c2, F2, rfl, h2, hb2⟩
  have H : OutSl Rep.DStep (faultL 2) w (.returned (.slice A2 (fallL 0 (List.replicate 12 2)).length c2)) W2 := OutSlB.up ⟨A2, c2, F2, rfl, h2, hb2⟩ hb1
  clear h2 hb2
  go_wp2_with fail
  go_ret
  exact H
set_option maxHeartbeats 1000000 in
theorem sFaultOf_3 (w : World) : Calls Try.prog 11 #[.int .i64 3] w (OutSl Rep.DStep (faultL 3) w) := by
  go_enter Try.func11, Try.ntmps11
  go_wp2_with fail
  refine (sl31LogFates_calls _).mono ?_
  rintro e W1 ⟨A1, c1, F1, rfl, h1, hf1, hb1⟩
  go_wp2_with fail
  refine (sl31Fall_calls 0 logFates A1 _ c1 F1 w.heap.size _ ⟨h1, hf1⟩ hb1.size (by decide)).mono ?_
  rintro e W2 ⟨A2, c2, F2, rfl, h2, hb2⟩
  have H : OutSl Rep.DStep (faultL 3) w (.returned (.slice A2 (fallL 0 logFates).length c2)) W2 := OutSlB.up ⟨A2, c2, F2, rfl, h2, hb2⟩ hb1
  clear h2 hb2
  go_wp2_with fail
  go_ret
  exact H
set_option maxHeartbeats 1000000 in
theorem sFaultOf_4 (w : World) : Calls Try.prog 11 #[.int .i64 4] w (OutSl Rep.DStep (faultL 4) w) := by
  go_enter Try.func11, Try.ntmps11
  go_wp2_with fail
  refine (sl31Fall_calls 1 [] _ 0 0 [] w.heap.size _ (nil_res w _) (by simp) (by decide)).mono ?_
  rintro e W2 ⟨A2, c2, F2, rfl, h2, hb2⟩
  have H : OutSl Rep.DStep (faultL 4) w (.returned (.slice A2 (fallL 1 []).length c2)) W2 := OutSlB.up ⟨A2, c2, F2, rfl, h2, hb2⟩ (by repeat (first | with_reducible exact Below.refl _ _ | with_reducible assumption | (with_reducible refine Below.drew ?_) | (with_reducible refine Below.alloc ?_ (by first | with_reducible exact Nat.le_refl _ | omega | (simp; done) | (simp; omega) | (simp [World.setCell]; omega) | (simp [World.setCell]; done)) _) | (with_reducible refine Below.setCell ?_ (by first | with_reducible exact Nat.le_refl _ | omega | (simp; done) | (simp; omega) | (simp [World.setCell]; omega) | (simp [World.setCell]; done)) _)))
  clear h2 hb2
  go_wp2_with fail
  go_ret
  exact H
set_option maxHeartbeats 1000000 in
theorem sFaultOf_5 (w : World) : Calls Try.prog 11 #[.int .i64 5] w (OutSl Rep.DStep (faultL 5) w) := by
  go_enter Try.func11, Try.ntmps11
  go_wp2_with fail
  refine (sl31StoreFates_calls _).mono ?_
  rintro e W1 ⟨A1, c1, F1, rfl, h1, hf1, hb1⟩
  go_wp2_with fail
  refine (sl31Fall_calls 1 storeFates A1 _ c1 F1 w.heap.size _ ⟨h1, hf1⟩ hb1.size (by decide)).mono ?_
  rintro e W2 ⟨A2, c2, F2, rfl, h2, hb2⟩
  have H : OutSl Rep.DStep (faultL 5) w (.returned (.slice A2 (fallL 1 storeFates).length c2)) W2 := OutSlB.up ⟨A2, c2, F2, rfl, h2, hb2⟩ hb1
  clear h2 hb2
  go_wp2_with fail
  go_ret
  exact H
set_option maxHeartbeats 1000000 in
theorem sFaultOf_6 (w : World) : Calls Try.prog 11 #[.int .i64 6] w (OutSl Rep.DStep (faultL 6) w) := by
  go_enter Try.func11, Try.ntmps11
  go_wp2_with fail
  refine (sl31Fall_calls 2 [] _ 0 0 [] w.heap.size _ (nil_res w _) (by simp) (by decide)).mono ?_
  rintro e W2 ⟨A2, c2, F2, rfl, h2, hb2⟩
  have H : OutSl Rep.DStep (faultL 6) w (.returned (.slice A2 (fallL 2 []).length c2)) W2 := OutSlB.up ⟨A2, c2, F2, rfl, h2, hb2⟩ (by repeat (first | with_reducible exact Below.refl _ _ | with_reducible assumption | (with_reducible refine Below.drew ?_) | (with_reducible refine Below.alloc ?_ (by first | with_reducible exact Nat.le_refl _ | omega | (simp; done) | (simp; omega) | (simp [World.setCell]; omega) | (simp [World.setCell]; done)) _) | (with_reducible refine Below.setCell ?_ (by first | with_reducible exact Nat.le_refl _ | omega | (simp; done) | (simp; omega) | (simp [World.setCell]; omega) | (simp [World.setCell]; done)) _)))
  clear h2 hb2
  go_wp2_with fail
  go_ret
  exact H
set_option maxHeartbeats 1000000 in
theorem sFaultOf_7 (w : World) : Calls Try.prog 11 #[.int .i64 7] w (OutSl Rep.DStep (faultL 7) w) := by
  obtain ⟨G, hG, _⟩ := new_sl (R := Rep.DStep) w 44 #[.int .i64 7, .int .i64 0, .int .i64 0, .int .i64 0, .slice none 0 0] [⟨7, 0, 0, 0, []⟩] [] w.heap.size (Nat.le_refl _) (singles_all w 7 0 0 0 (by decide) (by decide) (by decide) (by decide)) (Fresh.nil _ _) (by simp)
  have HG := Lib.hid hG
  clear hG
  go_enter Try.func11, Try.ntmps11
  go_wp2
  go_ret
  exact ⟨_, _, G, rfl, HG.out.rd, HG.out.fresh, (by repeat (first | with_reducible exact Below.refl _ _ | with_reducible assumption | (with_reducible refine Below.drew ?_) | (with_reducible refine Below.alloc ?_ (by first | with_reducible exact Nat.le_refl _ | omega | (simp; done) | (simp; omega) | (simp [World.setCell]; omega) | (simp [World.setCell]; done)) _) | (with_reducible refine Below.setCell ?_ (by first | with_reducible exact Nat.le_refl _ | omega | (simp; done) | (simp; omega) | (simp [World.setCell]; omega) | (simp [World.setCell]; done)) _)))⟩
set_option maxHeartbeats 1000000 in
theorem sFaultOf_8 (w : World) : Calls Try.prog 11 #[.int .i64 8] w (OutSl Rep.DStep (faultL 8) w) := by
  obtain ⟨G, hG, _⟩ := new_sl (R := Rep.DStep) w 44 #[.int .i64 8, .int .i64 0, .int .i64 0, .int .i64 0, .slice none 0 0] [⟨8, 0, 0, 0, []⟩] [] w.heap.size (Nat.le_refl _) (singles_all w 8 0 0 0 (by decide) (by decide) (by decide) (by decide)) (Fresh.nil _ _) (by simp)
  have HG := Lib.hid hG
  clear hG
  go_enter Try.func11, Try.ntmps11
  go_wp2
  go_ret
  exact ⟨_, _, G, rfl, HG.out.rd, HG.out.fresh, (by repeat (first | with_reducible exact Below.refl _ _ | with_reducible assumption | (with_reducible refine Below.drew ?_) | (with_reducible refine Below.alloc ?_ (by first | with_reducible exact Nat.le_refl _ | omega | (simp; done) | (simp; omega) | (simp [World.setCell]; omega) | (simp [World.setCell]; done)) _) | (with_reducible refine Below.setCell ?_ (by first | with_reducible exact Nat.le_refl _ | omega | (simp; done) | (simp; omega) | (simp [World.setCell]; omega) | (simp [World.setCell]; done)) _)))⟩
set_option maxHeartbeats 1000000 in
theorem sFaultOf_9 (w : World) : Calls Try.prog 11 #[.int .i64 9] w (OutSl Rep.DStep (faultL 9) w) := by
  obtain ⟨G, hG, _⟩ := new_sl (R := Rep.DStep) w 44 #[.int .i64 9, .int .i64 0, .int .i64 1, .int .i64 0, .slice none 0 0] [⟨9, 0, 1, 0, []⟩] [] w.heap.size (Nat.le_refl _) (singles_all w 9 0 1 0 (by decide) (by decide) (by decide) (by decide)) (Fresh.nil _ _) (by simp)
  have HG := Lib.hid hG
  clear hG
  go_enter Try.func11, Try.ntmps11
  go_wp2
  go_ret
  exact ⟨_, _, G, rfl, HG.out.rd, HG.out.fresh, (by repeat (first | with_reducible exact Below.refl _ _ | with_reducible assumption | (with_reducible refine Below.drew ?_) | (with_reducible refine Below.alloc ?_ (by first | with_reducible exact Nat.le_refl _ | omega | (simp; done) | (simp; omega) | (simp [World.setCell]; omega) | (simp [World.setCell]; done)) _) | (with_reducible refine Below.setCell ?_ (by first | with_reducible exact Nat.le_refl _ | omega | (simp; done) | (simp; omega) | (simp [World.setCell]; omega) | (simp [World.setCell]; done)) _)))⟩
set_option maxHeartbeats 1000000 in
theorem sFaultOf_10 (w : World) : Calls Try.prog 11 #[.int .i64 10] w (OutSl Rep.DStep (faultL 10) w) := by
  obtain ⟨G, hG, _⟩ := new_sl (R := Rep.DStep) w 44 #[.int .i64 4, .int .i64 0, .int .i64 0, .int .i64 0, .slice none 0 0] [⟨4, 0, 0, 0, []⟩] [] w.heap.size (Nat.le_refl _) (singles_all w 4 0 0 0 (by decide) (by decide) (by decide) (by decide)) (Fresh.nil _ _) (by simp)
  have HG := Lib.hid hG
  clear hG
  go_enter Try.func11, Try.ntmps11
  go_wp2
  go_ret
  exact ⟨_, _, G, rfl, HG.out.rd, HG.out.fresh, (by repeat (first | with_reducible exact Below.refl _ _ | with_reducible assumption | (with_reducible refine Below.drew ?_) | (with_reducible refine Below.alloc ?_ (by first | with_reducible exact Nat.le_refl _ | omega | (simp; done) | (simp; omega) | (simp [World.setCell]; omega) | (simp [World.setCell]; done)) _) | (with_reducible refine Below.setCell ?_ (by first | with_reducible exact Nat.le_refl _ | omega | (simp; done) | (simp; omega) | (simp [World.setCell]; omega) | (simp [World.setCell]; done)) _)))⟩
set_option maxHeartbeats 1000000 in
theorem sFaultOf_11 (w : World) : Calls Try.prog 11 #[.int .i64 11] w (OutSl Rep.DStep (faultL 11) w) := by
  obtain ⟨G, hG, _⟩ := new_sl (R := Rep.DStep) w 44 #[.int .i64 4, .int .i64 3, .int .i64 60, .int .i64 0, .slice none 0 0] [⟨4, 3, 60, 0, []⟩] [] w.heap.size (Nat.le_refl _) (singles_all w 4 3 60 0 (by decide) (by decide) (by decide) (by decide)) (Fresh.nil _ _) (by simp)
  have HG := Lib.hid hG
  clear hG
  go_enter Try.func11, Try.ntmps11
  go_wp2
  go_ret
  exact ⟨_, _, G, rfl, HG.out.rd, HG.out.fresh, (by repeat (first | with_reducible exact Below.refl _ _ | with_reducible assumption | (with_reducible refine Below.drew ?_) | (with_reducible refine Below.alloc ?_ (by first | with_reducible exact Nat.le_refl _ | omega | (simp; done) | (simp; omega) | (simp [World.setCell]; omega) | (simp [World.setCell]; done)) _) | (with_reducible refine Below.setCell ?_ (by first | with_reducible exact Nat.le_refl _ | omega | (simp; done) | (simp; omega) | (simp [World.setCell]; omega) | (simp [World.setCell]; done)) _)))⟩
set_option maxHeartbeats 1000000 in
theorem sFaultOf_12 (w : World) : Calls Try.prog 11 #[.int .i64 12] w (OutSl Rep.DStep (faultL 12) w) := by
  obtain ⟨G, hG, _⟩ := new_sl (R := Rep.DStep) w 44 #[.int .i64 11, .int .i64 3, .int .i64 1, .int .i64 5, .slice none 0 0] [⟨11, 3, 1, 5, []⟩] [] w.heap.size (Nat.le_refl _) (singles_all w 11 3 1 5 (by decide) (by decide) (by decide) (by decide)) (Fresh.nil _ _) (by simp)
  have HG := Lib.hid hG
  clear hG
  go_enter Try.func11, Try.ntmps11
  go_wp2
  go_ret
  exact ⟨_, _, G, rfl, HG.out.rd, HG.out.fresh, (by repeat (first | with_reducible exact Below.refl _ _ | with_reducible assumption | (with_reducible refine Below.drew ?_) | (with_reducible refine Below.alloc ?_ (by first | with_reducible exact Nat.le_refl _ | omega | (simp; done) | (simp; omega) | (simp [World.setCell]; omega) | (simp [World.setCell]; done)) _) | (with_reducible refine Below.setCell ?_ (by first | with_reducible exact Nat.le_refl _ | omega | (simp; done) | (simp; omega) | (simp [World.setCell]; omega) | (simp [World.setCell]; done)) _)))⟩
set_option maxHeartbeats 1000000 in
theorem sFaultOf_13 (w : World) : Calls Try.prog 11 #[.int .i64 13] w (OutSl Rep.DStep (faultL 13) w) := by
  go_enter Try.func11, Try.ntmps11
  go_wp2_with fail
  refine (sl31LogFates_calls _).mono ?_
  rintro e W1 ⟨A1, c1, F1, rfl, h1, hf1, hb1⟩
  go_wp2_with fail
  refine (sl31StoreFates_calls _).mono ?_
  rintro e W2 ⟨A2, c2, F2, rfl, h2, hf2, hb2⟩
  have h1' : (Rep.sl (Rep.int .i64)).rd W2 [.slice A1 logFates.length c1] logFates F1 := Rep.below_all h1 hb2
  have hf1' := hf1.below hb2
  have hb := hb1.trans (hb2.mono hb1.size)
  have hfr : Fresh w.heap.size W2 (F1 ++ F2) := hf1'.join (hf2.mono hb1.size) (fun b h h' => by have := hf1.lt b h; have := (hf2.2 b h').1; omega)
  have hall : Rep.DStep.all W2 [.int .i64 5, .int .i64 0, .int .i64 0, .int .i64 0, .slice A1 logFates.length c1, .int .i64 5, .int .i64 1, .int .i64 0, .int .i64 0, .slice A2 storeFates.length c2, .int .i64 6, .int .i64 1, .int .i64 0, .int .i64 0, .slice none 0 0, .int .i64 6, .int .i64 0, .int .i64 0, .int .i64 0, .slice none 0 0] (faultL 13) (F1 ++ F2) := by
    have q1 := DStep_make (x := ⟨5, 0, 0, 0, logFates⟩) (by dsimp only; decide) (by dsimp only; decide) (by dsimp only; decide) (by dsimp only; decide) h1'
    have q2 := DStep_make (x := ⟨5, 1, 0, 0, storeFates⟩) (by dsimp only; decide) (by dsimp only; decide) (by dsimp only; decide) (by dsimp only; decide) h2
    have q3 := singles_all W2 6 1 0 0 (by decide) (by decide) (by decide) (by decide)
    have q4 := singles_all W2 6 0 0 0 (by decide) (by decide) (by decide) (by decide)
    have := Rep.all_append (R := Rep.DStep) (Rep.all_append (R := Rep.DStep) (Rep.all_one_elem q1) (Rep.all_one_elem q2)) (Rep.all_append (R := Rep.DStep) q3 q4)
    simp only [List.append_nil] at this
    exact this
  obtain ⟨G, hG, _⟩ := new_sl (R := Rep.DStep) W2 44 #[.int .i64 5, .int .i64 0, .int .i64 0, .int .i64 0, .slice A1 logFates.length c1, .int .i64 5, .int .i64 1, .int .i64 0, .int .i64 0, .slice A2 storeFates.length c2, .int .i64 6, .int .i64 1, .int .i64 0, .int .i64 0, .slice none 0 0, .int .i64 6, .int .i64 0, .int .i64 0, .int .i64 0, .slice none 0 0] (faultL 13) (F1 ++ F2) w.heap.size hb.size hall hfr (by decide)
  have HG := Lib.hid hG
  have hz := hb.size
  clear hG hall hfr h1 h1' h2 hf1 hf1' hf2 hb1 hb2
  go_wp2
  go_ret
  exact ⟨_, _, G, rfl, HG.out.rd, HG.out.fresh, (by repeat (first | with_reducible exact Below.refl _ _ | with_reducible assumption | (with_reducible refine Below.drew ?_) | (with_reducible refine Below.alloc ?_ (by first | with_reducible exact Nat.le_refl _ | omega | (simp; done) | (simp; omega) | (simp [World.setCell]; omega) | (simp [World.setCell]; done)) _) | (with_reducible refine Below.setCell ?_ (by first | with_reducible exact Nat.le_refl _ | omega | (simp; done) | (simp; omega) | (simp [World.setCell]; omega) | (simp [World.setCell]; done)) _)))⟩
set_option maxHeartbeats 1000000 in
theorem sFaultOf_out (k : Int) (w : World) (h : ¬ (0 ≤ k ∧ k ≤ 13)) : Calls Try.prog 11 #[.int .i64 k] w (OutSl Rep.DStep (faultL k) w) := by
  have e : faultL k = [] := by unfold faultL; repeat rw [if_neg (by omega)]
  rw [e]
  have n0 : (k == 0) = false := beq_eq_false_iff_ne.2 (by omega)
  have n1 : (k == 1) = false := beq_eq_false_iff_ne.2 (by omega)
  have n2 : (k == 2) = false := beq_eq_false_iff_ne.2 (by omega)
  have n3 : (k == 3) = false := beq_eq_false_iff_ne.2 (by omega)
  have n4 : (k == 4) = false := beq_eq_false_iff_ne.2 (by omega)
  have n5 : (k == 5) = false := beq_eq_false_iff_ne.2 (by omega)
  have n6 : (k == 6) = false := beq_eq_false_iff_ne.2 (by omega)
  have n7 : (k == 7) = false := beq_eq_false_iff_ne.2 (by omega)
  have n8 : (k == 8) = false := beq_eq_false_iff_ne.2 (by omega)
  have n9 : (k == 9) = false := beq_eq_false_iff_ne.2 (by omega)
  have n10 : (k == 10) = false := beq_eq_false_iff_ne.2 (by omega)
  have n11 : (k == 11) = false := beq_eq_false_iff_ne.2 (by omega)
  have n12 : (k == 12) = false := beq_eq_false_iff_ne.2 (by omega)
  have n13 : (k == 13) = false := beq_eq_false_iff_ne.2 (by omega)
  clear e h
  go_enter Try.func11, Try.ntmps11
  go_wp2
  go_ret
  exact ⟨_, 0, [], rfl, ⟨_, 0, [], [], rfl, Nat.le_refl _, Nat.zero_le _, fun j hj => absurd hj (Nat.not_lt_zero _), ⟨rfl, rfl⟩, rfl⟩, Fresh.nil _ _, (by repeat (first | with_reducible exact Below.refl _ _ | with_reducible assumption | (with_reducible refine Below.drew ?_) | (with_reducible refine Below.alloc ?_ (by first | with_reducible exact Nat.le_refl _ | omega | (simp; done) | (simp; omega) | (simp [World.setCell]; omega) | (simp [World.setCell]; done)) _) | (with_reducible refine Below.setCell ?_ (by first | with_reducible exact Nat.le_refl _ | omega | (simp; done) | (simp; omega) | (simp [World.setCell]; omega) | (simp [World.setCell]; done)) _)))⟩
theorem fault_cases {k : Int} (h : 0 ≤ k ∧ k ≤ 13) : k = 0 ∨ k = 1 ∨ k = 2 ∨ k = 3 ∨ k = 4 ∨ k = 5 ∨ k = 6 ∨ k = 7 ∨ k = 8 ∨ k = 9 ∨ k = 10 ∨ k = 11 ∨ k = 12 ∨ k = 13 := by omega
theorem sFaultOf_calls (k : Int) (w : World) : Calls Try.prog 11 #[.int .i64 k] w (OutSl Rep.DStep (faultL k) w) := by
  by_cases h : 0 ≤ k ∧ k ≤ 13
  · rcases fault_cases h with rfl | rfl | rfl | rfl | rfl | rfl | rfl | rfl | rfl | rfl | rfl | rfl | rfl | rfl
    · exact sFaultOf_0 w
    · exact sFaultOf_1 w
    · exact sFaultOf_2 w
    · exact sFaultOf_3 w
    · exact sFaultOf_4 w
    · exact sFaultOf_5 w
    · exact sFaultOf_6 w
    · exact sFaultOf_7 w
    · exact sFaultOf_8 w
    · exact sFaultOf_9 w
    · exact sFaultOf_10 w
    · exact sFaultOf_11 w
    · exact sFaultOf_12 w
    · exact sFaultOf_13 w
  · exact sFaultOf_out k w h
end Go.Proofs.Ytfehpceafnjmnaa
