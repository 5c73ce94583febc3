/- FaultOf of the program: a table of functions, one of which is called. -/
import Derived.Test.YtfehpceafnjmnaaFaultOf
import Derived.Laws.EntriesVeiled
set_option linter.unusedVariables false
set_option linter.unusedSimpArgs false
set_option maxRecDepth 100000
namespace Go.Proofs.Ytfehpceafnjmnaa
open Go.ChangeShapes Go.WideShapes Go.RowKit

theorem single_calls (cs : Array Value) (w : World) : Calls Try.prog 40 #[.agg cs] w fun e w' => e = .returned (.func (.func 41) #[] #[.pointer (some ⟨w.heap.size, 0, none⟩)]) ∧ w.alloc (.cells cs 44) = w' := by
  go_enter Try.func40, Try.ntmps40
  go_wp2
  go_ret
  exact ⟨rfl, rfl⟩
theorem heap_new_at {w : World} {k : Nat} {o : Obj} (h : k = w.heap.size) : (w.alloc o).heap[k]? = some o := by subst h; exact heap_alloc_new w o
def faultTab (w : World) : Array Value := #[.func (.func 42) #[] #[], .func (.func 44) #[] #[], .func (.func 46) #[] #[], .func (.func 47) #[] #[], .func (.func 49) #[] #[], .func (.func 50) #[] #[], .func (.func 52) #[] #[], .func (.func 41) #[] #[.pointer (some ⟨w.heap.size + 1, 0, none⟩)], .func (.func 41) #[] #[.pointer (some ⟨w.heap.size + 1 + 1, 0, none⟩)], .func (.func 41) #[] #[.pointer (some ⟨w.heap.size + 1 + 1 + 1, 0, none⟩)], .func (.func 41) #[] #[.pointer (some ⟨w.heap.size + 1 + 1 + 1 + 1, 0, none⟩)], .func (.func 41) #[] #[.pointer (some ⟨w.heap.size + 1 + 1 + 1 + 1 + 1, 0, none⟩)], .func (.func 41) #[] #[.pointer (some ⟨w.heap.size + 1 + 1 + 1 + 1 + 1 + 1, 0, none⟩)], .func (.func 53) #[] #[]]
def faultBoxes (w w' : World) : Prop := Below w.heap.size w w' ∧ w'.heap[w.heap.size + 1]? = some (.cells #[.int .i64 7, .int .i64 0, .int .i64 0, .int .i64 0, .slice none 0 0] 44 (0, 0)) ∧ w'.heap[w.heap.size + 1 + 1]? = some (.cells #[.int .i64 8, .int .i64 0, .int .i64 0, .int .i64 0, .slice none 0 0] 44 (0, 0)) ∧ w'.heap[w.heap.size + 1 + 1 + 1]? = some (.cells #[.int .i64 9, .int .i64 0, .int .i64 1, .int .i64 0, .slice none 0 0] 44 (0, 0)) ∧ w'.heap[w.heap.size + 1 + 1 + 1 + 1]? = some (.cells #[.int .i64 4, .int .i64 0, .int .i64 0, .int .i64 0, .slice none 0 0] 44 (0, 0)) ∧ w'.heap[w.heap.size + 1 + 1 + 1 + 1 + 1]? = some (.cells #[.int .i64 4, .int .i64 3, .int .i64 60, .int .i64 0, .slice none 0 0] 44 (0, 0)) ∧ w'.heap[w.heap.size + 1 + 1 + 1 + 1 + 1 + 1]? = some (.cells #[.int .i64 11, .int .i64 3, .int .i64 1, .int .i64 5, .slice none 0 0] 44 (0, 0))
set_option maxHeartbeats 4000000 in
theorem faults_calls (w : World) : Calls Try.prog 31 #[] w fun e w' => e = .returned (.agg (faultTab w)) ∧ faultBoxes w w' := by
  go_enter Try.func31, Try.ntmps31
  go_wp2_with (go_at_call 40; refine (single_calls _ _).mono ?_; rintro e w' ⟨rfl, rfl⟩)
  refine bodyPost_ret (v := .agg (faultTab w)) (by simp [results, Try.results31, go_sem, faultTab]) rfl ⟨rfl, (by repeat (first | with_reducible exact Below.refl _ _ | with_reducible assumption | (with_reducible refine Below.drew ?_) | (with_reducible refine Below.alloc ?_ (by first | with_reducible exact Nat.le_refl _ | omega | (simp; done) | (simp; omega) | (simp [World.setCell]; omega) | (simp [World.setCell]; done)) _) | (with_reducible refine Below.setCell ?_ (by first | with_reducible exact Nat.le_refl _ | omega | (simp; done) | (simp; omega) | (simp [World.setCell]; omega) | (simp [World.setCell]; done)) _))), ?_, ?_, ?_, ?_, ?_, ?_⟩
  all_goals repeat (first | exact heap_new_at (by first | (simp; done) | (simp; omega)) | refine (Below.heap_alloc _ _ _ (by first | (simp; done) | (simp; omega))).trans ?_)
set_option maxHeartbeats 1000000 in
theorem fault13_calls (w : World) : Calls Try.prog 53 #[] w (OutSl Rep.DStep (faultL 13) w) := by
  go_enter Try.func53, Try.ntmps53
  go_wp2_with fail
  refine (imixedLog_calls _).mono ?_
  rintro e W1 ⟨A1, c1, F1, rfl, h1, hf1, hb1⟩
  go_wp2_with fail
  refine (ifallAndRise_calls 0 logFates A1 _ c1 F1 w.heap.size _ ⟨h1, hf1⟩ hb1.size (by decide)).mono ?_
  rintro e W2 ⟨A2, c2, F2, rfl, h2, hb2⟩
  go_wp2_with fail
  refine (imixedStore_calls _).mono ?_
  rintro e W3 ⟨A3, c3, F3, rfl, h3, hf3, hb3⟩
  go_wp2_with fail
  refine (ifallAndRise_calls 1 storeFates A3 _ c3 F3 W2.heap.size _ ⟨h3, hf3⟩ hb3.size (by decide)).mono ?_
  rintro e W4 ⟨A4, c4, F4, rfl, h4, hb4⟩
  have hbA := hb1.trans (hb2.mono hb1.size)
  have hbB := hb3.trans (hb4.mono hb3.size)
  have h2' := h2.below hbB
  have hbb := hbA.trans (hbB.mono hbA.size)
  have hF2 := h2.fresh.lt
  have hF4 : ∀ g ∈ F4, W2.heap.size ≤ g := fun g hg => (h4.fresh.2 g hg).1
  clear h1 hf1 hb1 hb2 h3 hf3 hb3 hb4 h2
  obtain ⟨b, off, q0, G0, rfl, _, _, hs0, _, _, k0, hc0, _⟩ := h2'.lens (by decide) (k := 0) (by decide)
  obtain ⟨_, _, q1, G1, e1, _, _, hs1, _, _, k1, hc1, _⟩ := h2'.lens (by decide) (k := 1) (by decide)
  injection e1 with e1
  injection e1 with e1 e2 _
  subst e1 e2
  obtain ⟨b', off', r0, J0, rfl, _, _, ht0, _, _, l0, hd0, _⟩ := h4.lens (by decide) (k := 0) (by decide)
  obtain ⟨_, _, r1, J1, e1, _, _, ht1, _, _, l1, hd1, _⟩ := h4.lens (by decide) (k := 1) (by decide)
  injection e1 with e1
  injection e1 with e1 e2 _
  subst e1 e2
  rw [show Rep.DStep.size = 5 from rfl] at hc0 hc1 hd0 hd1
  obtain ⟨B0, p0, _, rfl, rfl, _, _, _, _, m0⟩ := DStep_open k0.rd
  obtain ⟨B1, p1, _, rfl, rfl, _, _, _, _, m1⟩ := DStep_open k1.rd
  obtain ⟨B2, p2, _, rfl, rfl, _, _, _, _, m2⟩ := DStep_open l0.rd
  obtain ⟨B3, p3, _, rfl, rfl, _, _, _, _, m3⟩ := DStep_open l1.rd
  have ca0 : W4.cell? ⟨b, off, none⟩ = some (.int .i64 5) := hc0 0 _ rfl
  have ca1 : W4.cell? ⟨b, off + 1, none⟩ = some (.int .i64 0) := hc0 1 _ rfl
  have ca2 : W4.cell? ⟨b, off + 2, none⟩ = some (.int .i64 0) := hc0 2 _ rfl
  have ca3 : W4.cell? ⟨b, off + 3, none⟩ = some (.int .i64 0) := hc0 3 _ rfl
  have ca4 : W4.cell? ⟨b, off + 4, none⟩ = some (.slice B0 12 p0) := hc0 4 _ rfl
  have cb0 : W4.cell? ⟨b, off + 5, none⟩ = some (.int .i64 6) := hc1 0 _ rfl
  have cb1 : W4.cell? ⟨b, off + 5 + 1, none⟩ = some (.int .i64 0) := hc1 1 _ rfl
  have cb2 : W4.cell? ⟨b, off + 5 + 2, none⟩ = some (.int .i64 0) := hc1 2 _ rfl
  have cb3 : W4.cell? ⟨b, off + 5 + 3, none⟩ = some (.int .i64 0) := hc1 3 _ rfl
  have cb4 : W4.cell? ⟨b, off + 5 + 4, none⟩ = some (.slice B1 0 p1) := hc1 4 _ rfl
  have cc0 : W4.cell? ⟨b', off', none⟩ = some (.int .i64 5) := hd0 0 _ rfl
  have cc1 : W4.cell? ⟨b', off' + 1, none⟩ = some (.int .i64 1) := hd0 1 _ rfl
  have cc2 : W4.cell? ⟨b', off' + 2, none⟩ = some (.int .i64 0) := hd0 2 _ rfl
  have cc3 : W4.cell? ⟨b', off' + 3, none⟩ = some (.int .i64 0) := hd0 3 _ rfl
  have cc4 : W4.cell? ⟨b', off' + 4, none⟩ = some (.slice B2 12 p2) := hd0 4 _ rfl
  have cd0 : W4.cell? ⟨b', off' + 5, none⟩ = some (.int .i64 6) := hd1 0 _ rfl
  have cd1 : W4.cell? ⟨b', off' + 5 + 1, none⟩ = some (.int .i64 1) := hd1 1 _ rfl
  have cd2 : W4.cell? ⟨b', off' + 5 + 2, none⟩ = some (.int .i64 0) := hd1 2 _ rfl
  have cd3 : W4.cell? ⟨b', off' + 5 + 3, none⟩ = some (.int .i64 0) := hd1 3 _ rfl
  have cd4 : W4.cell? ⟨b', off' + 5 + 4, none⟩ = some (.slice B3 0 p3) := hd1 4 _ rfl
  have m0' : Res (Rep.sl (Rep.int .i64)) w.heap.size W4 [.slice B0 logFates.length p0] logFates G0 := ⟨m0, k0.fresh⟩
  have m2' : Res (Rep.sl (Rep.int .i64)) W2.heap.size W4 [.slice B2 storeFates.length p2] storeFates J0 := ⟨m2, l0.fresh⟩
  have m1' : (Rep.sl (Rep.int .i64)).rd W4 [.slice B1 0 p1] [] [] := by
    have m1a : (Rep.sl (Rep.int .i64)).rd W4 [.slice B1 0 p1] [] G1 := m1
    obtain ⟨_, _, _, xs, F1, hr, ha, hF⟩ := Rep.sl_open m1a
    obtain ⟨rfl, rfl⟩ := ha
    rw [show G1 = [] by rw [hF]; simp [headOf]] at m1a
    exact m1a
  have m3' : (Rep.sl (Rep.int .i64)).rd W4 [.slice B3 0 p3] [] [] := by
    have m3a : (Rep.sl (Rep.int .i64)).rd W4 [.slice B3 0 p3] [] J1 := m3
    obtain ⟨_, _, _, xs, F1, hr, ha, hF⟩ := Rep.sl_open m3a
    obtain ⟨rfl, rfl⟩ := ha
    rw [show J1 = [] by rw [hF]; simp [headOf]] at m3a
    exact m3a
  have hall : Rep.DStep.all W4 [.int .i64 5, .int .i64 0, .int .i64 0, .int .i64 0, .slice B0 logFates.length p0, .int .i64 5, .int .i64 1, .int .i64 0, .int .i64 0, .slice B2 storeFates.length p2, .int .i64 6, .int .i64 1, .int .i64 0, .int .i64 0, .slice B3 0 p3, .int .i64 6, .int .i64 0, .int .i64 0, .int .i64 0, .slice B1 0 p1] (faultL 13) (G0 ++ J0) := by
    have q1 := DStep_make (x := ⟨5, 0, 0, 0, logFates⟩) (by dsimp only; decide) (by dsimp only; decide) (by dsimp only; decide) (by dsimp only; decide) m0'.rd
    have q2 := DStep_make (x := ⟨5, 1, 0, 0, storeFates⟩) (by dsimp only; decide) (by dsimp only; decide) (by dsimp only; decide) (by dsimp only; decide) m2'.rd
    have q3 := DStep_make (x := ⟨6, 1, 0, 0, []⟩) (by dsimp only; decide) (by dsimp only; decide) (by dsimp only; decide) (by dsimp only; decide) m3'
    have q4 := DStep_make (x := ⟨6, 0, 0, 0, []⟩) (by dsimp only; decide) (by dsimp only; decide) (by dsimp only; decide) (by dsimp only; decide) m1'
    have := Rep.all_append (R := Rep.DStep) (Rep.all_append (R := Rep.DStep) (Rep.all_one_elem q1) (Rep.all_one_elem q2)) (Rep.all_append (R := Rep.DStep) (Rep.all_one_elem q3) (Rep.all_one_elem q4))
    simp only [List.append_nil] at this
    exact this
  have hfr : Fresh w.heap.size W4 (G0 ++ J0) := m0'.fresh.join (m2'.fresh.mono hbA.size) (fun g h h' => by have := hF2 g (hs0 g h); have := hF4 g (ht0 g h'); omega)
  clear h2' h4 hc0 hc1 hd0 hd1 k0 k1 l0 l1 m0 m1 m2 m3 m0' m1' m2' m3' hs0 hs1 ht0 ht1 hF2 hF4
  have el0 : (fallL 0 logFates).length = 2 := rfl
  have el1 : (fallL 1 storeFates).length = 2 := rfl
  go_wp2
  go_still_tail 12, (by kernel_rfl)
  obtain ⟨G, hG, _⟩ := new_sl (R := Rep.DStep) W4 44 #[.int .i64 5, .int .i64 0, .int .i64 0, .int .i64 0, .slice B0 logFates.length p0, .int .i64 5, .int .i64 1, .int .i64 0, .int .i64 0, .slice B2 storeFates.length p2, .int .i64 6, .int .i64 1, .int .i64 0, .int .i64 0, .slice B3 0 p3, .int .i64 6, .int .i64 0, .int .i64 0, .int .i64 0, .slice B1 0 p1] (faultL 13) (G0 ++ J0) w.heap.size hbb.size hall hfr (by decide)
  have HG := Lib.hid hG
  have hz := hbb.size
  clear hG hall hfr
  go_wp2
  go_ret
  exact ⟨_, _, G, rfl, HG.out.drew.rd, HG.out.drew.fresh, (by repeat (first | with_reducible exact Below.refl _ _ | with_reducible assumption | (with_reducible refine Below.drew ?_) | (with_reducible refine Below.alloc ?_ (by first | with_reducible exact Nat.le_refl _ | omega | (simp; done) | (simp; omega) | (simp [World.setCell]; omega) | (simp [World.setCell]; done)) _) | (with_reducible refine Below.setCell ?_ (by first | with_reducible exact Nat.le_refl _ | omega | (simp; done) | (simp; omega) | (simp [World.setCell]; omega) | (simp [World.setCell]; done)) _)))⟩
set_option maxHeartbeats 1000000 in
theorem fault0_calls (w : World) : Calls Try.prog 42 #[] w (OutSl Rep.DStep (faultL 0) w) := by
  go_enter Try.func42, Try.ntmps42
  go_wp2_with fail
  refine (ifallAndRise_calls 0 [] none 0 0 [] w.heap.size _ ⟨nilInts_rd w, Fresh.nil _ _⟩ (Nat.le_refl _) (by decide)).mono ?_
  rintro e W2 ⟨A2, c2, F2, rfl, h2, hb2⟩
  have H : OutSl Rep.DStep (faultL 0) w (.returned (.slice A2 (fallL 0 []).length c2)) W2 := OutSlB.up ⟨A2, c2, F2, rfl, h2, hb2⟩ (by repeat (first | with_reducible exact Below.refl _ _ | with_reducible assumption | (with_reducible refine Below.drew ?_) | (with_reducible refine Below.alloc ?_ (by first | with_reducible exact Nat.le_refl _ | omega | (simp; done) | (simp; omega) | (simp [World.setCell]; omega) | (simp [World.setCell]; done)) _) | (with_reducible refine Below.setCell ?_ (by first | with_reducible exact Nat.le_refl _ | omega | (simp; done) | (simp; omega) | (simp [World.setCell]; omega) | (simp [World.setCell]; done)) _)))
  clear h2 hb2
  go_wp2_with fail
  go_ret
  exact H
set_option maxHeartbeats 1000000 in
theorem fault1_calls (w : World) : Calls Try.prog 44 #[] w (OutSl Rep.DStep (faultL 1) w) := by
  go_enter Try.func44, Try.ntmps44
  go_wp2_with fail
  refine (irepeated_calls 1 _ (by decide)).mono ?_
  rintro e W1 ⟨A1, c1, F1, rfl, h1, hf1, hb1⟩
  go_wp2_with fail
  refine (ifallAndRise_calls 0 (List.replicate 12 1) A1 _ c1 F1 w.heap.size _ ⟨h1, hf1⟩ hb1.size (by decide)).mono ?_
  rintro e W2 ⟨A2, c2, F2, rfl, h2, hb2⟩
  have H : OutSl Rep.DStep (faultL 1) w (.returned (.slice A2 (fallL 0 (List.replicate 12 1)).length c2)) W2 := OutSlB.up ⟨A2, c2, F2, rfl, h2, hb2⟩ hb1
  clear h2 hb2
  go_wp2_with fail
  go_ret
  exact H
set_option maxHeartbeats 1000000 in
theorem fault2_calls (w : World) : Calls Try.prog 46 #[] w (OutSl Rep.DStep (faultL 2) w) := by
  go_enter Try.func46, Try.ntmps46
  go_wp2_with fail
  refine (irepeated_calls 2 _ (by decide)).mono ?_
  rintro e W1 ⟨A1, c1, F1, rfl, h1, hf1, hb1⟩
  go_wp2_with fail
  refine (ifallAndRise_calls 0 (List.replicate 12 2) A1 _ c1 F1 w.heap.size _ ⟨h1, hf1⟩ hb1.size (by decide)).mono ?_
  rintro e W2 ⟨A2, c2, F2, rfl, h2, hb2⟩
  have H : OutSl Rep.DStep (faultL 2) w (.returned (.slice A2 (fallL 0 (List.replicate 12 2)).length c2)) W2 := OutSlB.up ⟨A2, c2, F2, rfl, h2, hb2⟩ hb1
  clear h2 hb2
  go_wp2_with fail
  go_ret
  exact H
set_option maxHeartbeats 1000000 in
theorem fault3_calls (w : World) : Calls Try.prog 47 #[] w (OutSl Rep.DStep (faultL 3) w) := by
  go_enter Try.func47, Try.ntmps47
  go_wp2_with fail
  refine (imixedLog_calls _).mono ?_
  rintro e W1 ⟨A1, c1, F1, rfl, h1, hf1, hb1⟩
  go_wp2_with fail
  refine (ifallAndRise_calls 0 logFates A1 _ c1 F1 w.heap.size _ ⟨h1, hf1⟩ hb1.size (by decide)).mono ?_
  rintro e W2 ⟨A2, c2, F2, rfl, h2, hb2⟩
  have H : OutSl Rep.DStep (faultL 3) w (.returned (.slice A2 (fallL 0 logFates).length c2)) W2 := OutSlB.up ⟨A2, c2, F2, rfl, h2, hb2⟩ hb1
  clear h2 hb2
  go_wp2_with fail
  go_ret
  exact H
set_option maxHeartbeats 1000000 in
theorem fault4_calls (w : World) : Calls Try.prog 49 #[] w (OutSl Rep.DStep (faultL 4) w) := by
  go_enter Try.func49, Try.ntmps49
  go_wp2_with fail
  refine (ifallAndRise_calls 1 [] none 0 0 [] w.heap.size _ ⟨nilInts_rd w, Fresh.nil _ _⟩ (Nat.le_refl _) (by decide)).mono ?_
  rintro e W2 ⟨A2, c2, F2, rfl, h2, hb2⟩
  have H : OutSl Rep.DStep (faultL 4) w (.returned (.slice A2 (fallL 1 []).length c2)) W2 := OutSlB.up ⟨A2, c2, F2, rfl, h2, hb2⟩ (by repeat (first | with_reducible exact Below.refl _ _ | with_reducible assumption | (with_reducible refine Below.drew ?_) | (with_reducible refine Below.alloc ?_ (by first | with_reducible exact Nat.le_refl _ | omega | (simp; done) | (simp; omega) | (simp [World.setCell]; omega) | (simp [World.setCell]; done)) _) | (with_reducible refine Below.setCell ?_ (by first | with_reducible exact Nat.le_refl _ | omega | (simp; done) | (simp; omega) | (simp [World.setCell]; omega) | (simp [World.setCell]; done)) _)))
  clear h2 hb2
  go_wp2_with fail
  go_ret
  exact H
set_option maxHeartbeats 1000000 in
theorem fault5_calls (w : World) : Calls Try.prog 50 #[] w (OutSl Rep.DStep (faultL 5) w) := by
  go_enter Try.func50, Try.ntmps50
  go_wp2_with fail
  refine (imixedStore_calls _).mono ?_
  rintro e W1 ⟨A1, c1, F1, rfl, h1, hf1, hb1⟩
  go_wp2_with fail
  refine (ifallAndRise_calls 1 storeFates A1 _ c1 F1 w.heap.size _ ⟨h1, hf1⟩ hb1.size (by decide)).mono ?_
  rintro e W2 ⟨A2, c2, F2, rfl, h2, hb2⟩
  have H : OutSl Rep.DStep (faultL 5) w (.returned (.slice A2 (fallL 1 storeFates).length c2)) W2 := OutSlB.up ⟨A2, c2, F2, rfl, h2, hb2⟩ hb1
  clear h2 hb2
  go_wp2_with fail
  go_ret
  exact H
set_option maxHeartbeats 1000000 in
theorem fault6_calls (w : World) : Calls Try.prog 52 #[] w (OutSl Rep.DStep (faultL 6) w) := by
  go_enter Try.func52, Try.ntmps52
  go_wp2_with fail
  refine (ifallAndRise_calls 2 [] none 0 0 [] w.heap.size _ ⟨nilInts_rd w, Fresh.nil _ _⟩ (Nat.le_refl _) (by decide)).mono ?_
  rintro e W2 ⟨A2, c2, F2, rfl, h2, hb2⟩
  have H : OutSl Rep.DStep (faultL 6) w (.returned (.slice A2 (fallL 2 []).length c2)) W2 := OutSlB.up ⟨A2, c2, F2, rfl, h2, hb2⟩ (by repeat (first | with_reducible exact Below.refl _ _ | with_reducible assumption | (with_reducible refine Below.drew ?_) | (with_reducible refine Below.alloc ?_ (by first | with_reducible exact Nat.le_refl _ | omega | (simp; done) | (simp; omega) | (simp [World.setCell]; omega) | (simp [World.setCell]; done)) _) | (with_reducible refine Below.setCell ?_ (by first | with_reducible exact Nat.le_refl _ | omega | (simp; done) | (simp; omega) | (simp [World.setCell]; omega) | (simp [World.setCell]; done)) _)))
  clear h2 hb2
  go_wp2_with fail
  go_ret
  exact H
set_option maxHeartbeats 1000000 in
theorem single2_calls (kd a b c : Int) (p : Nat) (w : World) (h0 : (Lit.int .i64 kd).wf = true) (h1 : (Lit.int .i64 a).wf = true) (h2 : (Lit.int .i64 b).wf = true) (h3 : (Lit.int .i64 c).wf = true) (hp : w.heap[p]? = some (.cells #[.int .i64 kd, .int .i64 a, .int .i64 b, .int .i64 c, .slice none 0 0] 44 (0, 0))) :
    Calls Try.prog 41 #[.pointer (some ⟨p, 0, none⟩)] w (OutSl Rep.DStep [⟨kd, a, b, c, []⟩] w) := by
  have c0 : w.cell? ⟨p, 0, none⟩ = some (.int .i64 kd) := by rw [cell_of_row w p 0 _ _ _ hp]; rfl
  have c1 : w.cell? ⟨p, 1, none⟩ = some (.int .i64 a) := by rw [cell_of_row w p 1 _ _ _ hp]; rfl
  have c2 : w.cell? ⟨p, 2, none⟩ = some (.int .i64 b) := by rw [cell_of_row w p 2 _ _ _ hp]; rfl
  have c3 : w.cell? ⟨p, 3, none⟩ = some (.int .i64 c) := by rw [cell_of_row w p 3 _ _ _ hp]; rfl
  have c4 : w.cell? ⟨p, 4, none⟩ = some (.slice none 0 0) := by rw [cell_of_row w p 4 _ _ _ hp]; rfl
  obtain ⟨G, hG, _⟩ := new_sl (R := Rep.DStep) w 44 #[.int .i64 kd, .int .i64 a, .int .i64 b, .int .i64 c, .slice none 0 0] [⟨kd, a, b, c, []⟩] [] w.heap.size (Nat.le_refl _) (singles_all w kd a b c h0 h1 h2 h3) (Fresh.nil _ _) (by simp)
  have HG := Lib.hid hG
  clear hG hp
  go_enter Try.func41, Try.ntmps41
  go_wp2
  go_ret
  exact ⟨_, _, G, rfl, HG.out.rd, HG.out.fresh, (by repeat (first | with_reducible exact Below.refl _ _ | with_reducible assumption | (with_reducible refine Below.drew ?_) | (with_reducible refine Below.alloc ?_ (by first | with_reducible exact Nat.le_refl _ | omega | (simp; done) | (simp; omega) | (simp [World.setCell]; omega) | (simp [World.setCell]; done)) _) | (with_reducible refine Below.setCell ?_ (by first | with_reducible exact Nat.le_refl _ | omega | (simp; done) | (simp; omega) | (simp [World.setCell]; omega) | (simp [World.setCell]; done)) _)))⟩
set_option maxHeartbeats 1000000 in
theorem iFaultOf_0 (w : World) : Calls Try.prog 12 #[.int .i64 0] w (OutSl Rep.DStep (faultL 0) w) := by
  have ix : ∀ W : World, (Instr.index 47 (.agg (faultTab w)) (.int .i64 0)).run Try.prog W = .ok (.func (.func 42) #[] #[]) W := fun _ => by kernel_rfl
  have IX := Lib.hid ix
  clear ix
  go_enter Try.func12, Try.ntmps12
  go_wp2_with (go_at_call 30; refine (between_calls _ _ _ _ true (by decide)).mono ?_; rintro e w' ⟨rfl, rfl⟩)
  refine (faults_calls _).mono ?_
  rintro e W1 ⟨rfl, hbx⟩
  have hb1 := hbx.1
  have ix := IX.out
  clear hbx IX
  go_wp2_with fail
  refine (fault0_calls _).mono ?_
  rintro e W2 ⟨A2, c2, F2, rfl, h2, hf2, hb2⟩
  have H : OutSl Rep.DStep (faultL 0) w (.returned (.slice A2 (faultL 0).length c2)) W2 := ⟨A2, c2, F2, rfl, h2, hf2.mono hb1.size, hb1.trans (hb2.mono hb1.size)⟩
  clear h2 hf2 hb1 hb2
  go_wp2_with fail
  go_ret
  exact H
set_option maxHeartbeats 1000000 in
theorem iFaultOf_1 (w : World) : Calls Try.prog 12 #[.int .i64 1] w (OutSl Rep.DStep (faultL 1) w) := by
  have ix : ∀ W : World, (Instr.index 47 (.agg (faultTab w)) (.int .i64 1)).run Try.prog W = .ok (.func (.func 44) #[] #[]) W := fun _ => by kernel_rfl
  have IX := Lib.hid ix
  clear ix
  go_enter Try.func12, Try.ntmps12
  go_wp2_with (go_at_call 30; refine (between_calls _ _ _ _ true (by decide)).mono ?_; rintro e w' ⟨rfl, rfl⟩)
  refine (faults_calls _).mono ?_
  rintro e W1 ⟨rfl, hbx⟩
  have hb1 := hbx.1
  have ix := IX.out
  clear hbx IX
  go_wp2_with fail
  refine (fault1_calls _).mono ?_
  rintro e W2 ⟨A2, c2, F2, rfl, h2, hf2, hb2⟩
  have H : OutSl Rep.DStep (faultL 1) w (.returned (.slice A2 (faultL 1).length c2)) W2 := ⟨A2, c2, F2, rfl, h2, hf2.mono hb1.size, hb1.trans (hb2.mono hb1.size)⟩
  clear h2 hf2 hb1 hb2
  go_wp2_with fail
  go_ret
  exact H
set_option maxHeartbeats 1000000 in
theorem iFaultOf_2 (w : World) : Calls Try.prog 12 #[.int .i64 2] w (OutSl Rep.DStep (faultL 2) w) := by
  have ix : ∀ W : World, (Instr.index 47 (.agg (faultTab w)) (.int .i64 2)).run Try.prog W = .ok (.func (.func 46) #[] #[]) W := fun _ => by kernel_rfl
  have IX := Lib.hid ix
  clear ix
  go_enter Try.func12, Try.ntmps12
  go_wp2_with (go_at_call 30; refine (between_calls _ _ _ _ true (by decide)).mono ?_; rintro e w' ⟨rfl, rfl⟩)
  refine (faults_calls _).mono ?_
  rintro e W1 ⟨rfl, hbx⟩
  have hb1 := hbx.1
  have ix := IX.out
  clear hbx IX
  go_wp2_with fail
  refine (fault2_calls _).mono ?_
  rintro e W2 ⟨A2, c2, F2, rfl, h2, hf2, hb2⟩
  have H : OutSl Rep.DStep (faultL 2) w (.returned (.slice A2 (faultL 2).length c2)) W2 := ⟨A2, c2, F2, rfl, h2, hf2.mono hb1.size, hb1.trans (hb2.mono hb1.size)⟩
  clear h2 hf2 hb1 hb2
  go_wp2_with fail
  go_ret
  exact H
set_option maxHeartbeats 1000000 in
theorem iFaultOf_3 (w : World) : Calls Try.prog 12 #[.int .i64 3] w (OutSl Rep.DStep (faultL 3) w) := by
  have ix : ∀ W : World, (Instr.index 47 (.agg (faultTab w)) (.int .i64 3)).run Try.prog W = .ok (.func (.func 47) #[] #[]) W := fun _ => by kernel_rfl
  have IX := Lib.hid ix
  clear ix
  go_enter Try.func12, Try.ntmps12
  go_wp2_with (go_at_call 30; refine (between_calls _ _ _ _ true (by decide)).mono ?_; rintro e w' ⟨rfl, rfl⟩)
  refine (faults_calls _).mono ?_
  rintro e W1 ⟨rfl, hbx⟩
  have hb1 := hbx.1
  have ix := IX.out
  clear hbx IX
  go_wp2_with fail
  refine (fault3_calls _).mono ?_
  rintro e W2 ⟨A2, c2, F2, rfl, h2, hf2, hb2⟩
  have H : OutSl Rep.DStep (faultL 3) w (.returned (.slice A2 (faultL 3).length c2)) W2 := ⟨A2, c2, F2, rfl, h2, hf2.mono hb1.size, hb1.trans (hb2.mono hb1.size)⟩
  clear h2 hf2 hb1 hb2
  go_wp2_with fail
  go_ret
  exact H
set_option maxHeartbeats 1000000 in
theorem iFaultOf_4 (w : World) : Calls Try.prog 12 #[.int .i64 4] w (OutSl Rep.DStep (faultL 4) w) := by
  have ix : ∀ W : World, (Instr.index 47 (.agg (faultTab w)) (.int .i64 4)).run Try.prog W = .ok (.func (.func 49) #[] #[]) W := fun _ => by kernel_rfl
  have IX := Lib.hid ix
  clear ix
  go_enter Try.func12, Try.ntmps12
  go_wp2_with (go_at_call 30; refine (between_calls _ _ _ _ true (by decide)).mono ?_; rintro e w' ⟨rfl, rfl⟩)
  refine (faults_calls _).mono ?_
  rintro e W1 ⟨rfl, hbx⟩
  have hb1 := hbx.1
  have ix := IX.out
  clear hbx IX
  go_wp2_with fail
  refine (fault4_calls _).mono ?_
  rintro e W2 ⟨A2, c2, F2, rfl, h2, hf2, hb2⟩
  have H : OutSl Rep.DStep (faultL 4) w (.returned (.slice A2 (faultL 4).length c2)) W2 := ⟨A2, c2, F2, rfl, h2, hf2.mono hb1.size, hb1.trans (hb2.mono hb1.size)⟩
  clear h2 hf2 hb1 hb2
  go_wp2_with fail
  go_ret
  exact H
set_option maxHeartbeats 1000000 in
theorem iFaultOf_5 (w : World) : Calls Try.prog 12 #[.int .i64 5] w (OutSl Rep.DStep (faultL 5) w) := by
  have ix : ∀ W : World, (Instr.index 47 (.agg (faultTab w)) (.int .i64 5)).run Try.prog W = .ok (.func (.func 50) #[] #[]) W := fun _ => by kernel_rfl
  have IX := Lib.hid ix
  clear ix
  go_enter Try.func12, Try.ntmps12
  go_wp2_with (go_at_call 30; refine (between_calls _ _ _ _ true (by decide)).mono ?_; rintro e w' ⟨rfl, rfl⟩)
  refine (faults_calls _).mono ?_
  rintro e W1 ⟨rfl, hbx⟩
  have hb1 := hbx.1
  have ix := IX.out
  clear hbx IX
  go_wp2_with fail
  refine (fault5_calls _).mono ?_
  rintro e W2 ⟨A2, c2, F2, rfl, h2, hf2, hb2⟩
  have H : OutSl Rep.DStep (faultL 5) w (.returned (.slice A2 (faultL 5).length c2)) W2 := ⟨A2, c2, F2, rfl, h2, hf2.mono hb1.size, hb1.trans (hb2.mono hb1.size)⟩
  clear h2 hf2 hb1 hb2
  go_wp2_with fail
  go_ret
  exact H
set_option maxHeartbeats 1000000 in
theorem iFaultOf_6 (w : World) : Calls Try.prog 12 #[.int .i64 6] w (OutSl Rep.DStep (faultL 6) w) := by
  have ix : ∀ W : World, (Instr.index 47 (.agg (faultTab w)) (.int .i64 6)).run Try.prog W = .ok (.func (.func 52) #[] #[]) W := fun _ => by kernel_rfl
  have IX := Lib.hid ix
  clear ix
  go_enter Try.func12, Try.ntmps12
  go_wp2_with (go_at_call 30; refine (between_calls _ _ _ _ true (by decide)).mono ?_; rintro e w' ⟨rfl, rfl⟩)
  refine (faults_calls _).mono ?_
  rintro e W1 ⟨rfl, hbx⟩
  have hb1 := hbx.1
  have ix := IX.out
  clear hbx IX
  go_wp2_with fail
  refine (fault6_calls _).mono ?_
  rintro e W2 ⟨A2, c2, F2, rfl, h2, hf2, hb2⟩
  have H : OutSl Rep.DStep (faultL 6) w (.returned (.slice A2 (faultL 6).length c2)) W2 := ⟨A2, c2, F2, rfl, h2, hf2.mono hb1.size, hb1.trans (hb2.mono hb1.size)⟩
  clear h2 hf2 hb1 hb2
  go_wp2_with fail
  go_ret
  exact H
set_option maxHeartbeats 1000000 in
theorem iFaultOf_7 (w : World) : Calls Try.prog 12 #[.int .i64 7] w (OutSl Rep.DStep (faultL 7) w) := by
  have ix : ∀ W : World, (Instr.index 47 (.agg (faultTab w)) (.int .i64 7)).run Try.prog W = .ok (.func (.func 41) #[] #[.pointer (some ⟨w.heap.size + 1, 0, none⟩)]) W := fun _ => by kernel_rfl
  have IX := Lib.hid ix
  clear ix
  go_enter Try.func12, Try.ntmps12
  go_wp2_with (go_at_call 30; refine (between_calls _ _ _ _ true (by decide)).mono ?_; rintro e w' ⟨rfl, rfl⟩)
  refine (faults_calls _).mono ?_
  rintro e W1 ⟨rfl, hbx⟩
  have hb1 := hbx.1
  have ix := IX.out
  have hp := hbx.2.1
  clear hbx IX
  go_wp2_with fail
  refine (single2_calls 7 0 0 0 _ _ (by decide) (by decide) (by decide) (by decide) hp).mono ?_
  rintro e W2 ⟨A2, c2, F2, rfl, h2, hf2, hb2⟩
  have H : OutSl Rep.DStep (faultL 7) w (.returned (.slice A2 (faultL 7).length c2)) W2 := ⟨A2, c2, F2, rfl, h2, hf2.mono hb1.size, hb1.trans (hb2.mono hb1.size)⟩
  clear h2 hf2 hb1 hb2
  go_wp2_with fail
  go_ret
  exact H
set_option maxHeartbeats 1000000 in
theorem iFaultOf_8 (w : World) : Calls Try.prog 12 #[.int .i64 8] w (OutSl Rep.DStep (faultL 8) w) := by
  have ix : ∀ W : World, (Instr.index 47 (.agg (faultTab w)) (.int .i64 8)).run Try.prog W = .ok (.func (.func 41) #[] #[.pointer (some ⟨w.heap.size + 1 + 1, 0, none⟩)]) W := fun _ => by kernel_rfl
  have IX := Lib.hid ix
  clear ix
  go_enter Try.func12, Try.ntmps12
  go_wp2_with (go_at_call 30; refine (between_calls _ _ _ _ true (by decide)).mono ?_; rintro e w' ⟨rfl, rfl⟩)
  refine (faults_calls _).mono ?_
  rintro e W1 ⟨rfl, hbx⟩
  have hb1 := hbx.1
  have ix := IX.out
  have hp := hbx.2.2.1
  clear hbx IX
  go_wp2_with fail
  refine (single2_calls 8 0 0 0 _ _ (by decide) (by decide) (by decide) (by decide) hp).mono ?_
  rintro e W2 ⟨A2, c2, F2, rfl, h2, hf2, hb2⟩
  have H : OutSl Rep.DStep (faultL 8) w (.returned (.slice A2 (faultL 8).length c2)) W2 := ⟨A2, c2, F2, rfl, h2, hf2.mono hb1.size, hb1.trans (hb2.mono hb1.size)⟩
  clear h2 hf2 hb1 hb2
  go_wp2_with fail
  go_ret
  exact H
set_option maxHeartbeats 1000000 in
theorem iFaultOf_9 (w : World) : Calls Try.prog 12 #[.int .i64 9] w (OutSl Rep.DStep (faultL 9) w) := by
  have ix : ∀ W : World, (Instr.index 47 (.agg (faultTab w)) (.int .i64 9)).run Try.prog W = .ok (.func (.func 41) #[] #[.pointer (some ⟨w.heap.size + 1 + 1 + 1, 0, none⟩)]) W := fun _ => by kernel_rfl
  have IX := Lib.hid ix
  clear ix
  go_enter Try.func12, Try.ntmps12
  go_wp2_with (go_at_call 30; refine (between_calls _ _ _ _ true (by decide)).mono ?_; rintro e w' ⟨rfl, rfl⟩)
  refine (faults_calls _).mono ?_
  rintro e W1 ⟨rfl, hbx⟩
  have hb1 := hbx.1
  have ix := IX.out
  have hp := hbx.2.2.2.1
  clear hbx IX
  go_wp2_with fail
  refine (single2_calls 9 0 1 0 _ _ (by decide) (by decide) (by decide) (by decide) hp).mono ?_
  rintro e W2 ⟨A2, c2, F2, rfl, h2, hf2, hb2⟩
  have H : OutSl Rep.DStep (faultL 9) w (.returned (.slice A2 (faultL 9).length c2)) W2 := ⟨A2, c2, F2, rfl, h2, hf2.mono hb1.size, hb1.trans (hb2.mono hb1.size)⟩
  clear h2 hf2 hb1 hb2
  go_wp2_with fail
  go_ret
  exact H
set_option maxHeartbeats 1000000 in
theorem iFaultOf_10 (w : World) : Calls Try.prog 12 #[.int .i64 10] w (OutSl Rep.DStep (faultL 10) w) := by
  have ix : ∀ W : World, (Instr.index 47 (.agg (faultTab w)) (.int .i64 10)).run Try.prog W = .ok (.func (.func 41) #[] #[.pointer (some ⟨w.heap.size + 1 + 1 + 1 + 1, 0, none⟩)]) W := fun _ => by kernel_rfl
  have IX := Lib.hid ix
  clear ix
  go_enter Try.func12, Try.ntmps12
  go_wp2_with (go_at_call 30; refine (between_calls _ _ _ _ true (by decide)).mono ?_; rintro e w' ⟨rfl, rfl⟩)
  refine (faults_calls _).mono ?_
  rintro e W1 ⟨rfl, hbx⟩
  have hb1 := hbx.1
  have ix := IX.out
  have hp := hbx.2.2.2.2.1
  clear hbx IX
  go_wp2_with fail
  refine (single2_calls 4 0 0 0 _ _ (by decide) (by decide) (by decide) (by decide) hp).mono ?_
  rintro e W2 ⟨A2, c2, F2, rfl, h2, hf2, hb2⟩
  have H : OutSl Rep.DStep (faultL 10) w (.returned (.slice A2 (faultL 10).length c2)) W2 := ⟨A2, c2, F2, rfl, h2, hf2.mono hb1.size, hb1.trans (hb2.mono hb1.size)⟩
  clear h2 hf2 hb1 hb2
  go_wp2_with fail
  go_ret
  exact H
set_option maxHeartbeats 1000000 in
theorem iFaultOf_11 (w : World) : Calls Try.prog 12 #[.int .i64 11] w (OutSl Rep.DStep (faultL 11) w) := by
  have ix : ∀ W : World, (Instr.index 47 (.agg (faultTab w)) (.int .i64 11)).run Try.prog W = .ok (.func (.func 41) #[] #[.pointer (some ⟨w.heap.size + 1 + 1 + 1 + 1 + 1, 0, none⟩)]) W := fun _ => by kernel_rfl
  have IX := Lib.hid ix
  clear ix
  go_enter Try.func12, Try.ntmps12
  go_wp2_with (go_at_call 30; refine (between_calls _ _ _ _ true (by decide)).mono ?_; rintro e w' ⟨rfl, rfl⟩)
  refine (faults_calls _).mono ?_
  rintro e W1 ⟨rfl, hbx⟩
  have hb1 := hbx.1
  have ix := IX.out
  have hp := hbx.2.2.2.2.2.1
  clear hbx IX
  go_wp2_with fail
  refine (single2_calls 4 3 60 0 _ _ (by decide) (by decide) (by decide) (by decide) hp).mono ?_
  rintro e W2 ⟨A2, c2, F2, rfl, h2, hf2, hb2⟩
  have H : OutSl Rep.DStep (faultL 11) w (.returned (.slice A2 (faultL 11).length c2)) W2 := ⟨A2, c2, F2, rfl, h2, hf2.mono hb1.size, hb1.trans (hb2.mono hb1.size)⟩
  clear h2 hf2 hb1 hb2
  go_wp2_with fail
  go_ret
  exact H
set_option maxHeartbeats 1000000 in
theorem iFaultOf_12 (w : World) : Calls Try.prog 12 #[.int .i64 12] w (OutSl Rep.DStep (faultL 12) w) := by
  have ix : ∀ W : World, (Instr.index 47 (.agg (faultTab w)) (.int .i64 12)).run Try.prog W = .ok (.func (.func 41) #[] #[.pointer (some ⟨w.heap.size + 1 + 1 + 1 + 1 + 1 + 1, 0, none⟩)]) W := fun _ => by kernel_rfl
  have IX := Lib.hid ix
  clear ix
  go_enter Try.func12, Try.ntmps12
  go_wp2_with (go_at_call 30; refine (between_calls _ _ _ _ true (by decide)).mono ?_; rintro e w' ⟨rfl, rfl⟩)
  refine (faults_calls _).mono ?_
  rintro e W1 ⟨rfl, hbx⟩
  have hb1 := hbx.1
  have ix := IX.out
  have hp := hbx.2.2.2.2.2.2
  clear hbx IX
  go_wp2_with fail
  refine (single2_calls 11 3 1 5 _ _ (by decide) (by decide) (by decide) (by decide) hp).mono ?_
  rintro e W2 ⟨A2, c2, F2, rfl, h2, hf2, hb2⟩
  have H : OutSl Rep.DStep (faultL 12) w (.returned (.slice A2 (faultL 12).length c2)) W2 := ⟨A2, c2, F2, rfl, h2, hf2.mono hb1.size, hb1.trans (hb2.mono hb1.size)⟩
  clear h2 hf2 hb1 hb2
  go_wp2_with fail
  go_ret
  exact H
set_option maxHeartbeats 1000000 in
theorem iFaultOf_13 (w : World) : Calls Try.prog 12 #[.int .i64 13] w (OutSl Rep.DStep (faultL 13) w) := by
  have ix : ∀ W : World, (Instr.index 47 (.agg (faultTab w)) (.int .i64 13)).run Try.prog W = .ok (.func (.func 53) #[] #[]) W := fun _ => by kernel_rfl
  have IX := Lib.hid ix
  clear ix
  go_enter Try.func12, Try.ntmps12
  go_wp2_with (go_at_call 30; refine (between_calls _ _ _ _ true (by decide)).mono ?_; rintro e w' ⟨rfl, rfl⟩)
  refine (faults_calls _).mono ?_
  rintro e W1 ⟨rfl, hbx⟩
  have hb1 := hbx.1
  have ix := IX.out
  clear hbx IX
  go_wp2_with fail
  refine (fault13_calls _).mono ?_
  rintro e W2 ⟨A2, c2, F2, rfl, h2, hf2, hb2⟩
  have H : OutSl Rep.DStep (faultL 13) w (.returned (.slice A2 (faultL 13).length c2)) W2 := ⟨A2, c2, F2, rfl, h2, hf2.mono hb1.size, hb1.trans (hb2.mono hb1.size)⟩
  clear h2 hf2 hb1 hb2
  go_wp2_with fail
  go_ret
  exact H
theorem iFaultOf_out (k : Int) (w : World) (h : ¬ (0 ≤ k ∧ k ≤ 13)) : Calls Try.prog 12 #[.int .i64 k] w (OutSl Rep.DStep (faultL k) w) := by
  have e : faultL k = [] := by unfold faultL; repeat rw [if_neg (by omega)]
  rw [e]
  have hf := Lib.hid (betweenB_false h)
  clear e h
  go_enter Try.func12, Try.ntmps12
  go_wp2_with (go_at_call 30; refine (between_calls _ _ _ _ false hf.out).mono ?_; rintro e w' ⟨rfl, rfl⟩)
  go_ret
  exact ⟨_, 0, [], rfl, ⟨none, 0, [], [], rfl, Nat.le_refl _, Nat.zero_le _, fun j hj => absurd hj (Nat.not_lt_zero _), ⟨rfl, rfl⟩, rfl⟩, Fresh.nil _ _, (by repeat (first | with_reducible exact Below.refl _ _ | with_reducible assumption | (with_reducible refine Below.drew ?_) | (with_reducible refine Below.alloc ?_ (by first | with_reducible exact Nat.le_refl _ | omega | (simp; done) | (simp; omega) | (simp [World.setCell]; omega) | (simp [World.setCell]; done)) _) | (with_reducible refine Below.setCell ?_ (by first | with_reducible exact Nat.le_refl _ | omega | (simp; done) | (simp; omega) | (simp [World.setCell]; omega) | (simp [World.setCell]; done)) _)))⟩
theorem iFaultOf_calls (k : Int) (w : World) : Calls Try.prog 12 #[.int .i64 k] w (OutSl Rep.DStep (faultL k) w) := by
  by_cases h : 0 ≤ k ∧ k ≤ 13
  · rcases fault_cases h with rfl | rfl | rfl | rfl | rfl | rfl | rfl | rfl | rfl | rfl | rfl | rfl | rfl | rfl
    · exact iFaultOf_0 w
    · exact iFaultOf_1 w
    · exact iFaultOf_2 w
    · exact iFaultOf_3 w
    · exact iFaultOf_4 w
    · exact iFaultOf_5 w
    · exact iFaultOf_6 w
    · exact iFaultOf_7 w
    · exact iFaultOf_8 w
    · exact iFaultOf_9 w
    · exact iFaultOf_10 w
    · exact iFaultOf_11 w
    · exact iFaultOf_12 w
    · exact iFaultOf_13 w
  · exact iFaultOf_out k w h
end Go.Proofs.Ytfehpceafnjmnaa
