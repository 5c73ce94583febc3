/- The text of an operation. Printed by gen_text4.py. -/
import Derived.Test.YtlhanpkfnhnegaaDoorText3b
set_option linter.unusedVariables false
set_option linter.unusedSimpArgs false
set_option maxRecDepth 100000
namespace Go.Proofs.YtlhanpkfnhnegaaDoor
open Go.ChangeShapes Go.WideShapes Go.RowKit


set_option maxHeartbeats 1000000 in
theorem iOpText_1 (o_a o_b o_c o_d : Int) (w : World) (ht : Tab w) (hok : opOk ⟨1, o_a, o_b, o_c, o_d⟩ = true) :
    Calls Tryd.prog 17 #[.agg #[.int .i64 1, .int .i64 o_a, .int .i64 o_b, .int .i64 o_c, .int .i64 o_d]] w (OutStr (opWordL 1 ++ spacedB [o_a, o_b]) w) := by
  have hbd := opOk_bounds hok
  have hwf : ∀ x ∈ [o_a, o_b], (Lit.int .i64 x).wf = true := by
    intro x hx
    refine i64_wf ?_ ?_ <;> (simp only [List.mem_cons, List.not_mem_nil, or_false] at hx; simp only at hbd; omega)
  have hlen := spacedB_len [o_a, o_b] hwf
  have WF := Lib.hid hwf
  have hT := Lib.hid ht
  have hOK := Lib.hid hok
  have hLEN : ¬ 9223372036854775807 < (opWordL 1).length + (spacedB [o_a, o_b]).length := by
    have : (opWordL 1).length ≤ 5 := by decide
    simp only [List.length_cons, List.length_nil] at hlen; omega
  clear hwf hbd hlen hok ht
  go_enter Tryd.func17, Tryd.ntmps17
  go_wp2_with fail
  refine (iOpOk_calls ⟨1, o_a, o_b, o_c, o_d⟩ _ true hOK.out).mono ?_
  rintro e W1 ⟨rfl, hb1⟩
  have hx1 : Row W1 (some ⟨w.heap.size, 0, none⟩) [.int .i64 1, .int .i64 o_a, .int .i64 o_b, .int .i64 o_c, .int .i64 o_d] := (Row.new w _ 25).below hb1
  obtain ⟨k10, k11, k12, k13, k14⟩ := hx1.five
  have hbw1 := Below.trans (a := w) (B := w.heap.size) (by repeat (first | with_reducible exact Below.refl _ _ | with_reducible assumption | (with_reducible refine Below.drew ?_) | (with_reducible refine Below.alloc ?_ (by first | with_reducible exact Nat.le_refl _ | omega | (simp; done) | (simp; omega) | (simp [World.setCell]; omega) | (simp [World.setCell]; done)) _) | (with_reducible refine Below.setCell ?_ (by first | with_reducible exact Nat.le_refl _ | omega | (simp; done) | (simp; omega) | (simp [World.setCell]; omega) | (simp [World.setCell]; done)) _))) (hb1.mono (by simp))
  have hz1 : w.heap.size + 1 ≤ W1.heap.size := by simpa using hb1.size
  clear hb1
  go_wp2
  have hmany : ∀ W : World, Calls Tryd.prog 72 #[.int .i64 1] W fun e w' => e = .returned (.int .i64 2) ∧ W = w' := fun W => by simpa [opManyN] using iopFields_calls 1 W
  have hwr : IntKind.i64.wrap 3 = 3 := by decide
  go_region_law (first
    | (go_simp; go_at_call 69; refine (iOpWord_calls 1 _).mono ?_; rintro e W2 ⟨rfl, hb2⟩; have hx2 := Row.below (w := W1.drew) hx1 hb2; obtain ⟨k20, k21, k22, k23, k24⟩ := hx2.five; have hz2 : W1.heap.size ≤ W2.heap.size := by simpa using hb2.size)
    | (go_simp; go_at_call 71; refine (iOpNumbers_calls ⟨1, o_a, o_b, o_c, o_d⟩ _).mono ?_; rintro e W3 ⟨g, hg, rfl, hrow, hb3⟩; have hx3 := hx2.below hb3; obtain ⟨k30, k31, k32, k33, k34⟩ := hx3.five; have hz3 : W2.heap.size ≤ W3.heap.size := by simpa using hb3.size)
    | (go_simp; go_at_call 72; refine (hmany _).mono ?_; rintro e W3x ⟨rfl, rfl⟩)
    | (go_simp; go_must (go_at_call_of 70 (Value.slice (some ⟨g, 1, none⟩) 2 4); refine (ispaced_calls [o_a, o_b] (some ⟨g, 1, none⟩) 2 4 _ _ (sl_ints_mk (by simp) (by unfold maxLen; omega) (Row.sub hrow 1 2) WF.out) (hT.out.below (((Below.drew hbw1).trans (Below.mono hb2 (by show _ ≤ W1.heap.size; omega))).trans (hb3.mono (by omega)))) (by simp)).mono ?_; rintro e W4 ⟨rfl, hb4⟩)))
  all_goals
    have hb := (((Below.drew hbw1).trans (Below.mono hb2 (by show _ ≤ W1.heap.size; omega))).trans (hb3.mono (by omega))).trans (hb4.mono (by omega))
    have E := Lib.hid (str_app (opWordL 1) (spacedB [o_a, o_b]))
    clear hx1 k10 k11 k12 k13 k14 hx2 k20 k21 k22 k23 k24 hx3 k30 k31 k32 k33 k34 hb2 hb3 hb4 hrow hmany hbw1
    go_wp2
    go_ret
    exact ⟨by rw [← E.out]; rfl, hb⟩


set_option maxHeartbeats 1000000 in
theorem iOpText_2 (o_a o_b o_c o_d : Int) (w : World) (ht : Tab w) (hok : opOk ⟨2, o_a, o_b, o_c, o_d⟩ = true) :
    Calls Tryd.prog 17 #[.agg #[.int .i64 2, .int .i64 o_a, .int .i64 o_b, .int .i64 o_c, .int .i64 o_d]] w (OutStr (opWordL 2 ++ spacedB [o_a]) w) := by
  have hbd := opOk_bounds hok
  have hwf : ∀ x ∈ [o_a], (Lit.int .i64 x).wf = true := by
    intro x hx
    refine i64_wf ?_ ?_ <;> (simp only [List.mem_cons, List.not_mem_nil, or_false] at hx; simp only at hbd; omega)
  have hlen := spacedB_len [o_a] hwf
  have WF := Lib.hid hwf
  have hT := Lib.hid ht
  have hOK := Lib.hid hok
  have hLEN : ¬ 9223372036854775807 < (opWordL 2).length + (spacedB [o_a]).length := by
    have : (opWordL 2).length ≤ 5 := by decide
    simp only [List.length_cons, List.length_nil] at hlen; omega
  clear hwf hbd hlen hok ht
  go_enter Tryd.func17, Tryd.ntmps17
  go_wp2_with fail
  refine (iOpOk_calls ⟨2, o_a, o_b, o_c, o_d⟩ _ true hOK.out).mono ?_
  rintro e W1 ⟨rfl, hb1⟩
  have hx1 : Row W1 (some ⟨w.heap.size, 0, none⟩) [.int .i64 2, .int .i64 o_a, .int .i64 o_b, .int .i64 o_c, .int .i64 o_d] := (Row.new w _ 25).below hb1
  obtain ⟨k10, k11, k12, k13, k14⟩ := hx1.five
  have hbw1 := Below.trans (a := w) (B := w.heap.size) (by repeat (first | with_reducible exact Below.refl _ _ | with_reducible assumption | (with_reducible refine Below.drew ?_) | (with_reducible refine Below.alloc ?_ (by first | with_reducible exact Nat.le_refl _ | omega | (simp; done) | (simp; omega) | (simp [World.setCell]; omega) | (simp [World.setCell]; done)) _) | (with_reducible refine Below.setCell ?_ (by first | with_reducible exact Nat.le_refl _ | omega | (simp; done) | (simp; omega) | (simp [World.setCell]; omega) | (simp [World.setCell]; done)) _))) (hb1.mono (by simp))
  have hz1 : w.heap.size + 1 ≤ W1.heap.size := by simpa using hb1.size
  clear hb1
  go_wp2
  have hmany : ∀ W : World, Calls Tryd.prog 72 #[.int .i64 2] W fun e w' => e = .returned (.int .i64 1) ∧ W = w' := fun W => by simpa [opManyN] using iopFields_calls 2 W
  have hwr : IntKind.i64.wrap 2 = 2 := by decide
  go_region_law (first
    | (go_simp; go_at_call 69; refine (iOpWord_calls 2 _).mono ?_; rintro e W2 ⟨rfl, hb2⟩; have hx2 := Row.below (w := W1.drew) hx1 hb2; obtain ⟨k20, k21, k22, k23, k24⟩ := hx2.five; have hz2 : W1.heap.size ≤ W2.heap.size := by simpa using hb2.size)
    | (go_simp; go_at_call 71; refine (iOpNumbers_calls ⟨2, o_a, o_b, o_c, o_d⟩ _).mono ?_; rintro e W3 ⟨g, hg, rfl, hrow, hb3⟩; have hx3 := hx2.below hb3; obtain ⟨k30, k31, k32, k33, k34⟩ := hx3.five; have hz3 : W2.heap.size ≤ W3.heap.size := by simpa using hb3.size)
    | (go_simp; go_at_call 72; refine (hmany _).mono ?_; rintro e W3x ⟨rfl, rfl⟩)
    | (go_simp; go_must (go_at_call_of 70 (Value.slice (some ⟨g, 1, none⟩) 1 4); refine (ispaced_calls [o_a] (some ⟨g, 1, none⟩) 1 4 _ _ (sl_ints_mk (by simp) (by unfold maxLen; omega) (Row.sub hrow 1 1) WF.out) (hT.out.below (((Below.drew hbw1).trans (Below.mono hb2 (by show _ ≤ W1.heap.size; omega))).trans (hb3.mono (by omega)))) (by simp)).mono ?_; rintro e W4 ⟨rfl, hb4⟩)))
  all_goals
    have hb := (((Below.drew hbw1).trans (Below.mono hb2 (by show _ ≤ W1.heap.size; omega))).trans (hb3.mono (by omega))).trans (hb4.mono (by omega))
    have E := Lib.hid (str_app (opWordL 2) (spacedB [o_a]))
    clear hx1 k10 k11 k12 k13 k14 hx2 k20 k21 k22 k23 k24 hx3 k30 k31 k32 k33 k34 hb2 hb3 hb4 hrow hmany hbw1
    go_wp2
    go_ret
    exact ⟨by rw [← E.out]; rfl, hb⟩


set_option maxHeartbeats 1000000 in
theorem iOpText_3 (o_a o_b o_c o_d : Int) (w : World) (ht : Tab w) (hok : opOk ⟨3, o_a, o_b, o_c, o_d⟩ = true) :
    Calls Tryd.prog 17 #[.agg #[.int .i64 3, .int .i64 o_a, .int .i64 o_b, .int .i64 o_c, .int .i64 o_d]] w (OutStr (opWordL 3 ++ spacedB [o_a, o_b, o_c, o_d]) w) := by
  have hbd := opOk_bounds hok
  have hwf : ∀ x ∈ [o_a, o_b, o_c, o_d], (Lit.int .i64 x).wf = true := by
    intro x hx
    refine i64_wf ?_ ?_ <;> (simp only [List.mem_cons, List.not_mem_nil, or_false] at hx; simp only at hbd; omega)
  have hlen := spacedB_len [o_a, o_b, o_c, o_d] hwf
  have WF := Lib.hid hwf
  have hT := Lib.hid ht
  have hOK := Lib.hid hok
  have hLEN : ¬ 9223372036854775807 < (opWordL 3).length + (spacedB [o_a, o_b, o_c, o_d]).length := by
    have : (opWordL 3).length ≤ 5 := by decide
    simp only [List.length_cons, List.length_nil] at hlen; omega
  clear hwf hbd hlen hok ht
  go_enter Tryd.func17, Tryd.ntmps17
  go_wp2_with fail
  refine (iOpOk_calls ⟨3, o_a, o_b, o_c, o_d⟩ _ true hOK.out).mono ?_
  rintro e W1 ⟨rfl, hb1⟩
  have hx1 : Row W1 (some ⟨w.heap.size, 0, none⟩) [.int .i64 3, .int .i64 o_a, .int .i64 o_b, .int .i64 o_c, .int .i64 o_d] := (Row.new w _ 25).below hb1
  obtain ⟨k10, k11, k12, k13, k14⟩ := hx1.five
  have hbw1 := Below.trans (a := w) (B := w.heap.size) (by repeat (first | with_reducible exact Below.refl _ _ | with_reducible assumption | (with_reducible refine Below.drew ?_) | (with_reducible refine Below.alloc ?_ (by first | with_reducible exact Nat.le_refl _ | omega | (simp; done) | (simp; omega) | (simp [World.setCell]; omega) | (simp [World.setCell]; done)) _) | (with_reducible refine Below.setCell ?_ (by first | with_reducible exact Nat.le_refl _ | omega | (simp; done) | (simp; omega) | (simp [World.setCell]; omega) | (simp [World.setCell]; done)) _))) (hb1.mono (by simp))
  have hz1 : w.heap.size + 1 ≤ W1.heap.size := by simpa using hb1.size
  clear hb1
  go_wp2
  have hmany : ∀ W : World, Calls Tryd.prog 72 #[.int .i64 3] W fun e w' => e = .returned (.int .i64 4) ∧ W = w' := fun W => by simpa [opManyN] using iopFields_calls 3 W
  have hwr : IntKind.i64.wrap 5 = 5 := by decide
  go_region_law (first
    | (go_simp; go_at_call 69; refine (iOpWord_calls 3 _).mono ?_; rintro e W2 ⟨rfl, hb2⟩; have hx2 := Row.below (w := W1.drew) hx1 hb2; obtain ⟨k20, k21, k22, k23, k24⟩ := hx2.five; have hz2 : W1.heap.size ≤ W2.heap.size := by simpa using hb2.size)
    | (go_simp; go_at_call 71; refine (iOpNumbers_calls ⟨3, o_a, o_b, o_c, o_d⟩ _).mono ?_; rintro e W3 ⟨g, hg, rfl, hrow, hb3⟩; have hx3 := hx2.below hb3; obtain ⟨k30, k31, k32, k33, k34⟩ := hx3.five; have hz3 : W2.heap.size ≤ W3.heap.size := by simpa using hb3.size)
    | (go_simp; go_at_call 72; refine (hmany _).mono ?_; rintro e W3x ⟨rfl, rfl⟩)
    | (go_simp; go_must (go_at_call_of 70 (Value.slice (some ⟨g, 1, none⟩) 4 4); refine (ispaced_calls [o_a, o_b, o_c, o_d] (some ⟨g, 1, none⟩) 4 4 _ _ (sl_ints_mk (by simp) (by unfold maxLen; omega) (Row.sub hrow 1 4) WF.out) (hT.out.below (((Below.drew hbw1).trans (Below.mono hb2 (by show _ ≤ W1.heap.size; omega))).trans (hb3.mono (by omega)))) (by simp)).mono ?_; rintro e W4 ⟨rfl, hb4⟩)))
  all_goals
    have hb := (((Below.drew hbw1).trans (Below.mono hb2 (by show _ ≤ W1.heap.size; omega))).trans (hb3.mono (by omega))).trans (hb4.mono (by omega))
    have E := Lib.hid (str_app (opWordL 3) (spacedB [o_a, o_b, o_c, o_d]))
    clear hx1 k10 k11 k12 k13 k14 hx2 k20 k21 k22 k23 k24 hx3 k30 k31 k32 k33 k34 hb2 hb3 hb4 hrow hmany hbw1
    go_wp2
    go_ret
    exact ⟨by rw [← E.out]; rfl, hb⟩


set_option maxHeartbeats 1000000 in
theorem iOpText_4 (o_a o_b o_c o_d : Int) (w : World) (ht : Tab w) (hok : opOk ⟨4, o_a, o_b, o_c, o_d⟩ = true) :
    Calls Tryd.prog 17 #[.agg #[.int .i64 4, .int .i64 o_a, .int .i64 o_b, .int .i64 o_c, .int .i64 o_d]] w (OutStr (opWordL 4 ++ spacedB [o_a, o_b]) w) := by
  have hbd := opOk_bounds hok
  have hwf : ∀ x ∈ [o_a, o_b], (Lit.int .i64 x).wf = true := by
    intro x hx
    refine i64_wf ?_ ?_ <;> (simp only [List.mem_cons, List.not_mem_nil, or_false] at hx; simp only at hbd; omega)
  have hlen := spacedB_len [o_a, o_b] hwf
  have WF := Lib.hid hwf
  have hT := Lib.hid ht
  have hOK := Lib.hid hok
  have hLEN : ¬ 9223372036854775807 < (opWordL 4).length + (spacedB [o_a, o_b]).length := by
    have : (opWordL 4).length ≤ 5 := by decide
    simp only [List.length_cons, List.length_nil] at hlen; omega
  clear hwf hbd hlen hok ht
  go_enter Tryd.func17, Tryd.ntmps17
  go_wp2_with fail
  refine (iOpOk_calls ⟨4, o_a, o_b, o_c, o_d⟩ _ true hOK.out).mono ?_
  rintro e W1 ⟨rfl, hb1⟩
  have hx1 : Row W1 (some ⟨w.heap.size, 0, none⟩) [.int .i64 4, .int .i64 o_a, .int .i64 o_b, .int .i64 o_c, .int .i64 o_d] := (Row.new w _ 25).below hb1
  obtain ⟨k10, k11, k12, k13, k14⟩ := hx1.five
  have hbw1 := Below.trans (a := w) (B := w.heap.size) (by repeat (first | with_reducible exact Below.refl _ _ | with_reducible assumption | (with_reducible refine Below.drew ?_) | (with_reducible refine Below.alloc ?_ (by first | with_reducible exact Nat.le_refl _ | omega | (simp; done) | (simp; omega) | (simp [World.setCell]; omega) | (simp [World.setCell]; done)) _) | (with_reducible refine Below.setCell ?_ (by first | with_reducible exact Nat.le_refl _ | omega | (simp; done) | (simp; omega) | (simp [World.setCell]; omega) | (simp [World.setCell]; done)) _))) (hb1.mono (by simp))
  have hz1 : w.heap.size + 1 ≤ W1.heap.size := by simpa using hb1.size
  clear hb1
  go_wp2
  have hmany : ∀ W : World, Calls Tryd.prog 72 #[.int .i64 4] W fun e w' => e = .returned (.int .i64 2) ∧ W = w' := fun W => by simpa [opManyN] using iopFields_calls 4 W
  have hwr : IntKind.i64.wrap 3 = 3 := by decide
  go_region_law (first
    | (go_simp; go_at_call 69; refine (iOpWord_calls 4 _).mono ?_; rintro e W2 ⟨rfl, hb2⟩; have hx2 := Row.below (w := W1.drew) hx1 hb2; obtain ⟨k20, k21, k22, k23, k24⟩ := hx2.five; have hz2 : W1.heap.size ≤ W2.heap.size := by simpa using hb2.size)
    | (go_simp; go_at_call 71; refine (iOpNumbers_calls ⟨4, o_a, o_b, o_c, o_d⟩ _).mono ?_; rintro e W3 ⟨g, hg, rfl, hrow, hb3⟩; have hx3 := hx2.below hb3; obtain ⟨k30, k31, k32, k33, k34⟩ := hx3.five; have hz3 : W2.heap.size ≤ W3.heap.size := by simpa using hb3.size)
    | (go_simp; go_at_call 72; refine (hmany _).mono ?_; rintro e W3x ⟨rfl, rfl⟩)
    | (go_simp; go_must (go_at_call_of 70 (Value.slice (some ⟨g, 1, none⟩) 2 4); refine (ispaced_calls [o_a, o_b] (some ⟨g, 1, none⟩) 2 4 _ _ (sl_ints_mk (by simp) (by unfold maxLen; omega) (Row.sub hrow 1 2) WF.out) (hT.out.below (((Below.drew hbw1).trans (Below.mono hb2 (by show _ ≤ W1.heap.size; omega))).trans (hb3.mono (by omega)))) (by simp)).mono ?_; rintro e W4 ⟨rfl, hb4⟩)))
  all_goals
    have hb := (((Below.drew hbw1).trans (Below.mono hb2 (by show _ ≤ W1.heap.size; omega))).trans (hb3.mono (by omega))).trans (hb4.mono (by omega))
    have E := Lib.hid (str_app (opWordL 4) (spacedB [o_a, o_b]))
    clear hx1 k10 k11 k12 k13 k14 hx2 k20 k21 k22 k23 k24 hx3 k30 k31 k32 k33 k34 hb2 hb3 hb4 hrow hmany hbw1
    go_wp2
    go_ret
    exact ⟨by rw [← E.out]; rfl, hb⟩


set_option maxHeartbeats 1000000 in
theorem iOpText_5 (o_a o_b o_c o_d : Int) (w : World) (ht : Tab w) (hok : opOk ⟨5, o_a, o_b, o_c, o_d⟩ = true) :
    Calls Tryd.prog 17 #[.agg #[.int .i64 5, .int .i64 o_a, .int .i64 o_b, .int .i64 o_c, .int .i64 o_d]] w (OutStr (opWordL 5 ++ spacedB [o_a]) w) := by
  have hbd := opOk_bounds hok
  have hwf : ∀ x ∈ [o_a], (Lit.int .i64 x).wf = true := by
    intro x hx
    refine i64_wf ?_ ?_ <;> (simp only [List.mem_cons, List.not_mem_nil, or_false] at hx; simp only at hbd; omega)
  have hlen := spacedB_len [o_a] hwf
  have WF := Lib.hid hwf
  have hT := Lib.hid ht
  have hOK := Lib.hid hok
  have hLEN : ¬ 9223372036854775807 < (opWordL 5).length + (spacedB [o_a]).length := by
    have : (opWordL 5).length ≤ 5 := by decide
    simp only [List.length_cons, List.length_nil] at hlen; omega
  clear hwf hbd hlen hok ht
  go_enter Tryd.func17, Tryd.ntmps17
  go_wp2_with fail
  refine (iOpOk_calls ⟨5, o_a, o_b, o_c, o_d⟩ _ true hOK.out).mono ?_
  rintro e W1 ⟨rfl, hb1⟩
  have hx1 : Row W1 (some ⟨w.heap.size, 0, none⟩) [.int .i64 5, .int .i64 o_a, .int .i64 o_b, .int .i64 o_c, .int .i64 o_d] := (Row.new w _ 25).below hb1
  obtain ⟨k10, k11, k12, k13, k14⟩ := hx1.five
  have hbw1 := Below.trans (a := w) (B := w.heap.size) (by repeat (first | with_reducible exact Below.refl _ _ | with_reducible assumption | (with_reducible refine Below.drew ?_) | (with_reducible refine Below.alloc ?_ (by first | with_reducible exact Nat.le_refl _ | omega | (simp; done) | (simp; omega) | (simp [World.setCell]; omega) | (simp [World.setCell]; done)) _) | (with_reducible refine Below.setCell ?_ (by first | with_reducible exact Nat.le_refl _ | omega | (simp; done) | (simp; omega) | (simp [World.setCell]; omega) | (simp [World.setCell]; done)) _))) (hb1.mono (by simp))
  have hz1 : w.heap.size + 1 ≤ W1.heap.size := by simpa using hb1.size
  clear hb1
  go_wp2
  have hmany : ∀ W : World, Calls Tryd.prog 72 #[.int .i64 5] W fun e w' => e = .returned (.int .i64 1) ∧ W = w' := fun W => by simpa [opManyN] using iopFields_calls 5 W
  have hwr : IntKind.i64.wrap 2 = 2 := by decide
  go_region_law (first
    | (go_simp; go_at_call 69; refine (iOpWord_calls 5 _).mono ?_; rintro e W2 ⟨rfl, hb2⟩; have hx2 := Row.below (w := W1.drew) hx1 hb2; obtain ⟨k20, k21, k22, k23, k24⟩ := hx2.five; have hz2 : W1.heap.size ≤ W2.heap.size := by simpa using hb2.size)
    | (go_simp; go_at_call 71; refine (iOpNumbers_calls ⟨5, o_a, o_b, o_c, o_d⟩ _).mono ?_; rintro e W3 ⟨g, hg, rfl, hrow, hb3⟩; have hx3 := hx2.below hb3; obtain ⟨k30, k31, k32, k33, k34⟩ := hx3.five; have hz3 : W2.heap.size ≤ W3.heap.size := by simpa using hb3.size)
    | (go_simp; go_at_call 72; refine (hmany _).mono ?_; rintro e W3x ⟨rfl, rfl⟩)
    | (go_simp; go_must (go_at_call_of 70 (Value.slice (some ⟨g, 1, none⟩) 1 4); refine (ispaced_calls [o_a] (some ⟨g, 1, none⟩) 1 4 _ _ (sl_ints_mk (by simp) (by unfold maxLen; omega) (Row.sub hrow 1 1) WF.out) (hT.out.below (((Below.drew hbw1).trans (Below.mono hb2 (by show _ ≤ W1.heap.size; omega))).trans (hb3.mono (by omega)))) (by simp)).mono ?_; rintro e W4 ⟨rfl, hb4⟩)))
  all_goals
    have hb := (((Below.drew hbw1).trans (Below.mono hb2 (by show _ ≤ W1.heap.size; omega))).trans (hb3.mono (by omega))).trans (hb4.mono (by omega))
    have E := Lib.hid (str_app (opWordL 5) (spacedB [o_a]))
    clear hx1 k10 k11 k12 k13 k14 hx2 k20 k21 k22 k23 k24 hx3 k30 k31 k32 k33 k34 hb2 hb3 hb4 hrow hmany hbw1
    go_wp2
    go_ret
    exact ⟨by rw [← E.out]; rfl, hb⟩


theorem iOpText_calls (o : DOp) (w : World) (ht : Tab w) :
    Calls Tryd.prog 17 #[.agg #[.int .i64 o.kind, .int .i64 o.a, .int .i64 o.b, .int .i64 o.c, .int .i64 o.d]] w (OutStr (opTextL o) w) := by
  cases hok : opOk o
  · have e : opTextL o = [] := by unfold opTextL; rw [hok]; rfl
    rw [e]
    have H := Lib.hid hok
    clear hok e ht
    go_enter Tryd.func17, Tryd.ntmps17
    go_wp2_with fail
    refine (iOpOk_calls o _ false H.out).mono ?_
    rintro e W1 ⟨rfl, hb1⟩
    have hbw1 := Below.trans (a := w) (B := w.heap.size) (by repeat (first | with_reducible exact Below.refl _ _ | with_reducible assumption | (with_reducible refine Below.drew ?_) | (with_reducible refine Below.alloc ?_ (by first | with_reducible exact Nat.le_refl _ | omega | (simp; done) | (simp; omega) | (simp [World.setCell]; omega) | (simp [World.setCell]; done)) _) | (with_reducible refine Below.setCell ?_ (by first | with_reducible exact Nat.le_refl _ | omega | (simp; done) | (simp; omega) | (simp [World.setCell]; omega) | (simp [World.setCell]; done)) _))) (hb1.mono (by simp))
    clear hb1
    go_wp2_with fail
    go_ret
    exact ⟨rfl, hbw1⟩
  · have e : opTextL o = opWordL o.kind ++ spacedB (opArgs o) := by unfold opTextL; rw [hok]; rfl
    rw [e]
    clear e
    have hbd := (opOk_bounds hok).1
    obtain ⟨k, o_a, o_b, o_c, o_d⟩ := o
    rcases op_cases hbd with h | h | h | h | h
    all_goals
      simp only at h
      subst h
    · exact iOpText_1 o_a o_b o_c o_d w ht hok
    · exact iOpText_2 o_a o_b o_c o_d w ht hok
    · exact iOpText_3 o_a o_b o_c o_d w ht hok
    · exact iOpText_4 o_a o_b o_c o_d w ht hok
    · exact iOpText_5 o_a o_b o_c o_d w ht hok
end Go.Proofs.YtlhanpkfnhnegaaDoor
