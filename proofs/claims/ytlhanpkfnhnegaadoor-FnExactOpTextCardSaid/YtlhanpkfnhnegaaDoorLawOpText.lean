/- Proved: the program's OpText returns what the reference's returns, for every operation; the row's condition (the table of strconv) is tied to the program's text by the card. -/
import Derived.Test.YtlhanpkfnhnegaaDoorLawLaid
import Derived.Test.YtlhanpkfnhnegaaDoorText4
import Derived.Test.YtlhanpkfnhnegaaDoorTrodT
import Derived.Test.YtlhanpkfnhnegaaDoorText5
import Derived.Test.YtlhanpkfnhnegaaDoorCards
import Derived.Test.YtlhanpkfnhnegaaDoorTie
import Derived.SevenTiedAt
import Derived.MakeChecks
set_option linter.unusedVariables false
set_option linter.unusedSimpArgs false
namespace Go.Proofs.YtlhanpkfnhnegaaDoor.lawOpText
open Go.ChangeShapes Go.WideShapes Go.RowKit

theorem walk (o : DOp) (w : World) (ht : Tab w) :
    Calls Tryd.prog 3 #[.agg #[.int .i64 o.kind, .int .i64 o.a, .int .i64 o.b, .int .i64 o.c, .int .i64 o.d]] w fun e w' => e = .returned (.bool true) ∧ Below w.heap.size w w' := by
  have HT := Lib.hid ht
  clear ht
  go_enter Tryd.func3, Tryd.ntmps3
  go_wp2_with fail
  refine (toOp_calls o _).mono ?_
  rintro e W1 ⟨rfl, hb1⟩
  have hx1 : Row W1 (some ⟨w.heap.size, 0, none⟩) [.int .i64 o.kind, .int .i64 o.a, .int .i64 o.b, .int .i64 o.c, .int .i64 o.d] := (Row.new w _ 23).below hb1
  obtain ⟨k10, k11, k12, k13, k14⟩ := hx1.five
  have hbw1 := Below.trans (a := w) (B := w.heap.size) (by repeat (first | with_reducible exact Below.refl _ _ | with_reducible assumption | (with_reducible refine Below.drew ?_) | (with_reducible refine Below.alloc ?_ (by first | with_reducible exact Nat.le_refl _ | omega | (simp; done) | (simp; omega) | (simp [World.setCell]; omega) | (simp [World.setCell]; done)) _) | (with_reducible refine Below.setCell ?_ (by first | with_reducible exact Nat.le_refl _ | omega | (simp; done) | (simp; omega) | (simp [World.setCell]; omega) | (simp [World.setCell]; done)) _))) (hb1.mono (by simp))
  have hz1 : w.heap.size + 1 ≤ W1.heap.size := by simpa using hb1.size
  clear hb1
  go_wp2_with fail
  refine (sOpText_calls o _).mono ?_
  rintro e W2 ⟨rfl, hb2⟩
  have hx2 := hx1.below hb2
  have hbw2 := hbw1.trans (hb2.mono (by omega))
  have hz2 := hb2.size
  clear hx1 k10 k11 k12 k13 k14 hbw1 hb2
  obtain ⟨k20, k21, k22, k23, k24⟩ := hx2.five
  go_wp2_with fail
  refine (toOp_calls o _).mono ?_
  rintro e W3 ⟨rfl, hb3⟩
  have hx3 := hx2.below hb3
  have hbw3 := hbw2.trans (hb3.mono (by omega))
  have hz3 := hb3.size
  clear hx2 k20 k21 k22 k23 k24 hbw2 hb3
  obtain ⟨k30, k31, k32, k33, k34⟩ := hx3.five
  go_wp2_with fail
  refine (iOpText_calls o _ (HT.out.below hbw3)).mono ?_
  rintro e W4 ⟨rfl, hb4⟩
  have hx4 := hx3.below hb4
  have hbw4 := hbw3.trans (hb4.mono (by omega))
  have hz4 := hb4.size
  clear hx3 k30 k31 k32 k33 k34 hbw3 hb4
  obtain ⟨k40, k41, k42, k43, k44⟩ := hx4.five
  go_wp2_with fail
  go_ret
  exact ⟨rfl, hbw4⟩

/-- The heap that the door's own run leaves meets the row's condition. -/
theorem door_met (os : Os) (args : Array Value) : laidMetH Tryd.prog Rows.fnExactOpTextRow.laid ((World.doorLaid Tryd.prog 72 os).forCall (fun _ _ => 0) ⟨#[], args, []⟩).memory :=
  laidMetH_of_parts3 (fuel := 8) (laidMet_of_run' 8 (by kernel_rfl) (by kernel_rfl)) (by kernel_rfl) (by kernel_rfl)
theorem tab_of {W : World} (h : laidMetH Tryd.prog Rows.fnExactOpTextRow.laid W) : Tab W := by
  rw [MakeChecks.laidMetH_plain _ _ _ (by kernel_rfl)] at h
  exact tab_of_laid rfl (by kernel_rfl) h

set_option maxRecDepth 100000 in
theorem lifted (os : Os) (started : os.Started) (H : Type) (enc : TypeId × Value → H) :
    ReturnsInHanded {} Tryd.checked os 3 .any (fun w args => (Rows.fnExactOpTextSpec.pre enc Tryd.prog Tryd.f3 [] false w args ∧ laidMetH Tryd.prog Rows.fnExactOpTextRow.laid w) ∧ sizedMet enc Tryd.prog Tryd.f3 (OpenSpec.ofChange Rows.fnExactOpTextSpec) false w args) (Rows.fnExactOpTextSpec.post enc Tryd.prog Tryd.f3 false true false false) := by
  refine law_lifted_laid (L := Rows.fnExactOpTextRow.laid) (C := Tryd.checked) (tb := 4) (by kernel_rfl) started (by kernel_rfl) Tryd.func3 (by kernel_rfl) (by kernel_rfl) rfl (by kernel_rfl) Tryd.underlying4 ?_
    (ChangeSpec.witness_shaped (enc := enc) (C := Tryd.checked) (os := os) (X := fun w _ => laidMetH Tryd.prog Rows.fnExactOpTextRow.laid w) false (World.doorLaid Tryd.prog 72 os) #[.agg #[.int .i64 0, .int .i64 0, .int .i64 0, .int .i64 0, .int .i64 0]] 8 rfl (World.shaped_of_RefB (by kernel_rfl) (by kernel_rfl)) (by kernel_rfl) (by kernel_rfl) (by kernel_rfl) (door_met os _)) ?_
  · intro ds h
    match ds, h with
    | [d], _ => rfl
  · intro W base args ds p hval hA hfz hL
    rw [Tryd.params3] at hA hval
    obtain ⟨v0, vs0, d0, ds0, p0, q0, hargs, rfl, rfl, h0, r0⟩ := trodAll_cons hA
    obtain ⟨rfl, rfl, rfl⟩ := trodAll_nil r0
    obtain rfl : args = #[v0] := by cases args; simp_all
    obtain ⟨cs, rfl, _⟩ := okWide_struct Tryd.underlying23 (hval 0 23 v0 rfl rfl)
    obtain ⟨fuel, hf⟩ := h0
    obtain ⟨o, F, hrd⟩ := treads_LOp H enc W 0 _ _ fuel _ _ hf
    obtain ⟨hcs, _⟩ := DOp_open hrd
    obtain rfl : cs = #[.int .i64 o.kind, .int .i64 o.a, .int .i64 o.b, .int .i64 o.c, .int .i64 o.d] := by
      apply Array.ext'
      simpa [Value.cells] using hcs
    exact walk o W (tab_of hL)

theorem said : Rows.FnExactOpTextSaid :=
  OpenClaim.holds_of_wide 3 Tryd.f3 rfl rfl rfl rfl rfl rfl rfl ⟨rfl, rfl, rfl, rfl, rfl⟩ rfl rfl rfl rfl rfl (by kernel_rfl) Tryd.func3 (by kernel_rfl)
    (of_decide_eq_true (by kernel_rfl)) (by unfold Func.isWrapper; first | (rw [if_pos (by decide +kernel)]; kernel_rfl) | (rw [if_neg (by decide +kernel)]; exact ⟨rfl, rfl⟩))
    (fun os started H enc _ => lifted os started H enc)
#print axioms said
end Go.Proofs.YtlhanpkfnhnegaaDoor.lawOpText
