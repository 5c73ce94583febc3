/- Copies of rows of numbers: copyRow, l1Copy. -/
import Derived.Test.YtfehpceafnjmnaaGrow
set_option linter.unusedVariables false
set_option linter.unusedSimpArgs false
set_option maxRecDepth 100000
namespace Go.Proofs.Ytfehpceafnjmnaa
open Go.ChangeShapes Go.WideShapes Go.RowKit

theorem infoI64 : (Try.prog.info? 2).map (fun i => (i.zero, i.size, i.bytes)) = some (some (.int .i64 0), 1, 8) := by kernel_rfl

theorem copy_close {w w1 w' : World} {v' : Value} {xs : List Int} (hbl : Below w.heap.size w w1) (hown : w'.ownsRow w.heap.size 2 1 v' xs.length (xs.map (Value.int .i64)))
    (hg : w1.grownBy w' (some w.heap.size)) (hw : ∀ x ∈ xs, (Lit.int .i64 x).wf = true) : OutSl (Rep.int .i64) xs w (.returned v') w' := by
  obtain ⟨A, cap, rfl, hrd, hh⟩ := Rep.sl_own (R := Rep.int .i64) hown (ints_all w' .i64 xs hw) rfl
  refine ⟨A, cap, _, rfl, hrd, ?_, hbl.grown hg hbl.size (by rintro k ⟨rfl⟩; exact Nat.le_refl _)⟩
  rw [List.append_nil]
  exact Fresh.own hown rfl

set_option maxHeartbeats 400000 in
theorem icopyRow_calls (xs : List Int) (v : Value) (F : List Nat) (w : World) (h : (Rep.int .i64).sl.rd w [v] xs F) (hl : xs.length ≤ 1000000000000) :
    Calls Try.prog 59 #[v] w (OutSl (Rep.int .i64) xs w) := by
  obtain ⟨A, cap, rfl, _, _, hr, _, hw⟩ := sl_ints h
  obtain ⟨i0, hi, hz0, hz1, hz2⟩ := info_parts infoI64
  have hr' : Row (w.alloc (.cells #[] 2)) A (xs.map (Value.int .i64)) := hr.below ((Below.refl _ _).alloc (Nat.le_refl _) _)
  have hown : (w.alloc (.cells #[] 2)).ownsRow w.heap.size 2 1 (.slice (some ⟨w.heap.size, 0, none⟩) 0 0) 0 [] := World.ownsRow_made w #[] 0 (Nat.le_refl _) (Nat.zero_le _) rfl
  go_enter Try.func59, Try.ntmps59
  go_wp2_with (at_builtin; refine wpList_append_row _ rfl _ _ 40 rfl w.heap.size 2 i0 (.int .i64 0) 1 8 Try.underlying40 hi hz0 hz1 hz2 rfl (by decide) _ _ _ rfl hown A xs.length cap (xs.map (Value.int .i64)) rfl (by simp) hr' (ints_onecell _ _) (by unfold maxLen; omega) (by omega) (by simp) ?_; intro v' w1 hown1 hg1 _)
  go_ret
  exact copy_close ((Below.refl _ _).alloc (Nat.le_refl _) _) (by simpa using hown1) hg1 hw
set_option maxHeartbeats 400000 in
theorem sl1Copy_calls (xs : List Int) (v : Value) (F : List Nat) (w : World) (h : (Rep.int .i64).sl.rd w [v] xs F) (hl : xs.length ≤ 1000000000000) :
    Calls Try.prog 56 #[v] w (OutSl (Rep.int .i64) xs w) := by
  obtain ⟨A, cap, rfl, _, _, hr, _, hw⟩ := sl_ints h
  obtain ⟨i0, hi, hz0, hz1, hz2⟩ := info_parts infoI64
  have hr' : Row (w.alloc (.cells #[] 2)) A (xs.map (Value.int .i64)) := hr.below ((Below.refl _ _).alloc (Nat.le_refl _) _)
  have hown : (w.alloc (.cells #[] 2)).ownsRow w.heap.size 2 1 (.slice (some ⟨w.heap.size, 0, none⟩) 0 0) 0 [] := World.ownsRow_made w #[] 0 (Nat.le_refl _) (Nat.zero_le _) rfl
  go_enter Try.func56, Try.ntmps56
  go_wp2_with (at_builtin; refine wpList_append_row _ rfl _ _ 40 rfl w.heap.size 2 i0 (.int .i64 0) 1 8 Try.underlying40 hi hz0 hz1 hz2 rfl (by decide) _ _ _ rfl hown A xs.length cap (xs.map (Value.int .i64)) rfl (by simp) hr' (ints_onecell _ _) (by unfold maxLen; omega) (by omega) (by simp) ?_; intro v' w1 hown1 hg1 _)
  go_ret
  exact copy_close ((Below.refl _ _).alloc (Nat.le_refl _) _) (by simpa using hown1) hg1 hw
end Go.Proofs.Ytfehpceafnjmnaa
