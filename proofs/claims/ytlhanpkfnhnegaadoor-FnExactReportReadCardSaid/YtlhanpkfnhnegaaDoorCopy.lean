/- Copies of rows of numbers: copyRow, l1Copy. -/
import Derived.Test.YtlhanpkfnhnegaaDoorGrow
set_option linter.unusedVariables false
set_option linter.unusedSimpArgs false
set_option maxRecDepth 100000
namespace Go.Proofs.YtlhanpkfnhnegaaDoor
open Go.ChangeShapes Go.WideShapes Go.RowKit

theorem infoI64 : (Tryd.prog.info? 2).map (fun i => (i.zero, i.size, i.bytes)) = some (some (.int .i64 0), 1, 8) := by kernel_rfl

theorem copy_close {w w1 w' : World} {v' : Value} {xs : List Int} (hbl : Below w.heap.size w w1) (hown : w'.ownsRow w.heap.size 2 1 v' xs.length (xs.map (Value.int .i64)))
    (hg : w1.grownBy w' (some w.heap.size)) (hw : ∀ x ∈ xs, (Lit.int .i64 x).wf = true) : OutSl (Rep.int .i64) xs w (.returned v') w' := by
  obtain ⟨A, cap, rfl, hrd, hh⟩ := Rep.sl_own (R := Rep.int .i64) hown (ints_all w' .i64 xs hw) rfl
  refine ⟨A, cap, _, rfl, hrd, ?_, hbl.grown hg hbl.size (by rintro k ⟨rfl⟩; exact Nat.le_refl _)⟩
  rw [List.append_nil]
  exact Fresh.own hown rfl

end Go.Proofs.YtlhanpkfnhnegaaDoor
