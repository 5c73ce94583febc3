/- The row's facts. -/
import Derived.Test.YthmckpghadfeeaaGreatWJUndoneOfA
set_option linter.unusedVariables false
set_option linter.unusedSimpArgs false
set_option maxRecDepth 100000
namespace Go.Proofs.YthmckpghadfeeaaGreat
open Go.ChangeShapes Go.WideShapes Go.RowKit
set_option maxRecDepth 100000 in
theorem jf_mayEnter_UndoneOf : Tryz.checked.prog.mayEnter = true := by kernel_rfl
set_option maxRecDepth 100000 in
theorem jf_liftsFinal_UndoneOf : Tryz.checked.prog.liftsFinal = Rows.fnExactUndoneOfRow.lifted := by kernel_rfl
set_option maxRecDepth 100000 in
theorem jf_make_UndoneOf : Tryz.checked.prog.make = some Rows.fnExactUndoneOfRow.make := by kernel_rfl
set_option maxRecDepth 100000 in
theorem closed_UndoneOf : joinedFacts Tryz.checked.prog 3 Tryz.f3 Rows.fnExactUndoneOfSpec Rows.fnExactUndoneOfRow = true := by
  unfold joinedFacts
  rw [jf_inPlace_UndoneOf, jf_unfollowed_UndoneOf, jf_recurses_UndoneOf, jf_varsNamed_UndoneOf, jf_mayEnter_UndoneOf, jf_liftsFinal_UndoneOf, jf_make_UndoneOf]
  kernel_rfl
end Go.Proofs.YthmckpghadfeeaaGreat
