/- The row's facts. -/
import Derived.Test.YthmckpghadfeeaaGreatWJBehindOfA
set_option linter.unusedVariables false
set_option linter.unusedSimpArgs false
set_option maxRecDepth 100000
namespace Go.Proofs.YthmckpghadfeeaaGreat
open Go.ChangeShapes Go.WideShapes Go.RowKit
set_option maxRecDepth 100000 in
theorem jf_mayEnter_BehindOf : Tryz.checked.prog.mayEnter = true := by kernel_rfl
set_option maxRecDepth 100000 in
theorem jf_liftsFinal_BehindOf : Tryz.checked.prog.liftsFinal = Rows.fnExactBehindOfRow.lifted := by kernel_rfl
set_option maxRecDepth 100000 in
theorem jf_make_BehindOf : Tryz.checked.prog.make = some Rows.fnExactBehindOfRow.make := by kernel_rfl
set_option maxRecDepth 100000 in
theorem closed_BehindOf : joinedFacts Tryz.checked.prog 4 Tryz.f4 Rows.fnExactBehindOfSpec Rows.fnExactBehindOfRow = true := by
  unfold joinedFacts
  rw [jf_inPlace_BehindOf, jf_unfollowed_BehindOf, jf_recurses_BehindOf, jf_varsNamed_BehindOf, jf_mayEnter_BehindOf, jf_liftsFinal_BehindOf, jf_make_BehindOf]
  kernel_rfl
end Go.Proofs.YthmckpghadfeeaaGreat
