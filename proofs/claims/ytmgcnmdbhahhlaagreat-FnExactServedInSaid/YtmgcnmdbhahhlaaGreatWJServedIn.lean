/- The row's facts. -/
import Derived.Test.YtmgcnmdbhahhlaaGreatWJServedInA
set_option linter.unusedVariables false
set_option linter.unusedSimpArgs false
set_option maxRecDepth 100000
namespace Go.Proofs.YtmgcnmdbhahhlaaGreat
open Go.ChangeShapes Go.WideShapes Go.RowKit
set_option maxRecDepth 100000 in
theorem jf_mayEnter_ServedIn : Tryz.checked.prog.mayEnter = true := by kernel_rfl
set_option maxRecDepth 100000 in
theorem jf_liftsFinal_ServedIn : Tryz.checked.prog.liftsFinal = Rows.fnExactServedInRow.lifted := by kernel_rfl
set_option maxRecDepth 100000 in
theorem jf_make_ServedIn : Tryz.checked.prog.make = some Rows.fnExactServedInRow.make := by kernel_rfl
set_option maxRecDepth 100000 in
theorem closed_ServedIn : joinedFacts Tryz.checked.prog 8 Tryz.f8 Rows.fnExactServedInSpec Rows.fnExactServedInRow = true := by
  unfold joinedFacts
  rw [jf_inPlace_ServedIn, jf_unfollowed_ServedIn, jf_recurses_ServedIn, jf_varsNamed_ServedIn, jf_mayEnter_ServedIn, jf_liftsFinal_ServedIn, jf_make_ServedIn]
  kernel_rfl
end Go.Proofs.YtmgcnmdbhahhlaaGreat
