/- The row's facts. -/
import Derived.Test.YthmckpghadfeeaaGreatWJQuietInA
set_option linter.unusedVariables false
set_option linter.unusedSimpArgs false
set_option maxRecDepth 100000
namespace Go.Proofs.YthmckpghadfeeaaGreat
open Go.ChangeShapes Go.WideShapes Go.RowKit
set_option maxRecDepth 100000 in
theorem jf_mayEnter_QuietIn : Tryz.checked.prog.mayEnter = true := by kernel_rfl
set_option maxRecDepth 100000 in
theorem jf_liftsFinal_QuietIn : Tryz.checked.prog.liftsFinal = Rows.fnExactQuietInRow.lifted := by kernel_rfl
set_option maxRecDepth 100000 in
theorem jf_make_QuietIn : Tryz.checked.prog.make = some Rows.fnExactQuietInRow.make := by kernel_rfl
set_option maxRecDepth 100000 in
theorem closed_QuietIn : joinedFacts Tryz.checked.prog 5 Tryz.f5 Rows.fnExactQuietInSpec Rows.fnExactQuietInRow = true := by
  unfold joinedFacts
  rw [jf_inPlace_QuietIn, jf_unfollowed_QuietIn, jf_recurses_QuietIn, jf_varsNamed_QuietIn, jf_mayEnter_QuietIn, jf_liftsFinal_QuietIn, jf_make_QuietIn]
  kernel_rfl
end Go.Proofs.YthmckpghadfeeaaGreat
