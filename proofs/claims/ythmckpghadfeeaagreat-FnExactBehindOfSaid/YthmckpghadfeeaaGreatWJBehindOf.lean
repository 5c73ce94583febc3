/- The row's facts, by the kernel: alone, since they want much memory. -/
import Derived.Test.YthmckpghadfeeaaGreatLaw
set_option linter.unusedVariables false
set_option linter.unusedSimpArgs false
set_option maxRecDepth 100000
namespace Go.Proofs.YthmckpghadfeeaaGreat
open Go.ChangeShapes Go.WideShapes Go.RowKit
set_option maxRecDepth 100000 in
theorem closed_BehindOf : joinedFacts Tryz.checked.prog 4 Tryz.f4 Rows.fnExactBehindOfSpec Rows.fnExactBehindOfRow = true := by kernel_rfl
end Go.Proofs.YthmckpghadfeeaaGreat
