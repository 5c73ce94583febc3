/- The row's facts. -/
import Derived.Test.YtmgcnmdbhahhlaaGreatWJNetReportA
set_option linter.unusedVariables false
set_option linter.unusedSimpArgs false
set_option maxRecDepth 100000
namespace Go.Proofs.YtmgcnmdbhahhlaaGreat
open Go.ChangeShapes Go.WideShapes Go.RowKit
set_option maxRecDepth 100000 in
theorem jf_mayEnter_NetReport : Tryz.checked.prog.mayEnter = true := by kernel_rfl
set_option maxRecDepth 100000 in
theorem jf_liftsFinal_NetReport : Tryz.checked.prog.liftsFinal = Rows.fnExactNetReportRow.lifted := by kernel_rfl
set_option maxRecDepth 100000 in
theorem jf_make_NetReport : Tryz.checked.prog.make = some Rows.fnExactNetReportRow.make := by kernel_rfl
set_option maxRecDepth 100000 in
theorem closed_NetReport : joinedFacts Tryz.checked.prog 4 Tryz.f4 Rows.fnExactNetReportSpec Rows.fnExactNetReportRow = true := by
  unfold joinedFacts
  rw [jf_inPlace_NetReport, jf_unfollowed_NetReport, jf_recurses_NetReport, jf_varsNamed_NetReport, jf_mayEnter_NetReport, jf_liftsFinal_NetReport, jf_make_NetReport]
  kernel_rfl
end Go.Proofs.YtmgcnmdbhahhlaaGreat
