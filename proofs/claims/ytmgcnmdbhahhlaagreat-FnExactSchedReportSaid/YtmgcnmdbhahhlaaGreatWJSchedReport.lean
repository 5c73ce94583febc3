/- The row's facts. -/
import Derived.Test.YtmgcnmdbhahhlaaGreatWJSchedReportA
set_option linter.unusedVariables false
set_option linter.unusedSimpArgs false
set_option maxRecDepth 100000
namespace Go.Proofs.YtmgcnmdbhahhlaaGreat
open Go.ChangeShapes Go.WideShapes Go.RowKit
set_option maxRecDepth 100000 in
theorem jf_mayEnter_SchedReport : Tryz.checked.prog.mayEnter = true := by kernel_rfl
set_option maxRecDepth 100000 in
theorem jf_liftsFinal_SchedReport : Tryz.checked.prog.liftsFinal = Rows.fnExactSchedReportRow.lifted := by kernel_rfl
set_option maxRecDepth 100000 in
theorem jf_make_SchedReport : Tryz.checked.prog.make = some Rows.fnExactSchedReportRow.make := by kernel_rfl
set_option maxRecDepth 100000 in
theorem closed_SchedReport : joinedFacts Tryz.checked.prog 6 Tryz.f6 Rows.fnExactSchedReportSpec Rows.fnExactSchedReportRow = true := by
  unfold joinedFacts
  rw [jf_inPlace_SchedReport, jf_unfollowed_SchedReport, jf_recurses_SchedReport, jf_varsNamed_SchedReport, jf_mayEnter_SchedReport, jf_liftsFinal_SchedReport, jf_make_SchedReport]
  kernel_rfl
end Go.Proofs.YtmgcnmdbhahhlaaGreat
