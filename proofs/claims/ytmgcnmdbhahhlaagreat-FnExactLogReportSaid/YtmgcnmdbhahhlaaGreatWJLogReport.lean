/- The row's facts. -/
import Derived.Test.YtmgcnmdbhahhlaaGreatWJLogReportA
set_option linter.unusedVariables false
set_option linter.unusedSimpArgs false
set_option maxRecDepth 100000
namespace Go.Proofs.YtmgcnmdbhahhlaaGreat
open Go.ChangeShapes Go.WideShapes Go.RowKit
set_option maxRecDepth 100000 in
theorem jf_mayEnter_LogReport : Tryz.checked.prog.mayEnter = true := by kernel_rfl
set_option maxRecDepth 100000 in
theorem jf_liftsFinal_LogReport : Tryz.checked.prog.liftsFinal = Rows.fnExactLogReportRow.lifted := by kernel_rfl
set_option maxRecDepth 100000 in
theorem jf_make_LogReport : Tryz.checked.prog.make = some Rows.fnExactLogReportRow.make := by kernel_rfl
set_option maxRecDepth 100000 in
theorem closed_LogReport : joinedFacts Tryz.checked.prog 5 Tryz.f5 Rows.fnExactLogReportSpec Rows.fnExactLogReportRow = true := by
  unfold joinedFacts
  rw [jf_inPlace_LogReport, jf_unfollowed_LogReport, jf_recurses_LogReport, jf_varsNamed_LogReport, jf_mayEnter_LogReport, jf_liftsFinal_LogReport, jf_make_LogReport]
  kernel_rfl
end Go.Proofs.YtmgcnmdbhahhlaaGreat
