/- The row's facts. -/
import Derived.Test.YtmgcnmdbhahhlaaGreatWJClientReportA
set_option linter.unusedVariables false
set_option linter.unusedSimpArgs false
set_option maxRecDepth 100000
namespace Go.Proofs.YtmgcnmdbhahhlaaGreat
open Go.ChangeShapes Go.WideShapes Go.RowKit
set_option maxRecDepth 100000 in
theorem jf_mayEnter_ClientReport : Tryz.checked.prog.mayEnter = true := by kernel_rfl
set_option maxRecDepth 100000 in
theorem jf_liftsFinal_ClientReport : Tryz.checked.prog.liftsFinal = Rows.fnExactClientReportRow.lifted := by kernel_rfl
set_option maxRecDepth 100000 in
theorem jf_make_ClientReport : Tryz.checked.prog.make = some Rows.fnExactClientReportRow.make := by kernel_rfl
set_option maxRecDepth 100000 in
theorem closed_ClientReport : joinedFacts Tryz.checked.prog 3 Tryz.f3 Rows.fnExactClientReportSpec Rows.fnExactClientReportRow = true := by
  unfold joinedFacts
  rw [jf_inPlace_ClientReport, jf_unfollowed_ClientReport, jf_recurses_ClientReport, jf_varsNamed_ClientReport, jf_mayEnter_ClientReport, jf_liftsFinal_ClientReport, jf_make_ClientReport]
  kernel_rfl
end Go.Proofs.YtmgcnmdbhahhlaaGreat
