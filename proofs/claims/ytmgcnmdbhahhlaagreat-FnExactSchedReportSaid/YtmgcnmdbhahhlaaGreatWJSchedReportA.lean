/- Facts of the call graph, by the kernel: apart, since they want much memory. -/
import Derived.Test.YtmgcnmdbhahhlaaGreatLaw
set_option linter.unusedVariables false
set_option linter.unusedSimpArgs false
set_option maxRecDepth 100000
namespace Go.Proofs.YtmgcnmdbhahhlaaGreat
open Go.ChangeShapes Go.WideShapes Go.RowKit
set_option maxRecDepth 100000 in
theorem jf_inPlace_SchedReport : Tryz.checked.prog.inPlace 6 = Rows.fnExactSchedReportRow.inPlace := by kernel_rfl
set_option maxRecDepth 100000 in
theorem jf_unfollowed_SchedReport : Tryz.checked.prog.unfollowed 6 = Rows.fnExactSchedReportRow.unfollowed := by kernel_rfl
set_option maxRecDepth 100000 in
theorem jf_recurses_SchedReport : Tryz.checked.prog.recurses 6 = Rows.fnExactSchedReportRow.recurses := by kernel_rfl
set_option maxRecDepth 100000 in
theorem jf_varsNamed_SchedReport : Tryz.checked.prog.varsNamed 6 = Rows.fnExactSchedReportRow.named := by kernel_rfl
end Go.Proofs.YtmgcnmdbhahhlaaGreat
