/- Facts of the call graph, by the kernel: apart, since they want much memory. -/
import Derived.Test.YtmgcnmdbhahhlaaGreatLaw
set_option linter.unusedVariables false
set_option linter.unusedSimpArgs false
set_option maxRecDepth 100000
namespace Go.Proofs.YtmgcnmdbhahhlaaGreat
open Go.ChangeShapes Go.WideShapes Go.RowKit
set_option maxRecDepth 100000 in
theorem jf_inPlace_LogReport : Tryz.checked.prog.inPlace 5 = Rows.fnExactLogReportRow.inPlace := by kernel_rfl
set_option maxRecDepth 100000 in
theorem jf_unfollowed_LogReport : Tryz.checked.prog.unfollowed 5 = Rows.fnExactLogReportRow.unfollowed := by kernel_rfl
set_option maxRecDepth 100000 in
theorem jf_recurses_LogReport : Tryz.checked.prog.recurses 5 = Rows.fnExactLogReportRow.recurses := by kernel_rfl
set_option maxRecDepth 100000 in
theorem jf_varsNamed_LogReport : Tryz.checked.prog.varsNamed 5 = Rows.fnExactLogReportRow.named := by kernel_rfl
end Go.Proofs.YtmgcnmdbhahhlaaGreat
