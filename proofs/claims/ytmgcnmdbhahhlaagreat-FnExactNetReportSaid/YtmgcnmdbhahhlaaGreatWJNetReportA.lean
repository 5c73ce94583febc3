/- Facts of the call graph, by the kernel: apart, since they want much memory. -/
import Derived.Test.YtmgcnmdbhahhlaaGreatLaw
set_option linter.unusedVariables false
set_option linter.unusedSimpArgs false
set_option maxRecDepth 100000
namespace Go.Proofs.YtmgcnmdbhahhlaaGreat
open Go.ChangeShapes Go.WideShapes Go.RowKit
set_option maxRecDepth 100000 in
theorem jf_inPlace_NetReport : Tryz.checked.prog.inPlace 4 = Rows.fnExactNetReportRow.inPlace := by kernel_rfl
set_option maxRecDepth 100000 in
theorem jf_unfollowed_NetReport : Tryz.checked.prog.unfollowed 4 = Rows.fnExactNetReportRow.unfollowed := by kernel_rfl
set_option maxRecDepth 100000 in
theorem jf_recurses_NetReport : Tryz.checked.prog.recurses 4 = Rows.fnExactNetReportRow.recurses := by kernel_rfl
set_option maxRecDepth 100000 in
theorem jf_varsNamed_NetReport : Tryz.checked.prog.varsNamed 4 = Rows.fnExactNetReportRow.named := by kernel_rfl
end Go.Proofs.YtmgcnmdbhahhlaaGreat
