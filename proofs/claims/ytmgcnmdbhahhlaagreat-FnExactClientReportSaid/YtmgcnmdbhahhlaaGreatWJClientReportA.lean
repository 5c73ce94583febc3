/- Facts of the call graph, by the kernel: apart, since they want much memory. -/
import Derived.Test.YtmgcnmdbhahhlaaGreatLaw
set_option linter.unusedVariables false
set_option linter.unusedSimpArgs false
set_option maxRecDepth 100000
namespace Go.Proofs.YtmgcnmdbhahhlaaGreat
open Go.ChangeShapes Go.WideShapes Go.RowKit
set_option maxRecDepth 100000 in
theorem jf_inPlace_ClientReport : Tryz.checked.prog.inPlace 3 = Rows.fnExactClientReportRow.inPlace := by kernel_rfl
set_option maxRecDepth 100000 in
theorem jf_unfollowed_ClientReport : Tryz.checked.prog.unfollowed 3 = Rows.fnExactClientReportRow.unfollowed := by kernel_rfl
set_option maxRecDepth 100000 in
theorem jf_recurses_ClientReport : Tryz.checked.prog.recurses 3 = Rows.fnExactClientReportRow.recurses := by kernel_rfl
set_option maxRecDepth 100000 in
theorem jf_varsNamed_ClientReport : Tryz.checked.prog.varsNamed 3 = Rows.fnExactClientReportRow.named := by kernel_rfl
end Go.Proofs.YtmgcnmdbhahhlaaGreat
