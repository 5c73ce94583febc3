/- Facts of the call graph, by the kernel: apart, since they want much memory. -/
import Derived.Test.YtmgcnmdbhahhlaaGreatLaw
set_option linter.unusedVariables false
set_option linter.unusedSimpArgs false
set_option maxRecDepth 100000
namespace Go.Proofs.YtmgcnmdbhahhlaaGreat
open Go.ChangeShapes Go.WideShapes Go.RowKit
set_option maxRecDepth 100000 in
theorem jf_inPlace_StoreReport : Tryz.checked.prog.inPlace 7 = Rows.fnExactStoreReportRow.inPlace := by kernel_rfl
set_option maxRecDepth 100000 in
theorem jf_unfollowed_StoreReport : Tryz.checked.prog.unfollowed 7 = Rows.fnExactStoreReportRow.unfollowed := by kernel_rfl
set_option maxRecDepth 100000 in
theorem jf_recurses_StoreReport : Tryz.checked.prog.recurses 7 = Rows.fnExactStoreReportRow.recurses := by kernel_rfl
set_option maxRecDepth 100000 in
theorem jf_varsNamed_StoreReport : Tryz.checked.prog.varsNamed 7 = Rows.fnExactStoreReportRow.named := by kernel_rfl
end Go.Proofs.YtmgcnmdbhahhlaaGreat
