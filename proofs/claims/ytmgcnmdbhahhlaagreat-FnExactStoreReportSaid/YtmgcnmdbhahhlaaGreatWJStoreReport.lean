/- The row's facts. -/
import Derived.Test.YtmgcnmdbhahhlaaGreatWJStoreReportA
set_option linter.unusedVariables false
set_option linter.unusedSimpArgs false
set_option maxRecDepth 100000
namespace Go.Proofs.YtmgcnmdbhahhlaaGreat
open Go.ChangeShapes Go.WideShapes Go.RowKit
set_option maxRecDepth 100000 in
theorem jf_mayEnter_StoreReport : Tryz.checked.prog.mayEnter = true := by kernel_rfl
set_option maxRecDepth 100000 in
theorem jf_liftsFinal_StoreReport : Tryz.checked.prog.liftsFinal = Rows.fnExactStoreReportRow.lifted := by kernel_rfl
set_option maxRecDepth 100000 in
theorem jf_make_StoreReport : Tryz.checked.prog.make = some Rows.fnExactStoreReportRow.make := by kernel_rfl
set_option maxRecDepth 100000 in
theorem closed_StoreReport : joinedFacts Tryz.checked.prog 7 Tryz.f7 Rows.fnExactStoreReportSpec Rows.fnExactStoreReportRow = true := by
  unfold joinedFacts
  rw [jf_inPlace_StoreReport, jf_unfollowed_StoreReport, jf_recurses_StoreReport, jf_varsNamed_StoreReport, jf_mayEnter_StoreReport, jf_liftsFinal_StoreReport, jf_make_StoreReport]
  kernel_rfl
end Go.Proofs.YtmgcnmdbhahhlaaGreat
