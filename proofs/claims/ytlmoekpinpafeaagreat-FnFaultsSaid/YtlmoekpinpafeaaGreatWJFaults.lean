/- WJFaults -/
import Derived.Test.YtlmoekpinpafeaaGreatAvJ3
set_option maxHeartbeats 8000000
set_option linter.unusedVariables false
set_option linter.unusedSimpArgs false
set_option maxRecDepth 100000
namespace Go.Proofs.YtlmoekpinpafeaaGreat
open Go.ChangeShapes Go.WideShapes Go.RowKit
theorem yt:joinedFacts Tryz.checked.prog 3 Tryz.f3 Rows.fnFaultsSpec Rows.fnFaultsRow=true:=by kernel_rfl
end Go.Proofs.YtlmoekpinpafeaaGreat
