/- WJTickedAll -/
import Derived.Test.YtknefkdcokgpbaaGreatWJTickedAllA
import Derived.Test.YtknefkdcokgpbaaGreatWJTickedAllB
import Derived.Test.YtknefkdcokgpbaaGreatWJTickedAllC
set_option maxHeartbeats 8000000
set_option linter.unusedVariables false
set_option linter.unusedSimpArgs false
set_option maxRecDepth 100000
namespace Go.Proofs.YtknefkdcokgpbaaGreat
open Go.ChangeShapes Go.WideShapes Go.RowKit
theorem xU:joinedFacts Tryz.checked.prog 3 Tryz.f3 Rows.fnExactTickedAllSpec Rows.fnExactTickedAllRow=true:=by
 unfold joinedFacts;rw[sY,pe,rH,qf,rG,pd,xa,w9,xb,vW,vV,w8,vU];kernel_rfl
end Go.Proofs.YtknefkdcokgpbaaGreat
