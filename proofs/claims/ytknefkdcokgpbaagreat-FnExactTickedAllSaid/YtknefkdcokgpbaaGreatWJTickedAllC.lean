/- WJTickedAllC -/
import Derived.Test.YtknefkdcokgpbaaGreatTypes
set_option maxHeartbeats 8000000
set_option linter.unusedVariables false
set_option linter.unusedSimpArgs false
set_option maxRecDepth 100000
namespace Go.Proofs.YtknefkdcokgpbaaGreat
open Go.ChangeShapes Go.WideShapes Go.RowKit
theorem vW:Tryz.checked.prog.stops=[]:=by kernel_rfl
theorem vV:Tryz.checked.prog.stopKnobs=[]:=by kernel_rfl
theorem w8:Tryz.checked.prog.plainKeys=Rows.fnExactTickedAllRow.plainKeys:=by kernel_rfl
theorem vU:Tryz.checked.prog.stopsHeard=true:=by kernel_rfl
end Go.Proofs.YtknefkdcokgpbaaGreat
