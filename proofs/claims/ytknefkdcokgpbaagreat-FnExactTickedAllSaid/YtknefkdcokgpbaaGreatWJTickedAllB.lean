/- WJTickedAllB -/
import Derived.Test.YtknefkdcokgpbaaGreatTypes
set_option maxHeartbeats 8000000
set_option linter.unusedVariables false
set_option linter.unusedSimpArgs false
set_option maxRecDepth 100000
namespace Go.Proofs.YtknefkdcokgpbaaGreat
open Go.ChangeShapes Go.WideShapes Go.RowKit
theorem rG:Tryz.checked.prog.mayEnter=true:=by kernel_rfl
theorem pd:Tryz.checked.prog.liftsFinal=Rows.fnExactTickedAllRow.lifted:=by kernel_rfl
theorem xa:Tryz.checked.prog.make=some Rows.fnExactTickedAllRow.make:=by kernel_rfl
theorem w9:laidOutB Tryz.checked.prog=true:=by kernel_rfl
theorem xb:mapsRowed Tryz.checked.prog=true:=by kernel_rfl
end Go.Proofs.YtknefkdcokgpbaaGreat
