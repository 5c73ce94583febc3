/- WJTickedAllA -/
import Derived.Test.YtknefkdcokgpbaaGreatTypes
set_option maxHeartbeats 8000000
set_option linter.unusedVariables false
set_option linter.unusedSimpArgs false
set_option maxRecDepth 100000
namespace Go.Proofs.YtknefkdcokgpbaaGreat
open Go.ChangeShapes Go.WideShapes Go.RowKit
theorem sY:Tryz.checked.prog.inPlace 3=Rows.fnExactTickedAllRow.inPlace:=by kernel_rfl
theorem pe:Tryz.checked.prog.unfollowed 3=Rows.fnExactTickedAllRow.unfollowed:=by kernel_rfl
theorem rH:Tryz.checked.prog.recurses 3=Rows.fnExactTickedAllRow.recurses:=by kernel_rfl
theorem qf:Tryz.checked.prog.varsNamed 3=Rows.fnExactTickedAllRow.named:=by kernel_rfl
end Go.Proofs.YtknefkdcokgpbaaGreat
