/- WJReportsA -/
import Derived.Test.YthgkdhnlehneeaaGreatDoorAvFQ
set_option maxHeartbeats 8000000
set_option linter.unusedVariables false
set_option linter.unusedSimpArgs false
set_option maxRecDepth 100000
namespace Go.Proofs.YthgkdhnlehneeaaGreatDoor
open Go.ChangeShapes Go.WideShapes Go.RowKit
theorem yM:Tryz.checked.prog.inPlace 3=Rows.fnReportsRow.inPlace:=by kernel_rfl
theorem ua:Tryz.checked.prog.unfollowed 3=Rows.fnReportsRow.unfollowed:=by kernel_rfl
theorem xL:Tryz.checked.prog.recurses 3=Rows.fnReportsRow.recurses:=by kernel_rfl
theorem vD:Tryz.checked.prog.varsNamed 3=Rows.fnReportsRow.named:=by kernel_rfl
end Go.Proofs.YthgkdhnlehneeaaGreatDoor
