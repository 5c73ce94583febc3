/- WJReports -/
import Derived.Test.YthgkdhnlehneeaaGreatDoorWJReportsA
set_option maxHeartbeats 8000000
set_option linter.unusedVariables false
set_option linter.unusedSimpArgs false
set_option maxRecDepth 100000
namespace Go.Proofs.YthgkdhnlehneeaaGreatDoor
open Go.ChangeShapes Go.WideShapes Go.RowKit
theorem xK:Tryz.checked.prog.mayEnter=true:=by kernel_rfl
theorem t8:Tryz.checked.prog.liftsFinal=Rows.fnReportsRow.lifted:=by kernel_rfl
theorem Df:Tryz.checked.prog.make=some Rows.fnReportsRow.make:=by kernel_rfl
theorem EF:joinedFacts Tryz.checked.prog 3 Tryz.f3 Rows.fnReportsSpec Rows.fnReportsRow=true:=by
 unfold joinedFacts;rw[yM,ua,xL,vD,xK,t8,Df];kernel_rfl
end Go.Proofs.YthgkdhnlehneeaaGreatDoor
