/- WJReportText -/
import Derived.Test.YtehobfglmeiglaaGreatDoorWJReportTextA
set_option linter.unusedVariables false
set_option linter.unusedSimpArgs false
set_option maxRecDepth 100000
namespace Go.Proofs.YtehobfglmeiglaaGreatDoor
open Go.ChangeShapes Go.WideShapes Go.RowKit
set_option maxRecDepth 100000 in
theorem jW:Tryz.checked.prog.mayEnter=true:=by kernel_rfl
set_option maxRecDepth 100000 in
theorem iu:Tryz.checked.prog.liftsFinal=Rows.fnExactReportTextRow.lifted:=by kernel_rfl
set_option maxRecDepth 100000 in
theorem oy:Tryz.checked.prog.make=some Rows.fnExactReportTextRow.make:=by kernel_rfl
set_option maxRecDepth 100000 in
theorem o5:joinedFacts Tryz.checked.prog 3 Tryz.f3 Rows.fnExactReportTextSpec Rows.fnExactReportTextRow=true:=by
 unfold joinedFacts
 rw[lA,iv,jX,i7,jW,iu,oy]
 kernel_rfl
end Go.Proofs.YtehobfglmeiglaaGreatDoor
