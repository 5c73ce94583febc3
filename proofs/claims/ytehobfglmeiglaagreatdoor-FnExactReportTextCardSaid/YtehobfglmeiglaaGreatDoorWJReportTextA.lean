/- WJReportTextA -/
import Derived.Test.YtehobfglmeiglaaGreatDoorLaw
set_option linter.unusedVariables false
set_option linter.unusedSimpArgs false
set_option maxRecDepth 100000
namespace Go.Proofs.YtehobfglmeiglaaGreatDoor
open Go.ChangeShapes Go.WideShapes Go.RowKit
set_option maxRecDepth 100000 in
theorem lA:Tryz.checked.prog.inPlace 3=Rows.fnExactReportTextRow.inPlace:=by kernel_rfl
set_option maxRecDepth 100000 in
theorem iv:Tryz.checked.prog.unfollowed 3=Rows.fnExactReportTextRow.unfollowed:=by kernel_rfl
set_option maxRecDepth 100000 in
theorem jX:Tryz.checked.prog.recurses 3=Rows.fnExactReportTextRow.recurses:=by kernel_rfl
set_option maxRecDepth 100000 in
theorem i7:Tryz.checked.prog.varsNamed 3=Rows.fnExactReportTextRow.named:=by kernel_rfl
end Go.Proofs.YtehobfglmeiglaaGreatDoor
