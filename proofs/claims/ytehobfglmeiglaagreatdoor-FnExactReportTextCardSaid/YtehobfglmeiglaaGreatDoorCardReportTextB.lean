/- CardReportTextB -/
import Derived.Test.YtehobfglmeiglaaGreatDoorCardReportTextA
namespace Go.Proofs.YtehobfglmeiglaaGreatDoor.lawReportText
open Go
set_option maxRecDepth 100000 in
theorem AK:Rows.fnExactReportTextCard.stood.looks=Tryz.prog.looks []:=by kernel_rfl
set_option maxRecDepth 100000 in
theorem CH:Tryz.pinned.checked.prog.mainIs=some (Rows.fnExactReportTextCard.stood.harness.1,Rows.fnExactReportTextCard.stood.harness.2.toList):=by kernel_rfl
theorem AL:Tryz.prog.wantsStandIn 65=false:=by kernel_rfl
end Go.Proofs.YtehobfglmeiglaaGreatDoor.lawReportText
