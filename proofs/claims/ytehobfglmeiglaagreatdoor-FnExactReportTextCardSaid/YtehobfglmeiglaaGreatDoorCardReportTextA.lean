/- CardReportTextA -/
import Derived.Test.YtehobfglmeiglaaGreatDoorLawReportText
namespace Go.Proofs.YtehobfglmeiglaaGreatDoor.lawReportText
open Go
set_option maxRecDepth 100000 in
theorem CG:false=Rows.fnExactReportTextRow.goesBy Tryz.pinned.checked.prog:=by kernel_rfl
end Go.Proofs.YtehobfglmeiglaaGreatDoor.lawReportText
