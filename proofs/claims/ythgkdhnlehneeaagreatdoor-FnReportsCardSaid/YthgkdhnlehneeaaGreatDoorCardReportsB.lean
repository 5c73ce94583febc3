/- CardReportsB -/
import Derived.Test.YthgkdhnlehneeaaGreatDoorCardReportsA
set_option maxHeartbeats 8000000
namespace Go.Proofs.YthgkdhnlehneeaaGreatDoor.lawReports
open Go
set_option maxRecDepth 100000 in
theorem NW:Rows.fnReportsCard.stood.looks=Tryz.prog.looks []:=by kernel_rfl
set_option maxRecDepth 100000 in
theorem Rd:Tryz.pinned.checked.prog.mainIs=some (Rows.fnReportsCard.stood.harness.1,Rows.fnReportsCard.stood.harness.2.toList):=by kernel_rfl
theorem NX:Tryz.prog.wantsStandIn 22=false:=by kernel_rfl
end Go.Proofs.YthgkdhnlehneeaaGreatDoor.lawReports
