/- CardScriptsB -/
import Derived.Test.YtnlhpdbijmnkhaaGreatDoorCardScriptsA
namespace Go.Proofs.YtnlhpdbijmnkhaaGreatDoor.lawScripts
open Go
set_option maxRecDepth 100000 in
theorem yo:Rows.fnScriptsCard.stood.looks=Tryz.prog.looks []:=by kernel_rfl
set_option maxRecDepth 100000 in
theorem Aj:Tryz.pinned.checked.prog.mainIs=some (Rows.fnScriptsCard.stood.harness.1,Rows.fnScriptsCard.stood.harness.2.toList):=by kernel_rfl
theorem yp:Tryz.prog.wantsStandIn 22=false:=by kernel_rfl
end Go.Proofs.YtnlhpdbijmnkhaaGreatDoor.lawScripts
