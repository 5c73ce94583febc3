/- CardScriptsB -/
import Derived.Test.YtnlhpdbijmnkhaaGreatDoorCardScriptsA
namespace Go.Proofs.YtnlhpdbijmnkhaaGreatDoor.lawScripts
open Go
set_option maxRecDepth 100000 in
theorem yj:Rows.fnScriptsCard.stood.looks=Tryz.prog.looks []:=by kernel_rfl
set_option maxRecDepth 100000 in
theorem Ae:Tryz.pinned.checked.prog.mainIs=some (Rows.fnScriptsCard.stood.harness.1,Rows.fnScriptsCard.stood.harness.2.toList):=by kernel_rfl
theorem yk:Tryz.prog.wantsStandIn 22=false:=by kernel_rfl
end Go.Proofs.YtnlhpdbijmnkhaaGreatDoor.lawScripts
