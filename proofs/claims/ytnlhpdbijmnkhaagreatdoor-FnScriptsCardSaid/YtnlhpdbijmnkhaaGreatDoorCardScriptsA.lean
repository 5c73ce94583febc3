/- CardScriptsA -/
import Derived.Test.YtnlhpdbijmnkhaaGreatDoorLawScripts
namespace Go.Proofs.YtnlhpdbijmnkhaaGreatDoor.lawScripts
open Go
set_option maxRecDepth 100000 in
theorem Ad:false=Rows.fnScriptsRow.goesBy Tryz.pinned.checked.prog:=by kernel_rfl
end Go.Proofs.YtnlhpdbijmnkhaaGreatDoor.lawScripts
