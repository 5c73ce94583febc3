/- WJScriptsA -/
import Derived.Test.YtnlhpdbijmnkhaaGreatDoorLaw
set_option linter.unusedVariables false
set_option linter.unusedSimpArgs false
set_option maxRecDepth 100000
namespace Go.Proofs.YtnlhpdbijmnkhaaGreatDoor
open Go.ChangeShapes Go.WideShapes Go.RowKit
set_option maxRecDepth 100000 in
theorem mM:Tryz.checked.prog.inPlace 3=Rows.fnScriptsRow.inPlace:=by kernel_rfl
set_option maxRecDepth 100000 in
theorem kp:Tryz.checked.prog.unfollowed 3=Rows.fnScriptsRow.unfollowed:=by kernel_rfl
set_option maxRecDepth 100000 in
theorem me:Tryz.checked.prog.recurses 3=Rows.fnScriptsRow.recurses:=by kernel_rfl
set_option maxRecDepth 100000 in
theorem k6:Tryz.checked.prog.varsNamed 3=Rows.fnScriptsRow.named:=by kernel_rfl
end Go.Proofs.YtnlhpdbijmnkhaaGreatDoor
