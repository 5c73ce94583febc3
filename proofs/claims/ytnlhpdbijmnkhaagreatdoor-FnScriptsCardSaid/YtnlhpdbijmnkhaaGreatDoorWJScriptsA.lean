/- WJScriptsA -/
import Derived.Test.YtnlhpdbijmnkhaaGreatDoorLaw
set_option linter.unusedVariables false
set_option linter.unusedSimpArgs false
set_option maxRecDepth 100000
namespace Go.Proofs.YtnlhpdbijmnkhaaGreatDoor
open Go.ChangeShapes Go.WideShapes Go.RowKit
set_option maxRecDepth 100000 in
theorem mN:Tryz.checked.prog.inPlace 3=Rows.fnScriptsRow.inPlace:=by kernel_rfl
set_option maxRecDepth 100000 in
theorem kq:Tryz.checked.prog.unfollowed 3=Rows.fnScriptsRow.unfollowed:=by kernel_rfl
set_option maxRecDepth 100000 in
theorem mf:Tryz.checked.prog.recurses 3=Rows.fnScriptsRow.recurses:=by kernel_rfl
set_option maxRecDepth 100000 in
theorem k7:Tryz.checked.prog.varsNamed 3=Rows.fnScriptsRow.named:=by kernel_rfl
end Go.Proofs.YtnlhpdbijmnkhaaGreatDoor
