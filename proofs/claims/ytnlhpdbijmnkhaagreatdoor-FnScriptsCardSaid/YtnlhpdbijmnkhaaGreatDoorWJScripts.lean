/- WJScripts -/
import Derived.Test.YtnlhpdbijmnkhaaGreatDoorWJScriptsA
set_option linter.unusedVariables false
set_option linter.unusedSimpArgs false
set_option maxRecDepth 100000
namespace Go.Proofs.YtnlhpdbijmnkhaaGreatDoor
open Go.ChangeShapes Go.WideShapes Go.RowKit
set_option maxRecDepth 100000 in
theorem md:Tryz.checked.prog.mayEnter=true:=by kernel_rfl
set_option maxRecDepth 100000 in
theorem ko:Tryz.checked.prog.liftsFinal=Rows.fnScriptsRow.lifted:=by kernel_rfl
set_option maxRecDepth 100000 in
theorem pw:Tryz.checked.prog.make=some Rows.fnScriptsRow.make:=by kernel_rfl
set_option maxRecDepth 100000 in
theorem qP:joinedFacts Tryz.checked.prog 3 Tryz.f3 Rows.fnScriptsSpec Rows.fnScriptsRow=true:=by
 unfold joinedFacts
 rw[mM,kp,me,k6,md,ko,pw]
 kernel_rfl
end Go.Proofs.YtnlhpdbijmnkhaaGreatDoor
