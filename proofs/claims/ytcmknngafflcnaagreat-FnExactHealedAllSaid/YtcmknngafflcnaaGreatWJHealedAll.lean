/- WJHealedAll -/
import Derived.Test.YtcmknngafflcnaaGreatWJHealedAllA
set_option linter.unusedVariables false
set_option linter.unusedSimpArgs false
set_option maxRecDepth 100000
namespace Go.Proofs.YtcmknngafflcnaaGreat
open Go.ChangeShapes Go.WideShapes Go.RowKit
set_option maxRecDepth 100000 in
theorem mP : Tryz.checked.prog.mayEnter = true := by kernel_rfl
set_option maxRecDepth 100000 in
theorem jW : Tryz.checked.prog.liftsFinal = Rows.fnExactHealedAllRow.lifted := by kernel_rfl
set_option maxRecDepth 100000 in
theorem qU : Tryz.checked.prog.make = some Rows.fnExactHealedAllRow.make := by kernel_rfl
set_option maxRecDepth 100000 in
theorem rz : joinedFacts Tryz.checked.prog 3 Tryz.f3 Rows.fnExactHealedAllSpec Rows.fnExactHealedAllRow = true := by
 unfold joinedFacts
 rw [nP, jX, mQ, k8, mP, jW, qU]
 kernel_rfl
end Go.Proofs.YtcmknngafflcnaaGreat
