/- WJTimedAll -/
import Derived.Test.YtcmknngafflcnaaGreatWJTimedAllA
set_option linter.unusedVariables false
set_option linter.unusedSimpArgs false
set_option maxRecDepth 100000
namespace Go.Proofs.YtcmknngafflcnaaGreat
open Go.ChangeShapes Go.WideShapes Go.RowKit
set_option maxRecDepth 100000 in
theorem nQ : Tryz.checked.prog.mayEnter = true := by kernel_rfl
set_option maxRecDepth 100000 in
theorem k6 : Tryz.checked.prog.liftsFinal = Rows.fnExactTimedAllRow.lifted := by kernel_rfl
set_option maxRecDepth 100000 in
theorem rC : Tryz.checked.prog.make = some Rows.fnExactTimedAllRow.make := by kernel_rfl
set_option maxRecDepth 100000 in
theorem sU : joinedFacts Tryz.checked.prog 4 Tryz.f4 Rows.fnExactTimedAllSpec Rows.fnExactTimedAllRow = true := by
 unfold joinedFacts
 rw [pm, k7, nR, mR, nQ, k6, rC]
 kernel_rfl
end Go.Proofs.YtcmknngafflcnaaGreat
