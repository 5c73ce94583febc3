/- WJRisenAll -/
import Derived.Test.YtpdmakdpnejnfaaGreatWJRisenAllA
set_option maxHeartbeats 8000000
set_option linter.unusedVariables false
set_option linter.unusedSimpArgs false
set_option maxRecDepth 100000
namespace Go.Proofs.YtpdmakdpnejnfaaGreat
open Go.ChangeShapes Go.WideShapes Go.RowKit
theorem uA:Tryz.checked.prog.mayEnter=true:=by kernel_rfl
theorem rj:Tryz.checked.prog.liftsFinal=Rows.fnExactRisenAllRow.lifted:=by kernel_rfl
theorem zh:Tryz.checked.prog.make=some Rows.fnExactRisenAllRow.make:=by kernel_rfl
theorem Bc:joinedFacts Tryz.checked.prog 3 Tryz.f3 Rows.fnExactRisenAllSpec Rows.fnExactRisenAllRow=true:=by
 unfold joinedFacts;rw[wg,rm,uB,tA,uA,rj,zh];kernel_rfl
end Go.Proofs.YtpdmakdpnejnfaaGreat
