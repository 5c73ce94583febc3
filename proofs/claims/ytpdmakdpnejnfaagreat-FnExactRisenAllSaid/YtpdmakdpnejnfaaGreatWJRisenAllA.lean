/- WJRisenAllA -/
import Derived.Test.YtpdmakdpnejnfaaGreatK31
set_option maxHeartbeats 8000000
set_option linter.unusedVariables false
set_option linter.unusedSimpArgs false
set_option maxRecDepth 100000
namespace Go.Proofs.YtpdmakdpnejnfaaGreat
open Go.ChangeShapes Go.WideShapes Go.RowKit
theorem wg:Tryz.checked.prog.inPlace 3=Rows.fnExactRisenAllRow.inPlace:=by kernel_rfl
theorem rm:Tryz.checked.prog.unfollowed 3=Rows.fnExactRisenAllRow.unfollowed:=by kernel_rfl
theorem uB:Tryz.checked.prog.recurses 3=Rows.fnExactRisenAllRow.recurses:=by kernel_rfl
theorem tA:Tryz.checked.prog.varsNamed 3=Rows.fnExactRisenAllRow.named:=by kernel_rfl
end Go.Proofs.YtpdmakdpnejnfaaGreat
