/- WJHealedAllA -/
import Derived.Test.YtcmknngafflcnaaGreatLaw
set_option linter.unusedVariables false
set_option linter.unusedSimpArgs false
set_option maxRecDepth 100000
namespace Go.Proofs.YtcmknngafflcnaaGreat
open Go.ChangeShapes Go.WideShapes Go.RowKit
set_option maxRecDepth 100000 in
theorem nP : Tryz.checked.prog.inPlace 3 = Rows.fnExactHealedAllRow.inPlace := by kernel_rfl
set_option maxRecDepth 100000 in
theorem jX : Tryz.checked.prog.unfollowed 3 = Rows.fnExactHealedAllRow.unfollowed := by kernel_rfl
set_option maxRecDepth 100000 in
theorem mQ : Tryz.checked.prog.recurses 3 = Rows.fnExactHealedAllRow.recurses := by kernel_rfl
set_option maxRecDepth 100000 in
theorem k8 : Tryz.checked.prog.varsNamed 3 = Rows.fnExactHealedAllRow.named := by kernel_rfl
end Go.Proofs.YtcmknngafflcnaaGreat
