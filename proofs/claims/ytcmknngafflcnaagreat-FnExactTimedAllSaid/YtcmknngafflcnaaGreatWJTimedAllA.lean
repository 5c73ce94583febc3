/- WJTimedAllA -/
import Derived.Test.YtcmknngafflcnaaGreatLaw
set_option linter.unusedVariables false
set_option linter.unusedSimpArgs false
set_option maxRecDepth 100000
namespace Go.Proofs.YtcmknngafflcnaaGreat
open Go.ChangeShapes Go.WideShapes Go.RowKit
set_option maxRecDepth 100000 in
theorem pm : Tryz.checked.prog.inPlace 4 = Rows.fnExactTimedAllRow.inPlace := by kernel_rfl
set_option maxRecDepth 100000 in
theorem k7 : Tryz.checked.prog.unfollowed 4 = Rows.fnExactTimedAllRow.unfollowed := by kernel_rfl
set_option maxRecDepth 100000 in
theorem nR : Tryz.checked.prog.recurses 4 = Rows.fnExactTimedAllRow.recurses := by kernel_rfl
set_option maxRecDepth 100000 in
theorem mR : Tryz.checked.prog.varsNamed 4 = Rows.fnExactTimedAllRow.named := by kernel_rfl
end Go.Proofs.YtcmknngafflcnaaGreat
