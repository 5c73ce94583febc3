/- Facts of the call graph, by the kernel: apart, since they want much memory. -/
import Derived.Test.YthmckpghadfeeaaGreatLaw
set_option linter.unusedVariables false
set_option linter.unusedSimpArgs false
set_option maxRecDepth 100000
namespace Go.Proofs.YthmckpghadfeeaaGreat
open Go.ChangeShapes Go.WideShapes Go.RowKit
set_option maxRecDepth 100000 in
theorem jf_inPlace_BehindOf : Tryz.checked.prog.inPlace 4 = Rows.fnExactBehindOfRow.inPlace := by kernel_rfl
set_option maxRecDepth 100000 in
theorem jf_unfollowed_BehindOf : Tryz.checked.prog.unfollowed 4 = Rows.fnExactBehindOfRow.unfollowed := by kernel_rfl
set_option maxRecDepth 100000 in
theorem jf_recurses_BehindOf : Tryz.checked.prog.recurses 4 = Rows.fnExactBehindOfRow.recurses := by kernel_rfl
set_option maxRecDepth 100000 in
theorem jf_varsNamed_BehindOf : Tryz.checked.prog.varsNamed 4 = Rows.fnExactBehindOfRow.named := by kernel_rfl
end Go.Proofs.YthmckpghadfeeaaGreat
