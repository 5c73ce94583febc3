/- Facts of the call graph, by the kernel: apart, since they want much memory. -/
import Derived.Test.YthmckpghadfeeaaGreatLaw
set_option linter.unusedVariables false
set_option linter.unusedSimpArgs false
set_option maxRecDepth 100000
namespace Go.Proofs.YthmckpghadfeeaaGreat
open Go.ChangeShapes Go.WideShapes Go.RowKit
set_option maxRecDepth 100000 in
theorem jf_inPlace_UndoneOf : Tryz.checked.prog.inPlace 3 = Rows.fnExactUndoneOfRow.inPlace := by kernel_rfl
set_option maxRecDepth 100000 in
theorem jf_unfollowed_UndoneOf : Tryz.checked.prog.unfollowed 3 = Rows.fnExactUndoneOfRow.unfollowed := by kernel_rfl
set_option maxRecDepth 100000 in
theorem jf_recurses_UndoneOf : Tryz.checked.prog.recurses 3 = Rows.fnExactUndoneOfRow.recurses := by kernel_rfl
set_option maxRecDepth 100000 in
theorem jf_varsNamed_UndoneOf : Tryz.checked.prog.varsNamed 3 = Rows.fnExactUndoneOfRow.named := by kernel_rfl
end Go.Proofs.YthmckpghadfeeaaGreat
