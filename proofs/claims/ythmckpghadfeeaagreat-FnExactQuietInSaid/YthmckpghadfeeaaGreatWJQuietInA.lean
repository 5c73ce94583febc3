/- Facts of the call graph, by the kernel: apart, since they want much memory. -/
import Derived.Test.YthmckpghadfeeaaGreatLaw
set_option linter.unusedVariables false
set_option linter.unusedSimpArgs false
set_option maxRecDepth 100000
namespace Go.Proofs.YthmckpghadfeeaaGreat
open Go.ChangeShapes Go.WideShapes Go.RowKit
set_option maxRecDepth 100000 in
theorem jf_inPlace_QuietIn : Tryz.checked.prog.inPlace 5 = Rows.fnExactQuietInRow.inPlace := by kernel_rfl
set_option maxRecDepth 100000 in
theorem jf_unfollowed_QuietIn : Tryz.checked.prog.unfollowed 5 = Rows.fnExactQuietInRow.unfollowed := by kernel_rfl
set_option maxRecDepth 100000 in
theorem jf_recurses_QuietIn : Tryz.checked.prog.recurses 5 = Rows.fnExactQuietInRow.recurses := by kernel_rfl
set_option maxRecDepth 100000 in
theorem jf_varsNamed_QuietIn : Tryz.checked.prog.varsNamed 5 = Rows.fnExactQuietInRow.named := by kernel_rfl
end Go.Proofs.YthmckpghadfeeaaGreat
