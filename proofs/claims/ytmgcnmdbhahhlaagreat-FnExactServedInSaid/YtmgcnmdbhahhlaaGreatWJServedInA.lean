/- Facts of the call graph, by the kernel: apart, since they want much memory. -/
import Derived.Test.YtmgcnmdbhahhlaaGreatLaw
set_option linter.unusedVariables false
set_option linter.unusedSimpArgs false
set_option maxRecDepth 100000
namespace Go.Proofs.YtmgcnmdbhahhlaaGreat
open Go.ChangeShapes Go.WideShapes Go.RowKit
set_option maxRecDepth 100000 in
theorem jf_inPlace_ServedIn : Tryz.checked.prog.inPlace 8 = Rows.fnExactServedInRow.inPlace := by kernel_rfl
set_option maxRecDepth 100000 in
theorem jf_unfollowed_ServedIn : Tryz.checked.prog.unfollowed 8 = Rows.fnExactServedInRow.unfollowed := by kernel_rfl
set_option maxRecDepth 100000 in
theorem jf_recurses_ServedIn : Tryz.checked.prog.recurses 8 = Rows.fnExactServedInRow.recurses := by kernel_rfl
set_option maxRecDepth 100000 in
theorem jf_varsNamed_ServedIn : Tryz.checked.prog.varsNamed 8 = Rows.fnExactServedInRow.named := by kernel_rfl
end Go.Proofs.YtmgcnmdbhahhlaaGreat
