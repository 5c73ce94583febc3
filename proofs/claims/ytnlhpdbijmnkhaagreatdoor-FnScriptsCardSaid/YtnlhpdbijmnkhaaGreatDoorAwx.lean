/- Awx -/
import Derived.Test.YtnlhpdbijmnkhaaGreatDoorAvEnv
import Derived.Test.YtnlhpdbijmnkhaaGreatDoorJ03
set_option linter.unusedVariables false
set_option linter.unusedSimpArgs false
set_option maxRecDepth 100000
namespace Go.Proofs.YtnlhpdbijmnkhaaGreatDoor
open Go.RowKit
theorem awx{p q:Prop}(h:q)(e:q->p:=by first|exact λh=>aw1 h|exact λh=>aw2 h|exact λh=>aw3 h|exact λh=>aw4 h|exact λh=>aw5 h|exact λh=>aw6 h|exact λh=>aw7 h|exact λh=>aw8 h|exact λh=>bT h|exact λh=>bF h):p:=e h
end Go.Proofs.YtnlhpdbijmnkhaaGreatDoor
