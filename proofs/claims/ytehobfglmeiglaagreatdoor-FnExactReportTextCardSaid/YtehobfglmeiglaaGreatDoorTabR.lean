/- TabR -/
import Derived.Test.YtehobfglmeiglaaGreatDoorText1
set_option linter.unusedVariables false
set_option linter.unusedSimpArgs false
set_option maxRecDepth 100000
namespace Go.Proofs.YtehobfglmeiglaaGreatDoor
open Go.RowKit
def Cn(w:World):Prop:=Tab w/\True
theorem Cn.below{w w':World}(h:Cn w)(hb:Below w.heap.size w w'):Cn w':=⟨h.1.below hb,trivial⟩
end Go.Proofs.YtehobfglmeiglaaGreatDoor
