/- One step of a walk: whichever of the steps fits (short texts). -/
import Derived.Test.YtmgcnmdbhahhlaaGreatAvEnv
import Derived.Test.YtmgcnmdbhahhlaaGreatJ03
set_option linter.unusedVariables false
set_option linter.unusedSimpArgs false
set_option maxRecDepth 100000
namespace Go.Proofs.YtmgcnmdbhahhlaaGreat
open Go.RowKit
abbrev iv (n : Int) : Value := .int .i64 n
theorem awx {p q : Prop} (h : q) (e : q → p := by first | exact fun h => aw1 h | exact fun h => aw2 h | exact fun h => aw3 h | exact fun h => aw4 h | exact fun h => aw5 h | exact fun h => aw6 h | exact fun h => aw7 h | exact fun h => aw8 h | exact fun h => bT h | exact fun h => bF h) : p := e h
abbrev pF (f : FuncId) : List AD := [.pv (.func (.func f) #[] #[])]
end Go.Proofs.YtmgcnmdbhahhlaaGreat
