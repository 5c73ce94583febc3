/- Awx -/
import Derived.Test.YtcmknngafflcnaaGreatAvEnv
import Derived.Test.YtcmknngafflcnaaGreatJ03
set_option linter.unusedVariables false
set_option linter.unusedSimpArgs false
set_option maxRecDepth 100000
namespace Go.Proofs.YtcmknngafflcnaaGreat
open Go.RowKit
abbrev iv (n : Int) : Value := .int .i64 n
theorem awx {p q : Prop} (h : q) (e : q → p := by first | exact fun h => aw1 h | exact fun h => aw2 h | exact fun h => aw3 h | exact fun h => aw4 h | exact fun h => aw5 h | exact fun h => aw6 h | exact fun h => aw7 h | exact fun h => aw8 h | exact fun h => bT h | exact fun h => bF h) : p := e h
end Go.Proofs.YtcmknngafflcnaaGreat
