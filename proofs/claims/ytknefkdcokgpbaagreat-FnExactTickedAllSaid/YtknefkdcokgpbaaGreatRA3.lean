/- RA3 -/
import Derived.Test.YtknefkdcokgpbaaGreatRA2
import Derived.Test.YtknefkdcokgpbaaGreatAvVC
import Derived.Test.YtknefkdcokgpbaaGreatWB4
import Derived.Test.YtknefkdcokgpbaaGreatAvFX
set_option maxHeartbeats 8000000
set_option linter.unusedVariables false
set_option linter.unusedSimpArgs false
set_option maxRecDepth 100000
namespace Go.Proofs.YtknefkdcokgpbaaGreat
open Go.ChangeShapes Go.WideShapes Go.RowKit
open Go.Proofs.Tryz
def me:List (List Nat):=bZ [0,1,0,3,258,0,6,7,33285,0x9207185103081249]
theorem Q3(a:vw):aM av 346 [.agg a.ds] (rB (wA a)):=by
 refine pO func346 call346 ntmps346 results346 λS=>?_;conv=>whnf
 repeat'((first|refine awz ?_|refine cP (fk _) ?_|refine cP (iu _) ?_|refine cP (lx a.op) ?_|refine tW ?_ ?_|intro h)<;>conv=>whnf)
 all_goals simp_all[wA]
theorem QZ(a:DAck):aM av 335 [.agg a.ds] (rB (hH a)):=by
 refine pO func335 call335 ntmps335 results335 λS=>?_;conv=>whnf
 repeat'((first|refine awz ?_|refine cP (fk _) ?_|refine cP (iu _) ?_|refine cP (lq _) ?_|refine cP (bg _ _ _) ?_|refine tW ?_ ?_|intro h)<;>conv=>whnf)
 all_goals first
  |(simp_all[hH];done)
  |(simp_all[hH];intro h2;exfalso;omega)
theorem OC(a:rM):aM av 348 [.agg a.ds] (rB (nZ a)):=by
 refine pO func348 call348 ntmps348 results348 λS=>?_;conv=>whnf
 repeat'((first|refine awz ?_|refine cP (fk _) ?_|refine cP (iu _) ?_|refine cP (pB _) ?_|refine cP (bg _ _ _) ?_|refine tW ?_ ?_|intro h)<;>conv=>whnf)
 all_goals simp_all[nZ]
end Go.Proofs.YtknefkdcokgpbaaGreat
