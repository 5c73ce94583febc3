/- RA2 -/
import Derived.Test.YtknefkdcokgpbaaGreatWC2
set_option maxHeartbeats 8000000
set_option linter.unusedVariables false
set_option linter.unusedSimpArgs false
set_option maxRecDepth 100000
namespace Go.Proofs.YtknefkdcokgpbaaGreat
open Go.Proofs.Tryz
open Go.ChangeShapes Go.WideShapes Go.RowKit
theorem Q4(o:DOp)(h:v7 o=true):aM av 347 [.agg o.ds] (.val (.one (.sl ((opL o).map eI)))):=by
 have n1:(!v7 o)=false:=by rw[h];rfl
 refine pO func347 call347 ntmps347 results347 λS=>?_;conv=>whnf
 repeat'(first|refine awz ?_|(refine cP (lx o) ?_;conv=>whnf)|exact rZ|fail)
end Go.Proofs.YtknefkdcokgpbaaGreat
