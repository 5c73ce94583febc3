/- AvNS -/
import Derived.Test.YtknefkdcokgpbaaGreatAvQ
import Derived.Laws.Cover3
import Derived.Test.YtknefkdcokgpbaaGreatRA3
import Derived.Test.YtknefkdcokgpbaaGreatRA2
import Derived.Test.YtknefkdcokgpbaaGreatMkA
import Derived.Test.YtknefkdcokgpbaaGreatWC2
set_option maxHeartbeats 8000000
set_option linter.unusedVariables false
set_option linter.unusedSimpArgs false
set_option maxRecDepth 100000
namespace Go.Proofs.YtknefkdcokgpbaaGreat
section
open Go.RowKit
section
variable {E:bB}
end
end
open Go.ChangeShapes Go.WideShapes Go.RowKit
open Go.Proofs.Tryz
def mf:List (List Nat):=bZ [0,1,0,3,0,0,6,0,8,2388292,10,706,12,0xd30b2892071851030812cd]
def mg:List (List Nat):=bZ [0,1,0,3,0,0,6,28996,8,578,10,0xb28920718510308124b]
def Tt(l:List DMsg):Prop:=l.length<=60/\∀m∈l,m.row.length<=1000
theorem Tt.one{a b:Int}{r:List Int}(h:r.length<=1000):Tt [⟨a,b,r⟩]:=⟨by simp,λm hm=>by rw[List.mem_singleton.1 hm];exact h⟩
theorem L8(c:DClient)(h:KJ c)(e:c.gots.length=c.todo.length):aM av 265 [.agg c.ds] (.val (pI 0)):=by
 have h12:=h.len;have hg:=h.gl;have c1:=j3 c ac ac;rw[h.ok]at c1;have q:(((c.gots.map DGot.ds).length:Int)==((c.todo.map DWant.ds).length:Int))=true:=by simp[e]
 refine pO func265 call265 ntmps265 results265 λS=>?_;conv=>whnf
 repeat'(first|refine awz ?_|(refine cP (c1) ?_;conv=>whnf)|exact rZ|fail)
theorem L9(c:DClient)(h:KJ c)(e:c.gots.length<c.todo.length):aM av 265 [.agg c.ds] (.val (pI ((c.gots.length:Int)+1))):=by
 have h12:=h.len;have hg:=h.gl;have c1:=j3 c ac ac;rw[h.ok]at c1;have q:(((c.gots.map DGot.ds).length:Int)==((c.todo.map DWant.ds).length:Int))=false:=al;rw[show(c.gots.length:Int)+1=((c.gots.map DGot.ds).length:Int)+1 by rw[List.length_map]];refine pO func265 call265 ntmps265 results265 λS=>?_;conv=>whnf
 repeat'((first|refine awz ?_|refine cP (c1) ?_|refine X3 an an ?_|exact rZ|fail)<;>conv=>whnf)
end Go.Proofs.YtknefkdcokgpbaaGreat
