/- TB -/
import Derived.Test.YtknefkdcokgpbaaGreatAvNS
import Derived.Test.YtknefkdcokgpbaaGreatIW1
import Derived.Test.YtknefkdcokgpbaaGreatIW5
set_option maxHeartbeats 8000000
set_option linter.unusedVariables false
set_option linter.unusedSimpArgs false
set_option maxRecDepth 100000
namespace Go.Proofs.YtknefkdcokgpbaaGreat
open Go.Proofs.Tryz
open Go.ChangeShapes Go.WideShapes Go.RowKit
theorem Ai.pcall{E:bB}{f:FuncId}{args:List AP1}{α:Type}{Q:α->Prop}{r:α->AP}{res:AP}(hc:Ai E f args Q r)(h:∀y,Q y->r y=res):aM E f args res:=
 ⟨hc.enter,λZ w us h1 h2 h3 h4=>(hc.run Z w us h1 h2 h3 h4).mono λ_ _ ⟨y,v,Z',hQ,h5,h6,h7,h8,h9⟩=>⟨v,Z',h5,h6,h7,h8,h y hQ▸h9⟩⟩
theorem yn(kind x lo hi:Int):aM av 250 [pI kind,pI x,pI lo,pI hi] (.val (.one (.sl ((dX kind x lo hi).map eI)))):=by
 have c1:=bg x lo hi;unfold dX;cases h:aK x lo hi<;>rw[h]at c1<;>(refine pO func250 call250 ntmps250 results250 λS=>?_;conv=>whnf)<;>repeat'(first|refine awz ?_|(refine XZ ai rfl ?_;conv=>whnf)|exact rZ|fail)
theorem J1(x:Int):aM av 149 [pI x] (.val (.one (.sl ((dX 3 x 1 2001).map eI)))):=by
 have c1:=yn 3 x 1 2001;refine pO func149 call149 ntmps149 results149 λS=>?_;conv=>whnf
 repeat'(first|refine awz ?_|(refine XZ ai rfl ?_;conv=>whnf)|exact rZ|fail)
theorem Mf(x:Int):aM av 152 [pI x] (.val (.one (.sl ((dX 5 x 1 2000).map eI)))):=by
 have c1:=yn 5 x 1 2000;refine pO func152 call152 ntmps152 results152 λS=>?_;conv=>whnf
 repeat'(first|refine awz ?_|(refine XZ ai rfl ?_;conv=>whnf)|exact rZ|fail)
theorem Ma(x:Int):aM av 262 [pI x] (.val (.one (.sl ((dX 8 x 2 3).map eI)))):=by
 have c1:=yn 8 x 2 3;refine pO func262 call262 ntmps262 results262 λS=>?_;conv=>whnf
 repeat'(first|refine awz ?_|(refine XZ ai rfl ?_;conv=>whnf)|exact rZ|fail)
theorem Oz(a:DAck):aM av 249 [.agg a.ds] (.val (.one (.sl ((ox a).map eI)))):=by
 have c1:=QZ a;unfold ox;cases h:hH a<;>rw[h]at c1<;>(refine pO func249 call249 ntmps249 results249 λS=>?_;conv=>whnf)<;>repeat'(first|refine awz ?_|(refine XZ ai rfl ?_;conv=>whnf)|exact rZ|fail)
theorem Mb(a:rM):aM av 266 [.agg a.ds] (.val (.one (.sl ((n9 a).map eI)))):=by
 have c1:=OC a;unfold n9;cases h:nZ a<;>rw[h]at c1<;>(refine pO func266 call266 ntmps266 results266 λS=>?_;conv=>whnf)<;>repeat'(first|refine awz ?_|(refine XZ ai rfl ?_;conv=>whnf)|exact rZ|fail)
theorem Fw(a:vw):aM av 264 [.agg a.ds] (.val (.one (.sl ((pV a).map eI)))):=by
 have c1:=Q3 a;unfold pV;cases ho:wA a with
 |false=>
  rw[ho]at c1;refine pO func264 call264 ntmps264 results264 λS=>?_;conv=>whnf
  repeat'(first|refine awz ?_|(refine XZ ai rfl ?_;conv=>whnf)|exact rZ|fail)
 |true=>
  rw[ho]at c1;have ho2:v7 a.op=true:=by simp only[wA,Bool.and_eq_true]at ho;exact ho.2
  have c2:=Q4 a.op ho2;refine pO func264 call264 ntmps264 results264 λS=>?_;conv=>whnf
  repeat'(first|refine awz ?_|(refine XZ ai rfl ?_;conv=>whnf)|fail)
  (refine X7 aN 3 (tkc [0,1,2,3,5,6] (.two 4 (.one 7 (.one 8 (.take 9 .done))) 7 (.one 4 (.one 8 (.take 9 .done))))) [(1,9980)] me ae ae ae ae (λRz=>?_);(conv=>whnf);intro bp0 up0;(conv=>whnf))
  repeat'((first|refine aJ (by simp[opL]) ?_|refine awz ?_|refine XZ ai rfl ?_|refine aI (by first|(intro y hy;obtain⟨a,_,rfl⟩:=List.mem_map.1 hy;rfl)|(simp;done)) ?_|exact rZ|refine tW ?_ ?_|fail)<;>conv=>whnf)
theorem Nf(n:DNet)(m:DMsg)(hn:fd n=true)(hm:fM m=true)(hr:m.row.length<=1048576)(hl:n.flight.length≠60):aM av 248 [.agg n.ds,.agg m.ds] (.tup [.agg (it n m).ds,.one (dB true)]):=by
 have e:it n m=⟨n.flight++[m],n.cuts⟩:=by simp[it,hm,hl]
 rw[e];exact d5.data (SH n m hn hm (nW hn) hr hl) rfl rfl
theorem ny{n:DNet}{m:DMsg}(h:fM m=false\/n.flight.length=60):it n m=n:=by
 unfold it;rw[if_neg];rcases h with h|h<;>simp[h]
theorem L5(l:List DAck)(hl:l.length<=60):aM av 147 [.one (.sl (l.map DAck.ds))] (.val (.one (.sl ((fI l).map DMsg.ds)))):=by
 refine pO func147 call147 ntmps147 results147 λS=>?_;conv=>whnf
 repeat'(first|refine awz ?_|fail)
 refine X5 (λk:Nat=>k<=l.length) (6::[3,4,5,7,8,9,10,11,12,13,14,15,16,17,18,19,20,21,22,23,24,25,26,27,28,29,30,31,32,33,34,35]) (λk=>[(3,.one (.own 6)),(4,vI .i64 (k:Int))]) (λk=>[(6,.row 216 3 ((fI (l.take k)).map DMsg.ds))]) (λk=>l.length-k) 0 (Nat.zero_le _) ?_ sbW (λk hk=>?_)<;>(conv=>whnf)
 ·exact whd
 ·by_cases hlt:k<l.length
  ·have hc:decide ((k:Int)<((l.map DAck.ds).length:Int))=true:=al;have h60:=r4 (l.take k);rw[List.length_take,Nat.min_eq_left hk]at h60;have q:decide ((((fI (l.take k)).map DMsg.ds).length:Int)<60)=true:=al;have c1:=Oz l[k];have es:=wy hlt;unfold ox at c1;cases ho:hH l[k]with
   |false=>
    rw[ho]at c1 es;rw[if_neg aj,List.append_nil]at es;repeat'((first|refine Yg hlt ?_|refine awz ?_|refine XZ ai rfl ?_|refine X3 ac ac ?_|fail)<;>conv=>whnf)
    all_goals
     refine bd.mk ⟨k+1,hlt,ac,?_,X0 (by rw[es];rfl) X4⟩;exact hds
   |true=>
    rw[ho]at c1 es;rw[if_pos rfl]at es;repeat'((first|refine Yg hlt ?_|refine awz ?_|refine XZ ai rfl ?_|refine X3 ac ac ?_|refine aJ ao ?_|fail)<;>conv=>whnf)
    all_goals
     refine bd.mk ⟨k+1,hlt,ac,?_,X0 (by rw[es,List.map_append,K2,ox,ho];rfl) X4⟩;exact hds
  ·have e:k=l.length:=ac;subst e;have hc:decide ((l.length:Int)<((l.map DAck.ds).length:Int))=false:=aj;rw[List.take_length];repeat'(first|refine awz ?_|exact rZ|fail)
theorem FB(c:DClient)(h:KJ c):aM av 156 [.agg c.ds] (.val (.one (.sl ((fQ c).map DMsg.ds)))):=by
 have hg:=h.gl;have h12:=h.len;unfold fQ;by_cases e:c.gots.length=c.todo.length
 ·have c1:=L8 c h e;rw[List.getElem?_eq_none ac];refine pO func156 call156 ntmps156 results156 λS=>?_;conv=>whnf
  repeat'(first|refine awz ?_|(refine XZ ai rfl ?_;conv=>whnf)|exact rZ|fail)
 ·have hlt:c.gots.length<c.todo.length:=ac;have c1:=L9 c h hlt;have q0:((c.gots.length:Int)+1==0)=false:=al;have gu:(c.todo.map DWant.ds)[c.gots.length]? =some (DWant.ds c.todo[c.gots.length]):=by rw[List.getElem?_map,List.getElem?_eq_getElem hlt];rfl
  rw[List.getElem?_eq_getElem hlt];generalize c.todo[c.gots.length]=w at gu;have c2:=Mb ⟨c.id,(c.gots.length:Int)+1,w.key,c.last⟩;have c3:=Fw ⟨c.id,(c.gots.length:Int)+1,w.op⟩;simp only;by_cases hk:w.kind=4
  ·have q:(w.kind==4)=true:=by simpa using hk
   rw[if_pos hk];refine pO func156 call156 ntmps156 results156 λS=>?_;conv=>whnf
   repeat'((first|refine X8 c.gots.length _ ac gu ?_|refine awz ?_|refine XZ ai rfl ?_|refine X3 ac ac ?_|fail)<;>conv=>whnf)
   (refine X7 aN 6 (tkc [0,1,2,3,4,5,6,7,8] (onc [9,10,11,12] (.take 13 .done))) [(1,9980),(4,9981)] mf ae ae ae ae (λRz=>?_);(conv=>whnf);intro bp0 up0;(conv=>whnf);intro bp1 up1;(conv=>whnf))
   repeat'(first|refine awz ?_|(refine XZ ai rfl ?_;conv=>whnf)|exact rZ|fail)
  ·have q:(w.kind==4)=false:=by simpa using hk
   rw[if_neg hk];refine pO func156 call156 ntmps156 results156 λS=>?_;conv=>whnf
   repeat'((first|refine X8 c.gots.length _ ac gu ?_|refine awz ?_|refine XZ ai rfl ?_|refine X3 ac ac ?_|fail)<;>conv=>whnf)
   (refine X7 aN 7 (tkc [0,1,2,3,4,5,6] (onc [7,8,9,10] (.take 11 .done))) [(1,9980),(4,9981)] mg ae ae ae ae (λRz=>?_);(conv=>whnf);intro bp0 up0;(conv=>whnf);intro bp1 up1;(conv=>whnf))
   repeat'(first|refine awz ?_|(refine XZ ai rfl ?_;conv=>whnf)|exact rZ|fail)
end Go.Proofs.YtknefkdcokgpbaaGreat
