/- TD -/
import Derived.Test.YtknefkdcokgpbaaGreatTC2
import Derived.Test.YtknefkdcokgpbaaGreatTC
import Derived.Test.YtknefkdcokgpbaaGreatWCq
import Derived.Test.YtknefkdcokgpbaaGreatHe
import Derived.Test.YtknefkdcokgpbaaGreatIW3
import Derived.Test.YtknefkdcokgpbaaGreatWC2
import Derived.Test.YtknefkdcokgpbaaGreatIS2
import Derived.Test.YtknefkdcokgpbaaGreatMkE
import Derived.Test.YtknefkdcokgpbaaGreatIW5
set_option maxHeartbeats 16000000
set_option linter.unusedVariables false
set_option linter.unusedSimpArgs false
set_option maxRecDepth 100000
open Nat (le_of_ble_eq_true le_trans)
namespace Go.Proofs.YtknefkdcokgpbaaGreat
section
open Go.Proofs.Tryz
open Go.ChangeShapes Go.WideShapes Go.RowKit
def iO:List (List Nat):=bZ [0,1,0,0,259,5,386,7,8,8,0,0xb2481c61440c204724b,0x30b28920718510308130a]
def fZ:List (List Nat):=bZ [0,0,2,12481,4345827588]
def ka:List (List Nat):=bZ [0,0,2,3,260,20801,26736222278022]
def dv:List (List Nat):=bZ [0,0,2,3,16641,347943211333]
def j9:List (List Nat):=bZ [0,1,0,3,0,324,6,450,35671935824001,0x81c61440c2048209]
def gB(x:DWorld):DWorld:=if dN x then fi x 6 else tK
def Nb(l:List DMsg):Prop:=l.length<=60/\∀m∈l,m.row.length<=1048576
theorem nj{a b c d:Int}:(dX a b c d).length<=1000:=by unfold dX;split<;>simp
theorem K3{a:DAck}:(ox a).length<=1000:=by unfold ox;split<;>simp
theorem Bp{a:vw}:(pV a).length<=1000:=by unfold pV;split<;>simp[opL]
theorem JU{a:rM}:(n9 a).length<=1000:=by unfold n9;split<;>simp
theorem JZ{l:List DAck}(h:l.length<=60):Nb (fI l):=⟨Nat.le_trans (r4 l) h,λm hm=>by
 obtain⟨a,_,rfl⟩:=List.mem_map.1 hm;exact Nat.le_trans (K3 (a:=a)) ah⟩
theorem qx(s:DSched):Nb (fg s):=by
 unfold fg;have h1:=nj (a:=8) (b:=s.id) (c:=2) (d:=3);have h2:=Bp (a:=⟨s.id,s.seq,s.op⟩);split<;>refine⟨by simp,λm hm=>?_⟩<;>simp at hm
 ·rcases hm with rfl|rfl<;>simp only<;>omega
 ·subst hm;simp only;omega
theorem uq(c:DClient):Nb (fQ c):=by
 unfold fQ;split
 ·exact⟨by simp,by simp⟩
 ·rename_i w _;have h1:=JU (a:=⟨c.id,(c.gots.length:Int)+1,w.key,c.last⟩);have h2:=Bp (a:=⟨c.id,(c.gots.length:Int)+1,w.op⟩);split<;>refine⟨by simp,λm hm=>?_⟩<;>simp at hm<;>subst hm<;>simp only<;>omega
theorem nt(w:DWorld)(l:List DMsg)(hw:dN w=true)(hl:Nb l):aM av 146 [.agg w.ds,.one (.sl (l.map DMsg.ds))] (.val (.agg (DWorld.ds {w with net:=dA w.net l}))):=by
 have hs:=d6 hw;have f:=rK hw;have wo:=il w hs;rw[hw]at wo;have cc:=(nC w hs).pcall;have hlen:=hl.1;have q60:decide (((l.map DMsg.ds).length:Int)<=60)=true:=al;refine pO func146 call146 ntmps146 results146 λS=>?_;conv=>whnf
 repeat'(first|refine awz ?_|(refine XZ ai rfl ?_;conv=>whnf)|fail)
 refine X5 (λk:Nat=>k<=l.length) (14::[6,7,8,15,16,17,18,19,20,21,22,23,24,25,26,27,28,29,30,31,32,33,34,35,36,37,38]) (λk=>[(6,vI .i64 (k:Int))]) (λk=>[(2,.cells 105 (w.ds.map .d)),(4,.cells 105 (tK.ds.map λd=>match d with| .pv v=> .d (.pv v)|_=> .nil)),(5,.cells 105 ((DWorld.ds {w with net:=dA w.net (l.take k)}).map .d))]) (λk=>l.length-k) 0 (Nat.zero_le _) ?_ sbW (λk hk=>?_)<;>(conv=>whnf)
 ·exact whd
 ·by_cases hlt:k<l.length
  ·have hc:decide ((k:Int)<((l.map DMsg.ds).length:Int))=true:=al;have hr:l[k].row.length<=1048576:=hl.2 _ (List.getElem_mem hlt);have es:=zx (n:=w.net) hlt;have hn:=ln (l:=l.take k) f.net;generalize dA w.net (l.take k)=n at es hn;cases hm:fM l[k]with
   |false=>
    have c1:=Nd n l[k] hn hm;rw[ny (.inl hm)]at es;repeat'(first|refine awz ?_|fail)
    (refine X7 aN 7 (tkc [0,1,2,3,4,5] (.two 6 (tkc [7,8,9] (.one 10 (.one 11 (.take 12 .done)))) 10 (.one 6 (tkc [7,8,9] (.one 11 (.take 12 .done)))))) [(5,9980)] iO ae ae ae ae (λRz=>?_);(conv=>whnf);intro bp0 up0;(conv=>whnf))
    repeat'((first|refine Yg hlt ?_|refine awz ?_|refine XZ ai rfl ?_|refine X3 ac ac ?_|refine tW ?_ ?_|fail)<;>conv=>whnf)
    all_goals
     refine bd.mk ⟨k+1,hlt,ac,?_,X0 rfl (X0 rfl (X0 (by rw[es];rfl) X4))⟩;exact hds
   |true=>
    by_cases h60:n.flight.length=60
    ·have c1:=Ne n l[k] hn hm h60;rw[ny (.inr h60)]at es;repeat'(first|refine awz ?_|fail)
     (refine X7 aN 7 (tkc [0,1,2,3,4,5] (.two 6 (tkc [7,8,9] (.one 10 (.one 11 (.take 12 .done)))) 10 (.one 6 (tkc [7,8,9] (.one 11 (.take 12 .done)))))) [(5,9980)] iO ae ae ae ae (λRz=>?_);(conv=>whnf);intro bp0 up0;(conv=>whnf))
     repeat'((first|refine Yg hlt ?_|refine awz ?_|refine XZ ai rfl ?_|refine X3 ac ac ?_|refine tW ?_ ?_|fail)<;>conv=>whnf)
     all_goals
      refine bd.mk ⟨k+1,hlt,ac,?_,X0 rfl (X0 rfl (X0 (by rw[es];rfl) X4))⟩;exact hds
    ·have c1:=Nf n l[k] hn hm hr h60;rw[<-es]at c1;repeat'(first|refine awz ?_|fail)
     (refine X7 aN 7 (tkc [0,1,2,3,4,5] (.two 6 (tkc [7,8,9] (.one 10 (.one 11 (.take 12 .done)))) 10 (.one 6 (tkc [7,8,9] (.one 11 (.take 12 .done)))))) [(5,9980)] iO ae ae ae ae (λRz=>?_);(conv=>whnf);intro bp0 up0;(conv=>whnf))
     repeat'((first|refine Yg hlt ?_|refine awz ?_|refine XZ ai rfl ?_|refine X3 ac ac ?_|refine tW ?_ ?_|fail)<;>conv=>whnf)
     all_goals
      refine bd.mk ⟨k+1,hlt,ac,?_,sbW⟩;exact hds
  ·have e:k=l.length:=ac;subst e;have hc:decide ((l.length:Int)<((l.map DMsg.ds).length:Int))=false:=aj;rw[List.take_length];repeat'(first|refine awz ?_|exact rZ|fail)
theorem xw(w:DWorld)(a b:Int)(r:List Int)(hw:dN w=true)(hr:r.length<=1000):aM av 148 [.agg w.ds,pI a,pI b,.one (.sl (r.map eI))] (.val (.agg (DWorld.ds {w with net:=it w.net ⟨a,b,r⟩}))):=by
 have f:=rK hw;have hn:=f.net;cases hm:fM ⟨a,b,r⟩with
 |false=>
  have c1:=Nd w.net ⟨a,b,r⟩ hn hm;rw[ny (.inl hm)];refine pO func148 call148 ntmps148 results148 λS=>?_;conv=>whnf
  repeat'(first|refine awz ?_|(refine XZ ai rfl ?_;conv=>whnf)|exact rZ|fail)
 |true=>
  have hr0:0<r.length:=by simp only[fM,Bool.and_eq_true,decide_eq_true_eq]at hm;exact hm.1.2
  by_cases h60:w.net.flight.length=60
  ·have c1:=Ne w.net ⟨a,b,r⟩ hn hm h60;rw[ny (.inr h60)];refine pO func148 call148 ntmps148 results148 λS=>?_;conv=>whnf
   repeat'(first|refine awz ?_|(refine XZ ai rfl ?_;conv=>whnf)|exact rZ|fail)
  ·have c1:=Nf w.net ⟨a,b,r⟩ hn hm (Nat.le_trans hr ah) h60;generalize it w.net ⟨a,b,r⟩=n at c1;have q:decide (((r.map eI).length:Int)>0)=true:=al;refine pO func148 call148 ntmps148 results148 λS=>?_;conv=>whnf
   repeat'(first|refine awz ?_|(refine XZ ai rfl ?_;conv=>whnf)|exact rZ|fail)
section
variable (w:DWorld) (hw:dN w=true)
include hw
theorem Me:aM av 68 [.agg w.ds] (.val (.agg (dY w 0).ds)):=by
 have hs:=d6 hw;have f:=rK hw;have wo:=il w hs;rw[hw]at wo;have cc:=(nC w hs).pcall;have gu:=KE f.ul (show 0<6 by decide);unfold dY;cases hu:eS w 0 with
 |false=>
  rw[hu]at gu;refine pO func68 call68 ntmps68 results68 λS=>?_;conv=>whnf
  repeat'(first|(refine X8 0 _ rfl gu ?_;conv=>whnf)|refine awz ?_|(refine XZ ai rfl ?_;conv=>whnf)|exact rZ|fail)
 |true=>
  rw[hu]at gu;have lf:=Qq (f.logOk hu);have h20:w.log.owe.length<=60:=by
   have h4:w.log.owe.length<=w.log.book.entries.length:=by rw[lf.owe,List.length_map];exact List.length_filter_le _ _
   have:=(dC lf.book).2.2.2.1;omega
  have c1:=HH w.log lf;unfold QH at c1;have c2:=L5 w.log.owe h20;have c3:=nt {w with log:=kH w.log} (fI w.log.owe) (f.withLog hu (Do lf).ok).ok (JZ h20);rw[if_pos rfl];simp only[xA];generalize kH w.log=n at c1 c3;generalize fI w.log.owe=ms at c2 c3;simp only at c3;generalize dA w.net ms=nn at c3;refine pO func68 call68 ntmps68 results68 λS=>?_;conv=>whnf
  repeat'(first|(refine X8 0 _ rfl gu ?_;conv=>whnf)|(refine X7 aN 8 (.take 0 (.take 1 (onc [2,3,4] .done))) [(3,9980)] fZ ae ae ae ae (λRz=>?_);(conv=>whnf);intro bp0 up0;(conv=>whnf))|refine awz ?_|(refine XZ ai rfl ?_;conv=>whnf)|exact rZ|fail)
theorem HK:aM av 69 [.agg w.ds] (.val (.agg (dY w 1).ds)):=by
 have hs:=d6 hw;have f:=rK hw;have wo:=il w hs;rw[hw]at wo;have cc:=(nC w hs).pcall;have gu:=KE f.ul (show 1<6 by decide);unfold dY;cases hu:eS w 1 with
 |false=>
  rw[hu]at gu;refine pO func69 call69 ntmps69 results69 λS=>?_;conv=>whnf
  repeat'(first|(refine X8 1 _ rfl gu ?_;conv=>whnf)|refine awz ?_|(refine XZ ai rfl ?_;conv=>whnf)|exact rZ|fail)
 |true=>
  rw[hu]at gu;have hso:=f.storeOk hu;have c1:=L6 w.store hso;have c2:=J1 (w.store.state.index+1);have c3:=DV w.store hso;have c4:=Mf (cY w.store).last;have hy:=(tA (zS hso)).ok;have c5:=HF (cY w.store) hy;have c6:=xw w 1 0 (dX 3 (w.store.state.index+1) 1 2001) hw nj;have hn:=pw (m:=⟨1,0,dX 3 (w.store.state.index+1) 1 2001⟩) f.net;have c7:=xw {w with net:=it w.net ⟨1,0,dX 3 (w.store.state.index+1) 1 2001⟩} 1 0 (dX 5 (cY w.store).last 1 2000) (f.withNet hn).ok nj;rw[if_pos rfl];simp only[pF,tG];simp only at c7;generalize dX 3 (w.store.state.index+1) 1 2001=r1 at c2 c6 c7;generalize w.store.state.index+1=ix at c1 c2;generalize dX 5 (cY w.store).last 1 2000=r2 at c4 c7;generalize hI (cY w.store)=bs at c5;generalize cY w.store=ss at c3 c4 c5;generalize it w.net ⟨1,0,r1⟩=n1 at c6 c7;generalize it n1 ⟨1,0,r2⟩=n2 at c7;by_cases ht:ss.last>0
  ·have q:decide (ss.last>0)=true:=by simpa using ht
   rw[if_pos ht];refine pO func69 call69 ntmps69 results69 λS=>?_;conv=>whnf
   repeat'(first|(refine X8 1 _ rfl gu ?_;conv=>whnf)|(refine X7 aN 6 (.take 1 (.take 2 (.two 0 (onc [3,4,5,6] .done) 3 (.two 0 (onc [4,5,6] .done) 4 (onc [0,5,6] .done))))) [(1,9980)] ka ae ae ae ae (λRz=>?_);(conv=>whnf);intro bp0 up0;(conv=>whnf))|(refine X7 aN 9 (.take 1 (.two 0 (onc [2,3,4] .done) 2 (onc [0,3,4] .done))) [] fZ ae ae ae ae (λRz=>?_);(conv=>whnf))|((refine aal c5 rfl λz hz=>?_;obtain⟨z,zb⟩:=z;subst hz);conv=>whnf)|refine awz ?_|(refine XZ ai rfl ?_;conv=>whnf)|exact rZ|refine tW ?_ ?_|fail)
  ·have q:decide (ss.last>0)=false:=by simpa using ht
   rw[if_neg ht];refine pO func69 call69 ntmps69 results69 λS=>?_;conv=>whnf
   repeat'(first|(refine X8 1 _ rfl gu ?_;conv=>whnf)|(refine X7 aN 6 (.take 1 (.take 2 (.two 0 (onc [3,4,5,6] .done) 3 (.two 0 (onc [4,5,6] .done) 4 (onc [0,5,6] .done))))) [(1,9980)] ka ae ae ae ae (λRz=>?_);(conv=>whnf);intro bp0 up0;(conv=>whnf))|((refine aal c5 rfl λz hz=>?_;obtain⟨z,zb⟩:=z;subst hz);conv=>whnf)|refine awz ?_|(refine XZ ai rfl ?_;conv=>whnf)|exact rZ|refine tW ?_ ?_|fail)
theorem DW:aM av 71 [.agg w.ds,pI 4] (.val (.agg (dY w 4).ds)):=by
 have hs:=d6 hw;have f:=rK hw;have wo:=il w hs;rw[hw]at wo;have c1:=FB w.ann (PK f.ann);have c2:=nt w (fQ w.ann) hw (uq _);have e:dY w 4={w with net:=dA w.net (fQ w.ann)}:=if_pos f.u4;rw[e];generalize fQ w.ann=ms at c1 c2;generalize dA w.net ms=nn at c2;refine pO func71 call71 ntmps71 results71 λS=>?_;conv=>whnf
 repeat'(first|(refine X7 aN 5 (tkc [0,1,2] (onc [3,4,5] .done)) [(2,9980)] dv ae ae ae ae (λRz=>?_);(conv=>whnf);intro bp0 up0;(conv=>whnf))|refine awz ?_|(refine XZ ai rfl ?_;conv=>whnf)|exact rZ|fail)
theorem DX:aM av 71 [.agg w.ds,pI 5] (.val (.agg (dY w 5).ds)):=by
 have hs:=d6 hw;have f:=rK hw;have wo:=il w hs;rw[hw]at wo;have c1:=FB w.bob (PK f.bob);have c2:=nt w (fQ w.bob) hw (uq _);have e:dY w 5={w with net:=dA w.net (fQ w.bob)}:=if_pos f.u5;rw[e];generalize fQ w.bob=ms at c1 c2;generalize dA w.net ms=nn at c2;refine pO func71 call71 ntmps71 results71 λS=>?_;conv=>whnf
 repeat'(first|(refine X7 aN 7 (tkc [0,1,2] (onc [3,4,5] .done)) [(2,9980)] dv ae ae ae ae (λRz=>?_);(conv=>whnf);intro bp0 up0;(conv=>whnf))|refine awz ?_|(refine XZ ai rfl ?_;conv=>whnf)|exact rZ|fail)
theorem HI:aM av 70 [.agg w.ds,pI 2] (.val (.agg (dY w 2).ds)):=by
 have hs:=d6 hw;have f:=rK hw;have wo:=il w hs;rw[hw]at wo;have cc:=(nC w hs).pcall;have gu:=KE f.ul (show 2<6 by decide);have hl:=nL f.left;have gc:(w.clocks.map eI)[2]? =some (eI (dV w 2)):=GF f ah;have ht:tOk (dV w 2)=true:=GH f ah;unfold dY;cases hu:eS w 2 with
 |false=>
  rw[hu]at gu;refine pO func70 call70 ntmps70 results70 λS=>?_;conv=>whnf
  repeat'(first|(refine X8 2 _ rfl gu ?_;conv=>whnf)|refine awz ?_|(refine XZ ai rfl ?_;conv=>whnf)|exact rZ|fail)
 |true=>
  rw[hu]at gu;have d:=jR (now:=dV w 2) (CZ hl.1);have c1:=CS w.left (dV w 2) (CZ hl.1) ht;rw[if_pos rfl];simp only;generalize cX w.left (dV w 2)=y at c1 d;generalize dV w 2=t at c1 gc;have c2:=CW y d.1;have c3:=nt {w with left:=y} (fg y) (f.withLeft hu d.1.ok (by rw[d.2];exact hl.2)).ok (qx _);simp only at c3;generalize fg y=ms at c2 c3;generalize dA w.net ms=nn at c3;refine pO func70 call70 ntmps70 results70 λS=>?_;conv=>whnf
  repeat'(first|((first|refine X8 2 _ rfl gu ?_|refine X8 2 _ rfl gc ?_|fail)<;>conv=>whnf)|(refine X7 aN 7 (tkc [0,1,2,3,4,5,6] (.one 7 (.take 8 (.one 9 .done)))) [(2,9980)] j9 ae ae ae ae (λRz=>?_);(conv=>whnf);intro bp0 up0;(conv=>whnf))|(refine X7 aN 8 (tkc [0,1,2] (onc [3,4,5] .done)) [(5,9980)] dv ae ae ae ae (λRz=>?_);(conv=>whnf);intro bp0 up0;(conv=>whnf))|refine awz ?_|(refine XZ ai rfl ?_;conv=>whnf)|exact rZ|fail)
theorem HJ:aM av 70 [.agg w.ds,pI 3] (.val (.agg (dY w 3).ds)):=by
 have hs:=d6 hw;have f:=rK hw;have wo:=il w hs;rw[hw]at wo;have cc:=(nC w hs).pcall;have gu:=KE f.ul (show 3<6 by decide);have hl:=nL f.right;have gc:(w.clocks.map eI)[3]? =some (eI (dV w 3)):=GF f ah;have ht:tOk (dV w 3)=true:=GH f ah;unfold dY;cases hu:eS w 3 with
 |false=>
  rw[hu]at gu;refine pO func70 call70 ntmps70 results70 λS=>?_;conv=>whnf
  repeat'(first|(refine X8 3 _ rfl gu ?_;conv=>whnf)|refine awz ?_|(refine XZ ai rfl ?_;conv=>whnf)|exact rZ|fail)
 |true=>
  rw[hu]at gu;have d:=jR (now:=dV w 3) (CZ hl.1);have c1:=CS w.right (dV w 3) (CZ hl.1) ht;rw[if_pos rfl];simp only;generalize cX w.right (dV w 3)=y at c1 d;generalize dV w 3=t at c1 gc;have c2:=CW y d.1;have c3:=nt {w with right:=y} (fg y) (f.withRight hu d.1.ok (by rw[d.2];exact hl.2)).ok (qx _);simp only at c3;generalize fg y=ms at c2 c3;generalize dA w.net ms=nn at c3;refine pO func70 call70 ntmps70 results70 λS=>?_;conv=>whnf
  repeat'(first|((first|refine X8 3 _ rfl gu ?_|refine X8 3 _ rfl gc ?_|fail)<;>conv=>whnf)|(refine X7 aN 9 (tkc [0,1,2,3,4,5,6] (.one 7 (.take 8 (.one 9 .done)))) [(2,9980)] j9 ae ae ae ae (λRz=>?_);(conv=>whnf);intro bp0 up0;(conv=>whnf))|(refine X7 aN 10 (tkc [0,1,2] (onc [3,4,5] .done)) [(5,9980)] dv ae ae ae ae (λRz=>?_);(conv=>whnf);intro bp0 up0;(conv=>whnf))|refine awz ?_|(refine XZ ai rfl ?_;conv=>whnf)|exact rZ|fail)
theorem J7(k:Nat)(hk:k<6):aM av 19 [.agg w.ds,pI (k:Int)] (.val (.agg (dY w k).ds)):=by
 have hs:=d6 hw;have wo:=il w hs;rw[hw]at wo;obtain rfl|rfl|rfl|rfl|rfl|rfl:k=0\/k=1\/k=2\/k=3\/k=4\/k=5:=by omega
 ·have c:=Me w hw;refine pO func19 call19 ntmps19 results19 λS=>?_;conv=>whnf
  repeat'(first|refine awz ?_|(refine XZ ai rfl ?_;conv=>whnf)|exact rZ|fail)
 ·have c:=HK w hw;refine pO func19 call19 ntmps19 results19 λS=>?_;conv=>whnf
  repeat'(first|refine awz ?_|(refine XZ ai rfl ?_;conv=>whnf)|exact rZ|fail)
 ·have c:=HI w hw;refine pO func19 call19 ntmps19 results19 λS=>?_;conv=>whnf
  repeat'(first|refine awz ?_|(refine XZ ai rfl ?_;conv=>whnf)|exact rZ|fail)
 ·have c:=HJ w hw;refine pO func19 call19 ntmps19 results19 λS=>?_;conv=>whnf
  repeat'(first|refine awz ?_|(refine XZ ai rfl ?_;conv=>whnf)|exact rZ|fail)
 ·have c:=DW w hw;refine pO func19 call19 ntmps19 results19 λS=>?_;conv=>whnf
  repeat'(first|refine awz ?_|(refine XZ ai rfl ?_;conv=>whnf)|exact rZ|fail)
 ·have c:=DX w hw;refine pO func19 call19 ntmps19 results19 λS=>?_;conv=>whnf
  repeat'(first|refine awz ?_|(refine XZ ai rfl ?_;conv=>whnf)|exact rZ|fail)
end
theorem HQ{x:DWorld}:Ym 1048576 (gB x):=by
 unfold gB;split
 ·rename_i h;exact d6 (nD h 6)
 ·exact H1
theorem HL(x:DWorld)(hs:Ym 1048576 x):aM av 5 [.agg x.ds] (.val (.agg (gB x).ds)):=by
 have wo:=il x hs;unfold gB;cases hw:dN x with
 |false=>
  rw[hw]at wo;rw[if_neg aj];refine pO func5 call5 ntmps5 results5 λS=>?_;conv=>whnf
  repeat'(first|refine awz ?_|(refine XZ ai rfl ?_;conv=>whnf)|exact rZ|fail)
  all_goals rfl
 |true=>
  rw[hw]at wo;rw[if_pos rfl];refine pO func5 call5 ntmps5 results5 λS=>?_;conv=>whnf
  repeat'(first|refine awz ?_|(refine XZ ai rfl ?_;conv=>whnf)|fail)
  refine X5 (λk:Nat=>k<=6) (4::rg 10 7) (λk=>[(4,vI .i64 (k:Int))]) (λk=>[(1,.cells 105 (x.ds.map .d)),(2,.cells 105 (tK.ds.map λd=>match d with| .pv v=> .d (.pv v)|_=> .nil)),(3,.cells 105 ((fi x k).ds.map .d))]) (λk=>6-k) 0 (Nat.zero_le _) ?_ sbW (λk hk=>?_)<;>(conv=>whnf)
  ·exact whd
  ·by_cases hlt:k<6
   ·have hc:decide ((k:Int)<6)=true:=al;have c1:=J7 (fi x k) (nD hw k) k hlt;have e:fi x (k+1)=dY (fi x k) k:=rfl;generalize fi x k=y at c1 e;repeat'((first|refine awz ?_|refine XZ ai rfl ?_|refine X3 ac ac ?_|fail)<;>conv=>whnf)
    refine bd.mk ⟨k+1,hlt,ac,?_,X0 rfl (X0 rfl (X0 (by rw[e];rfl) X4))⟩;exact hds
   ·have e:k=6:=ac;subst e;repeat'(first|refine awz ?_|exact rZ|fail)
end
section
open Go.Proofs.Tryz
open Go.ChangeShapes Go.WideShapes Go.RowKit
def gL:List (List Nat):=bZ [0,0,2,3,260,5,6,20929,0x207185103081208]
def kX:List (List Nat):=bZ [0,0,2,3,4,12609,26736222278022]
def gF:List (List Nat):=bZ [0,0,2,195,4,5,262,29121,0x207185103081208]
theorem AXi.fam{T:World->Prop}{ob:List (Nat×AO)}{R:Nat->(Nat->Prop)->World->Value->Prop}{n:Int}{s:Nat}{K:AV->Prop}{lo hi j:Nat}{ds:List AD}{xs:List (List AD)}(F:cJ lo hi (bS R 0 ds) ds)(hj:ds[j]? =some (.sl xs))(hc:(bS R 0 ds)[j]? =some (.x (R j)))(k:Nat)(row:List AD)(hn:n=(k:Int))(hx:xs[k]? =some row)(hl:row.length=s)(hs:0<s)(hk:K (.one (.ptr row))):AXi T ob (R j) n s K:=
 aaJ (F.at hc hj) k row hn hx hl hs hk
theorem IU:aM av 304 [pI 4] (.val (.one (.pv (.func (.func 395) #[] #[])))):=by
 refine pO func304 call304 ntmps304 results304 λS=>?_;conv=>whnf
 repeat'(first|refine awz ?_|exact rZ|fail)
theorem IW:aM av 304 [pI 5] (.val (.one (.pv (.func (.func 396) #[] #[])))):=by
 refine pO func304 call304 ntmps304 results304 λS=>?_;conv=>whnf
 repeat'(first|refine awz ?_|exact rZ|fail)
section
variable (w:DWorld) (hw:dN w=true)
include hw
theorem LR(hu:eS w 0=true):kM av 182 w.ds [.one (dI 0)] (xA w).ds:=by
 have f:=rK hw;have lf:=Qq (f.logOk hu);have h20:w.log.owe.length<=60:=by
  have h4:w.log.owe.length<=w.log.book.entries.length:=by rw[lf.owe,List.length_map];exact List.length_filter_le _ _
  have:=(dC lf.book).2.2.2.1;omega
 have cS:=DF w.log lf;have c2:=LA w.log.owe h20;have hr:=JZ h20;have hv:=jE {w with log:=kH w.log} (fI w.log.owe) f.net hr.2 (by have:=hr.1;omega);unfold xA;generalize kH w.log=n at cS hv;generalize fI w.log.owe=ms at c2 hv;refine fH aN func182 rfl call182 ntmps182 (aaK results182) λS R lo hlo F=>?_;conv=>whnf
 repeat'(first|((refine YD [.agg (w.log.ds.map .d)] ⟨(F.part 0 19).asV,trivial⟩ ?_;refine Yk cS rfl rfl λR2 lo2 hi2 m1 m2 F2=>?_)<;>conv=>whnf)|refine awz ?_|fail)
 have FN:=F.splice 0 19 F2 m1 hlo m2 (le_of_ble_eq_true rfl) (le_of_ble_eq_true rfl);(refine X7 aN 3 (.take 0 (.take 1 (onc [2,3,4] .done))) [(2,9980)] fZ ae ae ae ae (λRz=>?_);(conv=>whnf);intro bp0 up0;(conv=>whnf))
 repeat'((first|(refine YD [.one (.d (.sl (w.log.owe.map DAck.ds)))] ⟨AsV.d (F2.at (i:=19) rfl rfl),trivial⟩ ?_;refine XZ c2 rfl ?_)|refine aG.v FN hv rfl rfl rfl (le_trans hlo (le_trans m1 m2)) λR3 hi3 q3 F3=>?_|refine awz ?_|fail)<;>conv=>whnf)
 all_goals exact⟨lo,hi3,Nat.le_refl _,F3.fam⟩
theorem G6(hu:eS w 1=true):kM av 183 w.ds [.one (dI 1)] (pF w).ds:=by
 have f:=rK hw;have hso:=f.storeOk hu;have c1:=LB w.store hso;have c2:=IQ (w.store.state.index+1);have r1:=le_trans (nj (a:=3) (b:=w.store.state.index+1) (c:=1) (d:=2001)) (show 1000<=1048576 by decide);have h1:=jE w [⟨1,0,dX 3 (w.store.state.index+1) 1 2001⟩] f.net (λm hm=>by rw[List.mem_singleton.1 hm];exact r1) aj;have n1:=pw (m:=⟨1,0,dX 3 (w.store.state.index+1) 1 2001⟩) f.net;have c3:=B3 w.store hso;have c4:=LG (cY w.store).last;have c5:=DD (cY w.store) (tA (zS hso)).ok;have r2:=le_trans (nj (a:=5) (b:=(cY w.store).last) (c:=1) (d:=2000)) (show 1000<=1048576 by decide);have h2:=jE {w with store:=cY w.store,net:=it w.net ⟨1,0,dX 3 (w.store.state.index+1) 1 2001⟩} [⟨1,0,dX 5 (cY w.store).last 1 2000⟩] n1 (λm hm=>by rw[List.mem_singleton.1 hm];exact r2) aj;simp only[pF,tG];have e1:∀(n:DNet) (m:DMsg),dA n [m]=it n m:=λ_ _=>rfl;simp only[e1]at h1 h2;clear n1 r1 r2 e1;generalize dX 3 (w.store.state.index+1) 1 2001=q1 at c2 h1 h2;generalize w.store.state.index+1=ix at c1 c2;generalize dX 5 (cY w.store).last 1 2000=q2 at c4 h2;generalize hI (cY w.store)=bs at c5;generalize xS (cY w.store)=bb at c5;generalize cY w.store=ss at c3 c4 c5 h2;generalize it w.net ⟨1,0,q1⟩=m1 at h1 h2;generalize it m1 ⟨1,0,q2⟩=m2 at h2;by_cases ht:ss.last>0
 ·have q:decide (ss.last>0)=true:=by simpa using ht
  rw[if_pos ht];refine fH aN func183 rfl call183 ntmps183 (aaK results183) λS R lo hlo F=>?_;conv=>whnf
  repeat'(first|refine awz ?_|fail)
  (refine X7 aN 1 (.take 1 (.two 0 (onc [2,3,4,5,6,7,8] .done) 2 (.two 0 (onc [3,4,5,6,7,8] .done) 3 (.two 0 (onc [4,5,6,7,8] .done) 4 (.two 0 (onc [5,6,7,8] .done) 5 (.two 0 (onc [6,7,8] .done) 6 (onc [0,7,8] .done))))))) [] gL ae ae ae ae (λRz=>?_);(conv=>whnf))
  repeat'(first|((refine YD [.agg (w.store.ds.map .d)] ⟨(F.part 19 12).asV,trivial⟩ ?_;refine XZ c1 rfl ?_)<;>conv=>whnf)|(refine aG.freeze 12 216 3 [DMsg.ds ⟨1,0,q1⟩] rfl ?_;(conv=>whnf);refine aG.v F h1 rfl rfl rfl hlo λR1 hi1 g1 F1=>?_;conv=>whnf)|((refine YD [.agg (w.store.ds.map .d)] ⟨(F1.part 19 12).asV,trivial⟩ ?_;refine Yk c3 rfl rfl λR2 lo2 hi2 g2 g3 F2=>?_)<;>conv=>whnf)|refine awz ?_|(refine XZ ai rfl ?_;conv=>whnf)|refine tW ?_ ?_|fail)
  all_goals
   have FN:=F1.splice 19 12 F2 g2 (le_trans hlo g1) g3 (le_of_ble_eq_true rfl) (le_of_ble_eq_true rfl);(refine X7 aN 5 (.take 1 (.two 0 (onc [2,3,4,5,6] .done) 2 (.two 0 (onc [3,4,5,6] .done) 3 (.two 0 (onc [4,5,6] .done) 4 (onc [0,5,6] .done))))) [] kX ae ae ae ae (λRz=>?_);(conv=>whnf))
  repeat'(first|(refine aG.freeze 27 216 3 [DMsg.ds ⟨1,0,q2⟩] rfl ?_;(conv=>whnf);refine aG.v FN h2 rfl rfl rfl (le_trans hlo (le_trans g1 (le_trans g2 g3))) λR3 hi3 g4 F3=>?_;conv=>whnf)|((refine YD [.agg (ss.ds.map .d)] ⟨(F3.part 19 12).asV,trivial⟩ ?_;refine Yk c5 rfl rfl λR4 lo4 hi4 g5 g6 F4=>?_)<;>conv=>whnf)|refine awz ?_|(refine XZ ai rfl ?_;conv=>whnf)|refine tW ?_ ?_|fail)
  all_goals exact⟨lo,hi4,Nat.le_refl _,(F3.splice 19 12 F4 g5 (le_trans hlo (le_trans g1 (le_trans g2 (le_trans g3 g4)))) g6 (le_of_ble_eq_true rfl) (le_of_ble_eq_true rfl)).fam⟩
 ·have q:decide (ss.last>0)=false:=by simpa using ht
  rw[if_neg ht];refine fH aN func183 rfl call183 ntmps183 (aaK results183) λS R lo hlo F=>?_;conv=>whnf
  repeat'(first|refine awz ?_|fail)
  (refine X7 aN 1 (.take 1 (.two 0 (onc [2,3,4,5,6,7,8] .done) 2 (.two 0 (onc [3,4,5,6,7,8] .done) 3 (.two 0 (onc [4,5,6,7,8] .done) 4 (.two 0 (onc [5,6,7,8] .done) 5 (.two 0 (onc [6,7,8] .done) 6 (onc [0,7,8] .done))))))) [] gL ae ae ae ae (λRz=>?_);(conv=>whnf))
  repeat'(first|((refine YD [.agg (w.store.ds.map .d)] ⟨(F.part 19 12).asV,trivial⟩ ?_;refine XZ c1 rfl ?_)<;>conv=>whnf)|(refine aG.freeze 12 216 3 [DMsg.ds ⟨1,0,q1⟩] rfl ?_;(conv=>whnf);refine aG.v F h1 rfl rfl rfl hlo λR1 hi1 g1 F1=>?_;conv=>whnf)|((refine YD [.agg (w.store.ds.map .d)] ⟨(F1.part 19 12).asV,trivial⟩ ?_;refine Yk c3 rfl rfl λR2 lo2 hi2 g2 g3 F2=>?_)<;>conv=>whnf)|refine awz ?_|(refine XZ ai rfl ?_;conv=>whnf)|refine tW ?_ ?_|fail)
  all_goals
   have FN:=F1.splice 19 12 F2 g2 (le_trans hlo g1) g3 (le_of_ble_eq_true rfl) (le_of_ble_eq_true rfl)
  repeat'(first|((refine YD [.agg (ss.ds.map .d)] ⟨(FN.part 19 12).asV,trivial⟩ ?_;refine Yk c5 rfl rfl λR4 lo4 hi4 g5 g6 F4=>?_)<;>conv=>whnf)|refine awz ?_|fail)
  all_goals exact⟨lo,hi4,Nat.le_refl _,(FN.splice 19 12 F4 g5 (le_trans hlo (le_trans g1 (le_trans g2 g3))) g6 (le_of_ble_eq_true rfl) (le_of_ble_eq_true rfl)).fam⟩
theorem DH:kM av 185 w.ds [.one (dI 4)] (DWorld.ds {w with net:=dA w.net (fQ w.ann)}):=by
 have f:=rK hw;have c1:=EZ w.ann (PK f.ann);have hr:=uq w.ann;have hv:=jE w (fQ w.ann) f.net hr.2 (by have:=hr.1;omega);have c2:=IU;generalize fQ w.ann=ms at c1 hv;refine fH aN func185 rfl call185 ntmps185 (aaK results185) λS R lo hlo F=>?_;conv=>whnf
 repeat'(first|refine awz ?_|fail)
 (refine X7 aN 1 (.take 1 (.two 0 (onc [2,3,4,5,6,7,8] .done) 2 (.two 0 (onc [3,4,5,6,7,8] .done) 3 (.two 0 (onc [4,5,6,7,8] .done) 4 (.two 0 (onc [5,6,7,8] .done) 5 (.two 0 (onc [6,7,8] .done) 6 (onc [0,7,8] .done))))))) [] gF ae ae ae ae (λRz=>?_);(conv=>whnf))
 repeat'((first|refine YS aN 970 func395 rfl call395 ntmps395 (aaK results395) rfl λus970=>?_|(refine YD [.agg (w.ann.ds.map .d)] ⟨(F.part 61 4).asV,trivial⟩ ?_;refine XZ c1 rfl ?_)|refine aG.v F hv rfl rfl rfl hlo λR3 hi3 q3 F3=>?_|refine awz ?_|refine XZ ai rfl ?_|refine tW ?_ ?_|fail)<;>conv=>whnf)
 all_goals exact⟨lo,hi3,Nat.le_refl _,F3.fam⟩
theorem DI:kM av 185 w.ds [.one (dI 5)] (DWorld.ds {w with net:=dA w.net (fQ w.bob)}):=by
 have f:=rK hw;have c1:=EZ w.bob (PK f.bob);have hr:=uq w.bob;have hv:=jE w (fQ w.bob) f.net hr.2 (by have:=hr.1;omega);have c2:=IW;generalize fQ w.bob=ms at c1 hv;refine fH aN func185 rfl call185 ntmps185 (aaK results185) λS R lo hlo F=>?_;conv=>whnf
 repeat'(first|refine awz ?_|fail)
 (refine X7 aN 1 (.take 1 (.two 0 (onc [2,3,4,5,6,7,8] .done) 2 (.two 0 (onc [3,4,5,6,7,8] .done) 3 (.two 0 (onc [4,5,6,7,8] .done) 4 (.two 0 (onc [5,6,7,8] .done) 5 (.two 0 (onc [6,7,8] .done) 6 (onc [0,7,8] .done))))))) [] gF ae ae ae ae (λRz=>?_);(conv=>whnf))
 repeat'((first|refine YS aN 970 func396 rfl call396 ntmps396 (aaK results396) rfl λus970=>?_|(refine YD [.agg (w.bob.ds.map .d)] ⟨(F.part 65 4).asV,trivial⟩ ?_;refine XZ c1 rfl ?_)|refine aG.v F hv rfl rfl rfl hlo λR3 hi3 q3 F3=>?_|refine awz ?_|refine XZ ai rfl ?_|refine tW ?_ ?_|fail)<;>conv=>whnf)
 all_goals exact⟨lo,hi3,Nat.le_refl _,F3.fam⟩
end
end
section
open Go.Proofs.Tryz
open Go.ChangeShapes Go.WideShapes Go.RowKit
def gD:List (List Nat):=bZ [0,0,2,3,0,5,0,454,8,580,0xa2481c61440c2041,0xa2481c61440c204a28b]
def gE:List (List Nat):=bZ [0,0,2,3,4,20801,26736222278022]
theorem LP:aM av 300 [pI 2] (.val (.one (.pv (.func (.func 387) #[] #[])))):=by
 refine pO func300 call300 ntmps300 results300 λS=>?_;conv=>whnf
 repeat'(first|refine awz ?_|exact rZ|fail)
theorem LQ:aM av 300 [pI 3] (.val (.one (.pv (.func (.func 388) #[] #[])))):=by
 refine pO func300 call300 ntmps300 results300 λS=>?_;conv=>whnf
 repeat'(first|refine awz ?_|exact rZ|fail)
section
variable (w:DWorld) (hw:dN w=true)
include hw
theorem G4:kM av 184 w.ds [.one (dI 2)] (DWorld.ds {w with left:=cX w.left (dV w 2),net:=dA w.net (fg (cX w.left (dV w 2)))}):=by
 have f:=rK hw;have hl:=nL f.left;have gc:(w.clocks.map eI)[2]? =some (eI (dV w 2)):=GF f ah;have ht:tOk (dV w 2)=true:=GH f ah;have d:=jR (now:=dV w 2) (CZ hl.1);have c1:=BR w.left (dV w 2) (CZ hl.1) ht;have c2:=LP;generalize cX w.left (dV w 2)=y at c1 d;generalize dV w 2=t at c1 gc;have c3:=B1 y d.1;have hr:=qx y;have hv:=jE {w with left:=y} (fg y) f.net hr.2 (by have:=hr.1;omega);generalize fg y=ms at c3 hv;refine fH aN func184 rfl call184 ntmps184 (aaK results184) λS R lo hlo F=>?_;conv=>whnf
 repeat'(first|(refine YS aN 970 func387 rfl call387 ntmps387 (aaK results387) rfl λus970=>?_;conv=>whnf)|refine awz ?_|(refine XZ ai rfl ?_;conv=>whnf)|fail)
 (refine X7 aN 2 (tkc [0,1,4,6] (.two 2 (.two 3 (onc [5,7,8,9,10,11] .done) 5 (.two 3 (onc [7,8,9,10,11] .done) 7 (.two 3 (onc [8,9,10,11] .done) 8 (onc [3,9,10,11] .done)))) 5 (.two 2 (.two 3 (onc [7,8,9,10,11] .done) 7 (.two 3 (onc [8,9,10,11] .done) 8 (onc [3,9,10,11] .done))) 7 (.two 2 (.two 3 (onc [8,9,10,11] .done) 8 (onc [3,9,10,11] .done)) 8 (onc [2,3,9,10,11] .done))))) [] gD ae ae ae ae (λRz=>?_);(conv=>whnf))
 repeat'((first|refine AXi.fam (j:=71) F rfl rfl 2 _ rfl gc rfl ah ?_|(refine YD [.agg (w.left.ds.map .d),.one (.d (dI t))] ⟨(F.part 31 15).asV,AsV.refl _,trivial⟩ ?_;refine Yh c1 rfl rfl λR2 lo2 hi2 g2 g3 F2=>?_)|refine awz ?_|refine tW ?_ ?_|fail)<;>conv=>whnf)
 all_goals
  have FN:=F.splice 31 15 F2 g2 hlo g3 (Nat.le_of_ble_eq_true rfl) (Nat.le_of_ble_eq_true rfl);(refine X7 aN 3 (.take 1 (.two 0 (onc [2,3,4,5,6] .done) 2 (.two 0 (onc [3,4,5,6] .done) 3 (.two 0 (onc [4,5,6] .done) 4 (onc [0,5,6] .done))))) [] gE ae ae ae ae (λRz=>?_);(conv=>whnf))
 repeat'((first|(refine YD [.agg (y.ds.map .d)] ⟨(FN.part 31 15).asV,trivial⟩ ?_;refine XZ c3 rfl ?_)|refine aG.v FN hv rfl rfl rfl (Nat.le_trans hlo (Nat.le_trans g2 g3)) λR3 hi3 q3 F3=>?_|refine awz ?_|refine tW ?_ ?_|fail)<;>conv=>whnf)
 all_goals exact⟨lo,hi3,Nat.le_refl _,F3.fam⟩
theorem G5:kM av 184 w.ds [.one (dI 3)] (DWorld.ds {w with right:=cX w.right (dV w 3),net:=dA w.net (fg (cX w.right (dV w 3)))}):=by
 have f:=rK hw;have hl:=nL f.right;have gc:(w.clocks.map eI)[3]? =some (eI (dV w 3)):=GF f ah;have ht:tOk (dV w 3)=true:=GH f ah;have d:=jR (now:=dV w 3) (CZ hl.1);have c1:=BR w.right (dV w 3) (CZ hl.1) ht;have c2:=LQ;generalize cX w.right (dV w 3)=y at c1 d;generalize dV w 3=t at c1 gc;have c3:=B1 y d.1;have hr:=qx y;have hv:=jE {w with right:=y} (fg y) f.net hr.2 (by have:=hr.1;omega);generalize fg y=ms at c3 hv;refine fH aN func184 rfl call184 ntmps184 (aaK results184) λS R lo hlo F=>?_;conv=>whnf
 repeat'(first|(refine YS aN 970 func388 rfl call388 ntmps388 (aaK results388) rfl λus970=>?_;conv=>whnf)|refine awz ?_|(refine XZ ai rfl ?_;conv=>whnf)|fail)
 (refine X7 aN 2 (tkc [0,1,4,6] (.two 2 (.two 3 (onc [5,7,8,9,10,11] .done) 5 (.two 3 (onc [7,8,9,10,11] .done) 7 (.two 3 (onc [8,9,10,11] .done) 8 (onc [3,9,10,11] .done)))) 5 (.two 2 (.two 3 (onc [7,8,9,10,11] .done) 7 (.two 3 (onc [8,9,10,11] .done) 8 (onc [3,9,10,11] .done))) 7 (.two 2 (.two 3 (onc [8,9,10,11] .done) 8 (onc [3,9,10,11] .done)) 8 (onc [2,3,9,10,11] .done))))) [] gD ae ae ae ae (λRz=>?_);(conv=>whnf))
 repeat'((first|refine AXi.fam (j:=71) F rfl rfl 3 _ rfl gc rfl ah ?_|(refine YD [.agg (w.right.ds.map .d),.one (.d (dI t))] ⟨(F.part 46 15).asV,AsV.refl _,trivial⟩ ?_;refine Yh c1 rfl rfl λR2 lo2 hi2 g2 g3 F2=>?_)|refine awz ?_|refine tW ?_ ?_|fail)<;>conv=>whnf)
 all_goals
  have FN:=F.splice 46 15 F2 g2 hlo g3 (Nat.le_of_ble_eq_true rfl) (Nat.le_of_ble_eq_true rfl);(refine X7 aN 3 (.take 1 (.two 0 (onc [2,3,4,5,6] .done) 2 (.two 0 (onc [3,4,5,6] .done) 3 (.two 0 (onc [4,5,6] .done) 4 (onc [0,5,6] .done))))) [] gE ae ae ae ae (λRz=>?_);(conv=>whnf))
 repeat'((first|(refine YD [.agg (y.ds.map .d)] ⟨(FN.part 46 15).asV,trivial⟩ ?_;refine XZ c3 rfl ?_)|refine aG.v FN hv rfl rfl rfl (Nat.le_trans hlo (Nat.le_trans g2 g3)) λR3 hi3 q3 F3=>?_|refine awz ?_|refine tW ?_ ?_|fail)<;>conv=>whnf)
 all_goals exact⟨lo,hi3,Nat.le_refl _,F3.fam⟩
end
end
open Go.Proofs.Tryz
open Go.ChangeShapes Go.WideShapes Go.RowKit
theorem Se(w:DWorld)(hw:dN w=true)(k:Nat)(hk:k<6)(hu:eS w k=true):kM av 87 w.ds [.one (dI (k:Int))] (dY w k).ds:=by
 have key:∀(k:Nat) (y:DWorld),k<6->(k=0->kM av 182 w.ds [.one (dI 0)] y.ds)->(k=1->kM av 183 w.ds [.one (dI 1)] y.ds)->(k=2->kM av 184 w.ds [.one (dI 2)] y.ds)->(k=3->kM av 184 w.ds [.one (dI 3)] y.ds)->(k=4->kM av 185 w.ds [.one (dI 4)] y.ds)->(k=5->kM av 185 w.ds [.one (dI 5)] y.ds)->kM av 87 w.ds [.one (dI (k:Int))] y.ds:=by
  intro k y hk h0 h1 h2 h3 h4 h5;obtain rfl|rfl|rfl|rfl|rfl|rfl:k=0\/k=1\/k=2\/k=3\/k=4\/k=5:=by omega
  ·have hv:=h0 rfl;refine fH aN func87 rfl call87 ntmps87 (aaK results87) λS R lo hlo F=>?_;conv=>whnf
   repeat'(first|(refine Ze (p:= .agg (bS R 0 w.ds)) rfl rfl ?_;conv=>whnf)|(refine YU (p:= .agg (bS R 0 w.ds)) rfl rfl rfl ?_;(conv=>whnf);refine aG.v F hv rfl rfl rfl hlo λR3 hi3 q3 F3=>?_;conv=>whnf)|(refine uE.at 0 rfl ah ?_;conv=>whnf)|refine awz ?_|fail)
   exact⟨lo,hi3,Nat.le_refl _,F3.fam⟩
  ·have hv:=h1 rfl;refine fH aN func87 rfl call87 ntmps87 (aaK results87) λS R lo hlo F=>?_;conv=>whnf
   repeat'(first|(refine Ze (p:= .agg (bS R 0 w.ds)) rfl rfl ?_;conv=>whnf)|(refine YU (p:= .agg (bS R 0 w.ds)) rfl rfl rfl ?_;(conv=>whnf);refine aG.v F hv rfl rfl rfl hlo λR3 hi3 q3 F3=>?_;conv=>whnf)|(refine uE.at 1 rfl ah ?_;conv=>whnf)|refine awz ?_|fail)
   exact⟨lo,hi3,Nat.le_refl _,F3.fam⟩
  ·have hv:=h2 rfl;refine fH aN func87 rfl call87 ntmps87 (aaK results87) λS R lo hlo F=>?_;conv=>whnf
   repeat'(first|(refine Ze (p:= .agg (bS R 0 w.ds)) rfl rfl ?_;conv=>whnf)|(refine YU (p:= .agg (bS R 0 w.ds)) rfl rfl rfl ?_;(conv=>whnf);refine aG.v F hv rfl rfl rfl hlo λR3 hi3 q3 F3=>?_;conv=>whnf)|(refine uE.at 2 rfl ah ?_;conv=>whnf)|refine awz ?_|fail)
   exact⟨lo,hi3,Nat.le_refl _,F3.fam⟩
  ·have hv:=h3 rfl;refine fH aN func87 rfl call87 ntmps87 (aaK results87) λS R lo hlo F=>?_;conv=>whnf
   repeat'(first|(refine Ze (p:= .agg (bS R 0 w.ds)) rfl rfl ?_;conv=>whnf)|(refine YU (p:= .agg (bS R 0 w.ds)) rfl rfl rfl ?_;(conv=>whnf);refine aG.v F hv rfl rfl rfl hlo λR3 hi3 q3 F3=>?_;conv=>whnf)|(refine uE.at 3 rfl ah ?_;conv=>whnf)|refine awz ?_|fail)
   exact⟨lo,hi3,Nat.le_refl _,F3.fam⟩
  ·have hv:=h4 rfl;refine fH aN func87 rfl call87 ntmps87 (aaK results87) λS R lo hlo F=>?_;conv=>whnf
   repeat'(first|(refine Ze (p:= .agg (bS R 0 w.ds)) rfl rfl ?_;conv=>whnf)|(refine YU (p:= .agg (bS R 0 w.ds)) rfl rfl rfl ?_;(conv=>whnf);refine aG.v F hv rfl rfl rfl hlo λR3 hi3 q3 F3=>?_;conv=>whnf)|(refine uE.at 4 rfl ah ?_;conv=>whnf)|refine awz ?_|fail)
   exact⟨lo,hi3,Nat.le_refl _,F3.fam⟩
  ·have hv:=h5 rfl;refine fH aN func87 rfl call87 ntmps87 (aaK results87) λS R lo hlo F=>?_;conv=>whnf
   repeat'(first|(refine Ze (p:= .agg (bS R 0 w.ds)) rfl rfl ?_;conv=>whnf)|(refine YU (p:= .agg (bS R 0 w.ds)) rfl rfl rfl ?_;(conv=>whnf);refine aG.v F hv rfl rfl rfl hlo λR3 hi3 q3 F3=>?_;conv=>whnf)|(refine uE.at 5 rfl ah ?_;conv=>whnf)|refine awz ?_|fail)
   exact⟨lo,hi3,Nat.le_refl _,F3.fam⟩
 have e:∀k,eS w k=true->dY w k=match k with
  |0=>xA w
  |1=>pF w
  |2=>{w with left:=cX w.left (dV w 2),net:=dA w.net (fg (cX w.left (dV w 2)))}
  |3=>{w with right:=cX w.right (dV w 3),net:=dA w.net (fg (cX w.right (dV w 3)))}
  |4=>{w with net:=dA w.net (fQ w.ann)}
  |5=>{w with net:=dA w.net (fQ w.bob)}
  |_=>w:=λk h=>if_pos h
 rw[e k hu];refine key k _ hk ?_ ?_ ?_ ?_ ?_ ?_<;>(intro h;subst h)
 ·exact LR w hw hu
 ·exact G6 w hw hu
 ·exact G4 w hw
 ·exact G5 w hw
 ·exact DH w hw
 ·exact DI w hw
theorem G7(w:DWorld)(hw:dN w=true):kM av 28 w.ds [] (fi w 6).ds:=by
 refine fH aN func28 rfl call28 ntmps28 (aaK results28) λS R lo hlo F=>?_;conv=>whnf
 repeat'(first|refine awz ?_|fail)
 refine X5 (λg:Nat×(Nat->(Nat->Prop)->World->Value->Prop)×Nat=>g.1<=6/\S.w0.heap.size<=g.2.2/\cJ lo g.2.2 (bS g.2.1 0 (fi w g.1).ds) (fi w g.1).ds) (rg 3 13) (λg=>[(3,vI .i64 (g.1:Int))]) (λg=>[(9997,cH S.w0.heap.size g.2.2),(1,.cells 105 ((bS g.2.1 0 (fi w g.1).ds).map .d)),(2,.cells 105 (tK.ds.map λd=>match d with| .pv v=> .d (.pv v)|_=> .nil))]) (λg=>6-g.1) (0,R,S.w0.heap.size) ⟨Nat.zero_le _,Nat.le_refl _,F⟩ ?_ sbW (λg hg=>?_)<;>(conv=>whnf)
 ·exact whd
 ·clear F;obtain⟨k,R,hi⟩:=g;obtain⟨hk,hm,F⟩:=hg;simp only at hk hm F;by_cases hlt:k<6
  ·have hc:decide ((k:Int)<6)=true:=al;have hyw:=nD hw k;have gu:=KE (rK hyw).ul hlt;have hs:fi w (k+1)=dY (fi w k) k:=rfl;generalize fi w k=y at F hyw gu hs;cases hu:eS y k with
   |true=>
    rw[hu]at gu;have hv:=Se y hyw k hlt hu;repeat'((first|refine AXi.fam (j:=72) F rfl rfl k _ rfl gu rfl ah ?_|refine aG.v F hv rfl rfl rfl (Nat.le_trans hlo hm) λR3 hi3 q3 F3=>?_|refine awz ?_|refine X3 ac ac ?_|fail)<;>conv=>whnf)
    refine bd.mk ⟨(k+1,R3,hi3),⟨hlt,Nat.le_trans hm q3,by show cJ lo hi3 (bS R3 0 (fi w (k+1)).ds) (fi w (k+1)).ds;rw[hs];exact F3⟩,by simp only;omega,?_,X0 rfl (X0 (by simp only;rw[hs];rfl) sbW)⟩;exact hds
   |false=>
    rw[hu]at gu;have hs:fi w (k+1)=y:=hs.trans (if_neg (by simp[hu]));repeat'(first|(refine AXi.fam (j:=72) F rfl rfl k _ rfl gu rfl ah ?_;conv=>whnf)|refine awz ?_|(refine X3 ac ac ?_;conv=>whnf)|fail)
    refine bd.mk ⟨(k+1,R,hi),⟨hlt,hm,by show cJ lo hi (bS R 0 (fi w (k+1)).ds) (fi w (k+1)).ds;rw[hs];exact F⟩,by simp only;omega,?_,X0 rfl (X0 (by simp only;rw[hs];rfl) sbW)⟩;exact hds
  ·have e:k=6:=ac;subst e;repeat'(first|refine awz ?_|fail)
   exact⟨lo,hi,Nat.le_refl _,F.fam⟩
theorem GY(x:DWorld)(hs:Ym 1048576 x):ce av 27 [.agg x.ds,.one (.pv (.func (.func 28) #[] #[]))] (.agg (gB x).ds):=by
 unfold gB;have wo:=LI x hs;cases hw:dN x with
 |false=>
  rw[hw]at wo;rw[if_neg aj];refine cL aN func27 rfl call27 ntmps27 (aaK results27) λS=>?_;conv=>whnf
  repeat'(first|refine awz ?_|(refine XZ ai rfl ?_;conv=>whnf)|fail)
  exact⟨S.w0.heap.size,S.w0.heap.size,_,⟨Nat.le_refl _,trivial,trivial⟩,Ya Pb,rfl⟩
 |true=>
  rw[hw]at wo;rw[if_pos rfl];have hv:=G7 x hw;refine mz aN func27 rfl call27 ntmps27 (aaK results27) λS=>?_;conv=>whnf
  repeat'((first|refine Yh (GX x hs) rfl rfl λR lo hi m1 m2 F=>?_|refine aG.v F hv rfl rfl rfl m2 λR3 hi3 q3 F3=>?_|refine awz ?_|refine XZ ai rfl ?_|fail)<;>conv=>whnf)
  exact⟨lo,hi3,m1,F3.fam⟩
theorem wX(x:DWorld)(hs:Ym 1048576 x):ce av 7 [.agg x.ds] (.agg (gB x).ds):=by
 refine cL aN func7 rfl call7 ntmps7 (aaK results7) λS=>?_;conv=>whnf
 repeat'(first|refine awz ?_|fail)
 refine X6 (GY x hs) rfl rfl λR l1 e1 a1 b1 F1=>?_;conv=>whnf
 repeat'(first|refine awz ?_|fail)
 exact⟨l1,e1,(gB x).ds,⟨a1,trivial,trivial⟩,F1,rfl⟩
def kI:List (List Nat):=bZ [0,0,2,4290,1056961]
def kK:List (List Nat):=fB 3 [24,2,5]
theorem lawTickedAll_p(o:DWorld)(hs:Ym 9223372036854775807 o):aM av 3 [.agg o.ds] (rB true):=by
 refine pO func3 call3 ntmps3 results3 λS=>?_;conv=>whnf
 repeat'((first|refine awz ?_|refine cP (Gb o 1048576 ah ah hs) ?_|exact rr|refine tB ?_ ?_|intro h)<;>conv=>whnf)
 have hc:o.cnt<=1048576:=by
  simp only[decide_eq_false_iff_not]at h;omega
 have hs':Ym 1048576 o:=Zz hc;clear h;have hy:=HQ (x:=o);have hy9:(gB o).cnt<=30000000:=by
  unfold gB;split
  ·rename_i h;exact Uc (nD h 6)
  ·exact Nat.zero_le _
 have hk9:=wK o;have hk0:=wL o;have hn9:=wK (gB o);have hn0:=wL (gB o);have d1:decide (1+dw o<0)=false:=by simp only[decide_eq_false_iff_not];omega
 have d2:decide (1+dw (gB o)<0)=false:=by simp only[decide_eq_false_iff_not];omega
 have d3:((1+dw (gB o)) !=(1+dw (gB o)))=false:=neI _;skip
 refine XZ (uD o hs') rfl ?_;conv=>whnf
 skip
 refine XZ (HL o hs') rfl ?_;conv=>whnf
 repeat'(first|refine awz ?_|fail)
 refine ZN 9001 (Gg o hs') (aaG rfl) λP u=>?_;conv=>whnf
 repeat'(first|refine awz ?_|fail)
 refine ZN 9002 (wX o hs') (YO 9001 rfl rfl rfl) λP2 u2=>?_;conv=>whnf
 repeat'(first|refine awz ?_|fail)
 refine Y1 (oY (gB o) hy) (YO 9002 rfl rfl rfl) rfl ?_;conv=>whnf
 repeat'(first|refine awz ?_|fail)
 (refine X9 aN 10 3 kI kK ae ae ae rfl ?_;conv=>whnf)
 repeat'((first|refine awz ?_|refine cP (uD o hs') ?_|refine Y1 (oY o hs') (YO 9001 rfl rfl rfl) rfl ?_|fail)<;>conv=>whnf)
 refine Yi 9001 0 [] [] [] [] (xh o 1 ah ac) rfl rfl rfl rfl rfl ?_;conv=>whnf
 repeat'(first|refine awz ?_|fail)
 refine Y1 (oY (gB o) hy) (YO 9002 rfl rfl rfl) rfl ?_;conv=>whnf
 repeat'(first|refine awz ?_|fail)
 refine Yi 9002 0 [] [] [] [] (xh (gB o) 1 ah ac) rfl rfl rfl rfl rfl ?_;conv=>whnf
 repeat'(first|refine awz ?_|fail)
 refine Y1 (yO (gB o) hy 1 ah ac) (YO 9002 rfl rfl rfl) rfl ?_;conv=>whnf
 repeat'(first|refine awz ?_|fail)
 refine XZ (uD o hs') rfl ?_;conv=>whnf
 skip
 refine XZ (wX o hs').pcall rfl ?_;conv=>whnf
 repeat'(first|refine awz ?_|fail)
 refine XZ (oY (gB o) hy) rfl ?_;conv=>whnf
 repeat'(first|refine awz ?_|fail)
 refine Y1 (yO (gB o) hy 1 ah ac) (YO 9002 rfl rfl rfl) rfl ?_;conv=>whnf
 repeat'(first|refine awz ?_|exact rr|fail)
end Go.Proofs.YtknefkdcokgpbaaGreat
