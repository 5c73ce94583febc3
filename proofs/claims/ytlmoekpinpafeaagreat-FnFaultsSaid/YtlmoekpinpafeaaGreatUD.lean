/- UD -/
import Derived.Test.YtlmoekpinpafeaaGreatWR4
import Derived.Test.YtlmoekpinpafeaaGreatQC
import Derived.Test.YtlmoekpinpafeaaGreatQJ
import Derived.Test.YtlmoekpinpafeaaGreatAvMD
import Derived.Test.YtlmoekpinpafeaaGreatAvJ3
import Derived.Test.YtlmoekpinpafeaaGreatAvFC
set_option maxHeartbeats 20000000
set_option linter.unusedVariables false
set_option linter.unusedSimpArgs false
set_option maxRecDepth 100000
namespace Go.Proofs.YtlmoekpinpafeaaGreat
open Go.Proofs.Tryz
open Go.ChangeShapes Go.WideShapes Go.RowKit
def rm:List (List Nat):=a8 [0,1,2,0,4,197,0,7,392,0,10,587,0,13,782,0,16,977,0,19,1172,0,22,1367,0,0,26,100057,7988315155370371,0,0x1e75c6da6585d65544d24503ce34c2ca2481c61440c205c75e]
theorem aU(x:DWorld)(hs:DWorld.small 1048576 x):cV av 62 [.agg (x.ds.map .d)] [] (wOn 41 42 28 x) [] (.val (.agg (x.ow 41 42 28))):=by
 obtain⟨h1,h2,h3,h4,h5,h6,h7,h8,h9⟩:=id hs;have c1:=BY x.log h1;have c2:=yB x.store h2;have c3:=p6 x.left h3;have c4:=p6 x.right h4;have c5:=ov x.ann h5;have c6:=ov x.bob h6;unfold wOn DWorld.ow;refine bL aL func62 rfl call62 ntmps62 (WA results62) rfl λS pv=>?_;conv=>whnf
 repeat'(first|refine awz ?_|fail)
 (refine TD aL 1 (tkc [0,1,3,4,6,7,9,10,12,13,15,16,18,19,21,22,25,26] (.three 2 (.three 5 (.three 8 (.three 11 (.three 14 (.three 17 (.three 20 (.three 23 (.two 24 (.two 27 (.two 28 (.one 29 (.one 30 .done)) 29 (.one 28 (.one 30 .done))) 29 (onc [27,28,30] .done)) 29 (onc [24,27,28,30] .done)) 24 (.two 23 (.two 27 (.two 28 (.one 29 (.one 30 .done)) 29 (.one 28 (.one 30 .done))) 29 (onc [27,28,30] .done)) 29 (onc [23,27,28,30] .done)) 29 (.two 23 (onc [24,27,28,30] .done) 24 (onc [23,27,28,30] .done))) 24 (.two 20 (.two 23 (.two 27 (.two 28 (.one 29 (.one 30 .done)) 29 (.one 28 (.one 30 .done))) 29 (onc [27,28,30] .done)) 29 (onc [23,27,28,30] .done)) 29 (onc [20,23,27,28,30] .done)) 29 (.two 20 (.two 23 (onc [24,27,28,30] .done) 24 (onc [23,27,28,30] .done)) 24 (onc [20,23,27,28,30] .done))) 24 (.two 17 (.two 20 (.two 23 (.two 27 (.two 28 (.one 29 (.one 30 .done)) 29 (.one 28 (.one 30 .done))) 29 (onc [27,28,30] .done)) 29 (onc [23,27,28,30] .done)) 29 (onc [20,23,27,28,30] .done)) 29 (onc [17,20,23,27,28,30] .done)) 29 (.two 17 (.two 20 (.two 23 (onc [24,27,28,30] .done) 24 (onc [23,27,28,30] .done)) 24 (onc [20,23,27,28,30] .done)) 24 (onc [17,20,23,27,28,30] .done))) 24 (.two 14 (.two 17 (.two 20 (.two 23 (.two 27 (.two 28 (.one 29 (.one 30 .done)) 29 (.one 28 (.one 30 .done))) 29 (onc [27,28,30] .done)) 29 (onc [23,27,28,30] .done)) 29 (onc [20,23,27,28,30] .done)) 29 (onc [17,20,23,27,28,30] .done)) 29 (onc [14,17,20,23,27,28,30] .done)) 29 (.two 14 (.two 17 (.two 20 (.two 23 (onc [24,27,28,30] .done) 24 (onc [23,27,28,30] .done)) 24 (onc [20,23,27,28,30] .done)) 24 (onc [17,20,23,27,28,30] .done)) 24 (onc [14,17,20,23,27,28,30] .done))) 24 (.two 11 (.two 14 (.two 17 (.two 20 (.two 23 (.two 27 (.two 28 (.one 29 (.one 30 .done)) 29 (.one 28 (.one 30 .done))) 29 (onc [27,28,30] .done)) 29 (onc [23,27,28,30] .done)) 29 (onc [20,23,27,28,30] .done)) 29 (onc [17,20,23,27,28,30] .done)) 29 (onc [14,17,20,23,27,28,30] .done)) 29 (onc [11,14,17,20,23,27,28,30] .done)) 29 (.two 11 (.two 14 (.two 17 (.two 20 (.two 23 (onc [24,27,28,30] .done) 24 (onc [23,27,28,30] .done)) 24 (onc [20,23,27,28,30] .done)) 24 (onc [17,20,23,27,28,30] .done)) 24 (onc [14,17,20,23,27,28,30] .done)) 24 (onc [11,14,17,20,23,27,28,30] .done))) 24 (.two 8 (.two 11 (.two 14 (.two 17 (.two 20 (.two 23 (.two 27 (.two 28 (.one 29 (.one 30 .done)) 29 (.one 28 (.one 30 .done))) 29 (onc [27,28,30] .done)) 29 (onc [23,27,28,30] .done)) 29 (onc [20,23,27,28,30] .done)) 29 (onc [17,20,23,27,28,30] .done)) 29 (onc [14,17,20,23,27,28,30] .done)) 29 (onc [11,14,17,20,23,27,28,30] .done)) 29 (onc [8,11,14,17,20,23,27,28,30] .done)) 29 (.two 8 (.two 11 (.two 14 (.two 17 (.two 20 (.two 23 (onc [24,27,28,30] .done) 24 (onc [23,27,28,30] .done)) 24 (onc [20,23,27,28,30] .done)) 24 (onc [17,20,23,27,28,30] .done)) 24 (onc [14,17,20,23,27,28,30] .done)) 24 (onc [11,14,17,20,23,27,28,30] .done)) 24 (onc [8,11,14,17,20,23,27,28,30] .done))) 24 (.two 5 (.two 8 (.two 11 (.two 14 (.two 17 (.two 20 (.two 23 (.two 27 (.two 28 (.one 29 (.one 30 .done)) 29 (.one 28 (.one 30 .done))) 29 (onc [27,28,30] .done)) 29 (onc [23,27,28,30] .done)) 29 (onc [20,23,27,28,30] .done)) 29 (onc [17,20,23,27,28,30] .done)) 29 (onc [14,17,20,23,27,28,30] .done)) 29 (onc [11,14,17,20,23,27,28,30] .done)) 29 (onc [8,11,14,17,20,23,27,28,30] .done)) 29 (onc [5,8,11,14,17,20,23,27,28,30] .done)) 29 (.two 5 (.two 8 (.two 11 (.two 14 (.two 17 (.two 20 (.two 23 (onc [24,27,28,30] .done) 24 (onc [23,27,28,30] .done)) 24 (onc [20,23,27,28,30] .done)) 24 (onc [17,20,23,27,28,30] .done)) 24 (onc [14,17,20,23,27,28,30] .done)) 24 (onc [11,14,17,20,23,27,28,30] .done)) 24 (onc [8,11,14,17,20,23,27,28,30] .done)) 24 (onc [5,8,11,14,17,20,23,27,28,30] .done))) 24 (.two 2 (.two 5 (.two 8 (.two 11 (.two 14 (.two 17 (.two 20 (.two 23 (.two 27 (.two 28 (.one 29 (.one 30 .done)) 29 (.one 28 (.one 30 .done))) 29 (onc [27,28,30] .done)) 29 (onc [23,27,28,30] .done)) 29 (onc [20,23,27,28,30] .done)) 29 (onc [17,20,23,27,28,30] .done)) 29 (onc [14,17,20,23,27,28,30] .done)) 29 (onc [11,14,17,20,23,27,28,30] .done)) 29 (onc [8,11,14,17,20,23,27,28,30] .done)) 29 (onc [5,8,11,14,17,20,23,27,28,30] .done)) 29 (onc [2,5,8,11,14,17,20,23,27,28,30] .done)) 29 (.two 2 (.two 5 (.two 8 (.two 11 (.two 14 (.two 17 (.two 20 (.two 23 (onc [24,27,28,30] .done) 24 (onc [23,27,28,30] .done)) 24 (onc [20,23,27,28,30] .done)) 24 (onc [17,20,23,27,28,30] .done)) 24 (onc [14,17,20,23,27,28,30] .done)) 24 (onc [11,14,17,20,23,27,28,30] .done)) 24 (onc [8,11,14,17,20,23,27,28,30] .done)) 24 (onc [5,8,11,14,17,20,23,27,28,30] .done)) 24 (onc [2,5,8,11,14,17,20,23,27,28,30] .done)))) [(1,9980)] rm ae ae ae ae (λRz=>?_);(conv=>whnf);intro bp0 up0;(conv=>whnf))
 repeat'((first|refine awz ?_|refine cP (c1) ?_|refine cP (c2) ?_|refine cP (c3) ?_|refine cP (c4) ?_|refine cP (c5) ?_|refine cP (c6) ?_|refine TA (BZ x.net h7) [(40,41)] rfl rfl ?_|refine TA (Dn x.clocks h8) [(3,42)] rfl rfl ?_|refine aP (by first|(intro y hy;obtain⟨a,_,rfl⟩:=List.mem_map.1 hy;rfl)|(simp;done)) ?_|refine aQ ak ?_|exact rZ|refine tW ?_ ?_|fail)<;>conv=>whnf)
def gL:List (List Nat):=a8 [0,1,0,0,259,5,386,7,8,8,0,0xb2481c61440c204724b,0x30b28920718510308130a]
def WQ(y:DWorld):Prop:=bz y=true
theorem AN(l:List DAck)(hl:l.length<=1000000):bq av 172 [.one (.sl (l.map DAck.ds))] vj (λy=> .val (.one (.sl (y.map DMsg.ds)))):=by
 refine aO aL func172 rfl call172 ntmps172 (WA results172) λS=>?_;conv=>whnf
 repeat'(first|refine awz ?_|fail)
 refine TE (λg:Nat×List DMsg=>g.1<=l.length/\vj g.2) (6::[3,4,5,7,8,9,10,11,12,13,14,15,16,17,18,19,20,21,22,23,24,25,26,27,28,29,30,31,32,33,34,35]) (λg=>[(3,.one (.own 6)),(4,vI .i64 (g.1:Int))]) (λg=>[(6,.row 120 3 (g.2.map DMsg.ds))]) (λg=>l.length-g.1) (0,[]) ⟨Nat.zero_le _,by simp[vj]⟩ ?_ sbW (λg hg=>?_)<;>(conv=>whnf)
 ·exact whd
 ·obtain⟨k,ms⟩:=g;obtain⟨hk,hm⟩:=hg;simp only at hk;have hm:vj ms:=hm;by_cases hlt:k<l.length
  ·have hc:decide ((k:Int)<((l.map DAck.ds).length:Int))=true:=al;by_cases h60:ms.length<60
   ·have q:decide (((ms.map DMsg.ds).length:Int)<60)=true:=al;repeat'((first|refine awz ?_|refine TJ hlt ?_|refine aG.q (L6 l[k]) rfl λy hy=>?_|refine aQ ak ?_|refine Tz ac ac ?_|refine tW ?_ ?_|intro h)<;>conv=>whnf)
    ·refine aW.mk ⟨(k+1,ms++[⟨0,l[k].client,y⟩]),⟨hlt,by simp;omega,λm hmm=>?_⟩,by show l.length-(k+1)<l.length-k;omega,?_,Tu (by rw[List.map_append];rfl) Tx⟩
     ·rcases List.mem_append.1 hmm with h|h
      ·exact hm.2 m h
      ·rw[List.mem_singleton.1 h];exact Nat.le_trans hy ah
     ·exact hds
    ·refine aW.mk ⟨(k+1,ms),⟨hlt,hm⟩,by show l.length-(k+1)<l.length-k;omega,?_,sbW⟩;exact hds
   ·have q:decide (((ms.map DMsg.ds).length:Int)<60)=false:=al;repeat'(first|refine awz ?_|fail)
    all_goals exact⟨ms,hm,rfl⟩
  ·have hc:decide ((k:Int)<((l.map DAck.ds).length:Int))=false:=al;repeat'(first|refine awz ?_|fail)
   all_goals exact⟨ms,hm,rfl⟩
theorem l5(w:DWorld)(l:List DMsg)(hw:bz w=true)(hl:vj l):de av 171 [.agg (w.ds.map .d),.one (.d (.sl (l.map DMsg.ds)))] [] WQ [41,42,43] wO [] wR:=by
 have hs:=bp hw;have f:=qQ hw;have hlen:=hl.1;have wo:=cJ w hs;rw[hw]at wo;have q60:decide (((l.map DMsg.ds).length:Int)<=60)=true:=al;refine aT aL func171 rfl call171 ntmps171 (WA results171) (λ_=>rfl) rfl (λ_=>rfl) λS pv=>?_;conv=>whnf
 repeat'((first|refine awz ?_|refine cP (wo) ?_|refine TA (aU w hs) [(41,41),(42,42),(28,43)] rfl rfl ?_|fail)<;>conv=>whnf)
 refine TE (λg:Nat×DNet=>g.1<=l.length/\dg g.2=true) (14::[6,7,8,15,16,17,18,19,20,21,22,23,24,25,26,27,28,29,30,31,32,33,34,35,36,37,38]) (λg=>[(6,vI .i64 (g.1:Int))]) (λg=>[(9999,.frame (cE []) pv),(2,.cells 78 (w.ds.map .d)),(4,.cells 78 (uN.ds.map λd=>match d with| .pv v=> .d (.pv v)|_=> .nil)),(5,.cells 78 (DWorld.own {w with net:=g.2}))]++wO {w with net:=g.2}) (λg=>l.length-g.1) (0,w.net) ⟨Nat.zero_le _,f.net⟩ ?_ sbW (λg hg=>?_)<;>(conv=>whnf)
 ·exact whd
 ·obtain⟨k,n⟩:=g;obtain⟨hk,hn⟩:=hg;simp only at hk hn;have hns:=dL hn;by_cases hlt:k<l.length
  ·have hc:decide ((k:Int)<((l.map DMsg.ds).length:Int))=true:=al;have hr:l[k].row.length<=1048576:=Nat.le_trans (hl.2 _ (List.getElem_mem hlt)) ah;cases hm:jC l[k]with
   |false=>
    have c1:=KX n l[k] hn hm;repeat'(first|refine awz ?_|fail)
    (refine TD aL 7 (tkc [0,1,2,3,4,5] (.two 6 (tkc [7,8,9] (.one 10 (.one 11 (.take 12 .done)))) 10 (.one 6 (tkc [7,8,9] (.one 11 (.take 12 .done)))))) [(5,9980)] gL ae ae ae ae (λRz=>?_);(conv=>whnf);intro bp0 up0;(conv=>whnf))
    repeat'((first|refine awz ?_|refine TJ hlt ?_|refine T1 c1 rfl ?_|refine Tz ac ac ?_|refine tW ?_ ?_|fail)<;>conv=>whnf)
    all_goals
     refine aW.mk ⟨(k+1,n),⟨hlt,hn⟩,by show l.length-(k+1)<l.length-k;omega,?_,sbW⟩;exact hds
   |true=>
    by_cases h60:n.flight.length=60
    ·have c1:=EP n l[k] hn hm h60;repeat'(first|refine awz ?_|fail)
     (refine TD aL 7 (tkc [0,1,2,3,4,5] (.two 6 (tkc [7,8,9] (.one 10 (.one 11 (.take 12 .done)))) 10 (.one 6 (tkc [7,8,9] (.one 11 (.take 12 .done)))))) [(5,9980)] gL ae ae ae ae (λRz=>?_);(conv=>whnf);intro bp0 up0;(conv=>whnf))
     repeat'((first|refine awz ?_|refine TJ hlt ?_|refine T1 c1 rfl ?_|refine Tz ac ac ?_|refine tW ?_ ?_|fail)<;>conv=>whnf)
     all_goals
      refine aW.mk ⟨(k+1,n),⟨hlt,hn⟩,by show l.length-(k+1)<l.length-k;omega,?_,sbW⟩;exact hds
    ·have c1:=EQ n l[k] hn hm hns hr h60;repeat'(first|refine awz ?_|fail)
     (refine TD aL 7 (tkc [0,1,2,3,4,5] (.two 6 (tkc [7,8,9] (.one 10 (.one 11 (.take 12 .done)))) 10 (.one 6 (tkc [7,8,9] (.one 11 (.take 12 .done)))))) [(5,9980)] gL ae ae ae ae (λRz=>?_);(conv=>whnf);intro bp0 up0;(conv=>whnf))
     repeat'(first|refine awz ?_|(refine TJ hlt ?_;conv=>whnf)|(refine aG.freeze 41 120 3 (n.flight.map DMsg.ds) rfl ?_;(conv=>whnf);refine TA c1 [(41,41)] rfl rfl ?_;conv=>whnf)|(refine Tz ac ac ?_;conv=>whnf)|refine tW ?_ ?_|fail)
     all_goals
      refine aW.mk ⟨(k+1,⟨n.flight++[l[k]],n.cuts⟩),⟨hlt,IR hn hm h60⟩,by show l.length-(k+1)<l.length-k;omega,?_,sbW⟩;exact hds
  ·have e:k=l.length:=ac;subst e;have hc:decide ((l.length:Int)<((l.map DMsg.ds).length:Int))=false:=ai;repeat'(first|refine awz ?_|fail)
   all_goals exact⟨{w with net:=n},(f.withNet hn).ok,rfl,rfl,rfl,rfl,rfl,trivial⟩
abbrev R9(w:DWorld)(n:DNet):List (Nat×AO):=wO {w with net:=n}
abbrev Sa(w:DWorld)(n:DNet):AR:=wR {w with net:=n}
theorem jL(w:DWorld)(a b:Int)(r:List Int)(hw:bz w=true)(hr:r.length<=1000):de av 173 [.agg w.own,.one (.d (dI a)),.one (.d (dI b)),.one (.d (.sl (r.map eI)))] (wO w) (λn:DNet=>dg n=true) [41,42,43] (R9 w) [] (Sa w):=by
 have f:=qQ hw;have hn:=f.net;have hns:=dL hn;cases hm:jC ⟨a,b,r⟩with
 |false=>
  have c1:=KX w.net ⟨a,b,r⟩ hn hm;refine aT aL func173 rfl call173 ntmps173 (WA results173) (λ_=>rfl) rfl (λ_=>rfl) λS pv=>?_;conv=>whnf
  repeat'(first|refine awz ?_|(refine T1 c1 rfl ?_;conv=>whnf)|fail)
  all_goals exact⟨w.net,hn,rfl,rfl,rfl,rfl,rfl,trivial⟩
 |true=>
  have hr0:0<r.length:=by simp only[jC,Bool.and_eq_true,decide_eq_true_eq]at hm;exact hm.1.2
  by_cases h60:w.net.flight.length=60
  ·have c1:=EP w.net ⟨a,b,r⟩ hn hm h60;refine aT aL func173 rfl call173 ntmps173 (WA results173) (λ_=>rfl) rfl (λ_=>rfl) λS pv=>?_;conv=>whnf
   repeat'(first|refine awz ?_|(refine T1 c1 rfl ?_;conv=>whnf)|fail)
   all_goals exact⟨w.net,hn,rfl,rfl,rfl,rfl,rfl,trivial⟩
  ·have c1:=EQ w.net ⟨a,b,r⟩ hn hm hns (Nat.le_trans hr ah) h60;have q:decide (((r.map eI).length:Int)>0)=true:=al;refine aT aL func173 rfl call173 ntmps173 (WA results173) (λ_=>rfl) rfl (λ_=>rfl) λS pv=>?_;conv=>whnf
   repeat'(first|refine awz ?_|(refine aG.freeze 41 120 3 (w.net.flight.map DMsg.ds) rfl ?_;(conv=>whnf);refine TA c1 [(41,41)] rfl rfl ?_;conv=>whnf)|fail)
   all_goals exact⟨⟨w.net.flight++[⟨a,b,r⟩],w.net.cuts⟩,IR hn hm h60,rfl,rfl,rfl,rfl,rfl,trivial⟩
def nS(l:List Int):Int:=if bm l&&decide (l.length≠0)&&aI (l.getD 0 0) 1 9 then l.getD 0 0 else 0
theorem tv(l:List Int):aM av 214 [.one (dIs l)] (.val (pI (nS l))):=by
 cases hr:bm l with
 |false=>
  have hn:(!bm l)=true:=by rw[hr];rfl
  have e:nS l=0:=by simp[nS,hr]
  rw[e];refine pO func214 call214 ntmps214 results214 λS=>?_;conv=>whnf
  repeat'(first|refine awz ?_|(refine cP (bM l) ?_;conv=>whnf)|exact rr|fail)
 |true=>
  have hn:(!bm l)=false:=by rw[hr];rfl
  rcases l with _|⟨x,r⟩
  ·have e:nS []=0:=by simp[nS]
   rw[e];refine pO func214 call214 ntmps214 results214 λS=>?_;conv=>whnf
   repeat'(first|refine awz ?_|(refine cP (bM []) ?_;conv=>whnf)|exact rr|fail)
  ·have h0:((((x::r).map eI).length:Int)==0)=false:=al;cases hb:aI x 1 9 with
   |false=>
    have hn2:(!aI x 1 9)=true:=by rw[hb];rfl
    have e:nS (x::r)=0:=by simp[nS,hb]
    rw[e];refine pO func214 call214 ntmps214 results214 λS=>?_;conv=>whnf
    repeat'((first|refine awz ?_|refine cP (bM (x::r)) ?_|refine Ty 0 _ rfl rfl ?_|refine cP (aN _ _ _) ?_|exact rr|fail)<;>conv=>whnf)
   |true=>
    have hn2:(!aI x 1 9)=false:=by rw[hb];rfl
    have e:nS (x::r)=x:=by simp[nS,hb,hr]
    rw[e];refine pO func214 call214 ntmps214 results214 λS=>?_;conv=>whnf
    repeat'((first|refine awz ?_|refine cP (bM (x::r)) ?_|refine Ty 0 _ rfl rfl ?_|refine cP (aN _ _ _) ?_|exact rr|fail)<;>conv=>whnf)
section
variable {w:DWorld}{k:Nat}
def oT:List (List Nat):=a8 [0,1,0,0,4,5,6,28866,8,9,9,0,0x30a2481c61440c204828c,0xd30b28920718510308134b]
def fL:List (List Nat):=a8 [0,0,2,12481,4345827588]
def oU:List (List Nat):=a8 [0,0,2,0,4,0,389,455,2130113,0x9207185103081249]
def mL:List (List Nat):=a8 [0,0,2,0,4,1331393,26736222278022]
def mM:List (List Nat):=a8 [0,0,2,0,4,5,390,1863873,0x207185103081208]
theorem gZ(h:w.up.length=6)(hk:k<6):(w.up.map eB)[k]? =some (eB (dy w k)):=by
 rw[List.getElem?_map,List.getElem?_eq_getElem ac,dy,List.getD_eq_getElem?_getD,List.getElem?_eq_getElem ac];rfl
theorem DY(f:gG w)(hk:k<6):∃c:Int,(w.clocks.map eI)[k]? =some (eI c)/\0<=c/\c<=1000000:=by
 obtain⟨h6,hr⟩:w.clocks.length=6/\∀x∈w.clocks,0<=x/\x<=1000000:=by
  have h:=f.clocks;simp only[cK,Bool.and_eq_true,decide_eq_true_eq,List.all_eq_true,tOk,aI]at h;exact h
 have hl:k<w.clocks.length:=ac;exact⟨w.clocks[k],by rw[List.getElem?_map,List.getElem?_eq_getElem hl];rfl,hr _ (List.getElem_mem hl)⟩
theorem G6(w:DWorld)(m:DMsg)(hw:bz w=true):de av 166 [.agg (w.ds.map .d),.agg (m.ds.map .d)] [] WQ [41,42,43] wO [] wR:=by
 have hs:=bp hw;have f:=qQ hw;have wo:=cJ w hs;rw[hw]at wo;have gu:=gZ f.ul (show 0<6 by decide);obtain⟨c,gc,hc⟩:=DY f (show 0<6 by decide);have ck:=tv m.row;generalize nS m.row=kd at ck;cases hu:dy w 0 with
 |false=>
  rw[hu]at gu;refine aT aL func166 rfl call166 ntmps166 (WA results166) (λ_=>rfl) rfl (λ_=>rfl) λS pv=>?_;conv=>whnf
  repeat'((first|refine awz ?_|refine cP (wo) ?_|refine TA (aU w hs) [(41,41),(42,42),(28,43)] rfl rfl ?_|refine Ty 0 _ rfl gu ?_|fail)<;>conv=>whnf)
  all_goals exact⟨w,hw,rfl,rfl,rfl,rfl,rfl,trivial⟩
 |true=>
  rw[hu]at gu;have lf:=OO (f.logOk hu);refine aT aL func166 rfl call166 ntmps166 (WA results166) (λ_=>rfl) rfl (λ_=>rfl) λS pv=>?_;conv=>whnf
  repeat'(first|((first|refine awz ?_|refine cP (wo) ?_|refine cP (ck) ?_|refine TA (aU w hs) [(41,41),(42,42),(28,43)] rfl rfl ?_|refine Ty 0 _ rfl gu ?_|refine Ty 0 _ rfl gc ?_|(refine aG.q (Mk m.row) rfl λa _=>?_;obtain⟨a,b⟩:=a)|(refine aG.q (Ha m.row) rfl λa _=>?_;obtain⟨a,b⟩:=a)|(refine aG.q (Jy m.row) rfl λa _=>?_;obtain⟨a,b⟩:=a)|fail)<;>conv=>whnf)|(refine TD aL 10 (tkc [0,1,2,3,4,5,6] (.two 7 (tkc [8,9,10] (.one 11 (.one 12 (.take 13 .done)))) 11 (.one 7 (tkc [8,9,10] (.one 12 (.take 13 .done)))))) [(2,9980),(6,9981)] oT ae ae ae ae (λRz=>?_);(conv=>whnf);intro bp0 up0;(conv=>whnf);intro bp1 up1;(conv=>whnf))|(refine TD aL 12 (.take 0 (.take 1 (onc [2,3,4] .done))) [(5,9980)] fL ae ae ae ae (λRz=>?_);(conv=>whnf);intro bp0 up0;(conv=>whnf))|(refine TD aL 16 (tkc [0,1,2,3,4,5] (onc [6,7,8,9] .done)) [(5,9980),(3,9981),(2,9982)] oU ae ae ae ae (λRz=>?_);(conv=>whnf);intro bp0 up0;(conv=>whnf);intro bp1 up1;(conv=>whnf);intro bp2 up2;(conv=>whnf))|((first|refine aG.q (I3 w.log _ c lf hc) rfl λy hy=>?_|refine aG.q (AN _ (Nat.le_trans hy.2 ah)) rfl λms hms=>?_|fail)<;>conv=>whnf)|(refine aG.freeze 41 120 3 (w.net.flight.map DMsg.ds) rfl ?_;(conv=>whnf);refine aG.freeze 42 2 1 (w.clocks.map eI) rfl ?_;(conv=>whnf);refine aG.freeze 43 4 1 (w.up.map eB) rfl ?_;(conv=>whnf);refine TF (l5 {w with log:=y.1} ms (f.withLog hu hy.1.ok).ok hms) [(41,41),(42,42),(43,43)] w (λ_=>rfl) rfl trivial λz hz=>?_;conv=>whnf)|((first|refine aG.q (GU w.log _ lf) rfl λy hy=>?_|refine aG.q (Jh _ hy) rfl λr hr=>?_|refine TF (jL w 0 m.frm r hw hr) [(41,41),(42,42),(43,43)] w.net (λ_=>rfl) rfl ⟨rfl,rfl,rfl,trivial⟩ λnz hnz=>?_|refine aG.q (EV w.log _ lf) rfl λy hy=>?_|refine tW ?_ ?_|intro h)<;>conv=>whnf))
  all_goals first
   |exact⟨w,hw,rfl,rfl,rfl,rfl,rfl,trivial⟩
   |exact⟨z,hz,rfl,rfl,rfl,rfl,rfl,trivial⟩
   |exact⟨{w with net:=nz},(f.withNet hnz).ok,rfl,rfl,rfl,rfl,rfl,trivial⟩
   |exact⟨{w with log:=y},(f.withLog hu hy.ok).ok,rfl,rfl,rfl,rfl,rfl,trivial⟩
theorem BU(w:DWorld)(m:DMsg)(hw:bz w=true):de av 167 [.agg (w.ds.map .d),.agg (m.ds.map .d)] [] WQ [41,42,43] wO [] wR:=by
 have hs:=bp hw;have f:=qQ hw;have wo:=cJ w hs;rw[hw]at wo;have gu:=gZ f.ul (show 1<6 by decide);have ck:=tv m.row;generalize nS m.row=kd at ck;cases hu:dy w 1 with
 |false=>
  rw[hu]at gu;refine aT aL func167 rfl call167 ntmps167 (WA results167) (λ_=>rfl) rfl (λ_=>rfl) λS pv=>?_;conv=>whnf
  repeat'((first|refine awz ?_|refine cP (wo) ?_|refine TA (aU w hs) [(41,41),(42,42),(28,43)] rfl rfl ?_|refine Ty 1 _ rfl gu ?_|fail)<;>conv=>whnf)
  all_goals exact⟨w,hw,rfl,rfl,rfl,rfl,rfl,trivial⟩
 |true=>
  rw[hu]at gu;have hso:=f.storeOk hu;refine aT aL func167 rfl call167 ntmps167 (WA results167) (λ_=>rfl) rfl (λ_=>rfl) λS pv=>?_;conv=>whnf
  repeat'(first|((first|refine awz ?_|refine cP (wo) ?_|refine cP (ck) ?_|refine TA (aU w hs) [(41,41),(42,42),(28,43)] rfl rfl ?_|refine Ty 1 _ rfl gu ?_|(refine aG.q (Js m.row) rfl λa ha=>?_;obtain⟨a,b⟩:=a)|(refine aG.q (Jw m.row) rfl λa _=>?_;obtain⟨a,b⟩:=a)|(refine aG.q (Jv m.row) rfl λa _=>?_;obtain⟨a,b⟩:=a)|fail)<;>conv=>whnf)|(refine TD aL 15 (tkc [0,1,2,3] (onc [4,5,6] .done)) [(5,9980),(3,9981),(10,9982)] mL ae ae ae ae (λRz=>?_);(conv=>whnf);intro bp0 up0;(conv=>whnf);intro bp1 up1;(conv=>whnf);intro bp2 up2;(conv=>whnf))|(refine TD aL 19 (tkc [0,1,2,3,4] (onc [5,6,7,8] .done)) [(5,9980),(3,9981),(2,9982)] mM ae ae ae ae (λRz=>?_);(conv=>whnf);intro bp0 up0;(conv=>whnf);intro bp1 up1;(conv=>whnf);intro bp2 up2;(conv=>whnf))|((first|refine aG.q (EJ w.store _ hso (Nat.le_trans ha ah)) rfl λy hy=>?_|(refine aG.q (Mj w.store _ hso) rfl λv _=>?_;obtain⟨v,vb⟩:=v)|refine aG.q (Hj v) rfl λr hr=>?_|refine TF (jL w 1 m.frm r hw (Nat.le_trans hr ah)) [(41,41),(42,42),(43,43)] w.net (λ_=>rfl) rfl ⟨rfl,rfl,rfl,trivial⟩ λnz hnz=>?_|refine aG.q (Mg w.store hso) rfl λj hj=>?_|refine aG.q (Jo j hj) rfl λr hr=>?_|refine tW ?_ ?_|intro h)<;>conv=>whnf))
  all_goals first
   |exact⟨w,hw,rfl,rfl,rfl,rfl,rfl,trivial⟩
   |exact⟨{w with net:=nz},(f.withNet hnz).ok,rfl,rfl,rfl,rfl,rfl,trivial⟩
   |exact⟨{w with store:=y},(f.withStore hu hy).ok,rfl,rfl,rfl,rfl,rfl,trivial⟩
end
end Go.Proofs.YtlmoekpinpafeaaGreat
