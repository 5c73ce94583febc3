/- UC -/
import Derived.Test.YthgkdhnlehneeaaGreatDoorAvLD
import Derived.Test.YthgkdhnlehneeaaGreatDoorAvFX
import Derived.Test.YthgkdhnlehneeaaGreatDoorRB7
import Derived.Test.YthgkdhnlehneeaaGreatDoorWR1
import Derived.Test.YthgkdhnlehneeaaGreatDoorWC2
import Derived.Test.YthgkdhnlehneeaaGreatDoorAvCT
set_option maxHeartbeats 20000000
set_option linter.unusedVariables false
set_option linter.unusedSimpArgs false
set_option maxRecDepth 100000
namespace Go.Proofs.YthgkdhnlehneeaaGreatDoor
open Go.Proofs.Tryz
open Go.ChangeShapes Go.WideShapes Go.RowKit
theorem G7(x:ee)(hs:aa5 1048576 x):dd av 120 [.agg (x.ds.map .d)] [] [(40,.row 137 3 (x.flight.map cX.ds))] [] (.val (.agg [.own 40,.d (.sl (x.cuts.map dJ.ds))])):=by
 obtain⟨h1,h2,h3⟩:=(show x.flight.length<=1048576/\(∀y∈x.flight,abr 1048576 y)/\x.cuts.length<=1048576 from hs);refine cH aM func120 rfl call120 ntmps120 (ace results120) rfl λS pv=>?_;conv=>whnf
 repeat'((first|refine awz ?_|refine aW (by first|(intro y hy;obtain⟨a,_,rfl⟩:=List.mem_map.1 hy;rfl)|(simp;done)) ?_|refine a7 ak ?_|fail)<;>conv=>whnf)
 refine aa1 3 0 40 137 3 ai ?_;conv=>whnf
 repeat'(first|refine awz ?_|fail)
 refine aaK (λk:Nat=>k<=x.flight.length) (4::rg 10 32) (λk=>[(4,vI .i64 (k:Int))]) (λk=>[(9999,.frame (dC []) pv),(1,.cells 66 (x.ds.map .d)),(2,.cells 66 [.nil,.nil]),(3,.cells 66 [.own 40,.own 5]),(5,.row 189 2 (x.cuts.map dJ.ds)),(40,.row 137 3 ((x.flight.take k).map cX.ds))]) (λk=>x.flight.length-k) 0 (Nat.zero_le _) ?_ sbW (λk hk=>?_)<;>(conv=>whnf)
 ·exact whd
 ·by_cases hlt:k<x.flight.length
  ·have hc:decide ((k:Int)<((x.flight.map cX.ds).length:Int))=true:=al;have c1:=dN x.flight[k].row (h2 _ (List.getElem_mem hlt));repeat'(first|refine awz ?_|fail)
   (refine aaL aM 5 (tkc [0,2,3,4,5,6,7,8,9,10,11,12,13,14,15,16,17,18,19] (.two 1 (onc [20,21,22,23] (.take 24 (.one 25 .done))) 20 (.two 1 (onc [21,22,23] (.take 24 (.one 25 .done))) 21 (.two 1 (.one 22 (.one 23 (.take 24 (.one 25 .done)))) 22 (.one 1 (.one 23 (.take 24 (.one 25 .done)))))))) [(1,9980)] o9 ae ae ae ae (λRz=>?_);(conv=>whnf);intro bp0 up0;(conv=>whnf))
   repeat'((first|refine awz ?_|refine aaM hlt ?_|refine cP (c1) ?_|refine a7 ak ?_|refine aaH ac ac ?_|refine tW ?_ ?_|fail)<;>conv=>whnf)
   all_goals
    refine a8.mk ⟨k+1,hlt,ac,?_,aaC rfl (aaC rfl (aaC rfl (aaC rfl (aaC rfl (aaC (congrArg some (congrArg (AO.row 137 3) (ir cX.ds hlt).symm)) aaE)))))⟩;exact hds
  ·have e:k=x.flight.length:=ac;subst e;have hc:decide ((x.flight.length:Int)<((x.flight.map cX.ds).length:Int))=false:=ah;rw[List.take_length];repeat'(first|refine awz ?_|exact rZ|fail)
def aP.ow(i j k:Nat)(x:aP):List AC:=(x.ds.take 69).map .d++[.own i,.d (.sl (x.net.cuts.map dJ.ds)),.own j,.own k]
def wOn(i j k:Nat)(x:aP):List (Nat×AO):=[(i,.row 137 3 (x.net.flight.map cX.ds)),(j,.row 2 1 (x.clocks.map eI)),(k,.row 4 1 (x.up.map eB))]
abbrev aP.own(x:aP):List AC:=x.ow 41 42 43
abbrev wO(x:aP):List (Nat×AO):=wOn 41 42 43 x
abbrev wR(x:aP):AR:= .val (.agg x.own)
theorem sX(x:cr)(hs:aaX 1048576 x):aN av 118 [.agg x.ds] (.val (.agg x.ds)):=(Dk x hs).pcall
theorem qE(x:bp)(hs:aaR 1048576 x):aN av 119 [.agg x.ds] (.val (.agg x.ds)):=(BN x hs).pcall
theorem G6(x:aS)(hs:aa0 1048576 x):aN av 116 [.agg x.ds] (.val (.agg x.ds)):=(G5 x hs).pcall
theorem Dm(x:bK)(hs:aa6 1048576 x):aN av 117 [.agg x.ds] (.val (.agg x.ds)):=(Dl x hs).pcall
def uI:List (List Nat):=bC [0,1,2,0,4,197,0,7,392,0,10,587,0,13,782,0,16,977,0,19,1172,0,22,1367,0,0,26,100057,7988315155370371,0,0x1e75c6da6585d65544d24503ce34c2ca2481c61440c205c75e]
theorem bc(x:aP)(hs:aaN 1048576 x):dd av 79 [.agg (x.ds.map .d)] [] (wOn 41 42 28 x) [] (.val (.agg (x.ow 41 42 28))):=by
 obtain⟨h1,h2,h3,h4,h5,h6,h7,h8,h9⟩:=id hs;have c1:=G6 x.log h1;have c2:=Dm x.store h2;have c3:=sX x.left h3;have c4:=sX x.right h4;have c5:=qE x.ann h5;have c6:=qE x.bob h6;unfold wOn aP.ow;refine cH aM func79 rfl call79 ntmps79 (ace results79) rfl λS pv=>?_;conv=>whnf
 repeat'(first|refine awz ?_|fail)
 (refine aaL aM 1 (tkc [0,1,3,4,6,7,9,10,12,13,15,16,18,19,21,22,25,26] (.three 2 (.three 5 (.three 8 (.three 11 (.three 14 (.three 17 (.three 20 (.three 23 (.two 24 (.two 27 (.two 28 (.one 29 (.one 30 .done)) 29 (.one 28 (.one 30 .done))) 29 (onc [27,28,30] .done)) 29 (onc [24,27,28,30] .done)) 24 (.two 23 (.two 27 (.two 28 (.one 29 (.one 30 .done)) 29 (.one 28 (.one 30 .done))) 29 (onc [27,28,30] .done)) 29 (onc [23,27,28,30] .done)) 29 (.two 23 (onc [24,27,28,30] .done) 24 (onc [23,27,28,30] .done))) 24 (.two 20 (.two 23 (.two 27 (.two 28 (.one 29 (.one 30 .done)) 29 (.one 28 (.one 30 .done))) 29 (onc [27,28,30] .done)) 29 (onc [23,27,28,30] .done)) 29 (onc [20,23,27,28,30] .done)) 29 (.two 20 (.two 23 (onc [24,27,28,30] .done) 24 (onc [23,27,28,30] .done)) 24 (onc [20,23,27,28,30] .done))) 24 (.two 17 (.two 20 (.two 23 (.two 27 (.two 28 (.one 29 (.one 30 .done)) 29 (.one 28 (.one 30 .done))) 29 (onc [27,28,30] .done)) 29 (onc [23,27,28,30] .done)) 29 (onc [20,23,27,28,30] .done)) 29 (onc [17,20,23,27,28,30] .done)) 29 (.two 17 (.two 20 (.two 23 (onc [24,27,28,30] .done) 24 (onc [23,27,28,30] .done)) 24 (onc [20,23,27,28,30] .done)) 24 (onc [17,20,23,27,28,30] .done))) 24 (.two 14 (.two 17 (.two 20 (.two 23 (.two 27 (.two 28 (.one 29 (.one 30 .done)) 29 (.one 28 (.one 30 .done))) 29 (onc [27,28,30] .done)) 29 (onc [23,27,28,30] .done)) 29 (onc [20,23,27,28,30] .done)) 29 (onc [17,20,23,27,28,30] .done)) 29 (onc [14,17,20,23,27,28,30] .done)) 29 (.two 14 (.two 17 (.two 20 (.two 23 (onc [24,27,28,30] .done) 24 (onc [23,27,28,30] .done)) 24 (onc [20,23,27,28,30] .done)) 24 (onc [17,20,23,27,28,30] .done)) 24 (onc [14,17,20,23,27,28,30] .done))) 24 (.two 11 (.two 14 (.two 17 (.two 20 (.two 23 (.two 27 (.two 28 (.one 29 (.one 30 .done)) 29 (.one 28 (.one 30 .done))) 29 (onc [27,28,30] .done)) 29 (onc [23,27,28,30] .done)) 29 (onc [20,23,27,28,30] .done)) 29 (onc [17,20,23,27,28,30] .done)) 29 (onc [14,17,20,23,27,28,30] .done)) 29 (onc [11,14,17,20,23,27,28,30] .done)) 29 (.two 11 (.two 14 (.two 17 (.two 20 (.two 23 (onc [24,27,28,30] .done) 24 (onc [23,27,28,30] .done)) 24 (onc [20,23,27,28,30] .done)) 24 (onc [17,20,23,27,28,30] .done)) 24 (onc [14,17,20,23,27,28,30] .done)) 24 (onc [11,14,17,20,23,27,28,30] .done))) 24 (.two 8 (.two 11 (.two 14 (.two 17 (.two 20 (.two 23 (.two 27 (.two 28 (.one 29 (.one 30 .done)) 29 (.one 28 (.one 30 .done))) 29 (onc [27,28,30] .done)) 29 (onc [23,27,28,30] .done)) 29 (onc [20,23,27,28,30] .done)) 29 (onc [17,20,23,27,28,30] .done)) 29 (onc [14,17,20,23,27,28,30] .done)) 29 (onc [11,14,17,20,23,27,28,30] .done)) 29 (onc [8,11,14,17,20,23,27,28,30] .done)) 29 (.two 8 (.two 11 (.two 14 (.two 17 (.two 20 (.two 23 (onc [24,27,28,30] .done) 24 (onc [23,27,28,30] .done)) 24 (onc [20,23,27,28,30] .done)) 24 (onc [17,20,23,27,28,30] .done)) 24 (onc [14,17,20,23,27,28,30] .done)) 24 (onc [11,14,17,20,23,27,28,30] .done)) 24 (onc [8,11,14,17,20,23,27,28,30] .done))) 24 (.two 5 (.two 8 (.two 11 (.two 14 (.two 17 (.two 20 (.two 23 (.two 27 (.two 28 (.one 29 (.one 30 .done)) 29 (.one 28 (.one 30 .done))) 29 (onc [27,28,30] .done)) 29 (onc [23,27,28,30] .done)) 29 (onc [20,23,27,28,30] .done)) 29 (onc [17,20,23,27,28,30] .done)) 29 (onc [14,17,20,23,27,28,30] .done)) 29 (onc [11,14,17,20,23,27,28,30] .done)) 29 (onc [8,11,14,17,20,23,27,28,30] .done)) 29 (onc [5,8,11,14,17,20,23,27,28,30] .done)) 29 (.two 5 (.two 8 (.two 11 (.two 14 (.two 17 (.two 20 (.two 23 (onc [24,27,28,30] .done) 24 (onc [23,27,28,30] .done)) 24 (onc [20,23,27,28,30] .done)) 24 (onc [17,20,23,27,28,30] .done)) 24 (onc [14,17,20,23,27,28,30] .done)) 24 (onc [11,14,17,20,23,27,28,30] .done)) 24 (onc [8,11,14,17,20,23,27,28,30] .done)) 24 (onc [5,8,11,14,17,20,23,27,28,30] .done))) 24 (.two 2 (.two 5 (.two 8 (.two 11 (.two 14 (.two 17 (.two 20 (.two 23 (.two 27 (.two 28 (.one 29 (.one 30 .done)) 29 (.one 28 (.one 30 .done))) 29 (onc [27,28,30] .done)) 29 (onc [23,27,28,30] .done)) 29 (onc [20,23,27,28,30] .done)) 29 (onc [17,20,23,27,28,30] .done)) 29 (onc [14,17,20,23,27,28,30] .done)) 29 (onc [11,14,17,20,23,27,28,30] .done)) 29 (onc [8,11,14,17,20,23,27,28,30] .done)) 29 (onc [5,8,11,14,17,20,23,27,28,30] .done)) 29 (onc [2,5,8,11,14,17,20,23,27,28,30] .done)) 29 (.two 2 (.two 5 (.two 8 (.two 11 (.two 14 (.two 17 (.two 20 (.two 23 (onc [24,27,28,30] .done) 24 (onc [23,27,28,30] .done)) 24 (onc [20,23,27,28,30] .done)) 24 (onc [17,20,23,27,28,30] .done)) 24 (onc [14,17,20,23,27,28,30] .done)) 24 (onc [11,14,17,20,23,27,28,30] .done)) 24 (onc [8,11,14,17,20,23,27,28,30] .done)) 24 (onc [5,8,11,14,17,20,23,27,28,30] .done)) 24 (onc [2,5,8,11,14,17,20,23,27,28,30] .done)))) [(1,9980)] uI ae ae ae ae (λRz=>?_);(conv=>whnf);intro bp0 up0;(conv=>whnf))
 repeat'((first|refine awz ?_|refine cP (c1) ?_|refine cP (c2) ?_|refine cP (c3) ?_|refine cP (c4) ?_|refine cP (c5) ?_|refine cP (c6) ?_|refine aaI (G7 x.net h7) [(40,41)] rfl rfl ?_|refine aaI (IS x.clocks h8) [(3,42)] rfl rfl ?_|refine aW (by first|(intro y hy;obtain⟨a,_,rfl⟩:=List.mem_map.1 hy;rfl)|(simp;done)) ?_|refine a7 ak ?_|exact rZ|refine tW ?_ ?_|fail)<;>conv=>whnf)
def iU:List (List Nat):=bC [0,1,0,0,259,5,386,7,8,8,0,0xb2481c61440c204724b,0x30b28920718510308130a]
def WQ(y:aP):Prop:=aZ y=true
theorem FO(l:List fE)(hl:l.length<=1000000):cA av 265 [.one (.sl (l.map fE.ds))] zg (λy=> .val (.one (.sl (y.map cX.ds)))):=by
 refine aV aM func265 rfl call265 ntmps265 (ace results265) λS=>?_;conv=>whnf
 repeat'(first|refine awz ?_|fail)
 refine aaK (λg:Nat×List cX=>g.1<=l.length/\zg g.2) (6::[3,4,5,7,8,9,10,11,12,13,14,15,16,17,18,19,20,21,22,23,24,25,26,27,28,29,30,31,32,33,34,35]) (λg=>[(3,.one (.own 6)),(4,vI .i64 (g.1:Int))]) (λg=>[(6,.row 137 3 (g.2.map cX.ds))]) (λg=>l.length-g.1) (0,[]) ⟨Nat.zero_le _,by simp[zg]⟩ ?_ sbW (λg hg=>?_)<;>(conv=>whnf)
 ·exact whd
 ·obtain⟨k,ms⟩:=g;obtain⟨hk,hm⟩:=hg;simp only at hk;have hm:zg ms:=hm;by_cases hlt:k<l.length
  ·have hc:decide ((k:Int)<((l.map fE.ds).length:Int))=true:=al;by_cases h60:ms.length<60
   ·have q:decide (((ms.map cX.ds).length:Int)<60)=true:=al;repeat'((first|refine awz ?_|refine aaM hlt ?_|refine aI.q (RV l[k]) rfl λy hy=>?_|refine a7 ak ?_|refine aaH ac ac ?_|refine tW ?_ ?_|intro h)<;>conv=>whnf)
    ·refine a8.mk ⟨(k+1,ms++[⟨0,l[k].client,y⟩]),⟨hlt,by simp;omega,λm hmm=>?_⟩,by show l.length-(k+1)<l.length-k;omega,?_,aaC (by rw[List.map_append];rfl) aaE⟩
     ·rcases List.mem_append.1 hmm with h|h
      ·exact hm.2 m h
      ·rw[List.mem_singleton.1 h];exact Nat.le_trans hy ai
     ·exact hds
    ·refine a8.mk ⟨(k+1,ms),⟨hlt,hm⟩,by show l.length-(k+1)<l.length-k;omega,?_,sbW⟩;exact hds
   ·have q:decide (((ms.map cX.ds).length:Int)<60)=false:=al;repeat'(first|refine awz ?_|fail)
    all_goals exact⟨ms,hm,rfl⟩
  ·have hc:decide ((k:Int)<((l.map fE.ds).length:Int))=false:=al;repeat'(first|refine awz ?_|fail)
   all_goals exact⟨ms,hm,rfl⟩
theorem oa(w:aP)(l:List cX)(hw:aZ w=true)(hl:zg l):gU av 264 [.agg (w.ds.map .d),.one (.d (.sl (l.map cX.ds)))] [] WQ [41,42,43] wO [] wR:=by
 have hs:=cn hw;have f:=wB hw;have hlen:=hl.1;have wo:=bd w hs;rw[hw]at wo;have q60:decide (((l.map cX.ds).length:Int)<=60)=true:=al;refine be aM func264 rfl call264 ntmps264 (ace results264) (λ_=>rfl) rfl (λ_=>rfl) λS pv=>?_;conv=>whnf
 repeat'((first|refine awz ?_|refine cP (wo) ?_|refine aaI (bc w hs) [(41,41),(42,42),(28,43)] rfl rfl ?_|fail)<;>conv=>whnf)
 refine aaK (λg:Nat×ee=>g.1<=l.length/\dT g.2=true) (14::[6,7,8,15,16,17,18,19,20,21,22,23,24,25,26,27,28,29,30,31,32,33,34,35,36,37,38]) (λg=>[(6,vI .i64 (g.1:Int))]) (λg=>[(9999,.frame (dC []) pv),(2,.cells 70 (w.ds.map .d)),(4,.cells 70 (By.ds.map λd=>match d with| .pv v=> .d (.pv v)|_=> .nil)),(5,.cells 70 (aP.own {w with net:=g.2}))]++wO {w with net:=g.2}) (λg=>l.length-g.1) (0,w.net) ⟨Nat.zero_le _,f.net⟩ ?_ sbW (λg hg=>?_)<;>(conv=>whnf)
 ·exact whd
 ·obtain⟨k,n⟩:=g;obtain⟨hk,hn⟩:=hg;simp only at hk hn;have hns:=fj hn;by_cases hlt:k<l.length
  ·have hc:decide ((k:Int)<((l.map cX.ds).length:Int))=true:=al;have hr:l[k].row.length<=1048576:=Nat.le_trans (hl.2 _ (List.getElem_mem hlt)) ai;cases hm:iO l[k]with
   |false=>
    have c1:=QI n l[k] hn hm;repeat'(first|refine awz ?_|fail)
    (refine aaL aM 7 (tkc [0,1,2,3,4,5] (.two 6 (tkc [7,8,9] (.one 10 (.one 11 (.take 12 .done)))) 10 (.one 6 (tkc [7,8,9] (.one 11 (.take 12 .done)))))) [(5,9980)] iU ae ae ae ae (λRz=>?_);(conv=>whnf);intro bp0 up0;(conv=>whnf))
    repeat'((first|refine awz ?_|refine aaM hlt ?_|refine aa8 c1 rfl ?_|refine aaH ac ac ?_|refine tW ?_ ?_|fail)<;>conv=>whnf)
    all_goals
     refine a8.mk ⟨(k+1,n),⟨hlt,hn⟩,by show l.length-(k+1)<l.length-k;omega,?_,sbW⟩;exact hds
   |true=>
    by_cases h60:n.flight.length=60
    ·have c1:=Kz n l[k] hn hm h60;repeat'(first|refine awz ?_|fail)
     (refine aaL aM 7 (tkc [0,1,2,3,4,5] (.two 6 (tkc [7,8,9] (.one 10 (.one 11 (.take 12 .done)))) 10 (.one 6 (tkc [7,8,9] (.one 11 (.take 12 .done)))))) [(5,9980)] iU ae ae ae ae (λRz=>?_);(conv=>whnf);intro bp0 up0;(conv=>whnf))
     repeat'((first|refine awz ?_|refine aaM hlt ?_|refine aa8 c1 rfl ?_|refine aaH ac ac ?_|refine tW ?_ ?_|fail)<;>conv=>whnf)
     all_goals
      refine a8.mk ⟨(k+1,n),⟨hlt,hn⟩,by show l.length-(k+1)<l.length-k;omega,?_,sbW⟩;exact hds
    ·have c1:=KA n l[k] hn hm hns hr h60;repeat'(first|refine awz ?_|fail)
     (refine aaL aM 7 (tkc [0,1,2,3,4,5] (.two 6 (tkc [7,8,9] (.one 10 (.one 11 (.take 12 .done)))) 10 (.one 6 (tkc [7,8,9] (.one 11 (.take 12 .done)))))) [(5,9980)] iU ae ae ae ae (λRz=>?_);(conv=>whnf);intro bp0 up0;(conv=>whnf))
     repeat'(first|refine awz ?_|(refine aaM hlt ?_;conv=>whnf)|(refine aI.freeze 41 137 3 (n.flight.map cX.ds) rfl ?_;(conv=>whnf);refine aaI c1 [(41,41)] rfl rfl ?_;conv=>whnf)|(refine aaH ac ac ?_;conv=>whnf)|refine tW ?_ ?_|fail)
     all_goals
      refine a8.mk ⟨(k+1,⟨n.flight++[l[k]],n.cuts⟩),⟨hlt,Ou hn hm h60⟩,by show l.length-(k+1)<l.length-k;omega,?_,sbW⟩;exact hds
  ·have e:k=l.length:=ac;subst e;have hc:decide ((l.length:Int)<((l.map cX.ds).length:Int))=false:=ah;repeat'(first|refine awz ?_|fail)
   all_goals exact⟨{w with net:=n},(f.withNet hn).ok,rfl,rfl,rfl,rfl,rfl,trivial⟩
abbrev Zb(w:aP)(n:ee):List (Nat×AO):=wO {w with net:=n}
abbrev Zc(w:aP)(n:ee):AR:=wR {w with net:=n}
theorem lu(w:aP)(a b:Int)(r:List Int)(hw:aZ w=true)(hr:r.length<=1000):gU av 266 [.agg w.own,.one (.d (dI a)),.one (.d (dI b)),.one (.d (.sl (r.map eI)))] (wO w) (λn:ee=>dT n=true) [41,42,43] (Zb w) [] (Zc w):=by
 have f:=wB hw;have hn:=f.net;have hns:=fj hn;cases hm:iO ⟨a,b,r⟩with
 |false=>
  have c1:=QI w.net ⟨a,b,r⟩ hn hm;refine be aM func266 rfl call266 ntmps266 (ace results266) (λ_=>rfl) rfl (λ_=>rfl) λS pv=>?_;conv=>whnf
  repeat'(first|refine awz ?_|(refine aa8 c1 rfl ?_;conv=>whnf)|fail)
  all_goals exact⟨w.net,hn,rfl,rfl,rfl,rfl,rfl,trivial⟩
 |true=>
  have hr0:0<r.length:=by simp only[iO,Bool.and_eq_true,decide_eq_true_eq]at hm;exact hm.1.2
  by_cases h60:w.net.flight.length=60
  ·have c1:=Kz w.net ⟨a,b,r⟩ hn hm h60;refine be aM func266 rfl call266 ntmps266 (ace results266) (λ_=>rfl) rfl (λ_=>rfl) λS pv=>?_;conv=>whnf
   repeat'(first|refine awz ?_|(refine aa8 c1 rfl ?_;conv=>whnf)|fail)
   all_goals exact⟨w.net,hn,rfl,rfl,rfl,rfl,rfl,trivial⟩
  ·have c1:=KA w.net ⟨a,b,r⟩ hn hm hns (Nat.le_trans hr ai) h60;have q:decide (((r.map eI).length:Int)>0)=true:=al;refine be aM func266 rfl call266 ntmps266 (ace results266) (λ_=>rfl) rfl (λ_=>rfl) λS pv=>?_;conv=>whnf
   repeat'(first|refine awz ?_|(refine aI.freeze 41 137 3 (w.net.flight.map cX.ds) rfl ?_;(conv=>whnf);refine aaI c1 [(41,41)] rfl rfl ?_;conv=>whnf)|fail)
   all_goals exact⟨⟨w.net.flight++[⟨a,b,r⟩],w.net.cuts⟩,Ou hn hm h60,rfl,rfl,rfl,rfl,rfl,trivial⟩
end Go.Proofs.YthgkdhnlehneeaaGreatDoor
