/- J14 -/
import Derived.Test.YtnlhpdbijmnkhaaGreatDoorJ08
import Derived.Test.YtnlhpdbijmnkhaaGreatDoorJ04
import Derived.Test.YtnlhpdbijmnkhaaGreatDoorAvJ4
import Derived.Test.YtnlhpdbijmnkhaaGreatDoorJ02
import Derived.Test.YtnlhpdbijmnkhaaGreatDoorAwx
import Derived.Test.YtnlhpdbijmnkhaaGreatDoorJ06
import Derived.Test.YtnlhpdbijmnkhaaGreatDoorJ10
set_option linter.unusedVariables false
set_option linter.unusedSimpArgs false
set_option maxRecDepth 100000
namespace Go.Proofs.YtnlhpdbijmnkhaaGreatDoor
open Go.Proofs.Tryz
open Go.ChangeShapes Go.WideShapes Go.RowKit
theorem xv(l:List Int)(h:bW l=true):an av 149 [.one (.sl (l.map eI))] (.val (pI (lA l))):=by
 have hn:(!bW l)=false:=by rw[h];rfl
 obtain⟨hl,hx⟩:=gF h
 refine ai aj func149 rfl call149 ntmps149 (IG results149) λS=>?_;conv=>whnf
 repeat'((first|refine aw0 ?_|refine awx ?_|refine cP (cW l) ?_|exact rr|refine And.intro rfl ?_|refine bf.mk ?_ ?_|refine AB.mk (λh=>?_) (λh=>?_))<;>conv=>whnf)
 refine AWP.loopS (λk:Nat=>k<=l.length) [3,4,8,9,10,11,12,13,14,15,16,17,18,19,20,21,22] (λk=>[(3,vI .i64 (lA (l.take k))),(4,vI .i64 (k:Int))]) (λk=>[]) (λk=>l.length-k) 0 Iv ?_ ae.nil (λk hR=>?_)<;>(conv=>whnf)
 ·exact whd
 ·by_cases hlt:k<l.length
  ·have hr:=nS hx k hR
   have hr2:=nS hx (k+1) hlt
   have hxk:=hx _ (List.getElem_mem hlt)
   have hs:=Bc hlt
   have hc:decide ((k:Int)<((l.map eI).length:Int))=true:=by simp;omega
   unfold l4 at hs
   repeat'((first|refine aw0 ?_|refine awx ?_|refine AIx.map hlt ?_|refine And.intro Ix ?_|refine AW.i64 Iv Iv ?_|exact rr|refine And.intro rfl ?_|refine bf.mk ?_ ?_|refine AB.mk (λh=>?_) (λh=>?_))<;>conv=>whnf)
   refine aN.mk ⟨k+1,hlt,by omega,?_,ae.nil⟩
   rw[hs]
   exact hds
  ·have e:k=l.length:=by omega
   subst e
   have hc:decide ((l.length:Int)<((l.map eI).length:Int))=false:=by simp
   rw[List.take_length]
   repeat'((first|refine aw0 ?_|refine awx ?_|exact rr|refine And.intro rfl ?_|refine bf.mk ?_ ?_|refine AB.mk (λh=>?_) (λh=>?_))<;>conv=>whnf)
theorem AZ(l:List Int)(hl:l.length<=1048576):a6 av 148 [.one (.d (.sl (l.map eI)))] [] [(3,.row 2 1 (l.map eI))] [] (.val (.one (.own 3))):=by
 refine aL aj func148 rfl call148 ntmps148 (IG results148) rfl λS pv=>?_;conv=>whnf
 repeat'((first|refine aw0 ?_|refine awx ?_|refine ba (by first|(intro y hy;obtain⟨a,_,rfl⟩:=List.mem_map.1 hy;rfl)|(simp;done)) ?_|refine bo IA ?_|exact rr|refine And.intro rfl ?_|refine bf.mk ?_ ?_|refine AB.mk (λh=>?_) (λh=>?_))<;>conv=>whnf)
theorem ee(l:List Int)(hl:l.length<=1048576):an av 148 [.one (.sl (l.map eI))] (.val (.one (.sl (l.map eI)))):=by
 refine ai aj func148 rfl call148 ntmps148 (IG results148) λS=>?_;conv=>whnf
 repeat'((first|refine aw0 ?_|refine awx ?_|refine ba (by first|(intro y hy;obtain⟨a,_,rfl⟩:=List.mem_map.1 hy;rfl)|(simp;done)) ?_|refine bo IA ?_|exact rr|refine And.intro rfl ?_|refine bf.mk ?_ ?_|refine AB.mk (λh=>?_) (λh=>?_))<;>conv=>whnf)
 rfl
theorem r4(l:List Int)(h:bW l=true)(h48:l.length<48):an av 118 [.one (.sl (l.map eI))] (.val (.one (.sl ((l++[lA l]).map eI)))):=by
 have hn:(!bW l)=false:=by rw[h];rfl
 have hc:decide ((48:Int)<=((l.map eI).length:Int))=false:=by simp;omega
 refine ai aj func118 rfl call118 ntmps118 (IG results118) λS=>?_;conv=>whnf
 repeat'((first|refine aw0 ?_|refine awx ?_|refine cP (cW l) ?_|refine cP (xv l h) ?_|refine aa.meth (AZ l Iv) [(3,903)] rfl rfl ?_|refine ba (by first|(intro y hy;obtain⟨a,_,rfl⟩:=List.mem_map.1 hy;rfl)|(simp;done)) ?_|refine bo IA ?_|exact rr|refine And.intro rfl ?_|refine bf.mk ?_ ?_|refine AB.mk (λh=>?_) (λh=>?_))<;>conv=>whnf)
 all_goals(simp;rfl)
end Go.Proofs.YtnlhpdbijmnkhaaGreatDoor
namespace Go.Proofs.YtnlhpdbijmnkhaaGreatDoor
open Go.Proofs.Tryz
open Go.ChangeShapes Go.WideShapes Go.RowKit
def kB:List (List Nat):=cX [0,1,0,3,0,324,6,7,8,33346,182712931821039745,47897098799294642954891]
def kC:List (List Nat):=cX [0,1,0,3,0,324,6,7,0,9,0,714,12,13,14,968,16,62530,92637823455529725735781247496321,24284449591926384423280639343675647123]
def l7:List (List Nat):=cX [0,1,0,0,4,323,6,20930,35671935824001,9351183944646951433]
def jL:List (List Nat):=cX [0,1,0,3,0,5,389,138580611463,35671935565890]
def j3:List (List Nat):=dQ 7 [2178,2179,2114,2123,80,161,404]
theorem um(x:DDisk)(hs:DDisk.small 1048576 x):a6 av 150 [.agg (x.ds.map .d)] [] [(23,.row 67 1 (x.kept.map kO)),(49,.row 216 2 (x.wait.map DWrite.ds))] [] (.val (.agg [.own 23,.own 49])):=by
 obtain⟨h1,h2,h3,h4⟩:=(show x.kept.length<=1048576/\(∀y∈x.kept,y.length<=1048576)/\x.wait.length<=1048576/\(∀y∈x.wait,DWrite.small 1048576 y)from hs)
 refine aL aj func150 rfl call150 ntmps150 (IG results150) rfl λS pv=>?_;conv=>whnf
 repeat'((first|refine aw0 ?_|refine awx ?_|exact rr|refine And.intro rfl ?_|refine bf.mk ?_ ?_|refine AB.mk (λh=>?_) (λh=>?_))<;>conv=>whnf)
 refine AWP.nilRow 3 0 23 67 1 Ix ?_
 conv=>whnf
 repeat'((first|refine aw0 ?_|refine awx ?_|exact rr|refine And.intro rfl ?_|refine bf.mk ?_ ?_|refine AB.mk (λh=>?_) (λh=>?_))<;>conv=>whnf)
 refine AWP.loopS (λk:Nat=>k<=x.kept.length) [4,7,8,9,10,11,12,13,14,15,16,17,18,19,20,21,22,23,24] (λk=>[(4,vI .i64 (k:Int))]) (λk=>[(9999,.frame (bD []) pv),(1,.cells 30 (x.ds.map .d)),(2,.cells 30 [.nil,.nil]),(3,.cells 30 [.own 23,.nil]),(23,.row 67 1 ((x.kept.take k).map kO))]) (λk=>x.kept.length-k) 0 (Nat.zero_le _) ?_ (ae.cons rfl (ae.cons rfl (ae.cons rfl (ae.cons rfl (ae.cons rfl ae.nil))))) (λk hk=>?_)<;>(conv=>whnf)
 ·exact whd
 ·repeat'((first|refine aw0 ?_|refine awx ?_|refine AW.i64 ari ari ?_|exact rr|refine And.intro rfl ?_|refine bf.mk ?_ ?_|refine AB.mk (λh=>?_) (λh=>?_))<;>conv=>whnf)
  ·have hlt:k<x.kept.length:=ari
   have hy:=h2 _ (List.getElem_mem hlt)
   (refine AWP.drawT aj 5 (.take 0 (.take 2 (.take 3 (.take 4 (.take 5 (.take 6 (.two 1 (.one 7 (.one 8 (.one 9 (.take 10 (.one 11 .done))))) 7 (.two 1 (.one 8 (.one 9 (.take 10 (.one 11 .done)))) 8 (.one 1 (.one 9 (.take 10 (.one 11 .done)))))))))))) [(1,9980)] kB Iw Iw Iw Iw (λRz=>?_);(conv=>whnf);intro bp0 up0;(conv=>whnf))
   repeat'((first|refine aw0 ?_|refine awx ?_|refine AIx.map hlt ?_|refine cP (ee x.kept[k] hy) ?_|refine ba (by first|(intro y hy;obtain⟨a,_,rfl⟩:=List.mem_map.1 hy;rfl)|(simp;done)) ?_|refine bo IA ?_|refine AW.i64 ari ari ?_|exact rr|refine And.intro rfl ?_|refine bf.mk ?_ ?_|refine AB.mk (λh=>?_) (λh=>?_))<;>conv=>whnf)
   all_goals
    refine aN.mk ⟨k+1,hlt,by omega,?_,ae.cons rfl (ae.cons rfl (ae.cons rfl (ae.cons rfl (ae.cons (congrArg some (congrArg (AO.row 67 1) (sy kO hlt).symm)) ae.nil))))⟩
    exact hds
  ·have e:k=x.kept.length:=ari
   subst e
   rw[List.take_length]
   refine AWP.nilRow 3 1 49 216 2 Ix ?_
   conv=>whnf
   repeat'((first|refine aw0 ?_|refine awx ?_|exact rr|refine And.intro rfl ?_|refine bf.mk ?_ ?_|refine AB.mk (λh=>?_) (λh=>?_))<;>conv=>whnf)
   refine AWP.loopS (λk:Nat=>k<=x.wait.length) [5,25,26,27,28,29,30,31,32,33,34,35,36,37,38,39,40,41,42,43,44,45,46,47,48,49,50] (λk=>[(5,vI .i64 (k:Int))]) (λk=>[(9999,.frame (bD []) pv),(1,.cells 30 (x.ds.map .d)),(2,.cells 30 [.nil,.nil]),(3,.cells 30 [.own 23,.own 49]),(23,.row 67 1 (x.kept.map kO)),(49,.row 216 2 ((x.wait.take k).map DWrite.ds))]) (λk=>x.wait.length-k) 0 (Nat.zero_le _) ?_ (ae.cons rfl (ae.cons rfl (ae.cons rfl (ae.cons rfl (ae.cons rfl (ae.cons rfl ae.nil)))))) (λj hj=>?_)<;>(conv=>whnf)
   ·exact whd
   ·repeat'((first|refine aw0 ?_|refine awx ?_|refine AW.i64 ari ari ?_|exact rr|refine And.intro rfl ?_|refine bf.mk ?_ ?_|refine AB.mk (λh=>?_) (λh=>?_))<;>conv=>whnf)
    ·have hlt:j<x.wait.length:=ari
     have hy:x.wait[j].row.length<=1048576:=h4 _ (List.getElem_mem hlt)
     (refine AWP.drawT aj 9 (.take 0 (.take 2 (.take 3 (.take 4 (.take 5 (.take 6 (.take 7 (.take 8 (.take 9 (.take 10 (.take 11 (.take 12 (.take 13 (.two 1 (.one 14 (.one 15 (.one 16 (.one 17 (.take 18 (.one 19 .done)))))) 14 (.two 1 (.one 15 (.one 16 (.one 17 (.take 18 (.one 19 .done))))) 15 (.two 1 (.one 16 (.one 17 (.take 18 (.one 19 .done)))) 16 (.one 1 (.one 17 (.take 18 (.one 19 .done)))))))))))))))))))) [(1,9980)] kC Iw Iw Iw Iw (λRz=>?_);(conv=>whnf);intro bp0 up0;(conv=>whnf))
     repeat'((first|refine aw0 ?_|refine awx ?_|refine AIx.map hlt ?_|refine cP (ee x.wait[j].row hy) ?_|refine ba (by first|(intro y hy;obtain⟨a,_,rfl⟩:=List.mem_map.1 hy;rfl)|(simp;done)) ?_|refine bo IA ?_|refine AW.i64 ari ari ?_|exact rr|refine And.intro rfl ?_|refine bf.mk ?_ ?_|refine AB.mk (λh=>?_) (λh=>?_))<;>conv=>whnf)
     all_goals
      refine aN.mk ⟨j+1,hlt,by omega,?_,ae.cons rfl (ae.cons rfl (ae.cons rfl (ae.cons rfl (ae.cons rfl (ae.cons (congrArg some (congrArg (AO.row 216 2) (sy DWrite.ds hlt).symm)) ae.nil)))))⟩
      exact hds
    ·have e:j=x.wait.length:=ari
     subst e
     rw[List.take_length]
     repeat'((first|refine aw0 ?_|refine awx ?_|exact rr|refine And.intro rfl ?_|refine bf.mk ?_ ?_|refine AB.mk (λh=>?_) (λh=>?_))<;>conv=>whnf)
theorem xw(d:DDisk)(a:Int)(r:List Int)(h:bM d=true)(hw:d.wait.length<60)(ha:ac a 0 ((d.kept.length:Int)-1)=true)(hr:bW r=true):an av 119 [.agg d.ds,pI a,.one (.sl (r.map eI))] (.tup [.agg (jz d a r).ds,.one (dB true)]):=by
 have hs:=fQ h
 have h40:=(eo h).2.1
 have h48:=gG hr
 have n1:(!bM d)=false:=by rw[h];rfl
 have n2:(!ac a 0 ((d.kept.length:Int)-1))=false:=by rw[ha];rfl
 have n3:(!bW r)=false:=by rw[hr];rfl
 have n4:decide ((60:Int)<=((d.wait.map DWrite.ds).length:Int))=false:=by simp;omega
 refine ai aj func119 rfl call119 ntmps119 (IG results119) λS=>?_;conv=>whnf
 repeat'((first|refine aw0 ?_|refine awx ?_|refine cP (cC d) ?_|refine cP (nO d a h40) ?_|refine cP (cW r) ?_|refine aa.meth (um d hs) [(23,923),(49,949)] rfl rfl ?_|exact rr|refine And.intro rfl ?_|refine bf.mk ?_ ?_|refine AB.mk (λh=>?_) (λh=>?_))<;>conv=>whnf)
 (refine AWP.drawT aj 6 (.take 0 (.take 2 (.take 3 (.two 1 (.one 4 (.one 5 (.one 6 (.one 7 (.take 8 (.one 9 .done)))))) 4 (.two 1 (.one 5 (.one 6 (.one 7 (.take 8 (.one 9 .done))))) 5 (.two 1 (.one 6 (.one 7 (.take 8 (.one 9 .done)))) 6 (.one 1 (.one 7 (.take 8 (.one 9 .done)))))))))) [] l7 Iw Iw Iw Iw (λRz=>?_);(conv=>whnf))
 repeat'((first|refine aw0 ?_|refine awx ?_|refine cP (ee r Iv) ?_|refine ba (by first|(intro y hy;obtain⟨a,_,rfl⟩:=List.mem_map.1 hy;rfl)|(simp;done)) ?_|refine bo IA ?_|exact rr|refine And.intro rfl ?_|refine bf.mk ?_ ?_|refine AB.mk (λh=>?_) (λh=>?_))<;>conv=>whnf)
 all_goals(simp[jz,DDisk.ds,DWrite.ds];done)
theorem A3(d:DDisk)(h:bM d=true):a6 av 151 [.agg (d.ds.map .d),.one (.own 1001),.one (.d (dB true))] [(1001,.row 2 1 [])] [(1001,.row 2 1 [])] [] (.val (.agg [.d (.sl ((ml d).kept.map kO)),.nil])):=by
 have hs:=fQ h
 obtain⟨h1,h2,h3,h4,h5⟩:=eo h
 refine aL aj func151 rfl call151 ntmps151 (IG results151) rfl λS pv=>?_;conv=>whnf
 repeat'((first|refine aw0 ?_|refine awx ?_|refine aa.meth (um d hs) [(23,923),(49,949)] rfl rfl ?_|exact rr|refine And.intro rfl ?_|refine bf.mk ?_ ?_|refine AB.mk (λh=>?_) (λh=>?_))<;>conv=>whnf)
 refine AWP.loopS (λk:Nat=>k<=d.wait.length) [8,9,10,15,16,17,18,19,20,21,22,23,24,25,26,27,28,29,30,31,32,33,34,35,36,37,38,39,40,41,42,43,44,45,46,47,48,49,50,51,52,53,54,55,56,57,58,59,60,61,62,63,64,65] (λk=>[(8,vI .i64 (k:Int))]) (λk=>[(9999,.frame (bD []) pv),(1001,.row 2 1 []),(3,.cells 30 (d.ds.map .d)),(6,.cells 30 [.nil,.nil]),(7,.cells 30 [.own 923,.nil]),(923,.row 67 1 ((oS d.kept (d.wait.take k)).map kO))]) (λk=>d.wait.length-k) 0 (Nat.zero_le _) ?_ (ae.cons rfl (ae.cons rfl (ae.cons rfl (ae.cons rfl (ae.cons rfl (ae.cons rfl ae.nil)))))) (λk hk=>?_)<;>(conv=>whnf)
 ·exact whd
 ·by_cases hlt:k<d.wait.length
  ·have hc:decide ((k:Int)<((d.wait.map DWrite.ds).length:Int))=true:=by simp;omega
   have hw:=(gY (h5 _ (List.getElem_mem hlt)))
   have hlen:=om (d.wait.take k) d.kept
   have hsx:=yx (k:=d.kept) hlt
   have h48:=gG hw.2
   have hn:decide ((k:Int)<0)=false:=by simp
   repeat'((first|refine aw0 ?_|refine awx ?_|refine AIx.map hlt ?_|exact rr|refine And.intro rfl ?_|refine bf.mk ?_ ?_|refine AB.mk (λh=>?_) (λh=>?_))<;>conv=>whnf)
   (refine AWP.drawK aj 10 7 jL j3 Iw Iw Iw rfl ?_;conv=>whnf)
   repeat'((first|refine aw0 ?_|refine awx ?_|refine AIx.int hw.1.1 Iv ?_|refine cP (ee d.wait[k].row Iv) ?_|refine AW.i64 ari ari ?_|exact rr|refine And.intro rfl ?_|refine bf.mk ?_ ?_|refine AB.mk (λh=>?_) (λh=>?_))<;>conv=>whnf)
   refine AIx.map Iv ?_
   conv=>whnf
   repeat'((first|refine aw0 ?_|refine awx ?_|refine AW.i64 ari ari ?_|exact rr|refine And.intro rfl ?_|refine bf.mk ?_ ?_|refine AB.mk (λh=>?_) (λh=>?_))<;>conv=>whnf)
   refine aN.mk ⟨k+1,hlt,by omega,?_,ae.cons rfl (ae.cons rfl (ae.cons rfl (ae.cons rfl (ae.cons rfl (ae.cons (by rw[hsx,List.map_set];rfl) ae.nil)))))⟩
   exact hds
  ·have e:k=d.wait.length:=by omega
   subst e
   have hc:decide ((d.wait.length:Int)<((d.wait.map DWrite.ds).length:Int))=false:=by simp
   rw[List.take_length]
   repeat'((first|refine aw0 ?_|refine awx ?_|exact rr|refine And.intro rfl ?_|refine bf.mk ?_ ?_|refine AB.mk (λh=>?_) (λh=>?_))<;>conv=>whnf)
   all_goals(first|rfl|exact⟨rfl,whd⟩)
end Go.Proofs.YtnlhpdbijmnkhaaGreatDoor
namespace Go.Proofs.YtnlhpdbijmnkhaaGreatDoor
open Go.Proofs.Tryz
open Go.ChangeShapes Go.WideShapes Go.RowKit
def gP:List (List Nat):=cX [0,1,2,0,4,197,387,1997061059252615]
def jK:List (List Nat):=cX [0,1,0,0,4,323,0,0,8,25159,0,11,3187074,255136042362167060939149965]
theorem lZ(d:DDisk)(h:bM d=true):an av 121 [.agg d.ds] (.val (.agg (ml d).ds)):=by
 have n1:(!bM d)=false:=by rw[h];rfl
 refine ai aj func121 rfl call121 ntmps121 (IG results121) λS=>?_;conv=>whnf
 repeat'(first|((first|refine aw0 ?_|refine awx ?_|refine cP (cC d) ?_|refine aa.meth (A3 d h) [(1001,8)] rfl rfl ?_|exact rr)<;>conv=>whnf)|(show AP.val _=AP.val _;rfl)|(show AP.tup _=AP.tup _;rfl)|((first|refine And.intro rfl ?_|refine bf.mk ?_ ?_|refine AB.mk (λh=>?_) (λh=>?_))<;>conv=>whnf))
theorem ms(t:DTwo)(h:gr t=true):an av 88 [.agg t.ds] (.val (.agg (Eb t).ds)):=by
 obtain⟨f1,f2,f3⟩:=lB h
 have n1:(!gr t)=false:=by rw[h];rfl
 refine ai aj func88 rfl call88 ntmps88 (IG results88) λS=>?_;conv=>whnf
 repeat'(first|((first|refine aw0 ?_|refine awx ?_|refine cP (fw t) ?_|exact rr)<;>conv=>whnf)|(show AP.val _=AP.val _;rfl)|(show AP.tup _=AP.tup _;rfl)|((first|refine And.intro rfl ?_|refine bf.mk ?_ ?_|refine AB.mk (λh=>?_) (λh=>?_))<;>conv=>whnf))
 (refine AWP.drawT aj 3 (.take 0 (.take 1 (.take 3 (.take 4 (.one 2 (.one 5 (.one 6 (.one 7 .done)))))))) [(1,9980)] gP Iw Iw Iw Iw (λRz=>?_);(conv=>whnf);intro bp0 up0;(conv=>whnf))
 repeat'(first|((first|refine aw0 ?_|refine awx ?_|refine cP (lZ t.a f1) ?_|refine cP (lZ t.b f2) ?_|exact rr)<;>conv=>whnf)|(show AP.val _=AP.val _;rfl)|(show AP.tup _=AP.tup _;rfl)|((first|refine And.intro rfl ?_|refine bf.mk ?_ ?_|refine AB.mk (λh=>?_) (λh=>?_))<;>conv=>whnf))
theorem nH(t:DTwo)(a:Int)(r:List Int)(h:gr t=true)(h1:t.a.wait.length<60)(h2:t.b.wait.length<60)(ha:ac a 0 ((t.a.kept.length:Int)-1)=true)(hr:bW r=true)(hl:r.length<48):an av 87 [.agg t.ds,pI a,.one (.sl (r.map eI))] (.tup [.agg (zc t a r).ds,.one (dB true)]):=by
 obtain⟨f1,f2,f3⟩:=lB h
 have n1:(!gr t)=false:=by rw[h];rfl
 have ha2:ac a 0 ((t.b.kept.length:Int)-1)=true:=by rw[<-f3];exact ha
 have hs:=jw hr hl
 have hz:(((List.map eI (r++[lA r])).length:Int)==0)=false:=by simp;omega
 have c1:=xw t.a a _ f1 h1 ha hs
 have c2:=xw t.b a _ f2 h2 ha2 hs
 refine ai aj func87 rfl call87 ntmps87 (IG results87) λS=>?_;conv=>whnf
 repeat'(first|((first|refine aw0 ?_|refine awx ?_|refine cP (fw t) ?_|refine cP (r4 r hr hl) ?_|refine cP (c1) ?_|refine cP (c2) ?_|refine AB.ofF hz ?_|exact rr)<;>conv=>whnf)|(show AP.val _=AP.val _;rfl)|(show AP.tup _=AP.tup _;rfl)|((first|refine And.intro rfl ?_|refine bf.mk ?_ ?_|refine AB.mk (λh=>?_) (λh=>?_))<;>conv=>whnf))
theorem xo(t:DTwo)(a:Int)(r:List Int)(h:gr t=true)(h1:t.a.wait.length<60)(h2:t.b.wait.length<60)(ha:ac a 0 ((t.a.kept.length:Int)-1)=true)(hr:bW r=true)(hl:r.length<48):an av 59 [.agg t.ds,pI a,.one (.sl (r.map eI))] (.val (.agg (Eb (zc t a r)).ds)):=by
 have hw:=Bj h h1 h2 ha hr hl
 refine ai aj func59 rfl call59 ntmps59 (IG results59) λS=>?_;conv=>whnf
 repeat'(first|((first|refine aw0 ?_|refine awx ?_|refine cP (nH t a r h h1 h2 ha hr hl) ?_|refine cP (ms _ hw) ?_|exact rr)<;>conv=>whnf)|(show AP.val _=AP.val _;rfl)|(show AP.tup _=AP.tup _;rfl)|((first|refine And.intro rfl ?_|refine bf.mk ?_ ?_|refine AB.mk (λh=>?_) (λh=>?_))<;>conv=>whnf))
theorem jm(n:Nat)(h:1<=n/\n<=40):an av 62 [pI (n:Int)] (.val (.agg (cQ n).ds)):=by
 have n1:(!ac (n:Int) 1 40)=false:=by simp[ac];omega
 refine ai aj func62 rfl call62 ntmps62 (IG results62) λS=>?_;conv=>whnf
 repeat'(first|((first|refine aw0 ?_|refine awx ?_|refine cP (aI _ _ _) ?_|exact rr)<;>conv=>whnf)|(show AP.val _=AP.val _;rfl)|(show AP.tup _=AP.tup _;rfl)|((first|refine And.intro rfl ?_|refine bf.mk ?_ ?_|refine AB.mk (λh=>?_) (λh=>?_))<;>conv=>whnf))
 refine⟨n,rfl,rfl,Nat.le_trans (Nat.mul_le_mul_left _ h.2) Ix,by omega,?_⟩
 conv=>whnf
 repeat'(first|((first|refine aw0 ?_|refine awx ?_|exact rr)<;>conv=>whnf)|(show AP.val _=AP.val _;rfl)|(show AP.tup _=AP.tup _;rfl)|((first|refine And.intro rfl ?_|refine bf.mk ?_ ?_|refine AB.mk (λh=>?_) (λh=>?_))<;>conv=>whnf))
 all_goals(simp[cQ,DDisk.ds,kO];done)
theorem ug(n:Nat)(h:1<=n/\n<=40):an av 60 [pI (n:Int)] (.val (.agg (⟨cQ n,cQ n⟩:DTwo).ds)):=by
 refine ai aj func60 rfl call60 ntmps60 (IG results60) λS=>?_;conv=>whnf
 repeat'(first|((first|refine aw0 ?_|refine awx ?_|refine cP (jm n h) ?_|exact rr)<;>conv=>whnf)|(show AP.val _=AP.val _;rfl)|(show AP.tup _=AP.tup _;rfl)|((first|refine And.intro rfl ?_|refine bf.mk ?_ ?_|refine AB.mk (λh=>?_) (λh=>?_))<;>conv=>whnf))
theorem rT:an av 61 [.agg eL.ds] (.val (.one (.sl (nV.map eI)))):=by
 have n1:(!kW eL)=false:=by decide
 refine ai aj func61 rfl call61 ntmps61 (IG results61) λS=>?_;conv=>whnf
 repeat'(first|((first|refine aw0 ?_|refine awx ?_|refine cP (lX eL (by simp[eL])) ?_|exact rr)<;>conv=>whnf)|(show AP.val _=AP.val _;rfl)|(show AP.tup _=AP.tup _;rfl)|((first|refine And.intro rfl ?_|refine bf.mk ?_ ?_|refine AB.mk (λh=>?_) (λh=>?_))<;>conv=>whnf))
 refine AWP.unroll 5 ?_
 conv=>whnf
 repeat'(first|((first|refine aw0 ?_|refine awx ?_|refine cP (lY [] _ rfl) ?_|refine AW.i64 Ix Ix ?_|refine AB.ofT Ix ?_|refine AB.ofF Ix ?_|refine ba (by first|(intro y hy;obtain⟨a,_,rfl⟩:=List.mem_map.1 hy;rfl)|(simp;done)) ?_|refine bo IA ?_|exact rr)<;>conv=>whnf)|(show AP.val _=AP.val _;rfl)|(show AP.tup _=AP.tup _;rfl)|((first|refine And.intro rfl ?_|refine bf.mk ?_ ?_|refine AB.mk (λh=>?_) (λh=>?_))<;>conv=>whnf))
def gf:DDisk:=ml (jz (cQ 22) 0 Di)
theorem rW:an av 42 [] (.val (.agg (⟨gf,gf⟩:DTwo).ds)):=by
 have h:=mQ (n:=22) Iv
 have c:=xo ⟨cQ 22,cQ 22⟩ 0 nV (xO ⟨h,h,rfl⟩) Ix Ix Ix sF Ix
 refine ai aj func42 rfl call42 ntmps42 (IG results42) λS=>?_;conv=>whnf
 repeat'(first|((first|refine aw0 ?_|refine awx ?_|refine cP (ug 22 Iv) ?_|refine cP (rT) ?_|refine cP (c) ?_|exact rr)<;>conv=>whnf)|(show AP.val _=AP.val _;rfl)|(show AP.tup _=AP.tup _;rfl)|((first|refine And.intro rfl ?_|refine bf.mk ?_ ?_|refine AB.mk (λh=>?_) (λh=>?_))<;>conv=>whnf))
theorem ue:an av 25 [] (.val (.agg (ld ⟨gf,gf⟩).ds)):=by
 refine ai aj func25 rfl call25 ntmps25 (IG results25) λS=>?_;conv=>whnf
 repeat'(first|((first|refine aw0 ?_|refine awx ?_|refine cP (rW) ?_|exact rr)<;>conv=>whnf)|(show AP.val _=AP.val _;rfl)|(show AP.tup _=AP.tup _;rfl)|((first|refine And.intro rfl ?_|refine bf.mk ?_ ?_|refine AB.mk (λh=>?_) (λh=>?_))<;>conv=>whnf))
theorem pb:an av 43 [] (.val (.agg (cQ 8).ds)):=by
 refine ai aj func43 rfl call43 ntmps43 (IG results43) λS=>?_;conv=>whnf
 repeat'(first|((first|refine aw0 ?_|refine awx ?_|refine cP (jm 8 Iv) ?_|exact rr)<;>conv=>whnf)|(show AP.val _=AP.val _;rfl)|(show AP.tup _=AP.tup _;rfl)|((first|refine And.intro rfl ?_|refine bf.mk ?_ ?_|refine AB.mk (λh=>?_) (λh=>?_))<;>conv=>whnf))
def rq:DStore:=⟨cQ 8,fG,0,0,0⟩
theorem pd:an av 26 [] (.val (.agg rq.ds)):=by
 refine ai aj func26 rfl call26 ntmps26 (IG results26) λS=>?_;conv=>whnf
 repeat'(first|((first|refine aw0 ?_|refine awx ?_|refine cP (pb) ?_|exact rr)<;>conv=>whnf)|(show AP.val _=AP.val _;rfl)|(show AP.tup _=AP.tup _;rfl)|((first|refine And.intro rfl ?_|refine bf.mk ?_ ?_|refine AB.mk (λh=>?_) (λh=>?_))<;>conv=>whnf))
theorem o8:an av 27 [pI 2] (.val (.agg (gn 2).ds)):=by
 refine ai aj func27 rfl call27 ntmps27 (IG results27) λS=>?_;conv=>whnf
 repeat'(first|((first|refine aw0 ?_|refine awx ?_|refine cP (ed _) ?_|exact rr)<;>conv=>whnf)|(show AP.val _=AP.val _;rfl)|(show AP.tup _=AP.tup _;rfl)|((first|refine And.intro rfl ?_|refine bf.mk ?_ ?_|refine AB.mk (λh=>?_) (λh=>?_))<;>conv=>whnf))
theorem o9:an av 27 [pI 3] (.val (.agg (gn 3).ds)):=by
 refine ai aj func27 rfl call27 ntmps27 (IG results27) λS=>?_;conv=>whnf
 repeat'(first|((first|refine aw0 ?_|refine awx ?_|refine cP (ed _) ?_|exact rr)<;>conv=>whnf)|(show AP.val _=AP.val _;rfl)|(show AP.tup _=AP.tup _;rfl)|((first|refine And.intro rfl ?_|refine bf.mk ?_ ?_|refine AB.mk (λh=>?_) (λh=>?_))<;>conv=>whnf))
theorem uf:an av 28 [] (.val (.agg (⟨[],[]⟩:DNet).ds)):=by
 refine ai aj func28 rfl call28 ntmps28 (IG results28) λS=>?_;conv=>whnf
 repeat'(first|((first|refine aw0 ?_|refine awx ?_|exact rr)<;>conv=>whnf)|(show AP.val _=AP.val _;rfl)|(show AP.tup _=AP.tup _;rfl)|((first|refine And.intro rfl ?_|refine bf.mk ?_ ?_|refine AB.mk (λh=>?_) (λh=>?_))<;>conv=>whnf))
theorem sh(x:DClient)(hs:DClient.small 1048576 x):an av 41 [.agg x.ds] (.val (.agg x.ds)):=by
 obtain⟨h1,h2⟩:=(show x.todo.length<=1048576/\x.gots.length<=1048576 from hs)
 refine ai aj func41 rfl call41 ntmps41 (IG results41) λS=>?_;conv=>whnf
 repeat'(first|((first|refine aw0 ?_|refine awx ?_|refine ba (by first|(intro y hy;obtain⟨a,_,rfl⟩:=List.mem_map.1 hy;rfl)|(simp;done)) ?_|refine bo IA ?_|exact rr)<;>conv=>whnf)|(show AP.val _=AP.val _;rfl)|(show AP.tup _=AP.tup _;rfl)|((first|refine And.intro rfl ?_|refine bf.mk ?_ ?_|refine AB.mk (λh=>?_) (λh=>?_))<;>conv=>whnf))
 (refine AWP.drawT aj 1 (.take 0 (.take 1 (.take 3 (.take 4 (.take 7 (.take 8 (.take 10 (.take 11 (.two 2 (.two 5 (.one 6 (.one 9 (.one 12 (.one 13 .done)))) 6 (.one 5 (.one 9 (.one 12 (.one 13 .done))))) 6 (.one 2 (.one 5 (.one 9 (.one 12 (.one 13 .done)))))))))))))) [(1,9980)] jK Iw Iw Iw Iw (λRz=>?_);(conv=>whnf);intro bp0 up0;(conv=>whnf))
 repeat'(first|((first|refine aw0 ?_|refine awx ?_|refine ba (by first|(intro y hy;obtain⟨a,_,rfl⟩:=List.mem_map.1 hy;rfl)|(simp;done)) ?_|refine bo IA ?_|exact rr)<;>conv=>whnf)|(show AP.val _=AP.val _;rfl)|(show AP.tup _=AP.tup _;rfl)|((first|refine And.intro rfl ?_|refine bf.mk ?_ ?_|refine AB.mk (λh=>?_) (λh=>?_))<;>conv=>whnf))
def cI(id:Int)(l:List DWant):DClient:=let c:DClient:=⟨id,l,[],0⟩;if cj c then c else⟨0,[],[],0⟩
theorem nI(id:Int)(l:List DWant)(h:l.length<=1048576):an av 24 [pI id,.one (.sl (l.map DWant.ds))] (.val (.agg (cI id l).ds)):=by
 have hs:DClient.small 1048576 ⟨id,l,[],0⟩:=⟨h,by simp⟩
 cases hc:cj ⟨id,l,[],0⟩with
 |false=>
  have n1:(!cj ⟨id,l,[],0⟩)=true:=by rw[hc];rfl
  have e:cI id l=⟨0,[],[],0⟩:=by simp[cI,hc]
  rw[e]
  refine ai aj func24 rfl call24 ntmps24 (IG results24) λS=>?_;conv=>whnf
  repeat'(first|((first|refine aw0 ?_|refine awx ?_|refine cP (cM ⟨id,l,[],0⟩ (by simp only;omega) Iy) ?_|exact rr)<;>conv=>whnf)|(show AP.val _=AP.val _;rfl)|(show AP.tup _=AP.tup _;rfl)|((first|refine And.intro rfl ?_|refine bf.mk ?_ ?_|refine AB.mk (λh=>?_) (λh=>?_))<;>conv=>whnf))
 |true=>
  have n1:(!cj ⟨id,l,[],0⟩)=false:=by rw[hc];rfl
  have e:cI id l=⟨id,l,[],0⟩:=by simp[cI,hc]
  rw[e]
  refine ai aj func24 rfl call24 ntmps24 (IG results24) λS=>?_;conv=>whnf
  repeat'(first|((first|refine aw0 ?_|refine awx ?_|refine cP (cM ⟨id,l,[],0⟩ (by simp only;omega) Iy) ?_|refine cP (sh ⟨id,l,[],0⟩ hs) ?_|exact rr)<;>conv=>whnf)|(show AP.val _=AP.val _;rfl)|(show AP.tup _=AP.tup _;rfl)|((first|refine And.intro rfl ?_|refine bf.mk ?_ ?_|refine AB.mk (λh=>?_) (λh=>?_))<;>conv=>whnf))
def ir(ann bob:List DWant):DWorld:=⟨ld ⟨gf,gf⟩,rq,gn 2,gn 3,cI 4 ann,cI 5 bob,⟨[],[]⟩,[0,0,0,0,0,0],[true,true,true,true,true,true]⟩
end Go.Proofs.YtnlhpdbijmnkhaaGreatDoor
namespace Go.Proofs.YtnlhpdbijmnkhaaGreatDoor
open Go.Proofs.Tryz
open Go.ChangeShapes Go.WideShapes Go.RowKit
def iP:List (List Nat):=cX [0,1,2,3,0,0,4,0,35671935824001,0,47897098799294642942538]
def yS:DWorld:=⟨ld ⟨⟨[],[]⟩,⟨[],[]⟩⟩,⟨⟨[],[]⟩,fG,0,0,0⟩,gn 0,gn 0,⟨0,[],[],0⟩,⟨0,[],[],0⟩,⟨[],[]⟩,[],[]⟩
theorem yP(ann bob:List DWant)(ha:ann.length<=1000)(hb:bob.length<=1000):DWorld.small 1048576 (ir ann bob):=by
 have c1:DClient.small 1048576 (cI 4 ann):=by
  unfold cI
  simp only
  split
  ·exact⟨by simp only;omega,by simp⟩
  ·exact⟨by simp,by simp⟩
 have c2:DClient.small 1048576 (cI 5 bob):=by
  unfold cI
  simp only
  split
  ·exact⟨by simp only;omega,by simp⟩
  ·exact⟨by simp,by simp⟩
 have d1:DDisk.small 1048576 gf:=fQ (wo (iR (mQ Iv) Ix Ix (jw sF Ix)))
 have d2:DDisk.small 1048576 (cQ 8):=fQ (mQ Iv)
 refine⟨?_,?_,?_,?_,c1,c2,?_,?_⟩
 ·exact⟨⟨d1,d1⟩,by simp[ir,ld,eL,DHead.small],by simp[ir,ld,eL,DHead.small],by simp[ir,ld,DBook.small],by simp[ir,ld],by simp[ir,ld]⟩
 ·exact⟨d2,by simp[ir,rq,fG,DState.small]⟩
 ·simp[ir,gn,DSched.small,DView.small,DJobs.small]
 ·simp[ir,gn,DSched.small,DView.small,DJobs.small]
 ·simp[ir,DNet.small]
 ·simp[ir]
set_option maxHeartbeats 10000000 in
theorem xr(ann bob:List DWant)(ha:ann.length<=1000)(hb:bob.length<=1000):∃(x:DWorld) (b:Bool),an av 11 [.one (.sl (ann.map DWant.ds)),.one (.sl (bob.map DWant.ds))] (.tup [.agg x.ds,.one (dB b)]):=by
 have hsm:=yP ann bob ha hb
 have c1:=nI 4 ann Iv
 have c2:=nI 5 bob Iv
 obtain⟨x,b,hxb⟩:∃(x:DWorld) (b:Bool),(l6 (ir ann bob)=true/\x=ir ann bob/\b=true)\/(l6 (ir ann bob)=false/\x=yS/\b=false):=by
  cases hw:l6 (ir ann bob)with
  |true=>exact⟨_,_,.inl ⟨rfl,rfl,rfl⟩⟩
  |false=>exact⟨_,_,.inr ⟨rfl,rfl,rfl⟩⟩
 refine⟨x,b,?_⟩
 refine ai aj func11 rfl call11 ntmps11 (IG results11) λS=>?_;conv=>whnf
 repeat'(first|((first|refine aw0 ?_|refine awx ?_|refine cP (c1) ?_|refine cP (c2) ?_|exact rr)<;>conv=>whnf)|(show AP.val _=AP.val _;rfl)|(show AP.tup _=AP.tup _;rfl)|((first|refine And.intro rfl ?_|refine bf.mk ?_ ?_|refine AB.mk (λh=>?_) (λh=>?_))<;>conv=>whnf))
 refine AWP.cutS [8,14,15,16,17,18,19,20,21,22] [(8,.one (.ref 8 0 0 0))] [(4,.cells 70 (yS.ds.map λd=>match d with| .pv v=> .d (.pv v)|_=> .nil)),(8,.cells 70 ((((ir ann bob).ds.map .d).set 71 (.own 21)).set 72 .nil)),(21,.row 2 1 (List.replicate 6 [dI 0]))] ?_ ?_<;>(conv=>whnf)
 ·(refine AWP.drawT aj 3 (.take 4 (.take 5 (.three 0 (.three 1 (.three 2 (.three 3 (.three 6 (.two 7 (.two 8 (.one 9 (.one 10 .done)) 9 (.one 8 (.one 10 .done))) 9 (.one 7 (.one 8 (.one 10 .done)))) 7 (.two 6 (.two 8 (.one 9 (.one 10 .done)) 9 (.one 8 (.one 10 .done))) 9 (.one 6 (.one 8 (.one 10 .done)))) 9 (.two 6 (.one 7 (.one 8 (.one 10 .done))) 7 (.one 6 (.one 8 (.one 10 .done))))) 7 (.two 3 (.two 6 (.two 8 (.one 9 (.one 10 .done)) 9 (.one 8 (.one 10 .done))) 9 (.one 6 (.one 8 (.one 10 .done)))) 9 (.one 3 (.one 6 (.one 8 (.one 10 .done))))) 9 (.two 3 (.two 6 (.one 7 (.one 8 (.one 10 .done))) 7 (.one 6 (.one 8 (.one 10 .done)))) 7 (.one 3 (.one 6 (.one 8 (.one 10 .done)))))) 7 (.two 2 (.two 3 (.two 6 (.two 8 (.one 9 (.one 10 .done)) 9 (.one 8 (.one 10 .done))) 9 (.one 6 (.one 8 (.one 10 .done)))) 9 (.one 3 (.one 6 (.one 8 (.one 10 .done))))) 9 (.one 2 (.one 3 (.one 6 (.one 8 (.one 10 .done)))))) 9 (.two 2 (.two 3 (.two 6 (.one 7 (.one 8 (.one 10 .done))) 7 (.one 6 (.one 8 (.one 10 .done)))) 7 (.one 3 (.one 6 (.one 8 (.one 10 .done))))) 7 (.one 2 (.one 3 (.one 6 (.one 8 (.one 10 .done))))))) 7 (.two 1 (.two 2 (.two 3 (.two 6 (.two 8 (.one 9 (.one 10 .done)) 9 (.one 8 (.one 10 .done))) 9 (.one 6 (.one 8 (.one 10 .done)))) 9 (.one 3 (.one 6 (.one 8 (.one 10 .done))))) 9 (.one 2 (.one 3 (.one 6 (.one 8 (.one 10 .done)))))) 9 (.one 1 (.one 2 (.one 3 (.one 6 (.one 8 (.one 10 .done))))))) 9 (.two 1 (.two 2 (.two 3 (.two 6 (.one 7 (.one 8 (.one 10 .done))) 7 (.one 6 (.one 8 (.one 10 .done)))) 7 (.one 3 (.one 6 (.one 8 (.one 10 .done))))) 7 (.one 2 (.one 3 (.one 6 (.one 8 (.one 10 .done)))))) 7 (.one 1 (.one 2 (.one 3 (.one 6 (.one 8 (.one 10 .done)))))))) 7 (.two 0 (.two 1 (.two 2 (.two 3 (.two 6 (.two 8 (.one 9 (.one 10 .done)) 9 (.one 8 (.one 10 .done))) 9 (.one 6 (.one 8 (.one 10 .done)))) 9 (.one 3 (.one 6 (.one 8 (.one 10 .done))))) 9 (.one 2 (.one 3 (.one 6 (.one 8 (.one 10 .done)))))) 9 (.one 1 (.one 2 (.one 3 (.one 6 (.one 8 (.one 10 .done))))))) 9 (.one 0 (.one 1 (.one 2 (.one 3 (.one 6 (.one 8 (.one 10 .done)))))))) 9 (.two 0 (.two 1 (.two 2 (.two 3 (.two 6 (.one 7 (.one 8 (.one 10 .done))) 7 (.one 6 (.one 8 (.one 10 .done)))) 7 (.one 3 (.one 6 (.one 8 (.one 10 .done))))) 7 (.one 2 (.one 3 (.one 6 (.one 8 (.one 10 .done)))))) 7 (.one 1 (.one 2 (.one 3 (.one 6 (.one 8 (.one 10 .done))))))) 7 (.one 0 (.one 1 (.one 2 (.one 3 (.one 6 (.one 8 (.one 10 .done))))))))))) [(6,9980),(7,9981)] iP Iw Iw Iw Iw (λRz=>?_);(conv=>whnf);intro bp0 up0;(conv=>whnf);intro bp1 up1;(conv=>whnf))
  repeat'(first|((first|refine aw0 ?_|refine awx ?_|refine cP (ue) ?_|refine cP (pd) ?_|refine cP (o8) ?_|refine cP (o9) ?_|refine cP (uf) ?_|refine⟨6,rfl,rfl,by decide,by omega,?_⟩)<;>conv=>whnf)|(exact⟨whd,ae.cons rfl (ae.cons rfl (ae.cons rfl ae.nil))⟩)|(exact rr)|(show AP.val _=AP.val _;rfl)|(show AP.tup _=AP.tup _;rfl)|((first|refine And.intro rfl ?_|refine bf.mk ?_ ?_|refine AB.mk (λh=>?_) (λh=>?_))<;>conv=>whnf))
 ·rcases hxb with⟨hw,rfl,rfl⟩|⟨hw,rfl,rfl⟩
  ·have n1:(!l6 (ir ann bob))=false:=by rw[hw];rfl
   repeat'(first|((first|refine aw0 ?_|refine awx ?_|exact rr)<;>conv=>whnf)|(show AP.val _=AP.val _;rfl)|(show AP.tup _=AP.tup _;rfl)|((first|refine And.intro rfl ?_|refine bf.mk ?_ ?_|refine AB.mk (λh=>?_) (λh=>?_))<;>conv=>whnf))
   refine AWP.nilRow 8 72 930 4 1 Ix ?_
   conv=>whnf
   repeat'(first|((first|refine aw0 ?_|refine awx ?_|exact rr)<;>conv=>whnf)|(show AP.val _=AP.val _;rfl)|(show AP.tup _=AP.tup _;rfl)|((first|refine And.intro rfl ?_|refine bf.mk ?_ ?_|refine AB.mk (λh=>?_) (λh=>?_))<;>conv=>whnf))
   refine AWP.unroll 7 ?_
   conv=>whnf
   repeat'(first|((first|refine aw0 ?_|refine awx ?_|refine AB.ofT Ix ?_|refine AB.ofF Ix ?_|refine AW.i64 Ix Ix ?_|refine ba (by first|(intro y hy;obtain⟨a,_,rfl⟩:=List.mem_map.1 hy;rfl)|(simp;done)) ?_|refine bo IA ?_|refine aa.scalar (r5 (ir ann bob) hsm) rfl rfl ?_|exact rr)<;>conv=>whnf)|(show AP.val _=AP.val _;rfl)|(show AP.tup _=AP.tup _;rfl)|((first|refine And.intro rfl ?_|refine bf.mk ?_ ?_|refine AB.mk (λh=>?_) (λh=>?_))<;>conv=>whnf))
  ·have n1:(!l6 (ir ann bob))=true:=by rw[hw];rfl
   repeat'(first|((first|refine aw0 ?_|refine awx ?_|exact rr)<;>conv=>whnf)|(show AP.val _=AP.val _;rfl)|(show AP.tup _=AP.tup _;rfl)|((first|refine And.intro rfl ?_|refine bf.mk ?_ ?_|refine AB.mk (λh=>?_) (λh=>?_))<;>conv=>whnf))
   refine AWP.nilRow 8 72 930 4 1 Ix ?_
   conv=>whnf
   repeat'(first|((first|refine aw0 ?_|refine awx ?_|exact rr)<;>conv=>whnf)|(show AP.val _=AP.val _;rfl)|(show AP.tup _=AP.tup _;rfl)|((first|refine And.intro rfl ?_|refine bf.mk ?_ ?_|refine AB.mk (λh=>?_) (λh=>?_))<;>conv=>whnf))
   refine AWP.unroll 7 ?_
   conv=>whnf
   repeat'(first|((first|refine aw0 ?_|refine awx ?_|refine AB.ofT Ix ?_|refine AB.ofF Ix ?_|refine AW.i64 Ix Ix ?_|refine ba (by first|(intro y hy;obtain⟨a,_,rfl⟩:=List.mem_map.1 hy;rfl)|(simp;done)) ?_|refine bo IA ?_|refine aa.scalar (r5 (ir ann bob) hsm) rfl rfl ?_|exact rr)<;>conv=>whnf)|(show AP.val _=AP.val _;rfl)|(show AP.tup _=AP.tup _;rfl)|((first|refine And.intro rfl ?_|refine bf.mk ?_ ?_|refine AB.mk (λh=>?_) (λh=>?_))<;>conv=>whnf))
end Go.Proofs.YtnlhpdbijmnkhaaGreatDoor
