/- WU2 -/
import Derived.Test.YtehobfglmeiglaaGreatDoorWU1
import Derived.Test.YtehobfglmeiglaaGreatDoorJ26
import Derived.Test.YtehobfglmeiglaaGreatDoorJ22
import Derived.Test.YtehobfglmeiglaaGreatDoorAwx
set_option linter.unusedVariables false
set_option linter.unusedSimpArgs false
set_option maxRecDepth 100000
namespace Go.Proofs.YtehobfglmeiglaaGreatDoor
open Go.Proofs.Tryz
open Go.ChangeShapes Go.WideShapes Go.RowKit
def dt(l:List UInt8):List (List AD):=l.map λb=>[.pv (.int .u8 b.toNat)]
theorem oJ(l:List UInt8):bq ⟨l.toArray⟩=dt l:=by simp[bq,dt]
theorem cb(l:List UInt8):(dt l).length=l.length:=by simp[dt]
theorem kC(w:List UInt8):(⟨w.toArray⟩:ByteArray).size=w.length:=by simp[ByteArray.size]
abbrev dSs(l:List (List UInt8)):AD:= .sl (l.map eS)
def mF(l:List Int):AD:=match l with
 |[]=>uM
 |x::r=> .sl (eI x::r.map eI)
def ES:List (List UInt8):=[[108,111,103],[115,116,111,114,101],[108,101,102,116],[114,105,103,104,116],[97,110,110],[98,111,98]]
theorem xu:eN av 88 [] [] [(1,.row 9 1 (ES.map eS))] [] (.val (.one (.own 1))):=by
 refine tE ah func88 rfl call88 ntmps88 (MC results88) rfl λS pv=>?_;conv=>whnf
 repeat'((first|refine aw0 ?_|refine awx ?_|exact rr|refine And.intro rfl ?_|refine AB.mk (λh=>?_) (λh=>?_))<;>conv=>whnf)
theorem pq:aj av 32 [] (.val (.one (dSs bf))):=by
 refine ae ah func32 rfl call32 ntmps32 (MC results32) λS=>?_;conv=>whnf
 repeat'((first|refine aw0 ?_|refine awx ?_|refine aa.meth xu [(1,901)] rfl rfl ?_|refine ce (by simp[eS]) ?_|refine dJ (by simp[ES]) ?_|exact rr|refine And.intro rfl ?_|refine AB.mk (λh=>?_) (λh=>?_))<;>conv=>whnf)
 rfl
theorem qT(w:DWorld)(hs:DWorld.small 1048576 w)(h:(ay w&&br w 0)=false):aj av 90 [.agg w.ds] (.val (.one uM)):=by
 have hn:(!(ay w&&br w 0))=true:=by rw[h];rfl
 refine nm ah func90 rfl call90 ntmps90 (MC results90) λS=>?_
 conv=>whnf
 repeat'((first|refine aw0 ?_|refine awx ?_|refine cP (bE w 0 Mq hs) ?_|exact rr|refine And.intro rfl ?_|refine AB.mk (λh=>?_) (λh=>?_))<;>conv=>whnf)
theorem nV(w:DWorld)(hs:DWorld.small 1048576 w)(h:(ay w&&br w 1)=false):aj av 91 [.agg w.ds] (.val (.one uM)):=by
 have hn:(!(ay w&&br w 1))=true:=by rw[h];rfl
 refine nm ah func91 rfl call91 ntmps91 (MC results91) λS=>?_
 conv=>whnf
 repeat'((first|refine aw0 ?_|refine awx ?_|refine cP (bE w 1 Mq hs) ?_|exact rr|refine And.intro rfl ?_|refine AB.mk (λh=>?_) (λh=>?_))<;>conv=>whnf)
theorem mA(w:DWorld)(hs:DWorld.small 1048576 w)(h:(ay w&&br w 2)=false):aj av 92 [.agg w.ds,pI 2] (.val (.one uM)):=by
 have hn:(!(ay w&&br w 2))=true:=by rw[h];rfl
 refine nm ah func92 rfl call92 ntmps92 (MC results92) λS=>?_
 conv=>whnf
 repeat'((first|refine aw0 ?_|refine awx ?_|refine cP (aU 2) ?_|refine cP (bE w 2 Mq hs) ?_|exact rr|refine And.intro rfl ?_|refine AB.mk (λh=>?_) (λh=>?_))<;>conv=>whnf)
theorem mB(w:DWorld)(hs:DWorld.small 1048576 w)(h:(ay w&&br w 3)=false):aj av 92 [.agg w.ds,pI 3] (.val (.one uM)):=by
 have hn:(!(ay w&&br w 3))=true:=by rw[h];rfl
 refine nm ah func92 rfl call92 ntmps92 (MC results92) λS=>?_
 conv=>whnf
 repeat'((first|refine aw0 ?_|refine awx ?_|refine cP (aU 3) ?_|refine cP (bE w 3 Mq hs) ?_|exact rr|refine And.intro rfl ?_|refine AB.mk (λh=>?_) (λh=>?_))<;>conv=>whnf)
theorem mG:mF []=uM:=rfl
theorem gK:∀{l:List Int},l≠ []->mF l= .sl (l.map eI)
 |[],h=>absurd rfl h
 |x::r,_=>rfl
theorem yV(w:DWorld)(hs:DWorld.small 1048576 w):aj av 34 [.agg w.ds,pI 0] (.val (.one (mF (ci w 0)))):=by
 show aj av 34 [.agg w.ds,pI 0] (.val (.one (mF (aM w))))
 cases h:(ay w&&br w 0)with
 |false=>
  have e:aM w=[]:=by simp[aM,h]
  rw[e,mG]
  refine ae ah func34 rfl call34 ntmps34 (MC results34) λS=>?_;conv=>whnf
  repeat'((first|refine aw0 ?_|refine awx ?_|refine cP (qT w hs h) ?_|exact rr|refine And.intro rfl ?_|refine AB.mk (λh=>?_) (λh=>?_))<;>conv=>whnf)
 |true=>
  have e:aM w≠ []:=by unfold aM;rw[if_pos h];simp[xz,kk]
  rw[gK e]
  refine ae ah func34 rfl call34 ntmps34 (MC results34) λS=>?_;conv=>whnf
  repeat'((first|refine aw0 ?_|refine awx ?_|refine cP ((pg w hs).pcall) ?_|exact rr|refine And.intro rfl ?_|refine AB.mk (λh=>?_) (λh=>?_))<;>conv=>whnf)
theorem yW(w:DWorld)(hs:DWorld.small 1048576 w):aj av 34 [.agg w.ds,pI 1] (.val (.one (mF (ci w 1)))):=by
 show aj av 34 [.agg w.ds,pI 1] (.val (.one (mF (aH w))))
 cases h:(ay w&&br w 1)with
 |false=>
  have e:aH w=[]:=by simp[aH,h]
  rw[e,mG]
  refine ae ah func34 rfl call34 ntmps34 (MC results34) λS=>?_;conv=>whnf
  repeat'((first|refine aw0 ?_|refine awx ?_|refine cP (nV w hs h) ?_|exact rr|refine And.intro rfl ?_|refine AB.mk (λh=>?_) (λh=>?_))<;>conv=>whnf)
 |true=>
  have e:aH w≠ []:=by unfold aH;rw[if_pos h];simp[xz,kk]
  rw[gK e]
  refine ae ah func34 rfl call34 ntmps34 (MC results34) λS=>?_;conv=>whnf
  repeat'((first|refine aw0 ?_|refine awx ?_|refine cP ((my w hs).pcall) ?_|exact rr|refine And.intro rfl ?_|refine AB.mk (λh=>?_) (λh=>?_))<;>conv=>whnf)
theorem yX(w:DWorld)(hs:DWorld.small 1048576 w):aj av 34 [.agg w.ds,pI 2] (.val (.one (mF (ci w 2)))):=by
 show aj av 34 [.agg w.ds,pI 2] (.val (.one (mF (ar w 2))))
 cases h:(ay w&&br w 2)with
 |false=>
  have e:ar w 2=[]:=by simp[ar,h]
  rw[e,mG]
  refine ae ah func34 rfl call34 ntmps34 (MC results34) λS=>?_;conv=>whnf
  repeat'((first|refine aw0 ?_|refine awx ?_|refine cP (mA w hs h) ?_|exact rr|refine And.intro rfl ?_|refine AB.mk (λh=>?_) (λh=>?_))<;>conv=>whnf)
 |true=>
  have e:ar w 2≠ []:=by simp[ar,h,fD]
  rw[gK e]
  refine ae ah func34 rfl call34 ntmps34 (MC results34) λS=>?_;conv=>whnf
  repeat'((first|refine aw0 ?_|refine awx ?_|refine cP ((e8 w 2 hs).pcall) ?_|exact rr|refine And.intro rfl ?_|refine AB.mk (λh=>?_) (λh=>?_))<;>conv=>whnf)
theorem yY(w:DWorld)(hs:DWorld.small 1048576 w):aj av 34 [.agg w.ds,pI 3] (.val (.one (mF (ci w 3)))):=by
 show aj av 34 [.agg w.ds,pI 3] (.val (.one (mF (ar w 3))))
 cases h:(ay w&&br w 3)with
 |false=>
  have e:ar w 3=[]:=by simp[ar,h]
  rw[e,mG]
  refine ae ah func34 rfl call34 ntmps34 (MC results34) λS=>?_;conv=>whnf
  repeat'((first|refine aw0 ?_|refine awx ?_|refine cP (mB w hs h) ?_|exact rr|refine And.intro rfl ?_|refine AB.mk (λh=>?_) (λh=>?_))<;>conv=>whnf)
 |true=>
  have e:ar w 3≠ []:=by simp[ar,h,fD]
  rw[gK e]
  refine ae ah func34 rfl call34 ntmps34 (MC results34) λS=>?_;conv=>whnf
  repeat'((first|refine aw0 ?_|refine awx ?_|refine cP ((e8 w 3 hs).pcall) ?_|exact rr|refine And.intro rfl ?_|refine AB.mk (λh=>?_) (λh=>?_))<;>conv=>whnf)
theorem yZ(w:DWorld)(hs:DWorld.small 1048576 w)(hw:ay w=true):aj av 34 [.agg w.ds,pI 4] (.val (.one (mF (ci w 4)))):=by
 show aj av 34 [.agg w.ds,pI 4] (.val (.one (mF (ax w 4))))
 have e:ax w 4≠ []:=by simp[ax,hw,dA]
 rw[gK e]
 refine ae ah func34 rfl call34 ntmps34 (MC results34) λS=>?_;conv=>whnf
 repeat'((first|refine aw0 ?_|refine awx ?_|refine cP ((d5 w 4 hs).pcall) ?_|exact rr|refine And.intro rfl ?_|refine AB.mk (λh=>?_) (λh=>?_))<;>conv=>whnf)
theorem y0(w:DWorld)(hs:DWorld.small 1048576 w)(hw:ay w=true):aj av 34 [.agg w.ds,pI 5] (.val (.one (mF (ci w 5)))):=by
 show aj av 34 [.agg w.ds,pI 5] (.val (.one (mF (ax w 5))))
 have e:ax w 5≠ []:=by simp[ax,hw,dA]
 rw[gK e]
 refine ae ah func34 rfl call34 ntmps34 (MC results34) λS=>?_;conv=>whnf
 repeat'((first|refine aw0 ?_|refine awx ?_|refine cP ((d5 w 5 hs).pcall) ?_|exact rr|refine And.intro rfl ?_|refine AB.mk (λh=>?_) (λh=>?_))<;>conv=>whnf)
theorem y1(w:DWorld)(hs:DWorld.small 1048576 w)(hw:ay w=true):aj av 34 [.agg w.ds,pI 6] (.val (.one (mF (ci w 6)))):=by
 show aj av 34 [.agg w.ds,pI 6] (.val (.one (mF (aV w))))
 have e:aV w≠ []:=by simp[aV,hw,uL]
 rw[gK e]
 refine ae ah func34 rfl call34 ntmps34 (MC results34) λS=>?_;conv=>whnf
 repeat'((first|refine aw0 ?_|refine awx ?_|refine cP ((ph w hs).pcall) ?_|exact rr|refine And.intro rfl ?_|refine AB.mk (λh=>?_) (λh=>?_))<;>conv=>whnf)
theorem y3(w:DWorld)(hs:DWorld.small 1048576 w)(hw:ay w=true)(k:Nat)(hk:k<7):aj av 34 [.agg w.ds,pI (k:Int)] (.val (.one (mF (ci w k)))):=by
 have:k=0\/k=1\/k=2\/k=3\/k=4\/k=5\/k=6:=by omega
 rcases this with rfl|rfl|rfl|rfl|rfl|rfl|rfl
 ·exact yV w hs
 ·exact yW w hs
 ·exact yX w hs
 ·exact yY w hs
 ·exact yZ w hs hw
 ·exact y0 w hs hw
 ·exact y1 w hs hw
end Go.Proofs.YtehobfglmeiglaaGreatDoor
