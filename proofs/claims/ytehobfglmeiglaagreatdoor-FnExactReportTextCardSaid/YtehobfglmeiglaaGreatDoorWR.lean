/- WR -/
import Derived.Test.YtehobfglmeiglaaGreatDoorJ13
import Derived.Test.YtehobfglmeiglaaGreatDoorAwx
set_option linter.unusedVariables false
set_option linter.unusedSimpArgs false
set_option maxRecDepth 100000
namespace Go.Proofs.YtehobfglmeiglaaGreatDoor
open Go.Proofs.Tryz
open Go.ChangeShapes Go.WideShapes Go.RowKit
def xd(b:Bool):Int:=if b then 1 else 0
theorem dV(b:Bool):aj av 170 [.one (dB b)] (.val (pI (xd b))):=by
 cases b
 ·refine ae ah func170 rfl call170 ntmps170 (MC results170) λS=>?_;conv=>whnf
  repeat'((first|refine aw0 ?_|refine aw1 ?_|refine aw2 ?_|refine aw3 ?_|refine aw4 ?_|refine aw5 ?_|refine aw6 ?_|refine aw7 ?_|refine aw8 ?_|refine bT ?_|refine bF ?_|exact rr|refine And.intro rfl ?_|refine AB.mk (λh=>?_) (λh=>?_))<;>conv=>whnf)
  rfl
 ·refine ae ah func170 rfl call170 ntmps170 (MC results170) λS=>?_;conv=>whnf
  repeat'((first|refine aw0 ?_|refine aw1 ?_|refine aw2 ?_|refine aw3 ?_|refine aw4 ?_|refine aw5 ?_|refine aw6 ?_|refine aw7 ?_|refine aw8 ?_|refine bT ?_|refine bF ?_|exact rr|refine And.intro rfl ?_|refine AB.mk (λh=>?_) (λh=>?_))<;>conv=>whnf)
  rfl
theorem go(b:Bool):aj av 63 [.one (dB b)] (.val (pI (xd b))):=by
 cases b
 ·refine ae ah func63 rfl call63 ntmps63 (MC results63) λS=>?_;conv=>whnf
  repeat'((first|refine aw0 ?_|refine aw1 ?_|refine aw2 ?_|refine aw3 ?_|refine aw4 ?_|refine aw5 ?_|refine aw6 ?_|refine aw7 ?_|refine aw8 ?_|refine bT ?_|refine bF ?_|exact rr|refine And.intro rfl ?_|refine AB.mk (λh=>?_) (λh=>?_))<;>conv=>whnf)
  rfl
 ·refine ae ah func63 rfl call63 ntmps63 (MC results63) λS=>?_;conv=>whnf
  repeat'((first|refine aw0 ?_|refine aw1 ?_|refine aw2 ?_|refine aw3 ?_|refine aw4 ?_|refine aw5 ?_|refine aw6 ?_|refine aw7 ?_|refine aw8 ?_|refine bT ?_|refine bF ?_|exact rr|refine And.intro rfl ?_|refine AB.mk (λh=>?_) (λh=>?_))<;>conv=>whnf)
  rfl
theorem aa.refOff{E:aO}{S:ba}{f:FuncId}{id k s off:Nat}{st:ASt}{K:AV->ASt->Prop}(d:Nat)(enter:∀(us:Array Value) w,(callFunc f us).run E.P w= .ok (.enter f us) w)
  (h:∀b o w,Calls E.P f #[.pointer (some ⟨b,o,none⟩)] w λe w'=>e= .returned (.pointer (some ⟨b,o+d,none⟩))/\w'=w) (hk:K (.one (.ref id k s (off+d))) st):aa E S f [.one (.ref id k s off)] st K:=by
 refine⟨enter,λZ ρ a w us hs hl hr=>?_⟩
 match us,hl with
 |[v],_=>
  have:=hr 0 _ v rfl rfl
  cases this with
  |one _ _ hv=>
   obtain⟨b,hb,rfl⟩:=hv
   refine(h b (k*s+off) w).mono ?_
   rintro e w' ⟨rfl,rfl⟩
   exact⟨_,_,st,Z,ρ,rfl,hs,.one (.ref id k s (off+d)) _ (show cy Z w' ρ (.ref id k s (off+d)) _ from⟨b,hb,by rw[Nat.add_assoc]⟩),hk⟩
end Go.Proofs.YtehobfglmeiglaaGreatDoor
