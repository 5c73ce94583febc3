/- J24 -/
import Derived.Test.YtehobfglmeiglaaGreatDoorWR
import Derived.Test.YtehobfglmeiglaaGreatDoorMkB
set_option linter.unusedVariables false
set_option linter.unusedSimpArgs false
set_option maxRecDepth 100000
namespace Go.Proofs.YtehobfglmeiglaaGreatDoor
open Go.Proofs.Tryz
open Go.ChangeShapes Go.WideShapes Go.RowKit
def bR(l:List Int):Int:=if dT l&&decide (l.length≠0)&&ai (l.getD 0 0) 1 9 then l.getD 0 0 else 0
theorem vX(l:List Int):0<=bR l/\bR l<=9:=by
 unfold bR
 split
 ·rename_i h
  simp only[ai,Bool.and_eq_true,decide_eq_true_eq]at h
  omega
 ·omega
theorem wn(l:List Int):aj av 67 [.one (dIs l)] (.val (pI (bR l))):=by
 cases hr:dT l with
 |false=>
  have hn:(!dT l)=true:=by rw[hr];rfl
  have e:bR l=0:=by simp[bR,hr]
  rw[e]
  refine ae ah func67 rfl call67 ntmps67 (MC results67) λS=>?_;conv=>whnf
  repeat'((first|refine aw0 ?_|refine aw1 ?_|refine aw2 ?_|refine aw3 ?_|refine aw4 ?_|refine aw5 ?_|refine aw6 ?_|refine aw7 ?_|refine aw8 ?_|refine bT ?_|refine bF ?_|refine cP (cr l) ?_|exact rr|refine And.intro rfl ?_|refine AB.mk (λh=>?_) (λh=>?_))<;>conv=>whnf)
 |true=>
  have hn:(!dT l)=false:=by rw[hr];rfl
  rcases l with _|⟨x,r⟩
  ·have e:bR []=0:=by simp[bR]
   rw[e]
   refine ae ah func67 rfl call67 ntmps67 (MC results67) λS=>?_;conv=>whnf
   repeat'((first|refine aw0 ?_|refine aw1 ?_|refine aw2 ?_|refine aw3 ?_|refine aw4 ?_|refine aw5 ?_|refine aw6 ?_|refine aw7 ?_|refine aw8 ?_|refine bT ?_|refine bF ?_|refine cP (cr []) ?_|exact rr|refine And.intro rfl ?_|refine AB.mk (λh=>?_) (λh=>?_))<;>conv=>whnf)
  ·have h0:((((x::r).map eI).length:Int)==0)=false:=by simp;omega
   cases hb:ai x 1 9 with
   |false=>
    have hn2:(!ai x 1 9)=true:=by rw[hb];rfl
    have e:bR (x::r)=0:=by simp[bR,hb]
    rw[e]
    refine ae ah func67 rfl call67 ntmps67 (MC results67) λS=>?_;conv=>whnf
    repeat'((first|refine aw0 ?_|refine aw1 ?_|refine aw2 ?_|refine aw3 ?_|refine aw4 ?_|refine aw5 ?_|refine aw6 ?_|refine aw7 ?_|refine aw8 ?_|refine bT ?_|refine bF ?_|refine cP (cr (x::r)) ?_|refine AIx.at 0 _ rfl rfl ?_|refine cP (aA _ _ _) ?_|exact rr|refine And.intro rfl ?_|refine AB.mk (λh=>?_) (λh=>?_))<;>conv=>whnf)
   |true=>
    have hn2:(!ai x 1 9)=false:=by rw[hb];rfl
    have e:bR (x::r)=x:=by simp[bR,hb,hr]
    rw[e]
    refine ae ah func67 rfl call67 ntmps67 (MC results67) λS=>?_;conv=>whnf
    repeat'((first|refine aw0 ?_|refine aw1 ?_|refine aw2 ?_|refine aw3 ?_|refine aw4 ?_|refine aw5 ?_|refine aw6 ?_|refine aw7 ?_|refine aw8 ?_|refine bT ?_|refine bF ?_|refine cP (cr (x::r)) ?_|refine AIx.at 0 _ rfl rfl ?_|refine cP (aA _ _ _) ?_|exact rr|refine And.intro rfl ?_|refine AB.mk (λh=>?_) (λh=>?_))<;>conv=>whnf)
theorem vQ(l:List Int):aj av 195 [.one (dIs l)] (.val (pI (bR l))):=by
 rcases l with _|⟨x,r⟩
 ·have e:bR []=0:=by simp[bR]
  rw[e]
  refine ae ah func195 rfl call195 ntmps195 (MC results195) λS=>?_;conv=>whnf
  repeat'((first|refine aw0 ?_|refine aw1 ?_|refine aw2 ?_|refine aw3 ?_|refine aw4 ?_|refine aw5 ?_|refine aw6 ?_|refine aw7 ?_|refine aw8 ?_|refine bT ?_|refine bF ?_|exact rr|refine And.intro rfl ?_|refine AB.mk (λh=>?_) (λh=>?_))<;>conv=>whnf)
 ·have h0:((((x::r).map eI).length:Int)==0)=false:=by simp;omega
  cases hr:dT (x::r)with
  |false=>
   have hn:(!dT (x::r))=true:=by rw[hr];rfl
   have e:bR (x::r)=0:=by simp[bR,hr]
   rw[e]
   refine ae ah func195 rfl call195 ntmps195 (MC results195) λS=>?_;conv=>whnf
   repeat'((first|refine aw0 ?_|refine aw1 ?_|refine aw2 ?_|refine aw3 ?_|refine aw4 ?_|refine aw5 ?_|refine aw6 ?_|refine aw7 ?_|refine aw8 ?_|refine bT ?_|refine bF ?_|refine cP (db (x::r)) ?_|exact rr|refine And.intro rfl ?_|refine AB.mk (λh=>?_) (λh=>?_))<;>conv=>whnf)
  |true=>
   have hn:(!dT (x::r))=false:=by rw[hr];rfl
   cases hb:ai x 1 9 with
   |false=>
    have hn2:(!ai x 1 9)=true:=by rw[hb];rfl
    have e:bR (x::r)=0:=by simp[bR,hb]
    rw[e]
    refine ae ah func195 rfl call195 ntmps195 (MC results195) λS=>?_;conv=>whnf
    repeat'((first|refine aw0 ?_|refine aw1 ?_|refine aw2 ?_|refine aw3 ?_|refine aw4 ?_|refine aw5 ?_|refine aw6 ?_|refine aw7 ?_|refine aw8 ?_|refine bT ?_|refine bF ?_|refine cP (db (x::r)) ?_|refine AIx.at 0 _ rfl rfl ?_|refine cP (aq _ _ _) ?_|exact rr|refine And.intro rfl ?_|refine AB.mk (λh=>?_) (λh=>?_))<;>conv=>whnf)
   |true=>
    have hn2:(!ai x 1 9)=false:=by rw[hb];rfl
    have e:bR (x::r)=x:=by simp[bR,hb,hr]
    rw[e]
    refine ae ah func195 rfl call195 ntmps195 (MC results195) λS=>?_;conv=>whnf
    repeat'((first|refine aw0 ?_|refine aw1 ?_|refine aw2 ?_|refine aw3 ?_|refine aw4 ?_|refine aw5 ?_|refine aw6 ?_|refine aw7 ?_|refine aw8 ?_|refine bT ?_|refine bF ?_|refine cP (db (x::r)) ?_|refine AIx.at 0 _ rfl rfl ?_|refine cP (aq _ _ _) ?_|exact rr|refine And.intro rfl ?_|refine AB.mk (λh=>?_) (λh=>?_))<;>conv=>whnf)
def AJ(c:List Int)(m:DMsg):List Int:=c.set (bR m.row).toNat (c.getD (bR m.row).toNat 0+1)
def dU(l:List DMsg):List Int:=l.foldl AJ (List.replicate 10 0)
theorem lQ(l:List DMsg){k:Nat}(hk:k<l.length):dU (l.take (k+1))=AJ (dU (l.take k)) l[k]:=by
 unfold dU
 rw[kn hk,List.foldl_append]
 rfl
theorem Ef(c:List Int)(m:DMsg):(AJ c m).length=c.length:=by simp[AJ]
theorem Ee{c:List Int}{n:Int}(hc:∀x∈c,0<=x/\x<=n)(m:DMsg)(hn:0<=n):∀x∈AJ c m,0<=x/\x<=n+1:=by
 intro x hx
 rcases List.mem_or_eq_of_mem_set hx with hx|rfl
 ·have:=hc x hx;omega
 ·rw[List.getD_eq_getElem?_getD]
  cases h:c[(bR m.row).toNat]? with
  |none=>simp;omega
  |some y=>have:=hc y (List.mem_of_getElem? h);simp;omega
theorem dC(l:List DMsg):∀k,k<=l.length->(dU (l.take k)).length=10/\∀x∈dU (l.take k),0<=x/\x<=(k:Int)
 |0,_=>by
  refine⟨rfl,λx hx=>?_⟩
  have:=List.eq_of_mem_replicate (show x∈List.replicate 10 (0:Int)from hx)
  omega
 |k+1,hk=>by
  obtain⟨h1,h2⟩:=dC l k Mo
  rw[lQ l Mo]
  refine⟨by rw[Ef,h1],λx hx=>?_⟩
  have:=Ee h2 l[k] Mo x hx
  omega
theorem Ev{n:Nat}{l r:List Int}:Fam n n (l.map eI++r.map eI).flatten (l.map eI++r.map eI).flatten:=Fam.blank (by simp[AD.isBl,eI])
def uL(n:DNet):List Int:=dU n.flight++[(n.cuts.length:Int)]
def aV(w:DWorld):List Int:=if ay w then uL w.net else []
theorem qy{w:DWorld}(h:ay w=true):w.net.flight.length<=60/\w.net.cuts.length<=15:=by
 rw[cU]at h
 simp only[Bool.and_eq_true,g8,decide_eq_true_eq]at h
 omega
theorem xk{c:List Int}(h:c.length=10){k:Int}(h0:0<=k)(h9:k<=9):(c.map eI)[k.toNat]? =some (eI (c.getD k.toNat 0)):=by
 have hl:k.toNat<c.length:=by omega
 rw[List.getElem?_map,List.getElem?_eq_getElem hl,List.getD_eq_getElem?_getD,List.getElem?_eq_getElem hl]
 rfl
theorem BT{c:List Int}{m:DMsg}:(c.map eI).set (bR m.row).toNat (eI (c.getD (bR m.row).toNat 0+1))=(AJ c m).map eI:=by
 unfold AJ
 rw[List.map_set]
theorem ph(w:DWorld)(hs:DWorld.small 1048576 w):bC av 94 [.agg w.ds] (.one (.sl ((aV w).map eI))):=by
 cases hw:ay w with
 |false=>
  have hn:(!ay w)=true:=by rw[hw];rfl
  have e:aV w=[]:=by simp[aV,hw]
  rw[e]
  refine aE ah func94 rfl call94 ntmps94 (MC results94) λS=>?_;conv=>whnf
  repeat'((first|refine aw0 ?_|refine aw1 ?_|refine aw2 ?_|refine aw3 ?_|refine aw4 ?_|refine aw5 ?_|refine aw6 ?_|refine aw7 ?_|refine aw8 ?_|refine bT ?_|refine bF ?_|refine cP (bh w hs) ?_|exact rr|refine And.intro rfl ?_|refine AB.mk (λh=>?_) (λh=>?_))<;>conv=>whnf)
  all_goals rfl
 |true=>
  have hn:(!ay w)=false:=by rw[hw];rfl
  have e:aV w=uL w.net:=by simp[aV,hw]
  have hN:=qy hw
  rw[e]
  refine aE ah func94 rfl call94 ntmps94 (MC results94) λS=>?_;conv=>whnf
  repeat'((first|refine aw0 ?_|refine aw1 ?_|refine aw2 ?_|refine aw3 ?_|refine aw4 ?_|refine aw5 ?_|refine aw6 ?_|refine aw7 ?_|refine aw8 ?_|refine bT ?_|refine bF ?_|refine cP (bh w hs) ?_|exact rr|refine And.intro rfl ?_|refine AB.mk (λh=>?_) (λh=>?_))<;>conv=>whnf)
  refine⟨10,rfl,rfl,by decide,by decide,?_⟩
  conv=>whnf
  repeat'((first|refine aw0 ?_|refine aw1 ?_|refine aw2 ?_|refine aw3 ?_|refine aw4 ?_|refine aw5 ?_|refine aw6 ?_|refine aw7 ?_|refine aw8 ?_|refine bT ?_|refine bF ?_|exact rr|refine And.intro rfl ?_|refine AB.mk (λh=>?_) (λh=>?_))<;>conv=>whnf)
  refine AWP.loopS (λk:Nat=>k<=w.net.flight.length) (9::[5,14,15,16,17,18,19,20,21,22,23,24,25,26]) (λk=>[(3,.one (.own 9)),(14,vI .i64 (k:Int))]) (λk=>[(9997,dR S.w0.heap.size S.w0.heap.size),(1,.cells 106 (w.ds.map .d)),(9,.row 2 1 ((dU (w.net.flight.take k)).map eI))]) (λk=>w.net.flight.length-k) 0 Mo ?_ (ak.cons rfl (ak.cons rfl (ak.cons (congrArg some (congrArg (AO.row 2 1) (show List.replicate 10 [dI 0]=(dU (w.net.flight.take 0)).map eI from rfl))) ak.nil))) (λk hR=>?_)<;>(conv=>whnf)
  ·exact whd
  ·by_cases hlt:k<w.net.flight.length
   ·have hc:=dC w.net.flight k Mo
    have hr:=vX (w.net.flight[k]).row
    have hv:0<=(dU (w.net.flight.take k)).getD (bR (w.net.flight[k]).row).toNat 0/\(dU (w.net.flight.take k)).getD (bR (w.net.flight[k]).row).toNat 0<=60:=by
     have hl:(bR (w.net.flight[k]).row).toNat<(dU (w.net.flight.take k)).length:=by omega
     rw[List.getD_eq_getElem?_getD,List.getElem?_eq_getElem hl]
     have:=hc.2 _ (List.getElem_mem hl)
     simp only[Option.getD_some]
     omega
    have hk:bR (w.net.flight[k]).row=(((bR (w.net.flight[k]).row).toNat:Nat):Int):=by omega
    have ht:decide ((k:Int)<((w.net.flight.map DMsg.ds).length:Int))=true:=by simp;omega
    repeat'((first|refine aw0 ?_|refine aw1 ?_|refine aw2 ?_|refine aw3 ?_|refine aw4 ?_|refine aw5 ?_|refine aw6 ?_|refine aw7 ?_|refine aw8 ?_|refine bT ?_|refine bF ?_|refine AIx.map hlt ?_|refine cP (vQ _) ?_|refine AIx.at _ _ hk (xk hc.1 hr.1 hr.2) ?_|refine AIx.at _ _ rfl (xk hc.1 hr.1 hr.2) ?_|refine AW.i64 Mo Mo ?_|exact rr|refine And.intro rfl ?_|refine AB.mk (λh=>?_) (λh=>?_))<;>conv=>whnf)
    refine aB.mk ⟨k+1,hlt,by omega,?_,ak.cons rfl (ak.cons rfl (ak.cons (congrArg some (congrArg (AO.row 2 1) (by rw[lQ _ hlt];exact BT))) ak.nil))⟩
    exact hds
   ·have e:k=w.net.flight.length:=by omega
    subst e
    have ht:decide ((w.net.flight.length:Int)<((w.net.flight.map DMsg.ds).length:Int))=false:=by simp
    have hc:=(dC w.net.flight w.net.flight.length (Nat.le_refl _)).1
    rw[List.take_length]at hc
    rw[List.take_length]
    repeat'((first|refine aw0 ?_|refine aw1 ?_|refine aw2 ?_|refine aw3 ?_|refine aw4 ?_|refine aw5 ?_|refine aw6 ?_|refine aw7 ?_|refine aw8 ?_|refine bT ?_|refine bF ?_|refine And.intro (by simp[hc]) ?_|exact rr|refine And.intro rfl ?_|refine AB.mk (λh=>?_) (λh=>?_))<;>conv=>whnf)
    exact⟨_,_,(uL w.net).map eI,Nat.le_refl _,by rw[uL,List.map_append];simp only[List.length_map];exact Ev (r:=[(w.net.cuts.length:Int)]),by simp[uL],(λy hy=>by obtain⟨a,_,rfl⟩:=List.mem_map.1 hy;rfl),rfl⟩
theorem pO(w:DWorld)(hs:DWorld.small 1048576 w):aj av 21 [.agg w.ds] (.val (.one (.sl ((aV w).map eI)))):=by
 cases hw:ay w with
 |false=>
  have hn:(!ay w)=true:=by rw[hw];rfl
  have e:aV w=[]:=by simp[aV,hw]
  rw[e]
  refine ae ah func21 rfl call21 ntmps21 (MC results21) λS=>?_;conv=>whnf
  repeat'((first|refine aw0 ?_|refine aw1 ?_|refine aw2 ?_|refine aw3 ?_|refine aw4 ?_|refine aw5 ?_|refine aw6 ?_|refine aw7 ?_|refine aw8 ?_|refine bT ?_|refine bF ?_|refine cP (aF w hs) ?_|exact rr|refine And.intro rfl ?_|refine AB.mk (λh=>?_) (λh=>?_))<;>conv=>whnf)
  all_goals rfl
 |true=>
  have hn:(!ay w)=false:=by rw[hw];rfl
  have e:aV w=uL w.net:=by simp[aV,hw]
  have hN:=qy hw
  rw[e]
  refine ae ah func21 rfl call21 ntmps21 (MC results21) λS=>?_;conv=>whnf
  repeat'((first|refine aw0 ?_|refine aw1 ?_|refine aw2 ?_|refine aw3 ?_|refine aw4 ?_|refine aw5 ?_|refine aw6 ?_|refine aw7 ?_|refine aw8 ?_|refine bT ?_|refine bF ?_|refine cP (aF w hs) ?_|exact rr|refine And.intro rfl ?_|refine AB.mk (λh=>?_) (λh=>?_))<;>conv=>whnf)
  refine⟨10,rfl,rfl,by decide,by decide,?_⟩
  conv=>whnf
  repeat'((first|refine aw0 ?_|refine aw1 ?_|refine aw2 ?_|refine aw3 ?_|refine aw4 ?_|refine aw5 ?_|refine aw6 ?_|refine aw7 ?_|refine aw8 ?_|refine bT ?_|refine bF ?_|exact rr|refine And.intro rfl ?_|refine AB.mk (λh=>?_) (λh=>?_))<;>conv=>whnf)
  refine AWP.loopS (λk:Nat=>k<=w.net.flight.length) (10::[4,5,11,12,13,14,15,16,17,18,19,20,21,22,23,24,25,26,27,28,29,30,31,32,33,34]) (λk=>[(3,.one (.own 10)),(4,vI .i64 (k:Int))]) (λk=>[(1,.cells 106 (w.ds.map .d)),(10,.row 2 1 ((dU (w.net.flight.take k)).map eI))]) (λk=>w.net.flight.length-k) 0 Mo ?_ (ak.cons rfl (ak.cons (congrArg some (congrArg (AO.row 2 1) (show List.replicate 10 [dI 0]=(dU (w.net.flight.take 0)).map eI from rfl))) ak.nil)) (λk hR=>?_)<;>(conv=>whnf)
  ·exact whd
  ·by_cases hlt:k<w.net.flight.length
   ·have hc:=dC w.net.flight k Mo
    have hr:=vX (w.net.flight[k]).row
    have hv:0<=(dU (w.net.flight.take k)).getD (bR (w.net.flight[k]).row).toNat 0/\(dU (w.net.flight.take k)).getD (bR (w.net.flight[k]).row).toNat 0<=60:=by
     have hl:(bR (w.net.flight[k]).row).toNat<(dU (w.net.flight.take k)).length:=by omega
     rw[List.getD_eq_getElem?_getD,List.getElem?_eq_getElem hl]
     have:=hc.2 _ (List.getElem_mem hl)
     simp only[Option.getD_some]
     omega
    have hk:bR (w.net.flight[k]).row=(((bR (w.net.flight[k]).row).toNat:Nat):Int):=by omega
    have ht:decide ((k:Int)<((w.net.flight.map DMsg.ds).length:Int))=true:=by simp;omega
    repeat'((first|refine aw0 ?_|refine aw1 ?_|refine aw2 ?_|refine aw3 ?_|refine aw4 ?_|refine aw5 ?_|refine aw6 ?_|refine aw7 ?_|refine aw8 ?_|refine bT ?_|refine bF ?_|refine AIx.map hlt ?_|refine cP (wn _) ?_|refine AIx.at _ _ hk (xk hc.1 hr.1 hr.2) ?_|refine AIx.at _ _ rfl (xk hc.1 hr.1 hr.2) ?_|refine AW.i64 Mo Mo ?_|exact rr|refine And.intro rfl ?_|refine AB.mk (λh=>?_) (λh=>?_))<;>conv=>whnf)
    refine aB.mk ⟨k+1,hlt,by omega,?_,(ak.cons rfl (ak.cons (congrArg some (congrArg (AO.row 2 1) (by rw[lQ _ hlt];exact BT))) ak.nil))⟩
    exact hds
   ·have e:k=w.net.flight.length:=by omega
    subst e
    have ht:decide ((w.net.flight.length:Int)<((w.net.flight.map DMsg.ds).length:Int))=false:=by simp
    have hc:=(dC w.net.flight w.net.flight.length (Nat.le_refl _)).1
    rw[List.take_length]at hc
    rw[List.take_length]
    repeat'((first|refine aw0 ?_|refine aw1 ?_|refine aw2 ?_|refine aw3 ?_|refine aw4 ?_|refine aw5 ?_|refine aw6 ?_|refine aw7 ?_|refine aw8 ?_|refine bT ?_|refine bF ?_|refine And.intro (by simp[hc]) ?_|exact rr|refine And.intro rfl ?_|refine AB.mk (λh=>?_) (λh=>?_))<;>conv=>whnf)
    all_goals(simp[uL];rfl)
end Go.Proofs.YtehobfglmeiglaaGreatDoor
namespace Go.Proofs.YtehobfglmeiglaaGreatDoor
open Go.Proofs.Tryz
open Go.ChangeShapes Go.WideShapes Go.RowKit
theorem C7(b o:Nat)(w:World):Calls av.P 263 #[.pointer (some ⟨b,o,none⟩)] w λe w'=>e= .returned (.pointer (some ⟨b,o+61,none⟩))/\w'=w:=by
 show Calls Tryz.prog 263 _ w _
 go_enter Tryz.func263,Tryz.ntmps263
 go_wp2
 go_ret
 exact⟨rfl,rfl⟩
theorem C8(b o:Nat)(w:World):Calls av.P 264 #[.pointer (some ⟨b,o,none⟩)] w λe w'=>e= .returned (.pointer (some ⟨b,o+65,none⟩))/\w'=w:=by
 show Calls Tryz.prog 264 _ w _
 go_enter Tryz.func264,Tryz.ntmps264
 go_wp2
 go_ret
 exact⟨rfl,rfl⟩
theorem pn:aj av 191 [pI 4] (.val (.one (.pv (.func (.func 263) #[] #[])))):=by
 refine ae ah func191 rfl call191 ntmps191 (MC results191) λS=>?_;conv=>whnf
 repeat'((first|refine aw0 ?_|refine aw1 ?_|refine aw2 ?_|refine aw3 ?_|refine aw4 ?_|refine aw5 ?_|refine aw6 ?_|refine aw7 ?_|refine aw8 ?_|refine bT ?_|refine bF ?_|exact rr|refine And.intro rfl ?_|refine AB.mk (λh=>?_) (λh=>?_))<;>conv=>whnf)
theorem pp:aj av 191 [pI 5] (.val (.one (.pv (.func (.func 264) #[] #[])))):=by
 refine ae ah func191 rfl call191 ntmps191 (MC results191) λS=>?_;conv=>whnf
 repeat'((first|refine aw0 ?_|refine aw1 ?_|refine aw2 ?_|refine aw3 ?_|refine aw4 ?_|refine aw5 ?_|refine aw6 ?_|refine aw7 ?_|refine aw8 ?_|refine bT ?_|refine bF ?_|exact rr|refine And.intro rfl ?_|refine AB.mk (λh=>?_) (λh=>?_))<;>conv=>whnf)
theorem EB(s:DClient):aj av 192 [.agg s.ds] (.val (pI (s.todo.length))):=by
 refine ae ah func192 rfl call192 ntmps192 (MC results192) λS=>?_;conv=>whnf
 repeat'((first|refine aw0 ?_|refine aw1 ?_|refine aw2 ?_|refine aw3 ?_|refine aw4 ?_|refine aw5 ?_|refine aw6 ?_|refine aw7 ?_|refine aw8 ?_|refine bT ?_|refine bF ?_|exact rr|refine And.intro rfl ?_|refine AB.mk (λh=>?_) (λh=>?_))<;>conv=>whnf)
 all_goals simp
theorem EC(s:DClient):aj av 193 [.agg s.ds] (.val (pI (s.gots.length))):=by
 refine ae ah func193 rfl call193 ntmps193 (MC results193) λS=>?_;conv=>whnf
 repeat'((first|refine aw0 ?_|refine aw1 ?_|refine aw2 ?_|refine aw3 ?_|refine aw4 ?_|refine aw5 ?_|refine aw6 ?_|refine aw7 ?_|refine aw8 ?_|refine bT ?_|refine bF ?_|exact rr|refine And.intro rfl ?_|refine AB.mk (λh=>?_) (λh=>?_))<;>conv=>whnf)
 all_goals simp
theorem ED(s:DClient):aj av 194 [.agg s.ds] (.val (pI (s.last))):=by
 refine ae ah func194 rfl call194 ntmps194 (MC results194) λS=>?_;conv=>whnf
 repeat'((first|refine aw0 ?_|refine aw1 ?_|refine aw2 ?_|refine aw3 ?_|refine aw4 ?_|refine aw5 ?_|refine aw6 ?_|refine aw7 ?_|refine aw8 ?_|refine bT ?_|refine bF ?_|exact rr|refine And.intro rfl ?_|refine AB.mk (λh=>?_) (λh=>?_))<;>conv=>whnf)
 all_goals simp
def dA(s:DClient):List Int:=[s.todo.length,s.gots.length,s.last]
theorem tX(s:DClient):bC av 190 [.agg s.ds,.one (.sl [pF 192,pF 193,pF 194])] (.one (.sl ((dA s).map eI))):=by
 refine aE ah func190 rfl call190 ntmps190 (MC results190) λS=>?_;conv=>whnf
 repeat'((first|refine aw0 ?_|refine aw1 ?_|refine aw2 ?_|refine aw3 ?_|refine aw4 ?_|refine aw5 ?_|refine aw6 ?_|refine aw7 ?_|refine aw8 ?_|refine bT ?_|refine bF ?_|exact rr|refine And.intro rfl ?_|refine AB.mk (λh=>?_) (λh=>?_))<;>conv=>whnf)
 refine AWP.unroll 4 ?_
 conv=>whnf
 repeat'((first|refine aw0 ?_|refine aw1 ?_|refine aw2 ?_|refine aw3 ?_|refine aw4 ?_|refine aw5 ?_|refine aw6 ?_|refine aw7 ?_|refine aw8 ?_|refine bT ?_|refine bF ?_|refine AIx.at 0 _ rfl rfl ?_|refine AIx.at 1 _ rfl rfl ?_|refine AIx.at 2 _ rfl rfl ?_|refine AIx.at 3 _ rfl rfl ?_|refine AIx.at 4 _ rfl rfl ?_|refine AIx.at 5 _ rfl rfl ?_|refine AIx.at 6 _ rfl rfl ?_|refine cP (EB s) ?_|refine cP (EC s) ?_|refine cP (ED s) ?_|refine AW.i64 Mq Mq ?_|refine And.intro Mq ?_|refine And.intro Mr ?_|exact rr|refine And.intro rfl ?_|refine AB.mk (λh=>?_) (λh=>?_))<;>conv=>whnf)
 exact⟨_,_,(dA s).map eI,Nat.le_refl _,Fam.blank (lo:=S.w0.heap.size) (hi:=S.w0.heap.size) rfl,rfl,(λy hy=>by obtain⟨a,_,rfl⟩:=List.mem_map.1 hy;rfl),rfl⟩
def ax(w:DWorld)(n:Int):List Int:=if n=4 then(if ay w then dA w.ann else [])else if n=5 then(if ay w then dA w.bob else [])else []
theorem d5(w:DWorld)(n:Int)(hs:DWorld.small 1048576 w):bC av 93 [.agg w.ds,pI n] (.one (.sl ((ax w n).map eI))):=by
 by_cases h4:n=4
 ·subst h4
  cases h:ay w with
  |false=>
   have hn:(!ay w)=true:=by rw[h];rfl
   have e:ax w 4=[]:=by simp[ax,h]
   rw[e]
   refine aE ah func93 rfl call93 ntmps93 (MC results93) λS=>?_;conv=>whnf
   repeat'((first|refine aw0 ?_|refine aw1 ?_|refine aw2 ?_|refine aw3 ?_|refine aw4 ?_|refine aw5 ?_|refine aw6 ?_|refine aw7 ?_|refine aw8 ?_|refine bT ?_|refine bF ?_|refine cP (aq _ _ _) ?_|refine cP (bh w hs) ?_|exact rr|refine And.intro rfl ?_|refine AB.mk (λh=>?_) (λh=>?_))<;>conv=>whnf)
   all_goals rfl
  |true=>
   have hn:(!ay w)=false:=by rw[h];rfl
   have e:ax w 4=dA w.ann:=by simp[ax,h]
   rw[e]
   refine aE ah func93 rfl call93 ntmps93 (MC results93) λS=>?_;conv=>whnf
   repeat'((first|refine aw0 ?_|refine aw1 ?_|refine aw2 ?_|refine aw3 ?_|refine aw4 ?_|refine aw5 ?_|refine aw6 ?_|refine aw7 ?_|refine aw8 ?_|refine bT ?_|refine bF ?_|refine cP (aq _ _ _) ?_|refine cP (bh w hs) ?_|refine cP (pn) ?_|refine aa.refOff 61 call263 C7 ?_|exact rr|refine And.intro rfl ?_|refine AB.mk (λh=>?_) (λh=>?_))<;>conv=>whnf)
   refine aa.fresh (tX w.ann) rfl rfl λR lo hi a b F=>?_
   conv=>whnf
   repeat'((first|refine aw0 ?_|refine aw1 ?_|refine aw2 ?_|refine aw3 ?_|refine aw4 ?_|refine aw5 ?_|refine aw6 ?_|refine aw7 ?_|refine aw8 ?_|refine bT ?_|refine bF ?_|exact rr|refine And.intro rfl ?_|refine AB.mk (λh=>?_) (λh=>?_))<;>conv=>whnf)
   exact⟨lo,hi,_,a,F,rfl⟩
 ·by_cases h5:n=5
  ·subst h5
   cases h:ay w with
   |false=>
    have hn:(!ay w)=true:=by rw[h];rfl
    have e:ax w 5=[]:=by simp[ax,h]
    rw[e]
    refine aE ah func93 rfl call93 ntmps93 (MC results93) λS=>?_;conv=>whnf
    repeat'((first|refine aw0 ?_|refine aw1 ?_|refine aw2 ?_|refine aw3 ?_|refine aw4 ?_|refine aw5 ?_|refine aw6 ?_|refine aw7 ?_|refine aw8 ?_|refine bT ?_|refine bF ?_|refine cP (aq _ _ _) ?_|refine cP (bh w hs) ?_|exact rr|refine And.intro rfl ?_|refine AB.mk (λh=>?_) (λh=>?_))<;>conv=>whnf)
    all_goals rfl
   |true=>
    have hn:(!ay w)=false:=by rw[h];rfl
    have e:ax w 5=dA w.bob:=by simp[ax,h]
    rw[e]
    refine aE ah func93 rfl call93 ntmps93 (MC results93) λS=>?_;conv=>whnf
    repeat'((first|refine aw0 ?_|refine aw1 ?_|refine aw2 ?_|refine aw3 ?_|refine aw4 ?_|refine aw5 ?_|refine aw6 ?_|refine aw7 ?_|refine aw8 ?_|refine bT ?_|refine bF ?_|refine cP (aq _ _ _) ?_|refine cP (bh w hs) ?_|refine cP (pp) ?_|refine aa.refOff 65 call264 C8 ?_|exact rr|refine And.intro rfl ?_|refine AB.mk (λh=>?_) (λh=>?_))<;>conv=>whnf)
    refine aa.fresh (tX w.bob) rfl rfl λR lo hi a b F=>?_
    conv=>whnf
    repeat'((first|refine aw0 ?_|refine aw1 ?_|refine aw2 ?_|refine aw3 ?_|refine aw4 ?_|refine aw5 ?_|refine aw6 ?_|refine aw7 ?_|refine aw8 ?_|refine bT ?_|refine bF ?_|exact rr|refine And.intro rfl ?_|refine AB.mk (λh=>?_) (λh=>?_))<;>conv=>whnf)
    exact⟨lo,hi,_,a,F,rfl⟩
  ·have hb:ai n 4 5=false:=by simp[ai];omega
   have hn:(!ai n 4 5)=true:=by rw[hb];rfl
   have e:ax w n=[]:=by simp[ax,h4,h5]
   rw[e]
   refine aE ah func93 rfl call93 ntmps93 (MC results93) λS=>?_;conv=>whnf
   repeat'((first|refine aw0 ?_|refine aw1 ?_|refine aw2 ?_|refine aw3 ?_|refine aw4 ?_|refine aw5 ?_|refine aw6 ?_|refine aw7 ?_|refine aw8 ?_|refine bT ?_|refine bF ?_|refine cP (aq _ _ _) ?_|exact rr|refine And.intro rfl ?_|refine AB.mk (λh=>?_) (λh=>?_))<;>conv=>whnf)
   all_goals rfl
theorem d7(w:DWorld)(n:Int)(hs:DWorld.small 1048576 w):aj av 20 [.agg w.ds,pI n] (.val (.one (.sl ((ax w n).map eI)))):=by
 by_cases h4:n=4
 ·subst h4
  cases h:ay w with
  |false=>
   have hn:(!ay w)=true:=by rw[h];rfl
   have e:ax w 4=[]:=by simp[ax,h]
   rw[e]
   refine ae ah func20 rfl call20 ntmps20 (MC results20) λS=>?_;conv=>whnf
   repeat'((first|refine aw0 ?_|refine aw1 ?_|refine aw2 ?_|refine aw3 ?_|refine aw4 ?_|refine aw5 ?_|refine aw6 ?_|refine aw7 ?_|refine aw8 ?_|refine bT ?_|refine bF ?_|refine cP (aF w hs) ?_|exact rr|refine And.intro rfl ?_|refine AB.mk (λh=>?_) (λh=>?_))<;>conv=>whnf)
   all_goals((try simp only[List.length_map]);rfl)
  |true=>
   have hn:(!ay w)=false:=by rw[h];rfl
   have e:ax w 4=dA w.ann:=by simp[ax,h]
   rw[e]
   refine ae ah func20 rfl call20 ntmps20 (MC results20) λS=>?_;conv=>whnf
   repeat'((first|refine aw0 ?_|refine aw1 ?_|refine aw2 ?_|refine aw3 ?_|refine aw4 ?_|refine aw5 ?_|refine aw6 ?_|refine aw7 ?_|refine aw8 ?_|refine bT ?_|refine bF ?_|refine cP (aF w hs) ?_|exact rr|refine And.intro rfl ?_|refine AB.mk (λh=>?_) (λh=>?_))<;>conv=>whnf)
   all_goals((try simp only[List.length_map]);rfl)
 ·by_cases h5:n=5
  ·subst h5
   cases h:ay w with
   |false=>
    have hn:(!ay w)=true:=by rw[h];rfl
    have e:ax w 5=[]:=by simp[ax,h]
    rw[e]
    refine ae ah func20 rfl call20 ntmps20 (MC results20) λS=>?_;conv=>whnf
    repeat'((first|refine aw0 ?_|refine aw1 ?_|refine aw2 ?_|refine aw3 ?_|refine aw4 ?_|refine aw5 ?_|refine aw6 ?_|refine aw7 ?_|refine aw8 ?_|refine bT ?_|refine bF ?_|refine cP (aF w hs) ?_|exact rr|refine And.intro rfl ?_|refine AB.mk (λh=>?_) (λh=>?_))<;>conv=>whnf)
    all_goals((try simp only[List.length_map]);rfl)
   |true=>
    have hn:(!ay w)=false:=by rw[h];rfl
    have e:ax w 5=dA w.bob:=by simp[ax,h]
    rw[e]
    refine ae ah func20 rfl call20 ntmps20 (MC results20) λS=>?_;conv=>whnf
    repeat'((first|refine aw0 ?_|refine aw1 ?_|refine aw2 ?_|refine aw3 ?_|refine aw4 ?_|refine aw5 ?_|refine aw6 ?_|refine aw7 ?_|refine aw8 ?_|refine bT ?_|refine bF ?_|refine cP (aF w hs) ?_|exact rr|refine And.intro rfl ?_|refine AB.mk (λh=>?_) (λh=>?_))<;>conv=>whnf)
    all_goals((try simp only[List.length_map]);rfl)
  ·have e:ax w n=[]:=by simp[ax,h4,h5]
   have e4:(n !=4)=true:=by simp[h4]
   have e5:(n !=5)=true:=by simp[h5]
   rw[e]
   cases h:ay w with
   |false=>
    have hn:(!ay w)=true:=by rw[h];rfl
    refine ae ah func20 rfl call20 ntmps20 (MC results20) λS=>?_;conv=>whnf
    repeat'((first|refine aw0 ?_|refine aw1 ?_|refine aw2 ?_|refine aw3 ?_|refine aw4 ?_|refine aw5 ?_|refine aw6 ?_|refine aw7 ?_|refine aw8 ?_|refine bT ?_|refine bF ?_|refine cP (aF w hs) ?_|exact rr|refine And.intro rfl ?_|refine AB.mk (λh=>?_) (λh=>?_))<;>conv=>whnf)
    all_goals((try simp only[List.length_map]);rfl)
   |true=>
    have hn:(!ay w)=false:=by rw[h];rfl
    refine ae ah func20 rfl call20 ntmps20 (MC results20) λS=>?_;conv=>whnf
    repeat'((first|refine aw0 ?_|refine aw1 ?_|refine aw2 ?_|refine aw3 ?_|refine aw4 ?_|refine aw5 ?_|refine aw6 ?_|refine aw7 ?_|refine aw8 ?_|refine bT ?_|refine bF ?_|refine cP (aF w hs) ?_|exact rr|refine And.intro rfl ?_|refine AB.mk (λh=>?_) (λh=>?_))<;>conv=>whnf)
    all_goals((try simp only[List.length_map]);rfl)
end Go.Proofs.YtehobfglmeiglaaGreatDoor
