/- UF -/
import Derived.Test.YthgkdhnlehneeaaGreatDoorUC
import Derived.Test.YthgkdhnlehneeaaGreatDoorQZ
import Derived.Test.YthgkdhnlehneeaaGreatDoorAvFX
import Derived.Test.YthgkdhnlehneeaaGreatDoorRB7
set_option maxHeartbeats 8000000
set_option linter.unusedVariables false
set_option linter.unusedSimpArgs false
set_option maxRecDepth 100000
namespace Go.Proofs.YthgkdhnlehneeaaGreatDoor
section
open Go.Proofs.Tryz
open Go.ChangeShapes Go.WideShapes Go.RowKit
variable {k:Nat}{w:aP}
def qY:List (List Nat):=bC [0,1,0,0,4,5,6,28866,8,9,9,0,0x30a2481c61440c204828c,0xd30b28920718510308134b]
def hX:List (List Nat):=bC [0,0,2,12481,4345827588]
def qZ:List (List Nat):=bC [0,0,2,0,4,0,389,455,2130113,0x9207185103081249]
def o7:List (List Nat):=bC [0,0,2,0,4,1331393,26736222278022]
def o8:List (List Nat):=bC [0,0,2,0,4,5,390,1863873,0x207185103081208]
theorem je(h:w.up.length=6)(hk:k<6):(w.up.map eB)[k]? =some (eB (cq w k)):=by
 rw[List.getElem?_map,List.getElem?_eq_getElem ac,cq,List.getD_eq_getElem?_getD,List.getElem?_eq_getElem ac];rfl
theorem JH(f:iS w)(hk:k<6):∃c:Int,(w.clocks.map eI)[k]? =some (eI c)/\0<=c/\c<=1000000:=by
 obtain⟨h6,hr⟩:w.clocks.length=6/\∀x∈w.clocks,0<=x/\x<=1000000:=by
  have h:=f.clocks;simp only[cY,Bool.and_eq_true,decide_eq_true_eq,List.all_eq_true,tOk,aJ]at h;exact h
 have hl:k<w.clocks.length:=ac;exact⟨w.clocks[k],by rw[List.getElem?_map,List.getElem?_eq_getElem hl];rfl,hr _ (List.getElem_mem hl)⟩
theorem MS(w:aP)(m:cX)(hw:aZ w=true):gU av 259 [.agg (w.ds.map .d),.agg (m.ds.map .d)] [] WQ [41,42,43] wO [] wR:=by
 have hs:=cn hw;have f:=wB hw;have wo:=bd w hs;rw[hw]at wo;have gu:=je f.ul (show 0<6 by decide);obtain⟨c,gc,hc⟩:=JH f (show 0<6 by decide);have ck:=nw m.row;generalize eZ m.row=kd at ck;cases hu:cq w 0 with
 |false=>
  rw[hu]at gu;refine be aM func259 rfl call259 ntmps259 (ace results259) (λ_=>rfl) rfl (λ_=>rfl) λS pv=>?_;conv=>whnf
  repeat'((first|refine awz ?_|refine cP (wo) ?_|refine aaI (bc w hs) [(41,41),(42,42),(28,43)] rfl rfl ?_|refine aaG 0 _ rfl gu ?_|fail)<;>conv=>whnf)
  all_goals exact⟨w,hw,rfl,rfl,rfl,rfl,rfl,trivial⟩
 |true=>
  rw[hu]at gu;have lf:=Vb (f.logOk hu);refine be aM func259 rfl call259 ntmps259 (ace results259) (λ_=>rfl) rfl (λ_=>rfl) λS pv=>?_;conv=>whnf
  repeat'(first|((first|refine awz ?_|refine cP (wo) ?_|refine cP (ck) ?_|refine aaI (bc w hs) [(41,41),(42,42),(28,43)] rfl rfl ?_|refine aaG 0 _ rfl gu ?_|refine aaG 0 _ rfl gc ?_|(refine aI.q (Sd m.row) rfl λa _=>?_;obtain⟨a,b⟩:=a)|(refine aI.q (MW m.row) rfl λa _=>?_;obtain⟨a,b⟩:=a)|(refine aI.q (O7 m.row) rfl λa _=>?_;obtain⟨a,b⟩:=a)|fail)<;>conv=>whnf)|(refine aaL aM 10 (tkc [0,1,2,3,4,5,6] (.two 7 (tkc [8,9,10] (.one 11 (.one 12 (.take 13 .done)))) 11 (.one 7 (tkc [8,9,10] (.one 12 (.take 13 .done)))))) [(2,9980),(6,9981)] qY ae ae ae ae (λRz=>?_);(conv=>whnf);intro bp0 up0;(conv=>whnf);intro bp1 up1;(conv=>whnf))|(refine aaL aM 12 (.take 0 (.take 1 (onc [2,3,4] .done))) [(5,9980)] hX ae ae ae ae (λRz=>?_);(conv=>whnf);intro bp0 up0;(conv=>whnf))|(refine aaL aM 16 (tkc [0,1,2,3,4,5] (onc [6,7,8,9] .done)) [(5,9980),(3,9981),(2,9982)] qZ ae ae ae ae (λRz=>?_);(conv=>whnf);intro bp0 up0;(conv=>whnf);intro bp1 up1;(conv=>whnf);intro bp2 up2;(conv=>whnf))|((first|refine aI.q (OM w.log _ c lf hc) rfl λy hy=>?_|refine aI.q (FO _ (Nat.le_trans hy.2 ai)) rfl λms hms=>?_|fail)<;>conv=>whnf)|(refine aI.freeze 41 137 3 (w.net.flight.map cX.ds) rfl ?_;(conv=>whnf);refine aI.freeze 42 2 1 (w.clocks.map eI) rfl ?_;(conv=>whnf);refine aI.freeze 43 4 1 (w.up.map eB) rfl ?_;(conv=>whnf);refine aaP (oa {w with log:=y.1} ms (f.withLog hu hy.1.ok).ok hms) [(41,41),(42,42),(43,43)] w (λ_=>rfl) rfl trivial λz hz=>?_;conv=>whnf)|((first|refine aI.q (ML w.log _ lf) rfl λy hy=>?_|refine aI.q (OQ _ hy) rfl λr hr=>?_|refine aaP (lu w 0 m.frm r hw hr) [(41,41),(42,42),(43,43)] w.net (λ_=>rfl) rfl ⟨rfl,rfl,rfl,trivial⟩ λnz hnz=>?_|refine aI.q (KF w.log _ lf) rfl λy hy=>?_|refine tW ?_ ?_|intro h)<;>conv=>whnf))
  all_goals first
   |exact⟨w,hw,rfl,rfl,rfl,rfl,rfl,trivial⟩
   |exact⟨z,hz,rfl,rfl,rfl,rfl,rfl,trivial⟩
   |exact⟨{w with net:=nz},(f.withNet hnz).ok,rfl,rfl,rfl,rfl,rfl,trivial⟩
   |exact⟨{w with log:=y},(f.withLog hu hy.ok).ok,rfl,rfl,rfl,rfl,rfl,trivial⟩
theorem G2(w:aP)(m:cX)(hw:aZ w=true):gU av 260 [.agg (w.ds.map .d),.agg (m.ds.map .d)] [] WQ [41,42,43] wO [] wR:=by
 have hs:=cn hw;have f:=wB hw;have wo:=bd w hs;rw[hw]at wo;have gu:=je f.ul (show 1<6 by decide);have ck:=nw m.row;generalize eZ m.row=kd at ck;cases hu:cq w 1 with
 |false=>
  rw[hu]at gu;refine be aM func260 rfl call260 ntmps260 (ace results260) (λ_=>rfl) rfl (λ_=>rfl) λS pv=>?_;conv=>whnf
  repeat'((first|refine awz ?_|refine cP (wo) ?_|refine aaI (bc w hs) [(41,41),(42,42),(28,43)] rfl rfl ?_|refine aaG 1 _ rfl gu ?_|fail)<;>conv=>whnf)
  all_goals exact⟨w,hw,rfl,rfl,rfl,rfl,rfl,trivial⟩
 |true=>
  rw[hu]at gu;have hso:=f.storeOk hu;refine be aM func260 rfl call260 ntmps260 (ace results260) (λ_=>rfl) rfl (λ_=>rfl) λS pv=>?_;conv=>whnf
  repeat'(first|((first|refine awz ?_|refine cP (wo) ?_|refine cP (ck) ?_|refine aaI (bc w hs) [(41,41),(42,42),(28,43)] rfl rfl ?_|refine aaG 1 _ rfl gu ?_|(refine aI.q (O1 m.row) rfl λa ha=>?_;obtain⟨a,b⟩:=a)|(refine aI.q (O5 m.row) rfl λa _=>?_;obtain⟨a,b⟩:=a)|(refine aI.q (O4 m.row) rfl λa _=>?_;obtain⟨a,b⟩:=a)|fail)<;>conv=>whnf)|(refine aaL aM 15 (tkc [0,1,2,3] (onc [4,5,6] .done)) [(5,9980),(3,9981),(10,9982)] o7 ae ae ae ae (λRz=>?_);(conv=>whnf);intro bp0 up0;(conv=>whnf);intro bp1 up1;(conv=>whnf);intro bp2 up2;(conv=>whnf))|(refine aaL aM 19 (tkc [0,1,2,3,4] (onc [5,6,7,8] .done)) [(5,9980),(3,9981),(2,9982)] o8 ae ae ae ae (λRz=>?_);(conv=>whnf);intro bp0 up0;(conv=>whnf);intro bp1 up1;(conv=>whnf);intro bp2 up2;(conv=>whnf))|((first|refine aI.q (Kt w.store _ hso (Nat.le_trans ha ai)) rfl λy hy=>?_|(refine aI.q (Sc w.store _ hso) rfl λv _=>?_;obtain⟨v,vb⟩:=v)|refine aI.q (M4 v) rfl λr hr=>?_|refine aaP (lu w 1 m.frm r hw (Nat.le_trans hr ai)) [(41,41),(42,42),(43,43)] w.net (λ_=>rfl) rfl ⟨rfl,rfl,rfl,trivial⟩ λnz hnz=>?_|refine aI.q (R9 w.store hso) rfl λj hj=>?_|refine aI.q (OX j hj) rfl λr hr=>?_|refine tW ?_ ?_|intro h)<;>conv=>whnf))
  all_goals first
   |exact⟨w,hw,rfl,rfl,rfl,rfl,rfl,trivial⟩
   |exact⟨{w with net:=nz},(f.withNet hnz).ok,rfl,rfl,rfl,rfl,rfl,trivial⟩
   |exact⟨{w with store:=y},(f.withStore hu hy).ok,rfl,rfl,rfl,rfl,rfl,trivial⟩
end
open Go.Proofs.Tryz
open Go.ChangeShapes Go.WideShapes Go.RowKit
theorem C2(s:cr)(m:cX)(f:Jj s):cA av 360 [.agg s.ds,.agg m.ds] (QS s) (λy=> .val (.agg y.ds)):=by
 have ck:=nw m.row;generalize eZ m.row=kd at ck;refine aV aM func360 rfl call360 ntmps360 (ace results360) λS=>?_;conv=>whnf
 repeat'((first|refine awz ?_|refine cP (ck) ?_|(refine aI.q (IL m.row) rfl λa _=>?_;obtain⟨a,b⟩:=a)|(refine aI.q (O3 m.row) rfl λa _=>?_;obtain⟨a,b⟩:=a)|refine aI.q (MH s _ f) rfl λy hy=>?_|refine aI.q (Ku s.view _ f.jobs) rfl λv hv=>?_|refine tW ?_ ?_|intro h)<;>conv=>whnf)
 all_goals first
  |exact⟨s,⟨f,rfl⟩,rfl⟩
  |exact⟨y,hy,rfl⟩
  |exact⟨{s with view:=v},⟨⟨f.id,f.seq,hv,f.index,f.idle,f.busy⟩,rfl⟩,rfl⟩
theorem AK(c:bp)(m:cX)(f:A6 c):cA av 361 [.agg c.ds,.agg m.ds] (SK c) (λy=> .val (.agg y.ds)):=by
 have ck:=nw m.row;generalize eZ m.row=kd at ck;refine aV aM func361 rfl call361 ntmps361 (ace results361) λS=>?_;conv=>whnf
 repeat'((first|refine awz ?_|refine cP (ck) ?_|(refine aI.q (IL m.row) rfl λa _=>?_;obtain⟨a,b⟩:=a)|(refine aI.q (M0 m.row) rfl λa _=>?_;obtain⟨a,b⟩:=a)|refine aI.q (MO c _ f) rfl λy hy=>?_|refine aI.q (GW c _ f) rfl λy hy=>?_|refine tW ?_ ?_|intro h)<;>conv=>whnf)
 all_goals first
  |exact⟨c,⟨f,rfl⟩,rfl⟩
  |exact⟨y,hy,rfl⟩
theorem ym(w:aP)(k:Nat)(m:cX)(hw:aZ w=true)(hk:k=2\/k=3):gU av 261 [.agg (w.ds.map .d),.one (.d (dI (k:Int))),.agg (m.ds.map .d)] [] WQ [41,42,43] wO [] wR:=by
 have hs:=cn hw;have f:=wB hw;have wo:=bd w hs;rw[hw]at wo;have hl:=oC f.left;have hr:=oC f.right;rcases hk with rfl|rfl
 ·have gu:=je f.ul (show 2<6 by decide);cases hu:cq w 2 with
  |false=>
   rw[hu]at gu;refine be aM func261 rfl call261 ntmps261 (ace results261) (λ_=>rfl) rfl (λ_=>rfl) λS pv=>?_;conv=>whnf
   repeat'((first|refine awz ?_|refine cP (wo) ?_|refine aaI (bc w hs) [(41,41),(42,42),(28,43)] rfl rfl ?_|refine aaG 2 _ rfl gu ?_|fail)<;>conv=>whnf)
   all_goals exact⟨w,hw,rfl,rfl,rfl,rfl,rfl,trivial⟩
  |true=>
   rw[hu]at gu;refine be aM func261 rfl call261 ntmps261 (ace results261) (λ_=>rfl) rfl (λ_=>rfl) λS pv=>?_;conv=>whnf
   repeat'((first|refine awz ?_|refine cP (wo) ?_|refine aaI (bc w hs) [(41,41),(42,42),(28,43)] rfl rfl ?_|refine aaG 2 _ rfl gu ?_|refine aI.q (C2 w.left m (M5 hl.1)) rfl λy hy=>?_|fail)<;>conv=>whnf)
   all_goals exact⟨{w with left:=y},(f.withLeft hu hy.1.ok (by rw[hy.2];exact hl.2)).ok,rfl,rfl,rfl,rfl,rfl,trivial⟩
 ·have gu:=je f.ul (show 3<6 by decide);cases hu:cq w 3 with
  |false=>
   rw[hu]at gu;refine be aM func261 rfl call261 ntmps261 (ace results261) (λ_=>rfl) rfl (λ_=>rfl) λS pv=>?_;conv=>whnf
   repeat'((first|refine awz ?_|refine cP (wo) ?_|refine aaI (bc w hs) [(41,41),(42,42),(28,43)] rfl rfl ?_|refine aaG 3 _ rfl gu ?_|fail)<;>conv=>whnf)
   all_goals exact⟨w,hw,rfl,rfl,rfl,rfl,rfl,trivial⟩
  |true=>
   rw[hu]at gu;refine be aM func261 rfl call261 ntmps261 (ace results261) (λ_=>rfl) rfl (λ_=>rfl) λS pv=>?_;conv=>whnf
   repeat'((first|refine awz ?_|refine cP (wo) ?_|refine aaI (bc w hs) [(41,41),(42,42),(28,43)] rfl rfl ?_|refine aaG 3 _ rfl gu ?_|refine aI.q (C2 w.right m (M5 hr.1)) rfl λy hy=>?_|fail)<;>conv=>whnf)
   all_goals exact⟨{w with right:=y},(f.withRight hu hy.1.ok (by rw[hy.2];exact hr.2)).ok,rfl,rfl,rfl,rfl,rfl,trivial⟩
theorem FQ(w:aP)(k:Int)(m:cX)(hw:aZ w=true):gU av 262 [.agg (w.ds.map .d),.one (.d (dI k)),.agg (m.ds.map .d)] [] WQ [41,42,43] wO [] wR:=by
 have hs:=cn hw;have f:=wB hw;have wo:=bd w hs;rw[hw]at wo;refine be aM func262 rfl call262 ntmps262 (ace results262) (λ_=>rfl) rfl (λ_=>rfl) λS pv=>?_;conv=>whnf
 repeat'((first|refine awz ?_|refine cP (wo) ?_|refine aaI (bc w hs) [(41,41),(42,42),(28,43)] rfl rfl ?_|refine aI.q (AK w.ann m (Tg f.ann)) rfl λy hy=>?_|refine aI.q (AK w.bob m (Tg f.bob)) rfl λx hx=>?_|refine tW ?_ ?_|intro h)<;>conv=>whnf)
 all_goals first
  |exact⟨w,hw,rfl,rfl,rfl,rfl,rfl,trivial⟩
  |exact⟨{w with ann:=y},(f.withAnn hy.1.ok (by rw[hy.2];exact f.annId)).ok,rfl,rfl,rfl,rfl,rfl,trivial⟩
  |exact⟨{w with bob:=x},(f.withBob hx.1.ok (by rw[hx.2];exact f.bobId)).ok,rfl,rfl,rfl,rfl,rfl,trivial⟩
theorem MN(w:aP)(m:cX)(hw:aZ w=true):gU av 180 [.agg (w.ds.map .d),.agg (m.ds.map .d)] [] WQ [41,42,43] wO [] wR:=by
 have hs:=cn hw;have wo:=bd w hs;rw[hw]at wo;have q1:(2:Int)=((2:Nat):Int):=rfl;by_cases h2:m.to_=2
 ·have c1:=ym w 2 m hw (.inl rfl);have e:(m.to_==2)=true:=by simpa using h2
  have e0:(m.to_==0)=false:=by rw[h2];rfl
  have e1:(m.to_==1)=false:=by rw[h2];rfl
  have c1:gU av 261 [.agg (w.ds.map .d),.one (.d (dI m.to_)),.agg (m.ds.map .d)] [] WQ [41,42,43] wO [] wR:=by rw[h2];exact c1
  refine be aM func180 rfl call180 ntmps180 (ace results180) (λ_=>rfl) rfl (λ_=>rfl) λS pv=>?_;conv=>whnf
  repeat'((first|refine awz ?_|refine cP (wo) ?_|refine cP (jc m) ?_|refine aaI (bc w hs) [(41,41),(42,42),(28,43)] rfl rfl ?_|refine aaP c1 [(41,41),(42,42),(43,43)] w (λ_=>rfl) rfl trivial λz hz=>?_|refine tW ?_ ?_|intro h)<;>conv=>whnf)
  all_goals first|exact⟨w,hw,rfl,rfl,rfl,rfl,rfl,trivial⟩|exact⟨z,hz,rfl,rfl,rfl,rfl,rfl,trivial⟩
 ·have e2:(m.to_==2)=false:=by simpa using h2
  by_cases h3:m.to_=3
  ·have c1:=ym w 3 m hw (.inr rfl);have e:(m.to_==3)=true:=by simpa using h3
   have e0:(m.to_==0)=false:=by rw[h3];rfl
   have e1:(m.to_==1)=false:=by rw[h3];rfl
   have c1:gU av 261 [.agg (w.ds.map .d),.one (.d (dI m.to_)),.agg (m.ds.map .d)] [] WQ [41,42,43] wO [] wR:=by rw[h3];exact c1
   refine be aM func180 rfl call180 ntmps180 (ace results180) (λ_=>rfl) rfl (λ_=>rfl) λS pv=>?_;conv=>whnf
   repeat'((first|refine awz ?_|refine cP (wo) ?_|refine cP (jc m) ?_|refine aaI (bc w hs) [(41,41),(42,42),(28,43)] rfl rfl ?_|refine aaP c1 [(41,41),(42,42),(43,43)] w (λ_=>rfl) rfl trivial λz hz=>?_|refine tW ?_ ?_|intro h)<;>conv=>whnf)
   all_goals first|exact⟨w,hw,rfl,rfl,rfl,rfl,rfl,trivial⟩|exact⟨z,hz,rfl,rfl,rfl,rfl,rfl,trivial⟩
  ·have e3:(m.to_==3)=false:=by simpa using h3
   have c1:=MS w m hw;have c2:=G2 w m hw;have c3:=FQ w m.to_ m hw;refine be aM func180 rfl call180 ntmps180 (ace results180) (λ_=>rfl) rfl (λ_=>rfl) λS pv=>?_;conv=>whnf
   repeat'((first|refine awz ?_|refine cP (wo) ?_|refine cP (jc m) ?_|refine aaI (bc w hs) [(41,41),(42,42),(28,43)] rfl rfl ?_|refine aaP c1 [(41,41),(42,42),(43,43)] w (λ_=>rfl) rfl trivial λz hz=>?_|refine aaP c2 [(41,41),(42,42),(43,43)] w (λ_=>rfl) rfl trivial λz hz=>?_|refine aaP c3 [(41,41),(42,42),(43,43)] w (λ_=>rfl) rfl trivial λz hz=>?_|refine tW ?_ ?_|intro h)<;>conv=>whnf)
   all_goals first|exact⟨w,hw,rfl,rfl,rfl,rfl,rfl,trivial⟩|exact⟨z,hz,rfl,rfl,rfl,rfl,rfl,trivial⟩
def q6:List (List Nat):=bC [0,0,2,3,260,20801,26736222278022]
def fL:List (List Nat):=bC [0,0,2,3,16641,347943211333]
def kQ:List (List Nat):=bC [0,1,0,3,0,324,6,450,35671935824001,0x81c61440c2048209]
theorem Pa(w:aP)(hw:aZ w=true):gU av 181 [.agg (w.ds.map .d)] [] WQ [41,42,43] wO [] wR:=by
 have hs:=cn hw;have f:=wB hw;have wo:=bd w hs;rw[hw]at wo;have gu:=je f.ul (show 0<6 by decide);cases hu:cq w 0 with
 |false=>
  rw[hu]at gu;refine be aM func181 rfl call181 ntmps181 (ace results181) (λ_=>rfl) rfl (λ_=>rfl) λS pv=>?_;conv=>whnf
  repeat'((first|refine awz ?_|refine cP (wo) ?_|refine aaI (bc w hs) [(41,41),(42,42),(28,43)] rfl rfl ?_|refine aaG 0 _ rfl gu ?_|fail)<;>conv=>whnf)
  all_goals exact⟨w,hw,rfl,rfl,rfl,rfl,rfl,trivial⟩
 |true=>
  rw[hu]at gu;have lf:=Vb (f.logOk hu);have h20:w.log.owe.length<=1000000:=by
   have h4:w.log.owe.length<=w.log.book.entries.length:=by rw[lf.owe,List.length_map];exact List.length_filter_le _ _
   have:=(bY lf.book).2.2.2.1;omega
  have c1:=KD w.log lf;unfold T9 at c1;have hsl:=(Pv lf).ok;generalize AU w.log=n at c1 hsl;have c2:=FO w.log.owe h20;refine be aM func181 rfl call181 ntmps181 (ace results181) (λ_=>rfl) rfl (λ_=>rfl) λS pv=>?_;conv=>whnf
  repeat'(first|((first|refine awz ?_|refine cP (wo) ?_|refine cP (c1) ?_|refine aaI (bc w hs) [(41,41),(42,42),(28,43)] rfl rfl ?_|refine aaG 0 _ rfl gu ?_|fail)<;>conv=>whnf)|(refine aaL aM 8 (.take 0 (.take 1 (onc [2,3,4] .done))) [(3,9980)] hX ae ae ae ae (λRz=>?_);(conv=>whnf);intro bp0 up0;(conv=>whnf))|(refine aI.q c2 rfl λms hms=>?_;conv=>whnf)|(refine aI.freeze 41 137 3 (w.net.flight.map cX.ds) rfl ?_;(conv=>whnf);refine aI.freeze 42 2 1 (w.clocks.map eI) rfl ?_;(conv=>whnf);refine aI.freeze 43 4 1 (w.up.map eB) rfl ?_;(conv=>whnf);refine aaP (oa {w with log:=n} ms (f.withLog hu hsl).ok hms) [(41,41),(42,42),(43,43)] w (λ_=>rfl) rfl trivial λz hz=>?_;conv=>whnf)|fail)
  all_goals exact⟨z,hz,rfl,rfl,rfl,rfl,rfl,trivial⟩
theorem KE(w:aP)(hw:aZ w=true):gU av 182 [.agg (w.ds.map .d)] [] WQ [41,42,43] wO [] wR:=by
 have hs:=cn hw;have f:=wB hw;have wo:=bd w hs;rw[hw]at wo;have gu:=je f.ul (show 1<6 by decide);cases hu:cq w 1 with
 |false=>
  rw[hu]at gu;refine be aM func182 rfl call182 ntmps182 (ace results182) (λ_=>rfl) rfl (λ_=>rfl) λS pv=>?_;conv=>whnf
  repeat'((first|refine awz ?_|refine cP (wo) ?_|refine aaI (bc w hs) [(41,41),(42,42),(28,43)] rfl rfl ?_|refine aaG 1 _ rfl gu ?_|fail)<;>conv=>whnf)
  all_goals exact⟨w,hw,rfl,rfl,rfl,rfl,rfl,trivial⟩
 |true=>
  rw[hu]at gu;have hso:=f.storeOk hu;have c1:=OR w.store hso;generalize w.store.state.index+1=i at c1;have c3:=G1 w.store hso;refine be aM func182 rfl call182 ntmps182 (ace results182) (λ_=>rfl) rfl (λ_=>rfl) λS pv=>?_;conv=>whnf
  repeat'(first|((first|refine awz ?_|refine cP (wo) ?_|refine cP (c1) ?_|refine aaI (bc w hs) [(41,41),(42,42),(28,43)] rfl rfl ?_|refine aaG 1 _ rfl gu ?_|fail)<;>conv=>whnf)|(refine aaL aM 6 (.take 1 (.take 2 (.two 0 (onc [3,4,5,6] .done) 3 (.two 0 (onc [4,5,6] .done) 4 (onc [0,5,6] .done))))) [(1,9980)] q6 ae ae ae ae (λRz=>?_);(conv=>whnf);intro bp0 up0;(conv=>whnf))|((first|refine aI.q (MM i) rfl λr hr=>?_|refine aaP (lu w 1 0 r hw (Nat.le_trans hr ai)) [(41,41),(42,42),(43,43)] w.net (λ_=>rfl) rfl ⟨rfl,rfl,rfl,trivial⟩ λv hv=>?_|(refine aI.q c3 rfl λy hy=>?_;obtain⟨y,t⟩:=y)|fail)<;>conv=>whnf)|(refine aaL aM 9 (.take 1 (.two 0 (onc [2,3,4] .done) 2 (onc [0,3,4] .done))) [] hX ae ae ae ae (λRz=>?_);(conv=>whnf))|((first|refine aI.q (Pb t) rfl λr2 hr2=>?_|refine aaP (lu {w with net:=v} 1 0 r2 (f.withNet hv).ok (Nat.le_trans hr2 ai)) [(41,41),(42,42),(43,43)] w.net (λ_=>rfl) rfl ⟨rfl,rfl,rfl,trivial⟩ λu hu2=>?_|(refine aI.q (KB y hy) rfl λz hz=>?_;obtain⟨z,zb⟩:=z)|refine tW ?_ ?_|intro h)<;>conv=>whnf))
  all_goals first
   |exact⟨{w with store:=z,net:=u},((f.withStore hu hz).withNet hu2).ok,rfl,rfl,rfl,rfl,rfl,trivial⟩
   |exact⟨{w with store:=z,net:=v},((f.withStore hu hz).withNet hv).ok,rfl,rfl,rfl,rfl,rfl,trivial⟩
theorem G3(w:aP)(k:Int)(hw:aZ w=true):gU av 184 [.agg (w.ds.map .d),.one (.d (dI k))] [] WQ [41,42,43] wO [] wR:=by
 have hs:=cn hw;have f:=wB hw;have wo:=bd w hs;rw[hw]at wo;refine be aM func184 rfl call184 ntmps184 (ace results184) (λ_=>rfl) rfl (λ_=>rfl) λS pv=>?_;conv=>whnf
 repeat'(first|((first|refine awz ?_|refine cP (wo) ?_|refine aaI (bc w hs) [(41,41),(42,42),(28,43)] rfl rfl ?_|fail)<;>conv=>whnf)|(refine aaL aM 5 (tkc [0,1,2] (onc [3,4,5] .done)) [(2,9980)] fL ae ae ae ae (λRz=>?_);(conv=>whnf);intro bp0 up0;(conv=>whnf))|(refine aaL aM 7 (tkc [0,1,2] (onc [3,4,5] .done)) [(2,9980)] fL ae ae ae ae (λRz=>?_);(conv=>whnf);intro bp0 up0;(conv=>whnf))|((first|refine aI.q (IM w.ann (Tg f.ann)) rfl λms hms=>?_|refine aI.q (IM w.bob (Tg f.bob)) rfl λms hms=>?_|refine aaP (oa w ms hw hms) [(41,41),(42,42),(43,43)] w (λ_=>rfl) rfl trivial λz hz=>?_|refine tW ?_ ?_|intro h)<;>conv=>whnf))
 all_goals first|exact⟨w,hw,rfl,rfl,rfl,rfl,rfl,trivial⟩|exact⟨z,hz,rfl,rfl,rfl,rfl,rfl,trivial⟩
theorem Ay(w:aP)(k:Nat)(hw:aZ w=true)(hk:k=2\/k=3):gU av 183 [.agg (w.ds.map .d),.one (.d (dI (k:Int)))] [] WQ [41,42,43] wO [] wR:=by
 have hs:=cn hw;have f:=wB hw;have wo:=bd w hs;rw[hw]at wo;have hl:=oC f.left;have hr:=oC f.right;rcases hk with rfl|rfl
 ·have gu:=je f.ul (show 2<6 by decide);obtain⟨c,gc,hc⟩:=JH f (show 2<6 by decide);cases hu:cq w 2 with
  |false=>
   rw[hu]at gu;refine be aM func183 rfl call183 ntmps183 (ace results183) (λ_=>rfl) rfl (λ_=>rfl) λS pv=>?_;conv=>whnf
   repeat'((first|refine awz ?_|refine cP (wo) ?_|refine aaI (bc w hs) [(41,41),(42,42),(28,43)] rfl rfl ?_|refine aaG 2 _ rfl gu ?_|fail)<;>conv=>whnf)
   all_goals exact⟨w,hw,rfl,rfl,rfl,rfl,rfl,trivial⟩
  |true=>
   rw[hu]at gu;refine be aM func183 rfl call183 ntmps183 (ace results183) (λ_=>rfl) rfl (λ_=>rfl) λS pv=>?_;conv=>whnf
   repeat'(first|((first|refine awz ?_|refine cP (wo) ?_|refine aaI (bc w hs) [(41,41),(42,42),(28,43)] rfl rfl ?_|refine aaG 2 _ rfl gu ?_|refine aaG 2 _ rfl gc ?_|fail)<;>conv=>whnf)|(refine aaL aM 7 (tkc [0,1,2,3,4,5,6] (.one 7 (.take 8 (.one 9 .done)))) [(2,9980)] kQ ae ae ae ae (λRz=>?_);(conv=>whnf);intro bp0 up0;(conv=>whnf))|(refine aaL aM 8 (tkc [0,1,2] (onc [3,4,5] .done)) [(5,9980)] fL ae ae ae ae (λRz=>?_);(conv=>whnf);intro bp0 up0;(conv=>whnf))|((first|refine aI.q (FR w.left c (M5 hl.1)) rfl λy hy=>?_|refine aI.q (F0 y hy.1) rfl λms hms=>?_|fail)<;>conv=>whnf)|(refine aI.freeze 41 137 3 (w.net.flight.map cX.ds) rfl ?_;(conv=>whnf);refine aI.freeze 42 2 1 (w.clocks.map eI) rfl ?_;(conv=>whnf);refine aI.freeze 43 4 1 (w.up.map eB) rfl ?_;(conv=>whnf);refine aaP (oa {w with left:=y} ms (f.withLeft hu hy.1.ok (by rw[hy.2];exact hl.2)).ok hms) [(41,41),(42,42),(43,43)] w (λ_=>rfl) rfl trivial λz hz=>?_;conv=>whnf)|fail)
   all_goals exact⟨z,hz,rfl,rfl,rfl,rfl,rfl,trivial⟩
 ·have gu:=je f.ul (show 3<6 by decide);obtain⟨c,gc,hc⟩:=JH f (show 3<6 by decide);cases hu:cq w 3 with
  |false=>
   rw[hu]at gu;refine be aM func183 rfl call183 ntmps183 (ace results183) (λ_=>rfl) rfl (λ_=>rfl) λS pv=>?_;conv=>whnf
   repeat'((first|refine awz ?_|refine cP (wo) ?_|refine aaI (bc w hs) [(41,41),(42,42),(28,43)] rfl rfl ?_|refine aaG 3 _ rfl gu ?_|fail)<;>conv=>whnf)
   all_goals exact⟨w,hw,rfl,rfl,rfl,rfl,rfl,trivial⟩
  |true=>
   rw[hu]at gu;refine be aM func183 rfl call183 ntmps183 (ace results183) (λ_=>rfl) rfl (λ_=>rfl) λS pv=>?_;conv=>whnf
   repeat'(first|((first|refine awz ?_|refine cP (wo) ?_|refine aaI (bc w hs) [(41,41),(42,42),(28,43)] rfl rfl ?_|refine aaG 3 _ rfl gu ?_|refine aaG 3 _ rfl gc ?_|fail)<;>conv=>whnf)|(refine aaL aM 9 (tkc [0,1,2,3,4,5,6] (.one 7 (.take 8 (.one 9 .done)))) [(2,9980)] kQ ae ae ae ae (λRz=>?_);(conv=>whnf);intro bp0 up0;(conv=>whnf))|(refine aaL aM 10 (tkc [0,1,2] (onc [3,4,5] .done)) [(5,9980)] fL ae ae ae ae (λRz=>?_);(conv=>whnf);intro bp0 up0;(conv=>whnf))|((first|refine aI.q (FR w.right c (M5 hr.1)) rfl λy hy=>?_|refine aI.q (F0 y hy.1) rfl λms hms=>?_|fail)<;>conv=>whnf)|(refine aI.freeze 41 137 3 (w.net.flight.map cX.ds) rfl ?_;(conv=>whnf);refine aI.freeze 42 2 1 (w.clocks.map eI) rfl ?_;(conv=>whnf);refine aI.freeze 43 4 1 (w.up.map eB) rfl ?_;(conv=>whnf);refine aaP (oa {w with right:=y} ms (f.withRight hu hy.1.ok (by rw[hy.2];exact hr.2)).ok hms) [(41,41),(42,42),(43,43)] w (λ_=>rfl) rfl trivial λz hz=>?_;conv=>whnf)|fail)
   all_goals exact⟨z,hz,rfl,rfl,rfl,rfl,rfl,trivial⟩
end Go.Proofs.YthgkdhnlehneeaaGreatDoor
