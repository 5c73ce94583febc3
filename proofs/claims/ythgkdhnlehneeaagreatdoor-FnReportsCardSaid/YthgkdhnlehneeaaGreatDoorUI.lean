/- UI -/
import Derived.Test.YthgkdhnlehneeaaGreatDoorUF
import Derived.Test.YthgkdhnlehneeaaGreatDoorRB7
import Derived.Test.YthgkdhnlehneeaaGreatDoorAvFX
import Derived.Test.YthgkdhnlehneeaaGreatDoorUB
import Derived.Test.YthgkdhnlehneeaaGreatDoorTypes
import Derived.Test.YthgkdhnlehneeaaGreatDoorWB6
import Derived.Test.YthgkdhnlehneeaaGreatDoorAvCT
set_option maxHeartbeats 16000000
set_option linter.unusedVariables false
set_option linter.unusedSimpArgs false
set_option maxRecDepth 100000
open List (map_set)
namespace Go.Proofs.YthgkdhnlehneeaaGreatDoor
open Go.Proofs.Tryz
open Go.ChangeShapes Go.WideShapes Go.RowKit
theorem M2(w:aP)(a:Int)(hw:aZ w=true):gU av 126 [.agg (w.ds.map .d),.one (.d (dI a))] [] WQ [41,42,43] wO [] wR:=by
 have hs:=cn hw;have wo:=bd w hs;rw[hw]at wo;by_cases h2:a=2
 ·subst h2;have c1:=Ay w 2 hw (.inl rfl);refine be aM func126 rfl call126 ntmps126 (ace results126) (λ_=>rfl) rfl (λ_=>rfl) λS pv=>?_;conv=>whnf
  repeat'((first|refine awz ?_|refine cP (wo) ?_|refine aaP c1 [(41,41),(42,42),(43,43)] w (λ_=>rfl) rfl trivial λz hz=>?_|fail)<;>conv=>whnf)
  all_goals exact⟨z,hz,rfl,rfl,rfl,rfl,rfl,trivial⟩
 ·by_cases h3:a=3
  ·subst h3;have c1:=Ay w 3 hw (.inr rfl);refine be aM func126 rfl call126 ntmps126 (ace results126) (λ_=>rfl) rfl (λ_=>rfl) λS pv=>?_;conv=>whnf
   repeat'((first|refine awz ?_|refine cP (wo) ?_|refine aaP c1 [(41,41),(42,42),(43,43)] w (λ_=>rfl) rfl trivial λz hz=>?_|fail)<;>conv=>whnf)
   all_goals exact⟨z,hz,rfl,rfl,rfl,rfl,rfl,trivial⟩
  ·have e2:(a==2)=false:=by simpa using h2
   have e3:(a==3)=false:=by simpa using h3
   have c1:=Pa w hw;have c2:=KE w hw;have c3:=G3 w a hw;refine be aM func126 rfl call126 ntmps126 (ace results126) (λ_=>rfl) rfl (λ_=>rfl) λS pv=>?_;conv=>whnf
   repeat'((first|refine awz ?_|refine cP (wo) ?_|refine aaP c1 [(41,41),(42,42),(43,43)] w (λ_=>rfl) rfl trivial λz hz=>?_|refine aaP c2 [(41,41),(42,42),(43,43)] w (λ_=>rfl) rfl trivial λz hz=>?_|refine aaP c3 [(41,41),(42,42),(43,43)] w (λ_=>rfl) rfl trivial λz hz=>?_|refine tW ?_ ?_|intro h)<;>conv=>whnf)
   all_goals exact⟨z,hz,rfl,rfl,rfl,rfl,rfl,trivial⟩
abbrev wbO(y:aP×Bool):List (Nat×AO):=wO y.1
abbrev wbR(y:aP×Bool):AR:= .tup [.agg y.1.own,.one (.d (dB y.2))]
def WBQ(y:aP×Bool):Prop:=aZ y.1=true
theorem Le{a:Int}(h:aJ a 0 3=true):a=0\/a=1\/a=2\/a=3:=by
 simp only[aJ,Bool.and_eq_true,decide_eq_true_eq]at h;omega
theorem MK(w:aP)(a:Int)(fs:List Int)(hw:aZ w=true)(hf:fs.length<=1000000):gU av 127 [.agg (w.ds.map .d),.one (.d (dI a)),.one (.d (.sl (fs.map eI)))] [] WBQ [41,42,43] wbO [] wbR:=by
 have hs:=cn hw;have f:=wB hw;have wo:=bd w hs;rw[hw]at wo;cases hb:aJ a 0 3 with
 |false=>
  have l1:=aQ a 0 3;rw[hb]at l1;refine be aM func127 rfl call127 ntmps127 (ace results127) (λ_=>rfl) rfl (λ_=>rfl) λS pv=>?_;conv=>whnf
  repeat'((first|refine awz ?_|refine cP (wo) ?_|refine cP (l1) ?_|refine aaI (bc w hs) [(41,41),(42,42),(28,43)] rfl rfl ?_|fail)<;>conv=>whnf)
  all_goals exact⟨(w,false),hw,rfl,rfl,rfl,rfl,rfl,trivial⟩
 |true=>
  rcases Le hb with rfl|rfl|rfl|rfl
  ·have l1:=aQ 0 0 3;rw[hb]at l1;have gu:=je f.ul (show 0<6 by decide);have es:(w.up.set 0 false).map eB=(w.up.map eB).set 0 (eB false):=map_set ..;cases hu:cq w 0 with
   |false=>
    rw[hu]at gu;refine be aM func127 rfl call127 ntmps127 (ace results127) (λ_=>rfl) rfl (λ_=>rfl) λS pv=>?_;conv=>whnf
    repeat'((first|refine awz ?_|refine cP (wo) ?_|refine cP (l1) ?_|refine aaI (bc w hs) [(41,41),(42,42),(28,43)] rfl rfl ?_|refine aaG 0 _ rfl gu ?_|fail)<;>conv=>whnf)
    all_goals exact⟨(w,false),hw,rfl,rfl,rfl,rfl,rfl,trivial⟩
   |true=>
    rw[hu]at gu;have c1:=Ks w.log fs (Vb (f.logOk hu)) hf;refine be aM func127 rfl call127 ntmps127 (ace results127) (λ_=>rfl) rfl (λ_=>rfl) λS pv=>?_;conv=>whnf
    repeat'((first|refine awz ?_|refine cP (wo) ?_|refine cP (l1) ?_|refine aaI (bc w hs) [(41,41),(42,42),(28,43)] rfl rfl ?_|refine aaG 0 _ rfl gu ?_|refine aI.q c1 rfl λy hy=>?_|fail)<;>conv=>whnf)
    all_goals exact⟨({w with log:=y,up:=w.up.set 0 false},true),(f.fell (v:={w with log:=y,up:=w.up.set 0 false}) (n:=0) ai rfl rfl rfl rfl rfl (by simpa using hy) ah ah ah).ok,rfl,rfl,rfl,rfl,congrArg (AO.row 4 1) es.symm,trivial⟩
  ·have l1:=aQ 1 0 3;rw[hb]at l1;have gu:=je f.ul (show 1<6 by decide);have es:(w.up.set 1 false).map eB=(w.up.map eB).set 1 (eB false):=map_set ..;cases hu:cq w 1 with
   |false=>
    rw[hu]at gu;refine be aM func127 rfl call127 ntmps127 (ace results127) (λ_=>rfl) rfl (λ_=>rfl) λS pv=>?_;conv=>whnf
    repeat'((first|refine awz ?_|refine cP (wo) ?_|refine cP (l1) ?_|refine aaI (bc w hs) [(41,41),(42,42),(28,43)] rfl rfl ?_|refine aaG 1 _ rfl gu ?_|fail)<;>conv=>whnf)
    all_goals exact⟨(w,false),hw,rfl,rfl,rfl,rfl,rfl,trivial⟩
   |true=>
    rw[hu]at gu;have c1:=FS w.store fs (f.storeOk hu) hf;refine be aM func127 rfl call127 ntmps127 (ace results127) (λ_=>rfl) rfl (λ_=>rfl) λS pv=>?_;conv=>whnf
    repeat'((first|refine awz ?_|refine cP (wo) ?_|refine cP (l1) ?_|refine aaI (bc w hs) [(41,41),(42,42),(28,43)] rfl rfl ?_|refine aaG 1 _ rfl gu ?_|refine aI.q c1 rfl λy hy=>?_|fail)<;>conv=>whnf)
    all_goals exact⟨({w with store:=y,up:=w.up.set 1 false},true),(f.fell (v:={w with store:=y,up:=w.up.set 1 false}) (n:=1) ai rfl rfl rfl rfl rfl ah (by simpa using hy) ah ah).ok,rfl,rfl,rfl,rfl,congrArg (AO.row 4 1) es.symm,trivial⟩
  ·have l1:=aQ 2 0 3;rw[hb]at l1;have gu:=je f.ul (show 2<6 by decide);have es:(w.up.set 2 false).map eB=(w.up.map eB).set 2 (eB false):=map_set ..;have hl:=oC f.left;have c1:=wc w.left hl.1 (by have:=(iZ (M5 hl.1).jobs).1;omega);rw[hl.2]at c1;cases hu:cq w 2 with
   |false=>
    rw[hu]at gu;refine be aM func127 rfl call127 ntmps127 (ace results127) (λ_=>rfl) rfl (λ_=>rfl) λS pv=>?_;conv=>whnf
    repeat'((first|refine awz ?_|refine cP (wo) ?_|refine cP (l1) ?_|refine aaI (bc w hs) [(41,41),(42,42),(28,43)] rfl rfl ?_|refine aaG 2 _ rfl gu ?_|fail)<;>conv=>whnf)
    all_goals exact⟨(w,false),hw,rfl,rfl,rfl,rfl,rfl,trivial⟩
   |true=>
    rw[hu]at gu;refine be aM func127 rfl call127 ntmps127 (ace results127) (λ_=>rfl) rfl (λ_=>rfl) λS pv=>?_;conv=>whnf
    repeat'((first|refine awz ?_|refine cP (wo) ?_|refine cP (l1) ?_|refine cP (c1) ?_|refine aaI (bc w hs) [(41,41),(42,42),(28,43)] rfl rfl ?_|refine aaG 2 _ rfl gu ?_|fail)<;>conv=>whnf)
    all_goals exact⟨({w with left:=gj 2,up:=w.up.set 2 false},true),(f.fell (v:={w with left:=gj 2,up:=w.up.set 2 false}) (n:=2) ai rfl rfl rfl rfl rfl ah ah ah ah).ok,rfl,rfl,rfl,rfl,congrArg (AO.row 4 1) es.symm,trivial⟩
  ·have l1:=aQ 3 0 3;rw[hb]at l1;have gu:=je f.ul (show 3<6 by decide);have es:(w.up.set 3 false).map eB=(w.up.map eB).set 3 (eB false):=map_set ..;have hl:=oC f.right;have c1:=wc w.right hl.1 (by have:=(iZ (M5 hl.1).jobs).1;omega);rw[hl.2]at c1;cases hu:cq w 3 with
   |false=>
    rw[hu]at gu;refine be aM func127 rfl call127 ntmps127 (ace results127) (λ_=>rfl) rfl (λ_=>rfl) λS pv=>?_;conv=>whnf
    repeat'((first|refine awz ?_|refine cP (wo) ?_|refine cP (l1) ?_|refine aaI (bc w hs) [(41,41),(42,42),(28,43)] rfl rfl ?_|refine aaG 3 _ rfl gu ?_|fail)<;>conv=>whnf)
    all_goals exact⟨(w,false),hw,rfl,rfl,rfl,rfl,rfl,trivial⟩
   |true=>
    rw[hu]at gu;refine be aM func127 rfl call127 ntmps127 (ace results127) (λ_=>rfl) rfl (λ_=>rfl) λS pv=>?_;conv=>whnf
    repeat'((first|refine awz ?_|refine cP (wo) ?_|refine cP (l1) ?_|refine cP (c1) ?_|refine aaI (bc w hs) [(41,41),(42,42),(28,43)] rfl rfl ?_|refine aaG 3 _ rfl gu ?_|fail)<;>conv=>whnf)
    all_goals exact⟨({w with right:=gj 3,up:=w.up.set 3 false},true),(f.fell (v:={w with right:=gj 3,up:=w.up.set 3 false}) (n:=3) ai rfl rfl rfl rfl rfl ah ah ah ah).ok,rfl,rfl,rfl,rfl,congrArg (AO.row 4 1) es.symm,trivial⟩
theorem O0(w:aP)(a:Int)(hw:aZ w=true):gU av 128 [.agg (w.ds.map .d),.one (.d (dI a))] [] WBQ [41,42,43] wbO [] wbR:=by
 have hs:=cn hw;have f:=wB hw;have wo:=bd w hs;rw[hw]at wo;cases hb:aJ a 0 3 with
 |false=>
  have l1:=aQ a 0 3;rw[hb]at l1;refine be aM func128 rfl call128 ntmps128 (ace results128) (λ_=>rfl) rfl (λ_=>rfl) λS pv=>?_;conv=>whnf
  repeat'((first|refine awz ?_|refine cP (wo) ?_|refine cP (l1) ?_|refine aaI (bc w hs) [(41,41),(42,42),(28,43)] rfl rfl ?_|fail)<;>conv=>whnf)
  all_goals exact⟨(w,false),hw,rfl,rfl,rfl,rfl,rfl,trivial⟩
 |true=>
  rcases Le hb with rfl|rfl|rfl|rfl
  ·have l1:=aQ 0 0 3;rw[hb]at l1;have gu:=je f.ul (show 0<6 by decide);have es:(w.up.set 0 true).map eB=(w.up.map eB).set 0 (eB true):=map_set ..;cases hu:cq w 0 with
   |true=>
    rw[hu]at gu;refine be aM func128 rfl call128 ntmps128 (ace results128) (λ_=>rfl) rfl (λ_=>rfl) λS pv=>?_;conv=>whnf
    repeat'((first|refine awz ?_|refine cP (wo) ?_|refine cP (l1) ?_|refine aaI (bc w hs) [(41,41),(42,42),(28,43)] rfl rfl ?_|refine aaG 0 _ rfl gu ?_|fail)<;>conv=>whnf)
    all_goals exact⟨(w,false),hw,rfl,rfl,rfl,rfl,rfl,trivial⟩
   |false=>
    rw[hu]at gu;have rl:=MV w.log;cases e:iw w.log with
    |none=>
     rw[e]at rl;unfold Mj at rl;refine be aM func128 rfl call128 ntmps128 (ace results128) (λ_=>rfl) rfl (λ_=>rfl) λS pv=>?_;conv=>whnf
     repeat'((first|refine awz ?_|refine cP (wo) ?_|refine cP (l1) ?_|refine cP (rl) ?_|refine aaI (bc w hs) [(41,41),(42,42),(28,43)] rfl rfl ?_|refine aaG 0 _ rfl gu ?_|fail)<;>conv=>whnf)
     all_goals exact⟨(w,false),hw,rfl,rfl,rfl,rfl,rfl,trivial⟩
    |some m=>
     rw[e]at rl;have rl:aN av 188 [.agg w.log.ds] (.tup [.agg m.ds,.one (dB true)]):=rl;have e:mc w 0=some {w with log:=m,up:=w.up.set 0 true}:=by simp[mc,hu,e]
     have ok:=sg ai hw e;refine be aM func128 rfl call128 ntmps128 (ace results128) (λ_=>rfl) rfl (λ_=>rfl) λS pv=>?_;conv=>whnf
     repeat'((first|refine awz ?_|refine cP (wo) ?_|refine cP (l1) ?_|refine cP (rl) ?_|refine aaI (bc w hs) [(41,41),(42,42),(28,43)] rfl rfl ?_|refine aaG 0 _ rfl gu ?_|fail)<;>conv=>whnf)
     all_goals exact⟨({w with log:=m,up:=w.up.set 0 true},true),ok,rfl,rfl,rfl,rfl,congrArg (AO.row 4 1) es.symm,trivial⟩
  ·have l1:=aQ 1 0 3;rw[hb]at l1;have gu:=je f.ul (show 1<6 by decide);have es:(w.up.set 1 true).map eB=(w.up.map eB).set 1 (eB true):=map_set ..;cases hu:cq w 1 with
   |true=>
    rw[hu]at gu;refine be aM func128 rfl call128 ntmps128 (ace results128) (λ_=>rfl) rfl (λ_=>rfl) λS pv=>?_;conv=>whnf
    repeat'((first|refine awz ?_|refine cP (wo) ?_|refine cP (l1) ?_|refine aaI (bc w hs) [(41,41),(42,42),(28,43)] rfl rfl ?_|refine aaG 1 _ rfl gu ?_|fail)<;>conv=>whnf)
    all_goals exact⟨(w,false),hw,rfl,rfl,rfl,rfl,rfl,trivial⟩
   |false=>
    rw[hu]at gu;have rl:=G0 w.store;cases e:gi w.store with
    |none=>
     rw[e]at rl;unfold Iq at rl;refine be aM func128 rfl call128 ntmps128 (ace results128) (λ_=>rfl) rfl (λ_=>rfl) λS pv=>?_;conv=>whnf
     repeat'((first|refine awz ?_|refine cP (wo) ?_|refine cP (l1) ?_|refine cP (rl) ?_|refine aaI (bc w hs) [(41,41),(42,42),(28,43)] rfl rfl ?_|refine aaG 1 _ rfl gu ?_|fail)<;>conv=>whnf)
     all_goals exact⟨(w,false),hw,rfl,rfl,rfl,rfl,rfl,trivial⟩
    |some m=>
     rw[e]at rl;have rl:aN av 189 [.agg w.store.ds] (.tup [.agg m.ds,.one (dB true)]):=rl;have e:mc w 1=some {w with store:=m,up:=w.up.set 1 true}:=by simp[mc,hu,e]
     have ok:=sg ai hw e;refine be aM func128 rfl call128 ntmps128 (ace results128) (λ_=>rfl) rfl (λ_=>rfl) λS pv=>?_;conv=>whnf
     repeat'((first|refine awz ?_|refine cP (wo) ?_|refine cP (l1) ?_|refine cP (rl) ?_|refine aaI (bc w hs) [(41,41),(42,42),(28,43)] rfl rfl ?_|refine aaG 1 _ rfl gu ?_|fail)<;>conv=>whnf)
     all_goals exact⟨({w with store:=m,up:=w.up.set 1 true},true),ok,rfl,rfl,rfl,rfl,congrArg (AO.row 4 1) es.symm,trivial⟩
  ·have l1:=aQ 2 0 3;rw[hb]at l1;have gu:=je f.ul (show 2<6 by decide);have es:(w.up.set 2 true).map eB=(w.up.map eB).set 2 (eB true):=map_set ..;cases hu:cq w 2 with
   |true=>
    rw[hu]at gu;refine be aM func128 rfl call128 ntmps128 (ace results128) (λ_=>rfl) rfl (λ_=>rfl) λS pv=>?_;conv=>whnf
    repeat'((first|refine awz ?_|refine cP (wo) ?_|refine cP (l1) ?_|refine aaI (bc w hs) [(41,41),(42,42),(28,43)] rfl rfl ?_|refine aaG 2 _ rfl gu ?_|fail)<;>conv=>whnf)
    all_goals exact⟨(w,false),hw,rfl,rfl,rfl,rfl,rfl,trivial⟩
   |false=>
    rw[hu]at gu;have e:mc w 2=some {w with up:=w.up.set 2 true}:=by simp[mc,hu]
    have ok:=sg ai hw e;refine be aM func128 rfl call128 ntmps128 (ace results128) (λ_=>rfl) rfl (λ_=>rfl) λS pv=>?_;conv=>whnf
    repeat'((first|refine awz ?_|refine cP (wo) ?_|refine cP (l1) ?_|refine aaI (bc w hs) [(41,41),(42,42),(28,43)] rfl rfl ?_|refine aaG 2 _ rfl gu ?_|fail)<;>conv=>whnf)
    all_goals exact⟨({w with up:=w.up.set 2 true},true),ok,rfl,rfl,rfl,rfl,congrArg (AO.row 4 1) es.symm,trivial⟩
  ·have l1:=aQ 3 0 3;rw[hb]at l1;have gu:=je f.ul (show 3<6 by decide);have es:(w.up.set 3 true).map eB=(w.up.map eB).set 3 (eB true):=map_set ..;cases hu:cq w 3 with
   |true=>
    rw[hu]at gu;refine be aM func128 rfl call128 ntmps128 (ace results128) (λ_=>rfl) rfl (λ_=>rfl) λS pv=>?_;conv=>whnf
    repeat'((first|refine awz ?_|refine cP (wo) ?_|refine cP (l1) ?_|refine aaI (bc w hs) [(41,41),(42,42),(28,43)] rfl rfl ?_|refine aaG 3 _ rfl gu ?_|fail)<;>conv=>whnf)
    all_goals exact⟨(w,false),hw,rfl,rfl,rfl,rfl,rfl,trivial⟩
   |false=>
    rw[hu]at gu;have e:mc w 3=some {w with up:=w.up.set 3 true}:=by simp[mc,hu]
    have ok:=sg ai hw e;refine be aM func128 rfl call128 ntmps128 (ace results128) (λ_=>rfl) rfl (λ_=>rfl) λS pv=>?_;conv=>whnf
    repeat'((first|refine awz ?_|refine cP (wo) ?_|refine cP (l1) ?_|refine aaI (bc w hs) [(41,41),(42,42),(28,43)] rfl rfl ?_|refine aaG 3 _ rfl gu ?_|fail)<;>conv=>whnf)
    all_goals exact⟨({w with up:=w.up.set 3 true},true),ok,rfl,rfl,rfl,rfl,congrArg (AO.row 4 1) es.symm,trivial⟩
theorem Pp(w:aP)(a:Int)(hw:aZ w=true):gU av 125 [.agg (w.ds.map .d),.one (.d (dI a))] [] WBQ [41,42,43] wbO [] wbR:=by
  have hs:=cn hw;have f:=wB hw;have c1:=R6 w.net a f.net;refine be aM func125 rfl call125 ntmps125 (ace results125) (λ_=>rfl) rfl (λ_=>rfl) λS pv=>?_;conv=>whnf
  repeat'(first|refine awz ?_|(refine aaI (bc w hs) [(41,41),(42,42),(28,43)] rfl rfl ?_;conv=>whnf)|fail)
  refine aaP c1 [(41,41)] (w.net,none) (by rintro⟨_,_|_⟩<;>rfl) rfl trivial λy hy=>?_;rcases y with⟨n,_|m⟩
  · (conv=>whnf)
    repeat'(first|refine awz ?_|fail)
    all_goals exact⟨({w with net:=n},false),(f.withNet hy.ok).ok,rfl,rfl,rfl,rfl,rfl,trivial⟩
  · have c2:=MN {w with net:=n} m (f.withNet hy.ok).ok;(conv=>whnf)
    repeat'(first|refine awz ?_|(refine aI.freeze 41 137 3 (n.flight.map cX.ds) rfl ?_;(conv=>whnf);refine aI.freeze 42 2 1 (w.clocks.map eI) rfl ?_;(conv=>whnf);refine aI.freeze 43 4 1 (w.up.map eB) rfl ?_;(conv=>whnf);refine aaP c2 [(41,41),(42,42),(43,43)] w (λ_=>rfl) rfl trivial λz hz=>?_;conv=>whnf)|fail)
    all_goals exact⟨(z,true),hz,rfl,rfl,rfl,rfl,rfl,trivial⟩
def ou.dsW(x:ou):List AD:=[dI x.kind,dI x.a,dI x.b,dI x.c,.sl (x.fates.map eI)]
theorem G8(w:aP)(s:ou)(hw:aZ w=true):gU av 130 [.agg (w.ds.map .d),.agg (s.dsW.map .d)] [] WBQ [41,42,43] wbO [] wbR:=by
  have hs:=cn hw;have f:=wB hw;obtain⟨kd,a,b,c,fs⟩:=s;by_cases h3:kd=3
  · subst h3;cases ht:Gu w.clocks a b with
    |false=>
      have c1:=Sn w.clocks a b f.clocks ht;refine be aM func130 rfl call130 ntmps130 (ace results130) (λ_=>rfl) rfl (λ_=>rfl) λS pv=>?_;conv=>whnf
      repeat'((first|refine awz ?_|refine aaI (bc w hs) [(41,41),(42,42),(28,43)] rfl rfl ?_|refine cP (c1) ?_|fail)<;>conv=>whnf)
      all_goals exact⟨(w,false),hw,rfl,rfl,rfl,rfl,rfl,trivial⟩
    |true=>
      obtain⟨k,rfl⟩:∃k:Nat,a=(k:Int):=by
        simp only[Gu,aJ,Bool.and_eq_true,decide_eq_true_eq]at ht;exact⟨a.toNat,ac⟩
      have c1:=Sm w.clocks k b f.clocks ht;have ok:cY (w.clocks.set k (w.clocks.getD k 0+b))=true:=zx f.clocks (by
        simp only[Gu,tOk,aJ,Bool.and_eq_true,decide_eq_true_eq,Int.toNat_natCast]at ht;have hg:0<=w.clocks.getD k 0:=by
          rw[List.getD_eq_getElem?_getD];cases e:w.clocks[k]? with
          |none=>simp
          |some x=>exact((nj f.clocks).2 x (List.mem_of_getElem? e)).1
        simp only[tOk,aJ,Bool.and_eq_true,decide_eq_true_eq];omega)
      refine be aM func130 rfl call130 ntmps130 (ace results130) (λ_=>rfl) rfl (λ_=>rfl) λS pv=>?_;conv=>whnf
      repeat'((first|refine awz ?_|refine aaI (bc w hs) [(41,41),(42,42),(28,43)] rfl rfl ?_|refine aaI c1 [(42,42)] rfl rfl ?_|fail)<;>conv=>whnf)
      all_goals exact⟨({w with clocks:=w.clocks.set k (w.clocks.getD k 0+b)},true),(f.withClocks ok).ok,rfl,rfl,rfl,rfl,rfl,trivial⟩
  · have e3:(kd==3)=false:=by simpa using h3
    by_cases h4:kd=4
    · subst h4;cases ht:Fb a b with
      |false=>
        have c1:=Sb w.clocks a b f.clocks ht;refine be aM func130 rfl call130 ntmps130 (ace results130) (λ_=>rfl) rfl (λ_=>rfl) λS pv=>?_;conv=>whnf
        repeat'((first|refine awz ?_|refine aaI (bc w hs) [(41,41),(42,42),(28,43)] rfl rfl ?_|refine cP (c1) ?_|fail)<;>conv=>whnf)
        all_goals exact⟨(w,false),hw,rfl,rfl,rfl,rfl,rfl,trivial⟩
      |true=>
        obtain⟨k,rfl⟩:∃k:Nat,a=(k:Int):=by
          simp only[Fb,aJ,Bool.and_eq_true,decide_eq_true_eq]at ht;exact⟨a.toNat,ac⟩
        have c1:=Sa w.clocks k b f.clocks ht;have ok:cY (w.clocks.set k b)=true:=zx f.clocks (by simp only[Fb,Bool.and_eq_true]at ht;exact ht.2);refine be aM func130 rfl call130 ntmps130 (ace results130) (λ_=>rfl) rfl (λ_=>rfl) λS pv=>?_;conv=>whnf
        repeat'((first|refine awz ?_|refine aaI (bc w hs) [(41,41),(42,42),(28,43)] rfl rfl ?_|refine aaI c1 [(42,42)] rfl rfl ?_|fail)<;>conv=>whnf)
        all_goals exact⟨({w with clocks:=w.clocks.set k b},true),(f.withClocks ok).ok,rfl,rfl,rfl,rfl,rfl,trivial⟩
    · have e4:(kd==4)=false:=by simpa using h4
      have there:aJ a 0 ((w.net.flight.length:Int)-1)=true->∃k:Nat,a=(k:Int)/\k<w.net.flight.length:=λh=>by
        simp only[aJ,Bool.and_eq_true,decide_eq_true_eq]at h;exact⟨a.toNat,ac,ac⟩
      by_cases h7:kd=7
      · subst h7;cases hb:aJ a 0 ((w.net.flight.length:Int)-1)with
        |false=>
          have c1:=Vs w.net a f.net hb;refine be aM func130 rfl call130 ntmps130 (ace results130) (λ_=>rfl) rfl (λ_=>rfl) λS pv=>?_;conv=>whnf
          repeat'((first|refine awz ?_|refine aaI (bc w hs) [(41,41),(42,42),(28,43)] rfl rfl ?_|refine cP (c1) ?_|fail)<;>conv=>whnf)
          all_goals exact⟨(w,false),hw,rfl,rfl,rfl,rfl,rfl,trivial⟩
        |true=>
          obtain⟨k,rfl,hk⟩:=there hb;have c1:=Vr w.net k f.net hk;refine be aM func130 rfl call130 ntmps130 (ace results130) (λ_=>rfl) rfl (λ_=>rfl) λS pv=>?_;conv=>whnf
          repeat'((first|refine awz ?_|refine aaI (bc w hs) [(41,41),(42,42),(28,43)] rfl rfl ?_|refine aaI c1 [(41,41)] rfl rfl ?_|fail)<;>conv=>whnf)
          all_goals exact⟨({w with net:=Qp w.net k},true),(f.withNet (T0 f.net k)).ok,rfl,rfl,rfl,rfl,rfl,trivial⟩
      · have e7:(kd==7)=false:=by simpa using h7
        by_cases h8:kd=8
        · subst h8;cases hb:aJ a 0 ((w.net.flight.length:Int)-1)with
          |false=>
            have c1:=OP w.net a f.net hb;refine be aM func130 rfl call130 ntmps130 (ace results130) (λ_=>rfl) rfl (λ_=>rfl) λS pv=>?_;conv=>whnf
            repeat'((first|refine awz ?_|refine aaI (bc w hs) [(41,41),(42,42),(28,43)] rfl rfl ?_|refine cP (c1) ?_|fail)<;>conv=>whnf)
            all_goals exact⟨(w,false),hw,rfl,rfl,rfl,rfl,rfl,trivial⟩
          |true=>
            obtain⟨k,rfl,hk⟩:=there hb;by_cases h60:w.net.flight.length=60
            · have c1:=ON w.net k f.net hk h60;refine be aM func130 rfl call130 ntmps130 (ace results130) (λ_=>rfl) rfl (λ_=>rfl) λS pv=>?_;conv=>whnf
              repeat'((first|refine awz ?_|refine aaI (bc w hs) [(41,41),(42,42),(28,43)] rfl rfl ?_|refine cP (c1) ?_|fail)<;>conv=>whnf)
              all_goals exact⟨(w,false),hw,rfl,rfl,rfl,rfl,rfl,trivial⟩
            · have c1:=OO w.net k f.net hk h60;have hm:=(dQ f.net).2.2.1 _ (List.getElem_mem hk);refine be aM func130 rfl call130 ntmps130 (ace results130) (λ_=>rfl) rfl (λ_=>rfl) λS pv=>?_;conv=>whnf
              repeat'((first|refine awz ?_|refine aaI (bc w hs) [(41,41),(42,42),(28,43)] rfl rfl ?_|refine aaI c1 [(41,41)] rfl rfl ?_|fail)<;>conv=>whnf)
              all_goals exact⟨({w with net:=Xu w.net k hk},true),(f.withNet (Ou f.net hm h60)).ok,rfl,rfl,rfl,rfl,rfl,trivial⟩
        · have e8:(kd==8)=false:=by simpa using h8
          have c1:=RX w.net a b f.net;have c2:=R8 w.net a b f.net;refine be aM func130 rfl call130 ntmps130 (ace results130) (λ_=>rfl) rfl (λ_=>rfl) λS pv=>?_;conv=>whnf
          repeat'((first|refine awz ?_|refine aaI (bc w hs) [(41,41),(42,42),(28,43)] rfl rfl ?_|(refine aaP c1 [(41,41)] (w.net,false) (λ_=>rfl) rfl trivial λy hy=>?_;obtain⟨n,bb⟩:=y)|(refine aaP c2 [(41,41)] (w.net,false) (λ_=>rfl) rfl trivial λy hy=>?_;obtain⟨n,bb⟩:=y)|refine tW ?_ ?_|intro h)<;>conv=>whnf)
          all_goals first
            |exact⟨(w,false),hw,rfl,rfl,rfl,rfl,rfl,trivial⟩
            |exact⟨({w with net:=n},true),(f.withNet hy).ok,rfl,rfl,rfl,rfl,rfl,trivial⟩
theorem Nd(l:List Int)(hl:l.length<=1000):cA av 178 [.one (.sl (l.map eI))] (λ_:Bool=>True) (λb=>rB b):=by
  refine aV aM func178 rfl call178 ntmps178 (ace results178) λS=>?_;conv=>whnf
  repeat'(first|refine awz ?_|refine tW ?_ ?_|(intro h;conv=>whnf))
  · exact⟨false,trivial,rfl⟩
  · refine aaK (λk:Nat=>k<=l.length) (2::3::rg 7 12) (λk=>[(3,vI .i64 (k:Int))]) (λk=>[]) (λk=>l.length-k) 0 (Nat.zero_le _) ?_ aaE (λk hk=>?_)<;>(conv=>whnf)
    · exact whd
    · by_cases hlt:k<l.length
      · have hc:decide ((k:Int)<((l.map eI).length:Int))=true:=al;repeat'((first|refine awz ?_|refine aaM hlt ?_|refine cP (aQ l[k] 0 2) ?_|refine aaH ac ac ?_|refine tW ?_ ?_|intro h)<;>conv=>whnf)
        all_goals first
          |exact⟨false,trivial,rfl⟩
          | (refine a8.mk ⟨k + 1, hlt,ac, ?_, aaE⟩
             exact hds)
      · have e:k=l.length:=ac;subst e;have hc:decide ((l.length:Int)<((l.map eI).length:Int))=false:=ah;repeat'((first|refine awz ?_|refine aaD hc ?_|exact rZ|refine tW ?_ ?_|intro h)<;>conv=>whnf)
        all_goals exact⟨true,trivial,rfl⟩
theorem Sk(s:ou)(hl:s.fates.length<=1000):cA av 124 [.agg s.dsW] (λ_:Bool=>True) (λb=>rB b):=by
  refine aV aM func124 rfl call124 ntmps124 (ace results124) λS=>?_;conv=>whnf
  repeat'((first|refine awz ?_|refine cP (aQ _ _ _) ?_|refine cP (sA _) ?_|refine cP (db _) ?_|refine aI.q (Nd s.fates hl) rfl λy _=>?_|exact rZ|refine tW ?_ ?_|intro h)<;>conv=>whnf)
  all_goals exact⟨(_:Bool),trivial,rfl⟩
theorem Uk(w:aP)(s:ou)(hw:aZ w=true)(hk:s.kind≠11)(hl:s.fates.length<=1000):gU av 81 [.agg (w.ds.map .d),.agg (s.dsW.map .d)] [] WBQ [41,42,43] wbO [] wbR:=by
  have hs:=cn hw;have wo:=bd w hs;rw[hw]at wo;have e11:(s.kind==11)=false:=by simpa using hk
  have c1:=Pp w s.a hw;have c2:=M2 w s.a hw;have c3:=MK w s.a s.fates hw ac;have c4:=O0 w s.a hw;have c5:=G8 w s hw;refine be aM func81 rfl call81 ntmps81 (ace results81) (λ_=>rfl) rfl (λ_=>rfl) λS pv=>?_;conv=>whnf
  repeat'((first|refine awz ?_|refine cP (wo) ?_|refine aaD e11 ?_|refine aaF ai ?_|refine aaD ai ?_|refine aaI (bc w hs) [(41,41),(42,42),(28,43)] rfl rfl ?_|refine aI.q (Sk s hl) rfl λy _=>?_|refine aaP c2 [(41,41),(42,42),(43,43)] w (λ_=>rfl) rfl trivial λz hz=>?_|(refine aaP c1 [(41,41),(42,42),(43,43)] (w,false) (λ_=>rfl) rfl trivial λv hv=>?_;obtain⟨v,vb⟩:=v)|(refine aaP c3 [(41,41),(42,42),(43,43)] (w,false) (λ_=>rfl) rfl trivial λv hv=>?_;obtain⟨v,vb⟩:=v)|(refine aaP c4 [(41,41),(42,42),(43,43)] (w,false) (λ_=>rfl) rfl trivial λv hv=>?_;obtain⟨v,vb⟩:=v)|(refine aaP c5 [(41,41),(42,42),(43,43)] (w,false) (λ_=>rfl) rfl trivial λv hv=>?_;obtain⟨v,vb⟩:=v)|exact rZ|refine tW ?_ ?_|intro h)<;>conv=>whnf)
  all_goals first
    |exact⟨(w,false),hw,rfl,rfl,rfl,rfl,rfl,trivial⟩
    |exact⟨(z,true),hz,rfl,rfl,rfl,rfl,rfl,trivial⟩
    |exact⟨(v,vb),hv,rfl,rfl,rfl,rfl,rfl,trivial⟩
def iG:List (List Nat):=bC [0,0,65,50860226]
theorem M3(s n:Int)(h:kg s)(hn:1<=n/\n<=1000000000):cA av 122 [.agg [dI s],pI n] (λy:Int×Int=>kg y.1/\0<=y.2/\y.2<n) (λy=> .tup [.agg [dI y.1],.one (dI y.2)]):=
 (F5 s n h hn).q (yk s,(yk s).tmod n) ⟨Ak h,Ux (Ak h).1 ac⟩ rfl
theorem Si(s:Int)(h:kg s):cA av 177 [.agg [dI s],pI 12,pI 3] (λy:Int×List Int=>kg y.1/\y.2.length<=12) (λy=> .tup [.agg [dI y.1],.one (.sl (y.2.map eI))]):=
 (Sh s h).q (CM s 12,lw s 12) ⟨Al h 12,by simp[lw]⟩ rfl
structure VT (y:Int×ou):Prop where
 dice:kg y.1
 kind:y.2.kind≠11
 fates:y.2.fates.length<=12
theorem Pq(w:aP)(d k:Int)(hw:aZ w=true)(hd:kg d):cA av 123 [.agg w.ds,.agg [dI d],pI k] VT (λy=> .tup [.agg [dI y.1],.agg y.2.dsW]):=by
 have f:=wB hw;have hf:=(dQ f.net).1;have h6:=f.ul;refine aV aM func123 rfl call123 ntmps123 (ace results123) λS=>?_;conv=>whnf
 repeat'(first|refine awz ?_|((first|refine aaH am am ?_|(refine aI.q (M3 _ _ aj (by first|omega|(simp only[List.length_map];omega))) rfl λy hy=>?_;obtain⟨hd,hy0,hy1⟩:=hy)|refine aaG y.2.toNat (eB (cq w y.2.toNat)) ac (je h6 ac) ?_|(refine aI.q (Si _ aj) rfl λz hz=>?_;obtain⟨hd,hz1⟩:=hz)|fail)<;>conv=>whnf)|(refine aaL aM 27 (.take 0 (.take 1 (.one 2 (.one 3 .done)))) [(4,9980),(8,9981)] iG ae ae ae ae (λRz=>?_);(conv=>whnf);intro bp0 up0;(conv=>whnf);intro bp1 up1;(conv=>whnf))|exact rZ|refine tW ?_ ?_|(intro h;conv=>whnf))
 all_goals first
  |exact⟨(_,⟨_,_,_,_,[]⟩),⟨by assumption,by simp,by simp⟩,rfl⟩
  |exact⟨(_,⟨_,_,_,_,z.2⟩),⟨by assumption,by simp,hz1⟩,rfl⟩
theorem Sj(w:aP)(d:Int)(hw:aZ w=true)(hd:kg d):cA av 80 [.agg w.ds,.agg [dI d]] VT (λy=> .tup [.agg [dI y.1],.agg y.2.dsW]):=by
 have hs:=cn hw;have f:=wB hw;have hf:=(dQ f.net).1;have wo:=bd w hs;rw[hw]at wo;refine aV aM func80 rfl call80 ntmps80 (ace results80) λS=>?_;conv=>whnf
 repeat'(first|refine awz ?_|((first|refine cP (wo) ?_|refine cP (iC hd) ?_|refine aaF ai ?_|refine aaD ai ?_|refine aaH am am ?_|refine aaH ac ac ?_|(refine aI.q (M3 _ _ aj (by first|omega|(simp only[List.length_map];omega))) rfl λy hy=>?_;obtain⟨hd,hy0,hy1⟩:=hy)|refine aI.q (Pq w _ _ hw aj) rfl λz hz=>?_|fail)<;>conv=>whnf)|(refine aaL aM 19 (.take 0 (.take 1 (.one 2 (.one 3 .done)))) [(3,9980),(6,9981)] iG ae ae ae ae (λRz=>?_);(conv=>whnf);intro bp0 up0;(conv=>whnf);intro bp1 up1;(conv=>whnf))|exact rZ|refine tW ?_ ?_|(intro h;conv=>whnf))
 all_goals first
  |exact⟨(_,⟨_,_,_,_,[]⟩),⟨by assumption,by simp,by simp⟩,rfl⟩
  |exact⟨z,hz,rfl⟩
def Wv(y:List ou×aP):Prop:=aZ y.2=true/\y.1.length<=600/\∀s∈y.1,s.fates.length<=12
abbrev stO(y:List ou×aP):List (Nat×AO):=wO y.2
abbrev stR(y:List ou×aP):AR:= .tup [.one (.d (.sl (y.1.map ou.dsW))),.agg y.2.own]
theorem O9(w:aP)(d:Int)(m:Nat)(hw:aZ w=true)(hd:kg d)(hm:m<=600):gU av 19 [.agg (w.ds.map .d),.agg [.d (dI d)],.one (.d (dI (m:Int)))] [] Wv [41,42,43] stO [] stR:=by
 have hs:=cn hw;have wo:=bd w hs;rw[hw]at wo;have l1:=aQ (m:Int) 0 600;rw[show aJ (m:Int) 0 600=true from ia ac]at l1;refine be aM func19 rfl call19 ntmps19 (ace results19) (λ_=>rfl) rfl (λ_=>rfl) λS pv=>?_;conv=>whnf
 repeat'((first|refine awz ?_|refine cP (wo) ?_|refine cP (iC hd) ?_|refine cP (l1) ?_|refine aaF ai ?_|refine aaD ai ?_|refine aaI (bc w hs) [(41,41),(42,42),(28,43)] rfl rfl ?_|exact rZ|refine tW ?_ ?_|intro h)<;>conv=>whnf)
 refine aaK (λg:List ou×aP×Int=>g.1.length<=m/\aZ g.2.1=true/\kg g.2.2/\∀s∈g.1,s.fates.length<=12) (27::29::[8,10,11,30,31,32,33,34,35,36,37,38,39,40,41,42,43,44,45,46,47,48,49,50]) (λg=>[(8,.one (.own 27))]) (λg=>[(9999,.frame (dC []) pv),(3,.cells 70 (w.ds.map .d)),(4,.cells 92 [.d (dI g.2.2)]),(7,.cells 70 (By.ds.map λd=>match d with| .pv v=> .d (.pv v)|_=> .nil)),(9,.cells 70 (aP.own g.2.1)),(27,.row 148 5 (g.1.map ou.dsW))]++wO g.2.1) (λg=>m-g.1.length) ([],w,d) ⟨Nat.zero_le _,hw,hd,by simp⟩ ?_ sbW (λg hg=>?_)<;>(conv=>whnf)
 ·exact whd
 ·obtain⟨l,x,e⟩:=g;obtain⟨hl,hx,he,hfs⟩:=hg;simp only at hl hx he hfs;by_cases hlt:l.length<m
  ·have hc:decide (((l.map ou.dsW).length:Int)<(m:Int))=true:=al;have c1:=Sj x e hx he;repeat'(first|((first|refine awz ?_|refine aaF hc ?_|fail)<;>conv=>whnf)|(refine aI.freeze 41 137 3 (x.net.flight.map cX.ds) rfl ?_;(conv=>whnf);refine aI.freeze 42 2 1 (x.clocks.map eI) rfl ?_;(conv=>whnf);refine aI.freeze 43 4 1 (x.up.map eB) rfl ?_;(conv=>whnf);refine aI.q c1 rfl λy hy=>?_;obtain⟨e2,sp⟩:=y;conv=>whnf)|((first|refine aW (by first|(intro y hy;obtain⟨a,_,rfl⟩:=List.mem_map.1 hy;rfl)|(simp;done)) ?_|refine a7 ak ?_|(refine aaP (Uk x sp hx hy.kind (Nat.le_trans hy.fates ai)) [(41,41),(42,42),(43,43)] (w,false) (λ_=>rfl) rfl trivial λv hv=>?_;obtain⟨v,vb⟩:=v)|exact rZ|refine tW ?_ ?_|intro h)<;>conv=>whnf))
   all_goals
    refine a8.mk ⟨(l++[sp],v,e2),⟨by simp;omega,hv,hy.dice,λs hs=>?_⟩,by simp;omega,?_,aaC rfl (aaC rfl (aaC rfl (aaC rfl (aaC rfl (aaC (by rw[List.map_append];rfl) sbW)))))⟩
    ·rcases List.mem_append.1 hs with hs|hs
     ·exact hfs s hs
     ·rw[List.mem_singleton.1 hs];exact hy.fates
    ·exact hds
  ·have hc:decide (((l.map ou.dsW).length:Int)<(m:Int))=false:=al;repeat'(first|refine awz ?_|(refine aaD hc ?_;conv=>whnf)|(refine aaL aM 10 (tkc [0,1,2] (.one 3 .done)) [(9,9980)] iG ae ae ae ae (λRz=>?_);(conv=>whnf);intro bp0 up0;(conv=>whnf))|exact rZ|refine tW ?_ ?_|(intro h;conv=>whnf))
   all_goals exact⟨(l,x),⟨hx,by simp only;omega,hfs⟩,rfl,rfl,rfl,rfl,rfl,trivial⟩
theorem Qq{id:Int}(hi:id=4\/id=5){l:List dD}(h:∀x∈l,eL x=true)(hl:l.length<=12):ci (fy id l)=true/\(fy id l).id=id:=by
 have hc:ci ⟨id,l,[],0⟩=true:=A6.ok ⟨hi,h,hl,by simp,by simp,rfl⟩;have e:fy id l=⟨id,l,[],0⟩:=by simp[fy,hc]
 rw[e];exact⟨hc,rfl⟩
theorem LW:cG jN=true:=kw (kS (rS ac) ai ai (gR zf ai))
theorem Vf{a b:List dD}(ha:∀x∈a,eL x=true)(la:a.length<=12)(hb:∀x∈b,eL x=true)(lb:b.length<=12):aZ (ub a b)=true:=by
 obtain⟨a1,a2⟩:=Qq (.inl rfl) ha la;obtain⟨b1,b2⟩:=Qq (.inr rfl) hb lb;have kd:=LW;have hl:logOk (oK ⟨jN,jN⟩)=true:=by
  refine mh.ok ⟨Br (qI ⟨kd,kd,rfl⟩) rfl,by decide,by decide,rfl,rfl,rfl,by decide,by decide,rfl,by decide⟩
 have hs:storeOk Aa=true:=ai;exact iS.ok ⟨rfl,rfl,rfl,rfl,rfl,a1,a2,b1,b2,rfl,rfl,hl,hs⟩
theorem MT(ann bob:List dD)(ha:ann.length<=1000)(hb:bob.length<=1000)(hw:aZ (ub ann bob)=true):aN av 18 [.one (.sl (ann.map dD.ds)),.one (.sl (bob.map dD.ds))] (.tup [.agg (ub ann bob).ds,.one (dB true)]):=by
 have hsm:=On ann bob ha hb;have c1:=Au 4 ann ac;have c2:=Au 5 bob ac;refine pO func18 call18 ntmps18 results18 λS=>?_;conv=>whnf
 repeat'((first|refine awz ?_|refine cP (c1) ?_|refine cP (c2) ?_|exact rZ|refine tW ?_ ?_|intro h)<;>conv=>whnf)
 refine aca [8,14,15,16,17,18,19,20,21,22] [(8,.one (.ref 8 0 0 0))] [(4,.cells 70 (By.ds.map λd=>match d with| .pv v=> .d (.pv v)|_=> .nil)),(8,.cells 70 ((((ub ann bob).ds.map .d).set 71 (.own 21)).set 72 .nil)),(21,.row 2 1 (List.replicate 6 [dI 0]))] ?_ ?_<;>(conv=>whnf)
 ·(refine aaL aM 3 (.take 4 (.take 5 (.three 0 (.three 1 (.three 2 (.three 3 (.three 6 (.two 7 (.two 8 (.one 9 (.one 10 .done)) 9 (.one 8 (.one 10 .done))) 9 (onc [7,8,10] .done)) 7 (.two 6 (.two 8 (.one 9 (.one 10 .done)) 9 (.one 8 (.one 10 .done))) 9 (onc [6,8,10] .done)) 9 (.two 6 (onc [7,8,10] .done) 7 (onc [6,8,10] .done))) 7 (.two 3 (.two 6 (.two 8 (.one 9 (.one 10 .done)) 9 (.one 8 (.one 10 .done))) 9 (onc [6,8,10] .done)) 9 (onc [3,6,8,10] .done)) 9 (.two 3 (.two 6 (onc [7,8,10] .done) 7 (onc [6,8,10] .done)) 7 (onc [3,6,8,10] .done))) 7 (.two 2 (.two 3 (.two 6 (.two 8 (.one 9 (.one 10 .done)) 9 (.one 8 (.one 10 .done))) 9 (onc [6,8,10] .done)) 9 (onc [3,6,8,10] .done)) 9 (onc [2,3,6,8,10] .done)) 9 (.two 2 (.two 3 (.two 6 (onc [7,8,10] .done) 7 (onc [6,8,10] .done)) 7 (onc [3,6,8,10] .done)) 7 (onc [2,3,6,8,10] .done))) 7 (.two 1 (.two 2 (.two 3 (.two 6 (.two 8 (.one 9 (.one 10 .done)) 9 (.one 8 (.one 10 .done))) 9 (onc [6,8,10] .done)) 9 (onc [3,6,8,10] .done)) 9 (onc [2,3,6,8,10] .done)) 9 (onc [1,2,3,6,8,10] .done)) 9 (.two 1 (.two 2 (.two 3 (.two 6 (onc [7,8,10] .done) 7 (onc [6,8,10] .done)) 7 (onc [3,6,8,10] .done)) 7 (onc [2,3,6,8,10] .done)) 7 (onc [1,2,3,6,8,10] .done))) 7 (.two 0 (.two 1 (.two 2 (.two 3 (.two 6 (.two 8 (.one 9 (.one 10 .done)) 9 (.one 8 (.one 10 .done))) 9 (onc [6,8,10] .done)) 9 (onc [3,6,8,10] .done)) 9 (onc [2,3,6,8,10] .done)) 9 (onc [1,2,3,6,8,10] .done)) 9 (onc [0,1,2,3,6,8,10] .done)) 9 (.two 0 (.two 1 (.two 2 (.two 3 (.two 6 (onc [7,8,10] .done) 7 (onc [6,8,10] .done)) 7 (onc [3,6,8,10] .done)) 7 (onc [2,3,6,8,10] .done)) 7 (onc [1,2,3,6,8,10] .done)) 7 (onc [0,1,2,3,6,8,10] .done))))) [(6,9980),(7,9981)] qO ae ae ae ae (λRz=>?_);(conv=>whnf);intro bp0 up0;(conv=>whnf);intro bp1 up1;(conv=>whnf))
  repeat'(first|refine awz ?_|((first|refine cP (IG) ?_|refine cP (CU) ?_|refine cP (we) ?_|refine cP (wg) ?_|refine cP (IH) ?_|refine⟨6,rfl,rfl,by decide,ac,?_⟩|fail)<;>conv=>whnf)|(exact And.intro whd sbW)|exact rZ|refine tW ?_ ?_|(intro h;conv=>whnf))
 ·have n1:(!aZ (ub ann bob))=false:=by rw[hw];rfl
  repeat'(first|refine awz ?_|exact rZ|refine tW ?_ ?_|(intro h;conv=>whnf))
  refine aa1 8 72 930 4 1 ai ?_;conv=>whnf
  repeat'(first|refine awz ?_|exact rZ|refine tW ?_ ?_|(intro h;conv=>whnf))
  refine aaZ 7 ?_;conv=>whnf
  repeat'((first|refine awz ?_|refine aaF ai ?_|refine aaD ai ?_|refine aaH ai ai ?_|refine aW (by first|(intro y hy;obtain⟨a,_,rfl⟩:=List.mem_map.1 hy;rfl)|(simp;done)) ?_|refine a7 aq ?_|refine aI.scalar (bd (ub ann bob) hsm) rfl rfl ?_|exact rZ|refine tW ?_ ?_|intro h)<;>conv=>whnf)
end Go.Proofs.YthgkdhnlehneeaaGreatDoor
