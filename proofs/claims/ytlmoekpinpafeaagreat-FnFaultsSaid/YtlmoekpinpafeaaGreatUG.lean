/- UG -/
import Derived.Test.YtlmoekpinpafeaaGreatUD
import Derived.Test.YtlmoekpinpafeaaGreatQJ
import Derived.Test.YtlmoekpinpafeaaGreatQC
import Derived.Test.YtlmoekpinpafeaaGreatAvJ3
set_option maxHeartbeats 16000000
set_option linter.unusedVariables false
set_option linter.unusedSimpArgs false
set_option maxRecDepth 100000
open List (map_set)
namespace Go.Proofs.YtlmoekpinpafeaaGreat
open Go.Proofs.Tryz
open Go.ChangeShapes Go.WideShapes Go.RowKit
theorem yp(s:DSched)(m:DMsg)(f:DE s):bq av 230 [.agg s.ds,.agg m.ds] (La s) (λy=> .val (.agg y.ds)):=by
 have ck:=tv m.row;generalize nS m.row=kd at ck;refine aO aL func230 rfl call230 ntmps230 (WA results230) λS=>?_;conv=>whnf
 repeat'((first|refine awz ?_|refine cP (ck) ?_|(refine aG.q (Dg m.row) rfl λa _=>?_;obtain⟨a,b⟩:=a)|(refine aG.q (Ju m.row) rfl λa _=>?_;obtain⟨a,b⟩:=a)|refine aG.q (GM s _ f) rfl λy hy=>?_|refine aG.q (EK s.view _ f.jobs) rfl λv hv=>?_|refine tW ?_ ?_|intro h)<;>conv=>whnf)
 all_goals first
  |exact⟨s,⟨f,rfl⟩,rfl⟩
  |exact⟨y,hy,rfl⟩
  |exact⟨{s with view:=v},⟨⟨f.id,f.seq,hv,f.index,f.idle,f.busy⟩,rfl⟩,rfl⟩
theorem wy(c:DClient)(m:DMsg)(f:wK c):bq av 231 [.agg c.ds,.agg m.ds] (MQ c) (λy=> .val (.agg y.ds)):=by
 have ck:=tv m.row;generalize nS m.row=kd at ck;refine aO aL func231 rfl call231 ntmps231 (WA results231) λS=>?_;conv=>whnf
 repeat'((first|refine awz ?_|refine cP (ck) ?_|(refine aG.q (Dg m.row) rfl λa _=>?_;obtain⟨a,b⟩:=a)|(refine aG.q (He m.row) rfl λa _=>?_;obtain⟨a,b⟩:=a)|refine aG.q (GX c _ f) rfl λy hy=>?_|refine aG.q (BQ c _ f) rfl λy hy=>?_|refine tW ?_ ?_|intro h)<;>conv=>whnf)
 all_goals first
  |exact⟨c,⟨f,rfl⟩,rfl⟩
  |exact⟨y,hy,rfl⟩
theorem uj(w:DWorld)(k:Nat)(m:DMsg)(hw:bz w=true)(hk:k=2\/k=3):de av 168 [.agg (w.ds.map .d),.one (.d (dI (k:Int))),.agg (m.ds.map .d)] [] WQ [41,42,43] wO [] wR:=by
 have hs:=bp hw;have f:=qQ hw;have wo:=cJ w hs;rw[hw]at wo;have hl:=mr f.left;have hr:=mr f.right;rcases hk with rfl|rfl
 ·have gu:=gZ f.ul (show 2<6 by decide);cases hu:dy w 2 with
  |false=>
   rw[hu]at gu;refine aT aL func168 rfl call168 ntmps168 (WA results168) (λ_=>rfl) rfl (λ_=>rfl) λS pv=>?_;conv=>whnf
   repeat'((first|refine awz ?_|refine cP (wo) ?_|refine TA (aU w hs) [(41,41),(42,42),(28,43)] rfl rfl ?_|refine Ty 2 _ rfl gu ?_|fail)<;>conv=>whnf)
   all_goals exact⟨w,hw,rfl,rfl,rfl,rfl,rfl,trivial⟩
  |true=>
   rw[hu]at gu;refine aT aL func168 rfl call168 ntmps168 (WA results168) (λ_=>rfl) rfl (λ_=>rfl) λS pv=>?_;conv=>whnf
   repeat'((first|refine awz ?_|refine cP (wo) ?_|refine TA (aU w hs) [(41,41),(42,42),(28,43)] rfl rfl ?_|refine Ty 2 _ rfl gu ?_|refine aG.q (yp w.left m (Hk hl.1)) rfl λy hy=>?_|fail)<;>conv=>whnf)
   all_goals exact⟨{w with left:=y},(f.withLeft hu hy.1.ok (by rw[hy.2];exact hl.2)).ok,rfl,rfl,rfl,rfl,rfl,trivial⟩
 ·have gu:=gZ f.ul (show 3<6 by decide);cases hu:dy w 3 with
  |false=>
   rw[hu]at gu;refine aT aL func168 rfl call168 ntmps168 (WA results168) (λ_=>rfl) rfl (λ_=>rfl) λS pv=>?_;conv=>whnf
   repeat'((first|refine awz ?_|refine cP (wo) ?_|refine TA (aU w hs) [(41,41),(42,42),(28,43)] rfl rfl ?_|refine Ty 3 _ rfl gu ?_|fail)<;>conv=>whnf)
   all_goals exact⟨w,hw,rfl,rfl,rfl,rfl,rfl,trivial⟩
  |true=>
   rw[hu]at gu;refine aT aL func168 rfl call168 ntmps168 (WA results168) (λ_=>rfl) rfl (λ_=>rfl) λS pv=>?_;conv=>whnf
   repeat'((first|refine awz ?_|refine cP (wo) ?_|refine TA (aU w hs) [(41,41),(42,42),(28,43)] rfl rfl ?_|refine Ty 3 _ rfl gu ?_|refine aG.q (yp w.right m (Hk hr.1)) rfl λy hy=>?_|fail)<;>conv=>whnf)
   all_goals exact⟨{w with right:=y},(f.withRight hu hy.1.ok (by rw[hy.2];exact hr.2)).ok,rfl,rfl,rfl,rfl,rfl,trivial⟩
theorem AS(w:DWorld)(k:Int)(m:DMsg)(hw:bz w=true):de av 169 [.agg (w.ds.map .d),.one (.d (dI k)),.agg (m.ds.map .d)] [] WQ [41,42,43] wO [] wR:=by
 have hs:=bp hw;have f:=qQ hw;have wo:=cJ w hs;rw[hw]at wo;refine aT aL func169 rfl call169 ntmps169 (WA results169) (λ_=>rfl) rfl (λ_=>rfl) λS pv=>?_;conv=>whnf
 repeat'((first|refine awz ?_|refine cP (wo) ?_|refine TA (aU w hs) [(41,41),(42,42),(28,43)] rfl rfl ?_|refine aG.q (wy w.ann m (Nh f.ann)) rfl λy hy=>?_|refine aG.q (wy w.bob m (Nh f.bob)) rfl λx hx=>?_|refine tW ?_ ?_|intro h)<;>conv=>whnf)
 all_goals first
  |exact⟨w,hw,rfl,rfl,rfl,rfl,rfl,trivial⟩
  |exact⟨{w with ann:=y},(f.withAnn hy.1.ok (by rw[hy.2];exact f.annId)).ok,rfl,rfl,rfl,rfl,rfl,trivial⟩
  |exact⟨{w with bob:=x},(f.withBob hx.1.ok (by rw[hx.2];exact f.bobId)).ok,rfl,rfl,rfl,rfl,rfl,trivial⟩
theorem GW(w:DWorld)(m:DMsg)(hw:bz w=true):de av 117 [.agg (w.ds.map .d),.agg (m.ds.map .d)] [] WQ [41,42,43] wO [] wR:=by
 have hs:=bp hw;have wo:=cJ w hs;rw[hw]at wo;have q1:(2:Int)=((2:Nat):Int):=rfl;by_cases h2:m.to_=2
 ·have c1:=uj w 2 m hw (.inl rfl);have e:(m.to_==2)=true:=by simpa using h2
  have e0:(m.to_==0)=false:=by rw[h2];rfl
  have e1:(m.to_==1)=false:=by rw[h2];rfl
  have c1:de av 168 [.agg (w.ds.map .d),.one (.d (dI m.to_)),.agg (m.ds.map .d)] [] WQ [41,42,43] wO [] wR:=by rw[h2];exact c1
  refine aT aL func117 rfl call117 ntmps117 (WA results117) (λ_=>rfl) rfl (λ_=>rfl) λS pv=>?_;conv=>whnf
  repeat'((first|refine awz ?_|refine cP (wo) ?_|refine cP (gW m) ?_|refine TA (aU w hs) [(41,41),(42,42),(28,43)] rfl rfl ?_|refine TF c1 [(41,41),(42,42),(43,43)] w (λ_=>rfl) rfl trivial λz hz=>?_|refine tW ?_ ?_|intro h)<;>conv=>whnf)
  all_goals first|exact⟨w,hw,rfl,rfl,rfl,rfl,rfl,trivial⟩|exact⟨z,hz,rfl,rfl,rfl,rfl,rfl,trivial⟩
 ·have e2:(m.to_==2)=false:=by simpa using h2
  by_cases h3:m.to_=3
  ·have c1:=uj w 3 m hw (.inr rfl);have e:(m.to_==3)=true:=by simpa using h3
   have e0:(m.to_==0)=false:=by rw[h3];rfl
   have e1:(m.to_==1)=false:=by rw[h3];rfl
   have c1:de av 168 [.agg (w.ds.map .d),.one (.d (dI m.to_)),.agg (m.ds.map .d)] [] WQ [41,42,43] wO [] wR:=by rw[h3];exact c1
   refine aT aL func117 rfl call117 ntmps117 (WA results117) (λ_=>rfl) rfl (λ_=>rfl) λS pv=>?_;conv=>whnf
   repeat'((first|refine awz ?_|refine cP (wo) ?_|refine cP (gW m) ?_|refine TA (aU w hs) [(41,41),(42,42),(28,43)] rfl rfl ?_|refine TF c1 [(41,41),(42,42),(43,43)] w (λ_=>rfl) rfl trivial λz hz=>?_|refine tW ?_ ?_|intro h)<;>conv=>whnf)
   all_goals first|exact⟨w,hw,rfl,rfl,rfl,rfl,rfl,trivial⟩|exact⟨z,hz,rfl,rfl,rfl,rfl,rfl,trivial⟩
  ·have e3:(m.to_==3)=false:=by simpa using h3
   have c1:=G6 w m hw;have c2:=BU w m hw;have c3:=AS w m.to_ m hw;refine aT aL func117 rfl call117 ntmps117 (WA results117) (λ_=>rfl) rfl (λ_=>rfl) λS pv=>?_;conv=>whnf
   repeat'((first|refine awz ?_|refine cP (wo) ?_|refine cP (gW m) ?_|refine TA (aU w hs) [(41,41),(42,42),(28,43)] rfl rfl ?_|refine TF c1 [(41,41),(42,42),(43,43)] w (λ_=>rfl) rfl trivial λz hz=>?_|refine TF c2 [(41,41),(42,42),(43,43)] w (λ_=>rfl) rfl trivial λz hz=>?_|refine TF c3 [(41,41),(42,42),(43,43)] w (λ_=>rfl) rfl trivial λz hz=>?_|refine tW ?_ ?_|intro h)<;>conv=>whnf)
   all_goals first|exact⟨w,hw,rfl,rfl,rfl,rfl,rfl,trivial⟩|exact⟨z,hz,rfl,rfl,rfl,rfl,rfl,trivial⟩
def oV:List (List Nat):=a8 [0,0,2,3,260,20801,26736222278022]
def ee:List (List Nat):=a8 [0,0,2,3,16641,347943211333]
def jl:List (List Nat):=a8 [0,1,0,3,0,324,6,450,35671935824001,0x81c61440c2048209]
theorem JA(w:DWorld)(hw:bz w=true):de av 118 [.agg (w.ds.map .d)] [] WQ [41,42,43] wO [] wR:=by
 have hs:=bp hw;have f:=qQ hw;have wo:=cJ w hs;rw[hw]at wo;have gu:=gZ f.ul (show 0<6 by decide);cases hu:dy w 0 with
 |false=>
  rw[hu]at gu;refine aT aL func118 rfl call118 ntmps118 (WA results118) (λ_=>rfl) rfl (λ_=>rfl) λS pv=>?_;conv=>whnf
  repeat'((first|refine awz ?_|refine cP (wo) ?_|refine TA (aU w hs) [(41,41),(42,42),(28,43)] rfl rfl ?_|refine Ty 0 _ rfl gu ?_|fail)<;>conv=>whnf)
  all_goals exact⟨w,hw,rfl,rfl,rfl,rfl,rfl,trivial⟩
 |true=>
  rw[hu]at gu;have lf:=OO (f.logOk hu);have h20:w.log.owe.length<=1000000:=by
   have h4:w.log.owe.length<=w.log.book.entries.length:=by rw[lf.owe,List.length_map];exact List.length_filter_le _ _
   have:=(bh lf.book).2.2.2.1;omega
  have c1:=ET w.log lf;unfold NM at c1;have hsl:=(JV lf).ok;generalize wD w.log=n at c1 hsl;have c2:=AN w.log.owe h20;refine aT aL func118 rfl call118 ntmps118 (WA results118) (λ_=>rfl) rfl (λ_=>rfl) λS pv=>?_;conv=>whnf
  repeat'(first|((first|refine awz ?_|refine cP (wo) ?_|refine cP (c1) ?_|refine TA (aU w hs) [(41,41),(42,42),(28,43)] rfl rfl ?_|refine Ty 0 _ rfl gu ?_|fail)<;>conv=>whnf)|(refine TD aL 8 (.take 0 (.take 1 (onc [2,3,4] .done))) [(3,9980)] fL ae ae ae ae (λRz=>?_);(conv=>whnf);intro bp0 up0;(conv=>whnf))|(refine aG.q c2 rfl λms hms=>?_;conv=>whnf)|(refine aG.freeze 41 120 3 (w.net.flight.map DMsg.ds) rfl ?_;(conv=>whnf);refine aG.freeze 42 2 1 (w.clocks.map eI) rfl ?_;(conv=>whnf);refine aG.freeze 43 4 1 (w.up.map eB) rfl ?_;(conv=>whnf);refine TF (l5 {w with log:=n} ms (f.withLog hu hsl).ok hms) [(41,41),(42,42),(43,43)] w (λ_=>rfl) rfl trivial λz hz=>?_;conv=>whnf)|fail)
  all_goals exact⟨z,hz,rfl,rfl,rfl,rfl,rfl,trivial⟩
theorem EU(w:DWorld)(hw:bz w=true):de av 119 [.agg (w.ds.map .d)] [] WQ [41,42,43] wO [] wR:=by
 have hs:=bp hw;have f:=qQ hw;have wo:=cJ w hs;rw[hw]at wo;have gu:=gZ f.ul (show 1<6 by decide);cases hu:dy w 1 with
 |false=>
  rw[hu]at gu;refine aT aL func119 rfl call119 ntmps119 (WA results119) (λ_=>rfl) rfl (λ_=>rfl) λS pv=>?_;conv=>whnf
  repeat'((first|refine awz ?_|refine cP (wo) ?_|refine TA (aU w hs) [(41,41),(42,42),(28,43)] rfl rfl ?_|refine Ty 1 _ rfl gu ?_|fail)<;>conv=>whnf)
  all_goals exact⟨w,hw,rfl,rfl,rfl,rfl,rfl,trivial⟩
 |true=>
  rw[hu]at gu;have hso:=f.storeOk hu;have c1:=Ji w.store hso;generalize w.store.state.index+1=i at c1;have c3:=BT w.store hso;refine aT aL func119 rfl call119 ntmps119 (WA results119) (λ_=>rfl) rfl (λ_=>rfl) λS pv=>?_;conv=>whnf
  repeat'(first|((first|refine awz ?_|refine cP (wo) ?_|refine cP (c1) ?_|refine TA (aU w hs) [(41,41),(42,42),(28,43)] rfl rfl ?_|refine Ty 1 _ rfl gu ?_|fail)<;>conv=>whnf)|(refine TD aL 6 (.take 1 (.take 2 (.two 0 (onc [3,4,5,6] .done) 3 (.two 0 (onc [4,5,6] .done) 4 (onc [0,5,6] .done))))) [(1,9980)] oV ae ae ae ae (λRz=>?_);(conv=>whnf);intro bp0 up0;(conv=>whnf))|((first|refine aG.q (GV i) rfl λr hr=>?_|refine TF (jL w 1 0 r hw (Nat.le_trans hr ah)) [(41,41),(42,42),(43,43)] w.net (λ_=>rfl) rfl ⟨rfl,rfl,rfl,trivial⟩ λv hv=>?_|(refine aG.q c3 rfl λy hy=>?_;obtain⟨y,t⟩:=y)|fail)<;>conv=>whnf)|(refine TD aL 9 (.take 1 (.two 0 (onc [2,3,4] .done) 2 (onc [0,3,4] .done))) [] fL ae ae ae ae (λRz=>?_);(conv=>whnf))|((first|refine aG.q (JB t) rfl λr2 hr2=>?_|refine TF (jL {w with net:=v} 1 0 r2 (f.withNet hv).ok (Nat.le_trans hr2 ah)) [(41,41),(42,42),(43,43)] w.net (λ_=>rfl) rfl ⟨rfl,rfl,rfl,trivial⟩ λu hu2=>?_|(refine aG.q (ER y hy) rfl λz hz=>?_;obtain⟨z,zb⟩:=z)|refine tW ?_ ?_|intro h)<;>conv=>whnf))
  all_goals first
   |exact⟨{w with store:=z,net:=u},((f.withStore hu hz).withNet hu2).ok,rfl,rfl,rfl,rfl,rfl,trivial⟩
   |exact⟨{w with store:=z,net:=v},((f.withStore hu hz).withNet hv).ok,rfl,rfl,rfl,rfl,rfl,trivial⟩
theorem BV(w:DWorld)(k:Int)(hw:bz w=true):de av 121 [.agg (w.ds.map .d),.one (.d (dI k))] [] WQ [41,42,43] wO [] wR:=by
 have hs:=bp hw;have f:=qQ hw;have wo:=cJ w hs;rw[hw]at wo;refine aT aL func121 rfl call121 ntmps121 (WA results121) (λ_=>rfl) rfl (λ_=>rfl) λS pv=>?_;conv=>whnf
 repeat'(first|((first|refine awz ?_|refine cP (wo) ?_|refine TA (aU w hs) [(41,41),(42,42),(28,43)] rfl rfl ?_|fail)<;>conv=>whnf)|(refine TD aL 5 (tkc [0,1,2] (onc [3,4,5] .done)) [(2,9980)] ee ae ae ae ae (λRz=>?_);(conv=>whnf);intro bp0 up0;(conv=>whnf))|(refine TD aL 7 (tkc [0,1,2] (onc [3,4,5] .done)) [(2,9980)] ee ae ae ae ae (λRz=>?_);(conv=>whnf);intro bp0 up0;(conv=>whnf))|((first|refine aG.q (Dh w.ann (Nh f.ann)) rfl λms hms=>?_|refine aG.q (Dh w.bob (Nh f.bob)) rfl λms hms=>?_|refine TF (l5 w ms hw hms) [(41,41),(42,42),(43,43)] w (λ_=>rfl) rfl trivial λz hz=>?_|refine tW ?_ ?_|intro h)<;>conv=>whnf))
 all_goals first|exact⟨w,hw,rfl,rfl,rfl,rfl,rfl,trivial⟩|exact⟨z,hz,rfl,rfl,rfl,rfl,rfl,trivial⟩
theorem wm(w:DWorld)(k:Nat)(hw:bz w=true)(hk:k=2\/k=3):de av 120 [.agg (w.ds.map .d),.one (.d (dI (k:Int)))] [] WQ [41,42,43] wO [] wR:=by
 have hs:=bp hw;have f:=qQ hw;have wo:=cJ w hs;rw[hw]at wo;have hl:=mr f.left;have hr:=mr f.right;rcases hk with rfl|rfl
 ·have gu:=gZ f.ul (show 2<6 by decide);obtain⟨c,gc,hc⟩:=DY f (show 2<6 by decide);cases hu:dy w 2 with
  |false=>
   rw[hu]at gu;refine aT aL func120 rfl call120 ntmps120 (WA results120) (λ_=>rfl) rfl (λ_=>rfl) λS pv=>?_;conv=>whnf
   repeat'((first|refine awz ?_|refine cP (wo) ?_|refine TA (aU w hs) [(41,41),(42,42),(28,43)] rfl rfl ?_|refine Ty 2 _ rfl gu ?_|fail)<;>conv=>whnf)
   all_goals exact⟨w,hw,rfl,rfl,rfl,rfl,rfl,trivial⟩
  |true=>
   rw[hu]at gu;refine aT aL func120 rfl call120 ntmps120 (WA results120) (λ_=>rfl) rfl (λ_=>rfl) λS pv=>?_;conv=>whnf
   repeat'(first|((first|refine awz ?_|refine cP (wo) ?_|refine TA (aU w hs) [(41,41),(42,42),(28,43)] rfl rfl ?_|refine Ty 2 _ rfl gu ?_|refine Ty 2 _ rfl gc ?_|fail)<;>conv=>whnf)|(refine TD aL 7 (tkc [0,1,2,3,4,5,6] (.one 7 (.take 8 (.one 9 .done)))) [(2,9980)] jl ae ae ae ae (λRz=>?_);(conv=>whnf);intro bp0 up0;(conv=>whnf))|(refine TD aL 8 (tkc [0,1,2] (onc [3,4,5] .done)) [(5,9980)] ee ae ae ae ae (λRz=>?_);(conv=>whnf);intro bp0 up0;(conv=>whnf))|((first|refine aG.q (AT w.left c (Hk hl.1)) rfl λy hy=>?_|refine aG.q (Bc y hy.1) rfl λms hms=>?_|fail)<;>conv=>whnf)|(refine aG.freeze 41 120 3 (w.net.flight.map DMsg.ds) rfl ?_;(conv=>whnf);refine aG.freeze 42 2 1 (w.clocks.map eI) rfl ?_;(conv=>whnf);refine aG.freeze 43 4 1 (w.up.map eB) rfl ?_;(conv=>whnf);refine TF (l5 {w with left:=y} ms (f.withLeft hu hy.1.ok (by rw[hy.2];exact hl.2)).ok hms) [(41,41),(42,42),(43,43)] w (λ_=>rfl) rfl trivial λz hz=>?_;conv=>whnf)|fail)
   all_goals exact⟨z,hz,rfl,rfl,rfl,rfl,rfl,trivial⟩
 ·have gu:=gZ f.ul (show 3<6 by decide);obtain⟨c,gc,hc⟩:=DY f (show 3<6 by decide);cases hu:dy w 3 with
  |false=>
   rw[hu]at gu;refine aT aL func120 rfl call120 ntmps120 (WA results120) (λ_=>rfl) rfl (λ_=>rfl) λS pv=>?_;conv=>whnf
   repeat'((first|refine awz ?_|refine cP (wo) ?_|refine TA (aU w hs) [(41,41),(42,42),(28,43)] rfl rfl ?_|refine Ty 3 _ rfl gu ?_|fail)<;>conv=>whnf)
   all_goals exact⟨w,hw,rfl,rfl,rfl,rfl,rfl,trivial⟩
  |true=>
   rw[hu]at gu;refine aT aL func120 rfl call120 ntmps120 (WA results120) (λ_=>rfl) rfl (λ_=>rfl) λS pv=>?_;conv=>whnf
   repeat'(first|((first|refine awz ?_|refine cP (wo) ?_|refine TA (aU w hs) [(41,41),(42,42),(28,43)] rfl rfl ?_|refine Ty 3 _ rfl gu ?_|refine Ty 3 _ rfl gc ?_|fail)<;>conv=>whnf)|(refine TD aL 9 (tkc [0,1,2,3,4,5,6] (.one 7 (.take 8 (.one 9 .done)))) [(2,9980)] jl ae ae ae ae (λRz=>?_);(conv=>whnf);intro bp0 up0;(conv=>whnf))|(refine TD aL 10 (tkc [0,1,2] (onc [3,4,5] .done)) [(5,9980)] ee ae ae ae ae (λRz=>?_);(conv=>whnf);intro bp0 up0;(conv=>whnf))|((first|refine aG.q (AT w.right c (Hk hr.1)) rfl λy hy=>?_|refine aG.q (Bc y hy.1) rfl λms hms=>?_|fail)<;>conv=>whnf)|(refine aG.freeze 41 120 3 (w.net.flight.map DMsg.ds) rfl ?_;(conv=>whnf);refine aG.freeze 42 2 1 (w.clocks.map eI) rfl ?_;(conv=>whnf);refine aG.freeze 43 4 1 (w.up.map eB) rfl ?_;(conv=>whnf);refine TF (l5 {w with right:=y} ms (f.withRight hu hy.1.ok (by rw[hy.2];exact hr.2)).ok hms) [(41,41),(42,42),(43,43)] w (λ_=>rfl) rfl trivial λz hz=>?_;conv=>whnf)|fail)
   all_goals exact⟨z,hz,rfl,rfl,rfl,rfl,rfl,trivial⟩
theorem Hh(w:DWorld)(a:Int)(hw:bz w=true):de av 88 [.agg (w.ds.map .d),.one (.d (dI a))] [] WQ [41,42,43] wO [] wR:=by
 have hs:=bp hw;have wo:=cJ w hs;rw[hw]at wo;by_cases h2:a=2
 ·subst h2;have c1:=wm w 2 hw (.inl rfl);refine aT aL func88 rfl call88 ntmps88 (WA results88) (λ_=>rfl) rfl (λ_=>rfl) λS pv=>?_;conv=>whnf
  repeat'((first|refine awz ?_|refine cP (wo) ?_|refine TF c1 [(41,41),(42,42),(43,43)] w (λ_=>rfl) rfl trivial λz hz=>?_|fail)<;>conv=>whnf)
  all_goals exact⟨z,hz,rfl,rfl,rfl,rfl,rfl,trivial⟩
 ·by_cases h3:a=3
  ·subst h3;have c1:=wm w 3 hw (.inr rfl);refine aT aL func88 rfl call88 ntmps88 (WA results88) (λ_=>rfl) rfl (λ_=>rfl) λS pv=>?_;conv=>whnf
   repeat'((first|refine awz ?_|refine cP (wo) ?_|refine TF c1 [(41,41),(42,42),(43,43)] w (λ_=>rfl) rfl trivial λz hz=>?_|fail)<;>conv=>whnf)
   all_goals exact⟨z,hz,rfl,rfl,rfl,rfl,rfl,trivial⟩
  ·have e2:(a==2)=false:=by simpa using h2
   have e3:(a==3)=false:=by simpa using h3
   have c1:=JA w hw;have c2:=EU w hw;have c3:=BV w a hw;refine aT aL func88 rfl call88 ntmps88 (WA results88) (λ_=>rfl) rfl (λ_=>rfl) λS pv=>?_;conv=>whnf
   repeat'((first|refine awz ?_|refine cP (wo) ?_|refine TF c1 [(41,41),(42,42),(43,43)] w (λ_=>rfl) rfl trivial λz hz=>?_|refine TF c2 [(41,41),(42,42),(43,43)] w (λ_=>rfl) rfl trivial λz hz=>?_|refine TF c3 [(41,41),(42,42),(43,43)] w (λ_=>rfl) rfl trivial λz hz=>?_|refine tW ?_ ?_|intro h)<;>conv=>whnf)
   all_goals exact⟨z,hz,rfl,rfl,rfl,rfl,rfl,trivial⟩
abbrev wbO(y:DWorld×Bool):List (Nat×AO):=wO y.1
abbrev wbR(y:DWorld×Bool):AR:= .tup [.agg y.1.own,.one (.d (dB y.2))]
def WBQ(y:DWorld×Bool):Prop:=bz y.1=true
theorem Fz{a:Int}(h:aI a 0 3=true):a=0\/a=1\/a=2\/a=3:=by
 simp only[aI,Bool.and_eq_true,decide_eq_true_eq]at h;omega
theorem GP(w:DWorld)(a:Int)(fs:List Int)(hw:bz w=true)(hf:fs.length<=1000000):de av 89 [.agg (w.ds.map .d),.one (.d (dI a)),.one (.d (.sl (fs.map eI)))] [] WBQ [41,42,43] wbO [] wbR:=by
 have hs:=bp hw;have f:=qQ hw;have wo:=cJ w hs;rw[hw]at wo;cases hb:aI a 0 3 with
 |false=>
  have l1:=aN a 0 3;rw[hb]at l1;refine aT aL func89 rfl call89 ntmps89 (WA results89) (λ_=>rfl) rfl (λ_=>rfl) λS pv=>?_;conv=>whnf
  repeat'((first|refine awz ?_|refine cP (wo) ?_|refine cP (l1) ?_|refine TA (aU w hs) [(41,41),(42,42),(28,43)] rfl rfl ?_|fail)<;>conv=>whnf)
  all_goals exact⟨(w,false),hw,rfl,rfl,rfl,rfl,rfl,trivial⟩
 |true=>
  rcases Fz hb with rfl|rfl|rfl|rfl
  ·have l1:=aN 0 0 3;rw[hb]at l1;have gu:=gZ f.ul (show 0<6 by decide);have es:(w.up.set 0 false).map eB=(w.up.map eB).set 0 (eB false):=map_set ..;cases hu:dy w 0 with
   |false=>
    rw[hu]at gu;refine aT aL func89 rfl call89 ntmps89 (WA results89) (λ_=>rfl) rfl (λ_=>rfl) λS pv=>?_;conv=>whnf
    repeat'((first|refine awz ?_|refine cP (wo) ?_|refine cP (l1) ?_|refine TA (aU w hs) [(41,41),(42,42),(28,43)] rfl rfl ?_|refine Ty 0 _ rfl gu ?_|fail)<;>conv=>whnf)
    all_goals exact⟨(w,false),hw,rfl,rfl,rfl,rfl,rfl,trivial⟩
   |true=>
    rw[hu]at gu;have c1:=EH w.log fs (OO (f.logOk hu)) hf;refine aT aL func89 rfl call89 ntmps89 (WA results89) (λ_=>rfl) rfl (λ_=>rfl) λS pv=>?_;conv=>whnf
    repeat'((first|refine awz ?_|refine cP (wo) ?_|refine cP (l1) ?_|refine TA (aU w hs) [(41,41),(42,42),(28,43)] rfl rfl ?_|refine Ty 0 _ rfl gu ?_|refine aG.q c1 rfl λy hy=>?_|fail)<;>conv=>whnf)
    all_goals exact⟨({w with log:=y,up:=w.up.set 0 false},true),(f.fell (v:={w with log:=y,up:=w.up.set 0 false}) (n:=0) ah rfl rfl rfl rfl rfl (by simpa using hy) ai ai ai).ok,rfl,rfl,rfl,rfl,congrArg (AO.row 4 1) es.symm,trivial⟩
  ·have l1:=aN 1 0 3;rw[hb]at l1;have gu:=gZ f.ul (show 1<6 by decide);have es:(w.up.set 1 false).map eB=(w.up.map eB).set 1 (eB false):=map_set ..;cases hu:dy w 1 with
   |false=>
    rw[hu]at gu;refine aT aL func89 rfl call89 ntmps89 (WA results89) (λ_=>rfl) rfl (λ_=>rfl) λS pv=>?_;conv=>whnf
    repeat'((first|refine awz ?_|refine cP (wo) ?_|refine cP (l1) ?_|refine TA (aU w hs) [(41,41),(42,42),(28,43)] rfl rfl ?_|refine Ty 1 _ rfl gu ?_|fail)<;>conv=>whnf)
    all_goals exact⟨(w,false),hw,rfl,rfl,rfl,rfl,rfl,trivial⟩
   |true=>
    rw[hu]at gu;have c1:=AU w.store fs (f.storeOk hu) hf;refine aT aL func89 rfl call89 ntmps89 (WA results89) (λ_=>rfl) rfl (λ_=>rfl) λS pv=>?_;conv=>whnf
    repeat'((first|refine awz ?_|refine cP (wo) ?_|refine cP (l1) ?_|refine TA (aU w hs) [(41,41),(42,42),(28,43)] rfl rfl ?_|refine Ty 1 _ rfl gu ?_|refine aG.q c1 rfl λy hy=>?_|fail)<;>conv=>whnf)
    all_goals exact⟨({w with store:=y,up:=w.up.set 1 false},true),(f.fell (v:={w with store:=y,up:=w.up.set 1 false}) (n:=1) ah rfl rfl rfl rfl rfl ai (by simpa using hy) ai ai).ok,rfl,rfl,rfl,rfl,congrArg (AO.row 4 1) es.symm,trivial⟩
  ·have l1:=aN 2 0 3;rw[hb]at l1;have gu:=gZ f.ul (show 2<6 by decide);have es:(w.up.set 2 false).map eB=(w.up.map eB).set 2 (eB false):=map_set ..;have hl:=mr f.left;have c1:=sJ w.left hl.1 (by have:=(gQ (Hk hl.1).jobs).1;omega);rw[hl.2]at c1;cases hu:dy w 2 with
   |false=>
    rw[hu]at gu;refine aT aL func89 rfl call89 ntmps89 (WA results89) (λ_=>rfl) rfl (λ_=>rfl) λS pv=>?_;conv=>whnf
    repeat'((first|refine awz ?_|refine cP (wo) ?_|refine cP (l1) ?_|refine TA (aU w hs) [(41,41),(42,42),(28,43)] rfl rfl ?_|refine Ty 2 _ rfl gu ?_|fail)<;>conv=>whnf)
    all_goals exact⟨(w,false),hw,rfl,rfl,rfl,rfl,rfl,trivial⟩
   |true=>
    rw[hu]at gu;refine aT aL func89 rfl call89 ntmps89 (WA results89) (λ_=>rfl) rfl (λ_=>rfl) λS pv=>?_;conv=>whnf
    repeat'((first|refine awz ?_|refine cP (wo) ?_|refine cP (l1) ?_|refine cP (c1) ?_|refine TA (aU w hs) [(41,41),(42,42),(28,43)] rfl rfl ?_|refine Ty 2 _ rfl gu ?_|fail)<;>conv=>whnf)
    all_goals exact⟨({w with left:=fW 2,up:=w.up.set 2 false},true),(f.fell (v:={w with left:=fW 2,up:=w.up.set 2 false}) (n:=2) ah rfl rfl rfl rfl rfl ai ai ai ai).ok,rfl,rfl,rfl,rfl,congrArg (AO.row 4 1) es.symm,trivial⟩
  ·have l1:=aN 3 0 3;rw[hb]at l1;have gu:=gZ f.ul (show 3<6 by decide);have es:(w.up.set 3 false).map eB=(w.up.map eB).set 3 (eB false):=map_set ..;have hl:=mr f.right;have c1:=sJ w.right hl.1 (by have:=(gQ (Hk hl.1).jobs).1;omega);rw[hl.2]at c1;cases hu:dy w 3 with
   |false=>
    rw[hu]at gu;refine aT aL func89 rfl call89 ntmps89 (WA results89) (λ_=>rfl) rfl (λ_=>rfl) λS pv=>?_;conv=>whnf
    repeat'((first|refine awz ?_|refine cP (wo) ?_|refine cP (l1) ?_|refine TA (aU w hs) [(41,41),(42,42),(28,43)] rfl rfl ?_|refine Ty 3 _ rfl gu ?_|fail)<;>conv=>whnf)
    all_goals exact⟨(w,false),hw,rfl,rfl,rfl,rfl,rfl,trivial⟩
   |true=>
    rw[hu]at gu;refine aT aL func89 rfl call89 ntmps89 (WA results89) (λ_=>rfl) rfl (λ_=>rfl) λS pv=>?_;conv=>whnf
    repeat'((first|refine awz ?_|refine cP (wo) ?_|refine cP (l1) ?_|refine cP (c1) ?_|refine TA (aU w hs) [(41,41),(42,42),(28,43)] rfl rfl ?_|refine Ty 3 _ rfl gu ?_|fail)<;>conv=>whnf)
    all_goals exact⟨({w with right:=fW 3,up:=w.up.set 3 false},true),(f.fell (v:={w with right:=fW 3,up:=w.up.set 3 false}) (n:=3) ah rfl rfl rfl rfl rfl ai ai ai ai).ok,rfl,rfl,rfl,rfl,congrArg (AO.row 4 1) es.symm,trivial⟩
theorem Jr(w:DWorld)(a:Int)(hw:bz w=true):de av 90 [.agg (w.ds.map .d),.one (.d (dI a))] [] WBQ [41,42,43] wbO [] wbR:=by
 have hs:=bp hw;have f:=qQ hw;have wo:=cJ w hs;rw[hw]at wo;cases hb:aI a 0 3 with
 |false=>
  have l1:=aN a 0 3;rw[hb]at l1;refine aT aL func90 rfl call90 ntmps90 (WA results90) (λ_=>rfl) rfl (λ_=>rfl) λS pv=>?_;conv=>whnf
  repeat'((first|refine awz ?_|refine cP (wo) ?_|refine cP (l1) ?_|refine TA (aU w hs) [(41,41),(42,42),(28,43)] rfl rfl ?_|fail)<;>conv=>whnf)
  all_goals exact⟨(w,false),hw,rfl,rfl,rfl,rfl,rfl,trivial⟩
 |true=>
  rcases Fz hb with rfl|rfl|rfl|rfl
  ·have l1:=aN 0 0 3;rw[hb]at l1;have gu:=gZ f.ul (show 0<6 by decide);have es:(w.up.set 0 true).map eB=(w.up.map eB).set 0 (eB true):=map_set ..;cases hu:dy w 0 with
   |true=>
    rw[hu]at gu;refine aT aL func90 rfl call90 ntmps90 (WA results90) (λ_=>rfl) rfl (λ_=>rfl) λS pv=>?_;conv=>whnf
    repeat'((first|refine awz ?_|refine cP (wo) ?_|refine cP (l1) ?_|refine TA (aU w hs) [(41,41),(42,42),(28,43)] rfl rfl ?_|refine Ty 0 _ rfl gu ?_|fail)<;>conv=>whnf)
    all_goals exact⟨(w,false),hw,rfl,rfl,rfl,rfl,rfl,trivial⟩
   |false=>
    rw[hu]at gu;have rl:=G9 w.log;cases e:f8 w.log with
    |none=>
     rw[e]at rl;unfold Gs at rl;refine aT aL func90 rfl call90 ntmps90 (WA results90) (λ_=>rfl) rfl (λ_=>rfl) λS pv=>?_;conv=>whnf
     repeat'((first|refine awz ?_|refine cP (wo) ?_|refine cP (l1) ?_|refine cP (rl) ?_|refine TA (aU w hs) [(41,41),(42,42),(28,43)] rfl rfl ?_|refine Ty 0 _ rfl gu ?_|fail)<;>conv=>whnf)
     all_goals exact⟨(w,false),hw,rfl,rfl,rfl,rfl,rfl,trivial⟩
    |some m=>
     rw[e]at rl;have rl:aM av 125 [.agg w.log.ds] (.tup [.agg m.ds,.one (dB true)]):=rl;have e:kr w 0=some {w with log:=m,up:=w.up.set 0 true}:=by simp[kr,hu,e]
     have ok:=py ah hw e;refine aT aL func90 rfl call90 ntmps90 (WA results90) (λ_=>rfl) rfl (λ_=>rfl) λS pv=>?_;conv=>whnf
     repeat'((first|refine awz ?_|refine cP (wo) ?_|refine cP (l1) ?_|refine cP (rl) ?_|refine TA (aU w hs) [(41,41),(42,42),(28,43)] rfl rfl ?_|refine Ty 0 _ rfl gu ?_|fail)<;>conv=>whnf)
     all_goals exact⟨({w with log:=m,up:=w.up.set 0 true},true),ok,rfl,rfl,rfl,rfl,congrArg (AO.row 4 1) es.symm,trivial⟩
  ·have l1:=aN 1 0 3;rw[hb]at l1;have gu:=gZ f.ul (show 1<6 by decide);have es:(w.up.set 1 true).map eB=(w.up.map eB).set 1 (eB true):=map_set ..;cases hu:dy w 1 with
   |true=>
    rw[hu]at gu;refine aT aL func90 rfl call90 ntmps90 (WA results90) (λ_=>rfl) rfl (λ_=>rfl) λS pv=>?_;conv=>whnf
    repeat'((first|refine awz ?_|refine cP (wo) ?_|refine cP (l1) ?_|refine TA (aU w hs) [(41,41),(42,42),(28,43)] rfl rfl ?_|refine Ty 1 _ rfl gu ?_|fail)<;>conv=>whnf)
    all_goals exact⟨(w,false),hw,rfl,rfl,rfl,rfl,rfl,trivial⟩
   |false=>
    rw[hu]at gu;have rl:=BS w.store;cases e:eY w.store with
    |none=>
     rw[e]at rl;unfold CZ at rl;refine aT aL func90 rfl call90 ntmps90 (WA results90) (λ_=>rfl) rfl (λ_=>rfl) λS pv=>?_;conv=>whnf
     repeat'((first|refine awz ?_|refine cP (wo) ?_|refine cP (l1) ?_|refine cP (rl) ?_|refine TA (aU w hs) [(41,41),(42,42),(28,43)] rfl rfl ?_|refine Ty 1 _ rfl gu ?_|fail)<;>conv=>whnf)
     all_goals exact⟨(w,false),hw,rfl,rfl,rfl,rfl,rfl,trivial⟩
    |some m=>
     rw[e]at rl;have rl:aM av 126 [.agg w.store.ds] (.tup [.agg m.ds,.one (dB true)]):=rl;have e:kr w 1=some {w with store:=m,up:=w.up.set 1 true}:=by simp[kr,hu,e]
     have ok:=py ah hw e;refine aT aL func90 rfl call90 ntmps90 (WA results90) (λ_=>rfl) rfl (λ_=>rfl) λS pv=>?_;conv=>whnf
     repeat'((first|refine awz ?_|refine cP (wo) ?_|refine cP (l1) ?_|refine cP (rl) ?_|refine TA (aU w hs) [(41,41),(42,42),(28,43)] rfl rfl ?_|refine Ty 1 _ rfl gu ?_|fail)<;>conv=>whnf)
     all_goals exact⟨({w with store:=m,up:=w.up.set 1 true},true),ok,rfl,rfl,rfl,rfl,congrArg (AO.row 4 1) es.symm,trivial⟩
  ·have l1:=aN 2 0 3;rw[hb]at l1;have gu:=gZ f.ul (show 2<6 by decide);have es:(w.up.set 2 true).map eB=(w.up.map eB).set 2 (eB true):=map_set ..;cases hu:dy w 2 with
   |true=>
    rw[hu]at gu;refine aT aL func90 rfl call90 ntmps90 (WA results90) (λ_=>rfl) rfl (λ_=>rfl) λS pv=>?_;conv=>whnf
    repeat'((first|refine awz ?_|refine cP (wo) ?_|refine cP (l1) ?_|refine TA (aU w hs) [(41,41),(42,42),(28,43)] rfl rfl ?_|refine Ty 2 _ rfl gu ?_|fail)<;>conv=>whnf)
    all_goals exact⟨(w,false),hw,rfl,rfl,rfl,rfl,rfl,trivial⟩
   |false=>
    rw[hu]at gu;have e:kr w 2=some {w with up:=w.up.set 2 true}:=by simp[kr,hu]
    have ok:=py ah hw e;refine aT aL func90 rfl call90 ntmps90 (WA results90) (λ_=>rfl) rfl (λ_=>rfl) λS pv=>?_;conv=>whnf
    repeat'((first|refine awz ?_|refine cP (wo) ?_|refine cP (l1) ?_|refine TA (aU w hs) [(41,41),(42,42),(28,43)] rfl rfl ?_|refine Ty 2 _ rfl gu ?_|fail)<;>conv=>whnf)
    all_goals exact⟨({w with up:=w.up.set 2 true},true),ok,rfl,rfl,rfl,rfl,congrArg (AO.row 4 1) es.symm,trivial⟩
  ·have l1:=aN 3 0 3;rw[hb]at l1;have gu:=gZ f.ul (show 3<6 by decide);have es:(w.up.set 3 true).map eB=(w.up.map eB).set 3 (eB true):=map_set ..;cases hu:dy w 3 with
   |true=>
    rw[hu]at gu;refine aT aL func90 rfl call90 ntmps90 (WA results90) (λ_=>rfl) rfl (λ_=>rfl) λS pv=>?_;conv=>whnf
    repeat'((first|refine awz ?_|refine cP (wo) ?_|refine cP (l1) ?_|refine TA (aU w hs) [(41,41),(42,42),(28,43)] rfl rfl ?_|refine Ty 3 _ rfl gu ?_|fail)<;>conv=>whnf)
    all_goals exact⟨(w,false),hw,rfl,rfl,rfl,rfl,rfl,trivial⟩
   |false=>
    rw[hu]at gu;have e:kr w 3=some {w with up:=w.up.set 3 true}:=by simp[kr,hu]
    have ok:=py ah hw e;refine aT aL func90 rfl call90 ntmps90 (WA results90) (λ_=>rfl) rfl (λ_=>rfl) λS pv=>?_;conv=>whnf
    repeat'((first|refine awz ?_|refine cP (wo) ?_|refine cP (l1) ?_|refine TA (aU w hs) [(41,41),(42,42),(28,43)] rfl rfl ?_|refine Ty 3 _ rfl gu ?_|fail)<;>conv=>whnf)
    all_goals exact⟨({w with up:=w.up.set 3 true},true),ok,rfl,rfl,rfl,rfl,congrArg (AO.row 4 1) es.symm,trivial⟩
theorem JP(w:DWorld)(a:Int)(hw:bz w=true):de av 87 [.agg (w.ds.map .d),.one (.d (dI a))] [] WBQ [41,42,43] wbO [] wbR:=by
  have hs:=bp hw;have f:=qQ hw;have c1:=Md w.net a f.net;refine aT aL func87 rfl call87 ntmps87 (WA results87) (λ_=>rfl) rfl (λ_=>rfl) λS pv=>?_;conv=>whnf
  repeat'(first|refine awz ?_|(refine TA (aU w hs) [(41,41),(42,42),(28,43)] rfl rfl ?_;conv=>whnf)|fail)
  refine TF c1 [(41,41)] (w.net,none) (by rintro⟨_,_|_⟩<;>rfl) rfl trivial λy hy=>?_;rcases y with⟨n,_|m⟩
  · (conv=>whnf)
    repeat'(first|refine awz ?_|fail)
    all_goals exact⟨({w with net:=n},false),(f.withNet hy.ok).ok,rfl,rfl,rfl,rfl,rfl,trivial⟩
  · have c2:=GW {w with net:=n} m (f.withNet hy.ok).ok;(conv=>whnf)
    repeat'(first|refine awz ?_|(refine aG.freeze 41 120 3 (n.flight.map DMsg.ds) rfl ?_;(conv=>whnf);refine aG.freeze 42 2 1 (w.clocks.map eI) rfl ?_;(conv=>whnf);refine aG.freeze 43 4 1 (w.up.map eB) rfl ?_;(conv=>whnf);refine TF c2 [(41,41),(42,42),(43,43)] w (λ_=>rfl) rfl trivial λz hz=>?_;conv=>whnf)|fail)
    all_goals exact⟨(z,true),hz,rfl,rfl,rfl,rfl,rfl,trivial⟩
def DStep.dsW(x:DStep):List AD:=[dI x.kind,dI x.a,dI x.b,dI x.c,.sl (x.fates.map eI)]
theorem B5(w:DWorld)(s:DStep)(hw:bz w=true):de av 92 [.agg (w.ds.map .d),.agg (s.dsW.map .d)] [] WBQ [41,42,43] wbO [] wbR:=by
  have hs:=bp hw;have f:=qQ hw;obtain⟨kd,a,b,c,fs⟩:=s;by_cases h3:kd=3
  · subst h3;cases ht:By w.clocks a b with
    |false=>
      have c1:=Mu w.clocks a b f.clocks ht;refine aT aL func92 rfl call92 ntmps92 (WA results92) (λ_=>rfl) rfl (λ_=>rfl) λS pv=>?_;conv=>whnf
      repeat'((first|refine awz ?_|refine TA (aU w hs) [(41,41),(42,42),(28,43)] rfl rfl ?_|refine cP (c1) ?_|fail)<;>conv=>whnf)
      all_goals exact⟨(w,false),hw,rfl,rfl,rfl,rfl,rfl,trivial⟩
    |true=>
      obtain⟨k,rfl⟩:∃k:Nat,a=(k:Int):=by
        simp only[By,aI,Bool.and_eq_true,decide_eq_true_eq]at ht;exact⟨a.toNat,ac⟩
      have c1:=Mt w.clocks k b f.clocks ht;have ok:cK (w.clocks.set k (w.clocks.getD k 0+b))=true:=vC f.clocks (by
        simp only[By,tOk,aI,Bool.and_eq_true,decide_eq_true_eq,Int.toNat_natCast]at ht;have hg:0<=w.clocks.getD k 0:=by
          rw[List.getD_eq_getElem?_getD];cases e:w.clocks[k]? with
          |none=>simp
          |some x=>exact((j6 f.clocks).2 x (List.mem_of_getElem? e)).1
        simp only[tOk,aI,Bool.and_eq_true,decide_eq_true_eq];omega)
      refine aT aL func92 rfl call92 ntmps92 (WA results92) (λ_=>rfl) rfl (λ_=>rfl) λS pv=>?_;conv=>whnf
      repeat'((first|refine awz ?_|refine TA (aU w hs) [(41,41),(42,42),(28,43)] rfl rfl ?_|refine TA c1 [(42,42)] rfl rfl ?_|fail)<;>conv=>whnf)
      all_goals exact⟨({w with clocks:=w.clocks.set k (w.clocks.getD k 0+b)},true),(f.withClocks ok).ok,rfl,rfl,rfl,rfl,rfl,trivial⟩
  · have e3:(kd==3)=false:=by simpa using h3
    by_cases h4:kd=4
    · subst h4;cases ht:Ac a b with
      |false=>
        have c1:=Mi w.clocks a b f.clocks ht;refine aT aL func92 rfl call92 ntmps92 (WA results92) (λ_=>rfl) rfl (λ_=>rfl) λS pv=>?_;conv=>whnf
        repeat'((first|refine awz ?_|refine TA (aU w hs) [(41,41),(42,42),(28,43)] rfl rfl ?_|refine cP (c1) ?_|fail)<;>conv=>whnf)
        all_goals exact⟨(w,false),hw,rfl,rfl,rfl,rfl,rfl,trivial⟩
      |true=>
        obtain⟨k,rfl⟩:∃k:Nat,a=(k:Int):=by
          simp only[Ac,aI,Bool.and_eq_true,decide_eq_true_eq]at ht;exact⟨a.toNat,ac⟩
        have c1:=Mh w.clocks k b f.clocks ht;have ok:cK (w.clocks.set k b)=true:=vC f.clocks (by simp only[Ac,Bool.and_eq_true]at ht;exact ht.2);refine aT aL func92 rfl call92 ntmps92 (WA results92) (λ_=>rfl) rfl (λ_=>rfl) λS pv=>?_;conv=>whnf
        repeat'((first|refine awz ?_|refine TA (aU w hs) [(41,41),(42,42),(28,43)] rfl rfl ?_|refine TA c1 [(42,42)] rfl rfl ?_|fail)<;>conv=>whnf)
        all_goals exact⟨({w with clocks:=w.clocks.set k b},true),(f.withClocks ok).ok,rfl,rfl,rfl,rfl,rfl,trivial⟩
    · have e4:(kd==4)=false:=by simpa using h4
      have there:aI a 0 ((w.net.flight.length:Int)-1)=true->∃k:Nat,a=(k:Int)/\k<w.net.flight.length:=λh=>by
        simp only[aI,Bool.and_eq_true,decide_eq_true_eq]at h;exact⟨a.toNat,ac,ac⟩
      by_cases h7:kd=7
      · subst h7;cases hb:aI a 0 ((w.net.flight.length:Int)-1)with
        |false=>
          have c1:=O3 w.net a f.net hb;refine aT aL func92 rfl call92 ntmps92 (WA results92) (λ_=>rfl) rfl (λ_=>rfl) λS pv=>?_;conv=>whnf
          repeat'((first|refine awz ?_|refine TA (aU w hs) [(41,41),(42,42),(28,43)] rfl rfl ?_|refine cP (c1) ?_|fail)<;>conv=>whnf)
          all_goals exact⟨(w,false),hw,rfl,rfl,rfl,rfl,rfl,trivial⟩
        |true=>
          obtain⟨k,rfl,hk⟩:=there hb;have c1:=O2 w.net k f.net hk;refine aT aL func92 rfl call92 ntmps92 (WA results92) (λ_=>rfl) rfl (λ_=>rfl) λS pv=>?_;conv=>whnf
          repeat'((first|refine awz ?_|refine TA (aU w hs) [(41,41),(42,42),(28,43)] rfl rfl ?_|refine TA c1 [(41,41)] rfl rfl ?_|fail)<;>conv=>whnf)
          all_goals exact⟨({w with net:=Ky w.net k},true),(f.withNet (ND f.net k)).ok,rfl,rfl,rfl,rfl,rfl,trivial⟩
      · have e7:(kd==7)=false:=by simpa using h7
        by_cases h8:kd=8
        · subst h8;cases hb:aI a 0 ((w.net.flight.length:Int)-1)with
          |false=>
            have c1:=I6 w.net a f.net hb;refine aT aL func92 rfl call92 ntmps92 (WA results92) (λ_=>rfl) rfl (λ_=>rfl) λS pv=>?_;conv=>whnf
            repeat'((first|refine awz ?_|refine TA (aU w hs) [(41,41),(42,42),(28,43)] rfl rfl ?_|refine cP (c1) ?_|fail)<;>conv=>whnf)
            all_goals exact⟨(w,false),hw,rfl,rfl,rfl,rfl,rfl,trivial⟩
          |true=>
            obtain⟨k,rfl,hk⟩:=there hb;by_cases h60:w.net.flight.length=60
            · have c1:=I4 w.net k f.net hk h60;refine aT aL func92 rfl call92 ntmps92 (WA results92) (λ_=>rfl) rfl (λ_=>rfl) λS pv=>?_;conv=>whnf
              repeat'((first|refine awz ?_|refine TA (aU w hs) [(41,41),(42,42),(28,43)] rfl rfl ?_|refine cP (c1) ?_|fail)<;>conv=>whnf)
              all_goals exact⟨(w,false),hw,rfl,rfl,rfl,rfl,rfl,trivial⟩
            · have c1:=I5 w.net k f.net hk h60;have hm:=(cI f.net).2.2.1 _ (List.getElem_mem hk);refine aT aL func92 rfl call92 ntmps92 (WA results92) (λ_=>rfl) rfl (λ_=>rfl) λS pv=>?_;conv=>whnf
              repeat'((first|refine awz ?_|refine TA (aU w hs) [(41,41),(42,42),(28,43)] rfl rfl ?_|refine TA c1 [(41,41)] rfl rfl ?_|fail)<;>conv=>whnf)
              all_goals exact⟨({w with net:=QB w.net k hk},true),(f.withNet (IR f.net hm h60)).ok,rfl,rfl,rfl,rfl,rfl,trivial⟩
        · have e8:(kd==8)=false:=by simpa using h8
          have c1:=L8 w.net a b f.net;have c2:=Mf w.net a b f.net;refine aT aL func92 rfl call92 ntmps92 (WA results92) (λ_=>rfl) rfl (λ_=>rfl) λS pv=>?_;conv=>whnf
          repeat'((first|refine awz ?_|refine TA (aU w hs) [(41,41),(42,42),(28,43)] rfl rfl ?_|(refine TF c1 [(41,41)] (w.net,false) (λ_=>rfl) rfl trivial λy hy=>?_;obtain⟨n,bb⟩:=y)|(refine TF c2 [(41,41)] (w.net,false) (λ_=>rfl) rfl trivial λy hy=>?_;obtain⟨n,bb⟩:=y)|refine tW ?_ ?_|intro h)<;>conv=>whnf)
          all_goals first
            |exact⟨(w,false),hw,rfl,rfl,rfl,rfl,rfl,trivial⟩
            |exact⟨({w with net:=n},true),(f.withNet hy).ok,rfl,rfl,rfl,rfl,rfl,trivial⟩
theorem Hr(l:List Int)(hl:l.length<=1000):bq av 114 [.one (.sl (l.map eI))] (λ_:Bool=>True) (λb=>rB b):=by
  refine aO aL func114 rfl call114 ntmps114 (WA results114) λS=>?_;conv=>whnf
  repeat'(first|refine awz ?_|refine tW ?_ ?_|(intro h;conv=>whnf))
  · exact⟨false,trivial,rfl⟩
  · refine TE (λk:Nat=>k<=l.length) (2::3::rg 7 12) (λk=>[(3,vI .i64 (k:Int))]) (λk=>[]) (λk=>l.length-k) 0 (Nat.zero_le _) ?_ Tx (λk hk=>?_)<;>(conv=>whnf)
    · exact whd
    · by_cases hlt:k<l.length
      · have hc:decide ((k:Int)<((l.map eI).length:Int))=true:=al;repeat'((first|refine awz ?_|refine TJ hlt ?_|refine cP (aN l[k] 0 2) ?_|refine Tz ac ac ?_|refine tW ?_ ?_|intro h)<;>conv=>whnf)
        all_goals first
          |exact⟨false,trivial,rfl⟩
          | (refine aW.mk ⟨k + 1, hlt,ac, ?_, Tx⟩
             exact hds)
      · have e:k=l.length:=ac;subst e;have hc:decide ((l.length:Int)<((l.map eI).length:Int))=false:=ai;repeat'(first|refine awz ?_|fail)
        all_goals exact⟨true,trivial,rfl⟩
theorem Mr(s:DStep)(hl:s.fates.length<=1000):bq av 86 [.agg s.dsW] (λ_:Bool=>True) (λb=>rB b):=by
  refine aO aL func86 rfl call86 ntmps86 (WA results86) λS=>?_;conv=>whnf
  repeat'((first|refine awz ?_|refine cP (aN _ _ _) ?_|refine cP (Bq _) ?_|refine cP (bP _) ?_|refine aG.q (Hr s.fates hl) rfl λy _=>?_|exact rZ|refine tW ?_ ?_|intro h)<;>conv=>whnf)
  all_goals exact⟨(_:Bool),trivial,rfl⟩
theorem N0(w:DWorld)(s:DStep)(hw:bz w=true)(hk:s.kind≠11)(hl:s.fates.length<=1000):de av 64 [.agg (w.ds.map .d),.agg (s.dsW.map .d)] [] WBQ [41,42,43] wbO [] wbR:=by
  have hs:=bp hw;have wo:=cJ w hs;rw[hw]at wo;have e11:(s.kind==11)=false:=by simpa using hk
  have c1:=JP w s.a hw;have c2:=Hh w s.a hw;have c3:=GP w s.a s.fates hw ac;have c4:=Jr w s.a hw;have c5:=B5 w s hw;refine aT aL func64 rfl call64 ntmps64 (WA results64) (λ_=>rfl) rfl (λ_=>rfl) λS pv=>?_;conv=>whnf
  repeat'((first|refine awz ?_|refine cP (wo) ?_|refine Tv e11 ?_|refine Tw ah ?_|refine Tv ah ?_|refine TA (aU w hs) [(41,41),(42,42),(28,43)] rfl rfl ?_|refine aG.q (Mr s hl) rfl λy _=>?_|refine TF c2 [(41,41),(42,42),(43,43)] w (λ_=>rfl) rfl trivial λz hz=>?_|(refine TF c1 [(41,41),(42,42),(43,43)] (w,false) (λ_=>rfl) rfl trivial λv hv=>?_;obtain⟨v,vb⟩:=v)|(refine TF c3 [(41,41),(42,42),(43,43)] (w,false) (λ_=>rfl) rfl trivial λv hv=>?_;obtain⟨v,vb⟩:=v)|(refine TF c4 [(41,41),(42,42),(43,43)] (w,false) (λ_=>rfl) rfl trivial λv hv=>?_;obtain⟨v,vb⟩:=v)|(refine TF c5 [(41,41),(42,42),(43,43)] (w,false) (λ_=>rfl) rfl trivial λv hv=>?_;obtain⟨v,vb⟩:=v)|exact rZ|refine tW ?_ ?_|intro h)<;>conv=>whnf)
  all_goals first
    |exact⟨(w,false),hw,rfl,rfl,rfl,rfl,rfl,trivial⟩
    |exact⟨(z,true),hz,rfl,rfl,rfl,rfl,rfl,trivial⟩
    |exact⟨(v,vb),hv,rfl,rfl,rfl,rfl,rfl,trivial⟩
def gp:List (List Nat):=a8 [0,0,65,50860226]
theorem Hi(s n:Int)(h:gx s)(hn:1<=n/\n<=1000000000):bq av 84 [.agg [dI s],pI n] (λy:Int×Int=>gx y.1/\0<=y.2/\y.2<n) (λy=> .tup [.agg [dI y.1],.one (dI y.2)]):=
 (Bf s n h hn).q (uh s,(uh s).tmod n) ⟨v6 h,Oe (v6 h).1 ac⟩ rfl
theorem Mp(s:Int)(h:gx s):bq av 113 [.agg [dI s],pI 12,pI 3] (λy:Int×List Int=>gx y.1/\y.2.length<=12) (λy=> .tup [.agg [dI y.1],.one (.sl (y.2.map eI))]):=
 (Mo s h).q (x7 s 12,jM s 12) ⟨v7 h 12,by simp[jM]⟩ rfl
structure Pp (y:Int×DStep):Prop where
 dice:gx y.1
 kind:y.2.kind≠11
 fates:y.2.fates.length<=12
theorem JQ(w:DWorld)(d k:Int)(hw:bz w=true)(hd:gx d):bq av 85 [.agg w.ds,.agg [dI d],pI k] Pp (λy=> .tup [.agg [dI y.1],.agg y.2.dsW]):=by
 have f:=qQ hw;have hf:=(cI f.net).1;have h6:=f.ul;refine aO aL func85 rfl call85 ntmps85 (WA results85) λS=>?_;conv=>whnf
 repeat'(first|refine awz ?_|((first|refine Tz aj aj ?_|(refine aG.q (Hi _ _ am (by first|omega|(simp only[List.length_map];omega))) rfl λy hy=>?_;obtain⟨hd,hy0,hy1⟩:=hy)|refine Ty y.2.toNat (eB (dy w y.2.toNat)) ac (gZ h6 ac) ?_|(refine aG.q (Mp _ am) rfl λz hz=>?_;obtain⟨hd,hz1⟩:=hz)|fail)<;>conv=>whnf)|(refine TD aL 27 (.take 0 (.take 1 (.one 2 (.one 3 .done)))) [(4,9980),(8,9981)] gp ae ae ae ae (λRz=>?_);(conv=>whnf);intro bp0 up0;(conv=>whnf);intro bp1 up1;(conv=>whnf))|exact rZ|refine tW ?_ ?_|(intro h;conv=>whnf))
 all_goals first
  |exact⟨(_,⟨_,_,_,_,[]⟩),⟨by assumption,by simp,by simp⟩,rfl⟩
  |exact⟨(_,⟨_,_,_,_,z.2⟩),⟨by assumption,by simp,hz1⟩,rfl⟩
theorem Mq(w:DWorld)(d:Int)(hw:bz w=true)(hd:gx d):bq av 63 [.agg w.ds,.agg [dI d]] Pp (λy=> .tup [.agg [dI y.1],.agg y.2.dsW]):=by
 have hs:=bp hw;have f:=qQ hw;have hf:=(cI f.net).1;have wo:=cJ w hs;rw[hw]at wo;refine aO aL func63 rfl call63 ntmps63 (WA results63) λS=>?_;conv=>whnf
 repeat'(first|refine awz ?_|((first|refine cP (wo) ?_|refine cP (gh hd) ?_|refine Tw ah ?_|refine Tv ah ?_|refine Tz aj aj ?_|refine Tz ac ac ?_|(refine aG.q (Hi _ _ am (by first|omega|(simp only[List.length_map];omega))) rfl λy hy=>?_;obtain⟨hd,hy0,hy1⟩:=hy)|refine aG.q (JQ w _ _ hw am) rfl λz hz=>?_|fail)<;>conv=>whnf)|(refine TD aL 19 (.take 0 (.take 1 (.one 2 (.one 3 .done)))) [(3,9980),(6,9981)] gp ae ae ae ae (λRz=>?_);(conv=>whnf);intro bp0 up0;(conv=>whnf);intro bp1 up1;(conv=>whnf))|exact rZ|refine tW ?_ ?_|(intro h;conv=>whnf))
 all_goals first
  |exact⟨(_,⟨_,_,_,_,[]⟩),⟨by assumption,by simp,by simp⟩,rfl⟩
  |exact⟨z,hz,rfl⟩
def PD(y:List DStep×DWorld):Prop:=bz y.2=true/\y.1.length<=600/\∀s∈y.1,s.fates.length<=12
abbrev stO(y:List DStep×DWorld):List (Nat×AO):=wO y.2
abbrev stR(y:List DStep×DWorld):AR:= .tup [.one (.d (.sl (y.1.map DStep.dsW))),.agg y.2.own]
theorem uW(w:DWorld)(d:Int)(m:Nat)(hw:bz w=true)(hd:gx d)(hm:m<=600):de av 32 [.agg (w.ds.map .d),.agg [.d (dI d)],.one (.d (dI (m:Int)))] [] PD [41,42,43] stO [] stR:=by
 have hs:=bp hw;have wo:=cJ w hs;rw[hw]at wo;have l1:=aN (m:Int) 0 600;rw[show aI (m:Int) 0 600=true from kW ac]at l1;refine aT aL func32 rfl call32 ntmps32 (WA results32) (λ_=>rfl) rfl (λ_=>rfl) λS pv=>?_;conv=>whnf
 repeat'((first|refine awz ?_|refine cP (wo) ?_|refine cP (gh hd) ?_|refine cP (l1) ?_|refine Tw ah ?_|refine Tv ah ?_|refine TA (aU w hs) [(41,41),(42,42),(28,43)] rfl rfl ?_|exact rZ|refine tW ?_ ?_|intro h)<;>conv=>whnf)
 refine TE (λg:List DStep×DWorld×Int=>g.1.length<=m/\bz g.2.1=true/\gx g.2.2/\∀s∈g.1,s.fates.length<=12) (27::29::[8,10,11,30,31,32,33,34,35,36,37,38,39,40,41,42,43,44,45,46,47,48,49,50]) (λg=>[(8,.one (.own 27))]) (λg=>[(9999,.frame (cE []) pv),(3,.cells 78 (w.ds.map .d)),(4,.cells 102 [.d (dI g.2.2)]),(7,.cells 78 (uN.ds.map λd=>match d with| .pv v=> .d (.pv v)|_=> .nil)),(9,.cells 78 (DWorld.own g.2.1)),(27,.row 32 5 (g.1.map DStep.dsW))]++wO g.2.1) (λg=>m-g.1.length) ([],w,d) ⟨Nat.zero_le _,hw,hd,by simp⟩ ?_ sbW (λg hg=>?_)<;>(conv=>whnf)
 ·exact whd
 ·obtain⟨l,x,e⟩:=g;obtain⟨hl,hx,he,hfs⟩:=hg;simp only at hl hx he hfs;by_cases hlt:l.length<m
  ·have hc:decide (((l.map DStep.dsW).length:Int)<(m:Int))=true:=al;have c1:=Mq x e hx he;repeat'(first|((first|refine awz ?_|refine Tw hc ?_|fail)<;>conv=>whnf)|(refine aG.freeze 41 120 3 (x.net.flight.map DMsg.ds) rfl ?_;(conv=>whnf);refine aG.freeze 42 2 1 (x.clocks.map eI) rfl ?_;(conv=>whnf);refine aG.freeze 43 4 1 (x.up.map eB) rfl ?_;(conv=>whnf);refine aG.q c1 rfl λy hy=>?_;obtain⟨e2,sp⟩:=y;conv=>whnf)|((first|refine aP (by first|(intro y hy;obtain⟨a,_,rfl⟩:=List.mem_map.1 hy;rfl)|(simp;done)) ?_|refine aQ ak ?_|(refine TF (N0 x sp hx hy.kind (Nat.le_trans hy.fates ah)) [(41,41),(42,42),(43,43)] (w,false) (λ_=>rfl) rfl trivial λv hv=>?_;obtain⟨v,vb⟩:=v)|exact rZ|refine tW ?_ ?_|intro h)<;>conv=>whnf))
   all_goals
    refine aW.mk ⟨(l++[sp],v,e2),⟨by simp;omega,hv,hy.dice,λs hs=>?_⟩,by simp;omega,?_,Tu rfl (Tu rfl (Tu rfl (Tu rfl (Tu rfl (Tu (by rw[List.map_append];rfl) sbW)))))⟩
    ·rcases List.mem_append.1 hs with hs|hs
     ·exact hfs s hs
     ·rw[List.mem_singleton.1 hs];exact hy.fates
    ·exact hds
  ·have hc:decide (((l.map DStep.dsW).length:Int)<(m:Int))=false:=al;repeat'(first|refine awz ?_|(refine Tv hc ?_;conv=>whnf)|(refine TD aL 10 (tkc [0,1,2] (.one 3 .done)) [(9,9980)] gp ae ae ae ae (λRz=>?_);(conv=>whnf);intro bp0 up0;(conv=>whnf))|exact rZ|refine tW ?_ ?_|(intro h;conv=>whnf))
   all_goals exact⟨(l,x),⟨hx,by simp only;omega,hfs⟩,rfl,rfl,rfl,rfl,rfl,trivial⟩
end Go.Proofs.YtlmoekpinpafeaaGreat
