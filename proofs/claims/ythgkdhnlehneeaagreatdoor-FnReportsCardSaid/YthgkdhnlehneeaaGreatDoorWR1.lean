/- WR1 -/
import Derived.Test.YthgkdhnlehneeaaGreatDoorAvFX
import Derived.Test.YthgkdhnlehneeaaGreatDoorText1
import Derived.Test.YthgkdhnlehneeaaGreatDoorAvTR
import Derived.Test.YthgkdhnlehneeaaGreatDoorAwx
import Derived.Test.YthgkdhnlehneeaaGreatDoorRA3
import Derived.Test.YthgkdhnlehneeaaGreatDoorRA2
import Derived.Test.YthgkdhnlehneeaaGreatDoorWC2
set_option maxHeartbeats 8000000
set_option linter.unusedVariables false
set_option linter.unusedSimpArgs false
set_option maxRecDepth 100000
open List (length_append length_cons length_nil mem_cons not_mem_nil)
open Bool (and_eq_true)
namespace Go.Proofs.YthgkdhnlehneeaaGreatDoor
open Go.Proofs.Tryz
open Go.ChangeShapes Go.WideShapes Go.RowKit
def pY:List (List Nat):=bC [0,1,129,0,4,324,0,7,0,9,649,0,12,221274373,0xc10861052072c928e30d,0xf34c38a24b1c8144182043]
def qd:List (List Nat):=dW 14 [4782942,4782943,4782946,1593620,1593647,1593728,4777136,4777865,4612382,4618943,4638626,177146,354293,885383]
theorem IF(b:bn)(h:bN b=true):aN av 100 [.agg b.ds] (.val (pI (bg b))):=by
 have hn:(!bN b)=false:=by rw[h];rfl
 refine pO func100 call100 ntmps100 results100 λS=>?_;conv=>whnf
 repeat'((first|refine awz ?_|refine cP (fz b) ?_|refine cP (dV b h) ?_|exact rr|fail)<;>conv=>whnf)
theorem Qd(n:aS):aN av 40 [.agg n.ds] (.val (pI (n.book.base))):=by
 refine pO func40 call40 ntmps40 results40 λS=>?_;conv=>whnf
 repeat'(first|refine awz ?_|exact rr|fail)
 all_goals simp
theorem Qf(n:aS):aN av 43 [.agg n.ds] (.val (pI (n.durable))):=by
 refine pO func43 call43 ntmps43 results43 λS=>?_;conv=>whnf
 repeat'(first|refine awz ?_|exact rr|fail)
 all_goals simp
theorem Qg(n:aS):aN av 44 [.agg n.ds] (.val (pI (n.owe.length))):=by
 refine pO func44 call44 ntmps44 results44 λS=>?_;conv=>whnf
 repeat'(first|refine awz ?_|fail)
 all_goals simp
theorem Qh(n:aS):aN av 45 [.agg n.ds] (.val (pI (JE n.more))):=by
 refine pO func45 call45 ntmps45 results45 λS=>?_;conv=>whnf
 repeat'(first|refine awz ?_|(refine cP (jE _) ?_;conv=>whnf)|exact rr|fail)
 all_goals simp
theorem Qe(n:aS)(h:bN n.book=true):aN av 41 [.agg n.ds] (.val (pI (bg n.book))):=by
 refine pO func41 call41 ntmps41 results41 λS=>?_;conv=>whnf
 repeat'(first|refine awz ?_|(refine cP (nr n.book h) ?_;conv=>whnf)|exact rr|fail)
def GO(n:aS):List Int:=[n.book.base,bg n.book,n.durable,n.owe.length,JE n.more]
theorem MA(n:aS)(h:bN n.book=true):jt av 39 [.agg n.ds,.one (.sl [pF 40,pF 41,pF 43,pF 44,pF 45])] (.one (.sl ((GO n).map eI))):=by
 refine ew aM func39 rfl call39 ntmps39 (ace results39) λS=>?_;conv=>whnf
 repeat'(first|refine awz ?_|fail)
 refine aaZ 6 ?_;conv=>whnf
 repeat'((first|refine awz ?_|refine aaG 0 _ rfl rfl ?_|refine aaG 1 _ rfl rfl ?_|refine aaG 2 _ rfl rfl ?_|refine aaG 3 _ rfl rfl ?_|refine aaG 4 _ rfl rfl ?_|refine cP (Qd n) ?_|refine cP (Qe n h) ?_|refine cP (Qf n) ?_|refine cP (Qg n) ?_|refine cP (Qh n) ?_|refine aaH ai ai ?_|refine And.intro ah ?_|fail)<;>conv=>whnf)
 exact⟨_,_,(GO n).map eI,Nat.le_refl _,aaU (lo:=S.w0.heap.size) (hi:=S.w0.heap.size) rfl,rfl,(λy hy=>by obtain⟨a,_,rfl⟩:=List.mem_map.1 hy;rfl),rfl⟩
def bM(w:aP):List Int:=if aZ w&&cq w 0 then GO w.log else []
theorem Fi{w:aP}(h:aZ w=true)(h0:cq w 0=true):bN w.log.book=true:=by
 have:=Jd h h0;rw[nS]at this;simp only[Bool.and_eq_true]at this;exact(J0 this.1.1.1).2.2.1
theorem rE(w:aP)(hs:aaN 1048576 w):jt av 12 [.agg w.ds] (.one (.sl ((bM w).map eI))):=by
 cases h:(aZ w&&cq w 0)with
 |false=>
  have hn:(!(aZ w&&cq w 0))=true:=by rw[h];rfl
  have e:bM w=[]:=by simp[bM,h]
  rw[e];refine ew aM func12 rfl call12 ntmps12 (ace results12) λS=>?_;conv=>whnf
  repeat'(first|refine awz ?_|(refine cP (eX w 0 ai hs) ?_;conv=>whnf)|fail)
  all_goals rfl
 |true=>
  have hn:(!(aZ w&&cq w 0))=false:=by rw[h];rfl
  have e:bM w=GO w.log:=by simp[bM,h]
  rw[e];rw[Bool.and_eq_true]at h;have hb:=Fi h.1 h.2;refine ew aM func12 rfl call12 ntmps12 (ace results12) λS=>?_;conv=>whnf
  repeat'(first|refine awz ?_|(refine cP (eX w 0 ai hs) ?_;conv=>whnf)|fail)
  refine aaS (MA w.log hb) rfl rfl λR lo hi a b F=>?_;conv=>whnf
  repeat'(first|refine awz ?_|fail)
  exact⟨lo,hi,_,a,F,rfl⟩
theorem As(w:aP)(hs:aaN 1048576 w):aN av 31 [.agg w.ds] (.val (.one (.sl ((bM w).map eI)))):=by
 cases hw:aZ w with
 |false=>
  have hn:(!aZ w)=true:=by rw[hw];rfl
  have e:bM w=[]:=by simp[bM,hw]
  rw[e];refine pO func31 call31 ntmps31 results31 λS=>?_;conv=>whnf
  repeat'(first|refine awz ?_|(refine cP (bd w hs) ?_;conv=>whnf)|fail)
  all_goals rfl
 |true=>
  have hn:(!aZ w)=false:=by rw[hw];rfl
  have h6:=A2 hw;cases hu:cq w 0 with
  |false=>
   have hn2:(!cq w 0)=true:=by rw[hu];rfl
   have e:bM w=[]:=by simp[bM,hu]
   rw[e];refine pO func31 call31 ntmps31 results31 λS=>?_;conv=>whnf
   repeat'((first|refine awz ?_|refine cP (bd w hs) ?_|refine aaG 0 _ rfl (e9 h6 ai) ?_|fail)<;>conv=>whnf)
   all_goals rfl
  |true=>
   have hn2:(!cq w 0)=false:=by rw[hu];rfl
   have hb:=Fi hw hu;have e:bM w=GO w.log:=by simp[bM,hw,hu]
   rw[e];refine pO func31 call31 ntmps31 results31 λS=>?_;conv=>whnf
   repeat'((first|refine awz ?_|refine cP (bd w hs) ?_|refine aaG 0 _ rfl (e9 h6 ai) ?_|fail)<;>conv=>whnf)
   (refine aaJ aM 4 14 pY qd ae ae ae rfl ?_;conv=>whnf)
   repeat'((first|refine awz ?_|refine cP (IF w.log.book hb) ?_|refine cP (nx _) ?_|fail)<;>conv=>whnf)
   all_goals(simp only[List.length_map];rfl)
def jv:List (List Nat):=bC [0,1,0,3,259,0,6,454,33159,0,10,0x20450c42471882ca,0x30a2c81872440c5042]
def jw:List (List Nat):=dW 11 [177138,177139,176912,176921,176948,157706,157949,158678,160865,19682,39365]
theorem LM(b o:Nat)(w:World):Calls av.P 108 #[.pointer (some ⟨b,o,none⟩)] w λe w'=>e= .returned (.pointer (some ⟨b,o+31,none⟩))/\w'=w:=by
 show Calls Tryz.prog 108 _ w _;go_enter Tryz.func108,Tryz.ntmps108
 go_wp2
 go_ret
 exact⟨rfl,rfl⟩
theorem LN(b o:Nat)(w:World):Calls av.P 109 #[.pointer (some ⟨b,o,none⟩)] w λe w'=>e= .returned (.pointer (some ⟨b,o+46,none⟩))/\w'=w:=by
 show Calls Tryz.prog 109 _ w _;go_enter Tryz.func109,Tryz.ntmps109
 go_wp2
 go_ret
 exact⟨rfl,rfl⟩
theorem Cl:aN av 60 [pI 2] (.val (.one (.pv (.func (.func 108) #[] #[])))):=by
 refine pO func60 call60 ntmps60 results60 λS=>?_;conv=>whnf
 repeat'(first|refine awz ?_|exact rr|fail)
theorem Cm:aN av 60 [pI 3] (.val (.one (.pv (.func (.func 109) #[] #[])))):=by
 refine pO func60 call60 ntmps60 results60 λS=>?_;conv=>whnf
 repeat'(first|refine awz ?_|exact rr|fail)
theorem Qi(s:cr):aN av 61 [.agg s.ds] (.val (pI (s.seq))):=by
 refine pO func61 call61 ntmps61 results61 λS=>?_;conv=>whnf
 repeat'(first|refine awz ?_|exact rr|fail)
theorem Qj(s:cr):aN av 62 [.agg s.ds] (.val (pI (JE s.busy))):=by
 refine pO func62 call62 ntmps62 results62 λS=>?_;conv=>whnf
 repeat'(first|refine awz ?_|(refine cP (jE _) ?_;conv=>whnf)|exact rr|fail)
theorem Qk(s:cr):aN av 63 [.agg s.ds] (.val (pI (s.view.jobs.index))):=by
 refine pO func63 call63 ntmps63 results63 λS=>?_;conv=>whnf
 repeat'(first|refine awz ?_|exact rr|fail)
theorem Ql(s:cr):aN av 64 [.agg s.ds] (.val (pI (s.index))):=by
 refine pO func64 call64 ntmps64 results64 λS=>?_;conv=>whnf
 repeat'(first|refine awz ?_|exact rr|fail)
def ke(s:cr):List Int:=[s.seq,JE s.busy,s.view.jobs.index,s.index]
theorem yj(s:cr):jt av 59 [.agg s.ds,.one (.sl [pF 61,pF 62,pF 63,pF 64])] (.one (.sl ((ke s).map eI))):=by
 refine ew aM func59 rfl call59 ntmps59 (ace results59) λS=>?_;conv=>whnf
 repeat'(first|refine awz ?_|fail)
 refine aaZ 5 ?_;conv=>whnf
 repeat'((first|refine awz ?_|refine aaG 0 _ rfl rfl ?_|refine aaG 1 _ rfl rfl ?_|refine aaG 2 _ rfl rfl ?_|refine aaG 3 _ rfl rfl ?_|refine cP (Qi s) ?_|refine cP (Qj s) ?_|refine cP (Qk s) ?_|refine cP (Ql s) ?_|refine aaH ai ai ?_|refine And.intro ah ?_|fail)<;>conv=>whnf)
 exact⟨_,_,(ke s).map eI,Nat.le_refl _,aaU (lo:=S.w0.heap.size) (hi:=S.w0.heap.size) rfl,rfl,(λy hy=>by obtain⟨a,_,rfl⟩:=List.mem_map.1 hy;rfl),rfl⟩
def aY(w:aP)(n:Int):List Int:=if n=2 then(if aZ w&&cq w 2 then ke w.left else [])else if n=3 then(if aZ w&&cq w 3 then ke w.right else [])else []
theorem F6{n:Int}(h2:n≠2)(h3:n≠3):ft n=false:=by simp[ft,h2,h3]
theorem g6(w:aP)(n:Int)(hs:aaN 1048576 w):jt av 14 [.agg w.ds,pI n] (.one (.sl ((aY w n).map eI))):=by
 by_cases h2:n=2
 ·subst h2;cases h:(aZ w&&cq w 2)with
  |false=>
   have hn:(!(aZ w&&cq w 2))=true:=by rw[h];rfl
   have e:aY w 2=[]:=by simp[aY,h]
   rw[e];refine ew aM func14 rfl call14 ntmps14 (ace results14) λS=>?_;conv=>whnf
   repeat'((first|refine awz ?_|refine cP (cO 2) ?_|refine cP (eX w 2 ai hs) ?_|fail)<;>conv=>whnf)
   all_goals rfl
  |true=>
   have hn:(!(aZ w&&cq w 2))=false:=by rw[h];rfl
   have e:aY w 2=ke w.left:=by simp[aY,h]
   rw[e];refine ew aM func14 rfl call14 ntmps14 (ace results14) λS=>?_;conv=>whnf
   repeat'((first|refine awz ?_|refine cP (cO 2) ?_|refine cP (eX w 2 ai hs) ?_|refine cP (Cl) ?_|refine abc 31 call108 LM ?_|fail)<;>conv=>whnf)
   refine aaS (yj w.left) rfl rfl λR lo hi a b F=>?_;conv=>whnf
   repeat'(first|refine awz ?_|fail)
   exact⟨lo,hi,_,a,F,rfl⟩
 ·by_cases h3:n=3
  ·subst h3;cases h:(aZ w&&cq w 3)with
   |false=>
    have hn:(!(aZ w&&cq w 3))=true:=by rw[h];rfl
    have e:aY w 3=[]:=by simp[aY,h]
    rw[e];refine ew aM func14 rfl call14 ntmps14 (ace results14) λS=>?_;conv=>whnf
    repeat'((first|refine awz ?_|refine cP (cO 3) ?_|refine cP (eX w 3 ai hs) ?_|fail)<;>conv=>whnf)
    all_goals rfl
   |true=>
    have hn:(!(aZ w&&cq w 3))=false:=by rw[h];rfl
    have e:aY w 3=ke w.right:=by simp[aY,h]
    rw[e];refine ew aM func14 rfl call14 ntmps14 (ace results14) λS=>?_;conv=>whnf
    repeat'((first|refine awz ?_|refine cP (cO 3) ?_|refine cP (eX w 3 ai hs) ?_|refine cP (Cm) ?_|refine abc 46 call109 LN ?_|fail)<;>conv=>whnf)
    refine aaS (yj w.right) rfl rfl λR lo hi a b F=>?_;conv=>whnf
    repeat'(first|refine awz ?_|fail)
    exact⟨lo,hi,_,a,F,rfl⟩
  ·have hn:(!ft n)=true:=by rw[F6 h2 h3];rfl
   have e:aY w n=[]:=by simp[aY,h2,h3]
   rw[e];refine ew aM func14 rfl call14 ntmps14 (ace results14) λS=>?_;conv=>whnf
   repeat'(first|refine awz ?_|(refine cP (cO n) ?_;conv=>whnf)|fail)
   all_goals rfl
theorem lk(w:aP)(n:Int)(hs:aaN 1048576 w):aN av 33 [.agg w.ds,pI n] (.val (.one (.sl ((aY w n).map eI)))):=by
 by_cases h2:n=2
 ·subst h2;cases h:(aZ w&&cq w 2)with
  |false=>
   have hn:(!(aZ w&&cq w 2))=true:=by rw[h];rfl
   have e:aY w 2=[]:=by simp[aY,h]
   rw[e];refine pO func33 call33 ntmps33 results33 λS=>?_;conv=>whnf
   repeat'((first|refine awz ?_|refine cP (dp 2) ?_|refine cP (oT w 2 ai hs) ?_|fail)<;>conv=>whnf)
   all_goals rfl
  |true=>
   have hn:(!(aZ w&&cq w 2))=false:=by rw[h];rfl
   have e:aY w 2=ke w.left:=by simp[aY,h]
   rw[e];refine pO func33 call33 ntmps33 results33 λS=>?_;conv=>whnf
   repeat'((first|refine awz ?_|refine cP (dp 2) ?_|refine cP (oT w 2 ai hs) ?_|fail)<;>conv=>whnf)
   (refine aaJ aM 6 11 jv jw ae ae ae rfl ?_;conv=>whnf)
   repeat'(first|refine awz ?_|(refine cP (nx _) ?_;conv=>whnf)|fail)
   all_goals rfl
   all_goals rfl
 ·by_cases h3:n=3
  ·subst h3;cases h:(aZ w&&cq w 3)with
   |false=>
    have hn:(!(aZ w&&cq w 3))=true:=by rw[h];rfl
    have e:aY w 3=[]:=by simp[aY,h]
    rw[e];refine pO func33 call33 ntmps33 results33 λS=>?_;conv=>whnf
    repeat'((first|refine awz ?_|refine cP (dp 3) ?_|refine cP (oT w 3 ai hs) ?_|fail)<;>conv=>whnf)
    all_goals rfl
   |true=>
    have hn:(!(aZ w&&cq w 3))=false:=by rw[h];rfl
    have e:aY w 3=ke w.right:=by simp[aY,h]
    rw[e];refine pO func33 call33 ntmps33 results33 λS=>?_;conv=>whnf
    repeat'((first|refine awz ?_|refine cP (dp 3) ?_|refine cP (oT w 3 ai hs) ?_|fail)<;>conv=>whnf)
    (refine aaJ aM 6 11 jv jw ae ae ae rfl ?_;conv=>whnf)
    repeat'(first|refine awz ?_|(refine cP (nx _) ?_;conv=>whnf)|fail)
    all_goals rfl
  ·have hn:(!ft n)=true:=by rw[F6 h2 h3];rfl
   have e:aY w n=[]:=by simp[aY,h2,h3]
   rw[e];refine pO func33 call33 ntmps33 results33 λS=>?_;conv=>whnf
   repeat'(first|refine awz ?_|(refine cP (dp n) ?_;conv=>whnf)|fail)
   all_goals rfl
theorem Rr(b o:Nat)(w:World):Calls av.P 110 #[.pointer (some ⟨b,o,none⟩)] w λe w'=>e= .returned (.pointer (some ⟨b,o+61,none⟩))/\w'=w:=by
 show Calls Tryz.prog 110 _ w _;go_enter Tryz.func110,Tryz.ntmps110
 go_wp2
 go_ret
 exact⟨rfl,rfl⟩
theorem Rs(b o:Nat)(w:World):Calls av.P 111 #[.pointer (some ⟨b,o,none⟩)] w λe w'=>e= .returned (.pointer (some ⟨b,o+65,none⟩))/\w'=w:=by
 show Calls Tryz.prog 111 _ w _;go_enter Tryz.func111,Tryz.ntmps111
 go_wp2
 go_ret
 exact⟨rfl,rfl⟩
theorem zN:aN av 67 [pI 4] (.val (.one (.pv (.func (.func 110) #[] #[])))):=by
 refine pO func67 call67 ntmps67 results67 λS=>?_;conv=>whnf
 repeat'(first|refine awz ?_|exact rr|fail)
theorem zP:aN av 67 [pI 5] (.val (.one (.pv (.func (.func 111) #[] #[])))):=by
 refine pO func67 call67 ntmps67 results67 λS=>?_;conv=>whnf
 repeat'(first|refine awz ?_|exact rr|fail)
theorem Tw(s:bp):aN av 68 [.agg s.ds] (.val (pI (s.todo.length))):=by
 refine pO func68 call68 ntmps68 results68 λS=>?_;conv=>whnf
 repeat'(first|refine awz ?_|fail)
 all_goals simp
theorem Tx(s:bp):aN av 69 [.agg s.ds] (.val (pI (s.gots.length))):=by
 refine pO func69 call69 ntmps69 results69 λS=>?_;conv=>whnf
 repeat'(first|refine awz ?_|fail)
 all_goals simp
theorem Ty(s:bp):aN av 70 [.agg s.ds] (.val (pI (s.last))):=by
 refine pO func70 call70 ntmps70 results70 λS=>?_;conv=>whnf
 repeat'(first|refine awz ?_|exact rr|fail)
 all_goals simp
def ib(s:bp):List Int:=[s.todo.length,s.gots.length,s.last]
theorem FJ(s:bp):jt av 66 [.agg s.ds,.one (.sl [pF 68,pF 69,pF 70])] (.one (.sl ((ib s).map eI))):=by
 refine ew aM func66 rfl call66 ntmps66 (ace results66) λS=>?_;conv=>whnf
 repeat'(first|refine awz ?_|fail)
 refine aaZ 4 ?_;conv=>whnf
 repeat'((first|refine awz ?_|refine aaG 0 _ rfl rfl ?_|refine aaG 1 _ rfl rfl ?_|refine aaG 2 _ rfl rfl ?_|refine cP (Tw s) ?_|refine cP (Tx s) ?_|refine cP (Ty s) ?_|refine aaH ai ai ?_|refine And.intro ah ?_|fail)<;>conv=>whnf)
 exact⟨_,_,(ib s).map eI,Nat.le_refl _,aaU (lo:=S.w0.heap.size) (hi:=S.w0.heap.size) rfl,rfl,(λy hy=>by obtain⟨a,_,rfl⟩:=List.mem_map.1 hy;rfl),rfl⟩
def a6(w:aP)(n:Int):List Int:=if n=4 then(if aZ w then ib w.ann else [])else if n=5 then(if aZ w then ib w.bob else [])else []
theorem gz(w:aP)(n:Int)(hs:aaN 1048576 w):jt av 15 [.agg w.ds,pI n] (.one (.sl ((a6 w n).map eI))):=by
 by_cases h4:n=4
 ·subst h4;cases h:aZ w with
  |false=>
   have hn:(!aZ w)=true:=by rw[h];rfl
   have e:a6 w 4=[]:=by simp[a6,h]
   rw[e];refine ew aM func15 rfl call15 ntmps15 (ace results15) λS=>?_;conv=>whnf
   repeat'((first|refine awz ?_|refine cP (ba _ _ _) ?_|refine cP (dA w hs) ?_|fail)<;>conv=>whnf)
   all_goals rfl
  |true=>
   have hn:(!aZ w)=false:=by rw[h];rfl
   have e:a6 w 4=ib w.ann:=by simp[a6,h]
   rw[e];refine ew aM func15 rfl call15 ntmps15 (ace results15) λS=>?_;conv=>whnf
   repeat'((first|refine awz ?_|refine cP (ba _ _ _) ?_|refine cP (dA w hs) ?_|refine cP (zN) ?_|refine abc 61 call110 Rr ?_|fail)<;>conv=>whnf)
   refine aaS (FJ w.ann) rfl rfl λR lo hi a b F=>?_;conv=>whnf
   repeat'(first|refine awz ?_|fail)
   exact⟨lo,hi,_,a,F,rfl⟩
 ·by_cases h5:n=5
  ·subst h5;cases h:aZ w with
   |false=>
    have hn:(!aZ w)=true:=by rw[h];rfl
    have e:a6 w 5=[]:=by simp[a6,h]
    rw[e];refine ew aM func15 rfl call15 ntmps15 (ace results15) λS=>?_;conv=>whnf
    repeat'((first|refine awz ?_|refine cP (ba _ _ _) ?_|refine cP (dA w hs) ?_|fail)<;>conv=>whnf)
    all_goals rfl
   |true=>
    have hn:(!aZ w)=false:=by rw[h];rfl
    have e:a6 w 5=ib w.bob:=by simp[a6,h]
    rw[e];refine ew aM func15 rfl call15 ntmps15 (ace results15) λS=>?_;conv=>whnf
    repeat'((first|refine awz ?_|refine cP (ba _ _ _) ?_|refine cP (dA w hs) ?_|refine cP (zP) ?_|refine abc 65 call111 Rs ?_|fail)<;>conv=>whnf)
    refine aaS (FJ w.bob) rfl rfl λR lo hi a b F=>?_;conv=>whnf
    repeat'(first|refine awz ?_|fail)
    exact⟨lo,hi,_,a,F,rfl⟩
  ·have hb:aJ n 4 5=false:=by simp[aJ];omega
   have hn:(!aJ n 4 5)=true:=by rw[hb];rfl
   have e:a6 w n=[]:=by simp[a6,h4,h5]
   rw[e];refine ew aM func15 rfl call15 ntmps15 (ace results15) λS=>?_;conv=>whnf
   repeat'(first|refine awz ?_|(refine cP (ba _ _ _) ?_;conv=>whnf)|fail)
   all_goals rfl
theorem jX(w:aP)(n:Int)(hs:aaN 1048576 w):aN av 34 [.agg w.ds,pI n] (.val (.one (.sl ((a6 w n).map eI)))):=by
 by_cases h4:n=4
 ·subst h4;cases h:aZ w with
  |false=>
   have hn:(!aZ w)=true:=by rw[h];rfl
   have e:a6 w 4=[]:=by simp[a6,h]
   rw[e];refine pO func34 call34 ntmps34 results34 λS=>?_;conv=>whnf
   repeat'(first|refine awz ?_|(refine cP (bd w hs) ?_;conv=>whnf)|fail)
   all_goals((try simp only[List.length_map]);rfl)
  |true=>
   have hn:(!aZ w)=false:=by rw[h];rfl
   have e:a6 w 4=ib w.ann:=by simp[a6,h]
   rw[e];refine pO func34 call34 ntmps34 results34 λS=>?_;conv=>whnf
   repeat'(first|refine awz ?_|(refine cP (bd w hs) ?_;conv=>whnf)|fail)
   all_goals((try simp only[List.length_map]);rfl)
 ·by_cases h5:n=5
  ·subst h5;cases h:aZ w with
   |false=>
    have hn:(!aZ w)=true:=by rw[h];rfl
    have e:a6 w 5=[]:=by simp[a6,h]
    rw[e];refine pO func34 call34 ntmps34 results34 λS=>?_;conv=>whnf
    repeat'(first|refine awz ?_|(refine cP (bd w hs) ?_;conv=>whnf)|fail)
    all_goals((try simp only[List.length_map]);rfl)
   |true=>
    have hn:(!aZ w)=false:=by rw[h];rfl
    have e:a6 w 5=ib w.bob:=by simp[a6,h]
    rw[e];refine pO func34 call34 ntmps34 results34 λS=>?_;conv=>whnf
    repeat'(first|refine awz ?_|(refine cP (bd w hs) ?_;conv=>whnf)|fail)
    all_goals((try simp only[List.length_map]);rfl)
  ·have e:a6 w n=[]:=by simp[a6,h4,h5]
   have e4:(n !=4)=true:=by simp[h4]
   have e5:(n !=5)=true:=by simp[h5]
   rw[e];cases h:aZ w with
   |false=>
    have hn:(!aZ w)=true:=by rw[h];rfl
    refine pO func34 call34 ntmps34 results34 λS=>?_;conv=>whnf
    repeat'(first|refine awz ?_|(refine cP (bd w hs) ?_;conv=>whnf)|fail)
    all_goals((try simp only[List.length_map]);rfl)
   |true=>
    have hn:(!aZ w)=false:=by rw[h];rfl
    refine pO func34 call34 ntmps34 results34 λS=>?_;conv=>whnf
    repeat'(first|refine awz ?_|(refine cP (bd w hs) ?_;conv=>whnf)|fail)
    all_goals((try simp only[List.length_map]);rfl)
section
variable {l:List bo}{α:Type}
theorem rt(p:α->Bool){l:List α}{k:Nat}(hk:k<l.length):(l.take (k+1)).filter p=(l.take k).filter p++if p l[k]then [l[k]]else []:=by
 rw[sI hk,List.filter_append];congr 1;cases h:p l[k]<;>simp[h]
theorem Cb(p:α->Bool)(l:List α)(k:Nat):((l.take k).filter p).length<=l.length:=by
 have h1:=List.length_filter_le p (l.take k);have h2:(l.take k).length<=l.length:=al;omega
def gO(j:bo):Bool:=j.fired==0
def j7(j:bo):Bool:=j.fired !=0
theorem rD(j:bo):aN av 53 [.agg j.ds] (rB (gO j)):=by
 refine pO func53 call53 ntmps53 results53 λS=>?_;conv=>whnf
 repeat'(first|refine awz ?_|fail)
 all_goals rfl
theorem xY(l:List bo)(h8:l.length<=8):aN av 52 [.one (.sl (l.map bo.ds)),.one (.pv (.func (.func 53) #[] #[]))] (.val (.one (.sl ((l.filter gO).map bo.ds)))):=by
 refine pO func52 call52 ntmps52 results52 λS=>?_;conv=>whnf
 repeat'(first|refine awz ?_|fail)
 refine aaK (λk:Nat=>k<=l.length) (8::[5,7,11,12,13,14,15,16,17,18,19,20,21,22]) (λk=>[(5,.one (.own 8)),(11,vI .i64 (k:Int))]) (λk=>[(8,.row 122 5 (((l.take k).filter gO).map bo.ds))]) (λk=>l.length-k) 0 ac ?_ sbW (λk hR=>?_)<;>(conv=>whnf)
 ·exact whd
 ·by_cases hlt:k<l.length
  ·have hc:decide ((k:Int)<((l.map bo.ds).length:Int))=true:=al;have hs:=rt gO hlt;have hl:=Cb gO l k;cases hb:gO l[k]with
   |true=>
    rw[hb]at hs;repeat'((first|refine awz ?_|refine aaM hlt ?_|refine cP (rD _) ?_|refine a7 ax ?_|refine aaH ac ac ?_|fail)<;>conv=>whnf)
    refine a8.mk ⟨k+1,hlt,ac,?_,aaC (congrArg some (congrArg (AO.row 122 5) (by rw[hs,List.map_append];rfl))) aaE⟩;exact hds
   |false=>
    rw[hb]at hs;repeat'((first|refine awz ?_|refine aaM hlt ?_|refine cP (rD _) ?_|refine aaH ac ac ?_|fail)<;>conv=>whnf)
    refine a8.mk ⟨k+1,hlt,ac,?_,aaC (congrArg some (congrArg (AO.row 122 5) (by rw[hs];simp))) aaE⟩;exact hds
  ·have hc:decide ((k:Int)<((l.map bo.ds).length:Int))=false:=al;have e:l.take k=l:=List.take_of_length_le ac;rw[e];repeat'(first|refine awz ?_|exact rr|fail)
theorem m7(j:bo):aN av 55 [.agg j.ds] (rB (j7 j)):=by
 refine pO func55 call55 ntmps55 results55 λS=>?_;conv=>whnf
 repeat'(first|refine awz ?_|fail)
 all_goals rfl
theorem sP(l:List bo)(h8:l.length<=8):aN av 52 [.one (.sl (l.map bo.ds)),.one (.pv (.func (.func 55) #[] #[]))] (.val (.one (.sl ((l.filter j7).map bo.ds)))):=by
 refine pO func52 call52 ntmps52 results52 λS=>?_;conv=>whnf
 repeat'(first|refine awz ?_|fail)
 refine aaK (λk:Nat=>k<=l.length) (8::[5,7,11,12,13,14,15,16,17,18,19,20,21,22]) (λk=>[(5,.one (.own 8)),(11,vI .i64 (k:Int))]) (λk=>[(8,.row 122 5 (((l.take k).filter j7).map bo.ds))]) (λk=>l.length-k) 0 ac ?_ sbW (λk hR=>?_)<;>(conv=>whnf)
 ·exact whd
 ·by_cases hlt:k<l.length
  ·have hc:decide ((k:Int)<((l.map bo.ds).length:Int))=true:=al;have hs:=rt j7 hlt;have hl:=Cb j7 l k;cases hb:j7 l[k]with
   |true=>
    rw[hb]at hs;repeat'((first|refine awz ?_|refine aaM hlt ?_|refine cP (m7 _) ?_|refine a7 ax ?_|refine aaH ac ac ?_|fail)<;>conv=>whnf)
    refine a8.mk ⟨k+1,hlt,ac,?_,aaC (congrArg some (congrArg (AO.row 122 5) (by rw[hs,List.map_append];rfl))) aaE⟩;exact hds
   |false=>
    rw[hb]at hs;repeat'((first|refine awz ?_|refine aaM hlt ?_|refine cP (m7 _) ?_|refine aaH ac ac ?_|fail)<;>conv=>whnf)
    refine a8.mk ⟨k+1,hlt,ac,?_,aaC (congrArg some (congrArg (AO.row 122 5) (by rw[hs];simp))) aaE⟩;exact hds
  ·have hc:decide ((k:Int)<((l.map bo.ds).length:Int))=false:=al;have e:l.take k=l:=List.take_of_length_le ac;rw[e];repeat'(first|refine awz ?_|exact rr|fail)
def pu(s:bK):List Int:=[s.state.index,s.state.time,s.state.pairs.length,(s.state.jobs.filter gO).length,(s.state.jobs.filter j7).length,s.last,s.busy]
theorem Tz(s:bK):aN av 48 [.agg s.ds] (.val (pI (s.state.index))):=by
 refine pO func48 call48 ntmps48 results48 λS=>?_;conv=>whnf
 repeat'(first|refine awz ?_|exact rr|fail)
 all_goals simp
theorem TA(s:bK):aN av 49 [.agg s.ds] (.val (pI (s.state.time))):=by
 refine pO func49 call49 ntmps49 results49 λS=>?_;conv=>whnf
 repeat'(first|refine awz ?_|exact rr|fail)
 all_goals simp
theorem TB(s:bK):aN av 50 [.agg s.ds] (.val (pI (s.state.pairs.length))):=by
 refine pO func50 call50 ntmps50 results50 λS=>?_;conv=>whnf
 repeat'(first|refine awz ?_|fail)
 all_goals simp
theorem TE(s:bK):aN av 56 [.agg s.ds] (.val (pI (s.last))):=by
 refine pO func56 call56 ntmps56 results56 λS=>?_;conv=>whnf
 repeat'(first|refine awz ?_|exact rr|fail)
 all_goals simp
theorem TF(s:bK):aN av 57 [.agg s.ds] (.val (pI (s.busy))):=by
 refine pO func57 call57 ntmps57 results57 λS=>?_;conv=>whnf
 repeat'(first|refine awz ?_|exact rr|fail)
 all_goals simp
theorem TC(s:bK)(h8:s.state.jobs.length<=8):aN av 51 [.agg s.ds] (.val (pI ((s.state.jobs.filter gO).length:Int))):=by
 refine pO func51 call51 ntmps51 results51 λS=>?_;conv=>whnf
 repeat'(first|refine awz ?_|(refine cP (xY s.state.jobs h8) ?_;conv=>whnf)|fail)
 all_goals simp
theorem TD(s:bK)(h8:s.state.jobs.length<=8):aN av 54 [.agg s.ds] (.val (pI ((s.state.jobs.filter j7).length:Int))):=by
 refine pO func54 call54 ntmps54 results54 λS=>?_;conv=>whnf
 repeat'(first|refine awz ?_|(refine cP (sP s.state.jobs h8) ?_;conv=>whnf)|fail)
 all_goals simp
theorem OI(s:bK)(h8:s.state.jobs.length<=8):jt av 47 [.agg s.ds,.one (.sl [pF 48,pF 49,pF 50,pF 51,pF 54,pF 56,pF 57])] (.one (.sl ((pu s).map eI))):=by
 refine ew aM func47 rfl call47 ntmps47 (ace results47) λS=>?_;conv=>whnf
 repeat'(first|refine awz ?_|fail)
 refine aaZ 8 ?_;conv=>whnf
 repeat'((first|refine awz ?_|refine aaG 0 _ rfl rfl ?_|refine aaG 1 _ rfl rfl ?_|refine aaG 2 _ rfl rfl ?_|refine aaG 3 _ rfl rfl ?_|refine aaG 4 _ rfl rfl ?_|refine aaG 5 _ rfl rfl ?_|refine aaG 6 _ rfl rfl ?_|refine cP (Tz s) ?_|refine cP (TA s) ?_|refine cP (TB s) ?_|refine cP (TC s h8) ?_|refine cP (TD s h8) ?_|refine cP (TE s) ?_|refine cP (TF s) ?_|refine aaH ai ai ?_|refine And.intro ah ?_|fail)<;>conv=>whnf)
 exact⟨_,_,(pu s).map eI,Nat.le_refl _,aaU (lo:=S.w0.heap.size) (hi:=S.w0.heap.size) rfl,rfl,(λy hy=>by obtain⟨a,_,rfl⟩:=List.mem_map.1 hy;rfl),rfl⟩
theorem GF{w:aP}(h:aZ w=true)(h1:cq w 1=true):bO w.store.state.jobs=true:=by
 have:=C7 h h1;simp only[storeOk,bB,Bool.and_eq_true]at this;exact this.1.1.1.1.2.1.1.2
theorem Cz(h:bO l=true):∀k,k<=l.length->(mT (l.take k)).length=((l.take k).filter gO).length
 |0,_=>rfl
 |k+1,hk=>by
  have ih:=Cz h k ac;have hb:0<=(l[k]'(ac)).fired:=by
   simp only[bO,Bool.and_eq_true,List.all_eq_true]at h;have:=h.1.1.2 _ (List.getElem_mem (show k<l.length by omega));simp only[iN,aJ,Bool.and_eq_true,decide_eq_true_eq]at this;omega
  rw[yR l ac,rt gO (show k<l.length by omega)];by_cases hf:(l[k]'(ac)).fired>0
  ·have:gO (l[k]'(ac))=false:=by simp[gO];omega
   rw[if_pos hf,this];simpa using ih
  ·have:gO (l[k]'(ac))=true:=by simp[gO];omega
   rw[if_neg hf,this,Ip];simp[ih]
theorem RI(h:bO l=true):(mT l).length=(l.filter gO).length:=by
 have:=Cz h l.length (Nat.le_refl _);rwa[List.take_length]at this
theorem Uo(l:List bo):(l.filter gO).length+(l.filter j7).length=l.length:=by
 induction l with
 |nil=>rfl
 |cons a r ih=>
  cases h:gO a with
  |true=>
   have h2:j7 a=false:=by simp[gO,j7]at*;exact h
   simp[h,h2];omega
  |false=>
   have h2:j7 a=true:=by simp[gO,j7]at*;exact h
   simp[h,h2];omega
def bA(w:aP):List Int:=if aZ w&&cq w 1 then pu w.store else []
theorem nN(w:aP)(hs:aaN 1048576 w):jt av 13 [.agg w.ds] (.one (.sl ((bA w).map eI))):=by
 cases h:(aZ w&&cq w 1)with
 |false=>
  have hn:(!(aZ w&&cq w 1))=true:=by rw[h];rfl
  have e:bA w=[]:=by simp[bA,h]
  rw[e];refine ew aM func13 rfl call13 ntmps13 (ace results13) λS=>?_;conv=>whnf
  repeat'(first|refine awz ?_|(refine cP (eX w 1 ai hs) ?_;conv=>whnf)|fail)
  all_goals rfl
 |true=>
  have hn:(!(aZ w&&cq w 1))=false:=by rw[h];rfl
  have e:bA w=pu w.store:=by simp[bA,h]
  rw[e];rw[Bool.and_eq_true]at h;have h8:=N9 (GF h.1 h.2);refine ew aM func13 rfl call13 ntmps13 (ace results13) λS=>?_;conv=>whnf
  repeat'(first|refine awz ?_|(refine cP (eX w 1 ai hs) ?_;conv=>whnf)|fail)
  refine aaS (OI w.store h8) rfl rfl λR lo hi a b F=>?_;conv=>whnf
  repeat'(first|refine awz ?_|fail)
  exact⟨lo,hi,_,a,F,rfl⟩
theorem wj(w:aP)(hs:aaN 1048576 w):aN av 32 [.agg w.ds] (.val (.one (.sl ((bA w).map eI)))):=by
 cases hw:aZ w with
 |false=>
  have hn:(!aZ w)=true:=by rw[hw];rfl
  have e:bA w=[]:=by simp[bA,hw]
  rw[e];refine pO func32 call32 ntmps32 results32 λS=>?_;conv=>whnf
  repeat'(first|refine awz ?_|(refine cP (bd w hs) ?_;conv=>whnf)|fail)
  all_goals rfl
 |true=>
  have hn:(!aZ w)=false:=by rw[hw];rfl
  have h6:=A2 hw;cases hu:cq w 1 with
  |false=>
   have hn2:(!cq w 1)=true:=by rw[hu];rfl
   have e:bA w=[]:=by simp[bA,hu]
   rw[e];refine pO func32 call32 ntmps32 results32 λS=>?_;conv=>whnf
   repeat'((first|refine awz ?_|refine cP (bd w hs) ?_|refine aaG 1 _ rfl (e9 h6 ai) ?_|fail)<;>conv=>whnf)
   all_goals rfl
  |true=>
   have hn2:(!cq w 1)=false:=by rw[hu];rfl
   have hj:=GF hw hu;have h8:=N9 hj;have hc:=RI hj;have hd:=Uo w.store.state.jobs;have ho:((mT w.store.state.jobs).map eG.ds).length<=8:=al;have e:bA w=pu w.store:=by simp[bA,hw,hu]
   rw[e];refine pO func32 call32 ntmps32 results32 λS=>?_;conv=>whnf
   repeat'((first|refine awz ?_|refine cP (bd w hs) ?_|refine aaG 1 _ rfl (e9 h6 ai) ?_|refine cP (wh w.store.state.jobs hj) ?_|refine aaH (by simp only[List.length_map]at*;omega) (by simp only[List.length_map]at*;omega) ?_|fail)<;>conv=>whnf)
   have e1:((w.store.state.jobs.map bo.ds).length:Int)-(((mT w.store.state.jobs).map eG.ds).length:Int)=(w.store.state.jobs.filter j7).length:=am;have e2:(((mT w.store.state.jobs).map eG.ds).length:Int)=(w.store.state.jobs.filter gO).length:=am;rw[e1,e2,List.length_map];rfl
end
section
variable {k:Nat}{w:aP}{c:bp}
def eJ(w:aP)(k:Nat):List Int:=
 match k with
 |0=>bM w
 |1=>bA w
 |2=>aY w 2
 |3=>aY w 3
 |4=>a6 w 4
 |5=>a6 w 5
 |_=>cy w
def mK(l:List Int):Prop:=l.length<=11/\∀x∈l,0<=x/\x<=100000000
theorem qh:mK []:=⟨by simp,λx hx=>by simp at hx⟩
theorem Lc(b:Bool):0<=JE b/\JE b<=1:=by cases b<;>simp[JE]
theorem Rn(hs:aaN 1048576 w):mK (bM w):=by
 unfold bM;split
 ·rename_i h;rw[and_eq_true]at h;have hb:=Fi h.1 h.2;have hl:=Jd h.1 h.2;have hd:=L2 hl;have ho:w.log.owe.length<=1048576:=hs.1.2.2.2.2.2;have hm:=Lc w.log.more;simp only[bN,aJ,and_eq_true,decide_eq_true_eq]at hb;refine⟨by simp[GO],λx hx=>?_⟩;simp only[GO,bg,mem_cons,not_mem_nil,or_false]at hx;rcases hx with rfl|rfl|rfl|rfl|rfl<;>omega
 ·exact qh
theorem Lt(hs:aaN 1048576 w):mK (bA w):=by
 unfold bA;split
 ·rename_i h;rw[and_eq_true]at h;have hl:=C7 h.1 h.2;have hi:=Nk hl;have hp:w.store.state.pairs.length<=1048576:=hs.2.1.2.1;have hj:w.store.state.jobs.length<=1048576:=hs.2.1.2.2;have h1:=List.length_filter_le gO w.store.state.jobs;have h2:=List.length_filter_le j7 w.store.state.jobs;simp only[storeOk,bB,tOk,aJ,and_eq_true,Bool.or_eq_true,beq_iff_eq,decide_eq_true_eq]at hl;refine⟨by simp[pu],λx hx=>?_⟩;simp only[pu,mem_cons,not_mem_nil,or_false]at hx;rcases hx with rfl|rfl|rfl|rfl|rfl|rfl|rfl<;>omega
 ·exact qh
theorem nc(h:aZ w=true):dG w.left=true/\dG w.right=true/\ci w.ann=true/\ci w.bob=true:=by
 simp only[aZ,cV,and_eq_true]at h;exact⟨h.1.1.1.2.1.1,h.1.1.2.1.1,h.1.1.1.1.1.1.1.2,h.1.1.1.1.1.2⟩
theorem zH{s:cr}(h:dG s=true):mK (ke s):=by
 have hm:=Lc s.busy;simp only[dG,gF,aJ,and_eq_true,decide_eq_true_eq]at h;refine⟨by simp[ke],λx hx=>?_⟩;simp only[ke,mem_cons,not_mem_nil,or_false]at hx;rcases hx with rfl|rfl|rfl|rfl<;>omega
theorem Cd(n:Int):mK (aY w n):=by
 unfold aY;repeat' split
 all_goals first
  |exact qh
  |(rename_i h;rw[and_eq_true]at h;first|exact zH (nc h.1).1|exact zH (nc h.1).2.1)
theorem B6(h:ci c=true):∀k,k<=c.gots.length->0<=im c.gots k/\im c.gots k<=2000
 |0,_=>by simp[im]
 |k+1,hk=>by
  have ih:=B6 h k ac;simp only[ci,and_eq_true]at h;have hg:=K7 h.1.2 (k:=k) ac;simp only[mR,aJ,and_eq_true,decide_eq_true_eq]at hg;simp only[im];omega
theorem xW(h:ci c=true):mK (ib c):=by
 have hl:=B6 h _ (Nat.le_refl _);simp only[ci,and_eq_true,decide_eq_true_eq,beq_iff_eq]at h;refine⟨by simp[ib],λx hx=>?_⟩;simp only[ib,mem_cons,not_mem_nil,or_false]at hx;rcases hx with rfl|rfl|rfl<;>omega
theorem zG(n:Int):mK (a6 w n):=by
 unfold a6;repeat' split
 all_goals first
  |exact qh
  |(rename_i h;first|exact xW (nc h).2.2.1|exact xW (nc h).2.2.2)
theorem Ro:mK (cy w):=by
 unfold cy;split
 ·rename_i h;have hn:=BR h;obtain⟨h1,h2⟩:=ic w.net.flight w.net.flight.length (Nat.le_refl _);rw[List.take_length]at h1 h2;refine⟨by simp[Dg,h1],λx hx=>?_⟩;simp only[Dg,List.mem_append,mem_cons,not_mem_nil,or_false]at hx;rcases hx with hx|rfl
  ·have:=h2 x hx;omega
  ·omega
 ·exact qh
theorem v8(hs:aaN 1048576 w)(k:Nat):mK (eJ w k):=by
 unfold eJ;split
 ·exact Rn hs
 ·exact Lt hs
 ·exact Cd 2
 ·exact Cd 3
 ·exact zG 4
 ·exact zG 5
 ·exact Ro
theorem KL{a b:ByteArray}{Q:Prop}(h:a.data.toList.length+b.data.toList.length<=9223372036854775807)(q:Q):a.size+b.size<=9223372036854775807/\Q:=⟨by simpa using h,q⟩
def jn(name:List UInt8)(l:List Int):List UInt8:=if l=[]then name++[32,100,111,119,110,10]else name++(dx l++[10])
def bW:List (List UInt8):=[[108,111,103],[115,116,111,114,101],[108,101,102,116],[114,105,103,104,116],[97,110,110],[98,111,98],[110,101,116]]
def txt(w:aP)(k:Nat):List UInt8:=(List.range k).flatMap λj=>jn (bW.getD j []) (eJ w j)
def dh(w:aP):List UInt8:=if aZ w then txt w 7 else []
theorem Bu(h:k<bW.length):bW[k].length<=5:=by
 have h7:k<7:=h;have:k=0\/k=1\/k=2\/k=3\/k=4\/k=5\/k=6:=ac;rcases this with rfl|rfl|rfl|rfl|rfl|rfl|rfl<;>simp[bW]
theorem wA(w:aP)(h:k<bW.length):txt w (k+1)=txt w k++jn bW[k] (eJ w k):=by
 unfold txt;rw[List.range_succ,List.flatMap_append];have e:bW[k]?.getD []=bW[k]:=by rw[List.getElem?_eq_getElem h];rfl
 simp[e]
theorem EO{l:List Int}(h:mK l):∀x∈l,(Lit.int .i64 x).wf=true:=by
 intro x hx;have:=h.2 x hx;simp only[Lit.wf,IntKind.min,IntKind.max,IntKind.signed,IntKind.bits,and_eq_true,decide_eq_true_eq];constructor<;>simp<;>omega
theorem sE:∀{l:List Int},l≠ []->dx l=32::du [32] (l.map Lib.itoa)
 |[],h=>absurd rfl h
 |[a],_=>by simp[dx,du]
 |a::b::r,_=>by
  have:=sE (l:=b::r) ah;have e:du [32] (List.map Lib.itoa (a::b::r))=Lib.itoa a++([32]++du [32] (List.map Lib.itoa (b::r))):=rfl;have e2:dx (a::b::r)=32::(Lib.itoa a++dx (b::r)):=by simp[dx]
  rw[e,e2,this];rfl
end
def iV(l:List UInt8):List (List AD):=l.map λb=>[.pv (.int .u8 b.toNat)]
theorem ze(l:List UInt8):dY ⟨l.toArray⟩=iV l:=by simp[dY,iV]
theorem fS(l:List UInt8):(iV l).length=l.length:=by simp[iV]
def vZ(l:List Int):AD:=match l with
 |[]=>GP
 |x::r=> .sl (eI x::r.map eI)
theorem Rt:dd av 88 [] [] [(1,.row 9 1 (T2.map eS))] [] (.val (.one (.own 1))):=by
 refine cH aM func88 rfl call88 ntmps88 (ace results88) rfl λS pv=>?_;conv=>whnf
 repeat'(first|refine awz ?_|exact rr|fail)
theorem w5:aN av 22 [] (.val (.one (dSs bW))):=by
 refine pO func22 call22 ntmps22 results22 λS=>?_;conv=>whnf
 repeat'((first|refine awz ?_|refine aaI Rt [(1,901)] rfl rfl ?_|refine a7 (by simp[T2]) ?_|fail)<;>conv=>whnf)
 rfl
theorem Cj(w:aP)(hs:aaN 1048576 w)(h:(aZ w&&cq w 0)=false):aN av 12 [.agg w.ds] (.val (.one GP)):=by
 have hn:(!(aZ w&&cq w 0))=true:=by rw[h];rfl
 refine xd aM func12 rfl call12 ntmps12 (ace results12) λS=>?_;conv=>whnf
 repeat'(first|refine awz ?_|(refine cP (eX w 0 ai hs) ?_;conv=>whnf)|exact rr|fail)
theorem x9(w:aP)(hs:aaN 1048576 w)(h:(aZ w&&cq w 1)=false):aN av 13 [.agg w.ds] (.val (.one GP)):=by
 have hn:(!(aZ w&&cq w 1))=true:=by rw[h];rfl
 refine xd aM func13 rfl call13 ntmps13 (ace results13) λS=>?_;conv=>whnf
 repeat'(first|refine awz ?_|(refine cP (eX w 1 ai hs) ?_;conv=>whnf)|exact rr|fail)
theorem vA(w:aP)(hs:aaN 1048576 w)(h:(aZ w&&cq w 2)=false):aN av 14 [.agg w.ds,pI 2] (.val (.one GP)):=by
 have hn:(!(aZ w&&cq w 2))=true:=by rw[h];rfl
 refine xd aM func14 rfl call14 ntmps14 (ace results14) λS=>?_;conv=>whnf
 repeat'((first|refine awz ?_|refine cP (cO 2) ?_|refine cP (eX w 2 ai hs) ?_|exact rr|fail)<;>conv=>whnf)
theorem vC(w:aP)(hs:aaN 1048576 w)(h:(aZ w&&cq w 3)=false):aN av 14 [.agg w.ds,pI 3] (.val (.one GP)):=by
 have hn:(!(aZ w&&cq w 3))=true:=by rw[h];rfl
 refine xd aM func14 rfl call14 ntmps14 (ace results14) λS=>?_;conv=>whnf
 repeat'((first|refine awz ?_|refine cP (cO 3) ?_|refine cP (eX w 3 ai hs) ?_|exact rr|fail)<;>conv=>whnf)
theorem v6:vZ []=GP:=rfl
theorem nY:∀{l:List Int},l≠ []->vZ l= .sl (l.map eI)
 |[],h=>absurd rfl h
 |x::r,_=>rfl
theorem LE(w:aP)(hs:aaN 1048576 w):aN av 24 [.agg w.ds,pI 0] (.val (.one (vZ (eJ w 0)))):=by
 show aN av 24 [.agg w.ds,pI 0] (.val (.one (vZ (bM w))));cases h:(aZ w&&cq w 0)with
 |false=>
  have e:bM w=[]:=by simp[bM,h]
  rw[e,v6];refine pO func24 call24 ntmps24 results24 λS=>?_;conv=>whnf
  repeat'(first|refine awz ?_|(refine cP (Cj w hs h) ?_;conv=>whnf)|exact rr|fail)
 |true=>
  have e:bM w≠ []:=by unfold bM;rw[if_pos h];simp[GO,pu]
  rw[nY e];refine pO func24 call24 ntmps24 results24 λS=>?_;conv=>whnf
  repeat'(first|refine awz ?_|(refine cP ((rE w hs).pcall) ?_;conv=>whnf)|exact rr|fail)
theorem LF(w:aP)(hs:aaN 1048576 w):aN av 24 [.agg w.ds,pI 1] (.val (.one (vZ (eJ w 1)))):=by
 show aN av 24 [.agg w.ds,pI 1] (.val (.one (vZ (bA w))));cases h:(aZ w&&cq w 1)with
 |false=>
  have e:bA w=[]:=by simp[bA,h]
  rw[e,v6];refine pO func24 call24 ntmps24 results24 λS=>?_;conv=>whnf
  repeat'(first|refine awz ?_|(refine cP (x9 w hs h) ?_;conv=>whnf)|exact rr|fail)
 |true=>
  have e:bA w≠ []:=by unfold bA;rw[if_pos h];simp[GO,pu]
  rw[nY e];refine pO func24 call24 ntmps24 results24 λS=>?_;conv=>whnf
  repeat'(first|refine awz ?_|(refine cP ((nN w hs).pcall) ?_;conv=>whnf)|exact rr|fail)
theorem LG(w:aP)(hs:aaN 1048576 w):aN av 24 [.agg w.ds,pI 2] (.val (.one (vZ (eJ w 2)))):=by
 show aN av 24 [.agg w.ds,pI 2] (.val (.one (vZ (aY w 2))));cases h:(aZ w&&cq w 2)with
 |false=>
  have e:aY w 2=[]:=by simp[aY,h]
  rw[e,v6];refine pO func24 call24 ntmps24 results24 λS=>?_;conv=>whnf
  repeat'(first|refine awz ?_|(refine cP (vA w hs h) ?_;conv=>whnf)|exact rr|fail)
 |true=>
  have e:aY w 2≠ []:=by simp[aY,h,ke]
  rw[nY e];refine pO func24 call24 ntmps24 results24 λS=>?_;conv=>whnf
  repeat'(first|refine awz ?_|(refine cP ((g6 w 2 hs).pcall) ?_;conv=>whnf)|exact rr|fail)
theorem LH(w:aP)(hs:aaN 1048576 w):aN av 24 [.agg w.ds,pI 3] (.val (.one (vZ (eJ w 3)))):=by
 show aN av 24 [.agg w.ds,pI 3] (.val (.one (vZ (aY w 3))));cases h:(aZ w&&cq w 3)with
 |false=>
  have e:aY w 3=[]:=by simp[aY,h]
  rw[e,v6];refine pO func24 call24 ntmps24 results24 λS=>?_;conv=>whnf
  repeat'(first|refine awz ?_|(refine cP (vC w hs h) ?_;conv=>whnf)|exact rr|fail)
 |true=>
  have e:aY w 3≠ []:=by simp[aY,h,ke]
  rw[nY e];refine pO func24 call24 ntmps24 results24 λS=>?_;conv=>whnf
  repeat'(first|refine awz ?_|(refine cP ((g6 w 3 hs).pcall) ?_;conv=>whnf)|exact rr|fail)
theorem LI(w:aP)(hs:aaN 1048576 w)(hw:aZ w=true):aN av 24 [.agg w.ds,pI 4] (.val (.one (vZ (eJ w 4)))):=by
 show aN av 24 [.agg w.ds,pI 4] (.val (.one (vZ (a6 w 4))));have e:a6 w 4≠ []:=by simp[a6,hw,ib]
 rw[nY e];refine pO func24 call24 ntmps24 results24 λS=>?_;conv=>whnf
 repeat'(first|refine awz ?_|(refine cP ((gz w 4 hs).pcall) ?_;conv=>whnf)|exact rr|fail)
theorem LJ(w:aP)(hs:aaN 1048576 w)(hw:aZ w=true):aN av 24 [.agg w.ds,pI 5] (.val (.one (vZ (eJ w 5)))):=by
 show aN av 24 [.agg w.ds,pI 5] (.val (.one (vZ (a6 w 5))));have e:a6 w 5≠ []:=by simp[a6,hw,ib]
 rw[nY e];refine pO func24 call24 ntmps24 results24 λS=>?_;conv=>whnf
 repeat'(first|refine awz ?_|(refine cP ((gz w 5 hs).pcall) ?_;conv=>whnf)|exact rr|fail)
theorem LK(w:aP)(hs:aaN 1048576 w)(hw:aZ w=true):aN av 24 [.agg w.ds,pI 6] (.val (.one (vZ (eJ w 6)))):=by
 show aN av 24 [.agg w.ds,pI 6] (.val (.one (vZ (cy w))));have e:cy w≠ []:=by simp[cy,hw,Dg]
 rw[nY e];refine pO func24 call24 ntmps24 results24 λS=>?_;conv=>whnf
 repeat'(first|refine awz ?_|(refine cP ((rF w hs).pcall) ?_;conv=>whnf)|exact rr|fail)
theorem LL(w:aP)(hs:aaN 1048576 w)(hw:aZ w=true)(k:Nat)(hk:k<7):aN av 24 [.agg w.ds,pI (k:Int)] (.val (.one (vZ (eJ w k)))):=by
 have:k=0\/k=1\/k=2\/k=3\/k=4\/k=5\/k=6:=ac;rcases this with rfl|rfl|rfl|rfl|rfl|rfl|rfl
 ·exact LE w hs
 ·exact LF w hs
 ·exact LG w hs
 ·exact LH w hs
 ·exact LI w hs hw
 ·exact LJ w hs hw
 ·exact LK w hs hw
section
variable {k:Nat}{w:aP}
theorem CK{name:List UInt8}(hn:name.length<=5){l:List Int}(h:mK l):(jn name l).length<=300:=by
 unfold jn;split
 ·simp;omega
 ·have:=oX l (EO h);have:=h.1;simp;omega
theorem KO(hs:aaN 1048576 w):∀k,k<=7->(txt w k).length<=300*k
 |0,_=>by simp[txt]
 |k+1,hk=>by
  have hlt:k<bW.length:=by have:bW.length=7:=rfl;omega
  rw[wA w hlt,length_append];have:=KO hs k ac;have:=CK (Bu hlt) (v8 hs k);omega
theorem W6(hk:k<7):txt w (k+1)≠ []:=by
 have hlt:k<bW.length:=hk;rw[wA w hlt];unfold jn;split<;>simp
theorem gB(s:ByteArray):(dY s).length=s.size:=by simp[dY]
theorem s9:(⟨#[10]⟩:ByteArray).size=1:=rfl
theorem jZ:(⟨#[32,100,111,119,110]⟩:ByteArray).size=5:=rfl
def Zd(w:aP):Nat->List (Nat×AO)
 |0=>[(3,NQ)]
 |k+1=>[(3,Ey 3 900),(900,La (iV (txt w (k+1))))]
theorem Vp(h:k<bW.length)(e:eJ w k=[]):iV (txt w k)++dY ⟨(bW[k]).toArray⟩++dY ⟨#[32,100,111,119,110]⟩++dY ⟨#[10]⟩=iV (txt w (k+1)):=by
 rw[wA w h,e,ze];simp[jn,iV,dY]
theorem Vq(h:k<bW.length)(e:eJ w k≠ []):iV (txt w k)++dY ⟨(bW[k]).toArray⟩++dY ⟨(dx (eJ w k)).toArray⟩++dY ⟨#[10]⟩=iV (txt w (k+1)):=by
 rw[wA w h,ze,ze];simp[jn,e,iV,dY]
theorem GK(w:aP)(hs:aaN 1048576 w):aN av 7 [.agg w.ds] (rL (dh w)):=by
 cases hw:aZ w with
 |false=>
  have hn:(!aZ w)=true:=by rw[hw];rfl
  have e:dh w=[]:=by simp[dh,hw]
  rw[e];refine pO func7 call7 ntmps7 results7 λS=>?_;conv=>whnf
  repeat'(first|refine awz ?_|(refine cP (dA w hs) ?_;conv=>whnf)|exact rr|fail)
 |true=>
  have hn:(!aZ w)=false:=by rw[hw];rfl
  have e:dh w=txt w 7:=by simp[dh,hw]
  rw[e];refine pO func7 call7 ntmps7 results7 λS=>?_;conv=>whnf
  repeat'((first|refine awz ?_|refine cP (dA w hs) ?_|refine cP (w5) ?_|fail)<;>conv=>whnf)
  refine aaK (λk:Nat=>k<=7) (4::5::6::rg 12 18) (λk=>[(12,vI .i64 (k:Int))]) (λk=>(1,.cells 70 (w.ds.map .d))::Zd w k) (λk=>7-k) 0 ac ?_ sbW (λk hR=>?_)<;>(conv=>whnf)
  ·exact whd
  ·have h7:bW.length=7:=rfl;by_cases hlt:k<bW.length
   ·have hn5:=Bu hlt;have hg:=v8 hs k;have htx:=KO hs k ac;have hsp:=oX (eJ w k) (EO hg);have hg1:=hg.1;have hc:decide ((k:Int)<((bW.map eS).length:Int))=true:=al;have hR:=LL w hs hw k ac;by_cases hr:eJ w k=[]
    ·rw[hr,v6]at hR;have hrow:=Vp hlt hr;cases k with
     |zero=>
      repeat'(first|refine awz ?_|(refine aaM hlt ?_;conv=>whnf)|fail)
      refine aaI (wC ⟨(bW[0]).toArray⟩ (by simp only[length_append,length_cons,length_nil,gB,fD,fS,s9,jZ];omega)) [(1000,3),(14,900)] rfl rfl ?_;conv=>whnf
      repeat'((first|refine awz ?_|refine cP (hR) ?_|refine aaT true rfl underlying67 (.inl ⟨rfl,rfl⟩) ?_|fail)<;>conv=>whnf)
      refine aaI (eD (dY ⟨(bW[0]).toArray⟩) ⟨#[32,100,111,119,110]⟩ (by simp only[length_append,length_cons,length_nil,gB,fD,fS,s9,jZ];omega)) [(1000,3),(1001,900)] rfl rfl ?_;conv=>whnf
      repeat'(first|refine awz ?_|fail)
      refine aaI (eD (dY ⟨(bW[0]).toArray⟩++dY ⟨#[32,100,111,119,110]⟩) ⟨#[10]⟩ (by simp only[length_append,length_cons,length_nil,gB,fD,fS,s9,jZ];omega)) [(1000,3),(1001,900)] rfl rfl ?_;conv=>whnf
      repeat'(first|refine awz ?_|(refine aaH ac ac ?_;conv=>whnf)|fail)
      refine a8.mk ⟨1,hlt,ac,?_,aaC rfl (aaC rfl (aaC (congrArg some (congrArg (AO.row 5 1) hrow)) aaE))⟩;exact hds
     |succ k=>
      repeat'(first|refine awz ?_|(refine aaM hlt ?_;conv=>whnf)|fail)
      refine aaI (eD (iV (txt w (k+1))) ⟨(bW[k+1]).toArray⟩ (by simp only[length_append,length_cons,length_nil,gB,fD,fS,s9,jZ];omega)) [(1000,3),(1001,900)] rfl rfl ?_;conv=>whnf
      repeat'((first|refine awz ?_|refine cP (hR) ?_|refine aaT true rfl underlying67 (.inl ⟨rfl,rfl⟩) ?_|fail)<;>conv=>whnf)
      refine aaI (eD (iV (txt w (k+1))++dY ⟨(bW[k+1]).toArray⟩) ⟨#[32,100,111,119,110]⟩ (by simp only[length_append,length_cons,length_nil,gB,fD,fS,s9,jZ];omega)) [(1000,3),(1001,900)] rfl rfl ?_;conv=>whnf
      repeat'(first|refine awz ?_|fail)
      refine aaI (eD (iV (txt w (k+1))++dY ⟨(bW[k+1]).toArray⟩++dY ⟨#[32,100,111,119,110]⟩) ⟨#[10]⟩ (by simp only[length_append,length_cons,length_nil,gB,fD,fS,s9,jZ];omega)) [(1000,3),(1001,900)] rfl rfl ?_;conv=>whnf
      repeat'(first|refine awz ?_|(refine aaH ac ac ?_;conv=>whnf)|fail)
      refine a8.mk ⟨k+2,hlt,ac,?_,aaC rfl (aaC rfl (aaC (congrArg some (congrArg (AO.row 5 1) hrow)) aaE))⟩;exact hds
    ·obtain⟨x,r,hxr⟩:=List.exists_cons_of_ne_nil hr;rw[hxr]at hR;have hsp_p:=Ru (eJ w k) (EO hg) ac;have hrow:=Vq hlt hr;rw[hxr]at hsp_p hrow hsp hg1;cases k with
     |zero=>
      repeat'(first|refine awz ?_|(refine aaM hlt ?_;conv=>whnf)|fail)
      refine aaI (wC ⟨(bW[0]).toArray⟩ (by simp only[length_append,length_cons,length_nil,gB,fD,fS,s9,jZ];omega)) [(1000,3),(14,900)] rfl rfl ?_;conv=>whnf
      repeat'((first|refine awz ?_|refine cP (hR) ?_|refine cP (hsp_p) ?_|refine aaT false rfl underlying67 (.inr (.inr ⟨_,_,_,rfl,rfl⟩)) ?_|fail)<;>conv=>whnf)
      refine aaI (eD (dY ⟨(bW[0]).toArray⟩) ⟨(dx (x::r)).toArray⟩ (by simp only[length_append,length_cons,length_nil,gB,fD,fS,s9,jZ];omega)) [(1000,3),(1001,900)] rfl rfl ?_;conv=>whnf
      repeat'(first|refine awz ?_|fail)
      refine aaI (eD (dY ⟨(bW[0]).toArray⟩++dY ⟨(dx (x::r)).toArray⟩) ⟨#[10]⟩ (by simp only[length_append,length_cons,length_nil,gB,fD,fS,s9,jZ];omega)) [(1000,3),(1001,900)] rfl rfl ?_;conv=>whnf
      repeat'(first|refine awz ?_|(refine aaH ac ac ?_;conv=>whnf)|fail)
      refine a8.mk ⟨1,hlt,ac,?_,aaC rfl (aaC rfl (aaC (congrArg some (congrArg (AO.row 5 1) hrow)) aaE))⟩;exact hds
     |succ k=>
      repeat'(first|refine awz ?_|(refine aaM hlt ?_;conv=>whnf)|fail)
      refine aaI (eD (iV (txt w (k+1))) ⟨(bW[k+1]).toArray⟩ (by simp only[length_append,length_cons,length_nil,gB,fD,fS,s9,jZ];omega)) [(1000,3),(1001,900)] rfl rfl ?_;conv=>whnf
      repeat'((first|refine awz ?_|refine cP (hR) ?_|refine cP (hsp_p) ?_|refine aaT false rfl underlying67 (.inr (.inr ⟨_,_,_,rfl,rfl⟩)) ?_|fail)<;>conv=>whnf)
      refine aaI (eD (iV (txt w (k+1))++dY ⟨(bW[k+1]).toArray⟩) ⟨(dx (x::r)).toArray⟩ (by simp only[length_append,length_cons,length_nil,gB,fD,fS,s9,jZ];omega)) [(1000,3),(1001,900)] rfl rfl ?_;conv=>whnf
      repeat'(first|refine awz ?_|fail)
      refine aaI (eD (iV (txt w (k+1))++dY ⟨(bW[k+1]).toArray⟩++dY ⟨(dx (x::r)).toArray⟩) ⟨#[10]⟩ (by simp only[length_append,length_cons,length_nil,gB,fD,fS,s9,jZ];omega)) [(1000,3),(1001,900)] rfl rfl ?_;conv=>whnf
      repeat'(first|refine awz ?_|(refine aaH ac ac ?_;conv=>whnf)|fail)
      refine a8.mk ⟨k+2,hlt,ac,?_,aaC rfl (aaC rfl (aaC (congrArg some (congrArg (AO.row 5 1) hrow)) aaE))⟩;exact hds
   ·have e7:k=7:=ac;subst e7;have hc:decide (((7:Nat):Int)<((bW.map eS).length:Int))=false:=by simp[bW]
    repeat'(first|refine awz ?_|(refine aaI (Sz (txt w 7) (W6 ai)) [(1000,3),(1001,900)] rfl rfl ?_;conv=>whnf)|exact rr|fail)
end
section
variable {l:List Int}{name:List UInt8}
def u7:List UInt8:=[100,111,119,110]
theorem qj{x:Int}(h:0<=x/\x<=100000000):xB (Lib.itoa x) 9=true/\(vR (Lib.itoa x):Int)=x/\(Lib.itoa x).length<=9/\(32:UInt8)∉Lib.itoa x/\(10:UInt8)∉Lib.itoa x:=by
 obtain⟨n,rfl⟩:=Int.eq_ofNat_of_zero_le h.1;rw[TJ];have hf:=Da n;have hl:(Lib.decDigits n).length<=9:=GG ac ac;have hne:1<=(Lib.decDigits n).length:=by
  have:=hf.2.2.1;cases hd:Lib.decDigits n with
  |nil=>exact absurd hd this
  |cons a r=>simp
 refine⟨?_,by rw[hf.2.1],hl,λhm=>?_,λhm=>?_⟩
 ·have h4:=hf.2.2.2.1;simp only[xB,Bool.and_eq_true,Bool.or_eq_true,decide_eq_true_eq];exact⟨⟨⟨hne,hl⟩,h4⟩,hf.1⟩
 ·have:=kE.1 (List.all_eq_true.1 hf.1 _ hm);simp at this
 ·have:=kE.1 (List.all_eq_true.1 hf.1 _ hm);simp at this
theorem A1(c:UInt8):∀ws:List (List UInt8),du [c] ws=jy c ws
 |[]=>rfl
 |[w]=>rfl
 |w::v::r=>by
  have:=A1 c (v::r);simp only[du,jy,List.singleton_append]at this⊢;rw[this]
theorem AQ:∀{l:List Int},(∀x∈l,0<=x/\x<=100000000)->(dx l).length<=10*l.length
 |[],_=>by simp[dx]
 |x::r,h=>by
  have h1:=AQ (l:=r) λy hy=>h y (by simp[hy]);have h2:=(qj (h x ah)).2.2.1;simp only[dx,List.flatMap_cons,List.length_append,List.length_cons]at h1⊢;omega
theorem AS:∀{l:List Int},(∀x∈l,0<=x/\x<=100000000)->(10:UInt8)∉dx l
 |[],_=>by simp[dx]
 |x::r,h=>by
  have h1:=AS (l:=r) λy hy=>h y (by simp[hy]);have h2:=(qj (h x ah)).2.2.2.2;simp only[dx,List.flatMap_cons,List.mem_append,List.mem_cons,not_or]at h1⊢;exact⟨⟨by decide,h2⟩,h1⟩
def mC(name:List UInt8)(l:List Int):List UInt8:=if l=[]then name++32::u7 else name++dx l
theorem OH(name:List UInt8)(l:List Int):jn name l=mC name l++[10]:=by
 unfold jn mC;split<;>simp[u7]
theorem Bt{k:Nat}(h:k<7):(32:UInt8)∉bW.getD k []/\(10:UInt8)∉bW.getD k []/\(bW.getD k []).length<=5:=by
 have:k=0\/k=1\/k=2\/k=3\/k=4\/k=5\/k=6:=ac;rcases this with rfl|rfl|rfl|rfl|rfl|rfl|rfl<;>decide
theorem Mz(hn:(32:UInt8)∉name)(h:∀x∈l,0<=x/\x<=100000000):dv 32 (mC name l)=name::(if l=[]then [u7]else l.map Lib.itoa):=by
 unfold mC;split
 ·rw[nB hn,xp ai]
 ·rename_i hl;rw[sE hl,nB hn,A1,GE (by simpa using hl)];intro w hw;obtain⟨x,hx,rfl⟩:=List.mem_map.1 hw;exact(qj (h x hx)).2.2.2.1
theorem OG(hn:(10:UInt8)∉name)(h:∀x∈l,0<=x/\x<=100000000):(10:UInt8)∉mC name l:=by
 unfold mC;split
 ·simp only[List.mem_append,not_or];exact⟨hn,by decide⟩
 ·simp only[List.mem_append,not_or];exact⟨hn,AS h⟩
theorem IB(hn:name.length<=5)(hl:l.length<=11)(h:∀x∈l,0<=x/\x<=100000000):(mC name l).length<=115:=by
 unfold mC;have:=AQ h;split
 ·simp[u7];omega
 ·simp;omega
theorem In:∀{l:List Int},(∀x∈l,0<=x/\x<=100000000)->Ox (l.map Lib.itoa)=true/\Ab (l.map Lib.itoa)=l
 |[],_=>⟨rfl,rfl⟩
 |x::r,h=>by
  have h1:=In (l:=r) λy hy=>h y (by simp[hy]);have h2:=qj (h x ah);simp only[Ox,Ab,List.map_cons,List.all_cons,Bool.and_eq_true,List.cons.injEq]at h1⊢;exact⟨⟨h2.1,h1.1⟩,h2.2.1,h1.2⟩
def wn:List Int:=[5,7,4,4,3,3,11]
def o3(l:List Int)(k:Nat):Prop:=(l=[]/\k<4)\/(l≠ []/\(l.length:Int)=wn.getD k 0)
theorem GD(c:UInt8):∀l:List UInt8,(dv c l).length<=l.length+1
 |[]=>by simp[dv]
 |x::r=>by
  have ih:=GD c r;obtain⟨w,ws,e⟩:=na (c:=c) (s:=r);rw[e]at ih;by_cases hx:x=c
  ·simp[dv,hx,e]at ih⊢;omega
  ·simp[dv,hx,e]at ih⊢;omega
theorem Gv(g:Nat->List UInt8)(hg:∀j,j<7->(10:UInt8)∉g j):∀(l:List Nat),(∀j∈l,j<7)->dv 10 (l.flatMap λj=>g j++[10])=l.map g++[[]]
 |[],_=>rfl
 |j::r,h=>by
  have h1:=Gv g hg r λx hx=>h x (by simp[hx]);have e:(j::r).flatMap (λj=>g j++[10])=g j++10::r.flatMap (λj=>g j++[10]):=ah;rw[e,nB (hg j (h j ah)),h1];rfl
theorem Nr(g:Nat->List UInt8)(hg:∀j,j<7->(g j).length<=115):∀(l:List Nat),(∀j∈l,j<7)->(l.flatMap λj=>g j++[10]).length<=116*l.length
 |[],_=>by simp
 |j::r,h=>by
  have h1:=Nr g hg r λx hx=>h x (by simp[hx]);have h2:=hg j (h j ah);simp only[List.flatMap_cons,List.length_append,List.length_cons,List.length_nil]at h1⊢;omega
theorem Kk(w:aP)(hs:aaN 1048576 w)(hw:aZ w=true):dv 10 (dh w)=(List.range 7).map (λj=>mC (bW.getD j []) (eJ w j))++[[]]/\(dh w).length<=1000/\∀j,j<7->o3 (eJ w j) j:=by
 have hg:∀j,mK (eJ w j):=v8 hs;have e:dh w=(List.range 7).flatMap λj=>mC (bW.getD j []) (eJ w j)++[10]:=by
  unfold dh txt;rw[if_pos hw];simp only[OH]
 have hr:∀j∈List.range 7,j<7:=λj hj=>List.mem_range.1 hj;have h1:=Gv (λj=>mC (bW.getD j []) (eJ w j)) (λj hj=>OG (Bt hj).2.1 (hg j).2) _ hr;have h2:=Nr (λj=>mC (bW.getD j []) (eJ w j)) (λj hj=>IB (Bt hj).2.2 (hg j).1 (hg j).2) _ hr;rw[<-e]at h1 h2;rw[List.length_range]at h2;have hfit:∀j,j<7->o3 (eJ w j) j:=by
  intro j hj;have:j=0\/j=1\/j=2\/j=3\/j=4\/j=5\/j=6:=ac;rcases this with rfl|rfl|rfl|rfl|rfl|rfl|rfl
  ·show o3 (bM w) 0;unfold bM;split
   ·exact .inr ⟨by simp[GO],rfl⟩
   ·exact .inl ⟨rfl,ac⟩
  ·show o3 (bA w) 1;unfold bA;split
   ·exact .inr ⟨by simp[pu],rfl⟩
   ·exact .inl ⟨rfl,ac⟩
  ·show o3 (aY w 2) 2;unfold aY;rw[if_pos rfl];split
   ·exact .inr ⟨by simp[ke],rfl⟩
   ·exact .inl ⟨rfl,ac⟩
  ·show o3 (aY w 3) 3;unfold aY;rw[if_neg ai,if_pos rfl];split
   ·exact .inr ⟨by simp[ke],rfl⟩
   ·exact .inl ⟨rfl,ac⟩
  ·show o3 (a6 w 4) 4;unfold a6;rw[if_pos rfl,if_pos hw];exact .inr ⟨by simp[ib],rfl⟩
  ·show o3 (a6 w 5) 5;unfold a6;rw[if_neg ai,if_pos rfl,if_pos hw];exact .inr ⟨by simp[ib],rfl⟩
  ·show o3 (cy w) 6;have hc:=(ic w.net.flight w.net.flight.length (Nat.le_refl _)).1;rw[List.take_length]at hc;unfold cy;rw[if_pos hw];exact .inr ⟨by simp[Dg],by simp[Dg,hc];rfl⟩
 exact⟨h1,ac,hfit⟩
end
def mp:List (List Nat):=bC [0,1,0,8259,1060930,0,0,391,22128796664262]
def mv:List (List Nat):=dW 8 [6336,6337,6326,6331,6358,1700,728,1214]
def ml:List (List Nat):=bC [0,0,2,0,259,5,385,7,7,0x92071851030811c8,0x289207185103081289]
theorem Li(p q:dJ)(w:World):(binOp .eql 189 (.agg #[bh p.a,bh p.b]) (.agg #[bh q.a,bh q.b])).run Tryz.prog w= .ok (.bool (p==q)) w:=by
 obtain⟨a0,a1⟩:=p;obtain⟨b0,b1⟩:=q;have h:=run_underlying (w:=w) underlying189;have hs:Tryz.prog.stoodInHeld 189=false:=ae;show(do let x<-Op.equalIn (9999+1) _ _ _;pure (Value.bool x):Sem Value).run _ _=_;rw[Op.equalIn];have key:∀x y:Int,(Op.equalIn 9999 2 (.int .i64 x) (.int .i64 y)).run Tryz.prog w= .ok (x==y) w:=wI w 9998;simp[h,hs,jR,key];repeat' split
 all_goals simp_all
theorem rp(p q:dJ):A7 .eql 189 p.ds q.ds (p==q):=by
 refine⟨λx y w=>?_,λw=>Li p q w⟩;have h:Tryz.prog.eqGuardType Tryz.prog.depth 189=false:=ae;simp[eqGuard,h]
def vG(a b:Int):dJ:=if a<b then⟨a,b⟩else⟨b,a⟩
theorem IX(a b:Int):aN av 286 [pI a,pI b] (.val (.agg (vG a b).ds)):=by
 by_cases h:a<b
 ·have q:decide (a<b)=true:=by simpa using h
  have e:vG a b=⟨a,b⟩:=if_pos h;rw[e];refine pO func286 call286 ntmps286 results286 λS=>?_;conv=>whnf
  repeat'(first|refine awz ?_|exact rZ|fail)
 ·have q:decide (a<b)=false:=by simpa using h
  have e:vG a b=⟨b,a⟩:=if_neg h;rw[e];refine pO func286 call286 ntmps286 results286 λS=>?_;conv=>whnf
  repeat'(first|refine awz ?_|exact rZ|fail)
theorem RB{a b:Int}(h:fR a b=true):dH (vG a b)=true:=by
 unfold vG;simp only[fR,aJ,Bool.and_eq_true,decide_eq_true_eq,bne_iff_ne,ne_eq]at h;split<;>simp[dH,fR,aJ]<;>omega
theorem Up(a b:Int):aN av 285 [pI a,pI b] (rB (fR a b)):=by
 refine pO func285 call285 ntmps285 results285 λS=>?_;conv=>whnf
 repeat'((first|refine awz ?_|refine cP (iE _) ?_|refine tW ?_ ?_|intro h)<;>conv=>whnf)
 all_goals simp_all[fR]
def Y9(n:ee)(x:dJ)(y:Int):Prop:=(y= -1/\∀z∈n.cuts,z≠x)\/∃k:Nat,k<n.cuts.length/\y=(k:Int)
theorem y8(n:ee)(a b:Int)(h15:n.cuts.length<=15):cA av 256 [.agg n.ds,pI a,pI b] (Y9 n (vG a b)) (λy=> .val (pI y)):=by
 have cl:=IX a b;generalize vG a b=x at cl;refine aV aM func256 rfl call256 ntmps256 (ace results256) λS=>?_;conv=>whnf
 repeat'(first|refine awz ?_|fail)
 refine aaK (λk:Nat=>k<=n.cuts.length/\∀(j:Nat) (hj:j<n.cuts.length),j<k->n.cuts[j]≠x) (rg 6 19) (λk=>[(7,vI .i64 (k:Int))]) (λk=>[(3,.cells 66 (n.ds.map .d))]) (λk=>n.cuts.length-k) 0 ⟨Nat.zero_le _,λj _ h=>by omega⟩ ?_ sbW (λk hg=>?_)<;>(conv=>whnf)
 ·exact whd
 ·obtain⟨hk,hne⟩:=hg;by_cases hlt:k<n.cuts.length
  ·have hc:decide ((k:Int)<((n.cuts.map dJ.ds).length:Int))=true:=al;by_cases he:n.cuts[k]=x
   ·have q:(n.cuts[k]==x)=true:=by simpa using he
    repeat'((first|refine awz ?_|refine aaJ aM 4 8 mp mv ae ae ae rfl ?_|refine aaM hlt ?_|refine cP (cl) ?_|refine aaW (rp _ _) rfl rfl rfl rfl rfl ?_|fail)<;>conv=>whnf)
    all_goals exact⟨(k:Int),.inr ⟨k,hlt,rfl⟩,rfl⟩
   ·have q:(n.cuts[k]==x)=false:=by simpa using he
    repeat'((first|refine awz ?_|refine aaJ aM 4 8 mp mv ae ae ae rfl ?_|refine aaM hlt ?_|refine cP (cl) ?_|refine aaW (rp _ _) rfl rfl rfl rfl rfl ?_|refine aaH ac ac ?_|fail)<;>conv=>whnf)
    all_goals
     refine a8.mk ⟨k+1,⟨hlt,λj hj hj2=>?_⟩,by show n.cuts.length-(k+1)<n.cuts.length-k;omega,?_,sbW⟩
     ·by_cases e:j=k
      ·subst e;exact he
      ·exact hne j hj ac
     ·exact hds
  ·have e:k=n.cuts.length:=ac;subst e;have hc:decide ((n.cuts.length:Int)<((n.cuts.map dJ.ds).length:Int))=false:=ah;repeat'(first|refine awz ?_|fail)
   all_goals exact⟨-1,.inl ⟨rfl,λz hz=>by obtain⟨j,hj,rfl⟩:=List.getElem_of_mem hz;exact hne j hj hj⟩,rfl⟩
abbrev Ve(n:ee):List (Nat×AO):=[(41,.row 137 3 (n.flight.map cX.ds))]
abbrev TZ(n:ee):AA:= .agg [.own 41,.d (.sl (n.cuts.map dJ.ds))]
theorem ny(n:ee)(hs:aa5 1048576 n):aN av 255 [.agg n.ds] (.val (.agg n.ds)):=dd.data (l4 n hs) rfl rfl
def Qp(n:ee)(k:Nat):ee:=⟨n.flight.take k++n.flight.drop (k+1),n.cuts⟩
theorem KN{n:ee}{k:Nat}(hk:k<n.flight.length):aJ (k:Int) 0 ((n.flight.length:Int)-1)=true:=by simp only[aJ,Bool.and_eq_true,decide_eq_true_eq];omega
theorem Vr(n:ee)(k:Nat)(hn:dT n=true)(hk:k<n.flight.length):dd av 195 [.agg (n.ds.map .d),.one (.d (dI (k:Int)))] [] (Ve (Qp n k)) [] (.tup [TZ n,.one (.d (dB true))]):=by
 have hs:=fj hn;have c1:=g9 n;rw[hn]at c1;have c2:=l5 n k hs.1;rw[KN hk]at c2;refine cH aM func195 rfl call195 ntmps195 (ace results195) rfl λS pv=>?_;conv=>whnf
 repeat'((first|refine awz ?_|refine cP (c1) ?_|refine cP (c2) ?_|refine aaI (sB n k hs hk) [(9,41)] rfl rfl ?_|exact rZ|fail)<;>conv=>whnf)
theorem Vs(n:ee)(a:Int)(hn:dT n=true)(hk:aJ a 0 ((n.flight.length:Int)-1)=false):aN av 195 [.agg n.ds,pI a] (.tup [.agg n.ds,.one (dB false)]):=by
 have hs:=fj hn;have c1:=g9 n;rw[hn]at c1;have c2:=l5 n a hs.1;rw[hk]at c2;refine pO func195 call195 ntmps195 results195 λS=>?_;conv=>whnf
 repeat'((first|refine awz ?_|refine cP (c1) ?_|refine cP (c2) ?_|refine cP (ny n hs) ?_|exact rZ|fail)<;>conv=>whnf)
theorem OP(n:ee)(a:Int)(hn:dT n=true)(hk:aJ a 0 ((n.flight.length:Int)-1)=false):aN av 196 [.agg n.ds,pI a] (.tup [.agg n.ds,.one (dB false)]):=by
 have hs:=fj hn;have c1:=g9 n;rw[hn]at c1;have c2:=l5 n a hs.1;rw[hk]at c2;refine pO func196 call196 ntmps196 results196 λS=>?_;conv=>whnf
 repeat'((first|refine awz ?_|refine cP (c1) ?_|refine cP (c2) ?_|refine cP (ny n hs) ?_|exact rZ|fail)<;>conv=>whnf)
theorem Kz(n:ee)(m:cX)(hn:dT n=true)(hm:iO m=true)(hl:n.flight.length=60):aN av 284 [.agg n.ds,.agg m.ds] (.tup [.agg n.ds,.one (dB false)]):=by
 have hs:=fj hn;have c1:=g9 n;have c2:=jc m;rw[hn]at c1;rw[hm]at c2;have hc:((((n.flight.map cX.ds).length:Nat):Int)==60)=true:=al;refine pO func284 call284 ntmps284 results284 λS=>?_;conv=>whnf
 repeat'((first|refine awz ?_|refine cP (c1) ?_|refine cP (c2) ?_|refine cP (ny n hs) ?_|exact rZ|fail)<;>conv=>whnf)
theorem QI(n:ee)(m:cX)(hn:dT n=true)(hm:iO m=false):aN av 284 [.agg n.ds,.agg m.ds] (.tup [.agg (⟨[],[]⟩:ee).ds,.one (dB false)]):=by
 have c1:=g9 n;have c2:=jc m;rw[hn]at c1;rw[hm]at c2;refine pO func284 call284 ntmps284 results284 λS=>?_;conv=>whnf
 repeat'((first|refine awz ?_|refine cP (c1) ?_|refine cP (c2) ?_|exact rZ|fail)<;>conv=>whnf)
def Xu(n:ee)(k:Nat)(hk:k<n.flight.length):ee:=⟨n.flight++[n.flight[k]],n.cuts⟩
theorem OO(n:ee)(k:Nat)(hn:dT n=true)(hk:k<n.flight.length)(hl:n.flight.length≠60):dd av 196 [.agg (n.ds.map .d),.one (.d (dI (k:Int)))] [] (Ve (Xu n k hk)) [] (.tup [TZ n,.one (.d (dB true))]):=by
 have hs:=fj hn;have c1:=g9 n;rw[hn]at c1;have c2:=l5 n k hs.1;rw[KN hk]at c2;have hm:=(dQ hn).2.2.1 _ (List.getElem_mem hk);have hr:n.flight[k].row.length<=1048576:=hs.2.1 _ (List.getElem_mem hk);have c3:=KA n n.flight[k] hn hm hs hr hl;refine cH aM func196 rfl call196 ntmps196 (ace results196) rfl λS pv=>?_;conv=>whnf
 repeat'((first|refine awz ?_|refine cP (c1) ?_|refine cP (c2) ?_|fail)<;>conv=>whnf)
 (refine aaL aM 5 (tkc [0,1,2,3,4,5] (.one 6 (.take 7 (.take 8 (.one 9 (.take 10 .done)))))) [(2,9980)] ml ae ae ae ae (λRz=>?_);(conv=>whnf);intro bp0 up0;(conv=>whnf))
 repeat'((first|refine awz ?_|refine aaM hk ?_|refine aaI c3 [(41,41)] rfl rfl ?_|exact rZ|fail)<;>conv=>whnf)
theorem ON(n:ee)(k:Nat)(hn:dT n=true)(hk:k<n.flight.length)(hl:n.flight.length=60):aN av 196 [.agg n.ds,pI (k:Int)] (.tup [.agg n.ds,.one (dB false)]):=by
 have hs:=fj hn;have c1:=g9 n;rw[hn]at c1;have c2:=l5 n k hs.1;rw[KN hk]at c2;have hm:=(dQ hn).2.2.1 _ (List.getElem_mem hk);have c3:=Kz n n.flight[k] hn hm hl;refine pO func196 call196 ntmps196 results196 λS=>?_;conv=>whnf
 repeat'((first|refine awz ?_|refine cP (c1) ?_|refine cP (c2) ?_|fail)<;>conv=>whnf)
 (refine aaL aM 5 (tkc [0,1,2,3,4,5] (.one 6 (.take 7 (.take 8 (.one 9 (.take 10 .done)))))) [(2,9980)] ml ae ae ae ae (λRz=>?_);(conv=>whnf);intro bp0 up0;(conv=>whnf))
 repeat'((first|refine awz ?_|refine aaM hk ?_|refine cP (c3) ?_|exact rZ|fail)<;>conv=>whnf)
def tk:List (List Nat):=bC [0,1,2,0,4,5,0,7,8,0,10,11,0,13,14,254841219,0,0x1140f38d30b289207185103081411]
theorem U9{l:List Int}(h0:l.length=6):∃a b c d e f,l=[a,b,c,d,e,f]:=by
  match l,h0 with
  |[a,b,c,d,e,f],_=>exact⟨a,b,c,d,e,f,rfl⟩
theorem M0(l:List Int):cA av 434 [.one (.sl (l.map eI))] (λ_:Jg×Bool=>True) (λy=> .tup [.agg y.1.ds,.one (dB y.2)]):=by
  by_cases h:l.length=6
  · obtain⟨a,b,c,d,e,f,rfl⟩:=U9 h;have hi:=wq a [b,c,d,e,f] 7 6 rfl;refine aV aM func434 rfl call434 ntmps434 (ace results434) λS=>?_;conv=>whnf
    repeat'((first|refine awz ?_|refine cP (hi) ?_|refine tW ?_ ?_|intro h)<;>conv=>whnf)
    all_goals first
      |exact⟨(⟨_,_,_,_,_⟩,_),trivial,rfl⟩
      | ((refine aaL aM 3 (tkc [0, 1, 2, 3, 4, 5, 6, 7, 8, 9, 10, 11, 12, 13, 14] (.two 15 (.one 16 (.one 17 .done)) 16 (.one 15 (.one 17 .done)))) [] tk ae ae ae ae (fun Rz => ?_); (conv => whnf))
         repeat'((first|refine awz ?_|refine cP (lZ ⟨_,_,_,_,_⟩) ?_|refine aaG 1 _ rfl rfl ?_|refine aaG 2 _ rfl rfl ?_|refine aaG 3 _ rfl rfl ?_|refine aaG 4 _ rfl rfl ?_|refine aaG 5 _ rfl rfl ?_|refine tW ?_ ?_|intro h)<;>conv=>whnf)
         all_goals exact⟨(⟨_,_,_,_,_⟩,_),trivial,rfl⟩)
  · have hi:=wt l 7 6 ac;refine aV aM func434 rfl call434 ntmps434 (ace results434) λS=>?_;conv=>whnf
    repeat'(first|refine awz ?_|(refine cP (hi) ?_;conv=>whnf)|fail)
    all_goals exact⟨(⟨_,_,_,_,_⟩,_),trivial,rfl⟩
def xw:List (List Nat):=bC [0,1,2,0,4,5,0,29059,0,0x9207185103081209]
theorem Ry{l:List Int}(h0:l.length=8):∃a b c d e f g h,l=[a,b,c,d,e,f,g,h]:=by
  match l,h0 with
  |[a,b,c,d,e,f,g,h],_=>exact⟨a,b,c,d,e,f,g,h,rfl⟩
theorem Sd(l:List Int):cA av 345 [.one (.sl (l.map eI))] (λ_:DG×Bool=>True) (λy=> .tup [.agg y.1.ds,.one (dB y.2)]):=by
  by_cases h:l.length=8
  · obtain⟨a,b,c,d,e,f,g,k,rfl⟩:=Ry h;have hi:=wq a [b,c,d,e,f,g,k] 1 8 rfl;have hr:=MY [d,e,f,g,k];unfold pOp at hr;generalize (qx [d,e,f,g,k]).isSome=ok at hr;generalize (qx [d,e,f,g,k]).getD ⟨0,0,0,0,0⟩=o at hr;refine aV aM func345 rfl call345 ntmps345 (ace results345) λS=>?_;conv=>whnf
    repeat'((first|refine awz ?_|refine cP (hi) ?_|refine cP (hr) ?_|refine⟨3,8,by simp[L0],by simp[zI],ac,by simp,?_⟩|refine And.intro (λx hx=>by obtain⟨a,_,rfl⟩:=List.mem_map.1 hx;rfl) ?_|refine tW ?_ ?_|intro h)<;>conv=>whnf)
    all_goals first
      |exact⟨(⟨_,_,⟨_,_,_,_,_⟩⟩,_),trivial,rfl⟩
      | ((refine aaL aM 4 (tkc [0, 1, 2, 3, 4, 5, 6] (.two 7 (.one 8 (.one 9 .done)) 8 (.one 7 (.one 9 .done)))) [(4, 9980)] xw ae ae ae ae (fun Rz => ?_); (conv => whnf); intro bp0 up0; (conv => whnf))
         repeat'((first|refine awz ?_|refine cP (Ap ⟨_,_,o⟩) ?_|refine aaG 1 _ rfl rfl ?_|refine aaG 2 _ rfl rfl ?_|refine tW ?_ ?_|intro h)<;>conv=>whnf)
         all_goals first
           |exact⟨(⟨_,_,⟨_,_,_,_,_⟩⟩,_),trivial,rfl⟩
           |exact⟨(⟨_,_,o⟩,_),trivial,rfl⟩)
  · have hi:=wt l 1 8 ac;refine aV aM func345 rfl call345 ntmps345 (ace results345) λS=>?_;conv=>whnf
    repeat'(first|refine awz ?_|(refine cP (hi) ?_;conv=>whnf)|fail)
    all_goals exact⟨(⟨_,_,⟨_,_,_,_,_⟩⟩,_),trivial,rfl⟩
section
variable {last s:Int}{w:dD}
def xx:List (List Nat):=bC [0,1,0,3,0,0,6,0,8,2388292,10,706,12,0xd30b2892071851030812cd]
def xy:List (List Nat):=bC [0,1,0,3,0,0,6,28996,8,578,10,0xb28920718510308124b]
def zg(l:List cX):Prop:=l.length<=60/\∀m∈l,m.row.length<=1000
theorem zg.one{a b:Int}{r:List Int}(h:r.length<=1000):zg [⟨a,b,r⟩]:=⟨by simp,λm hm=>by rw[List.mem_singleton.1 hm];exact h⟩
theorem U1{a:fE}(h1:uy a=true)(h4:w.kind≠4)(h5:last<a.index):mR w ⟨s,a.index,0,0⟩ s last=true:=by
 simp only[uy,Bool.and_eq_true,aJ,decide_eq_true_eq]at h1;have h6:a.index<=2000:=by
  have h:=h1.2;split at h
  ·simp only[beq_iff_eq]at h;omega
  ·simp only[Bool.and_eq_true,decide_eq_true_eq]at h;omega
 simp[mR,aJ,h4];omega
theorem U2{v:Jg}(h1:Gy v=true)(h4:w.kind=4)(h5:last<=v.index):mR w ⟨s,v.index,v.has,v.value⟩ s last=true:=by
 simp only[Gy,Bool.and_eq_true,Bool.or_eq_true,aJ,decide_eq_true_eq,beq_iff_eq]at h1;simp[mR,aJ,h4];omega
theorem yV(c:bp)(h:A6 c)(e:c.gots.length=c.todo.length):aN av 379 [.agg c.ds] (.val (pI 0)):=by
 have h12:=h.len;have hg:=h.gl;have c1:=fk c ac ac;rw[h.ok]at c1;have q:(((c.gots.map pz.ds).length:Int)==((c.todo.map dD.ds).length:Int))=true:=by simp[e]
 refine pO func379 call379 ntmps379 results379 λS=>?_;conv=>whnf
 repeat'(first|refine awz ?_|(refine cP (c1) ?_;conv=>whnf)|exact rZ|fail)
theorem yW(c:bp)(h:A6 c)(e:c.gots.length<c.todo.length):aN av 379 [.agg c.ds] (.val (pI ((c.gots.length:Int)+1))):=by
 have h12:=h.len;have hg:=h.gl;have c1:=fk c ac ac;rw[h.ok]at c1;have q:(((c.gots.map pz.ds).length:Int)==((c.todo.map dD.ds).length:Int))=false:=al;rw[show(c.gots.length:Int)+1=((c.gots.map pz.ds).length:Int)+1 by rw[List.length_map]];refine pO func379 call379 ntmps379 results379 λS=>?_;conv=>whnf
 repeat'((first|refine awz ?_|refine cP (c1) ?_|refine aaH am am ?_|exact rZ|fail)<;>conv=>whnf)
theorem IM(c:bp)(h:A6 c):cA av 274 [.agg c.ds] zg (λy=> .val (.one (.sl (y.map cX.ds)))):=by
 have hg:=h.gl;have h12:=h.len;by_cases e:c.gots.length=c.todo.length
 ·have c1:=yV c h e;refine aV aM func274 rfl call274 ntmps274 (ace results274) λS=>?_;conv=>whnf
  repeat'(first|refine awz ?_|(refine cP (c1) ?_;conv=>whnf)|fail)
  all_goals exact⟨[],⟨by simp,by simp⟩,rfl⟩
 ·have hlt:c.gots.length<c.todo.length:=ac;have c1:=yW c h hlt;have q0:((c.gots.length:Int)+1==0)=false:=al;have gu:(c.todo.map dD.ds)[c.gots.length]? =some (dD.ds c.todo[c.gots.length]):=by rw[List.getElem?_map,List.getElem?_eq_getElem hlt];rfl
  generalize c.todo[c.gots.length]=w at gu;have c2:=OZ ⟨c.id,(c.gots.length:Int)+1,w.key,c.last⟩;have c3:=IE ⟨c.id,(c.gots.length:Int)+1,w.op⟩;by_cases hk:w.kind=4
  ·have q:(w.kind==4)=true:=by simpa using hk
   refine aV aM func274 rfl call274 ntmps274 (ace results274) λS=>?_;conv=>whnf
   repeat'((first|refine awz ?_|refine cP (c1) ?_|refine aaH ac ac ?_|refine aaG c.gots.length _ ac gu ?_|fail)<;>conv=>whnf)
   (refine aaL aM 6 (tkc [0,1,2,3,4,5,6,7,8] (onc [9,10,11,12] (.take 13 .done))) [(1,9980),(4,9981)] xx ae ae ae ae (λRz=>?_);(conv=>whnf);intro bp0 up0;(conv=>whnf);intro bp1 up1;(conv=>whnf))
   repeat'(first|refine awz ?_|(refine aI.q c2 rfl λy hy=>?_;conv=>whnf)|fail)
   all_goals exact⟨[⟨c.id,1,y⟩],.one (Nat.le_trans hy ai),rfl⟩
  ·have q:(w.kind==4)=false:=by simpa using hk
   refine aV aM func274 rfl call274 ntmps274 (ace results274) λS=>?_;conv=>whnf
   repeat'((first|refine awz ?_|refine cP (c1) ?_|refine aaH ac ac ?_|refine aaG c.gots.length _ ac gu ?_|fail)<;>conv=>whnf)
   (refine aaL aM 7 (tkc [0,1,2,3,4,5,6] (onc [7,8,9,10] (.take 11 .done))) [(1,9980),(4,9981)] xy ae ae ae ae (λRz=>?_);(conv=>whnf);intro bp0 up0;(conv=>whnf);intro bp1 up1;(conv=>whnf))
   repeat'(first|refine awz ?_|(refine aI.q c3 rfl λy hy=>?_;conv=>whnf)|fail)
   all_goals exact⟨[⟨c.id,0,y⟩],.one (Nat.le_trans hy ai),rfl⟩
theorem Pk(x:bp)(hs:aaR 1048576 x):dd av 113 [.agg (x.ds.map .d)] [] [(9,.row 208 4 (x.gots.map pz.ds))] [] (.val (.agg [.d (dI x.id),.d (.sl (x.todo.map dD.ds)),.own 9,.d (dI x.last)])):=by
 obtain⟨h1,h2⟩:=(show x.todo.length<=1048576/\x.gots.length<=1048576 from hs);refine cH aM func113 rfl call113 ntmps113 (ace results113) rfl λS pv=>?_;conv=>whnf
 repeat'(first|refine awz ?_|fail)
 (refine aaL aM 1 (tkc [0,1,3,4,7,8,10,11] (.two 2 (.two 5 (onc [6,9,12,13] .done) 6 (onc [5,9,12,13] .done)) 6 (onc [2,5,9,12,13] .done))) [(1,9980)] lC ae ae ae ae (λRz=>?_);(conv=>whnf);intro bp0 up0;(conv=>whnf))
 repeat'((first|refine awz ?_|refine aW (by first|(intro y hy;obtain⟨a,_,rfl⟩:=List.mem_map.1 hy;rfl)|(simp;done)) ?_|refine a7 ak ?_|exact rZ|refine tW ?_ ?_|fail)<;>conv=>whnf)
theorem C0(c:bp)(g:pz)(hs:aaR 1048576 c):aN av 467 [.agg c.ds,.agg g.ds] (.val (.agg (rA c g).ds)):=by
 obtain⟨h1,h2⟩:=(show c.todo.length<=1048576/\c.gots.length<=1048576 from id hs);have e:(rA c g).ds=[dI c.id,.sl (c.todo.map dD.ds),.sl (c.gots.map pz.ds++[g.ds]),dI g.index]:=by simp[rA,bp.ds]
 rw[e];refine pO func467 call467 ntmps467 results467 λS=>?_;conv=>whnf
 repeat'((first|refine awz ?_|refine aaI (Pk c hs) [(9,49)] rfl rfl ?_|refine a7 ak ?_|exact rZ|fail)<;>conv=>whnf)
def SK(c y:bp):Prop:=A6 y/\y.id=c.id
theorem MO(c:bp)(a:fE)(hC:A6 c):cA av 433 [.agg c.ds,.agg a.ds] (SK c) (λy=> .val (.agg y.ds)):=by
 have hg:=hC.gl;have h12:=hC.len;have hs:=kR hC.ok;have c0:=fk c ac ac;rw[hC.ok]at c0;have c4:=sy c hs;by_cases e:c.gots.length=c.todo.length
 ·have c1:=yV c hC e;refine aV aM func433 rfl call433 ntmps433 (ace results433) λS=>?_;conv=>whnf
  repeat'((first|refine awz ?_|refine cP (c0) ?_|refine cP (c1) ?_|refine cP (c4) ?_|fail)<;>conv=>whnf)
  all_goals exact⟨c,⟨hC,rfl⟩,rfl⟩
 ·have hlt:c.gots.length<c.todo.length:=ac;have c1:=yW c hC hlt;have q0:((c.gots.length:Int)+1==0)=false:=al;have gu:(c.todo.map dD.ds)[c.gots.length]? =some (dD.ds c.todo[c.gots.length]):=by rw[List.getElem?_map,List.getElem?_eq_getElem hlt];rfl
  have gw:c.todo.getD c.gots.length ⟨0,op0,0⟩=c.todo[c.gots.length]:=by rw[List.getD_eq_getElem?_getD,List.getElem?_eq_getElem hlt];rfl
  generalize c.todo[c.gots.length]=w at gu gw;have c5:=C0 c ⟨(c.gots.length:Int)+1,a.index,0,0⟩ hs;have key:uy a=true->w.kind≠4->c.last<a.index->SK c (rA c ⟨(c.gots.length:Int)+1,a.index,0,0⟩):=λk1 k2 k3=>⟨HZ hC hlt (by rw[gw];exact U1 k1 k2 k3),rfl⟩;refine aV aM func433 rfl call433 ntmps433 (ace results433) λS=>?_;conv=>whnf
  repeat'((first|refine awz ?_|refine cP (c0) ?_|refine cP (c1) ?_|refine cP (c4) ?_|refine cP (c5) ?_|refine cP (n8 a) ?_|refine aaH ac ac ?_|refine aaG c.gots.length _ ac gu ?_|refine tW ?_ ?_|intro h)<;>conv=>whnf)
  all_goals first
   |exact⟨c,⟨hC,rfl⟩,rfl⟩
   |(rename_i k1 k2 k3 k4;refine⟨_,key ?_ ?_ ?_,rfl⟩<;>(simp only[Bool.not_eq_false',beq_eq_false_iff_ne,ne_eq,decide_eq_false_iff_not]at k1 k4 h<;>first|assumption|omega))
theorem GW(c:bp)(a:Jg)(hC:A6 c):cA av 435 [.agg c.ds,.agg a.ds] (SK c) (λy=> .val (.agg y.ds)):=by
 have hg:=hC.gl;have h12:=hC.len;have hs:=kR hC.ok;have c0:=fk c ac ac;rw[hC.ok]at c0;have c4:=sy c hs;by_cases e:c.gots.length=c.todo.length
 ·have c1:=yV c hC e;refine aV aM func435 rfl call435 ntmps435 (ace results435) λS=>?_;conv=>whnf
  repeat'((first|refine awz ?_|refine cP (c0) ?_|refine cP (c1) ?_|refine cP (c4) ?_|fail)<;>conv=>whnf)
  all_goals exact⟨c,⟨hC,rfl⟩,rfl⟩
 ·have hlt:c.gots.length<c.todo.length:=ac;have c1:=yW c hC hlt;have q0:((c.gots.length:Int)+1==0)=false:=al;have gu:(c.todo.map dD.ds)[c.gots.length]? =some (dD.ds c.todo[c.gots.length]):=by rw[List.getElem?_map,List.getElem?_eq_getElem hlt];rfl
  have gw:c.todo.getD c.gots.length ⟨0,op0,0⟩=c.todo[c.gots.length]:=by rw[List.getD_eq_getElem?_getD,List.getElem?_eq_getElem hlt];rfl
  generalize c.todo[c.gots.length]=w at gu gw;have c5:=C0 c ⟨(c.gots.length:Int)+1,a.index,a.has,a.value⟩ hs;have key:Gy a=true->w.kind=4->c.last<=a.index->SK c (rA c ⟨(c.gots.length:Int)+1,a.index,a.has,a.value⟩):=λk1 k2 k3=>⟨HZ hC hlt (by rw[gw];exact U2 k1 k2 k3),rfl⟩;refine aV aM func435 rfl call435 ntmps435 (ace results435) λS=>?_;conv=>whnf
  repeat'((first|refine awz ?_|refine cP (c0) ?_|refine cP (c1) ?_|refine cP (c4) ?_|refine cP (c5) ?_|refine cP (lZ a) ?_|refine aaH ac ac ?_|refine aaG c.gots.length _ ac gu ?_|refine tW ?_ ?_|intro h)<;>conv=>whnf)
  all_goals first
   |exact⟨c,⟨hC,rfl⟩,rfl⟩
   |(rename_i k1 k2 k3 k4;refine⟨_,key ?_ ?_ ?_,rfl⟩<;>(simp only[Bool.not_eq_false',bne_eq_false_iff_eq,decide_eq_false_iff_not]at k1 k4 h<;>first|assumption|omega))
end
end Go.Proofs.YthgkdhnlehneeaaGreatDoor
