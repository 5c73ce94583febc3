/- WU5 -/
import Derived.Test.YtehobfglmeiglaaGreatDoorWU4
import Derived.Test.YtehobfglmeiglaaGreatDoorWU3
set_option linter.unusedVariables false
set_option linter.unusedSimpArgs false
set_option maxRecDepth 100000
namespace Go.Proofs.YtehobfglmeiglaaGreatDoor
open Go.Proofs.Tryz
open Go.ChangeShapes Go.WideShapes Go.RowKit
def ip:List (List Nat):=bk [0,1,0,12417,0,84938883,0,487529648389,0,2568807072149895,0,12864277457209938441,0,62286729826610972226187,609483992489319646409613,294138144408791698186715202]
def ir:List (List Nat):=bj 13 [1195740,1195741,1195730,1195735,1195640,1195681,1194830,1195195,1187540,1190821,1121930,1151455,531440]
def iq:List (List Nat):=bk [0,0,0,131,16578,0,0,391,33222,22130962227656,20864820279521413,12772784971959796353]
def it:List (List Nat):=bj 10 [59046,19460,19448,19454,19481,1700,728,1214,3401,9842]
def eV:List (List Nat):=bk [0,0,2,4290,1056961]
def eX:List (List Nat):=bj 3 [24,2,5]
theorem rt:aj av 22 [] (.val (.one (dSs bf))):=by
 refine ae ah func22 rfl call22 ntmps22 (MC results22) λS=>?_;conv=>whnf
 repeat'((first|refine aw0 ?_|refine awx ?_|exact rr|refine And.intro rfl ?_|refine AB.mk (λh=>?_) (λh=>?_))<;>conv=>whnf)
 rfl
def mH(w:DWorld):List (List Int):=[aM w,aH w,ar w 2,ar w 3,ax w 4,ax w 5,aV w]
theorem Bt(w:DWorld){k:Nat}(hk:k<7):(mH w)[k]'hk=ci w k:=by
 have:k=0\/k=1\/k=2\/k=3\/k=4\/k=5\/k=6:=by omega
 rcases this with rfl|rfl|rfl|rfl|rfl|rfl|rfl<;>rfl
abbrev eR(l:List Int):List AD:=[.sl (l.map eI)]
theorem n4(w:DWorld)(hs:DWorld.small 1048576 w):aj av 5 [.agg w.ds] (rL (bM w)):=by
 cases hw:ay w with
 |false=>
  have hn:(!ay w)=true:=by rw[hw];rfl
  have e:bM w=[]:=by simp[bM,hw]
  rw[e]
  refine ae ah func5 rfl call5 ntmps5 (MC results5) λS=>?_;conv=>whnf
  repeat'((first|refine aw0 ?_|refine awx ?_|refine cP (aF w hs) ?_|exact rr|refine And.intro rfl ?_|refine AB.mk (λh=>?_) (λh=>?_))<;>conv=>whnf)
 |true=>
  have hn:(!ay w)=false:=by rw[hw];rfl
  have e:bM w=txt w 7:=by simp[bM,hw]
  rw[e]
  refine ae ah func5 rfl call5 ntmps5 (MC results5) λS=>?_;conv=>whnf
  repeat'((first|refine aw0 ?_|refine awx ?_|refine cP (aF w hs) ?_|exact rr|refine And.intro rfl ?_|refine AB.mk (λh=>?_) (λh=>?_))<;>conv=>whnf)
  (refine AWP.drawK ah 3 13 ip ir Mp Mp Mp rfl ?_;conv=>whnf)
  repeat'((first|refine aw0 ?_|refine awx ?_|refine cP (pN w hs) ?_|refine cP (mI w hs) ?_|refine cP (fd w 2 hs) ?_|refine cP (fd w 3 hs) ?_|refine cP (d7 w 4 hs) ?_|refine cP (d7 w 5 hs) ?_|refine cP (pO w hs) ?_|refine cP (rt) ?_|exact rr|refine And.intro rfl ?_|refine AB.mk (λh=>?_) (λh=>?_))<;>conv=>whnf)
  refine AWP.loopS (λk:Nat=>k<=7) (4::[4,6,26,27,28,29,30,31,32,33,34,35,36,37,38,39,40,41,42]) (λk=>[(4,.one (.d (dL (txt w k)))),(6,vI .i64 (k:Int))]) (λk=>[(24,.row 62 1 ((mH w).map eR))]) (λk=>7-k) 0 Mo ?_ (ak.cons rfl ak.nil) (λk hR=>?_)<;>(conv=>whnf)
  ·exact whd
  ·have h7:bf.length=7:=rfl
   have h7r:(mH w).length=7:=rfl
   by_cases hlt:k<bf.length
   ·have hn5:=qp hlt
    have hg:=tW hs k
    have htx:=xU hs k Mo
    have hll:=rk hn5 hg
    have hget:((mH w).map eR)[k]? =some (eR (ci w k)):=by
     have hk7:k<7:=by omega
     have hkl:k<(mH w).length:=hk7
     have:=Bt w hk7
     rw[List.getElem?_map,List.getElem?_eq_getElem hkl]
     show some (eR ((mH w)[k]'hk7))=some (eR (ci w k))
     rw[this]
    have hc:decide ((k:Int)<(((mH w).map eR).length:Int))=true:=by simp;omega
    have hsucc:=mM w hlt
    repeat'((first|refine aw0 ?_|refine awx ?_|exact rr|refine And.intro rfl ?_|refine AB.mk (λh=>?_) (λh=>?_))<;>conv=>whnf)
    (refine AWP.drawK ah 9 10 iq it Mp Mp Mp rfl ?_;conv=>whnf)
    repeat'((first|refine aw0 ?_|refine awx ?_|refine AIx.at k _ rfl hget ?_|refine AIx.map hlt ?_|refine cP (uo bf[k] hn5 (ci w k) hg) ?_|refine xM My ?_|refine AW.i64 Mo Mo ?_|exact rr|refine And.intro rfl ?_|refine AB.mk (λh=>?_) (λh=>?_))<;>conv=>whnf)
    refine aB.mk ⟨k+1,hlt,by omega,?_,ak.cons rfl ak.nil⟩
    rw[hsucc]
    exact hds
   ·have e7:k=7:=by omega
    subst e7
    have hc:decide (((7:Nat):Int)<(((mH w).map eR).length:Int))=false:=by simp[h7r]
    repeat'((first|refine aw0 ?_|refine awx ?_|exact rr|refine And.intro rfl ?_|refine AB.mk (λh=>?_) (λh=>?_))<;>conv=>whnf)
theorem lawReportText_p(w:DWorld)(hs:DWorld.small 9223372036854775807 w):aj av 3 [.agg w.ds] (rB true):=by
 have hne:(!((⟨(bM w).toArray⟩:ByteArray).toList==(⟨(bM w).toArray⟩:ByteArray).toList))=false:=by simp
 refine ae ah func3 rfl call3 ntmps3 (MC results3) λS=>?_;conv=>whnf
 repeat'((first|refine aw0 ?_|refine awx ?_|refine cP (wO w 1048576 Mq Mq hs) ?_|exact rr|refine And.intro rfl ?_|refine AB.mk (λh=>?_) (λh=>?_))<;>conv=>whnf)
 have hc:w.cnt<=1048576:=by
  simp only[decide_eq_false_iff_not]at h
  omega
 have hs':DWorld.small 1048576 w:=DWorld.cnt_small hc
 clear h
 repeat'((first|refine aw0 ?_|refine awx ?_|refine AWP.drawK ah 10 3 eV eX Mp Mp Mp rfl ?_|refine cP (wR w hs') ?_|refine cP (n4 w hs') ?_|refine cP (nS w hs') ?_|refine cP (vG w hs') ?_|exact rr|refine And.intro rfl ?_|refine AB.mk (λh=>?_) (λh=>?_))<;>conv=>whnf)
 all_goals first
  |rfl
  |(exfalso;simp at h;done)
end Go.Proofs.YtehobfglmeiglaaGreatDoor
