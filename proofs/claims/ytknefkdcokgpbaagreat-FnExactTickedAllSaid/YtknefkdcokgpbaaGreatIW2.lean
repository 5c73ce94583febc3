/- IW2 -/
import Derived.Test.YtknefkdcokgpbaaGreatIW1
import Derived.Test.YtknefkdcokgpbaaGreatAvNS
import Derived.Test.YtknefkdcokgpbaaGreatAvVC
import Derived.Test.YtknefkdcokgpbaaGreatAvFX
set_option maxHeartbeats 8000000
set_option linter.unusedVariables false
set_option linter.unusedSimpArgs false
set_option maxRecDepth 100000
namespace Go.Proofs.YtknefkdcokgpbaaGreat
open Go.Proofs.Tryz
open Go.ChangeShapes Go.WideShapes Go.RowKit
theorem EY(d:DDisk)(a:Int)(h:cG d=true)(ha:aK a 0 ((d.kept.length:Int)-1)=true):aM av 475 [.agg d.ds,pI a] (.tup [.one (.sl ((pn d a).map eI)),.one (dB true)]):=by
 obtain⟨f1,f2,f3,f4,f5⟩:=dc h;have dk:=fS d;rw[h]at dk;have se:=lJ d a f2;rw[ha]at se;have har:0<=a/\a<=(d.kept.length:Int)-1:=by simpa[aK]using ha
 refine pO func475 call475 ntmps475 results475 λS=>?_;conv=>whnf
 repeat'((first|refine awz ?_|refine cP (dk) ?_|refine cP (se) ?_|refine X3 ari ari ?_|fail)<;>conv=>whnf)
 refine X5 (λk:Nat=>k<=d.wait.length/\∀(i:Nat) (hi:i<d.wait.length),k<=i->d.wait[i].at_≠a) (4::5::6::rg 20 19) (λk=>[(6,vI .i64 ((k:Int)-1))]) (λk=>[(2,.cells 69 (d.ds.map .d))]) (λk=>k) (d.wait.map DWrite.ds).length ⟨by simp,λi hi hk=>by simp at hk;omega⟩ ?_ sbW (λk hk=>?_)<;>(conv=>whnf)
 ·exact whd
 ·obtain⟨hk,hall⟩:=hk;cases k with
  |zero=>
   have hc:decide (((0:Nat):Int)-1>=0)=false:=ah;have e:pn d a=d.kept[a.toNat]'(ac):=by
    show zl d.kept d.wait a=_;rw[CK λi hi=>hall i hi (Nat.zero_le _),List.getD_eq_getElem?_getD,List.getElem?_eq_getElem ac];first|rfl|done
   have h48:=dM (f4 _ (List.getElem_mem (show a.toNat<d.kept.length by omega)));rw[e];repeat'((first|refine awz ?_|refine AIx.int har.1 ac ?_|refine cP (lc (d.kept[a.toNat]'(ac)) ac) ?_|exact rZ|fail)<;>conv=>whnf)
  |succ k=>
   have hlt:k<d.wait.length:=ac;have hc:decide ((((k+1:Nat):Int)-1)>=0)=true:=by simp only[decide_eq_true_eq,ge_iff_le];omega
   have hix:(((k+1:Nat):Int)-1)=(k:Int):=ac;have h48:=dM (gC (f5 _ (List.getElem_mem hlt))).2;by_cases hw:d.wait[k].at_=a
   ·have e:pn d a=d.wait[k].row:=Fo hlt hw λi hi hki=>hall i hi hki;have hb:(d.wait[k].at_==a)=true:=by simpa using hw
    rw[e];repeat'((first|refine awz ?_|refine X8 k (DWrite.ds d.wait[k]) hix (by simp[hlt]) ?_|refine cP (lc d.wait[k].row ac) ?_|exact rZ|fail)<;>conv=>whnf)
   ·have hb:(d.wait[k].at_==a)=false:=by simpa using hw
    repeat'((first|refine awz ?_|refine X8 k (DWrite.ds d.wait[k]) hix (by simp[hlt]) ?_|refine X3 ac ac ?_|fail)<;>conv=>whnf)
    refine bd.mk ⟨k,⟨ac,λi hi hki=>?_⟩,ac,?_,sbW⟩
    ·rcases Nat.eq_or_lt_of_le hki with e|e
     ·subst e;exact hw
     ·exact hall i hi e
    ·rw[hix];exact hds
def fY:List (List Nat):=bZ [0,1,0,3,4,322,6,0x7185103081147]
def iN:List (List Nat):=bZ [0,0,2,0,4,323,6,20929,0x207185103081208]
theorem nT{j:DJobs}(h:eE j=true):j.opens.length<=8/\(∀d∈j.opens,1<=d.id/\d.id<=20)/\0<=j.epoch/\j.epoch<=1000:=by
 simp only[eE,Bool.and_eq_true,decide_eq_true_eq,List.all_eq_true,aK]at h;refine⟨h.1.1.1.2,λd hd=>?_,h.1.1.1.1.1.2⟩;have:=h.1.1.2 d hd;simp only[jo,aK,Bool.and_eq_true,decide_eq_true_eq]at this;exact this.1
theorem tC(j:DJobs)(h:j.opens.length<=1048576):aM av 416 [.agg j.ds] (.val (.agg j.ds)):=by
 refine pO func416 call416 ntmps416 results416 λS=>?_;conv=>whnf
 repeat'((first|refine awz ?_|refine aI (by first|(intro y hy;obtain⟨a,_,rfl⟩:=List.mem_map.1 hy;rfl)|(simp;done)) ?_|refine aJ ao ?_|exact rZ|fail)<;>conv=>whnf)
theorem De(v:DView)(h:v.jobs.opens.length<=1048576):aM av 343 [.agg v.ds] (.val (.agg v.ds)):=by
 refine pO func343 call343 ntmps343 results343 λS=>?_;conv=>whnf
 repeat'(first|refine awz ?_|(refine cP (tC v.jobs h) ?_;conv=>whnf)|exact rZ|fail)
theorem Mo(s:DSched)(h:s.view.jobs.opens.length<=1048576):aM av 256 [.agg s.ds] (.val (.agg s.ds)):=by
 refine pO func256 call256 ntmps256 results256 λS=>?_;conv=>whnf
 repeat'(first|refine awz ?_|(refine cP (De s.view h) ?_;conv=>whnf)|exact rZ|fail)
end Go.Proofs.YtknefkdcokgpbaaGreat
