/- RB1 -/
import Derived.Test.YtknefkdcokgpbaaGreatWC2
import Derived.Test.YtknefkdcokgpbaaGreatWB3
set_option maxHeartbeats 8000000
set_option linter.unusedVariables false
set_option linter.unusedSimpArgs false
set_option maxRecDepth 100000
open List (flatMap_cons length_cons length_map length_nil)
namespace Go.Proofs.YtknefkdcokgpbaaGreat
open Go.Proofs.Tryz
open Go.ChangeShapes Go.WideShapes Go.RowKit
variable {l:List DJob}{k:Nat}
def pM:List (List Nat):=bZ [0,0,0,194,4,5,0,0,519,9,10,710,769,0xd30b28920718510308134d]
def oM:List (List Nat):=bZ [0,0,0,194,4,5,0,0,519,9,10,0,0,844,14,15,0,0,1169,19,20,0,0,1494,24,25,441778886,1729,0x71b69961759551349140f38d30b28920718510308171c]
theorem Cf(h:cW l=true):l.length<=8:=by
 simp only[cW,Bool.and_eq_true,decide_eq_true_eq]at h;exact h.1.1.1
def ik(l:List DPair)(k:Nat):List Int:=(l.length:Int)::(l.take k).flatMap λp=>[p.key,p.value]
theorem CH(l:List DPair)(k:Nat):(ik l k).length<=1+5*l.length:=by
 have h1:(l.take k).length<=l.length:=by rw[List.length_take];omega
 have h2:∀m:List DPair,(m.flatMap λp=>[p.key,p.value]).length<=5*m.length:=by
  intro m;induction m with
  |nil=>simp
  |cons p r ih=>simp only[flatMap_cons,List.length_append,length_cons,length_nil];omega
 have:=h2 (l.take k);simp only[ik,length_cons];omega
theorem zj{l:List DPair}(hk:k<l.length):(ik l (k+1)).map eI=(ik l k).map eI++((λp:DPair=>[p.key,p.value]) l[k]).map eI:=by
 have e:l.take (k+1)=l.take k++[l[k]]:=by rw[List.take_add_one,List.getElem?_eq_getElem hk];rfl
 unfold ik;rw[e,List.flatMap_append];simp only[List.map_cons,List.map_append,flatMap_cons,List.flatMap_nil,List.append_nil,List.cons_append]
theorem zv(l:List DPair)(h:cM l=true):aM av 462 [.one (.sl (l.map DPair.ds))] (.val (.one (.sl ((jk l).map eI)))):=by
 have hm:=jY h;have n1:(!cM l)=false:=by rw[h];rfl
 refine pO func462 call462 ntmps462 results462 λS=>?_;conv=>whnf
 repeat'(first|refine awz ?_|(refine cP (gy l) ?_;conv=>whnf)|fail)
 have E0:([[AD.pv (Value.int .i64 ((l.map DPair.ds).length:Int))]]:List (List AD))=(ik l 0).map eI:=by rw[length_map];rfl
 refine X5 (λk:Nat=>k<=l.length) (11::[3,4,12,13,14,15,16,17,18,19,20,21,22,23,24,25,26,27,28,29,30]) (λk=>[(3,.one (.own 11)),(4,vI .i64 (k:Int))]) (λk=>[(11,.row 2 1 ((ik l k).map eI))]) (λk=>l.length-k) 0 (Nat.zero_le _) ?_ (X0 (congrArg some (congrArg (AO.row 2 1) E0)) X4) (λk hk=>?_)<;>(conv=>whnf)
 ·exact whd
 ·have htl:=CH l k;by_cases hlt:k<l.length
  ·have hc:decide ((k:Int)<((l.map DPair.ds).length:Int))=true:=by simp only[decide_eq_true_eq,length_map];omega
   have hs:=zj hlt;repeat'(first|refine awz ?_|fail)
   (refine X7 aN 7 (tkc [0,1,2,3,4,5,6,7,8,9,10] (.one 11 (.one 12 (.take 13 .done)))) [] pM ae ae ae ae (λRz=>?_);(conv=>whnf))
   repeat'((first|refine awz ?_|refine Yg hlt ?_|refine aJ (by simp only[length_map,length_nil,length_cons]<;>omega) ?_|refine X3 ac ac ?_|fail)<;>conv=>whnf)
   all_goals
    refine bd.mk ⟨k+1,hlt,ac,?_,X0 (by rw[hs];rfl) X4⟩;exact hds
  ·have e:k=l.length:=ac;subst e;have hc:decide ((l.length:Int)<((l.map DPair.ds).length:Int))=false:=aj;have et:ik l l.length=jk l:=by simp[ik,jk]
   rw[et];repeat'(first|refine awz ?_|exact rZ|fail)
def kr(l:List DJob)(k:Nat):List Int:=(l.length:Int)::(l.take k).flatMap λp=>[p.id,p.due,p.key,p.value,p.fired]
theorem Fa(l:List DJob)(k:Nat):(kr l k).length<=1+5*l.length:=by
 have h1:(l.take k).length<=l.length:=by rw[List.length_take];omega
 have h2:∀m:List DJob,(m.flatMap λp=>[p.id,p.due,p.key,p.value,p.fired]).length<=5*m.length:=by
  intro m;induction m with
  |nil=>simp
  |cons p r ih=>simp only[flatMap_cons,List.length_append,length_cons,length_nil];omega
 have:=h2 (l.take k);simp only[kr,length_cons];omega
theorem Ce(hk:k<l.length):(kr l (k+1)).map eI=(kr l k).map eI++((λp:DJob=>[p.id,p.due,p.key,p.value,p.fired]) l[k]).map eI:=by
 have e:l.take (k+1)=l.take k++[l[k]]:=by rw[List.take_add_one,List.getElem?_eq_getElem hk];rfl
 unfold kr;rw[e,List.flatMap_append];simp only[List.map_cons,List.map_append,flatMap_cons,List.flatMap_nil,List.append_nil,List.cons_append]
theorem xp(l:List DJob)(h:cW l=true):aM av 463 [.one (.sl (l.map DJob.ds))] (.val (.one (.sl ((m9 l).map eI)))):=by
 have hm:=Cf h;have n1:(!cW l)=false:=by rw[h];rfl
 refine pO func463 call463 ntmps463 results463 λS=>?_;conv=>whnf
 repeat'(first|refine awz ?_|(refine cP (iA l) ?_;conv=>whnf)|fail)
 have E0:([[AD.pv (Value.int .i64 ((l.map DJob.ds).length:Int))]]:List (List AD))=(kr l 0).map eI:=by rw[length_map];rfl
 refine X5 (λk:Nat=>k<=l.length) (11::[3,4,12,13,14,15,16,17,18,19,20,21,22,23,24,25,26,27,28,29,30,31,32,33,34,35,36,37,38,39,40,41,42,43,44,45]) (λk=>[(3,.one (.own 11)),(4,vI .i64 (k:Int))]) (λk=>[(11,.row 2 1 ((kr l k).map eI))]) (λk=>l.length-k) 0 (Nat.zero_le _) ?_ (X0 (congrArg some (congrArg (AO.row 2 1) E0)) X4) (λk hk=>?_)<;>(conv=>whnf)
 ·exact whd
 ·have htl:=Fa l k;by_cases hlt:k<l.length
  ·have hc:decide ((k:Int)<((l.map DJob.ds).length:Int))=true:=by simp only[decide_eq_true_eq,length_map];omega
   have hs:=Ce hlt;repeat'(first|refine awz ?_|fail)
   (refine X7 aN 7 (tkc [0,1,2,3,4,5,6,7,8,9,10,11,12,13,14,15,16,17,18,19,20,21,22,23,24,25] (.one 26 (.one 27 (.take 28 .done)))) [] oM ae ae ae ae (λRz=>?_);(conv=>whnf))
   repeat'((first|refine awz ?_|refine Yg hlt ?_|refine aJ (by simp only[length_map,length_nil,length_cons]<;>omega) ?_|refine X3 ac ac ?_|fail)<;>conv=>whnf)
   all_goals
    refine bd.mk ⟨k+1,hlt,ac,?_,X0 (by rw[hs];rfl) X4⟩;exact hds
  ·have e:k=l.length:=ac;subst e;have hc:decide ((l.length:Int)<((l.map DJob.ds).length:Int))=false:=aj;have et:kr l l.length=m9 l:=by simp[kr,m9]
   rw[et];repeat'(first|refine awz ?_|exact rZ|fail)
theorem zt(l:DLease)(h:ii l=true):aM av 464 [.agg l.ds] (.val (.one (.sl ([l.holder,l.epoch,l.til].map eI)))):=by
 have n1:(!ii l)=false:=by rw[h];rfl
 refine pO func464 call464 ntmps464 results464 λS=>?_;conv=>whnf
 repeat'(first|refine awz ?_|(refine cP (iT l) ?_;conv=>whnf)|exact rZ|fail)
theorem zQ(s:DState)(h:cn s=true):aM av 414 [.agg s.ds] (.val (.one (.sl ((bH s).map eI)))):=by
 obtain⟨h1,h2,h3,h4,h5⟩:=dm h;have hp:=jY h3;have hj:=Cf h4;have lp:(jk s.pairs).length=1+2*s.pairs.length:=by simp only[jk,length_cons,np];omega
 have lj:(m9 s.jobs).length=1+5*s.jobs.length:=by simp only[m9,length_cons,oC];omega
 have n1:(!cn s)=false:=by rw[h];rfl
 refine pO func414 call414 ntmps414 results414 λS=>?_;conv=>whnf
 repeat'((first|refine awz ?_|refine cP (eN s ac) ?_|refine cP (zv s.pairs h3) ?_|refine cP (xp s.jobs h4) ?_|refine cP (zt s.lease h5) ?_|refine aI (by first|(intro y hy;obtain⟨a,_,rfl⟩:=List.mem_map.1 hy;rfl)|(simp;done)) ?_|refine aJ (by simp only[length_map,length_nil,length_cons,List.length_append,lp,lj]<;>omega) ?_|fail)<;>conv=>whnf)
 all_goals(simp[bH,eI];done)
end Go.Proofs.YtknefkdcokgpbaaGreat
