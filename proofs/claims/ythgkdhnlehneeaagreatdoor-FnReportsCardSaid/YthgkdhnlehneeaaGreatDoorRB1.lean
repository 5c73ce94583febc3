/- RB1 -/
import Derived.Test.YthgkdhnlehneeaaGreatDoorWC2
import Derived.Test.YthgkdhnlehneeaaGreatDoorWB3
set_option maxHeartbeats 8000000
set_option linter.unusedVariables false
set_option linter.unusedSimpArgs false
set_option maxRecDepth 100000
open List (flatMap_cons length_cons length_map length_nil)
namespace Go.Proofs.YthgkdhnlehneeaaGreatDoor
open Go.Proofs.Tryz
open Go.ChangeShapes Go.WideShapes Go.RowKit
variable {l:List bo}{k:Nat}
def qU:List (List Nat):=bC [0,0,0,194,4,5,0,0,519,9,10,710,769,0xd30b28920718510308134d]
def pM:List (List Nat):=bC [0,0,0,194,4,5,0,0,519,9,10,0,0,844,14,15,0,0,1169,19,20,0,0,1494,24,25,441778886,1729,0x71b69961759551349140f38d30b28920718510308171c]
theorem LV(h:bO l=true):l.length<=8:=by
 simp only[bO,Bool.and_eq_true,decide_eq_true_eq]at h;exact h.1.1.1
def sa(l:List br)(k:Nat):List Int:=(l.length:Int)::(l.take k).flatMap λp=>[p.key,p.value]
theorem Oz(l:List br)(k:Nat):(sa l k).length<=1+5*l.length:=by
 have h1:(l.take k).length<=l.length:=by rw[List.length_take];omega
 have h2:∀m:List br,(m.flatMap λp=>[p.key,p.value]).length<=5*m.length:=by
  intro m;induction m with
  |nil=>simp
  |cons p r ih=>simp only[flatMap_cons,List.length_append,length_cons,length_nil];omega
 have:=h2 (l.take k);simp only[sa,length_cons];omega
theorem Ml{l:List br}(hk:k<l.length):(sa l (k+1)).map eI=(sa l k).map eI++((λp:br=>[p.key,p.value]) l[k]).map eI:=by
 have e:l.take (k+1)=l.take k++[l[k]]:=by rw[List.take_add_one,List.getElem?_eq_getElem hk];rfl
 unfold sa;rw[e,List.flatMap_append];simp only[List.map_cons,List.map_append,flatMap_cons,List.flatMap_nil,List.append_nil,List.cons_append]
theorem CV(l:List br)(h:bS l=true):aN av 477 [.one (.sl (l.map br.ds))] (.val (.one (.sl ((vV l).map eI)))):=by
 have hm:=jm h;have n1:(!bS l)=false:=by rw[h];rfl
 refine pO func477 call477 ntmps477 results477 λS=>?_;conv=>whnf
 repeat'(first|refine awz ?_|(refine cP (fB l) ?_;conv=>whnf)|fail)
 have E0:([[AD.pv (Value.int .i64 ((l.map br.ds).length:Int))]]:List (List AD))=(sa l 0).map eI:=by rw[length_map];rfl
 refine aaK (λk:Nat=>k<=l.length) (11::[3,4,12,13,14,15,16,17,18,19,20,21,22,23,24,25,26,27,28,29,30]) (λk=>[(3,.one (.own 11)),(4,vI .i64 (k:Int))]) (λk=>[(11,.row 2 1 ((sa l k).map eI))]) (λk=>l.length-k) 0 (Nat.zero_le _) ?_ (aaC (congrArg some (congrArg (AO.row 2 1) E0)) aaE) (λk hk=>?_)<;>(conv=>whnf)
 ·exact whd
 ·have htl:=Oz l k;by_cases hlt:k<l.length
  ·have hc:decide ((k:Int)<((l.map br.ds).length:Int))=true:=by simp only[decide_eq_true_eq,length_map];omega
   have hs:=Ml hlt;repeat'(first|refine awz ?_|fail)
   (refine aaL aM 7 (tkc [0,1,2,3,4,5,6,7,8,9,10] (.one 11 (.one 12 (.take 13 .done)))) [] qU ae ae ae ae (λRz=>?_);(conv=>whnf))
   repeat'((first|refine awz ?_|refine aaM hlt ?_|refine a7 (by simp only[length_map,length_nil,length_cons]<;>omega) ?_|refine aaH ac ac ?_|fail)<;>conv=>whnf)
   all_goals
    refine a8.mk ⟨k+1,hlt,ac,?_,aaC (by rw[hs];rfl) aaE⟩;exact hds
  ·have e:k=l.length:=ac;subst e;have hc:decide ((l.length:Int)<((l.map br.ds).length:Int))=false:=ah;have et:sa l l.length=vV l:=by simp[sa,vV]
   rw[et];repeat'(first|refine awz ?_|exact rZ|fail)
def zX(l:List bo)(k:Nat):List Int:=(l.length:Int)::(l.take k).flatMap λp=>[p.id,p.due,p.key,p.value,p.fired]
theorem Rv(l:List bo)(k:Nat):(zX l k).length<=1+5*l.length:=by
 have h1:(l.take k).length<=l.length:=by rw[List.length_take];omega
 have h2:∀m:List bo,(m.flatMap λp=>[p.id,p.due,p.key,p.value,p.fired]).length<=5*m.length:=by
  intro m;induction m with
  |nil=>simp
  |cons p r ih=>simp only[flatMap_cons,List.length_append,length_cons,length_nil];omega
 have:=h2 (l.take k);simp only[zX,length_cons];omega
theorem N8(hk:k<l.length):(zX l (k+1)).map eI=(zX l k).map eI++((λp:bo=>[p.id,p.due,p.key,p.value,p.fired]) l[k]).map eI:=by
 have e:l.take (k+1)=l.take k++[l[k]]:=by rw[List.take_add_one,List.getElem?_eq_getElem hk];rfl
 unfold zX;rw[e,List.flatMap_append];simp only[List.map_cons,List.map_append,flatMap_cons,List.flatMap_nil,List.append_nil,List.cons_append]
theorem Av(l:List bo)(h:bO l=true):aN av 478 [.one (.sl (l.map bo.ds))] (.val (.one (.sl ((Cp l).map eI)))):=by
 have hm:=LV h;have n1:(!bO l)=false:=by rw[h];rfl
 refine pO func478 call478 ntmps478 results478 λS=>?_;conv=>whnf
 repeat'(first|refine awz ?_|(refine cP (fh l) ?_;conv=>whnf)|fail)
 have E0:([[AD.pv (Value.int .i64 ((l.map bo.ds).length:Int))]]:List (List AD))=(zX l 0).map eI:=by rw[length_map];rfl
 refine aaK (λk:Nat=>k<=l.length) (11::[3,4,12,13,14,15,16,17,18,19,20,21,22,23,24,25,26,27,28,29,30,31,32,33,34,35,36,37,38,39,40,41,42,43,44,45]) (λk=>[(3,.one (.own 11)),(4,vI .i64 (k:Int))]) (λk=>[(11,.row 2 1 ((zX l k).map eI))]) (λk=>l.length-k) 0 (Nat.zero_le _) ?_ (aaC (congrArg some (congrArg (AO.row 2 1) E0)) aaE) (λk hk=>?_)<;>(conv=>whnf)
 ·exact whd
 ·have htl:=Rv l k;by_cases hlt:k<l.length
  ·have hc:decide ((k:Int)<((l.map bo.ds).length:Int))=true:=by simp only[decide_eq_true_eq,length_map];omega
   have hs:=N8 hlt;repeat'(first|refine awz ?_|fail)
   (refine aaL aM 7 (tkc [0,1,2,3,4,5,6,7,8,9,10,11,12,13,14,15,16,17,18,19,20,21,22,23,24,25] (.one 26 (.one 27 (.take 28 .done)))) [] pM ae ae ae ae (λRz=>?_);(conv=>whnf))
   repeat'((first|refine awz ?_|refine aaM hlt ?_|refine a7 (by simp only[length_map,length_nil,length_cons]<;>omega) ?_|refine aaH ac ac ?_|fail)<;>conv=>whnf)
   all_goals
    refine a8.mk ⟨k+1,hlt,ac,?_,aaC (by rw[hs];rfl) aaE⟩;exact hds
  ·have e:k=l.length:=ac;subst e;have hc:decide ((l.length:Int)<((l.map bo.ds).length:Int))=false:=ah;have et:zX l l.length=Cp l:=by simp[zX,Cp]
   rw[et];repeat'(first|refine awz ?_|exact rZ|fail)
theorem CQ(l:ge)(h:d9 l=true):aN av 479 [.agg l.ds] (.val (.one (.sl ([l.holder,l.epoch,l.til].map eI)))):=by
 have n1:(!d9 l)=false:=by rw[h];rfl
 refine pO func479 call479 ntmps479 results479 λS=>?_;conv=>whnf
 repeat'(first|refine awz ?_|(refine cP (fA l) ?_;conv=>whnf)|exact rZ|fail)
theorem Dj(s:bf)(h:bB s=true):aN av 469 [.agg s.ds] (.val (.one (.sl ((cJ s).map eI)))):=by
 obtain⟨h1,h2,h3,h4,h5⟩:=cK h;have hp:=jm h3;have hj:=LV h4;have lp:(vV s.pairs).length=1+2*s.pairs.length:=by simp only[vV,length_cons,vW];omega
 have lj:(Cp s.jobs).length=1+5*s.jobs.length:=by simp only[Cp,length_cons,yb];omega
 have n1:(!bB s)=false:=by rw[h];rfl
 refine pO func469 call469 ntmps469 results469 λS=>?_;conv=>whnf
 repeat'((first|refine awz ?_|refine cP (eK s ac) ?_|refine cP (CV s.pairs h3) ?_|refine cP (Av s.jobs h4) ?_|refine cP (CQ s.lease h5) ?_|refine aW (by first|(intro y hy;obtain⟨a,_,rfl⟩:=List.mem_map.1 hy;rfl)|(simp;done)) ?_|refine a7 (by simp only[length_map,length_nil,length_cons,List.length_append,lp,lj]<;>omega) ?_|fail)<;>conv=>whnf)
 all_goals(simp[cJ,eI];done)
end Go.Proofs.YthgkdhnlehneeaaGreatDoor
