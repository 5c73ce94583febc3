/- QD -/
import Derived.Test.YthgkdhnlehneeaaGreatDoorAvLD
import Derived.Test.YthgkdhnlehneeaaGreatDoorWB3
set_option maxHeartbeats 8000000
set_option linter.unusedVariables false
set_option linter.unusedSimpArgs false
set_option maxRecDepth 100000
namespace Go.Proofs.YthgkdhnlehneeaaGreatDoor
section
open Go.Proofs.Tryz
open Go.ChangeShapes Go.WideShapes Go.RowKit
section
variable {α:Type} {l:List α} {p:α->Bool}
theorem Ll{k:Nat}(hk:k<l.length)(h1:p l[k]=true)(h0:∀(j:Nat) (hj:j<l.length),j<k->p l[j]=false):l.find? p=some l[k]:=by
 induction l generalizing k with
 |nil=>simp at hk
 |cons x r ih=>
  cases k with
  |zero=>exact List.find?_cons_of_pos h1
  |succ k=>
   have hx:=h0 0 ah ac;simp only[List.getElem_cons_zero]at hx;rw[List.find?_cons_of_neg (by simp[hx])];exact ih (by simpa using hk) h1 λj hj hjk=>h0 (j+1) (by simpa using hj) ac
theorem HU(h0:∀(j:Nat) (hj:j<l.length),p l[j]=false):l.find? p=none:=by
 refine List.find?_eq_none.2 λx hx=>?_;obtain⟨j,hj,rfl⟩:=List.getElem_of_mem hx;simp[h0 j hj]
end
def Zp(o:Option br):AP:= .tup [.one (dI ((o.map br.value).getD 0)),.one (dB o.isSome)]
def vz(k:Int)(x:br):Bool:=x.key==k
theorem yY(l:List br)(k:Int)(h:bS l=true):aN av 427 [.one (.sl (l.map br.ds)),pI k] (Zp (l.find? (vz k))):=by
 have c1:=fB l;rw[h]at c1;have hm:=jm h;refine pO func427 call427 ntmps427 results427 λS=>?_;conv=>whnf
 repeat'(first|refine awz ?_|(refine cP (c1) ?_;conv=>whnf)|fail)
 refine aaK (λi:Nat=>i<=l.length/\∀(j:Nat) (hj:j<l.length),j<i->vz k l[j]=false) (4::5::6::rg 10 18) (λi=>[(6,vI .i64 (i:Int))]) (λ_=>[]) (λi=>l.length-i) 0 ⟨Nat.zero_le _,λj _ hj=>absurd hj ac⟩ ?_ aaE (λi hi=>?_)<;>(conv=>whnf)
 ·exact whd
 ·obtain⟨hi,hall⟩:=hi;by_cases hlt:i<l.length
  ·have hc:decide ((i:Int)<((l.map br.ds).length:Int))=true:=al;cases hk:vz k l[i]with
   |true=>
    have hc2:(l[i].key==k)=true:=hk;rw[Ll hlt hk hall];repeat'(first|refine awz ?_|(refine aaM hlt ?_;conv=>whnf)|exact rZ|fail)
   |false=>
    have hc2:(l[i].key==k)=false:=hk;repeat'((first|refine awz ?_|refine aaM hlt ?_|refine aaH ac ac ?_|fail)<;>conv=>whnf)
    refine a8.mk ⟨i+1,⟨hlt,λj hj hji=>?_⟩,ac,?_,aaE⟩
    ·by_cases e:j=i
     ·subst e;exact hk
     ·exact hall j hj ac
    ·exact hds
  ·have e:i=l.length:=ac;subst e;have hc:decide ((l.length:Int)<((l.map br.ds).length:Int))=false:=ah;rw[HU λj hj=>hall j hj hj];repeat'(first|refine awz ?_|exact rZ|fail)
theorem Ul(l:List br)(p:br)(h:bS l=true)(hp:dU p=true):aN av 459 [.one (.sl (l.map br.ds)),pI p.key,pI p.value] (.tup [.one (.sl ((ud l p).map br.ds)),.one (dB true)]):=by
 have c1:=fB l;rw[h]at c1;have c2:=wu p;rw[hp]at c2;have hpr:=hp;simp only[dU,aJ,Bool.and_eq_true,decide_eq_true_eq]at hpr;have hm:=jm (Dw h hp);have pw:=(jQ h).2;have hmem:∀x∈ud l p,0<=x.key/\x.key<=9:=λx hx=>by
  have:=(jQ (Dw h hp)).1 x hx;simp only[dU,aJ,Bool.and_eq_true,decide_eq_true_eq]at this;exact this.1
 have e0:lM br.key (ud l p) (((0:Nat):Int)-1)=[]:=Gx λx hx=>by have:=hmem x hx;omega
 have e10:lM br.key (ud l p) (((10:Nat):Int)-1)=ud l p:=Ja λx hx=>by have:=hmem x hx;omega
 refine pO func459 call459 ntmps459 results459 λS=>?_;conv=>whnf
 repeat'((first|refine awz ?_|refine cP (c1) ?_|refine cP (c2) ?_|fail)<;>conv=>whnf)
 refine aaK (λk:Nat=>k<=10) (23::[8,9,10,11,24,25,26,27,28,29,30,31,32,33,34,35,36,37,38,39,40,41,42,43,44]) (λk=>[(8,.one (.own 23)),(9,vI .i64 (k:Int))]) (λk=>[(23,.row 329 2 ((lM br.key (ud l p) ((k:Int)-1)).map br.ds))]) (λk=>10-k) 0 (Nat.zero_le _) ?_ (aaC (by rw[e0];rfl) aaE) (λk hk=>?_)<;>(conv=>whnf)
 ·exact whd
 ·have hst:=Ir (p:=p) pw (k:Int);have hlen:(lM br.key (ud l p) ((k:Int)-1)).length<=10:=Nat.le_trans (List.length_filter_le _ _) hm;have hss:((k:Int)+1)-1=k:=ac;by_cases hlt:k<10
  ·have hc:decide ((k:Int)<=9)=true:=by simp only[decide_eq_true_eq];omega
   have cv:=yY l (k:Int) h;by_cases e:(k:Int)=p.key
   ·have hc2:((k:Int)==p.key)=true:=by simpa using e
    rw[if_pos e]at hst;repeat'((first|refine awz ?_|refine cP (cv) ?_|refine a7 ak ?_|refine aaH ac ac ?_|fail)<;>conv=>whnf)
    all_goals
     refine a8.mk ⟨k+1,hlt,ac,?_,aaC ?_ aaE⟩
     ·exact hds
     ·show some (AO.row _ _ _)=some (AO.row _ _ ((lM br.key (ud l p) (((k+1:Nat):Int)-1)).map br.ds));rw[show(((k+1:Nat):Int)-1)=(k:Int)by omega];unfold ud at*
      rw[hst,List.map_append];simp only[List.map_cons,List.map_nil,br.ds,<-e]
   ·have hc2:((k:Int)==p.key)=false:=by simpa using e
    rw[if_neg e]at hst;have hf:l.find? (λx=>br.key x==(k:Int))=l.find? (vz k):=rfl;rw[hf]at hst;cases ho:l.find? (vz k)with
    |none=>
     rw[ho]at cv hst;repeat'((first|refine awz ?_|refine cP (cv) ?_|refine aaH ac ac ?_|fail)<;>conv=>whnf)
     all_goals
      refine a8.mk ⟨k+1,hlt,ac,?_,aaC ?_ aaE⟩
      ·exact hds
      ·show some (AO.row _ _ _)=some (AO.row _ _ ((lM br.key (ud l p) (((k+1:Nat):Int)-1)).map br.ds));rw[show(((k+1:Nat):Int)-1)=(k:Int)by omega];unfold ud at*
       rw[hst];simp
    |some x=>
     have hx:x.key=k:=by simpa[vz]using List.find?_some ho
     rw[ho]at cv hst;repeat'((first|refine awz ?_|refine cP (cv) ?_|refine a7 ak ?_|refine aaH ac ac ?_|fail)<;>conv=>whnf)
     all_goals
      refine a8.mk ⟨k+1,hlt,ac,?_,aaC ?_ aaE⟩
      ·exact hds
      ·show some (AO.row _ _ _)=some (AO.row _ _ ((lM br.key (ud l p) (((k+1:Nat):Int)-1)).map br.ds));rw[show(((k+1:Nat):Int)-1)=(k:Int)by omega];unfold ud at*
       rw[hst,List.map_append];simp only[List.map_cons,List.map_nil,br.ds,hx];rfl
  ·have e:k=10:=ac;subst e;have hc:decide (((10:Nat):Int)<=9)=false:=ai;rw[e10];repeat'(first|refine awz ?_|exact rZ|fail)
end
open Go.Proofs.Tryz
open Go.ChangeShapes Go.WideShapes Go.RowKit
def Md(k:Int)(x:br):Bool:=x.key !=k
theorem N2{α:Type}{l:List α}{p:α->Bool}{k:Nat}(h:k<l.length):(l.take (k+1)).filter p=(l.take k).filter p++if p l[k]=true then [l[k]]else []:=by
 have e:l.take (k+1)=l.take k++[l[k]]:=by rw[List.take_add_one,List.getElem?_eq_getElem h];rfl
 rw[e,List.filter_append];congr 1;cases hp:p l[k]<;>simp[hp]
theorem RY(l:List br)(k:Int)(h:bS l=true):∃b,aN av 460 [.one (.sl (l.map br.ds)),pI k] (.tup [.one (.sl ((Re l k).map br.ds)),.one (dB b)]):=by
 have c1:=fB l;rw[h]at c1;have hm:=jm h;refine⟨decide ((((Re l k).map br.ds).length:Int)<((l.map br.ds).length:Int)),?_⟩;refine pO func460 call460 ntmps460 results460 λS=>?_;conv=>whnf
 repeat'(first|refine awz ?_|(refine cP (c1) ?_;conv=>whnf)|fail)
 refine aaK (λi:Nat=>i<=l.length) (12::[6,7,13,14,15,16,17,18,19,20,21,22,23,24,25,26,27,28,29,30,31,32]) (λi=>[(6,.one (.own 12)),(7,vI .i64 (i:Int))]) (λi=>[(12,.row 329 2 (((l.take i).filter (Md k)).map br.ds))]) (λi=>l.length-i) 0 (Nat.zero_le _) ?_ sbW (λi hi=>?_)<;>(conv=>whnf)
 ·exact whd
 ·have hlen:((l.take i).filter (Md k)).length<=l.length:=Nat.le_trans (List.length_filter_le _ _) (by rw[List.length_take];omega);by_cases hlt:i<l.length
  ·have hc:decide ((i:Int)<((l.map br.ds).length:Int))=true:=al;have hf:=N2 (p:=Md k) hlt;cases hk:Md k l[i]with
   |true=>
    have hc2:(l[i].key !=k)=true:=hk;rw[if_pos hk]at hf;repeat'((first|refine awz ?_|refine aaM hlt ?_|refine a7 ak ?_|refine aaH ac ac ?_|fail)<;>conv=>whnf)
    all_goals
     refine a8.mk ⟨i+1,hlt,ac,?_,aaC (by rw[hf,List.map_append];rfl) aaE⟩;exact hds
   |false=>
    have hc2:(l[i].key !=k)=false:=hk;rw[if_neg (by rw[hk];simp),List.append_nil]at hf;repeat'((first|refine awz ?_|refine aaM hlt ?_|refine aaH ac ac ?_|fail)<;>conv=>whnf)
    all_goals
     refine a8.mk ⟨i+1,hlt,ac,?_,aaC (by rw[hf];rfl) aaE⟩;exact hds
  ·have e:i=l.length:=ac;subst e;have hc:decide ((l.length:Int)<((l.map br.ds).length:Int))=false:=ah;have ht:(l.take l.length).filter (Md k)=Re l k:=by rw[List.take_length];rfl
   rw[ht];repeat'(first|refine awz ?_|exact rZ|fail)
def Zm:bo:=⟨0,0,0,0,0⟩
def Zo(o:Option bo):AP:= .tup [.agg (o.getD Zm).ds,.one (dB o.isSome)]
def WJ(k:Int)(x:bo):Bool:=x.id==k
theorem wd(l:List bo)(k:Int)(h:bO l=true):aN av 463 [.one (.sl (l.map bo.ds)),pI k] (Zo (ya l k)):=by
 have c1:=fh l;rw[h]at c1;have hm:=(dF h).1;have ej:ya l k=l.find? (WJ k):=rfl;rw[ej];refine pO func463 call463 ntmps463 results463 λS=>?_;conv=>whnf
 repeat'(first|refine awz ?_|(refine cP (c1) ?_;conv=>whnf)|fail)
 refine aaK (λi:Nat=>i<=l.length/\∀(j:Nat) (hj:j<l.length),j<i->WJ k l[j]=false) (5::6::rg 11 17) (λi=>[(6,vI .i64 (i:Int))]) (λ_=>[(4,.cells 122 [.d (dI 0),.d (dI 0),.d (dI 0),.d (dI 0),.d (dI 0)])]) (λi=>l.length-i) 0 ⟨Nat.zero_le _,λj _ hj=>absurd hj ac⟩ ?_ sbW (λi hi=>?_)<;>(conv=>whnf)
 ·exact whd
 ·obtain⟨hi,hall⟩:=hi;by_cases hlt:i<l.length
  ·have hc:decide ((i:Int)<((l.map bo.ds).length:Int))=true:=al;cases hk:WJ k l[i]with
   |true=>
    have hc2:(l[i].id==k)=true:=hk;rw[Ll hlt hk hall];repeat'(first|refine awz ?_|(refine aaM hlt ?_;conv=>whnf)|exact rZ|fail)
   |false=>
    have hc2:(l[i].id==k)=false:=hk;repeat'((first|refine awz ?_|refine aaM hlt ?_|refine aaH ac ac ?_|fail)<;>conv=>whnf)
    refine a8.mk ⟨i+1,⟨hlt,λj hj hji=>?_⟩,ac,?_,sbW⟩
    ·by_cases e:j=i
     ·subst e;exact hk
     ·exact hall j hj ac
    ·exact hds
  ·have e:i=l.length:=ac;subst e;have hc:decide ((l.length:Int)<((l.map bo.ds).length:Int))=false:=ah;rw[HU λj hj=>hall j hj hj];repeat'(first|refine awz ?_|exact rZ|fail)
theorem y4(l:List bo)(h:l.length<=1048576):aN av 441 [.one (.sl (l.map bo.ds))] (.val (.one (.sl (l.map bo.ds)))):=by
 refine pO func441 call441 ntmps441 results441 λS=>?_;conv=>whnf
 repeat'((first|refine awz ?_|refine aW (by first|(intro y hy;obtain⟨a,_,rfl⟩:=List.mem_map.1 hy;rfl)|(simp;done)) ?_|refine a7 ak ?_|exact rZ|fail)<;>conv=>whnf)
theorem Pm(l:List bo)(h:l.length<=1048576):dd av 441 [.one (.d (.sl (l.map bo.ds)))] [] [(3,.row 122 5 (l.map bo.ds))] [] (.val (.one (.own 3))):=by
 refine cH aM func441 rfl call441 ntmps441 (ace results441) rfl λS pv=>?_;conv=>whnf
 repeat'((first|refine awz ?_|refine aW (by first|(intro y hy;obtain⟨a,_,rfl⟩:=List.mem_map.1 hy;rfl)|(simp;done)) ?_|refine a7 ak ?_|exact rZ|fail)<;>conv=>whnf)
theorem Gg(l:List br)(h:l.length<=1048576):aN av 440 [.one (.sl (l.map br.ds))] (.val (.one (.sl (l.map br.ds)))):=by
 refine pO func440 call440 ntmps440 results440 λS=>?_;conv=>whnf
 repeat'((first|refine awz ?_|refine aW (by first|(intro y hy;obtain⟨a,_,rfl⟩:=List.mem_map.1 hy;rfl)|(simp;done)) ?_|refine a7 ak ?_|exact rZ|fail)<;>conv=>whnf)
theorem CP(l:List bo)(p:bo)(h:bO l=true)(hp:xQ l p=true):aN av 461 [.one (.sl (l.map bo.ds)),.agg p.ds] (.tup [.one (.sl ((qN l p).map bo.ds)),.one (dB true)]):=by
 have c1:=fh l;rw[h]at c1;simp only[xQ,Bool.and_eq_true,decide_eq_true_eq,beq_iff_eq,Option.isNone_iff_eq_none]at hp;obtain⟨⟨⟨p1,p2⟩,p3⟩,p4⟩:=hp;have c2:=Ar p;rw[p1]at c2;have c3:=wd l p.id h;rw[p3]at c3;have hpr:=p1;simp only[iN,aJ,Bool.and_eq_true,decide_eq_true_eq]at hpr;have hok:=PS h p1 p2 p3 p4;have hm:=(dF hok).1;have pw:=(dF h).2.2.1;have hmem:∀x∈qN l p,1<=x.id/\x.id<=20:=λx hx=>by
  have:=(dF hok).2.1 x hx;simp only[iN,aJ,Bool.and_eq_true,decide_eq_true_eq]at this;omega
 have e0:lM bo.id (qN l p) (((1:Nat):Int)-1)=[]:=Gx λx hx=>by have:=hmem x hx;omega
 have e21:lM bo.id (qN l p) (((21:Nat):Int)-1)=qN l p:=Ja λx hx=>by have:=hmem x hx;omega
 have d1:(p.fired !=0)=false:=by simp[p2]
 have d2:decide (((l.map bo.ds).length:Int)>=8)=false:=al;refine pO func461 call461 ntmps461 results461 λS=>?_;conv=>whnf
 repeat'((first|refine awz ?_|refine cP (c1) ?_|refine cP (c2) ?_|refine cP (c3) ?_|fail)<;>conv=>whnf)
 refine aaK (λk:Nat=>1<=k/\k<=21) (41::[8,9,10,11,42,43,44,45,46,47,48,49,50,51,52,53,54,55,56,57,58,59,60,61,62,63,64]) (λk=>[(8,.one (.own 41)),(9,vI .i64 (k:Int))]) (λk=>[(3,.cells 122 (p.ds.map .d)),(41,.row 122 5 ((lM bo.id (qN l p) ((k:Int)-1)).map bo.ds))]) (λk=>21-k) 1 ac ?_ (aaC rfl (aaC (by rw[e0];rfl) aaE)) (λk hk=>?_)<;>(conv=>whnf)
 ·exact whd
 ·have hst:=Ir (p:=p) pw (k:Int);have hlen:(lM bo.id (qN l p) ((k:Int)-1)).length<=8:=Nat.le_trans (List.length_filter_le _ _) hm;have hz:(((k+1:Nat):Int)-1)=(k:Int):=ac;by_cases hlt:k<21
  ·have hc:decide ((k:Int)<=20)=true:=by simp only[decide_eq_true_eq];omega
   have cv:=wd l (k:Int) h;have hf:l.find? (λx=>bo.id x==(k:Int))=ya l k:=rfl;by_cases e:(k:Int)=p.id
   ·have hc2:((k:Int)==p.id)=true:=by simpa using e
    rw[if_pos e]at hst;repeat'((first|refine awz ?_|refine cP (cv) ?_|refine a7 ak ?_|refine aaH ac ac ?_|fail)<;>conv=>whnf)
    all_goals
     refine a8.mk ⟨k+1,ac,ac,?_,aaC rfl (aaC ?_ aaE)⟩
     ·exact hds
     ·show some (AO.row _ _ _)=some (AO.row _ _ ((lM bo.id (qN l p) (((k+1:Nat):Int)-1)).map bo.ds));rw[hz];unfold qN at*
      rw[hst,List.map_append];rfl
   ·have hc2:((k:Int)==p.id)=false:=by simpa using e
    rw[if_neg e,hf]at hst;cases ho:ya l k with
    |none=>
     rw[ho]at cv hst;repeat'((first|refine awz ?_|refine cP (cv) ?_|refine aaH ac ac ?_|fail)<;>conv=>whnf)
     all_goals
      refine a8.mk ⟨k+1,ac,ac,?_,aaC rfl (aaC ?_ aaE)⟩
      ·exact hds
      ·show some (AO.row _ _ _)=some (AO.row _ _ ((lM bo.id (qN l p) (((k+1:Nat):Int)-1)).map bo.ds));rw[hz];unfold qN at*
       rw[hst];simp
    |some x=>
     rw[ho]at cv hst;repeat'((first|refine awz ?_|refine cP (cv) ?_|refine a7 ak ?_|refine aaH ac ac ?_|fail)<;>conv=>whnf)
     all_goals
      refine a8.mk ⟨k+1,ac,ac,?_,aaC rfl (aaC ?_ aaE)⟩
      ·exact hds
      ·show some (AO.row _ _ _)=some (AO.row _ _ ((lM bo.id (qN l p) (((k+1:Nat):Int)-1)).map bo.ds));rw[hz];unfold qN at*
       rw[hst,List.map_append];rfl
  ·have e:k=21:=ac;subst e;have hc:decide (((21:Nat):Int)<=20)=false:=ai;rw[e21];repeat'(first|refine awz ?_|exact rZ|fail)
theorem MP(l:List bo)(p:bo)(h:bO l=true)(hp:xQ l p=false):aN av 461 [.one (.sl (l.map bo.ds)),.agg p.ds] (.tup [.one (.sl (l.map bo.ds)),.one (dB false)]):=by
 have c1:=fh l;rw[h]at c1;have hm:=(dF h).1;have c2:=Ar p;have c3:=wd l p.id h;have cc:=y4 l ac;have key:∀{X Y:Prop},X->AB (decide (((l.map bo.ds).length:Int)>=8)) X Y->True:=λ_ _=>trivial;cases j1:iN p with
 |false=>
  rw[j1]at c2;refine pO func461 call461 ntmps461 results461 λS=>?_;conv=>whnf
  repeat'((first|refine awz ?_|refine cP (c1) ?_|refine cP (c2) ?_|refine cP (c3) ?_|refine cP (cc) ?_|exact rZ|fail)<;>conv=>whnf)
 |true=>
  rw[j1]at c2;cases j2:(p.fired !=0)with
  |true=>
   refine pO func461 call461 ntmps461 results461 λS=>?_;conv=>whnf
   repeat'((first|refine awz ?_|refine cP (c1) ?_|refine cP (c2) ?_|refine cP (c3) ?_|refine cP (cc) ?_|exact rZ|fail)<;>conv=>whnf)
  |false=>
   cases j3:ya l p.id with
   |some x=>
    rw[j3]at c3;refine pO func461 call461 ntmps461 results461 λS=>?_;conv=>whnf
    repeat'((first|refine awz ?_|refine cP (c1) ?_|refine cP (c2) ?_|refine cP (c3) ?_|refine cP (cc) ?_|exact rZ|fail)<;>conv=>whnf)
   |none=>
    rw[j3]at c3;have j4:decide (((l.map bo.ds).length:Int)>=8)=true:=by
     have j2':(p.fired==0)=true:=by simpa using j2
     simp only[xQ,j1,j2',j3,Option.isNone_none,Bool.true_and,decide_eq_false_iff_not]at hp;simp;omega
    refine pO func461 call461 ntmps461 results461 λS=>?_;conv=>whnf
    repeat'((first|refine awz ?_|refine cP (c1) ?_|refine cP (c2) ?_|refine cP (c3) ?_|refine cP (cc) ?_|exact rZ|fail)<;>conv=>whnf)
theorem IQ(o:DOp):aN av 462 [.agg o.ds] (.val (.agg (qk o).ds)):=by
 refine pO func462 call462 ntmps462 results462 λS=>?_;conv=>whnf
 repeat'(first|refine awz ?_|exact rZ|fail)
theorem MQ(l:List bo)(id i:Int)(n:Nat)(h:bO l=true)(hn:n<l.length)(hid:l[n].id=id)(hf:l[n].fired=0)(hi:1<=i/\i<=2000)(hno:∀x∈l,x.fired≠i):aN av 464 [.one (.sl (l.map bo.ds)),pI id,pI i] (.tup [.one (.sl ((mu l n i).map bo.ds)),.one (dB true)]):=by
 have c1:=fh l;rw[h]at c1;have hm:=(dF h).1;have pw:=(dF h).2.2.1;have l1:=aQ i 1 2000;rw[ia hi]at l1;have huniq:∀(j:Nat) (hj:j<l.length),l[j].id=id->j=n:=λj hj e=>by
  rcases Nat.lt_trichotomy j n with hjn|hjn|hjn
  ·have:=List.pairwise_iff_getElem.1 pw j n hj hn hjn;omega
  ·exact hjn
  ·have:=List.pairwise_iff_getElem.1 pw n j hn hj hjn;omega
 have es:(mu l n i).map bo.ds=(l.map bo.ds).set n [dI l[n].id,dI l[n].due,dI l[n].key,dI l[n].value,dI i]:=by
  apply List.ext_getElem
  ·simp[mu]
  ·intro k h1 h2;rw[List.getElem_map,lS,List.getElem_set];split
   ·rename_i e;subst e;rfl
   ·rw[List.getElem_map]
 rw[es];refine pO func464 call464 ntmps464 results464 λS=>?_;conv=>whnf
 repeat'((first|refine awz ?_|refine cP (c1) ?_|refine aaI (Pm l ac) [(3,41)] rfl rfl ?_|fail)<;>conv=>whnf)
 refine aaK (λk:Nat=>k<=l.length) (2::9::10::rg 17 29) (λk=>[(9,vI .i64 (if n<k then(n:Int)else-1)),(10,vI .i64 (k:Int)),(2,vI .i64 i)]) (λk=>[(41,.row 122 5 (l.map bo.ds))]) (λk=>l.length-k) 0 (Nat.zero_le _) ?_ sbW (λk hk=>?_)<;>(conv=>whnf)
 ·exact whd
 ·by_cases hlt:k<l.length
  ·have hc:decide ((k:Int)<((l.map bo.ds).length:Int))=true:=al;have f1:(l[k].fired==i)=false:=by simpa using hno _ (List.getElem_mem hlt)
   by_cases e:k=n
   ·subst e;have f2:(l[k].id==id)=true:=by simpa using hid
    have f3:(l[k].fired==0)=true:=by simpa using hf
    repeat'((first|refine awz ?_|refine aaM hlt ?_|refine aaH ac ac ?_|fail)<;>conv=>whnf)
    refine a8.mk ⟨k+1,hlt,ac,?_,sbW⟩;rw[if_pos (by omega:k<k+1)];exact hds
   ·have f2:(l[k].id==id)=false:=by
     have:l[k].id≠id:=λe2=>e (huniq k hlt e2);simpa using this
    repeat'((first|refine awz ?_|refine aaM hlt ?_|refine aaH ac ac ?_|fail)<;>conv=>whnf)
    refine a8.mk ⟨k+1,hlt,ac,?_,sbW⟩;rw[show(if n<k+1 then(n:Int)else-1)=(if n<k then(n:Int)else-1)by by_cases e2:n<k;rw[if_pos e2,if_pos ac];rw[if_neg e2,if_neg ac]];exact hds
  ·have e:k=l.length:=ac;subst e;have hc:decide ((l.length:Int)<((l.map bo.ds).length:Int))=false:=ah;rw[if_pos hn];have f4:decide ((n:Int)<0)=false:=ah;repeat'((first|refine awz ?_|refine cP (l1) ?_|refine aaM hn ?_|exact rZ|fail)<;>conv=>whnf)
theorem R4(l:ge)(t:Int):aN av 476 [.agg l.ds,pI t] (rB (JR l t)):=by
 refine pO func476 call476 ntmps476 results476 λS=>?_;conv=>whnf
 repeat'((first|refine awz ?_|refine cP (fA l) ?_|refine cP (dR t) ?_|refine tW ?_ ?_|intro h)<;>conv=>whnf)
 all_goals simp_all[JR,tOk]
theorem OV(l:ge)(who ep t:Int):aN av 483 [.agg l.ds,pI who,pI ep,pI t] (rB (JU l who ep t)):=by
 refine pO func483 call483 ntmps483 results483 λS=>?_;conv=>whnf
 repeat'((first|refine awz ?_|refine cP (fA l) ?_|refine cP (dR t) ?_|refine tW ?_ ?_|intro h)<;>conv=>whnf)
 all_goals simp_all[JU,tOk]
theorem FU(l:ge)(who t long:Int)(h:d9 l=true):aN av 465 [.agg l.ds,pI who,pI t,pI long] (.tup [.agg (if ik l who t long then yK l who t long else l).ds,.one (dB (ik l who t long))]):=by
 have c1:=fA l;rw[h]at c1;have hf:=yc h;have r0:0<=l.epoch/\l.epoch<=1000:=by
  rcases hf with hf|hf
  ·rw[hf];simp
  ·omega
 have hfr:=R4 l t;cases g1:(ft who&&tOk t&&aJ long 1 1000)with
 |false=>
  have eg:ik l who t long=false:=by simp only[ik,g1,Bool.false_and]
  rw[eg,if_neg ah];refine pO func465 call465 ntmps465 results465 λS=>?_;conv=>whnf
  repeat'((first|refine awz ?_|refine cP (c1) ?_|refine cP (dp who) ?_|refine cP (dR t) ?_|refine cP (aQ long 1 1000) ?_|exact rZ|refine tW ?_ ?_|intro h)<;>conv=>whnf)
  all_goals(exfalso;simp_all[tOk];done)
 |true=>
  simp only[Bool.and_eq_true]at g1;obtain⟨⟨g1,g2⟩,g3⟩:=g1;have c2:=dp who;have c3:=dR t;have c4:=aQ long 1 1000;unfold tOk at g2;rw[g1]at c2;rw[g2]at c3;rw[g3]at c4;have b2:=g2;have b3:=g3;simp only[aJ,Bool.and_eq_true,decide_eq_true_eq]at b2 b3;by_cases e:l.holder=who
  ·have eg:ik l who t long=true:=by simp[ik,g1,tOk,g2,g3,e]
   have hc:(l.holder==who)=true:=by simpa using e
   rw[eg,if_pos rfl,yK,if_pos e];refine pO func465 call465 ntmps465 results465 λS=>?_;conv=>whnf
   repeat'((first|refine awz ?_|refine cP (c1) ?_|refine cP (c2) ?_|refine cP (c3) ?_|refine cP (c4) ?_|refine cP (jT _ _) ?_|refine aaH ac ac ?_|fail)<;>conv=>whnf)
   all_goals
    have em:(if l.til<t+long then t+long else l.til)=(if t+long<l.til then l.til else t+long):=by split<;>split<;>omega
    simp only[gt_iff_lt,em];rfl
  ·have hc:(l.holder==who)=false:=by simpa using e
   cases k1:JR l t with
   |false=>
    rw[k1]at hfr;have eg:ik l who t long=false:=by simp[ik,hc,k1]
    rw[eg,if_neg ah];refine pO func465 call465 ntmps465 results465 λS=>?_;conv=>whnf
    repeat'((first|refine awz ?_|refine cP (c1) ?_|refine cP (c2) ?_|refine cP (c3) ?_|refine cP (c4) ?_|refine cP (hfr) ?_|exact rZ|fail)<;>conv=>whnf)
   |true=>
    rw[k1]at hfr;by_cases k2:l.epoch<1000
    ·have eg:ik l who t long=true:=by simp[ik,g1,tOk,g2,g3,k1,k2]
     have d2:decide (l.epoch>=1000)=false:=al;rw[eg,if_pos rfl,yK,if_neg e];refine pO func465 call465 ntmps465 results465 λS=>?_;conv=>whnf
     repeat'((first|refine awz ?_|refine cP (c1) ?_|refine cP (c2) ?_|refine cP (c3) ?_|refine cP (c4) ?_|refine cP (hfr) ?_|refine aaH ac ac ?_|exact rZ|fail)<;>conv=>whnf)
    ·have eg:ik l who t long=false:=by simp[ik,hc,k2]
     have d2:decide (l.epoch>=1000)=true:=al;rw[eg,if_neg ah];refine pO func465 call465 ntmps465 results465 λS=>?_;conv=>whnf
     repeat'((first|refine awz ?_|refine cP (c1) ?_|refine cP (c2) ?_|refine cP (c3) ?_|refine cP (c4) ?_|refine cP (hfr) ?_|exact rZ|fail)<;>conv=>whnf)
def kT:List (List Nat):=bC [0,1,0,3,259,33837252,6510366786,483201921286,483201921286,0x91840c50421c8]
def kY:List (List Nat):=dW 9 [234,235,8,17,44,121,364,14215,5467]
def tf:List (List Nat):=bC [0,1,0,3,4,20802,6,7,7,35671935824001,0x81c61440c204620a]
theorem kK{s:bf}(h:bB s=true):s.pairs.length<=10/\s.jobs.length<=8/\(0<=s.index/\s.index<=2000)/\(0<=s.time/\s.time<=1000000):=by
 obtain⟨h1,h2,h3,h4,_⟩:=cK h;exact⟨jm h3,(dF h4).1,h1,h2⟩
theorem IJ(s:bf)(e:aO)(h:bB s=true):aN av 474 [.agg s.ds,.agg e.ds] (rB (oM s e)):=by
 obtain⟨f1,f2,f3,f4⟩:=kK h;have c1:=eK s ac;rw[h]at c1;refine pO func474 call474 ntmps474 results474 λS=>?_;conv=>whnf
 repeat'((first|refine awz ?_|refine cP (c1) ?_|refine cP (bP e) ?_|refine aaH ac ac ?_|refine tW ?_ ?_|intro h)<;>conv=>whnf)
 all_goals simp_all[oM]
theorem OS(s:bf)(e:aO)(h:bB s=true):aN av 475 [.agg s.ds,.agg e.ds] (rB (kX s e)):=by
 obtain⟨f1,f2,f3,f4⟩:=kK h;have hj:=(cK h).2.2.2.1;have c1:=IJ s e h;have c2:=wd s.jobs e.op.a hj;have c3:=OV s.lease e.client e.op.b e.time;cases hn:oM s e with
 |false=>
  rw[hn]at c1;have er:kX s e=false:=by simp[kX,hn]
  rw[er];refine pO func475 call475 ntmps475 results475 λS=>?_;conv=>whnf
  repeat'(first|refine awz ?_|(refine cP (c1) ?_;conv=>whnf)|exact rZ|fail)
 |true=>
  rw[hn]at c1;cases ho:ya s.jobs e.op.a with
  |none=>
   rw[ho]at c2;have er:kX s e=false:=by simp[kX,ho]
   rw[er];refine pO func475 call475 ntmps475 results475 λS=>?_;conv=>whnf
   repeat'((first|refine awz ?_|refine cP (c1) ?_|refine cP (c2) ?_|exact rZ|refine tW ?_ ?_|intro h)<;>conv=>whnf)
  |some j=>
   rw[ho]at c2;refine pO func475 call475 ntmps475 results475 λS=>?_;conv=>whnf
   repeat'((first|refine awz ?_|refine cP (c1) ?_|refine cP (c2) ?_|refine cP (c3) ?_|refine tW ?_ ?_|intro h)<;>conv=>whnf)
   all_goals first
    |(simp_all[kX];done)
    |(simp_all[kX];intro h2;exfalso;omega)
theorem MI(s:bf)(e:aO)(h:bB s=true):aN av 458 [.agg s.ds,.agg e.ds] (.val (pI (l8 s e))):=by
 obtain⟨f1,f2,f3,f4⟩:=kK h;obtain⟨_,_,hp,hj,hl⟩:=cK h;have c1:=IJ s e h;have c2:=yY s.pairs e.op.a hp;have c4:=OS s e h;have c5:=FU s.lease e.client e.time e.op.a hl;have c6:=IQ e.op;cases hn:oM s e with
 |false=>
  rw[hn]at c1;have er:l8 s e= -1:=by simp[l8,hn]
  rw[er];refine pO func458 call458 ntmps458 results458 λS=>?_;conv=>whnf
  repeat'(first|refine awz ?_|(refine cP (c1) ?_;conv=>whnf)|exact rZ|fail)
 |true=>
  rw[hn]at c1;have eo:l8 s e=if e.op.kind=1 then 1 else if e.op.kind=2 then(if(s.pairs.find? (vz e.op.a)).isSome then 2 else 0)else if e.op.kind=3 then(if xQ s.jobs (qk e.op)then 3 else 0)else if e.op.kind=4 then(if kX s e then 4 else 0)else if e.op.kind=5 then(if ik s.lease e.client e.time e.op.a then 5 else 0)else 0:=by
   simp only[l8,hn,Bool.not_true,Bool.false_eq_true,if_false];rfl
  have ko:e.op.kind=1\/e.op.kind=2\/e.op.kind=3\/e.op.kind=4\/e.op.kind=5:=by
   have he:=(fI (VZ hn).en).2.2.2.2;by_cases h1:e.op.kind=1; · exact .inl h1
   by_cases h2:e.op.kind=2; · exact .inr (.inl h2)
   by_cases h3:e.op.kind=3; · exact .inr (.inr (.inl h3))
   by_cases h4:e.op.kind=4; · exact .inr (.inr (.inr (.inl h4)))
   by_cases h5:e.op.kind=5; · exact .inr (.inr (.inr (.inr h5)))
   simp[m9,h1,h2,h3,h4,h5]at he
  have kk:∀{a b:Int},e.op.kind=a->(a==b)=(e.op.kind==b):=λe=>by rw[e]
  rcases ko with k|k|k|k|k
  ·have q1:(e.op.kind==1)=true:=by simp[k]
   rw[eo,if_pos k];refine pO func458 call458 ntmps458 results458 λS=>?_;conv=>whnf
   repeat'(first|refine awz ?_|(refine cP (c1) ?_;conv=>whnf)|exact rZ|fail)
  ·have q1:(e.op.kind==1)=false:=by simp[k]
   have q2:(e.op.kind==2)=true:=by simp[k]
   rw[eo,if_neg ac,if_pos k];cases hf:(s.pairs.find? (vz e.op.a))with
   |none=>
    rw[hf]at c2;refine pO func458 call458 ntmps458 results458 λS=>?_;conv=>whnf
    repeat'((first|refine awz ?_|refine cP (c1) ?_|refine cP (c2) ?_|exact rZ|fail)<;>conv=>whnf)
   |some x=>
    rw[hf]at c2;refine pO func458 call458 ntmps458 results458 λS=>?_;conv=>whnf
    repeat'((first|refine awz ?_|refine cP (c1) ?_|refine cP (c2) ?_|exact rZ|fail)<;>conv=>whnf)
  ·have q1:(e.op.kind==1)=false:=by simp[k]
   have q2:(e.op.kind==2)=false:=by simp[k]
   have q3:(e.op.kind==3)=true:=by simp[k]
   rw[eo,if_neg ac,if_neg ac,if_pos k];cases hf:xQ s.jobs (qk e.op)with
   |false=>
    have c3:=MP s.jobs (qk e.op) hj hf;refine pO func458 call458 ntmps458 results458 λS=>?_;conv=>whnf
    repeat'((first|refine awz ?_|refine cP (c1) ?_|refine aaJ aM 14 9 kT kY ae ae ae rfl ?_|refine cP (c6) ?_|refine cP (c3) ?_|exact rZ|fail)<;>conv=>whnf)
   |true=>
    have c3:=CP s.jobs (qk e.op) hj hf;refine pO func458 call458 ntmps458 results458 λS=>?_;conv=>whnf
    repeat'((first|refine awz ?_|refine cP (c1) ?_|refine aaJ aM 14 9 kT kY ae ae ae rfl ?_|refine cP (c6) ?_|refine cP (c3) ?_|exact rZ|fail)<;>conv=>whnf)
  ·have q1:(e.op.kind==1)=false:=by simp[k]
   have q2:(e.op.kind==2)=false:=by simp[k]
   have q3:(e.op.kind==3)=false:=by simp[k]
   have q4:(e.op.kind==4)=true:=by simp[k]
   rw[eo,if_neg ac,if_neg ac,if_neg ac,if_pos k];cases hf:kX s e with
   |false=>
    rw[hf]at c4;refine pO func458 call458 ntmps458 results458 λS=>?_;conv=>whnf
    repeat'((first|refine awz ?_|refine cP (c1) ?_|refine cP (c4) ?_|exact rZ|fail)<;>conv=>whnf)
   |true=>
    rw[hf]at c4;refine pO func458 call458 ntmps458 results458 λS=>?_;conv=>whnf
    repeat'((first|refine awz ?_|refine cP (c1) ?_|refine cP (c4) ?_|exact rZ|fail)<;>conv=>whnf)
  ·have q1:(e.op.kind==1)=false:=by simp[k]
   have q2:(e.op.kind==2)=false:=by simp[k]
   have q3:(e.op.kind==3)=false:=by simp[k]
   have q4:(e.op.kind==4)=false:=by simp[k]
   have q5:(e.op.kind==5)=true:=by simp[k]
   rw[eo,if_neg ac,if_neg ac,if_neg ac,if_neg ac,if_pos k];cases hf:ik s.lease e.client e.time e.op.a with
   |false=>
    rw[hf,if_neg ah]at c5;refine pO func458 call458 ntmps458 results458 λS=>?_;conv=>whnf
    repeat'((first|refine awz ?_|refine cP (c1) ?_|refine cP (c5) ?_|exact rZ|fail)<;>conv=>whnf)
   |true=>
    rw[hf,if_pos rfl]at c5;refine pO func458 call458 ntmps458 results458 λS=>?_;conv=>whnf
    repeat'((first|refine awz ?_|refine cP (c1) ?_|refine cP (c5) ?_|exact rZ|fail)<;>conv=>whnf)
theorem y5(s:bf)(h:aa2 1048576 s):aN av 370 [.agg s.ds] (.val (.agg s.ds)):=by
 refine pO func370 call370 ntmps370 results370 λS=>?_;conv=>whnf
 repeat'((first|refine awz ?_|refine cP (Gg s.pairs h.1) ?_|refine cP (y4 s.jobs h.2) ?_|exact rZ|fail)<;>conv=>whnf)
def UH(s:bf)(e:aO)(y:bf×Bool):Prop:=y.2=true->bB y.1=true/\y.1.index=s.index+1/\y.1.index=e.index
def xM(y:bf×Bool):AP:= .tup [.agg y.1.ds,.one (dB y.2)]
theorem OL(s:bf)(e:aO)(h:bB s=true):cA av 425 [.agg s.ds,.agg e.ds] (UH s e) xM:=by
 obtain⟨f1,f2,f3,f4⟩:=kK h;obtain⟨_,_,hp,hj,hl⟩:=cK h;have c0:=eK s ac;rw[h]at c0;have cc:=y5 s ⟨ac,ac⟩;have ce:=MI s e h;cases hn:oM s e with
 |false=>
  have er:l8 s e= -1:=by simp[l8,hn]
  rw[er]at ce;refine aN.q (res:=xM (s,false)) ?_ (s,false) (by simp[UH]) rfl;unfold xM;refine pO func425 call425 ntmps425 results425 λS=>?_;conv=>whnf
  repeat'((first|refine awz ?_|refine cP (c0) ?_|refine cP (cc) ?_|refine cP (ce) ?_|exact rZ|fail)<;>conv=>whnf)
 |true=>
  have nf:=VZ hn;have he:=fI nf.en;have hold:=Rj nf;have ok0:=qq nf hp hj hl hold;have base:∀{t:bf},bB t=true->t.index=e.index->UH s e (t,true):=λh1 h2 _=>⟨h1,by rw[h2,nf.ix],h2⟩;have eo:l8 s e=if e.op.kind=1 then 1 else if e.op.kind=2 then(if(s.pairs.find? (vz e.op.a)).isSome then 2 else 0)else if e.op.kind=3 then(if xQ s.jobs (qk e.op)then 3 else 0)else if e.op.kind=4 then(if kX s e then 4 else 0)else if e.op.kind=5 then(if ik s.lease e.client e.time e.op.a then 5 else 0)else 0:=by
   simp only[l8,hn,Bool.not_true,Bool.false_eq_true,if_false];rfl
  have none0:l8 s e=0->cA av 425 [.agg s.ds,.agg e.ds] (UH s e) xM:=λer=>by
   rw[er]at ce;refine aN.q (res:=xM (⟨e.index,e.time,s.pairs,s.jobs,s.lease⟩,true)) ?_ (⟨e.index,e.time,s.pairs,s.jobs,s.lease⟩,true) (base ok0 rfl) rfl;unfold xM;refine pO func425 call425 ntmps425 results425 λS=>?_;conv=>whnf
   repeat'((first|refine awz ?_|refine cP (c0) ?_|refine cP (cc) ?_|refine cP (ce) ?_|exact rZ|fail)<;>conv=>whnf)
  by_cases k1:e.op.kind=1
  ·rw[if_pos k1]at eo;rw[eo]at ce;have po:dU ⟨e.op.a,e.op.b⟩=true:=by
    have:=he.2.2.2.2;simp only[m9,if_pos k1,Bool.and_eq_true]at this;simp only[dU,Bool.and_eq_true];exact⟨this.1.1.1,this.1.1.2⟩
   have cp:=Ul s.pairs ⟨e.op.a,e.op.b⟩ hp po;refine aN.q (res:=xM (⟨e.index,e.time,ud s.pairs ⟨e.op.a,e.op.b⟩,s.jobs,s.lease⟩,true)) ?_ (⟨e.index,e.time,ud s.pairs ⟨e.op.a,e.op.b⟩,s.jobs,s.lease⟩,true) (base (qq nf (Dw hp po) hj hl hold) rfl) rfl;unfold xM;refine pO func425 call425 ntmps425 results425 λS=>?_;conv=>whnf
   repeat'((first|refine awz ?_|refine cP (c0) ?_|refine cP (cc) ?_|refine cP (ce) ?_|refine cP (cp) ?_|exact rZ|fail)<;>conv=>whnf)
  ·rw[if_neg k1]at eo;by_cases k2:e.op.kind=2
   ·rw[if_pos k2]at eo;cases hf:(s.pairs.find? (vz e.op.a)).isSome with
    |false=>rw[hf,if_neg ah]at eo;exact none0 eo
    |true=>
     rw[hf,if_pos rfl]at eo;rw[eo]at ce;obtain⟨b,cp⟩:=RY s.pairs e.op.a hp;refine aN.q (res:=xM (⟨e.index,e.time,Re s.pairs e.op.a,s.jobs,s.lease⟩,true)) ?_ (⟨e.index,e.time,Re s.pairs e.op.a,s.jobs,s.lease⟩,true) (base (qq nf (UR hp _) hj hl hold) rfl) rfl;unfold xM;refine pO func425 call425 ntmps425 results425 λS=>?_;conv=>whnf
     repeat'((first|refine awz ?_|refine cP (c0) ?_|refine cP (cc) ?_|refine cP (ce) ?_|refine cP (cp) ?_|exact rZ|fail)<;>conv=>whnf)
   ·rw[if_neg k2]at eo;by_cases k3:e.op.kind=3
    ·rw[if_pos k3]at eo;cases hf:xQ s.jobs (qk e.op)with
     |false=>rw[hf,if_neg ah]at eo;exact none0 eo
     |true=>
      rw[hf,if_pos rfl]at eo;rw[eo]at ce;have cp:=CP s.jobs (qk e.op) hj hf;have c6:=IQ e.op;have ho:bO (qN s.jobs (qk e.op))=true:=by
       simp only[xQ,Bool.and_eq_true,decide_eq_true_eq,beq_iff_eq,Option.isNone_iff_eq_none]at hf;exact PS hj hf.1.1.1 hf.1.1.2 hf.1.2 hf.2
      have hfi:∀j∈qN s.jobs (qk e.op),j.fired<=e.index:=λj hjm=>by
       rcases FC hjm with hjm|rfl
       ·exact hold j hjm
       ·show(0:Int)<=e.index;omega
      refine aN.q (res:=xM (⟨e.index,e.time,s.pairs,qN s.jobs (qk e.op),s.lease⟩,true)) ?_ (⟨e.index,e.time,s.pairs,qN s.jobs (qk e.op),s.lease⟩,true) (base (qq nf hp ho hl hfi) rfl) rfl;unfold xM;refine pO func425 call425 ntmps425 results425 λS=>?_;conv=>whnf
      repeat'(first|((first|refine awz ?_|refine cP (c0) ?_|refine cP (cc) ?_|refine cP (ce) ?_|fail)<;>conv=>whnf)|(refine aaL aM 15 (tkc [0,1,2,3] (.one 4 (.one 5 (tkc [6,7,8,9] (.one 10 .done))))) [(2,9980),(3,9981)] tf ae ae ae ae (λRz=>?_);(conv=>whnf);intro bp0 up0;(conv=>whnf);intro bp1 up1;(conv=>whnf))|((first|refine cP (c6) ?_|refine cP (cp) ?_|exact rZ|fail)<;>conv=>whnf))
    ·rw[if_neg k3]at eo;by_cases k4:e.op.kind=4
     ·rw[if_pos k4]at eo;cases hf:kX s e with
      |false=>rw[hf,if_neg ah]at eo;exact none0 eo
      |true=>
       rw[hf,if_pos rfl]at eo;rw[eo]at ce;have cj:=wd s.jobs e.op.a hj;cases hjo:ya s.jobs e.op.a with
       |none=>simp[kX,hjo]at hf
       |some j=>
        rw[hjo]at cj;have hj0:j.fired=0:=by
         simp only[kX,hjo,Bool.and_eq_true,beq_iff_eq]at hf;exact hf.2.1.1
        have hid:j.id=e.op.a:=by simpa using List.find?_some hjo
        obtain⟨n,hnl,hnj⟩:=List.getElem_of_mem (List.mem_of_find?_eq_some hjo);have hjk:=(dF hj).2.1 j (List.mem_of_find?_eq_some hjo);have po:dU ⟨j.key,j.value⟩=true:=by
         simp only[iN,Bool.and_eq_true]at hjk;simp only[dU,Bool.and_eq_true];exact⟨hjk.1.1.2,hjk.1.2⟩
        have hno:∀x∈s.jobs,x.fired≠e.index:=λx hx=>by
         have:=wy h x hx;have:=nf.ix;omega
        have cf:=MQ s.jobs e.op.a e.index n hj hnl (by rw[hnj];exact hid) (by rw[hnj];exact hj0) he.1 hno;have cp:=Ul s.pairs ⟨j.key,j.value⟩ hp po;have hfi:∀x∈mu s.jobs n e.index,x.fired<=e.index:=λx hx=>by
         obtain⟨m,hm,rfl⟩:=List.getElem_of_mem hx;rw[lS];split
         ·exact Int.le_refl _
         ·exact hold _ (List.getElem_mem _)
        refine aN.q (res:=xM (⟨e.index,e.time,ud s.pairs ⟨j.key,j.value⟩,mu s.jobs n e.index,s.lease⟩,true)) ?_ (⟨e.index,e.time,ud s.pairs ⟨j.key,j.value⟩,mu s.jobs n e.index,s.lease⟩,true) (base (qq nf (Dw hp po) (To hj he.1 hno) hl hfi) rfl) rfl;unfold xM;refine pO func425 call425 ntmps425 results425 λS=>?_;conv=>whnf
        repeat'((first|refine awz ?_|refine cP (c0) ?_|refine cP (cc) ?_|refine cP (ce) ?_|refine cP (cj) ?_|refine cP (cf) ?_|refine cP (cp) ?_|exact rZ|fail)<;>conv=>whnf)
     ·rw[if_neg k4]at eo;by_cases k5:e.op.kind=5
      ·rw[if_pos k5]at eo;cases hf:ik s.lease e.client e.time e.op.a with
       |false=>rw[hf,if_neg ah]at eo;exact none0 eo
       |true=>
        rw[hf,if_pos rfl]at eo;rw[eo]at ce;have cg:=FU s.lease e.client e.time e.op.a hl;rw[hf,if_pos rfl]at cg;refine aN.q (res:=xM (⟨e.index,e.time,s.pairs,s.jobs,yK s.lease e.client e.time e.op.a⟩,true)) ?_ (⟨e.index,e.time,s.pairs,s.jobs,yK s.lease e.client e.time e.op.a⟩,true) (base (qq nf hp hj (Tu hl hf) hold) rfl) rfl;unfold xM;refine pO func425 call425 ntmps425 results425 λS=>?_;conv=>whnf
        repeat'((first|refine awz ?_|refine cP (c0) ?_|refine cP (cc) ?_|refine cP (ce) ?_|refine cP (cg) ?_|exact rZ|fail)<;>conv=>whnf)
      ·rw[if_neg k5]at eo;exact none0 eo
end Go.Proofs.YthgkdhnlehneeaaGreatDoor
