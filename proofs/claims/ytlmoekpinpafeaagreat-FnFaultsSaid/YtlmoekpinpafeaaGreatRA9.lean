/- RA9 -/
import Derived.Test.YtlmoekpinpafeaaGreatQC
import Derived.Test.YtlmoekpinpafeaaGreatAvMD
import Derived.Test.YtlmoekpinpafeaaGreatWB8
set_option maxHeartbeats 8000000
set_option linter.unusedVariables false
set_option linter.unusedSimpArgs false
set_option maxRecDepth 100000
open List (flatMap_cons length_cons length_map length_nil map_append mem_map)
namespace Go.Proofs.YtlmoekpinpafeaaGreat
open Go.Proofs.Tryz
open Go.ChangeShapes Go.WideShapes Go.RowKit
def oQ:List (List Nat):=a8 [0,0,0,0,4,1323137,0,0x1c61440c2045187]
theorem Jk(t:DTwo)(ht:dw t=false):aM av 253 [.agg t.ds] (.tup [.agg d8.ds,.one (dB false)]):=by
 have n1:(!dw t)=true:=by rw[ht];rfl
 refine pO func253 call253 ntmps253 results253 λS=>?_;conv=>whnf
 repeat'(first|refine awz ?_|(refine cP (gi t) ?_;conv=>whnf)|exact rZ|fail)
def KF:AP:= .tup [.agg P8.ds,.agg d8.ds,.agg (⟨0,0,[]⟩:DBook).ds,.one (dB false)]
theorem BR(t:DTwo)(ht:dw t=false):aM av 184 [.agg t.ds] KF:=by
 have hi:=Jk t ht;unfold KF;refine pO func184 call184 ntmps184 results184 λS=>?_;conv=>whnf
 repeat'(first|refine awz ?_|(refine cP (hi) ?_;conv=>whnf)|exact rZ|fail)
def Si:DLogNode:=⟨P8,d8,d8,false,⟨0,0,[]⟩,[],0,[]⟩
def Gs(o:Option DLogNode):AP:= .tup [.agg (o.getD Si).ds,.one (dB o.isSome)]
theorem yi(n:DLogNode)(hr:aM av 184 [.agg n.two.ds] KF):aM av 125 [.agg n.ds] (Gs none):=by
 unfold KF at hr;unfold Gs;refine pO func125 call125 ntmps125 results125 λS=>?_;conv=>whnf
 repeat'(first|refine awz ?_|(refine cP (hr) ?_;conv=>whnf)|exact rZ|fail)
theorem G9(n:DLogNode):aM av 125 [.agg n.ds] (Gs (f8 n)):=by
 cases hk:dw n.two with
 |false=>
  have e:f8 n=none:=by simp[f8,hk]
  rw[e];exact yi n (BR n.two hk)
 |true=>
  have hr:=EM n.two hk;unfold PW at hr;cases eh:pc n.two with
  |none=>
   rw[eh]at hr;have e:f8 n=none:=by simp[f8,hk,eh]
   rw[e];exact yi n hr
  |some h=>
   rw[eh]at hr;simp only at hr;have ho:=w7 eh;have g:=oZ (t:=n.two) ho;have hf:=bD ho;have e:f8 n=some ⟨uR h (gq n.two h).1,h,d8,false,(gq n.two h).1,(gq n.two h).2,aY (gq n.two h).1,[]⟩:=by simp[f8,hk,eh]
   rw[e];generalize gq n.two h=p at g hr;obtain⟨b,s⟩:=p;simp only at g hr;have hb:=bh g.ok;have so:=kP h.seen b.entries;rw[ja hf.2.2.2.2.1 ac g.fold]at so;generalize uR h b=tt at hr;unfold Gs;refine pO func125 call125 ntmps125 results125 λS=>?_;conv=>whnf
   repeat'(first|refine awz ?_|(refine cP (hr) ?_;conv=>whnf)|fail)
   (refine TD aL 4 (tkc [0,1,2,3] (.two 4 (.two 5 (.one 6 (.one 7 .done)) 6 (.one 5 (.one 7 .done))) 6 (onc [4,5,7] .done))) [(4,9980),(5,9981),(6,9982)] oQ ae ae ae ae (λRz=>?_);(conv=>whnf);intro bp0 up0;(conv=>whnf);intro bp1 up1;(conv=>whnf);intro bp2 up2;(conv=>whnf))
   repeat'((first|refine awz ?_|refine cP (dp b g.ok) ?_|refine cP (so) ?_|exact rZ|refine tW ?_ ?_|fail)<;>conv=>whnf)
section
variable {l:List DJob}{k:Nat}
def oR:List (List Nat):=a8 [0,0,0,194,4,5,0,0,519,9,10,710,769,0xd30b28920718510308134d]
def nx:List (List Nat):=a8 [0,0,0,194,4,5,0,0,519,9,10,0,0,844,14,15,0,0,1169,19,20,0,0,1494,24,25,441778886,1729,0x71b69961759551349140f38d30b28920718510308171c]
theorem FZ(h:bu l=true):l.length<=8:=by
 simp only[bu,Bool.and_eq_true,decide_eq_true_eq]at h;exact h.1.1.1
def pu(l:List DPair)(k:Nat):List Int:=(l.length:Int)::(l.take k).flatMap λp=>[p.key,p.value]
theorem IU(l:List DPair)(k:Nat):(pu l k).length<=1+5*l.length:=by
 have h1:(l.take k).length<=l.length:=by rw[List.length_take];omega
 have h2:∀m:List DPair,(m.flatMap λp=>[p.key,p.value]).length<=5*m.length:=by
  intro m;induction m with
  |nil=>simp
  |cons p r ih=>simp only[flatMap_cons,List.length_append,length_cons,length_nil];omega
 have:=h2 (l.take k);simp only[pu,length_cons];omega
theorem Gv{l:List DPair}(hk:k<l.length):(pu l (k+1)).map eI=(pu l k).map eI++((λp:DPair=>[p.key,p.value]) l[k]).map eI:=by
 have e:l.take (k+1)=l.take k++[l[k]]:=by rw[List.take_add_one,List.getElem?_eq_getElem hk];rfl
 unfold pu;rw[e,List.flatMap_append];simp only[List.map_cons,List.map_append,flatMap_cons,List.flatMap_nil,List.append_nil,List.cons_append]
theorem yh(l:List DPair)(h:bo l=true):aM av 329 [.one (.sl (l.map DPair.ds))] (.val (.one (.sl ((sC l).map eI)))):=by
 have hm:=hI h;have n1:(!bo l)=false:=by rw[h];rfl
 refine pO func329 call329 ntmps329 results329 λS=>?_;conv=>whnf
 repeat'(first|refine awz ?_|(refine cP (dX l) ?_;conv=>whnf)|fail)
 have E0:([[AD.pv (Value.int .i64 ((l.map DPair.ds).length:Int))]]:List (List AD))=(pu l 0).map eI:=by rw[length_map];rfl
 refine TE (λk:Nat=>k<=l.length) (11::[3,4,12,13,14,15,16,17,18,19,20,21,22,23,24,25,26,27,28,29,30]) (λk=>[(3,.one (.own 11)),(4,vI .i64 (k:Int))]) (λk=>[(11,.row 2 1 ((pu l k).map eI))]) (λk=>l.length-k) 0 (Nat.zero_le _) ?_ (Tu (congrArg some (congrArg (AO.row 2 1) E0)) Tx) (λk hk=>?_)<;>(conv=>whnf)
 ·exact whd
 ·have htl:=IU l k;by_cases hlt:k<l.length
  ·have hc:decide ((k:Int)<((l.map DPair.ds).length:Int))=true:=by simp only[decide_eq_true_eq,length_map];omega
   have hs:=Gv hlt;repeat'(first|refine awz ?_|fail)
   (refine TD aL 7 (tkc [0,1,2,3,4,5,6,7,8,9,10] (.one 11 (.one 12 (.take 13 .done)))) [] oR ae ae ae ae (λRz=>?_);(conv=>whnf))
   repeat'((first|refine awz ?_|refine TJ hlt ?_|refine aQ (by simp only[length_map,length_nil,length_cons]<;>omega) ?_|refine Tz ac ac ?_|fail)<;>conv=>whnf)
   all_goals
    refine aW.mk ⟨k+1,hlt,ac,?_,Tu (by rw[hs];rfl) Tx⟩;exact hds
  ·have e:k=l.length:=ac;subst e;have hc:decide ((l.length:Int)<((l.map DPair.ds).length:Int))=false:=ai;have et:pu l l.length=sC l:=by simp[pu,sC]
   rw[et];repeat'(first|refine awz ?_|exact rZ|fail)
def vP(l:List DJob)(k:Nat):List Int:=(l.length:Int)::(l.take k).flatMap λp=>[p.id,p.due,p.key,p.value,p.fired]
theorem LE(l:List DJob)(k:Nat):(vP l k).length<=1+5*l.length:=by
 have h1:(l.take k).length<=l.length:=by rw[List.length_take];omega
 have h2:∀m:List DJob,(m.flatMap λp=>[p.id,p.due,p.key,p.value,p.fired]).length<=5*m.length:=by
  intro m;induction m with
  |nil=>simp
  |cons p r ih=>simp only[flatMap_cons,List.length_append,length_cons,length_nil];omega
 have:=h2 (l.take k);simp only[vP,length_cons];omega
theorem ID(hk:k<l.length):(vP l (k+1)).map eI=(vP l k).map eI++((λp:DJob=>[p.id,p.due,p.key,p.value,p.fired]) l[k]).map eI:=by
 have e:l.take (k+1)=l.take k++[l[k]]:=by rw[List.take_add_one,List.getElem?_eq_getElem hk];rfl
 unfold vP;rw[e,List.flatMap_append];simp only[List.map_cons,List.map_append,flatMap_cons,List.flatMap_nil,List.append_nil,List.cons_append]
theorem wi(l:List DJob)(h:bu l=true):aM av 330 [.one (.sl (l.map DJob.ds))] (.val (.one (.sl ((xN l).map eI)))):=by
 have hm:=FZ h;have n1:(!bu l)=false:=by rw[h];rfl
 refine pO func330 call330 ntmps330 results330 λS=>?_;conv=>whnf
 repeat'(first|refine awz ?_|(refine cP (dH l) ?_;conv=>whnf)|fail)
 have E0:([[AD.pv (Value.int .i64 ((l.map DJob.ds).length:Int))]]:List (List AD))=(vP l 0).map eI:=by rw[length_map];rfl
 refine TE (λk:Nat=>k<=l.length) (11::[3,4,12,13,14,15,16,17,18,19,20,21,22,23,24,25,26,27,28,29,30,31,32,33,34,35,36,37,38,39,40,41,42,43,44,45]) (λk=>[(3,.one (.own 11)),(4,vI .i64 (k:Int))]) (λk=>[(11,.row 2 1 ((vP l k).map eI))]) (λk=>l.length-k) 0 (Nat.zero_le _) ?_ (Tu (congrArg some (congrArg (AO.row 2 1) E0)) Tx) (λk hk=>?_)<;>(conv=>whnf)
 ·exact whd
 ·have htl:=LE l k;by_cases hlt:k<l.length
  ·have hc:decide ((k:Int)<((l.map DJob.ds).length:Int))=true:=by simp only[decide_eq_true_eq,length_map];omega
   have hs:=ID hlt;repeat'(first|refine awz ?_|fail)
   (refine TD aL 7 (tkc [0,1,2,3,4,5,6,7,8,9,10,11,12,13,14,15,16,17,18,19,20,21,22,23,24,25] (.one 26 (.one 27 (.take 28 .done)))) [] nx ae ae ae ae (λRz=>?_);(conv=>whnf))
   repeat'((first|refine awz ?_|refine TJ hlt ?_|refine aQ (by simp only[length_map,length_nil,length_cons]<;>omega) ?_|refine Tz ac ac ?_|fail)<;>conv=>whnf)
   all_goals
    refine aW.mk ⟨k+1,hlt,ac,?_,Tu (by rw[hs];rfl) Tx⟩;exact hds
  ·have e:k=l.length:=ac;subst e;have hc:decide ((l.length:Int)<((l.map DJob.ds).length:Int))=false:=ai;have et:vP l l.length=xN l:=by simp[vP,xN]
   rw[et];repeat'(first|refine awz ?_|exact rZ|fail)
theorem yb(l:DLease)(h:dD l=true):aM av 331 [.agg l.ds] (.val (.one (.sl ([l.holder,l.epoch,l.til].map eI)))):=by
 have n1:(!dD l)=false:=by rw[h];rfl
 refine pO func331 call331 ntmps331 results331 λS=>?_;conv=>whnf
 repeat'(first|refine awz ?_|(refine cP (dW l) ?_;conv=>whnf)|exact rZ|fail)
theorem yy(s:DState)(h:a9 s=true):aM av 321 [.agg s.ds] (.val (.one (.sl ((bI s).map eI)))):=by
 obtain⟨h1,h2,h3,h4,h5⟩:=bJ h;have hp:=hI h3;have hj:=FZ h4;have lp:(sC s.pairs).length=1+2*s.pairs.length:=by simp only[sC,length_cons,sD];omega
 have lj:(xN s.jobs).length=1+5*s.jobs.length:=by simp only[xN,length_cons,ua];omega
 have n1:(!a9 s)=false:=by rw[h];rfl
 refine pO func321 call321 ntmps321 results321 λS=>?_;conv=>whnf
 repeat'((first|refine awz ?_|refine cP (di s ac) ?_|refine cP (yh s.pairs h3) ?_|refine cP (wi s.jobs h4) ?_|refine cP (yb s.lease h5) ?_|refine aP (by first|(intro y hy;obtain⟨a,_,rfl⟩:=List.mem_map.1 hy;rfl)|(simp;done)) ?_|refine aQ (by simp only[length_map,length_nil,length_cons,List.length_append,lp,lj]<;>omega) ?_|fail)<;>conv=>whnf)
 all_goals(simp[bI,eI];done)
end
section
variable {m:List Int}{k:Nat}
def oS:List (List Nat):=a8 [0,0,0,194,4,0,0,7,518,9,645,11,769,0xd30b28920718510308134d]
def ny:List (List Nat):=a8 [0,0,0,194,4,0,0,7,518,9,0,0,12,843,14,0,0,17,1168,19,0,0,22,1493,24,424735365,26,1729,0x71b69961759551349140f38d30b28920718510308171c]
theorem lM{i:Nat}(h:i<m.length)(x:Int):((x::m).map eI)[i+1]? =some (eI (m.getD i 0)):=by
 rw[List.getElem?_map,List.getElem?_cons_succ,List.getElem?_eq_getElem h,List.getD_eq_getElem?_getD,List.getElem?_eq_getElem h];rfl
def Av(o:Option (List DPair)):AP:= .tup [.one (.sl ((o.getD []).map DPair.ds)),.one (dB o.isSome)]
def yL(m:List Int):Option (List DPair):=if bo (dt m)then some (dt m)else none
theorem Hw(hk:k<(dt m).length):((dt m).take (k+1)).map DPair.ds=((dt m).take k).map DPair.ds++[DPair.ds ((dt m)[k])]:=by
 rw[List.take_add_one,List.getElem?_eq_getElem hk,List.map_append];rfl
theorem Hd(m:List Int)(n:Nat)(hn:n<=10)(hl:m.length=2*n):aM av 332 [.one (.sl (((n:Int)::m).map eI))] (Av (yL m)):=by
 have hpl:(dt m).length=n:=by rw[Ah,hl];omega
 have hln:((((n:Int)::m).map eI).length:Int)=1+2*(n:Int):=by simp[hl];omega
 have m1:(((((n:Int)::m).map eI).length:Int).tmod 2 !=1)=false:=by rw[hln,Int.tmod_eq_emod_of_nonneg ac];simp only[bne_eq_false_iff_eq];omega
 have m2:decide (((((n:Int)::m).map eI).length:Int)>1+2*10)=false:=by rw[hln];simp only[decide_eq_false_iff_not];omega
 have main:∀o:Option (List DPair),(bo (dt m)=true->o=some (dt m))->(bo (dt m)=false->o=none)->aM av 332 [.one (.sl (((n:Int)::m).map eI))] (Av o):=by
  intro o h1 h2;refine pO func332 call332 ntmps332 results332 λS=>?_;conv=>whnf
  repeat'(first|refine awz ?_|(refine And.intro ah ?_;conv=>whnf)|fail)
  refine TE (λk:Nat=>k<=n) (16::[4,5,17,18,19,20,21,22,23,24,25,26,27,28,29,30,31,32,33,34,35]) (λk=>[(4,.one (.own 16)),(5,vI .i64 (1+2*(k:Int)))]) (λk=>[(16,.row 315 2 (((dt m).take k).map DPair.ds))]) (λk=>n-k) 0 (Nat.zero_le _) ?_ sbW (λk hk=>?_)<;>(conv=>whnf)
  ·exact whd
  ·by_cases hlt:k<n
   ·have hc:decide (1+2*(k:Int)<((((n:Int)::m).map eI).length:Int))=true:=by rw[hln];simp only[decide_eq_true_eq];omega
    have hs:=Hw (m:=m) (k:=k) ac;have hel:(dt m)[k]'(ac)=(⟨m.getD (2*k) 0,m.getD (2*k+1) 0⟩:DPair):=by simp[dt]
    rw[hel]at hs;repeat'(first|refine awz ?_|fail)
    (refine TD aL 7 (tkc [0,1,2,3,4,5,6] (.one 7 (.take 8 (onc [9,10,11,12] (.take 13 .done))))) [] oS ae ae ae ae (λRz=>?_);(conv=>whnf))
    repeat'((first|refine awz ?_|refine Ty (2*k+1) _ ac (lM (i:=2*k) ac _) ?_|refine Ty (2*k+2) _ ac (lM (i:=2*k+1) ac _) ?_|refine aQ aA ?_|refine Tz ac ac ?_|fail)<;>conv=>whnf)
    all_goals
     refine aW.mk ⟨k+1,hlt,ac,?_,Tu (by rw[hs];rfl) Tx⟩;rw[show(1+2*((k+1:Nat):Int))=1+2*(k:Int)+2 by omega];exact hds
   ·have e:k=n:=ac;subst e;have hc:decide (1+2*(k:Int)<((((k:Int)::m).map eI).length:Int))=false:=by rw[hln];simp only[decide_eq_false_iff_not];omega
    have n3:((k:Int) !=(((dt m).map DPair.ds).length:Int))=false:=by simp[hpl]
    rw[List.take_of_length_le ac];cases hp:bo (dt m)with
    |false=>
     have n4:(!bo (dt m))=true:=by rw[hp];rfl
     obtain rfl:=h2 hp;unfold Av;repeat'((first|refine awz ?_|refine Ty 0 _ rfl rfl ?_|refine aG.scalar (dX (dt m)) rfl rfl ?_|exact rZ|fail)<;>conv=>whnf)
    |true=>
     have n4:(!bo (dt m))=false:=by rw[hp];rfl
     obtain rfl:=h1 hp;unfold Av;repeat'((first|refine awz ?_|refine Ty 0 _ rfl rfl ?_|refine aG.scalar (dX (dt m)) rfl rfl ?_|exact rZ|fail)<;>conv=>whnf)
 exact main _ (λh=>by simp[yL,h]) (λh=>by simp[yL,h])
def Gr(o:Option (List DJob)):AP:= .tup [.one (.sl ((o.getD []).map DJob.ds)),.one (dB o.isSome)]
def Ev(m:List Int):Option (List DJob):=if bu (eF m)then some (eF m)else none
theorem JW(hk:k<(eF m).length):((eF m).take (k+1)).map DJob.ds=((eF m).take k).map DJob.ds++[DJob.ds ((eF m)[k])]:=by
 rw[List.take_add_one,List.getElem?_eq_getElem hk,List.map_append];rfl
theorem EO(m:List Int)(n:Nat)(hn:n<=8)(hl:m.length=5*n):aM av 333 [.one (.sl (((n:Int)::m).map eI))] (Gr (Ev m)):=by
 have hpl:(eF m).length=n:=by rw[LJ,hl];omega
 have hln:((((n:Int)::m).map eI).length:Int)=1+5*(n:Int):=by simp[hl];omega
 have m1:(((((n:Int)::m).map eI).length:Int).tmod 5 !=1)=false:=by rw[hln,Int.tmod_eq_emod_of_nonneg ac];simp only[bne_eq_false_iff_eq];omega
 have m2:decide (((((n:Int)::m).map eI).length:Int)>1+5*8)=false:=by rw[hln];simp only[decide_eq_false_iff_not];omega
 have main:∀o:Option (List DJob),(bu (eF m)=true->o=some (eF m))->(bu (eF m)=false->o=none)->aM av 333 [.one (.sl (((n:Int)::m).map eI))] (Gr o):=by
  intro o h1 h2;refine pO func333 call333 ntmps333 results333 λS=>?_;conv=>whnf
  repeat'(first|refine awz ?_|(refine And.intro ah ?_;conv=>whnf)|fail)
  refine TE (λk:Nat=>k<=n) (16::[4,5,17,18,19,20,21,22,23,24,25,26,27,28,29,30,31,32,33,34,35,36,37,38,39,40,41,42,43,44,45,46,47,48,49,50]) (λk=>[(4,.one (.own 16)),(5,vI .i64 (1+5*(k:Int)))]) (λk=>[(16,.row 256 5 (((eF m).take k).map DJob.ds))]) (λk=>n-k) 0 (Nat.zero_le _) ?_ sbW (λk hk=>?_)<;>(conv=>whnf)
  ·exact whd
  ·by_cases hlt:k<n
   ·have hc:decide (1+5*(k:Int)<((((n:Int)::m).map eI).length:Int))=true:=by rw[hln];simp only[decide_eq_true_eq];omega
    have hs:=JW (m:=m) (k:=k) ac;have hel:(eF m)[k]'(ac)=(⟨m.getD (5*k) 0,m.getD (5*k+1) 0,m.getD (5*k+2) 0,m.getD (5*k+3) 0,m.getD (5*k+4) 0⟩:DJob):=by simp[eF]
    rw[hel]at hs;repeat'(first|refine awz ?_|fail)
    (refine TD aL 7 (tkc [0,1,2,3,4,5,6,7,8,9,10,11,12,13,14,15,16,17,18,19,20,21,22,23,24] (onc [25,26,27] (.take 28 .done))) [] ny ae ae ae ae (λRz=>?_);(conv=>whnf))
    repeat'((first|refine awz ?_|refine Ty (5*k+1) _ ac (lM (i:=5*k) ac _) ?_|refine Ty (5*k+2) _ ac (lM (i:=5*k+1) ac _) ?_|refine Ty (5*k+3) _ ac (lM (i:=5*k+2) ac _) ?_|refine Ty (5*k+4) _ ac (lM (i:=5*k+3) ac _) ?_|refine Ty (5*k+5) _ ac (lM (i:=5*k+4) ac _) ?_|refine aQ aA ?_|refine Tz ac ac ?_|fail)<;>conv=>whnf)
    all_goals
     refine aW.mk ⟨k+1,hlt,ac,?_,Tu (by rw[hs];rfl) Tx⟩;rw[show(1+5*((k+1:Nat):Int))=1+5*(k:Int)+5 by omega];exact hds
   ·have e:k=n:=ac;subst e;have hc:decide (1+5*(k:Int)<((((k:Int)::m).map eI).length:Int))=false:=by rw[hln];simp only[decide_eq_false_iff_not];omega
    have n3:((k:Int) !=(((eF m).map DJob.ds).length:Int))=false:=by simp[hpl]
    rw[List.take_of_length_le ac];cases hp:bu (eF m)with
    |false=>
     have n4:(!bu (eF m))=true:=by rw[hp];rfl
     obtain rfl:=h2 hp;unfold Gr;repeat'((first|refine awz ?_|refine Ty 0 _ rfl rfl ?_|refine aG.scalar (dH (eF m)) rfl rfl ?_|exact rZ|fail)<;>conv=>whnf)
    |true=>
     have n4:(!bu (eF m))=false:=by rw[hp];rfl
     obtain rfl:=h1 hp;unfold Gr;repeat'((first|refine awz ?_|refine Ty 0 _ rfl rfl ?_|refine aG.scalar (dH (eF m)) rfl rfl ?_|exact rZ|fail)<;>conv=>whnf)
 exact main _ (λh=>by simp[Ev,h]) (λh=>by simp[Ev,h])
end
section
variable {a b x:Int}{l:List Int}{i:Nat}
def jq:List (List Nat):=a8 [0,1,129,0,4,324,0,7,519,848966926504392,0,0xb2881c9144182043]
def jy:List (List Nat):=dN 11 [137754,137755,137758,137078,137105,137186,118826,119555,121742,127939,59048]
def gy:List (List Nat):=a8 [0,1,2,0,4,5,0,0,0,153121155,0,0xb28920718510308128b]
theorem hE(h:i<l.length):(l.map eI)[i]? =some (eI (l.getD i 0)):=by
 rw[List.getElem?_map,List.getElem?_eq_getElem h,List.getD_eq_getElem?_getD,List.getElem?_eq_getElem h];rfl
theorem tl(h:i<l.length):l.drop i=l.getD i 0::l.drop (i+1):=by
 rw[List.drop_eq_getElem_cons h,List.getD_eq_getElem?_getD,List.getElem?_eq_getElem h];rfl
theorem QA{n:Nat}(h:i<l.length):((l.map eI).take (i+1+n)).drop i=(l.getD i 0::(l.drop (i+1)).take n).map eI:=by
 rw[<-List.map_take,<-List.map_drop,List.drop_take,tl h,show i+1+n-i=n+1 by omega,List.take_succ_cons]
theorem Sd(h:3<=l.length):((l.map eI).take l.length).drop (l.length-3)=[l.getD (l.length-3) 0,l.getD (l.length-2) 0,l.getD (l.length-1) 0].map eI:=by
 rw[<-List.map_take,<-List.map_drop,List.take_length,tl ac,show l.length-3+1=l.length-2 by omega,tl ac,show l.length-2+1=l.length-1 by omega,tl ac,List.drop_of_length_le ac]
def Ew(o:Option DLease):AP:= .tup [.agg (o.getD ⟨0,0,0⟩).ds,.one (dB o.isSome)]
theorem Hb(a b c:Int):aM av 334 [.one (.sl ([a,b,c].map eI))] (Ew (if dD ⟨a,b,c⟩then some ⟨a,b,c⟩else none)):=by
 cases h:dD ⟨a,b,c⟩with
 |false=>
  have n1:(!dD ⟨a,b,c⟩)=true:=by rw[h];rfl
  unfold Ew;refine pO func334 call334 ntmps334 results334 λS=>?_;conv=>whnf
  repeat'(first|refine awz ?_|fail)
  (refine TB aL 3 11 jq jy ae ae ae rfl ?_;conv=>whnf)
  repeat'((first|refine awz ?_|refine Ty 0 _ rfl rfl ?_|refine Ty 1 _ rfl rfl ?_|refine Ty 2 _ rfl rfl ?_|refine cP (dW ⟨a,b,c⟩) ?_|exact rZ|fail)<;>conv=>whnf)
 |true=>
  have n1:(!dD ⟨a,b,c⟩)=false:=by rw[h];rfl
  unfold Ew;refine pO func334 call334 ntmps334 results334 λS=>?_;conv=>whnf
  repeat'(first|refine awz ?_|fail)
  (refine TB aL 3 11 jq jy ae ae ae rfl ?_;conv=>whnf)
  repeat'((first|refine awz ?_|refine Ty 0 _ rfl rfl ?_|refine Ty 1 _ rfl rfl ?_|refine Ty 2 _ rfl rfl ?_|refine cP (dW ⟨a,b,c⟩) ?_|exact rZ|fail)<;>conv=>whnf)
def m9(o:Option DState):AP:= .tup [.agg (o.getD fb).ds,.one (dB o.isSome)]
theorem ly(h:¬(7<=l.length/\(0<=l.getD 2 0/\l.getD 2 0<=10)/\3+2*l.getD 2 0<l.length/\(0<=l.getD (3+2*l.getD 2 0).toNat 0/\l.getD (3+2*l.getD 2 0).toNat 0<=8)/\3+2*l.getD 2 0+1+5*l.getD (3+2*l.getD 2 0).toNat 0+3=l.length)):sv l=false:=by
 cases hf:sv l with
 |false=>rfl
 |true=>
  simp only[sv,aI,Bool.and_eq_true,decide_eq_true_eq]at hf;exact absurd ⟨hf.1.1.1.1,hf.1.1.1.2,hf.1.1.2,hf.1.2,hf.2⟩ h
theorem IS(h:7<=l.length/\(0<=l.getD 2 0/\l.getD 2 0<=10)/\3+2*l.getD 2 0<l.length/\(0<=l.getD (3+2*l.getD 2 0).toNat 0/\l.getD (3+2*l.getD 2 0).toNat 0<=8)/\3+2*l.getD 2 0+1+5*l.getD (3+2*l.getD 2 0).toNat 0+3=l.length):sv l=true:=by
 simp only[sv,aI,Bool.and_eq_true,decide_eq_true_eq];exact⟨⟨⟨⟨h.1,h.2.1⟩,h.2.2.1⟩,h.2.2.2.1⟩,h.2.2.2.2⟩
theorem Kk(h:a<=x/\x<=b):(!aI x a b)=false:=by simp only[aI,Bool.not_eq_false',Bool.and_eq_true,decide_eq_true_eq];exact h
theorem Nd(h:¬(a<=x/\x<=b)):(!aI x a b)=true:=by
 cases hb:aI x a b with
 |false=>rfl
 |true=>simp only[aI,Bool.and_eq_true,decide_eq_true_eq]at hb;exact absurd hb h
theorem i9(h:sv l=false):gS l=none:=by simp[gS,h]
theorem yx(l:List Int)(hl:l.length<=1048576):aM av 325 [.one (.sl (l.map eI))] (m9 (gS l)):=by
 by_cases c1:7<=l.length
 ·have m1:decide (((l.map eI).length:Int)<7)=false:=by simp only[length_map,decide_eq_false_iff_not];omega
  by_cases c2:l.length<=67
  ·have m2:decide (((l.map eI).length:Int)>67)=false:=by simp only[length_map,decide_eq_false_iff_not];omega
   have g2:=hE (l:=l) (i:=2) ac;by_cases c3:0<=l.getD 2 0/\l.getD 2 0<=10
   ·have m3:(!aI (l.getD 2 0) 0 10)=false:=Kk c3;obtain⟨k,ek⟩:∃k:Nat,l.getD 2 0=(k:Int):=⟨(l.getD 2 0).toNat,ac⟩;have hk:k<=10:=ac;have ea:(3+2*l.getD 2 0).toNat=3+2*k:=ac;by_cases c4:3+2*k<l.length
    ·have m4:decide ((3+2*l.getD 2 0)>=((l.map eI).length:Int))=false:=by simp only[length_map,ge_iff_le,decide_eq_false_iff_not];omega
     have gA:=hE (l:=l) (i:=3+2*k) c4;by_cases c5:0<=l.getD (3+2*k) 0/\l.getD (3+2*k) 0<=8
     ·have m5:(!aI (l.getD (3+2*k) 0) 0 8)=false:=Kk c5;obtain⟨j,ej⟩:∃j:Nat,l.getD (3+2*k) 0=(j:Int):=⟨(l.getD (3+2*k) 0).toNat,ac⟩;have hj:j<=8:=ac;by_cases c6:3+2*k+1+5*j+3=l.length
      ·have m6:((3+2*l.getD 2 0+1+5*l.getD (3+2*k) 0+3) !=((l.map eI).length:Int))=false:=by simp only[length_map,bne_eq_false_iff_eq];omega
       have hfit:sv l=true:=IS (by rw[ea];omega);have r1:=Hd ((l.drop 3).take (2*k)) k hk al;have r2:=EO ((l.drop (3+2*k+1)).take (5*j)) j hj al;have r3:=Hb (l.getD (l.length-3) 0) (l.getD (l.length-2) 0) (l.getD (l.length-1) 0);have hc1:((l.map eI).take (3+2*k)).drop 2=((k:Int)::(l.drop 3).take (2*k)).map eI:=by
        have:=QA (l:=l) (i:=2) (n:=2*k) ac;rw[ek]at this;exact this
       have hc2:((l.map eI).take (l.length-3)).drop (3+2*k)=((j:Int)::(l.drop (3+2*k+1)).take (5*j)).map eI:=by
        have:=QA (l:=l) (i:=3+2*k) (n:=5*j) c4;rw[ej,show 3+2*k+1+5*j=l.length-3 by omega]at this;exact this
       have hc3:=Sd (l:=l) ac;have g0:=hE (l:=l) (i:=0) ac;have g1:=hE (l:=l) (i:=1) ac;have er:sw l=⟨l.getD 0 0,l.getD 1 0,dt ((l.drop 3).take (2*k)),eF ((l.drop (3+2*k+1)).take (5*j)),⟨l.getD (l.length-3) 0,l.getD (l.length-2) 0,l.getD (l.length-1) 0⟩⟩:=by
        unfold sw;rw[ea,ej,show(2*l.getD 2 0).toNat=2*k by omega,show(5*(j:Int)).toNat=5*j by omega,List.tail_drop]
       have so:=di (sw l) (by rw[er];simp only[Ah,List.length_take];omega);have main:∀o:Option DState,(a9 (sw l)=true->o=some (sw l))->(a9 (sw l)=false->o=none)->aM av 325 [.one (.sl (l.map eI))] (m9 o):=by
        intro o h1 h2;rw[er]at h1 h2 so;unfold yL Av at r1;unfold Ev Gr at r2;unfold Ew at r3;generalize dt ((l.drop 3).take (2*k))=P at*
        generalize eF ((l.drop (3+2*k+1)).take (5*j))=Q at*
        generalize (⟨l.getD (l.length-3) 0,l.getD (l.length-2) 0,l.getD (l.length-1) 0⟩:DLease)=L at*
        cases hst:a9 ⟨l.getD 0 0,l.getD 1 0,P,Q,L⟩with
        |true=>
         obtain⟨_,_,f3,f4,f5⟩:=bJ hst;simp only[f3,f4,f5,if_true]at r1 r2 r3;have n7:(!a9 ⟨l.getD 0 0,l.getD 1 0,P,Q,L⟩)=false:=by rw[hst];rfl
         obtain rfl:=h1 hst;unfold m9;refine pO func325 call325 ntmps325 results325 λS=>?_;conv=>whnf
         repeat'((first|refine awz ?_|refine Ty 2 (eI (l.getD 2 0)) rfl g2 ?_|refine cP (aN _ _ _) ?_|refine Ty (3+2*k) _ ac gA ?_|(refine⟨2,3+2*k,rfl,(by show _=_;omega),ac,al,(by intro y hy;obtain⟨a,_,rfl⟩:=mem_map.1 hy;rfl),?_⟩;rw[hc1])|(refine⟨3+2*k,l.length-3,(by show _=_;omega),(by show _=_;simp only[length_map];omega),ac,ai,(by intro y hy;obtain⟨a,_,rfl⟩:=mem_map.1 hy;rfl),?_⟩;rw[hc2])|(refine⟨l.length-3,l.length,(by show _=_;simp only[length_map];omega),(by show _=_;simp),ac,ai,(by intro y hy;obtain⟨a,_,rfl⟩:=mem_map.1 hy;rfl),?_⟩;rw[hc3])|refine cP (r1) ?_|refine cP (r2) ?_|refine cP (r3) ?_|refine Tz ac ac ?_|refine Tz aj aj ?_|fail)<;>conv=>whnf)
         (refine TD aL 10 (tkc [0,1,2,3,4,5,6,7,8] (.two 9 (.one 10 (.one 11 .done)) 10 (.one 9 (.one 11 .done)))) [(10,9980)] gy ae ae ae ae (λRz=>?_);(conv=>whnf);intro bp0 up0;(conv=>whnf))
         repeat'((first|refine awz ?_|refine Ty 0 _ rfl g0 ?_|refine Ty 1 _ rfl g1 ?_|refine cP (so) ?_|exact rZ|refine tW ?_ ?_|fail)<;>conv=>whnf)
        |false=>
         have n7:(!a9 ⟨l.getD 0 0,l.getD 1 0,P,Q,L⟩)=true:=by rw[hst];rfl
         obtain rfl:=h2 hst;unfold m9;cases f3:bo P<;>cases f4:bu Q<;>cases f5:dD L<;>simp only[f3,f4,f5,if_true,if_false,Bool.false_eq_true]at r1 r2 r3
         all_goals
          refine pO func325 call325 ntmps325 results325 λS=>?_;conv=>whnf
          repeat'((first|refine awz ?_|refine Ty 2 (eI (l.getD 2 0)) rfl g2 ?_|refine cP (aN _ _ _) ?_|refine Ty (3+2*k) _ ac gA ?_|(refine⟨2,3+2*k,rfl,(by show _=_;omega),ac,al,(by intro y hy;obtain⟨a,_,rfl⟩:=mem_map.1 hy;rfl),?_⟩;rw[hc1])|(refine⟨3+2*k,l.length-3,(by show _=_;omega),(by show _=_;simp only[length_map];omega),ac,ai,(by intro y hy;obtain⟨a,_,rfl⟩:=mem_map.1 hy;rfl),?_⟩;rw[hc2])|(refine⟨l.length-3,l.length,(by show _=_;simp only[length_map];omega),(by show _=_;simp),ac,ai,(by intro y hy;obtain⟨a,_,rfl⟩:=mem_map.1 hy;rfl),?_⟩;rw[hc3])|refine cP (r1) ?_|refine cP (r2) ?_|refine cP (r3) ?_|refine Tz ac ac ?_|refine Tz aj aj ?_|fail)<;>conv=>whnf)
          (refine TD aL 10 (tkc [0,1,2,3,4,5,6,7,8] (.two 9 (.one 10 (.one 11 .done)) 10 (.one 9 (.one 11 .done)))) [(10,9980)] gy ae ae ae ae (λRz=>?_);(conv=>whnf);intro bp0 up0;(conv=>whnf))
          repeat'((first|refine awz ?_|refine Ty 0 _ rfl g0 ?_|refine Ty 1 _ rfl g1 ?_|refine cP (so) ?_|exact rZ|refine tW ?_ ?_|fail)<;>conv=>whnf)
       exact main _ (λh=>by simp[gS,hfit,h]) (λh=>by simp[gS,h])
      ·have m6:((3+2*l.getD 2 0+1+5*l.getD (3+2*k) 0+3) !=((l.map eI).length:Int))=true:=by simp only[length_map,bne_iff_ne,ne_eq];omega
       rw[i9 (ly (by rw[ea];omega))];unfold m9;refine pO func325 call325 ntmps325 results325 λS=>?_;conv=>whnf
       repeat'((first|refine awz ?_|refine Ty 2 (eI (l.getD 2 0)) rfl g2 ?_|refine cP (aN _ _ _) ?_|refine Ty (3+2*k) _ ac gA ?_|refine Tz ac ac ?_|exact rZ|fail)<;>conv=>whnf)
     ·have m5:(!aI (l.getD (3+2*k) 0) 0 8)=true:=Nd c5;rw[i9 (ly (by rw[ea];omega))];unfold m9;refine pO func325 call325 ntmps325 results325 λS=>?_;conv=>whnf
      repeat'((first|refine awz ?_|refine Ty 2 (eI (l.getD 2 0)) rfl g2 ?_|refine cP (aN _ _ _) ?_|refine Ty (3+2*k) _ ac gA ?_|refine Tz ac ac ?_|exact rZ|fail)<;>conv=>whnf)
    ·have m4:decide ((3+2*l.getD 2 0)>=((l.map eI).length:Int))=true:=by simp only[length_map,ge_iff_le,decide_eq_true_eq];omega
     rw[i9 (ly ac)];unfold m9;refine pO func325 call325 ntmps325 results325 λS=>?_;conv=>whnf
     repeat'((first|refine awz ?_|refine Ty 2 (eI (l.getD 2 0)) rfl g2 ?_|refine cP (aN _ _ _) ?_|refine Tz ac ac ?_|exact rZ|fail)<;>conv=>whnf)
   ·have m3:(!aI (l.getD 2 0) 0 10)=true:=Nd c3;rw[i9 (ly ac)];unfold m9;refine pO func325 call325 ntmps325 results325 λS=>?_;conv=>whnf
    repeat'((first|refine awz ?_|refine Ty 2 (eI (l.getD 2 0)) rfl g2 ?_|refine cP (aN _ _ _) ?_|exact rZ|fail)<;>conv=>whnf)
  ·have m2:decide (((l.map eI).length:Int)>67)=true:=by simp only[length_map,decide_eq_true_eq];omega
   rw[i9 (ly ac)];unfold m9;refine pO func325 call325 ntmps325 results325 λS=>?_;conv=>whnf
   repeat'(first|refine awz ?_|exact rZ|fail)
 ·have m1:decide (((l.map eI).length:Int)<7)=true:=by simp only[length_map,decide_eq_true_eq];omega
  rw[i9 (ly ac)];unfold m9;refine pO func325 call325 ntmps325 results325 λS=>?_;conv=>whnf
  repeat'(first|refine awz ?_|exact rZ|fail)
end
def jd(s:Int×DState):List AD:=dI s.1::s.2.ds
theorem Mm(s:Int×DState)(hp:s.2.pairs.length<=9223372036854775806):aM av 320 [.agg (jd s)] (rB (e9 s)):=by
 obtain⟨n,s⟩:=s;simp only at hp;unfold jd;cases h1:aI n 1 1000000000 with
 |false=>
  have e:e9 (n,s)=false:=by simp[e9,h1]
  rw[e];refine pO func320 call320 ntmps320 results320 λS=>?_;conv=>whnf
  repeat'(first|refine awz ?_|(refine cP (aN _ _ _) ?_;conv=>whnf)|exact rZ|fail)
  all_goals(simp[h1];done)
 |true=>
  cases h2:a9 s with
  |false=>
   have e:e9 (n,s)=false:=by simp[e9,h2]
   rw[e];refine pO func320 call320 ntmps320 results320 λS=>?_;conv=>whnf
   repeat'((first|refine awz ?_|refine cP (aN _ _ _) ?_|refine cP (di s hp) ?_|exact rZ|fail)<;>conv=>whnf)
   all_goals(simp[h2];done)
  |true=>
   have hi:=(bJ h2).1;have e:e9 (n,s)=decide (s.index>0):=by
    simp only[e9,h1,h2,Bool.true_and];by_cases h0:s.index=0
    ·simp[h0]
    ·have:s.index>0:=ac;simp[h0,this]
   rw[e];refine pO func320 call320 ntmps320 results320 λS=>?_;conv=>whnf
   repeat'((first|refine awz ?_|refine cP (aN _ _ _) ?_|refine cP (di s hp) ?_|exact rZ|fail)<;>conv=>whnf)
def wv(s:Int×DState)(p:Nat):List (List Int):=(List.range p).map λq=>eG (da s q)
def pD(s:Int×DState)(p i:Nat):List Int:=[s.1,s.2.index,(p:Int),((bI s.2).length:Int)]++((bI s.2).drop (20*p)).take i
theorem JI(s:Int×DState)(p:Nat):(wv s (p+1)).map cW=(wv s p).map cW++[cW (eG (da s p))]:=by
 simp[wv,List.range_succ]
theorem Hn{s:Int×DState}{p i:Nat}(h:20*p+i<(bI s.2).length):(pD s p (i+1)).map eI=(pD s p i).map eI++[eI ((bI s.2)[20*p+i])]:=by
 have hl:i<((bI s.2).drop (20*p)).length:=by rw[List.length_drop];omega
 unfold pD;rw[List.take_add_one,List.getElem?_eq_getElem hl,List.getElem_drop];simp
theorem JH(s:Int×DState)(p i:Nat):(pD s p i).length<=4+i:=by
 simp only[pD,List.length_append,List.length_cons,List.length_nil,List.length_take];omega
theorem JG(s:Int×DState)(p:Nat){i:Nat}(h:i=20\/(bI s.2).length<=20*p+i)(h2:i<=20):(pD s p i).map eI++[[dI s.2.index],[dI s.1]]=(da s p).map eI:=by
 have e:((bI s.2).drop (20*p)).take i=((bI s.2).drop (20*p)).take 20:=by
  rcases h with h|h
  ·rw[h]
  ·rw[List.take_of_length_le (by rw[List.length_drop];omega),List.take_of_length_le (by rw[List.length_drop];omega)]
 unfold pD da;rw[e];simp[eI]
theorem sN(s:Int×DState)(hp:s.2.pairs.length<=9223372036854775806):aM av 294 [.agg (jd s)] (.val (.one (.sl ((bc s).map cW)))):=by
 have so:=Mm s hp;cases ho:e9 s with
 |false=>
  rw[ho]at so;have e:bc s=[]:=by simp[bc,ho]
  rw[e];obtain⟨n,st⟩:=s;unfold jd at*
  refine pO func294 call294 ntmps294 results294 λS=>?_;conv=>whnf
  repeat'(first|refine awz ?_|(refine cP (so) ?_;conv=>whnf)|exact rZ|fail)
 |true=>
  rw[ho]at so;obtain⟨g1,g2,g3⟩:=jH ho;obtain⟨i1,_⟩:=bJ g2;obtain⟨m1,m2⟩:=kn g2;have sn:=yy s.2 g2;have e:bc s=wv s (dE (bI s.2).length):=by simp[bc,ho,wv]
  have hpo:dE (bI s.2).length<=4:=(ib ho).2.2;rw[e];unfold jd at*
  refine pO func294 call294 ntmps294 results294 λS=>?_;conv=>whnf
  repeat'((first|refine awz ?_|refine cP (so) ?_|refine cP (sn) ?_|fail)<;>conv=>whnf)
  refine TE (λp:Nat=>p<=dE (bI s.2).length) (8::[3,5,6,7,16,17,18,19,20,21,22,23,24,25,26,27,28,29,30,31,32,33,34,35,36,37,38,39,40,41,42,43,44,45,46,47,48,49,50,51,52,53,54,55,56,57,58,59,60,61,62,63,64,65]) (λp=>[(3,.one (.own 8)),(5,vI .i64 (p:Int))]) (λp=>[(1,.cells 231 ((dI s.1::s.2.ds).map .d)),(8,.row 30 1 ((wv s p).map cW))]) (λp=>dE (bI s.2).length-p) 0 (Nat.zero_le _) ?_ sbW (λp hk=>?_)<;>(conv=>whnf)
  ·exact whd
  ·have hnl:(wv s p).length=p:=by simp[wv]
   by_cases hlt:p<dE (bI s.2).length
   ·have hc:decide ((p:Int)*20<(((bI s.2).map eI).length:Int))=true:=by simp only[List.length_map,decide_eq_true_eq];unfold dE at hlt;omega
    have hp4:p<=3:=ac;have E0:([[dI s.1],[dI s.2.index],[dI (p:Int)],[dI (((bI s.2).map eI).length:Int)]]:List (List AD))=(pD s p 0).map eI:=by rw[List.length_map];rfl
    have rok:=uY ho hlt;have hsn:=JI s p;repeat'(first|refine awz ?_|(refine Tz ac ac ?_;conv=>whnf)|fail)
    refine TE (λi:Nat=>i<=20/\20*p+i<=(bI s.2).length) (31::[6,7,34,35,36,37,38,39,40,41,42,43,44,45,46,47,48,49,50,51,52,53]) (λi=>[(6,.one (.own 31)),(7,vI .i64 ((p:Int)*20+(i:Int)))]) (λi=>[(1,.cells 231 ((dI s.1::s.2.ds).map .d)),(8,.row 30 1 ((wv s p).map cW)),(31,.row 2 1 ((pD s p i).map eI))]) (λi=>20-i) 0 ⟨ac,by unfold dE at hlt;omega⟩ ?_ (Tu rfl (Tu rfl (Tu (congrArg some (congrArg (AO.row 2 1) E0)) Tx))) (λi hi=>?_)<;>(conv=>whnf)
    ·rw[show((p:Int)*20+((0:Nat):Int))=(p:Int)*20 by omega];exact whd
    ·obtain⟨hi1,hi2⟩:=hi;have hhl:=JH s p i;by_cases hgo:20*p+i<(bI s.2).length/\i<20
     ·have c1:decide ((p:Int)*20+(i:Int)<(((bI s.2).map eI).length:Int))=true:=by simp only[List.length_map,decide_eq_true_eq];omega
      have c2:decide ((p:Int)*20+(i:Int)<((p:Int)+1)*20)=true:=by simp only[decide_eq_true_eq];omega
      have hss:=Hn (s:=s) (p:=p) (i:=i) hgo.1;repeat'((first|refine awz ?_|refine Ty (20*p+i) (eI ((bI s.2)[20*p+i]'hgo.1)) ac (by rw[List.getElem?_map,List.getElem?_eq_getElem hgo.1];rfl) ?_|refine aQ ak ?_|refine Tz ac ac ?_|fail)<;>conv=>whnf)
      refine aW.mk ⟨i+1,⟨ac,ac⟩,ac,?_,Tu rfl (Tu rfl (Tu (by rw[hss];rfl) Tx))⟩;rw[show((p:Int)*20+((i+1:Nat):Int))=(p:Int)*20+(i:Int)+1 by omega];exact hds
     ·have hend:=JG s p (i:=i) ac hi1;have fin:∀(c:Bool),c=c:=λ_=>rfl;by_cases c0:20*p+i<(bI s.2).length
      ·have c1:decide ((p:Int)*20+(i:Int)<(((bI s.2).map eI).length:Int))=true:=by simp only[List.length_map,decide_eq_true_eq];omega
       have c2:decide ((p:Int)*20+(i:Int)<((p:Int)+1)*20)=false:=by simp only[decide_eq_false_iff_not];omega
       repeat'(first|refine awz ?_|(refine aG.freeze 31 2 1 ((da s p).map eI) (congrArg (AO.row 2 1) hend) ?_;(conv=>whnf);refine Tt (l6 (da s p) rok.1 rok.2) rfl ?_;conv=>whnf)|((first|refine aQ ak ?_|refine Tz ac ac ?_|fail)<;>conv=>whnf))
       refine aW.mk ⟨p+1,hlt,ac,?_,Tu rfl (Tu (by rw[hsn];rfl) Tx)⟩;exact hds
      ·have c1:decide ((p:Int)*20+(i:Int)<(((bI s.2).map eI).length:Int))=false:=by simp only[List.length_map,decide_eq_false_iff_not];omega
       repeat'(first|refine awz ?_|(refine aG.freeze 31 2 1 ((da s p).map eI) (congrArg (AO.row 2 1) hend) ?_;(conv=>whnf);refine Tt (l6 (da s p) rok.1 rok.2) rfl ?_;conv=>whnf)|((first|refine aQ ak ?_|refine Tz ac ac ?_|fail)<;>conv=>whnf))
       refine aW.mk ⟨p+1,hlt,ac,?_,Tu rfl (Tu (by rw[hsn];rfl) Tx)⟩;exact hds
   ·have ep:p=dE (bI s.2).length:=ac;have hc:decide ((p:Int)*20<(((bI s.2).map eI).length:Int))=false:=by simp only[List.length_map,decide_eq_false_iff_not];unfold dE at ep;omega
    rw[<-ep];repeat'(first|refine awz ?_|(refine Tz ac ac ?_;conv=>whnf)|exact rZ|fail)
section
variable {r x:List Int}
def dP:List (List Nat):=a8 [0,1,129,12354,1056835,84676740,3238551813,486473736259,35391639404871,35391639404871,0xa1c51060810c8,0x2c80c10861051ca,0x24714418204320c28b,0xd2ca3080c10861051c9,35391639404871,0xf1c51060810c8,0x4080c10861051cf,0xe24714418204320c28b3513d0,0x2030421841474903d134b28c24e,0x1338930a2cd44f4121c51060810c8,0x5080c10861051d240f44d2ca309393,0x5080c10861051d240f44d2ca309393,0x164ce24c28b3513d0487144182043214,0x5d42030421841474903d134b28c24e4d6,0x55338930a2cd44f4121c51060810c8518597,0x195d66142030421841474903d134b28c24e4d5,0x5080c10861051d240f44d2ca309393,0x1b4ce24c28b3513d0487144182043214,0x7142030421841474903d134b28c24e4db,0x1a55338930a2cd44f4121c51060810c851859765d6dc,0x5080c10861051d240f44d2ca30939379c6dd65759855a]
def dQ:List (List Nat):=dN 29 [0,1,4,13,40,121,364,1093,124872232,124373596,124393279,124452328,124622914,125154355,4779688,9562657,23911564,64570081,193710244,581130733,66362224112032,66097228497556,66107688850759,66139069910368,66229726304794,66512155841275,2540122436128,5081988264457,0xb8eb72271c4]
def fi(r:List Int):Option (List Int):=match jW r with
 |some x=>if 7<=x.length/\x.getD (x.length-1) 0=x.getD 0 0/\x.getD (x.length-2) 0=x.getD 1 0 then some ((x.drop 4).take (x.length-6))else none
 |none=>none
theorem uQ(h:fi r=some x):x.length<=48/\0<r.length:=by
 unfold fi at h;split at h
 ·rename_i y e;split at h
  ·injection h with h
   subst h;have e2:=dY e;refine⟨by simp only[List.length_take,List.length_drop];omega,?_⟩;rw[e2.2.2];simp[eG]
  ·cases h
 ·cases h
theorem JN(r:List Int):aM av 324 [.one (.sl (r.map eI))] (Ex (fi r)):=by
 have su:=sO r;unfold fi;cases e:jW r with
 |none=>
  rw[e]at su;unfold Ex at su⊢;refine pO func324 call324 ntmps324 results324 λS=>?_;conv=>whnf
  repeat'(first|refine awz ?_|(refine cP (su) ?_;conv=>whnf)|fail)
  (refine TB aL 2 29 dP dQ ae ae ae rfl ?_;conv=>whnf)
  repeat'(first|refine awz ?_|exact rZ|fail)
 |some x=>
  rw[e]at su;have hxl:=(dY e).2.1;unfold Ex at su⊢;have su:aM av 128 [.one (.sl (r.map eI))] (.tup [.one (.sl (x.map eI)),.one (dB true)]):=su;simp only;by_cases h7:7<=x.length
  ·have m1:decide (((x.map eI).length:Int)<7)=false:=by simp only[List.length_map,decide_eq_false_iff_not];omega
   have g0:=hE (l:=x) (i:=0) ac;have g1:=hE (l:=x) (i:=1) ac;have ga:=hE (l:=x) (i:=x.length-1) ac;have gb:=hE (l:=x) (i:=x.length-2) ac;by_cases ha:x.getD (x.length-1) 0=x.getD 0 0
   ·have m2:(x.getD (x.length-1) 0 !=x.getD 0 0)=false:=by rw[ha];simp
    by_cases hb:x.getD (x.length-2) 0=x.getD 1 0
    ·have m3:(x.getD (x.length-2) 0 !=x.getD 1 0)=false:=by rw[hb];simp
     rw[if_pos ⟨h7,ha,hb⟩];have hc:((x.map eI).take (x.length-2)).drop 4=(((x.drop 4).take (x.length-6))).map eI:=by
      rw[<-List.map_take,<-List.map_drop,List.drop_take,show x.length-2-4=x.length-6 by omega]
     refine pO func324 call324 ntmps324 results324 λS=>?_;conv=>whnf
     repeat'(first|refine awz ?_|(refine cP (su) ?_;conv=>whnf)|fail)
     (refine TB aL 2 29 dP dQ ae ae ae rfl ?_;conv=>whnf)
     repeat'((first|refine awz ?_|refine Ty (x.length-1) _ aj ga ?_|refine Ty 0 _ rfl g0 ?_|refine Ty (x.length-2) _ aj gb ?_|refine Ty 1 _ rfl g1 ?_|(refine⟨4,x.length-2,rfl,(by show _=_;simp only[List.length_map];omega),ac,ai,(by intro y hy;obtain⟨a,_,rfl⟩:=List.mem_map.1 hy;rfl),?_⟩;rw[hc])|refine Tz aj aj ?_|exact rZ|fail)<;>conv=>whnf)
    ·have m3:(x.getD (x.length-2) 0 !=x.getD 1 0)=true:=by simpa using hb
     rw[if_neg λh=>hb h.2.2];refine pO func324 call324 ntmps324 results324 λS=>?_;conv=>whnf
     repeat'(first|refine awz ?_|(refine cP (su) ?_;conv=>whnf)|fail)
     (refine TB aL 2 29 dP dQ ae ae ae rfl ?_;conv=>whnf)
     repeat'((first|refine awz ?_|refine Ty (x.length-1) _ aj ga ?_|refine Ty 0 _ rfl g0 ?_|refine Ty (x.length-2) _ aj gb ?_|refine Ty 1 _ rfl g1 ?_|refine Tz aj aj ?_|exact rZ|fail)<;>conv=>whnf)
   ·have m2:(x.getD (x.length-1) 0 !=x.getD 0 0)=true:=by simpa using ha
    rw[if_neg λh=>ha h.2.1];refine pO func324 call324 ntmps324 results324 λS=>?_;conv=>whnf
    repeat'(first|refine awz ?_|(refine cP (su) ?_;conv=>whnf)|fail)
    (refine TB aL 2 29 dP dQ ae ae ae rfl ?_;conv=>whnf)
    repeat'((first|refine awz ?_|refine Ty (x.length-1) _ aj ga ?_|refine Ty 0 _ rfl g0 ?_|refine Tz aj aj ?_|exact rZ|fail)<;>conv=>whnf)
  ·have m1:decide (((x.map eI).length:Int)<7)=true:=by simp only[List.length_map,decide_eq_true_eq];omega
   rw[if_neg λh=>h7 h.1];refine pO func324 call324 ntmps324 results324 λS=>?_;conv=>whnf
   repeat'(first|refine awz ?_|(refine cP (su) ?_;conv=>whnf)|fail)
   (refine TB aL 2 29 dP dQ ae ae ae rfl ?_;conv=>whnf)
   repeat'(first|refine awz ?_|exact rZ|fail)
def xe:List (List Int)->Option (List Int)
 |[]=>some []
 |r::l=>match fi r with
  |some x=>(xe l).map λy=>x++y
  |none=>none
theorem Gw(h:fi r=some x):∃y,jW r=some y/\6<=y.length/\x=(y.drop 4).take (y.length-6):=by
 unfold fi at h;split at h
 ·rename_i y e;split at h
  ·rename_i hc;injection h with h
   exact⟨y,e,ac,h.symm⟩
  ·cases h
 ·cases h
theorem xW{rows:List (List Int)}{l:List Int}(h:xe rows=some l):Kt rows=some l:=by
 induction rows generalizing l with
 |nil=>exact h
 |cons r t ih=>
  simp only[xe]at h;split at h
  ·rename_i x e;obtain⟨y,h1,h2,h3⟩:=Gw e;cases hp:xe t with
   |none=>rw[hp]at h;cases h
   |some z=>
    rw[hp]at h;simp only[Kt,h1,if_pos h2,ih hp,<-h3];exact h
  ·cases h
theorem Gx{s:Int×DState}(h:e9 s=true){p:Nat}(hp:p<dE (bI s.2).length):(fi (eG (da s p))).isSome=true:=by
 obtain⟨h1,h2⟩:=uY h hp;have hl:=(sP hp).1;unfold fi;rw[Cb h1 h2];have e:da s p=[s.1,s.2.index,(p:Int),((bI s.2).length:Int)]++((bI s.2).drop (20*p)).take 20++[s.2.index,s.1]:=by simp[da]
 have a1:(da s p).getD ((da s p).length-1) 0=s.1:=by
  rw[e];simp
 have a2:(da s p).getD ((da s p).length-2) 0=s.2.index:=by
  rw[e];simp
 have a3:(da s p).getD 0 0=s.1:=by rw[e];simp
 have a4:(da s p).getD 1 0=s.2.index:=by rw[e];simp
 simp only;rw[if_pos ⟨hl,by rw[a1,a3],by rw[a2,a4]⟩];rfl
end
section
variable {rows:List (List Int)}
def iV:List (List Nat):=a8 [0,1,2,3,4,0,389,0,0x2071851030811c8]
def iY:List (List Nat):=a8 [0,0,66,12417,0,0,326,29061,17663105454471,0x91c61480c2044]
def gK(rows:List (List Int))(k:Nat):List Int:=((rows.take k).map λr=>(fi r).getD []).flatten
theorem Ks{k:Nat}(hk:k<rows.length){x:List Int}(h:fi rows[k]=some x):gK rows (k+1)=gK rows k++x:=by
 unfold gK;rw[List.take_add_one,List.getElem?_eq_getElem hk];simp only[map_append,List.flatten_append,Option.toList,List.map_cons,List.map_nil,List.flatten_cons,List.flatten_nil,List.append_nil,h,Option.getD_some]
theorem PN(rows:List (List Int))(k:Nat):(gK rows k).length<=48*k:=by
 induction k with
 |zero=>simp[gK]
 |succ k ih=>
  by_cases hk:k<rows.length
  ·cases e:fi rows[k]with
   |none=>
    have:gK rows (k+1)=gK rows k:=by
     unfold gK;rw[List.take_add_one,List.getElem?_eq_getElem hk];simp only[map_append,List.flatten_append,Option.toList,List.map_cons,List.map_nil,List.flatten_cons,List.flatten_nil,List.append_nil,e,Option.getD_none]
    rw[this];omega
   |some x=>
    rw[Ks hk e,List.length_append];have:=(uQ e).1;omega
  ·have:gK rows (k+1)=gK rows k:=by
    unfold gK;rw[List.take_of_length_le ac,List.take_of_length_le ac]
   rw[this];omega
theorem Az(h:∀r∈rows,(fi r).isSome=true):xe rows=some (gK rows rows.length):=by
 unfold gK;rw[List.take_length];induction rows with
 |nil=>rfl
 |cons r t ih=>
  have h1:=h r (List.mem_cons_self ..);cases e:fi r with
  |none=>rw[e]at h1;cases h1
  |some x=>
   simp only[xe,e,ih λr h'=>h r (List.mem_cons_of_mem _ h')];simp[e]
theorem pz{s:Int×DState}(h:dm rows=some s):(1<=rows.length/\rows.length<=4)/\(∀r∈rows,(fi r).isSome=true):=by
 obtain⟨ho,hr⟩:=kt h;have hl:=ib ho;rw[hr]at hl;refine⟨ac,?_⟩;intro r hm;rw[<-hr]at hm;obtain⟨p,hp,rfl⟩:=List.getElem_of_mem hm;rw[pE ho hp];refine Gx ho ?_;rw[hr]at hp;omega
theorem v9(h:¬(1<=rows.length/\rows.length<=4)):dm rows=none:=by
 cases e:dm rows with
 |none=>rfl
 |some s=>exact absurd (pz e).1 h
theorem BO{r:List Int}(h:r∈rows)(hr:fi r=none):dm rows=none:=by
 cases e:dm rows with
 |none=>rfl
 |some s=>
  have:=(pz e).2 r h;rw[hr]at this;cases this
theorem EE(h:∀r∈rows,(fi r).isSome=true)(hn:gS (gK rows rows.length)=none):dm rows=none:=by
 have:=xW (Az h);simp only[dm,this,hn]
theorem ED(h:∀r∈rows,(fi r).isSome=true){s:DState}(hn:gS (gK rows rows.length)=some s)(h1:1<=rows.length):dm rows=if bc ((rows.getD 0 []).getD 0 0,s)=rows then some ((rows.getD 0 []).getD 0 0,s)else none:=by
 have:=xW (Az h);have he:rows.isEmpty=false:=by cases rows with|nil=>simp at h1|cons a b=>rfl
 simp only[dm,this,hn,he,Bool.not_false,Bool.and_true,beq_iff_eq]
def KY:Int×DState:=(0,fb)
def Aw(o:Option (Int×DState)):AP:= .tup [.agg (jd (o.getD KY)),.one (dB o.isSome)]
theorem Hf(rows:List (List Int))(hbig:rows.length<=1048576):aM av 307 [.one (.sl (rows.map cW))] (Aw (dm rows)):=by
 by_cases h1:1<=rows.length
 ·have m1:decide (((rows.map cW).length:Int)<1)=false:=by simp only[length_map,decide_eq_false_iff_not];omega
  by_cases h4:rows.length<=4
  ·have m2:decide (((rows.map cW).length:Int)>4)=false:=by simp only[length_map,decide_eq_false_iff_not];omega
   unfold Aw jd;refine pO func307 call307 ntmps307 results307 λS=>?_;conv=>whnf
   repeat'(first|refine awz ?_|fail)
   have hr0:rows[0]? =some (rows.getD 0 []):=by rw[List.getD_eq_getElem?_getD,List.getElem?_eq_getElem ac];rfl
   refine TE (λk:Nat=>k<=rows.length/\∀i (hi:i<rows.length),i<k->(fi rows[i]).isSome=true) (22::[3,4,5,6,7,23,24,25,26,27,28,29,30,31,32,33,34,35,36,37,38,39,40,41,42]) (λk=>[(4,.one (.own 22)),(5,vI .i64 (k:Int))]) (λk=>[(2,.cells 231 [.d (dI 0),.d (dI 0),.d (dI 0),.nil,.nil,.d (dI 0),.d (dI 0),.d (dI 0)]),(22,.row 2 1 ((gK rows k).map eI))]) (λk=>rows.length-k) 0 ⟨Nat.zero_le _,λi hi h=>by omega⟩ ?_ sbW (λk hk=>?_)<;>(conv=>whnf)
   ·exact whd
   ·obtain⟨hk,hall⟩:=hk;have hgl:=PN rows k;by_cases hlt:k<rows.length
    ·have hc:decide ((k:Int)<((rows.map cW).length:Int))=true:=by simp only[length_map,decide_eq_true_eq];omega
     have lp:=JN rows[k];cases e:fi rows[k]with
     |none=>
      rw[e]at lp;rw[BO (List.getElem_mem hlt) e];unfold Ex at lp;repeat'((first|refine awz ?_|refine TJ hlt ?_|refine cP (lp) ?_|exact rZ|fail)<;>conv=>whnf)
     |some x=>
      rw[e]at lp;have hx:=uQ e;have hgs:=Ks hlt e;have lp:aM av 324 [.one (.sl (rows[k].map eI))] (.tup [.one (.sl (x.map eI)),.one (dB true)]):=lp;repeat'((first|refine awz ?_|refine TJ hlt ?_|refine cP (lp) ?_|refine aP (by first|(intro y hy;obtain⟨a,_,rfl⟩:=List.mem_map.1 hy;rfl)|(simp;done)) ?_|refine aQ ak ?_|refine Tz ac ac ?_|fail)<;>conv=>whnf)
      refine aW.mk ⟨k+1,⟨hlt,λi hi h=>?_⟩,ac,?_,Tu rfl (Tu (by rw[hgs,map_append];rfl) Tx)⟩
      ·rcases Nat.eq_or_lt_of_le (Nat.le_of_lt_succ h)with h|h
       ·subst h;rw[e];rfl
       ·exact hall i hi h
      ·exact hds
    ·have ek:k=rows.length:=ac;subst ek;have hc:decide ((rows.length:Int)<((rows.map cW).length:Int))=false:=ai;have hall:∀r∈rows,(fi r).isSome=true:=λr hr=>by
      obtain⟨i,hi,rfl⟩:=List.getElem_of_mem hr;exact hall i hi hi
     have h0:0<(rows.getD 0 []).length:=by
      have:=hall (rows.getD 0 []) (List.mem_of_getElem? hr0);cases e:fi (rows.getD 0 [])with
      |none=>rw[e]at this;cases this
      |some x=>exact(uQ e).2
     have g00:=hE (l:=rows.getD 0 []) h0;have g0:(rows.map cW)[0]? =some (cW (rows.getD 0 [])):=by rw[List.getElem?_map,hr0];rfl
     have ns:=yx (gK rows rows.length) ac;cases en:gS (gK rows rows.length)with
     |none=>
      rw[en]at ns;rw[EE hall en];have ns:aM av 325 [.one (.sl ((gK rows rows.length).map eI))] (.tup [.agg fb.ds,.one (dB false)]):=ns;have sh:=sN ((rows.getD 0 []).getD 0 0,fb) (by show(0:Nat)<=_;decide);have es:bc ((rows.getD 0 []).getD 0 0,fb)=[]:=by
       have:e9 ((rows.getD 0 []).getD 0 0,fb)=false:=by simp[e9,fb]
       rw[bc,this];rfl
      rw[es]at sh;generalize gK rows rows.length=gg at*
      generalize (rows.getD 0 []).getD 0 0=n0 at*
      repeat'(first|refine awz ?_|(refine aG.freeze 22 2 1 (gg.map eI) rfl ?_;(conv=>whnf);refine Tt ns rfl ?_;conv=>whnf)|fail)
      (refine TD aL 12 (tkc [0,1,2,3,4,5] (.two 6 (.one 7 (.one 8 .done)) 7 (.one 6 (.one 8 .done)))) [(8,9980)] iV ae ae ae ae (λRz=>?_);(conv=>whnf);intro bp0 up0;(conv=>whnf))
      repeat'((first|refine awz ?_|refine Ty 0 _ rfl g0 ?_|refine Ty 0 _ rfl g00 ?_|refine cP (sh) ?_|exact rZ|refine tW ?_ ?_|fail)<;>conv=>whnf)
     |some st=>
      rw[en]at ns;rw[ED hall en h1];have ns:aM av 325 [.one (.sl ((gK rows rows.length).map eI))] (.tup [.agg st.ds,.one (dB true)]):=ns;have ok:=Gi en;have hpm:=hI (bJ ok).2.2.1;have sh:=sN ((rows.getD 0 []).getD 0 0,st) ao;have hrs:∀r∈bc ((rows.getD 0 []).getD 0 0,st),r.length<=1048576:=by
       intro r hr;unfold bc at hr;split at hr
       ·rename_i ho;obtain⟨p,hp,rfl⟩:=List.mem_map.1 hr;have:=(sP (List.mem_range.1 hp)).2;simp only[eG,List.length_append,List.length_cons,List.length_nil];omega
       ·cases hr
      have hrl:(bc ((rows.getD 0 []).getD 0 0,st)).length<=67:=by
       unfold bc;have:=(kn ok).2;split
       ·simp only[length_map,List.length_range,dE];omega
       ·simp
      generalize bc ((rows.getD 0 []).getD 0 0,st)=rs at*
      generalize gK rows rows.length=gg at*
      generalize (rows.getD 0 []).getD 0 0=n0 at*
      repeat'(first|refine awz ?_|(refine aG.freeze 22 2 1 (gg.map eI) rfl ?_;(conv=>whnf);refine Tt ns rfl ?_;conv=>whnf)|fail)
      (refine TD aL 12 (tkc [0,1,2,3,4,5] (.two 6 (.one 7 (.one 8 .done)) 7 (.one 6 (.one 8 .done)))) [(8,9980)] iV ae ae ae ae (λRz=>?_);(conv=>whnf);intro bp0 up0;(conv=>whnf))
      by_cases hl:rs.length=rows.length
      ·have m3:(((rs.map cW).length:Int) !=((rows.map cW).length:Int))=false:=by simp only[length_map,hl];simp
       repeat'((first|refine awz ?_|refine Ty 0 _ rfl g0 ?_|refine Ty 0 _ rfl g00 ?_|refine cP (sh) ?_|refine tW ?_ ?_|fail)<;>conv=>whnf)
       all_goals
        refine TE (λk:Nat=>k<=rows.length/\∀i (hi:i<rows.length),i<k->rs[i]'(ac)=rows[i]) (3::12::rg 67 17) (λk=>[(12,vI .i64 (k:Int))]) (λk=>[(2,.cells 231 [.d (dI 0),.d (dI 0),.d (dI 0),.nil,.nil,.d (dI 0),.d (dI 0),.d (dI 0)]),(8,.cells 56 (st.ds.map .d)),(10,.cells 231 ((jd (n0,st)).map .d))]) (λk=>rows.length-k) 0 ⟨Nat.zero_le _,λi hi h=>by omega⟩ ?_ sbW (λk hk=>?_)<;>(conv=>whnf)
        ·exact whd
        ·obtain⟨hk,same⟩:=hk;by_cases hlt:k<rows.length
         ·have hc:decide ((k:Int)<((rows.map cW).length:Int))=true:=by simp only[length_map,decide_eq_true_eq];omega
          have hlr:k<rs.length:=ac;have sr:=Ba rs[k] rows[k] (hrs _ (List.getElem_mem hlr));by_cases hs:rs[k]=rows[k]
          ·have n1:decide (rs[k]=rows[k])=true:=decide_eq_true hs;rw[n1]at sr;repeat'(first|refine awz ?_|fail)
           (refine TB aL 19 8 iY bX ae ae ae rfl ?_;conv=>whnf)
           repeat'((first|refine awz ?_|refine TJ hlt ?_|refine TJ hlr ?_|refine cP (sr) ?_|refine Tz ac ac ?_|fail)<;>conv=>whnf)
           refine aW.mk ⟨k+1,⟨hlt,λi hi h=>?_⟩,ac,?_,sbW⟩
           ·rcases Nat.eq_or_lt_of_le (Nat.le_of_lt_succ h)with h|h
            ·subst h;exact hs
            ·exact same i hi h
           ·exact hds
          ·have n1:decide (rs[k]=rows[k])=false:=decide_eq_false hs;rw[n1]at sr;rw[if_neg λe=>hs (by subst e;rfl)];repeat'(first|refine awz ?_|fail)
           (refine TB aL 19 8 iY bX ae ae ae rfl ?_;conv=>whnf)
           repeat'((first|refine awz ?_|refine TJ hlt ?_|refine TJ hlr ?_|refine cP (sr) ?_|exact rZ|fail)<;>conv=>whnf)
         ·have e:rs=rows:=List.ext_getElem hl λi h1 h2=>same i h2 ac;have hc:decide ((k:Int)<((rows.map cW).length:Int))=false:=by simp only[length_map,decide_eq_false_iff_not];omega
          rw[if_pos e];repeat'(first|refine awz ?_|exact rZ|fail)
      ·have m3:(((rs.map cW).length:Int) !=((rows.map cW).length:Int))=true:=by simp only[length_map,bne_iff_ne,ne_eq];omega
       rw[if_neg λe=>hl (by rw[e])];repeat'((first|refine awz ?_|refine Ty 0 _ rfl g0 ?_|refine Ty 0 _ rfl g00 ?_|refine cP (sh) ?_|exact rZ|refine tW ?_ ?_|fail)<;>conv=>whnf)
  ·have m2:decide (((rows.map cW).length:Int)>4)=true:=by simp only[length_map,decide_eq_true_eq];omega
   rw[v9 ac];unfold Aw;refine pO func307 call307 ntmps307 results307 λS=>?_;conv=>whnf
   repeat'(first|refine awz ?_|exact rZ|fail)
 ·have m1:decide (((rows.map cW).length:Int)<1)=true:=by simp only[length_map,decide_eq_true_eq];omega
  rw[v9 ac];unfold Aw;refine pO func307 call307 ntmps307 results307 λS=>?_;conv=>whnf
  repeat'(first|refine awz ?_|exact rZ|fail)
end
section
variable {d:DDisk}{slot:Int}
theorem ma{s:Int}(h:s=0\/s=1):aM av 258 [pI s] (rB true):=by
 rcases h with rfl|rfl
 ·refine pO func258 call258 ntmps258 results258 λS=>?_;conv=>whnf
  repeat'(first|refine awz ?_|exact rZ|fail)
 ·refine pO func258 call258 ntmps258 results258 λS=>?_;conv=>whnf
  repeat'(first|refine awz ?_|exact rZ|fail)
theorem kR(h:cS d=true):bN d=true/\d.kept.length=8:=by simpa[cS]using h
theorem B8(d:DDisk)(slot:Int)(k:Nat):(dq d slot (k+1)).map cW=(dq d slot k).map cW++[cW (my d (slot*4+(k:Int)))]:=by
 simp[dq,List.range_succ]
theorem pK(d:DDisk)(slot:Int)(k:Nat):(dq d slot k).length=k:=by simp[dq]
theorem JF{k:Nat}{s:Int×DState}(h:dm (dq d slot k)=some s):l7 d slot=some s:=by
 obtain⟨h1,h2⟩:=B7 h;rw[l7,if_pos h1,<-h2,h]
theorem Hm(h:∀k,1<=k->k<=4->dm (dq d slot k)=none):l7 d slot=none:=by
 unfold l7;split
 ·cases e:dm (dq d slot (wu d slot))with
  |none=>rfl
  |some s=>
   have:=(pz e).1;rw[pK]at this;rw[h _ this.1 this.2]at e;cases e
 ·rfl
theorem Di(d:DDisk)(slot:Int)(hd:cS d=true)(hs:slot=0\/slot=1):aM av 257 [.agg d.ds,pI slot] (Aw (l7 d slot)):=by
 obtain⟨h1,h8⟩:=kR hd;have n1:(!cS d)=false:=by rw[hd];rfl
 unfold Aw jd;refine pO func257 call257 ntmps257 results257 λS=>?_;conv=>whnf
 repeat'((first|refine awz ?_|refine cP (gX d) ?_|refine cP (ma hs) ?_|fail)<;>conv=>whnf)
 refine TE (λk:Nat=>k<=4/\∀j,1<=j->j<=k->dm (dq d slot j)=none) (21::[5,6,7,8,9,10,11,22,23,24,25,26,27,28,29,30,31,32,33,34,35,36,37,38,39,40,41,42,43,44,45]) (λk=>[(6,.one (.own 21)),(7,vI .i64 (k:Int))]) (λk=>[(2,.cells 39 (d.ds.map .d)),(4,.cells 231 [.d (dI 0),.d (dI 0),.d (dI 0),.nil,.nil,.d (dI 0),.d (dI 0),.d (dI 0)]),(21,.row 30 1 ((dq d slot k).map cW))]) (λk=>4-k) 0 ⟨Nat.zero_le _,λj h1 h2=>by omega⟩ ?_ sbW (λk hk=>?_)<;>(conv=>whnf)
 ·exact whd
 ·obtain⟨hk,none_⟩:=hk;have hrl:=pK d slot k;by_cases hlt:k<4
  ·have hc:decide ((k:Int)<4)=true:=by simp only[decide_eq_true_eq];omega
   have ra:=xm d (slot*4+(k:Int)) h1 (by rw[h8];simp only[aI,Bool.and_eq_true,decide_eq_true_eq];omega);have hss:=B8 d slot k;have hl1:=pK d slot (k+1);have rs:=Hf (dq d slot (k+1)) ac;cases e:dm (dq d slot (k+1))with
   |none=>
    rw[e]at rs;have rs:aM av 307 [.one (.sl ((dq d slot (k+1)).map cW))] (.tup [.agg (jd KY),.one (dB false)]):=rs;repeat'((first|refine awz ?_|refine cP (ra) ?_|refine Vv rs (by rw[hss];rfl) (by rfl) ?_|refine aQ ak ?_|refine Tz ac ac ?_|fail)<;>conv=>whnf)
    refine aW.mk ⟨k+1,⟨hlt,λj h1 h2=>?_⟩,ac,?_,Tu rfl (Tu rfl (Tu (by rw[hss];rfl) Tx))⟩
    ·rcases Nat.eq_or_lt_of_le h2 with h|h
     ·subst h;exact e
     ·exact none_ j h1 ac
    ·exact hds
   |some s=>
    rw[e]at rs;rw[JF e];have rs:aM av 307 [.one (.sl ((dq d slot (k+1)).map cW))] (.tup [.agg (jd s),.one (dB true)]):=rs;repeat'(first|refine awz ?_|(refine cP (ra) ?_;conv=>whnf)|(refine aG.freeze 21 30 1 ((dq d slot (k+1)).map cW) (by rw[hss];rfl) ?_;(conv=>whnf);refine Tt rs rfl ?_;conv=>whnf)|((first|refine aQ ak ?_|refine Tz ac ac ?_|fail)<;>conv=>whnf)|exact rZ|fail)
  ·have e:k=4:=ac;subst e;have hc:decide (((4:Nat):Int)<4)=false:=ah;rw[Hm λj h1 h2=>none_ j h1 h2];repeat'(first|refine awz ?_|exact rZ|fail)
def PV(x:Option (Int×DState)×Int):AP:= .tup [.agg (jd (x.1.getD KY)),pI x.2,.one (dB x.1.isSome)]
theorem ui(d:DDisk)(hd:cS d=true):aM av 186 [.agg d.ds] (PV (m8 d)):=by
 have s0:=Di d 0 hd (.inl rfl);have s1:=Di d 1 hd (.inr rfl);unfold m8;generalize l7 d 0=a at*
 generalize l7 d 1=b at*
 unfold PV jd;unfold Aw jd at s0 s1;cases a with
 |none=>
  cases b with
  |none=>
   refine pO func186 call186 ntmps186 results186 λS=>?_;conv=>whnf
   repeat'((first|refine awz ?_|refine cP (s0) ?_|refine cP (s1) ?_|exact rZ|fail)<;>conv=>whnf)
  |some b=>
   refine pO func186 call186 ntmps186 results186 λS=>?_;conv=>whnf
   repeat'((first|refine awz ?_|refine cP (s0) ?_|refine cP (s1) ?_|exact rZ|fail)<;>conv=>whnf)
 |some a=>
  cases b with
  |none=>
   refine pO func186 call186 ntmps186 results186 λS=>?_;conv=>whnf
   repeat'((first|refine awz ?_|refine cP (s0) ?_|refine cP (s1) ?_|exact rZ|fail)<;>conv=>whnf)
  |some b=>
   by_cases h:a.1<b.1
   ·have hc:decide (b.1>a.1)=true:=by simpa using h
    simp only[if_pos h];refine pO func186 call186 ntmps186 results186 λS=>?_;conv=>whnf
    repeat'((first|refine awz ?_|refine cP (s0) ?_|refine cP (s1) ?_|exact rZ|fail)<;>conv=>whnf)
   ·have hc:decide (b.1>a.1)=false:=by simpa using h
    simp only[if_neg h];refine pO func186 call186 ntmps186 results186 λS=>?_;conv=>whnf
    repeat'((first|refine awz ?_|refine cP (s0) ?_|refine cP (s1) ?_|exact rZ|fail)<;>conv=>whnf)
end
def qj:List (List Nat):=a8 [0,1,0,3,0,5,6,0x7185103081102,0x1c61440c20471c8]
theorem JS(d:DDisk)(h:bN d=true):cV av 252 [.agg (d.ds.map .d),.one (.own 1001),.one (.d (dB true))] [(1001,.row 2 1 [])] [(1001,.row 2 1 []),(923,.row 30 1 ((fD d).kept.map cW))] [] (.val (.agg [.own 923,.nil])):=by
 have hs:=dd h;obtain⟨h1,h2,h3,h4,h5⟩:=cz h;refine bL aL func252 rfl call252 ntmps252 (WA results252) rfl λS pv=>?_;conv=>whnf
 repeat'(first|refine awz ?_|(refine TA (oy d hs) [(23,923),(49,949)] rfl rfl ?_;conv=>whnf)|fail)
 refine TE (λk:Nat=>k<=d.wait.length) (8::9::10::rg 15 51) (λk=>[(8,vI .i64 (k:Int))]) (λk=>[(9999,.frame (cE []) pv),(1001,.row 2 1 []),(3,.cells 39 (d.ds.map .d)),(6,.cells 39 [.nil,.nil]),(7,.cells 39 [.own 923,.nil]),(923,.row 30 1 ((rH d.kept (d.wait.take k)).map cW))]) (λk=>d.wait.length-k) 0 (Nat.zero_le _) ?_ sbW (λk hk=>?_)<;>(conv=>whnf)
 ·exact whd
 ·by_cases hlt:k<d.wait.length
  ·have hc:decide ((k:Int)<((d.wait.map DWrite.ds).length:Int))=true:=al;have hw:=(gn (h5 _ (List.getElem_mem hlt)));have hlen:=gd (d.wait.take k) d.kept;have hsx:=z5 (k:=d.kept) hlt;have h48:=dl hw.2;have hn:decide ((k:Int)<0)=false:=ai;repeat'(first|refine awz ?_|(refine TJ hlt ?_;conv=>whnf)|fail)
   (refine TD aL 10 (tkc [0,2,4] (.three 1 (.two 3 (onc [5,6,7,8] .done) 5 (.two 3 (onc [6,7,8] .done) 6 (onc [3,7,8] .done))) 3 (.two 1 (onc [5,6,7,8] .done) 5 (.two 1 (onc [6,7,8] .done) 6 (onc [1,7,8] .done))) 5 (.three 1 (.two 3 (onc [6,7,8] .done) 6 (onc [3,7,8] .done)) 3 (.two 1 (onc [6,7,8] .done) 6 (onc [1,7,8] .done)) 6 (.two 1 (onc [3,7,8] .done) 3 (onc [1,7,8] .done))))) [] qj ae ae ae ae (λRz=>?_);(conv=>whnf))
   repeat'((first|refine awz ?_|refine AIx.int hw.1.1 ac ?_|refine cP (cH d.wait[k].row ac) ?_|refine tW ?_ ?_|fail)<;>conv=>whnf)
   all_goals
    refine TJ ac ?_;conv=>whnf
    repeat'(first|refine awz ?_|(refine Tz ari ari ?_;conv=>whnf)|fail)
    refine aW.mk ⟨k+1,hlt,ac,?_,Tu rfl (Tu rfl (Tu rfl (Tu rfl (Tu rfl (Tu (by rw[hsx,List.map_set];rfl) Tx)))))⟩;exact hds
  ·have e:k=d.wait.length:=ac;subst e;have hc:decide ((d.wait.length:Int)<((d.wait.map DWrite.ds).length:Int))=false:=ai;rw[List.take_length];repeat'(first|refine awz ?_|exact rZ|fail)
   all_goals(first|rfl|exact⟨rfl,whd⟩)
theorem Ms(d:DDisk)(h:bN d=true):cV av 197 [.agg (d.ds.map .d)] [] [(923,.row 30 1 ((fD d).kept.map cW))] [] (.val (.agg [.own 923,.nil])):=by
 have n1:(!bN d)=false:=by rw[h];rfl
 refine bL aL func197 rfl call197 ntmps197 (WA results197) rfl λS pv=>?_;conv=>whnf
 repeat'((first|refine awz ?_|refine cP (cG d) ?_|refine TA (JS d h) [(1001,8),(923,923)] rfl rfl ?_|exact rZ|fail)<;>conv=>whnf)
 all_goals(first|rfl|exact⟨rfl,whd⟩)
theorem pC(d:DDisk)(slot:Int)(hd:cS d=true)(hs:slot=0\/slot=1):aM av 187 [.agg d.ds,pI slot] (.val (.agg (wF d slot).ds)):=by
 obtain⟨h1,h8⟩:=kR hd;have n1:(!cS d)=false:=by rw[hd];rfl
 have hl:(fD d).kept.length=8:=by simp[fD,gd,h8]
 refine pO func187 call187 ntmps187 results187 λS=>?_;conv=>whnf
 repeat'((first|refine awz ?_|refine cP (gX d) ?_|refine cP (ma hs) ?_|refine TA (Ms d h1) [(923,923)] rfl rfl ?_|fail)<;>conv=>whnf)
 refine TE (λk:Nat=>k<=4) (6::rg 18 12) (λk=>[(6,vI .i64 (k:Int))]) (λk=>[(4,.cells 39 [.nil,.nil]),(5,.cells 39 [.own 923,.nil]),(923,.row 30 1 ((wE (fD d).kept slot k).map cW))]) (λk=>4-k) 0 (Nat.zero_le _) ?_ sbW (λk hk=>?_)<;>(conv=>whnf)
 ·exact whd
 ·have hw:=xt (fD d).kept slot k;by_cases hlt:k<4
  ·have hc:decide ((k:Int)<4)=true:=by simp only[decide_eq_true_eq];omega
   have hsx:(wE (fD d).kept slot (k+1)).map cW=((wE (fD d).kept slot k).map cW).set (slot*4+(k:Int)).toNat [.sl []]:=by
    simp only[wE,List.map_set];rfl
   repeat'((first|refine Ug (rid:=9) aL 7 28 2 1 [] ?_|refine awz ?_|refine AIx.int ac ac ?_|refine Tz ac ac ?_|fail)<;>conv=>whnf)
   refine aW.mk ⟨k+1,hlt,ac,?_,Tu rfl (Tu rfl (Tu (by rw[hsx];rfl) Tx))⟩;exact hds
  ·have e:k=4:=ac;subst e;have hc:decide (((4:Nat):Int)<4)=false:=ah;repeat'(first|refine awz ?_|exact rZ|fail)
def mU:List (List Nat):=a8 [0,1,0,3,528643,0,6,0,8,0,10,714,0x14310108718920c28b,0xd2ca3082461c20440c5,0x3850c40421c624830a2cd]
def mX:List (List Nat):=dN 12 [531270,531271,531206,531215,531238,529496,529739,513944,516131,19682,39365,98414]
theorem Ml(d:DDisk)(h:bN d=true):aM av 185 [.agg d.ds] (rB d.wait.isEmpty):=by
 have e:d.wait.isEmpty=(((d.wait.map DWrite.ds).length:Int)==0):=by
  cases d.wait with
  |nil=>rfl
  |cons a b=>simp;omega
 rw[e];refine pO func185 call185 ntmps185 results185 λS=>?_;conv=>whnf
 repeat'(first|refine awz ?_|(refine cP (cG d) ?_;conv=>whnf)|exact rZ|fail)
def P7:DStore:=⟨⟨[],[]⟩,fb,0,0,0⟩
def CZ(o:Option DStore):AP:= .tup [.agg (o.getD P7).ds,.one (dB o.isSome)]
theorem Aq(d:DDisk):(m8 d).2=0\/(m8 d).2=1:=by
 unfold m8;split
 ·split
  ·exact .inr rfl
  ·exact .inl rfl
 ·exact .inl rfl
 ·exact .inr rfl
 ·exact .inl rfl
theorem BS(m:DStore):aM av 126 [.agg m.ds] (CZ (eY m)):=by
 have so:=gX m.disk;cases hd:cS m.disk with
 |false=>
  have e:eY m=none:=by simp[eY,hd]
  rw[hd]at so;rw[e];unfold CZ;refine pO func126 call126 ntmps126 results126 λS=>?_;conv=>whnf
  repeat'(first|refine awz ?_|(refine cP (so) ?_;conv=>whnf)|exact rZ|fail)
 |true=>
  rw[hd]at so;obtain⟨h1,h8⟩:=kR hd;have si:=Ml m.disk h1;cases hw:m.disk.wait.isEmpty with
  |false=>
   rw[hw]at si;have e:eY m=none:=by simp[eY,hd,hw]
   rw[e];unfold CZ;refine pO func126 call126 ntmps126 results126 λS=>?_;conv=>whnf
   repeat'((first|refine awz ?_|refine cP (so) ?_|refine cP (si) ?_|exact rZ|fail)<;>conv=>whnf)
  |true=>
   rw[hw]at si;have ns:=ui m.disk hd;have nk:=Aq m.disk;unfold PV at ns;unfold eY;rw[hd,hw];simp only[Bool.and_self,if_true];generalize m8 m.disk=x at*
   obtain⟨o,k⟩:=x;cases o with
   |none=>
    have w0:=pC m.disk 0 hd (.inl rfl);have w1:=pC (wF m.disk 0) 1 (wG hd 0) (.inr rfl);simp only;have ns:aM av 186 [.agg m.disk.ds] (.tup [.agg (jd KY),pI k,.one (dB false)]):=ns;unfold jd at ns;unfold CZ;refine pO func126 call126 ntmps126 results126 λS=>?_;conv=>whnf
    repeat'((first|refine awz ?_|refine cP (so) ?_|refine cP (si) ?_|refine cP (ns) ?_|refine cP (w0) ?_|refine cP (w1) ?_|exact rZ|fail)<;>conv=>whnf)
   |some h=>
    have hk:1-k=0\/1-k=1:=by simp only at nk;omega
    have wk:=pC m.disk (1-k) hd hk;simp only at nk⊢;have ns:aM av 186 [.agg m.disk.ds] (.tup [.agg (jd h),pI k,.one (dB true)]):=ns;unfold jd at ns;unfold CZ;refine pO func126 call126 ntmps126 results126 λS=>?_;conv=>whnf
    repeat'((first|refine awz ?_|refine cP (so) ?_|refine cP (si) ?_|refine cP (ns) ?_|fail)<;>conv=>whnf)
    (refine TB aL 6 12 mU mX ae ae ae rfl ?_;conv=>whnf)
    repeat'((first|refine awz ?_|refine cP (wk) ?_|refine Tz ac ac ?_|exact rZ|fail)<;>conv=>whnf)
def rp:List (List Nat):=a8 [0,1,0,3,0,324,6,7,8,33346,0x289207185103081,0xa2481c61440c204a28b]
def rq:List (List Nat):=a8 [0,1,0,3,0,324,6,7,0,9,0,714,12,13,14,968,16,62530,0x49140f38d30b289207185103081,0x124503ce34c2ca2481c61440c2052493]
def rt:List (List Nat):=a8 [0,1,2,0,4,197,387,0x7185103081187]
def mO:List (List Nat):=a8 [0,1,0,3,0,324,6,7,0,9,0,714,12,13,0,15,0,1104,18,19,20,86920,22,87490,0x61759551349140f38d30b289207185103081,0x185d65544d24503ce34c2ca2481c61440c2058619]
theorem sU(x:DHead)(hs:DHead.small 1048576 x):mh av 110 [.agg x.ds] (.agg x.ds):=by
 have h1:x.seen.length<=1048576:=hs;refine j7 aL func110 rfl call110 ntmps110 (WA results110) λS=>?_;conv=>whnf
 repeat'((first|refine awz ?_|refine aQ an ?_|refine aP alW ?_|refine Uk bls ?_|fail)<;>conv=>whnf)
 exact⟨_,_,_,⟨Nat.le_refl S.w0.heap.size,trivial,trivial⟩,(TX (lo:=S.w0.heap.size) (hi:=S.w0.heap.size) (ds:=[dI x.num,dI x.base,dI x.time]) rfl),rfl⟩
theorem yz(x:DSched)(hs:DSched.small 1048576 x):mh av 81 [.agg x.ds] (.agg x.ds):=by
 have h1:x.view.jobs.opens.length<=1048576:=hs;refine j7 aL func81 rfl call81 ntmps81 (WA results81) λS=>?_;conv=>whnf
 repeat'((first|refine awz ?_|refine aQ an ?_|refine aP alW ?_|refine Uk bls ?_|fail)<;>conv=>whnf)
 exact⟨_,_,_,⟨Nat.le_refl S.w0.heap.size,trivial,trivial⟩,(TX (lo:=S.w0.heap.size) (hi:=S.w0.heap.size) (ds:=[dI x.id,dI x.seq,dI x.view.jobs.index,dI x.view.jobs.time,dI x.view.jobs.holder,dI x.view.jobs.epoch,dI x.view.jobs.til,dB x.busy,dI x.op.kind,dI x.op.a,dI x.op.b,dI x.op.c,dI x.op.d,dI x.index]) rfl),rfl⟩
theorem xp(x:DClient)(hs:DClient.small 1048576 x):mh av 82 [.agg x.ds] (.agg x.ds):=by
 obtain⟨h1,h2⟩:=(show x.todo.length<=1048576/\x.gots.length<=1048576 from hs);refine j7 aL func82 rfl call82 ntmps82 (WA results82) λS=>?_;conv=>whnf
 repeat'((first|refine awz ?_|refine aQ an ?_|refine aP alW ?_|refine Uk bls ?_|fail)<;>conv=>whnf)
 exact⟨_,_,_,⟨Nat.le_refl S.w0.heap.size,trivial,trivial⟩,(TX (lo:=S.w0.heap.size) (hi:=S.w0.heap.size) (ds:=[dI x.id,dI x.last]) rfl),rfl⟩
theorem xq(x:DDisk)(hs:DDisk.small 1048576 x):mh av 111 [.agg x.ds] (.agg x.ds):=by
 obtain⟨h1,h2,h3,h4⟩:=(show x.kept.length<=1048576/\(∀y∈x.kept,y.length<=1048576)/\x.wait.length<=1048576/\(∀y∈x.wait,DWrite.small 1048576 y)from hs);refine j7 aL func111 rfl call111 ntmps111 (WA results111) λS=>?_;conv=>whnf
 repeat'(first|refine awz ?_|fail)
 refine TZ 3 0 23 30 1 ah ?_;conv=>whnf
 repeat'(first|refine awz ?_|fail)
 refine TE (λg:Nat×Nat×List (List AD)=>g.1<=x.kept.length/\g.2.2.length=g.1/\S.w0.heap.size<=g.2.1/\Fam S.w0.heap.size g.2.1 g.2.2.flatten ((x.kept.take g.1).map cW).flatten) (4::rg 7 18) (λg=>[(4,vI .i64 (g.1:Int))]) (λg=>[(9997,sj S.w0.heap.size g.2.1),(1,.cells 39 (x.ds.map .d)),(2,.cells 39 [.nil,.nil]),(3,.cells 39 [.own 23,.nil]),(23,.row 30 1 g.2.2)]) (λg=>x.kept.length-g.1) (0,S.w0.heap.size,[]) ⟨Nat.zero_le _,rfl,Nat.le_refl _,TX rfl⟩ ?_ sbW (λg hR=>?_)<;>(conv=>whnf)
 ·exact whd
 ·obtain⟨k,m,cs⟩:=g;obtain⟨hk,hcs,hm,hF⟩:=hR;simp only at hk hcs hm hF;repeat'(first|refine awz ?_|refine tW ?_ ?_|(intro h;conv=>whnf))
  ·have hlt:k<x.kept.length:=ari;(refine TD aL 5 (tkc [0,2,3,4,5,6] (.two 1 (onc [7,8,9] (.take 10 (.one 11 .done))) 7 (.two 1 (.one 8 (.one 9 (.take 10 (.one 11 .done)))) 8 (.one 1 (.one 9 (.take 10 (.one 11 .done))))))) [(1,9980)] rp ae ae ae ae (λRz=>?_);(conv=>whnf);intro bp0 up0;(conv=>whnf))
   repeat'((first|refine awz ?_|refine TJ hlt ?_|refine TY (Dm _ (h2 _ (List.getElem_mem hlt))) rfl rfl λR lo hi a1 a2 F=>?_|refine aQ (by simp only[hcs,List.length_cons,List.length_nil];omega) ?_|refine Tz ari ari ?_|refine tW ?_ ?_|fail)<;>conv=>whnf)
   all_goals
    have a1:m<=lo:=a1;refine aW.mk ⟨(k+1,hi,cs++[[.x (R 0)]]),⟨by simp only;omega,by simp[hcs],by simp only;omega,?_⟩,by simp only;omega,?_,sbW⟩
    ·simp only;rw[gY cW ac];exact hF.flat_set F ac ac ac
    ·exact hds
  ·have e:k=x.kept.length:=ari;subst e;rw[List.take_length]at hF;refine TZ 3 1 49 209 2 ah ?_;conv=>whnf
   repeat'(first|refine awz ?_|fail)
   refine TE (λg:Nat×Nat×List (List AD)=>g.1<=x.wait.length/\g.2.2.length=g.1/\m<=g.2.1/\Fam m g.2.1 g.2.2.flatten ((x.wait.take g.1).map DWrite.ds).flatten) (5::rg 25 26) (λg=>[(5,vI .i64 (g.1:Int))]) (λg=>[(9997,sj S.w0.heap.size g.2.1),(1,.cells 39 (x.ds.map .d)),(2,.cells 39 [.nil,.nil]),(3,.cells 39 [.own 23,.own 49]),(23,.row 30 1 cs),(49,.row 209 2 g.2.2)]) (λg=>x.wait.length-g.1) (0,m,[]) ⟨Nat.zero_le _,rfl,Nat.le_refl _,TX rfl⟩ ?_ sbW (λg hR=>?_)<;>(conv=>whnf)
   ·exact whd
   ·obtain⟨j,m2,cs2⟩:=g;obtain⟨hk2,hcs2,hm2,hF2⟩:=hR;simp only at hk2 hcs2 hm2 hF2;repeat'(first|refine awz ?_|refine tW ?_ ?_|(intro h;conv=>whnf))
    ·have hlt:j<x.wait.length:=ari;(refine TD aL 9 (tkc [0,2,3,4,5,6,7,8,9,10,11,12,13] (.two 1 (onc [14,15,16,17] (.take 18 (.one 19 .done))) 14 (.two 1 (onc [15,16,17] (.take 18 (.one 19 .done))) 15 (.two 1 (.one 16 (.one 17 (.take 18 (.one 19 .done)))) 16 (.one 1 (.one 17 (.take 18 (.one 19 .done)))))))) [(1,9980)] rq ae ae ae ae (λRz=>?_);(conv=>whnf);intro bp0 up0;(conv=>whnf))
     repeat'((first|refine awz ?_|refine TJ hlt ?_|refine TY (Dm _ (h4 _ (List.getElem_mem hlt))) rfl rfl λR lo hi a1 a2 F=>?_|refine aQ (by simp only[hcs2,List.length_cons,List.length_nil];omega) ?_|refine Tz ari ari ?_|refine tW ?_ ?_|fail)<;>conv=>whnf)
     all_goals
      have a1:m2<=lo:=a1;refine aW.mk ⟨(j+1,hi,cs2++[[dI x.wait[j].at_,.x (R 0)]]),⟨by simp only;omega,by simp[hcs2],by simp only;omega,?_⟩,by simp only;omega,?_,sbW⟩
      ·simp only;rw[gY DWrite.ds ac];exact hF2.flat_set (Fam.app (TX (lo:=lo) (hi:=lo) (ds:=[dI x.wait[j].at_]) rfl) F ac ac ac) ac ac ac
      ·exact hds
    ·have e:j=x.wait.length:=ari;subst e;rw[List.take_length]at hF2;repeat'((first|refine wJ.fam hF (by simp[hcs]) alW ?_|refine wJ.fam hF2 (by simp[hcs2]) alW ?_|fail)<;>conv=>whnf)
     exact⟨S.w0.heap.size,S.w0.heap.size,[],⟨Nat.le_refl _,⟨.inl (Nat.le_refl _),.inl hm,trivial⟩,Nat.le_refl _,⟨.inl (Nat.le_refl _),trivial⟩,hm,trivial,trivial⟩,TX rfl,rfl⟩
theorem Dp(x:DTwo)(hs:DTwo.small 1048576 x):mh av 109 [.agg x.ds] (.agg x.ds):=by
 refine j7 aL func109 rfl call109 ntmps109 (WA results109) λS=>?_;conv=>whnf
 repeat'(first|refine awz ?_|fail)
 (refine TD aL 1 (tkc [0,1,3,4] (onc [2,5,6,7] .done)) [(1,9980)] rt ae ae ae ae (λRz=>?_);(conv=>whnf);intro bp0 up0;(conv=>whnf))
 repeat'((first|refine awz ?_|refine TY (xq x.a hs.1) rfl rfl λR1 l1 e1 a1 b1 F1=>?_|refine TY (xq x.b hs.2) rfl rfl λR2 l2 e2 a2 b2 F2=>?_|fail)<;>conv=>whnf)
 exact⟨_,_,_,⟨(by omega:S.w0.heap.size<=l1),trivial,trivial⟩,(Fam.app F1 F2 ac ac ac),rfl⟩
theorem BX(x:DLogNode)(hs:DLogNode.small 1048576 x):mh av 79 [.agg x.ds] (.agg x.ds):=by
 obtain⟨h1,h2,h3,h4,h5,h6⟩:=(show DTwo.small 1048576 x.two/\DHead.small 1048576 x.head/\DHead.small 1048576 x.nxt/\x.book.entries.length<=1048576/\x.seen.length<=1048576/\x.owe.length<=1048576 from hs);refine j7 aL func79 rfl call79 ntmps79 (WA results79) λS=>?_;conv=>whnf
 repeat'((first|refine awz ?_|refine TY (Dp x.two h1) rfl rfl λR1 l1 e1 a1 b1 F1=>?_|refine TY (sU x.head h2) rfl rfl λR2 l2 e2 a2 b2 F2=>?_|refine TY (sU x.nxt h3) rfl rfl λR3 l3 e3 a3 b3 F3=>?_|refine aQ an ?_|refine aP alW ?_|refine Uk bls ?_|fail)<;>conv=>whnf)
 exact⟨_,_,_,⟨(by omega:S.w0.heap.size<=l1),trivial,trivial⟩,(Fam.app (Fam.app (Fam.app F1 F2 ac ac ac) F3 ac ac ac) (TX (lo:=e3) (hi:=e3) (ds:=[dB x.more,dI x.book.base,dI x.book.time,dI x.durable]) rfl) ac ac ac),rfl⟩
theorem yA(x:DStore)(hs:DStore.small 1048576 x):mh av 80 [.agg x.ds] (.agg x.ds):=by
 obtain⟨h1,h2,h3⟩:=(show DDisk.small 1048576 x.disk/\x.state.pairs.length<=1048576/\x.state.jobs.length<=1048576 from hs);refine j7 aL func80 rfl call80 ntmps80 (WA results80) λS=>?_;conv=>whnf
 repeat'((first|refine awz ?_|refine TY (xq x.disk h1) rfl rfl λR1 l1 e1 a1 b1 F1=>?_|refine aQ an ?_|refine aP alW ?_|refine Uk bls ?_|fail)<;>conv=>whnf)
 exact⟨_,_,_,⟨(by omega:S.w0.heap.size<=l1),trivial,trivial⟩,(Fam.app F1 (TX (lo:=e1) (hi:=e1) (ds:=[dI x.state.index,dI x.state.time,dI x.state.lease.holder,dI x.state.lease.epoch,dI x.state.lease.til,dI x.num,dI x.last,dI x.busy]) rfl) ac ac ac),rfl⟩
def kZ:List (List Nat):=a8 [0,1,129,12354,1056835,84676740,6510088389,486455648518,12354,2367555,0x206102043147289,0xb24a1c50c1084188,0x3081840810c51ca24b,0xd2c928714304210620c,0x3081840810c51ca24b,0xf2c928714304210620c,0x38c2061020431472892cd40f,0x113d034b24a1c50c108418830e,0x48e3081840810c51ca24b3503d1,0x3081840810c51ca24b,0x142c928714304210620c,0x1344f40d2c928714304210620c392554,0x3081840810c51ca24b59455238d40f453,0x30425d344f40d39255458b24a1c510620c,0x60c2061051ca24b59455238d40f4535c2043]
def k9:List (List Nat):=dN 21 [0,1,4,52501,52528,52609,52852,53581,6547,13108,29524,88573,9336621208,9337152649,9302608984,9307391953,9319615096,9362661817,9491801980,1161995746,2324257213]
def oM:List (List Nat):=a8 [0,1,0,3,0,324,6,450,8,9,9,0,0x30a2481c61440c204828c,0xd30b28920718510308134b]
def iS:List (List Nat):=a8 [0,0,2,65,4345827587]
theorem tz(d:DDisk)(hs:DDisk.small 1048576 d):aM av 111 [.agg d.ds] (.val (.agg d.ds)):=
  cV.data (oy d hs) rfl rfl
theorem va(s:DStore)(hs:DStore.small 1048576 s):aM av 238 [.agg s.ds] (.val (.agg s.ds)):=by
  have c1:=tz s.disk hs.1;have c2:=u9 s.state hs.2;refine pO func238 call238 ntmps238 results238 λS=>?_;conv=>whnf
  repeat'((first|refine awz ?_|refine cP (c1) ?_|refine cP (c2) ?_|exact rZ|fail)<;>conv=>whnf)
theorem xl(f:xu)(hl:f.ents.length<=1000000):bq av 274 [.agg f.ds] (λ_:Bool=>True) (λb=>rB b):=by
  by_cases hz:f.ents.length=0
  · have q:((((f.ents.map DEntry.ds).length:Nat):Int)==0)=true:=by simp[hz]
    refine aO aL func274 rfl call274 ntmps274 (WA results274) λS=>?_;conv=>whnf
    repeat'((first|refine awz ?_|refine cP (aN _ _ _) ?_|refine cP (fp f.ents) ?_|refine TB aL 4 21 kZ k9 ae ae ae rfl ?_|refine tW ?_ ?_|intro h)<;>conv=>whnf)
    all_goals exact⟨(_:Bool),trivial,rfl⟩
  · have q:((((f.ents.map DEntry.ds).length:Nat):Int)==0)=false:=by simp;intro e;rw[e]at hz;exact hz rfl
    refine aO aL func274 rfl call274 ntmps274 (WA results274) λS=>?_;conv=>whnf
    repeat'((first|refine awz ?_|refine cP (aN _ _ _) ?_|refine cP (fp f.ents) ?_|refine TB aL 4 21 kZ k9 ae ae ae rfl ?_|refine TJ (k:=0) ac ?_|refine AIx.int aj aj ?_|refine Tz aj aj ?_|refine tW ?_ ?_|intro h)<;>conv=>whnf)
    all_goals exact⟨(_:Bool),trivial,rfl⟩
theorem EJ(s:DStore)(f:xu)(ho:storeOk s=true)(hl:f.ents.length<=1000000):bq av 223 [.agg s.ds,.agg f.ds] (λy:DStore=>storeOk y=true) (λy=> .val (.agg y.ds)):=by
  have sf:=E8 ho;have hs:=eK ho;have c1:=fV s (by have:=hs.2.1;omega);rw[ho]at c1;have c2:=va s hs;have c3:=xl f hl;refine aO aL func223 rfl call223 ntmps223 (WA results223) λS=>?_;conv=>whnf
  repeat'((first|refine awz ?_|refine cP (c1) ?_|refine cP (c2) ?_|refine aG.q c3 rfl λb _=>?_|refine tW ?_ ?_|intro h)<;>conv=>whnf)
  · exact⟨s,ho,rfl⟩
  · clear h;refine TE (λg:Nat×DState=>g.1<=f.ents.length/\a9 g.2=true/\s.state.index<=g.2.index) (6::7::8::rg 19 21) (λg=>[(6,vI .i64 (g.1:Int))]) (λg=>[(3,.cells 270 (f.ds.map .d)),(4,.cells 58 [.nil,.nil,.d (dI 0),.d (dI 0),.nil,.nil,.d (dI 0),.d (dI 0),.d (dI 0),.d (dI 0),.d (dI 0),.d (dI 0)]),(5,.cells 58 ((DStore.ds {s with state:=g.2}).map .d))]) (λg=>f.ents.length-g.1) (0,s.state) ⟨Nat.zero_le _,sf.state,Int.le_refl _⟩ ?_ sbW (λg hg=>?_)<;>(conv=>whnf)
    · exact whd
    · obtain⟨k,t⟩:=g;obtain⟨hk,ht,hi⟩:=hg;simp only at hk ht hi;by_cases hlt:k<f.ents.length
      · have hc:decide ((k:Int)<((f.ents.map DEntry.ds).length:Int))=true:=al;have ca:=I2 t f.ents[k] ht;repeat'(first|refine awz ?_|fail)
        (refine TD aL 9 (tkc [0,2,3,4,5,6] (.two 1 (.two 7 (tkc [8,9,10] (.one 11 (.one 12 (.take 13 .done)))) 11 (.one 7 (tkc [8,9,10] (.one 12 (.take 13 .done))))) 11 (.one 1 (.one 7 (tkc [8,9,10] (.one 12 (.take 13 .done))))))) [(3,9980)] oM ae ae ae ae (λRz=>?_);(conv=>whnf);intro bp0 up0;(conv=>whnf))
        repeat'((first|refine awz ?_|refine TJ hlt ?_|(refine aG.q ca rfl λy hy=>?_;obtain⟨u,b⟩:=y)|refine Tz ac ac ?_|refine tW ?_ ?_|intro h)<;>conv=>whnf)
        all_goals first
          | (have hq := hy h
             have hq1:a9 u=true:=hq.1;have hq2:u.index=t.index+1:=hq.2.1;refine aW.mk ⟨(k+1,u),⟨hlt,hq1,by show s.state.index<=u.index;omega⟩,by show f.ents.length-(k+1)<f.ents.length-k;omega,?_,sbW⟩;exact hds)
          | (refine aW.mk ⟨(k + 1, t), ⟨hlt, ht, hi⟩, by show f.ents.length - (k + 1) < f.ents.length - k; omega, ?_, sbW⟩
             exact hds)
      · have e:k=f.ents.length:=ac;subst e;have hc:decide ((f.ents.length:Int)<((f.ents.map DEntry.ds).length:Int))=false:=ai;repeat'(first|refine awz ?_|fail)
        exact⟨{s with state:=t},(N8 sf ht hi).ok,rfl⟩
theorem Ji(s:DStore)(h:storeOk s=true):aM av 175 [.agg s.ds] (.val (pI (s.state.index+1))):=by
  have hs:=eK h;have c1:=fV s (by have:=hs.2.1;omega);rw[h]at c1;have f3:=(jf (E8 h).state).2.2.1;refine pO func175 call175 ntmps175 results175 λS=>?_;conv=>whnf
  repeat'((first|refine awz ?_|refine cP (c1) ?_|refine Tz ac ac ?_|exact rZ|fail)<;>conv=>whnf)
theorem BT(s:DStore)(h:storeOk s=true):bq av 176 [.agg s.ds] (λy:DStore×Int=>storeOk y.1=true) (λy=> .tup [.agg y.1.ds,.one (dI y.2)]):=by
  have sf:=E8 h;have hs:=eK h;have c1:=fV s (by have:=hs.2.1;omega);rw[h]at c1;have c2:=va s hs;have hd:bN s.disk=true:=by have:=sf.disk;simp only[cS,Bool.and_eq_true]at this;exact this.1
  have c3:=om s.disk hd;have hnum:=sf.num;by_cases hb:s.busy=0
  · have q:(s.busy !=0)=false:=by simpa using hb
    refine aO aL func176 rfl call176 ntmps176 (WA results176) λS=>?_;conv=>whnf
    repeat'((first|refine awz ?_|refine cP (c1) ?_|refine cP (c2) ?_|fail)<;>conv=>whnf)
    (refine TD aL 9 (tkc [0,1,2] (.one 3 (.take 4 .done))) [(4,9980)] iS ae ae ae ae (λRz=>?_);(conv=>whnf);intro bp0 up0;(conv=>whnf))
    repeat'(first|refine awz ?_|fail)
    all_goals exact⟨(s,_),h,rfl⟩
  · have q:(s.busy !=0)=true:=by simpa using hb
    have hok:=(ML sf hb).ok;refine aO aL func176 rfl call176 ntmps176 (WA results176) λS=>?_;conv=>whnf
    repeat'((first|refine awz ?_|refine cP (c1) ?_|refine cP (c2) ?_|refine cP (c3) ?_|refine Tz ac ac ?_|fail)<;>conv=>whnf)
    (refine TD aL 9 (tkc [0,1,2] (.one 3 (.take 4 .done))) [(4,9980)] iS ae ae ae ae (λRz=>?_);(conv=>whnf);intro bp0 up0;(conv=>whnf))
    repeat'(first|refine awz ?_|fail)
    all_goals exact⟨({s with disk:=fD s.disk,num:=s.num+1,last:=s.busy,busy:=0},_),hok,rfl⟩
end Go.Proofs.YtlmoekpinpafeaaGreat
