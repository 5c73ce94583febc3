/- RB2 -/
import Derived.Test.YthgkdhnlehneeaaGreatDoorRB1
import Derived.Test.YthgkdhnlehneeaaGreatDoorRA2
import Derived.Test.YthgkdhnlehneeaaGreatDoorAvFQ
set_option maxHeartbeats 8000000
set_option linter.unusedVariables false
set_option linter.unusedSimpArgs false
set_option maxRecDepth 100000
open List (length_map map_append mem_map)
namespace Go.Proofs.YthgkdhnlehneeaaGreatDoor
section
open Go.Proofs.Tryz
open Go.ChangeShapes Go.WideShapes Go.RowKit
variable {m:List Int}{k:Nat}
def qV:List (List Nat):=bC [0,0,0,194,4,0,0,7,518,9,645,11,769,0xd30b28920718510308134d]
def pN:List (List Nat):=bC [0,0,0,194,4,0,0,7,518,9,0,0,12,843,14,0,0,17,1168,19,0,0,22,1493,24,424735365,26,1729,0x71b69961759551349140f38d30b28920718510308171c]
theorem nM{i:Nat}(h:i<m.length)(x:Int):((x::m).map eI)[i+1]? =some (eI (m.getD i 0)):=by
 rw[List.getElem?_map,List.getElem?_cons_succ,List.getElem?_eq_getElem h,List.getD_eq_getElem?_getD,List.getElem?_eq_getElem h];rfl
def Fv(o:Option (List br)):AP:= .tup [.one (.sl ((o.getD []).map br.ds)),.one (dB o.isSome)]
def Dv(m:List Int):Option (List br):=if bS (eY m)then some (eY m)else none
theorem Nn(hk:k<(eY m).length):((eY m).take (k+1)).map br.ds=((eY m).take k).map br.ds++[br.ds ((eY m)[k])]:=by
 rw[List.take_add_one,List.getElem?_eq_getElem hk,List.map_append];rfl
theorem MZ(m:List Int)(n:Nat)(hn:n<=10)(hl:m.length=2*n):aN av 480 [.one (.sl (((n:Int)::m).map eI))] (Fv (Dv m)):=by
 have hpl:(eY m).length=n:=by rw[Fe,hl];omega
 have hln:((((n:Int)::m).map eI).length:Int)=1+2*(n:Int):=by simp[hl];omega
 have m1:(((((n:Int)::m).map eI).length:Int).tmod 2 !=1)=false:=by rw[hln,Int.tmod_eq_emod_of_nonneg ac];simp only[bne_eq_false_iff_eq];omega
 have m2:decide (((((n:Int)::m).map eI).length:Int)>1+2*10)=false:=by rw[hln];simp only[decide_eq_false_iff_not];omega
 have main:∀o:Option (List br),(bS (eY m)=true->o=some (eY m))->(bS (eY m)=false->o=none)->aN av 480 [.one (.sl (((n:Int)::m).map eI))] (Fv o):=by
  intro o h1 h2;refine pO func480 call480 ntmps480 results480 λS=>?_;conv=>whnf
  repeat'(first|refine awz ?_|(refine And.intro ai ?_;conv=>whnf)|fail)
  refine aaK (λk:Nat=>k<=n) (16::[4,5,17,18,19,20,21,22,23,24,25,26,27,28,29,30,31,32,33,34,35]) (λk=>[(4,.one (.own 16)),(5,vI .i64 (1+2*(k:Int)))]) (λk=>[(16,.row 329 2 (((eY m).take k).map br.ds))]) (λk=>n-k) 0 (Nat.zero_le _) ?_ sbW (λk hk=>?_)<;>(conv=>whnf)
  ·exact whd
  ·by_cases hlt:k<n
   ·have hc:decide (1+2*(k:Int)<((((n:Int)::m).map eI).length:Int))=true:=by rw[hln];simp only[decide_eq_true_eq];omega
    have hs:=Nn (m:=m) (k:=k) ac;have hel:(eY m)[k]'(ac)=(⟨m.getD (2*k) 0,m.getD (2*k+1) 0⟩:br):=by simp[eY]
    rw[hel]at hs;repeat'(first|refine awz ?_|fail)
    (refine aaL aM 7 (tkc [0,1,2,3,4,5,6] (.one 7 (.take 8 (onc [9,10,11,12] (.take 13 .done))))) [] qV ae ae ae ae (λRz=>?_);(conv=>whnf))
    repeat'((first|refine awz ?_|refine aaG (2*k+1) _ ac (nM (i:=2*k) ac _) ?_|refine aaG (2*k+2) _ ac (nM (i:=2*k+1) ac _) ?_|refine a7 aC ?_|refine aaH ac ac ?_|fail)<;>conv=>whnf)
    all_goals
     refine a8.mk ⟨k+1,hlt,ac,?_,aaC (by rw[hs];rfl) aaE⟩;rw[show(1+2*((k+1:Nat):Int))=1+2*(k:Int)+2 by omega];exact hds
   ·have e:k=n:=ac;subst e;have hc:decide (1+2*(k:Int)<((((k:Int)::m).map eI).length:Int))=false:=by rw[hln];simp only[decide_eq_false_iff_not];omega
    have n3:((k:Int) !=(((eY m).map br.ds).length:Int))=false:=by simp[hpl]
    rw[List.take_of_length_le ac];cases hp:bS (eY m)with
    |false=>
     have n4:(!bS (eY m))=true:=by rw[hp];rfl
     obtain rfl:=h2 hp;unfold Fv;repeat'((first|refine awz ?_|refine aaG 0 _ rfl rfl ?_|refine aI.scalar (fB (eY m)) rfl rfl ?_|exact rZ|fail)<;>conv=>whnf)
    |true=>
     have n4:(!bS (eY m))=false:=by rw[hp];rfl
     obtain rfl:=h1 hp;unfold Fv;repeat'((first|refine awz ?_|refine aaG 0 _ rfl rfl ?_|refine aI.scalar (fB (eY m)) rfl rfl ?_|exact rZ|fail)<;>conv=>whnf)
 exact main _ (λh=>by simp[Dv,h]) (λh=>by simp[Dv,h])
def Mi(o:Option (List bo)):AP:= .tup [.one (.sl ((o.getD []).map bo.ds)),.one (dB o.isSome)]
def J9(m:List Int):Option (List bo):=if bO (fZ m)then some (fZ m)else none
theorem Pw(hk:k<(fZ m).length):((fZ m).take (k+1)).map bo.ds=((fZ m).take k).map bo.ds++[bo.ds ((fZ m)[k])]:=by
 rw[List.take_add_one,List.getElem?_eq_getElem hk,List.map_append];rfl
theorem Ky(m:List Int)(n:Nat)(hn:n<=8)(hl:m.length=5*n):aN av 481 [.one (.sl (((n:Int)::m).map eI))] (Mi (J9 m)):=by
 have hpl:(fZ m).length=n:=by rw[Rx,hl];omega
 have hln:((((n:Int)::m).map eI).length:Int)=1+5*(n:Int):=by simp[hl];omega
 have m1:(((((n:Int)::m).map eI).length:Int).tmod 5 !=1)=false:=by rw[hln,Int.tmod_eq_emod_of_nonneg ac];simp only[bne_eq_false_iff_eq];omega
 have m2:decide (((((n:Int)::m).map eI).length:Int)>1+5*8)=false:=by rw[hln];simp only[decide_eq_false_iff_not];omega
 have main:∀o:Option (List bo),(bO (fZ m)=true->o=some (fZ m))->(bO (fZ m)=false->o=none)->aN av 481 [.one (.sl (((n:Int)::m).map eI))] (Mi o):=by
  intro o h1 h2;refine pO func481 call481 ntmps481 results481 λS=>?_;conv=>whnf
  repeat'(first|refine awz ?_|(refine And.intro ai ?_;conv=>whnf)|fail)
  refine aaK (λk:Nat=>k<=n) (16::[4,5,17,18,19,20,21,22,23,24,25,26,27,28,29,30,31,32,33,34,35,36,37,38,39,40,41,42,43,44,45,46,47,48,49,50]) (λk=>[(4,.one (.own 16)),(5,vI .i64 (1+5*(k:Int)))]) (λk=>[(16,.row 122 5 (((fZ m).take k).map bo.ds))]) (λk=>n-k) 0 (Nat.zero_le _) ?_ sbW (λk hk=>?_)<;>(conv=>whnf)
  ·exact whd
  ·by_cases hlt:k<n
   ·have hc:decide (1+5*(k:Int)<((((n:Int)::m).map eI).length:Int))=true:=by rw[hln];simp only[decide_eq_true_eq];omega
    have hs:=Pw (m:=m) (k:=k) ac;have hel:(fZ m)[k]'(ac)=(⟨m.getD (5*k) 0,m.getD (5*k+1) 0,m.getD (5*k+2) 0,m.getD (5*k+3) 0,m.getD (5*k+4) 0⟩:bo):=by simp[fZ]
    rw[hel]at hs;repeat'(first|refine awz ?_|fail)
    (refine aaL aM 7 (tkc [0,1,2,3,4,5,6,7,8,9,10,11,12,13,14,15,16,17,18,19,20,21,22,23,24] (onc [25,26,27] (.take 28 .done))) [] pN ae ae ae ae (λRz=>?_);(conv=>whnf))
    repeat'((first|refine awz ?_|refine aaG (5*k+1) _ ac (nM (i:=5*k) ac _) ?_|refine aaG (5*k+2) _ ac (nM (i:=5*k+1) ac _) ?_|refine aaG (5*k+3) _ ac (nM (i:=5*k+2) ac _) ?_|refine aaG (5*k+4) _ ac (nM (i:=5*k+3) ac _) ?_|refine aaG (5*k+5) _ ac (nM (i:=5*k+4) ac _) ?_|refine a7 aC ?_|refine aaH ac ac ?_|fail)<;>conv=>whnf)
    all_goals
     refine a8.mk ⟨k+1,hlt,ac,?_,aaC (by rw[hs];rfl) aaE⟩;rw[show(1+5*((k+1:Nat):Int))=1+5*(k:Int)+5 by omega];exact hds
   ·have e:k=n:=ac;subst e;have hc:decide (1+5*(k:Int)<((((k:Int)::m).map eI).length:Int))=false:=by rw[hln];simp only[decide_eq_false_iff_not];omega
    have n3:((k:Int) !=(((fZ m).map bo.ds).length:Int))=false:=by simp[hpl]
    rw[List.take_of_length_le ac];cases hp:bO (fZ m)with
    |false=>
     have n4:(!bO (fZ m))=true:=by rw[hp];rfl
     obtain rfl:=h2 hp;unfold Mi;repeat'((first|refine awz ?_|refine aaG 0 _ rfl rfl ?_|refine aI.scalar (fh (fZ m)) rfl rfl ?_|exact rZ|fail)<;>conv=>whnf)
    |true=>
     have n4:(!bO (fZ m))=false:=by rw[hp];rfl
     obtain rfl:=h1 hp;unfold Mi;repeat'((first|refine awz ?_|refine aaG 0 _ rfl rfl ?_|refine aI.scalar (fh (fZ m)) rfl rfl ?_|exact rZ|fail)<;>conv=>whnf)
 exact main _ (λh=>by simp[J9,h]) (λh=>by simp[J9,h])
end
section
open Go.Proofs.Tryz
open Go.ChangeShapes Go.WideShapes Go.RowKit
variable {a b x:Int}{l:List Int}{i:Nat}
def kV:List (List Nat):=bC [0,1,129,0,4,324,0,7,519,848966926504392,0,0xb2881c9144182043]
def k7:List (List Nat):=dW 11 [137754,137755,137758,137078,137105,137186,118826,119555,121742,127939,59048]
def iL:List (List Nat):=bC [0,1,2,0,4,5,0,0,0,153121155,0,0xb28920718510308128b]
theorem jg(h:i<l.length):(l.map eI)[i]? =some (eI (l.getD i 0)):=by
 rw[List.getElem?_map,List.getElem?_eq_getElem h,List.getD_eq_getElem?_getD,List.getElem?_eq_getElem h];rfl
theorem wN(h:i<l.length):l.drop i=l.getD i 0::l.drop (i+1):=by
 rw[List.drop_eq_getElem_cons h,List.getD_eq_getElem?_getD,List.getElem?_eq_getElem h];rfl
theorem Xt{n:Nat}(h:i<l.length):((l.map eI).take (i+1+n)).drop i=(l.getD i 0::(l.drop (i+1)).take n).map eI:=by
 rw[<-List.map_take,<-List.map_drop,List.drop_take,wN h,show i+1+n-i=n+1 by omega,List.take_succ_cons]
theorem Zg(h:3<=l.length):((l.map eI).take l.length).drop (l.length-3)=[l.getD (l.length-3) 0,l.getD (l.length-2) 0,l.getD (l.length-1) 0].map eI:=by
 rw[<-List.map_take,<-List.map_drop,List.take_length,wN ac,show l.length-3+1=l.length-2 by omega,wN ac,show l.length-2+1=l.length-1 by omega,wN ac,List.drop_of_length_le ac]
def Kb(o:Option ge):AP:= .tup [.agg (o.getD ⟨0,0,0⟩).ds,.one (dB o.isSome)]
theorem MX(a b c:Int):aN av 482 [.one (.sl ([a,b,c].map eI))] (Kb (if d9 ⟨a,b,c⟩then some ⟨a,b,c⟩else none)):=by
 cases h:d9 ⟨a,b,c⟩with
 |false=>
  have n1:(!d9 ⟨a,b,c⟩)=true:=by rw[h];rfl
  unfold Kb;refine pO func482 call482 ntmps482 results482 λS=>?_;conv=>whnf
  repeat'(first|refine awz ?_|fail)
  (refine aaJ aM 3 11 kV k7 ae ae ae rfl ?_;conv=>whnf)
  repeat'((first|refine awz ?_|refine aaG 0 _ rfl rfl ?_|refine aaG 1 _ rfl rfl ?_|refine aaG 2 _ rfl rfl ?_|refine cP (fA ⟨a,b,c⟩) ?_|exact rZ|fail)<;>conv=>whnf)
 |true=>
  have n1:(!d9 ⟨a,b,c⟩)=false:=by rw[h];rfl
  unfold Kb;refine pO func482 call482 ntmps482 results482 λS=>?_;conv=>whnf
  repeat'(first|refine awz ?_|fail)
  (refine aaJ aM 3 11 kV k7 ae ae ae rfl ?_;conv=>whnf)
  repeat'((first|refine awz ?_|refine aaG 0 _ rfl rfl ?_|refine aaG 1 _ rfl rfl ?_|refine aaG 2 _ rfl rfl ?_|refine cP (fA ⟨a,b,c⟩) ?_|exact rZ|fail)<;>conv=>whnf)
def pq(o:Option bf):AP:= .tup [.agg (o.getD fT).ds,.one (dB o.isSome)]
theorem nv(h:¬(7<=l.length/\(0<=l.getD 2 0/\l.getD 2 0<=10)/\3+2*l.getD 2 0<l.length/\(0<=l.getD (3+2*l.getD 2 0).toNat 0/\l.getD (3+2*l.getD 2 0).toNat 0<=8)/\3+2*l.getD 2 0+1+5*l.getD (3+2*l.getD 2 0).toNat 0+3=l.length)):vP l=false:=by
 cases hf:vP l with
 |false=>rfl
 |true=>
  simp only[vP,aJ,Bool.and_eq_true,decide_eq_true_eq]at hf;exact absurd ⟨hf.1.1.1.1,hf.1.1.1.2,hf.1.1.2,hf.1.2,hf.2⟩ h
theorem Ov(h:7<=l.length/\(0<=l.getD 2 0/\l.getD 2 0<=10)/\3+2*l.getD 2 0<l.length/\(0<=l.getD (3+2*l.getD 2 0).toNat 0/\l.getD (3+2*l.getD 2 0).toNat 0<=8)/\3+2*l.getD 2 0+1+5*l.getD (3+2*l.getD 2 0).toNat 0+3=l.length):vP l=true:=by
 simp only[vP,aJ,Bool.and_eq_true,decide_eq_true_eq];exact⟨⟨⟨⟨h.1,h.2.1⟩,h.2.2.1⟩,h.2.2.2.1⟩,h.2.2.2.2⟩
theorem PV(h:a<=x/\x<=b):(!aJ x a b)=false:=by simp only[aJ,Bool.not_eq_false',Bool.and_eq_true,decide_eq_true_eq];exact h
theorem Tc(h:¬(a<=x/\x<=b)):(!aJ x a b)=true:=by
 cases hb:aJ x a b with
 |false=>rfl
 |true=>simp only[aJ,Bool.and_eq_true,decide_eq_true_eq]at hb;exact absurd hb h
theorem kG(h:vP l=false):i7 l=none:=by simp[i7,h]
theorem Di(l:List Int)(hl:l.length<=1048576):aN av 473 [.one (.sl (l.map eI))] (pq (i7 l)):=by
 by_cases c1:7<=l.length
 ·have m1:decide (((l.map eI).length:Int)<7)=false:=by simp only[length_map,decide_eq_false_iff_not];omega
  by_cases c2:l.length<=67
  ·have m2:decide (((l.map eI).length:Int)>67)=false:=by simp only[length_map,decide_eq_false_iff_not];omega
   have g2:=jg (l:=l) (i:=2) ac;by_cases c3:0<=l.getD 2 0/\l.getD 2 0<=10
   ·have m3:(!aJ (l.getD 2 0) 0 10)=false:=PV c3;obtain⟨k,ek⟩:∃k:Nat,l.getD 2 0=(k:Int):=⟨(l.getD 2 0).toNat,ac⟩;have hk:k<=10:=ac;have ea:(3+2*l.getD 2 0).toNat=3+2*k:=ac;by_cases c4:3+2*k<l.length
    ·have m4:decide ((3+2*l.getD 2 0)>=((l.map eI).length:Int))=false:=by simp only[length_map,ge_iff_le,decide_eq_false_iff_not];omega
     have gA:=jg (l:=l) (i:=3+2*k) c4;by_cases c5:0<=l.getD (3+2*k) 0/\l.getD (3+2*k) 0<=8
     ·have m5:(!aJ (l.getD (3+2*k) 0) 0 8)=false:=PV c5;obtain⟨j,ej⟩:∃j:Nat,l.getD (3+2*k) 0=(j:Int):=⟨(l.getD (3+2*k) 0).toNat,ac⟩;have hj:j<=8:=ac;by_cases c6:3+2*k+1+5*j+3=l.length
      ·have m6:((3+2*l.getD 2 0+1+5*l.getD (3+2*k) 0+3) !=((l.map eI).length:Int))=false:=by simp only[length_map,bne_eq_false_iff_eq];omega
       have hfit:vP l=true:=Ov (by rw[ea];omega);have r1:=MZ ((l.drop 3).take (2*k)) k hk al;have r2:=Ky ((l.drop (3+2*k+1)).take (5*j)) j hj al;have r3:=MX (l.getD (l.length-3) 0) (l.getD (l.length-2) 0) (l.getD (l.length-1) 0);have hc1:((l.map eI).take (3+2*k)).drop 2=((k:Int)::(l.drop 3).take (2*k)).map eI:=by
        have:=Xt (l:=l) (i:=2) (n:=2*k) ac;rw[ek]at this;exact this
       have hc2:((l.map eI).take (l.length-3)).drop (3+2*k)=((j:Int)::(l.drop (3+2*k+1)).take (5*j)).map eI:=by
        have:=Xt (l:=l) (i:=3+2*k) (n:=5*j) c4;rw[ej,show 3+2*k+1+5*j=l.length-3 by omega]at this;exact this
       have hc3:=Zg (l:=l) ac;have g0:=jg (l:=l) (i:=0) ac;have g1:=jg (l:=l) (i:=1) ac;have er:vQ l=⟨l.getD 0 0,l.getD 1 0,eY ((l.drop 3).take (2*k)),fZ ((l.drop (3+2*k+1)).take (5*j)),⟨l.getD (l.length-3) 0,l.getD (l.length-2) 0,l.getD (l.length-1) 0⟩⟩:=by
        unfold vQ;rw[ea,ej,show(2*l.getD 2 0).toNat=2*k by omega,show(5*(j:Int)).toNat=5*j by omega,List.tail_drop]
       have so:=eK (vQ l) (by rw[er];simp only[Fe,List.length_take];omega);have main:∀o:Option bf,(bB (vQ l)=true->o=some (vQ l))->(bB (vQ l)=false->o=none)->aN av 473 [.one (.sl (l.map eI))] (pq o):=by
        intro o h1 h2;rw[er]at h1 h2 so;unfold Dv Fv at r1;unfold J9 Mi at r2;unfold Kb at r3;generalize eY ((l.drop 3).take (2*k))=P at*
        generalize fZ ((l.drop (3+2*k+1)).take (5*j))=Q at*
        generalize (⟨l.getD (l.length-3) 0,l.getD (l.length-2) 0,l.getD (l.length-1) 0⟩:ge)=L at*
        cases hst:bB ⟨l.getD 0 0,l.getD 1 0,P,Q,L⟩with
        |true=>
         obtain⟨_,_,f3,f4,f5⟩:=cK hst;simp only[f3,f4,f5,if_true]at r1 r2 r3;have n7:(!bB ⟨l.getD 0 0,l.getD 1 0,P,Q,L⟩)=false:=by rw[hst];rfl
         obtain rfl:=h1 hst;unfold pq;refine pO func473 call473 ntmps473 results473 λS=>?_;conv=>whnf
         repeat'((first|refine awz ?_|refine aaG 2 (eI (l.getD 2 0)) rfl g2 ?_|refine cP (aQ _ _ _) ?_|refine aaG (3+2*k) _ ac gA ?_|(refine⟨2,3+2*k,rfl,(by show _=_;omega),ac,al,(by intro y hy;obtain⟨a,_,rfl⟩:=mem_map.1 hy;rfl),?_⟩;rw[hc1])|(refine⟨3+2*k,l.length-3,(by show _=_;omega),(by show _=_;simp only[length_map];omega),ac,ah,(by intro y hy;obtain⟨a,_,rfl⟩:=mem_map.1 hy;rfl),?_⟩;rw[hc2])|(refine⟨l.length-3,l.length,(by show _=_;simp only[length_map];omega),(by show _=_;simp),ac,ah,(by intro y hy;obtain⟨a,_,rfl⟩:=mem_map.1 hy;rfl),?_⟩;rw[hc3])|refine cP (r1) ?_|refine cP (r2) ?_|refine cP (r3) ?_|refine aaH ac ac ?_|refine aaH am am ?_|fail)<;>conv=>whnf)
         (refine aaL aM 10 (tkc [0,1,2,3,4,5,6,7,8] (.two 9 (.one 10 (.one 11 .done)) 10 (.one 9 (.one 11 .done)))) [(10,9980)] iL ae ae ae ae (λRz=>?_);(conv=>whnf);intro bp0 up0;(conv=>whnf))
         repeat'((first|refine awz ?_|refine aaG 0 _ rfl g0 ?_|refine aaG 1 _ rfl g1 ?_|refine cP (so) ?_|exact rZ|refine tW ?_ ?_|fail)<;>conv=>whnf)
        |false=>
         have n7:(!bB ⟨l.getD 0 0,l.getD 1 0,P,Q,L⟩)=true:=by rw[hst];rfl
         obtain rfl:=h2 hst;unfold pq;cases f3:bS P<;>cases f4:bO Q<;>cases f5:d9 L<;>simp only[f3,f4,f5,if_true,if_false,Bool.false_eq_true]at r1 r2 r3
         all_goals
          refine pO func473 call473 ntmps473 results473 λS=>?_;conv=>whnf
          repeat'((first|refine awz ?_|refine aaG 2 (eI (l.getD 2 0)) rfl g2 ?_|refine cP (aQ _ _ _) ?_|refine aaG (3+2*k) _ ac gA ?_|(refine⟨2,3+2*k,rfl,(by show _=_;omega),ac,al,(by intro y hy;obtain⟨a,_,rfl⟩:=mem_map.1 hy;rfl),?_⟩;rw[hc1])|(refine⟨3+2*k,l.length-3,(by show _=_;omega),(by show _=_;simp only[length_map];omega),ac,ah,(by intro y hy;obtain⟨a,_,rfl⟩:=mem_map.1 hy;rfl),?_⟩;rw[hc2])|(refine⟨l.length-3,l.length,(by show _=_;simp only[length_map];omega),(by show _=_;simp),ac,ah,(by intro y hy;obtain⟨a,_,rfl⟩:=mem_map.1 hy;rfl),?_⟩;rw[hc3])|refine cP (r1) ?_|refine cP (r2) ?_|refine cP (r3) ?_|refine aaH ac ac ?_|refine aaH am am ?_|fail)<;>conv=>whnf)
          (refine aaL aM 10 (tkc [0,1,2,3,4,5,6,7,8] (.two 9 (.one 10 (.one 11 .done)) 10 (.one 9 (.one 11 .done)))) [(10,9980)] iL ae ae ae ae (λRz=>?_);(conv=>whnf);intro bp0 up0;(conv=>whnf))
          repeat'((first|refine awz ?_|refine aaG 0 _ rfl g0 ?_|refine aaG 1 _ rfl g1 ?_|refine cP (so) ?_|exact rZ|refine tW ?_ ?_|fail)<;>conv=>whnf)
       exact main _ (λh=>by simp[i7,hfit,h]) (λh=>by simp[i7,h])
      ·have m6:((3+2*l.getD 2 0+1+5*l.getD (3+2*k) 0+3) !=((l.map eI).length:Int))=true:=by simp only[length_map,bne_iff_ne,ne_eq];omega
       rw[kG (nv (by rw[ea];omega))];unfold pq;refine pO func473 call473 ntmps473 results473 λS=>?_;conv=>whnf
       repeat'((first|refine awz ?_|refine aaG 2 (eI (l.getD 2 0)) rfl g2 ?_|refine cP (aQ _ _ _) ?_|refine aaG (3+2*k) _ ac gA ?_|refine aaH ac ac ?_|exact rZ|fail)<;>conv=>whnf)
     ·have m5:(!aJ (l.getD (3+2*k) 0) 0 8)=true:=Tc c5;rw[kG (nv (by rw[ea];omega))];unfold pq;refine pO func473 call473 ntmps473 results473 λS=>?_;conv=>whnf
      repeat'((first|refine awz ?_|refine aaG 2 (eI (l.getD 2 0)) rfl g2 ?_|refine cP (aQ _ _ _) ?_|refine aaG (3+2*k) _ ac gA ?_|refine aaH ac ac ?_|exact rZ|fail)<;>conv=>whnf)
    ·have m4:decide ((3+2*l.getD 2 0)>=((l.map eI).length:Int))=true:=by simp only[length_map,ge_iff_le,decide_eq_true_eq];omega
     rw[kG (nv ac)];unfold pq;refine pO func473 call473 ntmps473 results473 λS=>?_;conv=>whnf
     repeat'((first|refine awz ?_|refine aaG 2 (eI (l.getD 2 0)) rfl g2 ?_|refine cP (aQ _ _ _) ?_|refine aaH ac ac ?_|exact rZ|fail)<;>conv=>whnf)
   ·have m3:(!aJ (l.getD 2 0) 0 10)=true:=Tc c3;rw[kG (nv ac)];unfold pq;refine pO func473 call473 ntmps473 results473 λS=>?_;conv=>whnf
    repeat'((first|refine awz ?_|refine aaG 2 (eI (l.getD 2 0)) rfl g2 ?_|refine cP (aQ _ _ _) ?_|exact rZ|fail)<;>conv=>whnf)
  ·have m2:decide (((l.map eI).length:Int)>67)=true:=by simp only[length_map,decide_eq_true_eq];omega
   rw[kG (nv ac)];unfold pq;refine pO func473 call473 ntmps473 results473 λS=>?_;conv=>whnf
   repeat'(first|refine awz ?_|exact rZ|fail)
 ·have m1:decide (((l.map eI).length:Int)<7)=true:=by simp only[length_map,decide_eq_true_eq];omega
  rw[kG (nv ac)];unfold pq;refine pO func473 call473 ntmps473 results473 λS=>?_;conv=>whnf
  repeat'(first|refine awz ?_|exact rZ|fail)
end
open Go.Proofs.Tryz
open Go.ChangeShapes Go.WideShapes Go.RowKit
def kJ(s:Int×bf):List AD:=dI s.1::s.2.ds
theorem Sf(s:Int×bf)(hp:s.2.pairs.length<=9223372036854775806):aN av 468 [.agg (kJ s)] (rB (gm s)):=by
 obtain⟨n,s⟩:=s;simp only at hp;unfold kJ;cases h1:aJ n 1 1000000000 with
 |false=>
  have e:gm (n,s)=false:=by simp[gm,h1]
  rw[e];refine pO func468 call468 ntmps468 results468 λS=>?_;conv=>whnf
  repeat'(first|refine awz ?_|(refine cP (aQ _ _ _) ?_;conv=>whnf)|exact rZ|fail)
  all_goals(simp[h1];done)
 |true=>
  cases h2:bB s with
  |false=>
   have e:gm (n,s)=false:=by simp[gm,h2]
   rw[e];refine pO func468 call468 ntmps468 results468 λS=>?_;conv=>whnf
   repeat'((first|refine awz ?_|refine cP (aQ _ _ _) ?_|refine cP (eK s hp) ?_|exact rZ|fail)<;>conv=>whnf)
   all_goals(simp[h2];done)
  |true=>
   have hi:=(cK h2).1;have e:gm (n,s)=decide (s.index>0):=by
    simp only[gm,h1,h2,Bool.true_and];by_cases h0:s.index=0
    ·simp[h0]
    ·have:s.index>0:=ac;simp[h0,this]
   rw[e];refine pO func468 call468 ntmps468 results468 λS=>?_;conv=>whnf
   repeat'((first|refine awz ?_|refine cP (aQ _ _ _) ?_|refine cP (eK s hp) ?_|exact rZ|fail)<;>conv=>whnf)
def AI(s:Int×bf)(p:Nat):List (List Int):=(List.range p).map λq=>f0 (ed s q)
def sv(s:Int×bf)(p i:Nat):List Int:=[s.1,s.2.index,(p:Int),((cJ s.2).length:Int)]++((cJ s.2).drop (20*p)).take i
theorem Pg(s:Int×bf)(p:Nat):(AI s (p+1)).map dO=(AI s p).map dO++[dO (f0 (ed s p))]:=by
 simp[AI,List.range_succ]
theorem Na{s:Int×bf}{p i:Nat}(h:20*p+i<(cJ s.2).length):(sv s p (i+1)).map eI=(sv s p i).map eI++[eI ((cJ s.2)[20*p+i])]:=by
 have hl:i<((cJ s.2).drop (20*p)).length:=by rw[List.length_drop];omega
 unfold sv;rw[List.take_add_one,List.getElem?_eq_getElem hl,List.getElem_drop];simp
theorem Pf(s:Int×bf)(p i:Nat):(sv s p i).length<=4+i:=by
 simp only[sv,List.length_append,List.length_cons,List.length_nil,List.length_take];omega
theorem Pe(s:Int×bf)(p:Nat){i:Nat}(h:i=20\/(cJ s.2).length<=20*p+i)(h2:i<=20):(sv s p i).map eI++[[dI s.2.index],[dI s.1]]=(ed s p).map eI:=by
 have e:((cJ s.2).drop (20*p)).take i=((cJ s.2).drop (20*p)).take 20:=by
  rcases h with h|h
  ·rw[h]
  ·rw[List.take_of_length_le (by rw[List.length_drop];omega),List.take_of_length_le (by rw[List.length_drop];omega)]
 unfold sv ed;rw[e];simp[eI]
theorem wi(s:Int×bf)(hp:s.2.pairs.length<=9223372036854775806):aN av 439 [.agg (kJ s)] (.val (.one (.sl ((bV s).map dO)))):=by
 have so:=Sf s hp;cases ho:gm s with
 |false=>
  rw[ho]at so;have e:bV s=[]:=by simp[bV,ho]
  rw[e];obtain⟨n,st⟩:=s;unfold kJ at*
  refine pO func439 call439 ntmps439 results439 λS=>?_;conv=>whnf
  repeat'(first|refine awz ?_|(refine cP (so) ?_;conv=>whnf)|exact rZ|fail)
 |true=>
  rw[ho]at so;obtain⟨g1,g2,g3⟩:=lm ho;obtain⟨i1,_⟩:=cK g2;obtain⟨m1,m2⟩:=l7 g2;have sn:=Dj s.2 g2;have e:bV s=AI s (fe (cJ s.2).length):=by simp[bV,ho,AI]
  have hpo:fe (cJ s.2).length<=4:=(jq ho).2.2;rw[e];unfold kJ at*
  refine pO func439 call439 ntmps439 results439 λS=>?_;conv=>whnf
  repeat'((first|refine awz ?_|refine cP (so) ?_|refine cP (sn) ?_|fail)<;>conv=>whnf)
  refine aaK (λp:Nat=>p<=fe (cJ s.2).length) (8::[3,5,6,7,16,17,18,19,20,21,22,23,24,25,26,27,28,29,30,31,32,33,34,35,36,37,38,39,40,41,42,43,44,45,46,47,48,49,50,51,52,53,54,55,56,57,58,59,60,61,62,63,64,65]) (λp=>[(3,.one (.own 8)),(5,vI .i64 (p:Int))]) (λp=>[(1,.cells 302 ((dI s.1::s.2.ds).map .d)),(8,.row 67 1 ((AI s p).map dO))]) (λp=>fe (cJ s.2).length-p) 0 (Nat.zero_le _) ?_ sbW (λp hk=>?_)<;>(conv=>whnf)
  ·exact whd
  ·have hnl:(AI s p).length=p:=by simp[AI]
   by_cases hlt:p<fe (cJ s.2).length
   ·have hc:decide ((p:Int)*20<(((cJ s.2).map eI).length:Int))=true:=by simp only[List.length_map,decide_eq_true_eq];unfold fe at hlt;omega
    have hp4:p<=3:=ac;have E0:([[dI s.1],[dI s.2.index],[dI (p:Int)],[dI (((cJ s.2).map eI).length:Int)]]:List (List AD))=(sv s p 0).map eI:=by rw[List.length_map];rfl
    have rok:=yZ ho hlt;have hsn:=Pg s p;repeat'(first|refine awz ?_|(refine aaH ac ac ?_;conv=>whnf)|fail)
    refine aaK (λi:Nat=>i<=20/\20*p+i<=(cJ s.2).length) (31::[6,7,34,35,36,37,38,39,40,41,42,43,44,45,46,47,48,49,50,51,52,53]) (λi=>[(6,.one (.own 31)),(7,vI .i64 ((p:Int)*20+(i:Int)))]) (λi=>[(1,.cells 302 ((dI s.1::s.2.ds).map .d)),(8,.row 67 1 ((AI s p).map dO)),(31,.row 2 1 ((sv s p i).map eI))]) (λi=>20-i) 0 ⟨ac,by unfold fe at hlt;omega⟩ ?_ (aaC rfl (aaC rfl (aaC (congrArg some (congrArg (AO.row 2 1) E0)) aaE))) (λi hi=>?_)<;>(conv=>whnf)
    ·rw[show((p:Int)*20+((0:Nat):Int))=(p:Int)*20 by omega];exact whd
    ·obtain⟨hi1,hi2⟩:=hi;have hhl:=Pf s p i;by_cases hgo:20*p+i<(cJ s.2).length/\i<20
     ·have c1:decide ((p:Int)*20+(i:Int)<(((cJ s.2).map eI).length:Int))=true:=by simp only[List.length_map,decide_eq_true_eq];omega
      have c2:decide ((p:Int)*20+(i:Int)<((p:Int)+1)*20)=true:=by simp only[decide_eq_true_eq];omega
      have hss:=Na (s:=s) (p:=p) (i:=i) hgo.1;repeat'((first|refine awz ?_|refine aaG (20*p+i) (eI ((cJ s.2)[20*p+i]'hgo.1)) ac (by rw[List.getElem?_map,List.getElem?_eq_getElem hgo.1];rfl) ?_|refine a7 ak ?_|refine aaH ac ac ?_|fail)<;>conv=>whnf)
      refine a8.mk ⟨i+1,⟨ac,ac⟩,ac,?_,aaC rfl (aaC rfl (aaC (by rw[hss];rfl) aaE))⟩;rw[show((p:Int)*20+((i+1:Nat):Int))=(p:Int)*20+(i:Int)+1 by omega];exact hds
     ·have hend:=Pe s p (i:=i) ac hi1;have fin:∀(c:Bool),c=c:=λ_=>rfl;by_cases c0:20*p+i<(cJ s.2).length
      ·have c1:decide ((p:Int)*20+(i:Int)<(((cJ s.2).map eI).length:Int))=true:=by simp only[List.length_map,decide_eq_true_eq];omega
       have c2:decide ((p:Int)*20+(i:Int)<((p:Int)+1)*20)=false:=by simp only[decide_eq_false_iff_not];omega
       repeat'(first|refine awz ?_|(refine aI.freeze 31 2 1 ((ed s p).map eI) (congrArg (AO.row 2 1) hend) ?_;(conv=>whnf);refine aaB (oc (ed s p) rok.1 rok.2) rfl ?_;conv=>whnf)|((first|refine a7 ak ?_|refine aaH ac ac ?_|fail)<;>conv=>whnf))
       refine a8.mk ⟨p+1,hlt,ac,?_,aaC rfl (aaC (by rw[hsn];rfl) aaE)⟩;exact hds
      ·have c1:decide ((p:Int)*20+(i:Int)<(((cJ s.2).map eI).length:Int))=false:=by simp only[List.length_map,decide_eq_false_iff_not];omega
       repeat'(first|refine awz ?_|(refine aI.freeze 31 2 1 ((ed s p).map eI) (congrArg (AO.row 2 1) hend) ?_;(conv=>whnf);refine aaB (oc (ed s p) rok.1 rok.2) rfl ?_;conv=>whnf)|((first|refine a7 ak ?_|refine aaH ac ac ?_|fail)<;>conv=>whnf))
       refine a8.mk ⟨p+1,hlt,ac,?_,aaC rfl (aaC (by rw[hsn];rfl) aaE)⟩;exact hds
   ·have ep:p=fe (cJ s.2).length:=ac;have hc:decide ((p:Int)*20<(((cJ s.2).map eI).length:Int))=false:=by simp only[List.length_map,decide_eq_false_iff_not];unfold fe at ep;omega
    rw[<-ep];repeat'(first|refine awz ?_|(refine aaH ac ac ?_;conv=>whnf)|exact rZ|fail)
section
variable {r x:List Int}
def fu:List (List Nat):=bC [0,1,129,12354,1056835,84676740,3238551813,486473736259,35391639404871,35391639404871,0xa1c51060810c8,0x2c80c10861051ca,0x24714418204320c28b,0xd2ca3080c10861051c9,35391639404871,0xf1c51060810c8,0x4080c10861051cf,0xe24714418204320c28b3513d0,0x2030421841474903d134b28c24e,0x1338930a2cd44f4121c51060810c8,0x5080c10861051d240f44d2ca309393,0x5080c10861051d240f44d2ca309393,0x164ce24c28b3513d0487144182043214,0x5d42030421841474903d134b28c24e4d6,0x55338930a2cd44f4121c51060810c8518597,0x195d66142030421841474903d134b28c24e4d5,0x5080c10861051d240f44d2ca309393,0x1b4ce24c28b3513d0487144182043214,0x7142030421841474903d134b28c24e4db,0x1a55338930a2cd44f4121c51060810c851859765d6dc,0x5080c10861051d240f44d2ca30939379c6dd65759855a]
def fv:List (List Nat):=dW 29 [0,1,4,13,40,121,364,1093,124872232,124373596,124393279,124452328,124622914,125154355,4779688,9562657,23911564,64570081,193710244,581130733,66362224112032,66097228497556,66107688850759,66139069910368,66229726304794,66512155841275,2540122436128,5081988264457,0xb8eb72271c4]
def gv(r:List Int):Option (List Int):=match lL r with
 |some x=>if 7<=x.length/\x.getD (x.length-1) 0=x.getD 0 0/\x.getD (x.length-2) 0=x.getD 1 0 then some ((x.drop 4).take (x.length-6))else none
 |none=>none
theorem yS(h:gv r=some x):x.length<=48/\0<r.length:=by
 unfold gv at h;split at h
 ·rename_i y e;split at h
  ·injection h with h
   subst h;have e2:=fC e;refine⟨by simp only[List.length_take,List.length_drop];omega,?_⟩;rw[e2.2.2];simp[f0]
  ·cases h
 ·cases h
theorem Pn(r:List Int):aN av 472 [.one (.sl (r.map eI))] (Kc (gv r)):=by
 have su:=wl r;unfold gv;cases e:lL r with
 |none=>
  rw[e]at su;unfold Kc at su⊢;refine pO func472 call472 ntmps472 results472 λS=>?_;conv=>whnf
  repeat'(first|refine awz ?_|(refine cP (su) ?_;conv=>whnf)|fail)
  (refine aaJ aM 2 29 fu fv ae ae ae rfl ?_;conv=>whnf)
  repeat'(first|refine awz ?_|exact rZ|fail)
 |some x=>
  rw[e]at su;have hxl:=(fC e).2.1;unfold Kc at su⊢;have su:aN av 191 [.one (.sl (r.map eI))] (.tup [.one (.sl (x.map eI)),.one (dB true)]):=su;simp only;by_cases h7:7<=x.length
  ·have m1:decide (((x.map eI).length:Int)<7)=false:=by simp only[List.length_map,decide_eq_false_iff_not];omega
   have g0:=jg (l:=x) (i:=0) ac;have g1:=jg (l:=x) (i:=1) ac;have ga:=jg (l:=x) (i:=x.length-1) ac;have gb:=jg (l:=x) (i:=x.length-2) ac;by_cases ha:x.getD (x.length-1) 0=x.getD 0 0
   ·have m2:(x.getD (x.length-1) 0 !=x.getD 0 0)=false:=by rw[ha];simp
    by_cases hb:x.getD (x.length-2) 0=x.getD 1 0
    ·have m3:(x.getD (x.length-2) 0 !=x.getD 1 0)=false:=by rw[hb];simp
     rw[if_pos ⟨h7,ha,hb⟩];have hc:((x.map eI).take (x.length-2)).drop 4=(((x.drop 4).take (x.length-6))).map eI:=by
      rw[<-List.map_take,<-List.map_drop,List.drop_take,show x.length-2-4=x.length-6 by omega]
     refine pO func472 call472 ntmps472 results472 λS=>?_;conv=>whnf
     repeat'(first|refine awz ?_|(refine cP (su) ?_;conv=>whnf)|fail)
     (refine aaJ aM 2 29 fu fv ae ae ae rfl ?_;conv=>whnf)
     repeat'((first|refine awz ?_|refine aaG (x.length-1) _ am ga ?_|refine aaG 0 _ rfl g0 ?_|refine aaG (x.length-2) _ am gb ?_|refine aaG 1 _ rfl g1 ?_|(refine⟨4,x.length-2,rfl,(by show _=_;simp only[List.length_map];omega),ac,ah,(by intro y hy;obtain⟨a,_,rfl⟩:=List.mem_map.1 hy;rfl),?_⟩;rw[hc])|refine aaH am am ?_|exact rZ|fail)<;>conv=>whnf)
    ·have m3:(x.getD (x.length-2) 0 !=x.getD 1 0)=true:=by simpa using hb
     rw[if_neg λh=>hb h.2.2];refine pO func472 call472 ntmps472 results472 λS=>?_;conv=>whnf
     repeat'(first|refine awz ?_|(refine cP (su) ?_;conv=>whnf)|fail)
     (refine aaJ aM 2 29 fu fv ae ae ae rfl ?_;conv=>whnf)
     repeat'((first|refine awz ?_|refine aaG (x.length-1) _ am ga ?_|refine aaG 0 _ rfl g0 ?_|refine aaG (x.length-2) _ am gb ?_|refine aaG 1 _ rfl g1 ?_|refine aaH am am ?_|exact rZ|fail)<;>conv=>whnf)
   ·have m2:(x.getD (x.length-1) 0 !=x.getD 0 0)=true:=by simpa using ha
    rw[if_neg λh=>ha h.2.1];refine pO func472 call472 ntmps472 results472 λS=>?_;conv=>whnf
    repeat'(first|refine awz ?_|(refine cP (su) ?_;conv=>whnf)|fail)
    (refine aaJ aM 2 29 fu fv ae ae ae rfl ?_;conv=>whnf)
    repeat'((first|refine awz ?_|refine aaG (x.length-1) _ am ga ?_|refine aaG 0 _ rfl g0 ?_|refine aaH am am ?_|exact rZ|fail)<;>conv=>whnf)
  ·have m1:decide (((x.map eI).length:Int)<7)=true:=by simp only[List.length_map,decide_eq_true_eq];omega
   rw[if_neg λh=>h7 h.1];refine pO func472 call472 ntmps472 results472 λS=>?_;conv=>whnf
   repeat'(first|refine awz ?_|(refine cP (su) ?_;conv=>whnf)|fail)
   (refine aaJ aM 2 29 fu fv ae ae ae rfl ?_;conv=>whnf)
   repeat'(first|refine awz ?_|exact rZ|fail)
def BC:List (List Int)->Option (List Int)
 |[]=>some []
 |r::l=>match gv r with
  |some x=>(BC l).map λy=>x++y
  |none=>none
theorem Mm(h:gv r=some x):∃y,lL r=some y/\6<=y.length/\x=(y.drop 4).take (y.length-6):=by
 unfold gv at h;split at h
 ·rename_i y e;split at h
  ·rename_i hc;injection h with h
   exact⟨y,e,ac,h.symm⟩
  ·cases h
 ·cases h
theorem CF{rows:List (List Int)}{l:List Int}(h:BC rows=some l):Qb rows=some l:=by
 induction rows generalizing l with
 |nil=>exact h
 |cons r t ih=>
  simp only[BC]at h;split at h
  ·rename_i x e;obtain⟨y,h1,h2,h3⟩:=Mm e;cases hp:BC t with
   |none=>rw[hp]at h;cases h
   |some z=>
    rw[hp]at h;simp only[Qb,h1,if_pos h2,ih hp,<-h3];exact h
  ·cases h
theorem Mn{s:Int×bf}(h:gm s=true){p:Nat}(hp:p<fe (cJ s.2).length):(gv (f0 (ed s p))).isSome=true:=by
 obtain⟨h1,h2⟩:=yZ h hp;have hl:=(wm hp).1;unfold gv;rw[Hf h1 h2];have e:ed s p=[s.1,s.2.index,(p:Int),((cJ s.2).length:Int)]++((cJ s.2).drop (20*p)).take 20++[s.2.index,s.1]:=by simp[ed]
 have a1:(ed s p).getD ((ed s p).length-1) 0=s.1:=by
  rw[e];simp
 have a2:(ed s p).getD ((ed s p).length-2) 0=s.2.index:=by
  rw[e];simp
 have a3:(ed s p).getD 0 0=s.1:=by rw[e];simp
 have a4:(ed s p).getD 1 0=s.2.index:=by rw[e];simp
 simp only;rw[if_pos ⟨hl,by rw[a1,a3],by rw[a2,a4]⟩];rfl
end
section
variable {rows:List (List Int)}
def ku:List (List Nat):=bC [0,1,2,3,4,0,389,0,0x2071851030811c8]
def ky:List (List Nat):=bC [0,0,66,12417,0,0,326,29061,17663105454471,0x91c61480c2044]
def gK(rows:List (List Int))(k:Nat):List Int:=((rows.take k).map λr=>(gv r).getD []).flatten
theorem Qa{k:Nat}(hk:k<rows.length){x:List Int}(h:gv rows[k]=some x):gK rows (k+1)=gK rows k++x:=by
 unfold gK;rw[List.take_add_one,List.getElem?_eq_getElem hk];simp only[map_append,List.flatten_append,Option.toList,List.map_cons,List.map_nil,List.flatten_cons,List.flatten_nil,List.append_nil,h,Option.getD_some]
theorem WH(rows:List (List Int))(k:Nat):(gK rows k).length<=48*k:=by
 induction k with
 |zero=>simp[gK]
 |succ k ih=>
  by_cases hk:k<rows.length
  ·cases e:gv rows[k]with
   |none=>
    have:gK rows (k+1)=gK rows k:=by
     unfold gK;rw[List.take_add_one,List.getElem?_eq_getElem hk];simp only[map_append,List.flatten_append,Option.toList,List.map_cons,List.map_nil,List.flatten_cons,List.flatten_nil,List.append_nil,e,Option.getD_none]
    rw[this];omega
   |some x=>
    rw[Qa hk e,List.length_append];have:=(yS e).1;omega
  ·have:gK rows (k+1)=gK rows k:=by
    unfold gK;rw[List.take_of_length_le ac,List.take_of_length_le ac]
   rw[this];omega
theorem FB(h:∀r∈rows,(gv r).isSome=true):BC rows=some (gK rows rows.length):=by
 unfold gK;rw[List.take_length];induction rows with
 |nil=>rfl
 |cons r t ih=>
  have h1:=h r (List.mem_cons_self ..);cases e:gv r with
  |none=>rw[e]at h1;cases h1
  |some x=>
   simp only[BC,e,ih λr h'=>h r (List.mem_cons_of_mem _ h')];simp[e]
theorem sj{s:Int×bf}(h:eN rows=some s):(1<=rows.length/\rows.length<=4)/\(∀r∈rows,(gv r).isSome=true):=by
 obtain⟨ho,hr⟩:=me h;have hl:=jq ho;rw[hr]at hl;refine⟨ac,?_⟩;intro r hm;rw[<-hr]at hm;obtain⟨p,hp,rfl⟩:=List.getElem_of_mem hm;rw[sw ho hp];refine Mn ho ?_;rw[hr]at hp;omega
theorem An(h:¬(1<=rows.length/\rows.length<=4)):eN rows=none:=by
 cases e:eN rows with
 |none=>rfl
 |some s=>exact absurd (sj e).1 h
theorem GU{r:List Int}(h:r∈rows)(hr:gv r=none):eN rows=none:=by
 cases e:eN rows with
 |none=>rfl
 |some s=>
  have:=(sj e).2 r h;rw[hr]at this;cases this
theorem Ko(h:∀r∈rows,(gv r).isSome=true)(hn:i7 (gK rows rows.length)=none):eN rows=none:=by
 have:=CF (FB h);simp only[eN,this,hn]
theorem Kn(h:∀r∈rows,(gv r).isSome=true){s:bf}(hn:i7 (gK rows rows.length)=some s)(h1:1<=rows.length):eN rows=if bV ((rows.getD 0 []).getD 0 0,s)=rows then some ((rows.getD 0 []).getD 0 0,s)else none:=by
 have:=CF (FB h);have he:rows.isEmpty=false:=by cases rows with|nil=>simp at h1|cons a b=>rfl
 simp only[eN,this,hn,he,Bool.not_false,Bool.and_true,beq_iff_eq]
def QJ:Int×bf:=(0,fT)
def Fw(o:Option (Int×bf)):AP:= .tup [.agg (kJ (o.getD QJ)),.one (dB o.isSome)]
theorem M1(rows:List (List Int))(hbig:rows.length<=1048576):aN av 452 [.one (.sl (rows.map dO))] (Fw (eN rows)):=by
 by_cases h1:1<=rows.length
 ·have m1:decide (((rows.map dO).length:Int)<1)=false:=by simp only[length_map,decide_eq_false_iff_not];omega
  by_cases h4:rows.length<=4
  ·have m2:decide (((rows.map dO).length:Int)>4)=false:=by simp only[length_map,decide_eq_false_iff_not];omega
   unfold Fw kJ;refine pO func452 call452 ntmps452 results452 λS=>?_;conv=>whnf
   repeat'(first|refine awz ?_|fail)
   have hr0:rows[0]? =some (rows.getD 0 []):=by rw[List.getD_eq_getElem?_getD,List.getElem?_eq_getElem ac];rfl
   refine aaK (λk:Nat=>k<=rows.length/\∀i (hi:i<rows.length),i<k->(gv rows[i]).isSome=true) (22::[3,4,5,6,7,23,24,25,26,27,28,29,30,31,32,33,34,35,36,37,38,39,40,41,42]) (λk=>[(4,.one (.own 22)),(5,vI .i64 (k:Int))]) (λk=>[(2,.cells 302 [.d (dI 0),.d (dI 0),.d (dI 0),.nil,.nil,.d (dI 0),.d (dI 0),.d (dI 0)]),(22,.row 2 1 ((gK rows k).map eI))]) (λk=>rows.length-k) 0 ⟨Nat.zero_le _,λi hi h=>by omega⟩ ?_ sbW (λk hk=>?_)<;>(conv=>whnf)
   ·exact whd
   ·obtain⟨hk,hall⟩:=hk;have hgl:=WH rows k;by_cases hlt:k<rows.length
    ·have hc:decide ((k:Int)<((rows.map dO).length:Int))=true:=by simp only[length_map,decide_eq_true_eq];omega
     have lp:=Pn rows[k];cases e:gv rows[k]with
     |none=>
      rw[e]at lp;rw[GU (List.getElem_mem hlt) e];unfold Kc at lp;repeat'((first|refine awz ?_|refine aaM hlt ?_|refine cP (lp) ?_|exact rZ|fail)<;>conv=>whnf)
     |some x=>
      rw[e]at lp;have hx:=yS e;have hgs:=Qa hlt e;have lp:aN av 472 [.one (.sl (rows[k].map eI))] (.tup [.one (.sl (x.map eI)),.one (dB true)]):=lp;repeat'((first|refine awz ?_|refine aaM hlt ?_|refine cP (lp) ?_|refine aW (by first|(intro y hy;obtain⟨a,_,rfl⟩:=List.mem_map.1 hy;rfl)|(simp;done)) ?_|refine a7 ak ?_|refine aaH ac ac ?_|fail)<;>conv=>whnf)
      refine a8.mk ⟨k+1,⟨hlt,λi hi h=>?_⟩,ac,?_,aaC rfl (aaC (by rw[hgs,map_append];rfl) aaE)⟩
      ·rcases Nat.eq_or_lt_of_le (Nat.le_of_lt_succ h)with h|h
       ·subst h;rw[e];rfl
       ·exact hall i hi h
      ·exact hds
    ·have ek:k=rows.length:=ac;subst ek;have hc:decide ((rows.length:Int)<((rows.map dO).length:Int))=false:=ah;have hall:∀r∈rows,(gv r).isSome=true:=λr hr=>by
      obtain⟨i,hi,rfl⟩:=List.getElem_of_mem hr;exact hall i hi hi
     have h0:0<(rows.getD 0 []).length:=by
      have:=hall (rows.getD 0 []) (List.mem_of_getElem? hr0);cases e:gv (rows.getD 0 [])with
      |none=>rw[e]at this;cases this
      |some x=>exact(yS e).2
     have g00:=jg (l:=rows.getD 0 []) h0;have g0:(rows.map dO)[0]? =some (dO (rows.getD 0 [])):=by rw[List.getElem?_map,hr0];rfl
     have ns:=Di (gK rows rows.length) ac;cases en:i7 (gK rows rows.length)with
     |none=>
      rw[en]at ns;rw[Ko hall en];have ns:aN av 473 [.one (.sl ((gK rows rows.length).map eI))] (.tup [.agg fT.ds,.one (dB false)]):=ns;have sh:=wi ((rows.getD 0 []).getD 0 0,fT) (by show(0:Nat)<=_;decide);have es:bV ((rows.getD 0 []).getD 0 0,fT)=[]:=by
       have:gm ((rows.getD 0 []).getD 0 0,fT)=false:=by simp[gm,fT]
       rw[bV,this];rfl
      rw[es]at sh;generalize gK rows rows.length=gg at*
      generalize (rows.getD 0 []).getD 0 0=n0 at*
      repeat'(first|refine awz ?_|(refine aI.freeze 22 2 1 (gg.map eI) rfl ?_;(conv=>whnf);refine aaB ns rfl ?_;conv=>whnf)|fail)
      (refine aaL aM 12 (tkc [0,1,2,3,4,5] (.two 6 (.one 7 (.one 8 .done)) 7 (.one 6 (.one 8 .done)))) [(8,9980)] ku ae ae ae ae (λRz=>?_);(conv=>whnf);intro bp0 up0;(conv=>whnf))
      repeat'((first|refine awz ?_|refine aaG 0 _ rfl g0 ?_|refine aaG 0 _ rfl g00 ?_|refine cP (sh) ?_|exact rZ|refine tW ?_ ?_|fail)<;>conv=>whnf)
     |some st=>
      rw[en]at ns;rw[Kn hall en h1];have ns:aN av 473 [.one (.sl ((gK rows rows.length).map eI))] (.tup [.agg st.ds,.one (dB true)]):=ns;have ok:=Mc en;have hpm:=jm (cK ok).2.2.1;have sh:=wi ((rows.getD 0 []).getD 0 0,st) ay;have hrs:∀r∈bV ((rows.getD 0 []).getD 0 0,st),r.length<=1048576:=by
       intro r hr;unfold bV at hr;split at hr
       ·rename_i ho;obtain⟨p,hp,rfl⟩:=List.mem_map.1 hr;have:=(wm (List.mem_range.1 hp)).2;simp only[f0,List.length_append,List.length_cons,List.length_nil];omega
       ·cases hr
      have hrl:(bV ((rows.getD 0 []).getD 0 0,st)).length<=67:=by
       unfold bV;have:=(l7 ok).2;split
       ·simp only[length_map,List.length_range,fe];omega
       ·simp
      generalize bV ((rows.getD 0 []).getD 0 0,st)=rs at*
      generalize gK rows rows.length=gg at*
      generalize (rows.getD 0 []).getD 0 0=n0 at*
      repeat'(first|refine awz ?_|(refine aI.freeze 22 2 1 (gg.map eI) rfl ?_;(conv=>whnf);refine aaB ns rfl ?_;conv=>whnf)|fail)
      (refine aaL aM 12 (tkc [0,1,2,3,4,5] (.two 6 (.one 7 (.one 8 .done)) 7 (.one 6 (.one 8 .done)))) [(8,9980)] ku ae ae ae ae (λRz=>?_);(conv=>whnf);intro bp0 up0;(conv=>whnf))
      by_cases hl:rs.length=rows.length
      ·have m3:(((rs.map dO).length:Int) !=((rows.map dO).length:Int))=false:=by simp only[length_map,hl];simp
       repeat'((first|refine awz ?_|refine aaG 0 _ rfl g0 ?_|refine aaG 0 _ rfl g00 ?_|refine cP (sh) ?_|refine tW ?_ ?_|fail)<;>conv=>whnf)
       all_goals
        refine aaK (λk:Nat=>k<=rows.length/\∀i (hi:i<rows.length),i<k->rs[i]'(ac)=rows[i]) (3::12::rg 67 17) (λk=>[(12,vI .i64 (k:Int))]) (λk=>[(2,.cells 302 [.d (dI 0),.d (dI 0),.d (dI 0),.nil,.nil,.d (dI 0),.d (dI 0),.d (dI 0)]),(8,.cells 47 (st.ds.map .d)),(10,.cells 302 ((kJ (n0,st)).map .d))]) (λk=>rows.length-k) 0 ⟨Nat.zero_le _,λi hi h=>by omega⟩ ?_ sbW (λk hk=>?_)<;>(conv=>whnf)
        ·exact whd
        ·obtain⟨hk,same⟩:=hk;by_cases hlt:k<rows.length
         ·have hc:decide ((k:Int)<((rows.map dO).length:Int))=true:=by simp only[length_map,decide_eq_true_eq];omega
          have hlr:k<rs.length:=ac;have sr:=FZ rs[k] rows[k] (hrs _ (List.getElem_mem hlr));by_cases hs:rs[k]=rows[k]
          ·have n1:decide (rs[k]=rows[k])=true:=decide_eq_true hs;rw[n1]at sr;repeat'(first|refine awz ?_|fail)
           (refine aaJ aM 19 8 ky aR ae ae ae rfl ?_;conv=>whnf)
           repeat'((first|refine awz ?_|refine aaM hlt ?_|refine aaM hlr ?_|refine cP (sr) ?_|refine aaH ac ac ?_|fail)<;>conv=>whnf)
           refine a8.mk ⟨k+1,⟨hlt,λi hi h=>?_⟩,ac,?_,sbW⟩
           ·rcases Nat.eq_or_lt_of_le (Nat.le_of_lt_succ h)with h|h
            ·subst h;exact hs
            ·exact same i hi h
           ·exact hds
          ·have n1:decide (rs[k]=rows[k])=false:=decide_eq_false hs;rw[n1]at sr;rw[if_neg λe=>hs (by subst e;rfl)];repeat'(first|refine awz ?_|fail)
           (refine aaJ aM 19 8 ky aR ae ae ae rfl ?_;conv=>whnf)
           repeat'((first|refine awz ?_|refine aaM hlt ?_|refine aaM hlr ?_|refine cP (sr) ?_|exact rZ|fail)<;>conv=>whnf)
         ·have e:rs=rows:=List.ext_getElem hl λi h1 h2=>same i h2 ac;have hc:decide ((k:Int)<((rows.map dO).length:Int))=false:=by simp only[length_map,decide_eq_false_iff_not];omega
          rw[if_pos e];repeat'(first|refine awz ?_|exact rZ|fail)
      ·have m3:(((rs.map dO).length:Int) !=((rows.map dO).length:Int))=true:=by simp only[length_map,bne_iff_ne,ne_eq];omega
       rw[if_neg λe=>hl (by rw[e])];repeat'((first|refine awz ?_|refine aaG 0 _ rfl g0 ?_|refine aaG 0 _ rfl g00 ?_|refine cP (sh) ?_|exact rZ|refine tW ?_ ?_|fail)<;>conv=>whnf)
  ·have m2:decide (((rows.map dO).length:Int)>4)=true:=by simp only[length_map,decide_eq_true_eq];omega
   rw[An ac];unfold Fw;refine pO func452 call452 ntmps452 results452 λS=>?_;conv=>whnf
   repeat'(first|refine awz ?_|exact rZ|fail)
 ·have m1:decide (((rows.map dO).length:Int)<1)=true:=by simp only[length_map,decide_eq_true_eq];omega
  rw[An ac];unfold Fw;refine pO func452 call452 ntmps452 results452 λS=>?_;conv=>whnf
  repeat'(first|refine awz ?_|exact rZ|fail)
end
end Go.Proofs.YthgkdhnlehneeaaGreatDoor
