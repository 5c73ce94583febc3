/- RB2 -/
import Derived.Test.YtknefkdcokgpbaaGreatRB1
import Derived.Test.YtknefkdcokgpbaaGreatRA2
import Derived.Test.YtknefkdcokgpbaaGreatAvFX
set_option maxHeartbeats 8000000
set_option linter.unusedVariables false
set_option linter.unusedSimpArgs false
set_option maxRecDepth 100000
open List (length_map mem_map)
namespace Go.Proofs.YtknefkdcokgpbaaGreat
section
open Go.Proofs.Tryz
open Go.ChangeShapes Go.WideShapes Go.RowKit
variable {m:List Int}{k:Nat}
def pN:List (List Nat):=bZ [0,0,0,194,4,0,0,7,518,9,645,11,769,0xd30b28920718510308134d]
def oN:List (List Nat):=bZ [0,0,0,194,4,0,0,7,518,9,0,0,12,843,14,0,0,17,1168,19,0,0,22,1493,24,424735365,26,1729,0x71b69961759551349140f38d30b28920718510308171c]
theorem mX{i:Nat}(h:i<m.length)(x:Int):((x::m).map eI)[i+1]? =some (eI (m.getD i 0)):=by
 rw[List.getElem?_map,List.getElem?_cons_succ,List.getElem?_eq_getElem h,List.getD_eq_getElem?_getD,List.getElem?_eq_getElem h];rfl
def CC(o:Option (List DPair)):AP:= .tup [.one (.sl ((o.getD []).map DPair.ds)),.one (dB o.isSome)]
def z4(m:List Int):Option (List DPair):=if cM (di m)then some (di m)else none
theorem zF(hk:k<(di m).length):((di m).take (k+1)).map DPair.ds=((di m).take k).map DPair.ds++[DPair.ds ((di m)[k])]:=by
 rw[List.take_add_one,List.getElem?_eq_getElem hk,List.map_append];rfl
theorem J5(m:List Int)(n:Nat)(hn:n<=10)(hl:m.length=2*n):aM av 482 [.one (.sl (((n:Int)::m).map eI))] (CC (z4 m)):=by
 have hpl:(di m).length=n:=by rw[qi,hl];omega
 have hln:((((n:Int)::m).map eI).length:Int)=1+2*(n:Int):=by simp[hl];omega
 have m1:(((((n:Int)::m).map eI).length:Int).tmod 2 !=1)=false:=by rw[hln,Int.tmod_eq_emod_of_nonneg ac];simp only[bne_eq_false_iff_eq];omega
 have m2:decide (((((n:Int)::m).map eI).length:Int)>1+2*10)=false:=by rw[hln];simp only[decide_eq_false_iff_not];omega
 have main:∀o:Option (List DPair),(cM (di m)=true->o=some (di m))->(cM (di m)=false->o=none)->aM av 482 [.one (.sl (((n:Int)::m).map eI))] (CC o):=by
  intro o h1 h2;refine pO func482 call482 ntmps482 results482 λS=>?_;conv=>whnf
  repeat'(first|refine awz ?_|(refine And.intro ah ?_;conv=>whnf)|fail)
  refine X5 (λk:Nat=>k<=n) (16::[4,5,17,18,19,20,21,22,23,24,25,26,27,28,29,30,31,32,33,34,35]) (λk=>[(4,.one (.own 16)),(5,vI .i64 (1+2*(k:Int)))]) (λk=>[(16,.row 339 2 (((di m).take k).map DPair.ds))]) (λk=>n-k) 0 (Nat.zero_le _) ?_ sbW (λk hk=>?_)<;>(conv=>whnf)
  ·exact whd
  ·by_cases hlt:k<n
   ·have hc:decide (1+2*(k:Int)<((((n:Int)::m).map eI).length:Int))=true:=by rw[hln];simp only[decide_eq_true_eq];omega
    have hs:=zF (m:=m) (k:=k) ac;have hel:(di m)[k]'(ac)=(⟨m.getD (2*k) 0,m.getD (2*k+1) 0⟩:DPair):=by simp[di]
    rw[hel]at hs;repeat'(first|refine awz ?_|fail)
    (refine X7 aN 7 (tkc [0,1,2,3,4,5,6] (.one 7 (.take 8 (onc [9,10,11,12] (.take 13 .done))))) [] pN ae ae ae ae (λRz=>?_);(conv=>whnf))
    repeat'((first|refine awz ?_|refine X8 (2*k+1) _ ac (mX (i:=2*k) ac _) ?_|refine X8 (2*k+2) _ ac (mX (i:=2*k+1) ac _) ?_|refine aJ aA ?_|refine X3 ac ac ?_|fail)<;>conv=>whnf)
    all_goals
     refine bd.mk ⟨k+1,hlt,ac,?_,X0 (by rw[hs];rfl) X4⟩;rw[show(1+2*((k+1:Nat):Int))=1+2*(k:Int)+2 by omega];exact hds
   ·have e:k=n:=ac;subst e;have hc:decide (1+2*(k:Int)<((((k:Int)::m).map eI).length:Int))=false:=by rw[hln];simp only[decide_eq_false_iff_not];omega
    have n3:((k:Int) !=(((di m).map DPair.ds).length:Int))=false:=by simp[hpl]
    rw[List.take_of_length_le ac];cases hp:cM (di m)with
    |false=>
     have n4:(!cM (di m))=true:=by rw[hp];rfl
     obtain rfl:=h2 hp;unfold CC;repeat'((first|refine awz ?_|refine X8 0 _ rfl rfl ?_|refine aG.scalar (gy (di m)) rfl rfl ?_|exact rZ|fail)<;>conv=>whnf)
    |true=>
     have n4:(!cM (di m))=false:=by rw[hp];rfl
     obtain rfl:=h1 hp;unfold CC;repeat'((first|refine awz ?_|refine X8 0 _ rfl rfl ?_|refine aG.scalar (gy (di m)) rfl rfl ?_|exact rZ|fail)<;>conv=>whnf)
 exact main _ (λh=>by simp[z4,h]) (λh=>by simp[z4,h])
def JM(o:Option (List DJob)):AP:= .tup [.one (.sl ((o.getD []).map DJob.ds)),.one (dB o.isSome)]
def Hu(m:List Int):Option (List DJob):=if cW (d4 m)then some (d4 m)else none
theorem Dr(hk:k<(d4 m).length):((d4 m).take (k+1)).map DJob.ds=((d4 m).take k).map DJob.ds++[DJob.ds ((d4 m)[k])]:=by
 rw[List.take_add_one,List.getElem?_eq_getElem hk,List.map_append];rfl
theorem HE(m:List Int)(n:Nat)(hn:n<=8)(hl:m.length=5*n):aM av 483 [.one (.sl (((n:Int)::m).map eI))] (JM (Hu m)):=by
 have hpl:(d4 m).length=n:=by rw[Fe,hl];omega
 have hln:((((n:Int)::m).map eI).length:Int)=1+5*(n:Int):=by simp[hl];omega
 have m1:(((((n:Int)::m).map eI).length:Int).tmod 5 !=1)=false:=by rw[hln,Int.tmod_eq_emod_of_nonneg ac];simp only[bne_eq_false_iff_eq];omega
 have m2:decide (((((n:Int)::m).map eI).length:Int)>1+5*8)=false:=by rw[hln];simp only[decide_eq_false_iff_not];omega
 have main:∀o:Option (List DJob),(cW (d4 m)=true->o=some (d4 m))->(cW (d4 m)=false->o=none)->aM av 483 [.one (.sl (((n:Int)::m).map eI))] (JM o):=by
  intro o h1 h2;refine pO func483 call483 ntmps483 results483 λS=>?_;conv=>whnf
  repeat'(first|refine awz ?_|(refine And.intro ah ?_;conv=>whnf)|fail)
  refine X5 (λk:Nat=>k<=n) (16::[4,5,17,18,19,20,21,22,23,24,25,26,27,28,29,30,31,32,33,34,35,36,37,38,39,40,41,42,43,44,45,46,47,48,49,50]) (λk=>[(4,.one (.own 16)),(5,vI .i64 (1+5*(k:Int)))]) (λk=>[(16,.row 343 5 (((d4 m).take k).map DJob.ds))]) (λk=>n-k) 0 (Nat.zero_le _) ?_ sbW (λk hk=>?_)<;>(conv=>whnf)
  ·exact whd
  ·by_cases hlt:k<n
   ·have hc:decide (1+5*(k:Int)<((((n:Int)::m).map eI).length:Int))=true:=by rw[hln];simp only[decide_eq_true_eq];omega
    have hs:=Dr (m:=m) (k:=k) ac;have hel:(d4 m)[k]'(ac)=(⟨m.getD (5*k) 0,m.getD (5*k+1) 0,m.getD (5*k+2) 0,m.getD (5*k+3) 0,m.getD (5*k+4) 0⟩:DJob):=by simp[d4]
    rw[hel]at hs;repeat'(first|refine awz ?_|fail)
    (refine X7 aN 7 (tkc [0,1,2,3,4,5,6,7,8,9,10,11,12,13,14,15,16,17,18,19,20,21,22,23,24] (onc [25,26,27] (.take 28 .done))) [] oN ae ae ae ae (λRz=>?_);(conv=>whnf))
    repeat'((first|refine awz ?_|refine X8 (5*k+1) _ ac (mX (i:=5*k) ac _) ?_|refine X8 (5*k+2) _ ac (mX (i:=5*k+1) ac _) ?_|refine X8 (5*k+3) _ ac (mX (i:=5*k+2) ac _) ?_|refine X8 (5*k+4) _ ac (mX (i:=5*k+3) ac _) ?_|refine X8 (5*k+5) _ ac (mX (i:=5*k+4) ac _) ?_|refine aJ aA ?_|refine X3 ac ac ?_|fail)<;>conv=>whnf)
    all_goals
     refine bd.mk ⟨k+1,hlt,ac,?_,X0 (by rw[hs];rfl) X4⟩;rw[show(1+5*((k+1:Nat):Int))=1+5*(k:Int)+5 by omega];exact hds
   ·have e:k=n:=ac;subst e;have hc:decide (1+5*(k:Int)<((((k:Int)::m).map eI).length:Int))=false:=by rw[hln];simp only[decide_eq_false_iff_not];omega
    have n3:((k:Int) !=(((d4 m).map DJob.ds).length:Int))=false:=by simp[hpl]
    rw[List.take_of_length_le ac];cases hp:cW (d4 m)with
    |false=>
     have n4:(!cW (d4 m))=true:=by rw[hp];rfl
     obtain rfl:=h2 hp;unfold JM;repeat'((first|refine awz ?_|refine X8 0 _ rfl rfl ?_|refine aG.scalar (iA (d4 m)) rfl rfl ?_|exact rZ|fail)<;>conv=>whnf)
    |true=>
     have n4:(!cW (d4 m))=false:=by rw[hp];rfl
     obtain rfl:=h1 hp;unfold JM;repeat'((first|refine awz ?_|refine X8 0 _ rfl rfl ?_|refine aG.scalar (iA (d4 m)) rfl rfl ?_|exact rZ|fail)<;>conv=>whnf)
 exact main _ (λh=>by simp[Hu,h]) (λh=>by simp[Hu,h])
end
section
open Go.Proofs.Tryz
open Go.ChangeShapes Go.WideShapes Go.RowKit
variable {a b x:Int}{l:List Int}{i:Nat}
def kk:List (List Nat):=bZ [0,1,129,0,4,324,0,7,519,848966926504392,0,0xb2881c9144182043]
def kp:List (List Nat):=fB 11 [137754,137755,137758,137078,137105,137186,118826,119555,121742,127939,59048]
def iF:List (List Nat):=bZ [0,1,2,0,4,5,0,0,0,153121155,0,0xb28920718510308128b]
theorem i7(h:i<l.length):(l.map eI)[i]? =some (eI (l.getD i 0)):=by
 rw[List.getElem?_map,List.getElem?_eq_getElem h,List.getD_eq_getElem?_getD,List.getElem?_eq_getElem h];rfl
theorem i5(h:i<l.length):l.drop i=l.getD i 0::l.drop (i+1):=by
 rw[List.drop_eq_getElem_cons h,List.getD_eq_getElem?_getD,List.getElem?_eq_getElem h];rfl
theorem Ut{n:Nat}(h:i<l.length):((l.map eI).take (i+1+n)).drop i=(l.getD i 0::(l.drop (i+1)).take n).map eI:=by
 rw[<-List.map_take,<-List.map_drop,List.drop_take,i5 h,show i+1+n-i=n+1 by omega,List.take_succ_cons]
theorem Wp(h:3<=l.length):((l.map eI).take l.length).drop (l.length-3)=[l.getD (l.length-3) 0,l.getD (l.length-2) 0,l.getD (l.length-1) 0].map eI:=by
 rw[<-List.map_take,<-List.map_drop,List.take_length,i5 ac,show l.length-3+1=l.length-2 by omega,i5 ac,show l.length-2+1=l.length-1 by omega,i5 ac,List.drop_of_length_le ac]
def Hw(o:Option DLease):AP:= .tup [.agg (o.getD ⟨0,0,0⟩).ds,.one (dB o.isSome)]
theorem J4(a b c:Int):aM av 484 [.one (.sl ([a,b,c].map eI))] (Hw (if ii ⟨a,b,c⟩then some ⟨a,b,c⟩else none)):=by
 cases h:ii ⟨a,b,c⟩with
 |false=>
  have n1:(!ii ⟨a,b,c⟩)=true:=by rw[h];rfl
  unfold Hw;refine pO func484 call484 ntmps484 results484 λS=>?_;conv=>whnf
  repeat'(first|refine awz ?_|fail)
  (refine X9 aN 3 11 kk kp ae ae ae rfl ?_;conv=>whnf)
  repeat'((first|refine awz ?_|refine X8 0 _ rfl rfl ?_|refine X8 1 _ rfl rfl ?_|refine X8 2 _ rfl rfl ?_|refine cP (iT ⟨a,b,c⟩) ?_|exact rZ|fail)<;>conv=>whnf)
 |true=>
  have n1:(!ii ⟨a,b,c⟩)=false:=by rw[h];rfl
  unfold Hw;refine pO func484 call484 ntmps484 results484 λS=>?_;conv=>whnf
  repeat'(first|refine awz ?_|fail)
  (refine X9 aN 3 11 kk kp ae ae ae rfl ?_;conv=>whnf)
  repeat'((first|refine awz ?_|refine X8 0 _ rfl rfl ?_|refine X8 1 _ rfl rfl ?_|refine X8 2 _ rfl rfl ?_|refine cP (iT ⟨a,b,c⟩) ?_|exact rZ|fail)<;>conv=>whnf)
def oE(o:Option DState):AP:= .tup [.agg (o.getD gV).ds,.one (dB o.isSome)]
theorem eM(h:¬(7<=l.length/\(0<=l.getD 2 0/\l.getD 2 0<=10)/\3+2*l.getD 2 0<l.length/\(0<=l.getD (3+2*l.getD 2 0).toNat 0/\l.getD (3+2*l.getD 2 0).toNat 0<=8)/\3+2*l.getD 2 0+1+5*l.getD (3+2*l.getD 2 0).toNat 0+3=l.length)):qt l=false:=by
 cases hf:qt l with
 |false=>rfl
 |true=>
  simp only[qt,aK,Bool.and_eq_true,decide_eq_true_eq]at hf;exact absurd ⟨hf.1.1.1.1,hf.1.1.1.2,hf.1.1.2,hf.1.2,hf.2⟩ h
theorem Cx(h:7<=l.length/\(0<=l.getD 2 0/\l.getD 2 0<=10)/\3+2*l.getD 2 0<l.length/\(0<=l.getD (3+2*l.getD 2 0).toNat 0/\l.getD (3+2*l.getD 2 0).toNat 0<=8)/\3+2*l.getD 2 0+1+5*l.getD (3+2*l.getD 2 0).toNat 0+3=l.length):qt l=true:=by
 simp only[qt,aK,Bool.and_eq_true,decide_eq_true_eq];exact⟨⟨⟨⟨h.1,h.2.1⟩,h.2.2.1⟩,h.2.2.2.1⟩,h.2.2.2.2⟩
theorem MJ(h:a<=x/\x<=b):(!aK x a b)=false:=by simp only[aK,Bool.not_eq_false',Bool.and_eq_true,decide_eq_true_eq];exact h
theorem PH(h:¬(a<=x/\x<=b)):(!aK x a b)=true:=by
 cases hb:aK x a b with
 |false=>rfl
 |true=>simp only[aK,Bool.and_eq_true,decide_eq_true_eq]at hb;exact absurd hb h
theorem dz(h:qt l=false):fG l=none:=by simp[fG,h]
theorem zP(l:List Int)(hl:l.length<=1048576):aM av 460 [.one (.sl (l.map eI))] (oE (fG l)):=by
 by_cases c1:7<=l.length
 ·have m1:decide (((l.map eI).length:Int)<7)=false:=by simp only[length_map,decide_eq_false_iff_not];omega
  by_cases c2:l.length<=67
  ·have m2:decide (((l.map eI).length:Int)>67)=false:=by simp only[length_map,decide_eq_false_iff_not];omega
   have g2:=i7 (l:=l) (i:=2) ac;by_cases c3:0<=l.getD 2 0/\l.getD 2 0<=10
   ·have m3:(!aK (l.getD 2 0) 0 10)=false:=MJ c3;obtain⟨k,ek⟩:∃k:Nat,l.getD 2 0=(k:Int):=⟨(l.getD 2 0).toNat,ac⟩;have hk:k<=10:=ac;have ea:(3+2*l.getD 2 0).toNat=3+2*k:=ac;by_cases c4:3+2*k<l.length
    ·have m4:decide ((3+2*l.getD 2 0)>=((l.map eI).length:Int))=false:=by simp only[length_map,ge_iff_le,decide_eq_false_iff_not];omega
     have gA:=i7 (l:=l) (i:=3+2*k) c4;by_cases c5:0<=l.getD (3+2*k) 0/\l.getD (3+2*k) 0<=8
     ·have m5:(!aK (l.getD (3+2*k) 0) 0 8)=false:=MJ c5;obtain⟨j,ej⟩:∃j:Nat,l.getD (3+2*k) 0=(j:Int):=⟨(l.getD (3+2*k) 0).toNat,ac⟩;have hj:j<=8:=ac;by_cases c6:3+2*k+1+5*j+3=l.length
      ·have m6:((3+2*l.getD 2 0+1+5*l.getD (3+2*k) 0+3) !=((l.map eI).length:Int))=false:=by simp only[length_map,bne_eq_false_iff_eq];omega
       have hfit:qt l=true:=Cx (by rw[ea];omega);have r1:=J5 ((l.drop 3).take (2*k)) k hk al;have r2:=HE ((l.drop (3+2*k+1)).take (5*j)) j hj al;have r3:=J4 (l.getD (l.length-3) 0) (l.getD (l.length-2) 0) (l.getD (l.length-1) 0);have hc1:((l.map eI).take (3+2*k)).drop 2=((k:Int)::(l.drop 3).take (2*k)).map eI:=by
        have:=Ut (l:=l) (i:=2) (n:=2*k) ac;rw[ek]at this;exact this
       have hc2:((l.map eI).take (l.length-3)).drop (3+2*k)=((j:Int)::(l.drop (3+2*k+1)).take (5*j)).map eI:=by
        have:=Ut (l:=l) (i:=3+2*k) (n:=5*j) c4;rw[ej,show 3+2*k+1+5*j=l.length-3 by omega]at this;exact this
       have hc3:=Wp (l:=l) ac;have g0:=i7 (l:=l) (i:=0) ac;have g1:=i7 (l:=l) (i:=1) ac;have er:oD l=⟨l.getD 0 0,l.getD 1 0,di ((l.drop 3).take (2*k)),d4 ((l.drop (3+2*k+1)).take (5*j)),⟨l.getD (l.length-3) 0,l.getD (l.length-2) 0,l.getD (l.length-1) 0⟩⟩:=by
        unfold oD;rw[ea,ej,show(2*l.getD 2 0).toNat=2*k by omega,show(5*(j:Int)).toNat=5*j by omega,List.tail_drop]
       have so:=eN (oD l) (by rw[er];simp only[qi,List.length_take];omega);have main:∀o:Option DState,(cn (oD l)=true->o=some (oD l))->(cn (oD l)=false->o=none)->aM av 460 [.one (.sl (l.map eI))] (oE o):=by
        intro o h1 h2;rw[er]at h1 h2 so;unfold z4 CC at r1;unfold Hu JM at r2;unfold Hw at r3;generalize di ((l.drop 3).take (2*k))=P at*
        generalize d4 ((l.drop (3+2*k+1)).take (5*j))=Q at*
        generalize (⟨l.getD (l.length-3) 0,l.getD (l.length-2) 0,l.getD (l.length-1) 0⟩:DLease)=L at*
        cases hst:cn ⟨l.getD 0 0,l.getD 1 0,P,Q,L⟩with
        |true=>
         obtain⟨_,_,f3,f4,f5⟩:=dm hst;simp only[f3,f4,f5,if_true]at r1 r2 r3;have n7:(!cn ⟨l.getD 0 0,l.getD 1 0,P,Q,L⟩)=false:=by rw[hst];rfl
         obtain rfl:=h1 hst;unfold oE;refine pO func460 call460 ntmps460 results460 λS=>?_;conv=>whnf
         repeat'((first|refine awz ?_|refine X8 2 (eI (l.getD 2 0)) rfl g2 ?_|refine cP (bg _ _ _) ?_|refine X8 (3+2*k) _ ac gA ?_|(refine⟨2,3+2*k,rfl,(by show _=_;omega),ac,al,(by intro y hy;obtain⟨a,_,rfl⟩:=mem_map.1 hy;rfl),?_⟩;rw[hc1])|(refine⟨3+2*k,l.length-3,(by show _=_;omega),(by show _=_;simp only[length_map];omega),ac,aj,(by intro y hy;obtain⟨a,_,rfl⟩:=mem_map.1 hy;rfl),?_⟩;rw[hc2])|(refine⟨l.length-3,l.length,(by show _=_;simp only[length_map];omega),(by show _=_;simp),ac,aj,(by intro y hy;obtain⟨a,_,rfl⟩:=mem_map.1 hy;rfl),?_⟩;rw[hc3])|refine cP (r1) ?_|refine cP (r2) ?_|refine cP (r3) ?_|refine X3 ac ac ?_|refine X3 an an ?_|fail)<;>conv=>whnf)
         (refine X7 aN 10 (tkc [0,1,2,3,4,5,6,7,8] (.two 9 (.one 10 (.one 11 .done)) 10 (.one 9 (.one 11 .done)))) [(10,9980)] iF ae ae ae ae (λRz=>?_);(conv=>whnf);intro bp0 up0;(conv=>whnf))
         repeat'((first|refine awz ?_|refine X8 0 _ rfl g0 ?_|refine X8 1 _ rfl g1 ?_|refine cP (so) ?_|exact rZ|refine tW ?_ ?_|fail)<;>conv=>whnf)
        |false=>
         have n7:(!cn ⟨l.getD 0 0,l.getD 1 0,P,Q,L⟩)=true:=by rw[hst];rfl
         obtain rfl:=h2 hst;unfold oE;cases f3:cM P<;>cases f4:cW Q<;>cases f5:ii L<;>simp only[f3,f4,f5,if_true,if_false,Bool.false_eq_true]at r1 r2 r3
         all_goals
          refine pO func460 call460 ntmps460 results460 λS=>?_;conv=>whnf
          repeat'((first|refine awz ?_|refine X8 2 (eI (l.getD 2 0)) rfl g2 ?_|refine cP (bg _ _ _) ?_|refine X8 (3+2*k) _ ac gA ?_|(refine⟨2,3+2*k,rfl,(by show _=_;omega),ac,al,(by intro y hy;obtain⟨a,_,rfl⟩:=mem_map.1 hy;rfl),?_⟩;rw[hc1])|(refine⟨3+2*k,l.length-3,(by show _=_;omega),(by show _=_;simp only[length_map];omega),ac,aj,(by intro y hy;obtain⟨a,_,rfl⟩:=mem_map.1 hy;rfl),?_⟩;rw[hc2])|(refine⟨l.length-3,l.length,(by show _=_;simp only[length_map];omega),(by show _=_;simp),ac,aj,(by intro y hy;obtain⟨a,_,rfl⟩:=mem_map.1 hy;rfl),?_⟩;rw[hc3])|refine cP (r1) ?_|refine cP (r2) ?_|refine cP (r3) ?_|refine X3 ac ac ?_|refine X3 an an ?_|fail)<;>conv=>whnf)
          (refine X7 aN 10 (tkc [0,1,2,3,4,5,6,7,8] (.two 9 (.one 10 (.one 11 .done)) 10 (.one 9 (.one 11 .done)))) [(10,9980)] iF ae ae ae ae (λRz=>?_);(conv=>whnf);intro bp0 up0;(conv=>whnf))
          repeat'((first|refine awz ?_|refine X8 0 _ rfl g0 ?_|refine X8 1 _ rfl g1 ?_|refine cP (so) ?_|exact rZ|refine tW ?_ ?_|fail)<;>conv=>whnf)
       exact main _ (λh=>by simp[fG,hfit,h]) (λh=>by simp[fG,h])
      ·have m6:((3+2*l.getD 2 0+1+5*l.getD (3+2*k) 0+3) !=((l.map eI).length:Int))=true:=by simp only[length_map,bne_iff_ne,ne_eq];omega
       rw[dz (eM (by rw[ea];omega))];unfold oE;refine pO func460 call460 ntmps460 results460 λS=>?_;conv=>whnf
       repeat'((first|refine awz ?_|refine X8 2 (eI (l.getD 2 0)) rfl g2 ?_|refine cP (bg _ _ _) ?_|refine X8 (3+2*k) _ ac gA ?_|refine X3 ac ac ?_|exact rZ|fail)<;>conv=>whnf)
     ·have m5:(!aK (l.getD (3+2*k) 0) 0 8)=true:=PH c5;rw[dz (eM (by rw[ea];omega))];unfold oE;refine pO func460 call460 ntmps460 results460 λS=>?_;conv=>whnf
      repeat'((first|refine awz ?_|refine X8 2 (eI (l.getD 2 0)) rfl g2 ?_|refine cP (bg _ _ _) ?_|refine X8 (3+2*k) _ ac gA ?_|refine X3 ac ac ?_|exact rZ|fail)<;>conv=>whnf)
    ·have m4:decide ((3+2*l.getD 2 0)>=((l.map eI).length:Int))=true:=by simp only[length_map,ge_iff_le,decide_eq_true_eq];omega
     rw[dz (eM ac)];unfold oE;refine pO func460 call460 ntmps460 results460 λS=>?_;conv=>whnf
     repeat'((first|refine awz ?_|refine X8 2 (eI (l.getD 2 0)) rfl g2 ?_|refine cP (bg _ _ _) ?_|refine X3 ac ac ?_|exact rZ|fail)<;>conv=>whnf)
   ·have m3:(!aK (l.getD 2 0) 0 10)=true:=PH c3;rw[dz (eM ac)];unfold oE;refine pO func460 call460 ntmps460 results460 λS=>?_;conv=>whnf
    repeat'((first|refine awz ?_|refine X8 2 (eI (l.getD 2 0)) rfl g2 ?_|refine cP (bg _ _ _) ?_|exact rZ|fail)<;>conv=>whnf)
  ·have m2:decide (((l.map eI).length:Int)>67)=true:=by simp only[length_map,decide_eq_true_eq];omega
   rw[dz (eM ac)];unfold oE;refine pO func460 call460 ntmps460 results460 λS=>?_;conv=>whnf
   repeat'(first|refine awz ?_|exact rZ|fail)
 ·have m1:decide (((l.map eI).length:Int)<7)=true:=by simp only[length_map,decide_eq_true_eq];omega
  rw[dz (eM ac)];unfold oE;refine pO func460 call460 ntmps460 results460 λS=>?_;conv=>whnf
  repeat'(first|refine awz ?_|exact rZ|fail)
end
open Go.Proofs.Tryz
open Go.ChangeShapes Go.WideShapes Go.RowKit
def fh(s:Int×DState):List AD:=dI s.1::s.2.ds
theorem OD(s:Int×DState)(hp:s.2.pairs.length<=9223372036854775806):aM av 413 [.agg (fh s)] (rB (eO s)):=by
 obtain⟨n,s⟩:=s;simp only at hp;unfold fh;cases h1:aK n 1 1000000000 with
 |false=>
  have e:eO (n,s)=false:=by simp[eO,h1]
  rw[e];refine pO func413 call413 ntmps413 results413 λS=>?_;conv=>whnf
  repeat'(first|refine awz ?_|(refine cP (bg _ _ _) ?_;conv=>whnf)|exact rZ|fail)
  all_goals(simp[h1];done)
 |true=>
  cases h2:cn s with
  |false=>
   have e:eO (n,s)=false:=by simp[eO,h2]
   rw[e];refine pO func413 call413 ntmps413 results413 λS=>?_;conv=>whnf
   repeat'((first|refine awz ?_|refine cP (bg _ _ _) ?_|refine cP (eN s hp) ?_|exact rZ|fail)<;>conv=>whnf)
   all_goals(simp[h2];done)
  |true=>
   have hi:=(dm h2).1;have e:eO (n,s)=decide (s.index>0):=by
    simp only[eO,h1,h2,Bool.true_and];by_cases h0:s.index=0
    ·simp[h0]
    ·have:s.index>0:=ac;simp[h0,this]
   rw[e];refine pO func413 call413 ntmps413 results413 λS=>?_;conv=>whnf
   repeat'((first|refine awz ?_|refine cP (bg _ _ _) ?_|refine cP (eN s hp) ?_|exact rZ|fail)<;>conv=>whnf)
def ol(s:Int×DState)(p:Nat):List (List Int):=(List.range p).map λq=>iL (dh s q)
def qz(s:Int×DState)(p i:Nat):List Int:=[s.1,s.2.index,(p:Int),((bH s.2).length:Int)]++((bH s.2).drop (20*p)).take i
theorem C3(s:Int×DState)(p:Nat):(ol s (p+1)).map bM=(ol s p).map bM++[bM (iL (dh s p))]:=by
 simp[ol,List.range_succ]
theorem Kd{s:Int×DState}{p i:Nat}(h:20*p+i<(bH s.2).length):(qz s p (i+1)).map eI=(qz s p i).map eI++[eI ((bH s.2)[20*p+i])]:=by
 have hl:i<((bH s.2).drop (20*p)).length:=by rw[List.length_drop];omega
 unfold qz;rw[List.take_add_one,List.getElem?_eq_getElem hl,List.getElem_drop];simp
theorem Mj(s:Int×DState)(p i:Nat):(qz s p i).length<=4+i:=by
 simp only[qz,List.length_append,List.length_cons,List.length_nil,List.length_take];omega
theorem Mi(s:Int×DState)(p:Nat){i:Nat}(h:i=20\/(bH s.2).length<=20*p+i)(h2:i<=20):(qz s p i).map eI++[[dI s.2.index],[dI s.1]]=(dh s p).map eI:=by
 have e:((bH s.2).drop (20*p)).take i=((bH s.2).drop (20*p)).take 20:=by
  rcases h with h|h
  ·rw[h]
  ·rw[List.take_of_length_le (by rw[List.length_drop];omega),List.take_of_length_le (by rw[List.length_drop];omega)]
 unfold qz dh;rw[e];simp[eI]
theorem tx(s:Int×DState)(hp:s.2.pairs.length<=9223372036854775806):aM av 338 [.agg (fh s)] (.val (.one (.sl ((aV s).map bM)))):=by
 have so:=OD s hp;cases ho:eO s with
 |false=>
  rw[ho]at so;have e:aV s=[]:=by simp[aV,ho]
  rw[e];obtain⟨n,st⟩:=s;unfold fh at*
  refine pO func338 call338 ntmps338 results338 λS=>?_;conv=>whnf
  repeat'(first|refine awz ?_|(refine cP (so) ?_;conv=>whnf)|exact rZ|fail)
 |true=>
  rw[ho]at so;obtain⟨g1,g2,g3⟩:=kD ho;obtain⟨i1,_⟩:=dm g2;obtain⟨m1,m2⟩:=jH g2;have sn:=zQ s.2 g2;have e:aV s=ol s (cA (bH s.2).length):=by simp[aV,ho,ol]
  have hpo:cA (bH s.2).length<=4:=(eR ho).2.2;rw[e];unfold fh at*
  refine pO func338 call338 ntmps338 results338 λS=>?_;conv=>whnf
  repeat'((first|refine awz ?_|refine cP (so) ?_|refine cP (sn) ?_|fail)<;>conv=>whnf)
  refine X5 (λp:Nat=>p<=cA (bH s.2).length) (8::[3,5,6,7,16,17,18,19,20,21,22,23,24,25,26,27,28,29,30,31,32,33,34,35,36,37,38,39,40,41,42,43,44,45,46,47,48,49,50,51,52,53,54,55,56,57,58,59,60,61,62,63,64,65]) (λp=>[(3,.one (.own 8)),(5,vI .i64 (p:Int))]) (λp=>[(1,.cells 312 ((dI s.1::s.2.ds).map .d)),(8,.row 62 1 ((ol s p).map bM))]) (λp=>cA (bH s.2).length-p) 0 (Nat.zero_le _) ?_ sbW (λp hk=>?_)<;>(conv=>whnf)
  ·exact whd
  ·have hnl:(ol s p).length=p:=by simp[ol]
   by_cases hlt:p<cA (bH s.2).length
   ·have hc:decide ((p:Int)*20<(((bH s.2).map eI).length:Int))=true:=by simp only[List.length_map,decide_eq_true_eq];unfold cA at hlt;omega
    have hp4:p<=3:=ac;have E0:([[dI s.1],[dI s.2.index],[dI (p:Int)],[dI (((bH s.2).map eI).length:Int)]]:List (List AD))=(qz s p 0).map eI:=by rw[List.length_map];rfl
    have rok:=nA ho hlt;have hsn:=C3 s p;repeat'(first|refine awz ?_|(refine X3 ac ac ?_;conv=>whnf)|fail)
    refine X5 (λi:Nat=>i<=20/\20*p+i<=(bH s.2).length) (31::[6,7,34,35,36,37,38,39,40,41,42,43,44,45,46,47,48,49,50,51,52,53]) (λi=>[(6,.one (.own 31)),(7,vI .i64 ((p:Int)*20+(i:Int)))]) (λi=>[(1,.cells 312 ((dI s.1::s.2.ds).map .d)),(8,.row 62 1 ((ol s p).map bM)),(31,.row 2 1 ((qz s p i).map eI))]) (λi=>20-i) 0 ⟨ac,by unfold cA at hlt;omega⟩ ?_ (X0 rfl (X0 rfl (X0 (congrArg some (congrArg (AO.row 2 1) E0)) X4))) (λi hi=>?_)<;>(conv=>whnf)
    ·rw[show((p:Int)*20+((0:Nat):Int))=(p:Int)*20 by omega];exact whd
    ·obtain⟨hi1,hi2⟩:=hi;have hhl:=Mj s p i;by_cases hgo:20*p+i<(bH s.2).length/\i<20
     ·have c1:decide ((p:Int)*20+(i:Int)<(((bH s.2).map eI).length:Int))=true:=by simp only[List.length_map,decide_eq_true_eq];omega
      have c2:decide ((p:Int)*20+(i:Int)<((p:Int)+1)*20)=true:=by simp only[decide_eq_true_eq];omega
      have hss:=Kd (s:=s) (p:=p) (i:=i) hgo.1;repeat'((first|refine awz ?_|refine X8 (20*p+i) (eI ((bH s.2)[20*p+i]'hgo.1)) ac (by rw[List.getElem?_map,List.getElem?_eq_getElem hgo.1];rfl) ?_|refine aJ ao ?_|refine X3 ac ac ?_|fail)<;>conv=>whnf)
      refine bd.mk ⟨i+1,⟨ac,ac⟩,ac,?_,X0 rfl (X0 rfl (X0 (by rw[hss];rfl) X4))⟩;rw[show((p:Int)*20+((i+1:Nat):Int))=(p:Int)*20+(i:Int)+1 by omega];exact hds
     ·have hend:=Mi s p (i:=i) ac hi1;have fin:∀(c:Bool),c=c:=λ_=>rfl;by_cases c0:20*p+i<(bH s.2).length
      ·have c1:decide ((p:Int)*20+(i:Int)<(((bH s.2).map eI).length:Int))=true:=by simp only[List.length_map,decide_eq_true_eq];omega
       have c2:decide ((p:Int)*20+(i:Int)<((p:Int)+1)*20)=false:=by simp only[decide_eq_false_iff_not];omega
       repeat'(first|refine awz ?_|(refine aG.freeze 31 2 1 ((dh s p).map eI) (congrArg (AO.row 2 1) hend) ?_;(conv=>whnf);refine XZ (CY (dh s p) rok.1 rok.2) rfl ?_;conv=>whnf)|((first|refine aJ ao ?_|refine X3 ac ac ?_|fail)<;>conv=>whnf))
       refine bd.mk ⟨p+1,hlt,ac,?_,X0 rfl (X0 (by rw[hsn];rfl) X4)⟩;exact hds
      ·have c1:decide ((p:Int)*20+(i:Int)<(((bH s.2).map eI).length:Int))=false:=by simp only[List.length_map,decide_eq_false_iff_not];omega
       repeat'(first|refine awz ?_|(refine aG.freeze 31 2 1 ((dh s p).map eI) (congrArg (AO.row 2 1) hend) ?_;(conv=>whnf);refine XZ (CY (dh s p) rok.1 rok.2) rfl ?_;conv=>whnf)|((first|refine aJ ao ?_|refine X3 ac ac ?_|fail)<;>conv=>whnf))
       refine bd.mk ⟨p+1,hlt,ac,?_,X0 rfl (X0 (by rw[hsn];rfl) X4)⟩;exact hds
   ·have ep:p=cA (bH s.2).length:=ac;have hc:decide ((p:Int)*20<(((bH s.2).map eI).length:Int))=false:=by simp only[List.length_map,decide_eq_false_iff_not];unfold cA at ep;omega
    rw[<-ep];repeat'(first|refine awz ?_|(refine X3 ac ac ?_;conv=>whnf)|exact rZ|fail)
section
variable {r x:List Int}
def eG:List (List Nat):=bZ [0,1,129,12354,1056835,84676740,3238551813,486473736259,35391639404871,35391639404871,0xa1c51060810c8,0x2c80c10861051ca,0x24714418204320c28b,0xd2ca3080c10861051c9,35391639404871,0xf1c51060810c8,0x4080c10861051cf,0xe24714418204320c28b3513d0,0x2030421841474903d134b28c24e,0x1338930a2cd44f4121c51060810c8,0x5080c10861051d240f44d2ca309393,0x5080c10861051d240f44d2ca309393,0x164ce24c28b3513d0487144182043214,0x5d42030421841474903d134b28c24e4d6,0x55338930a2cd44f4121c51060810c8518597,0x195d66142030421841474903d134b28c24e4d5,0x5080c10861051d240f44d2ca309393,0x1b4ce24c28b3513d0487144182043214,0x7142030421841474903d134b28c24e4db,0x1a55338930a2cd44f4121c51060810c851859765d6dc,0x5080c10861051d240f44d2ca30939379c6dd65759855a]
def eJ:List (List Nat):=fB 29 [0,1,4,13,40,121,364,1093,124872232,124373596,124393279,124452328,124622914,125154355,4779688,9562657,23911564,64570081,193710244,581130733,66362224112032,66097228497556,66107688850759,66139069910368,66229726304794,66512155841275,2540122436128,5081988264457,0xb8eb72271c4]
def fP(r:List Int):Option (List Int):=match iW r with
 |some x=>if 7<=x.length/\x.getD (x.length-1) 0=x.getD 0 0/\x.getD (x.length-2) 0=x.getD 1 0 then some ((x.drop 4).take (x.length-6))else none
 |none=>none
theorem v9(h:fP r=some x):x.length<=48/\0<r.length:=by
 unfold fP at h;split at h
 ·rename_i y e;split at h
  ·injection h with h
   subst h;have e2:=nE e;refine⟨by simp only[List.length_take,List.length_drop];omega,?_⟩;rw[e2.2.2];simp[iL]
  ·cases h
 ·cases h
theorem Mn(r:List Int):aM av 459 [.one (.sl (r.map eI))] (v8 (fP r)):=by
 have su:=J8 r;unfold fP;cases e:iW r with
 |none=>
  rw[e]at su;unfold v8 at su⊢;refine pO func459 call459 ntmps459 results459 λS=>?_;conv=>whnf
  repeat'(first|refine awz ?_|(refine cP (su) ?_;conv=>whnf)|fail)
  (refine X9 aN 2 29 eG eJ ae ae ae rfl ?_;conv=>whnf)
  repeat'(first|refine awz ?_|exact rZ|fail)
 |some x=>
  rw[e]at su;have hxl:=(nE e).2.1;unfold v8 at su⊢;have su:aM av 481 [.one (.sl (r.map eI))] (.tup [.one (.sl (x.map eI)),.one (dB true)]):=su;simp only;by_cases h7:7<=x.length
  ·have m1:decide (((x.map eI).length:Int)<7)=false:=by simp only[List.length_map,decide_eq_false_iff_not];omega
   have g0:=i7 (l:=x) (i:=0) ac;have g1:=i7 (l:=x) (i:=1) ac;have ga:=i7 (l:=x) (i:=x.length-1) ac;have gb:=i7 (l:=x) (i:=x.length-2) ac;by_cases ha:x.getD (x.length-1) 0=x.getD 0 0
   ·have m2:(x.getD (x.length-1) 0 !=x.getD 0 0)=false:=by rw[ha];simp
    by_cases hb:x.getD (x.length-2) 0=x.getD 1 0
    ·have m3:(x.getD (x.length-2) 0 !=x.getD 1 0)=false:=by rw[hb];simp
     rw[if_pos ⟨h7,ha,hb⟩];have hc:((x.map eI).take (x.length-2)).drop 4=(((x.drop 4).take (x.length-6))).map eI:=by
      rw[<-List.map_take,<-List.map_drop,List.drop_take,show x.length-2-4=x.length-6 by omega]
     refine pO func459 call459 ntmps459 results459 λS=>?_;conv=>whnf
     repeat'(first|refine awz ?_|(refine cP (su) ?_;conv=>whnf)|fail)
     (refine X9 aN 2 29 eG eJ ae ae ae rfl ?_;conv=>whnf)
     repeat'((first|refine awz ?_|refine X8 (x.length-1) _ an ga ?_|refine X8 0 _ rfl g0 ?_|refine X8 (x.length-2) _ an gb ?_|refine X8 1 _ rfl g1 ?_|(refine⟨4,x.length-2,rfl,(by show _=_;simp only[List.length_map];omega),ac,aj,(by intro y hy;obtain⟨a,_,rfl⟩:=List.mem_map.1 hy;rfl),?_⟩;rw[hc])|refine X3 an an ?_|exact rZ|fail)<;>conv=>whnf)
    ·have m3:(x.getD (x.length-2) 0 !=x.getD 1 0)=true:=by simpa using hb
     rw[if_neg λh=>hb h.2.2];refine pO func459 call459 ntmps459 results459 λS=>?_;conv=>whnf
     repeat'(first|refine awz ?_|(refine cP (su) ?_;conv=>whnf)|fail)
     (refine X9 aN 2 29 eG eJ ae ae ae rfl ?_;conv=>whnf)
     repeat'((first|refine awz ?_|refine X8 (x.length-1) _ an ga ?_|refine X8 0 _ rfl g0 ?_|refine X8 (x.length-2) _ an gb ?_|refine X8 1 _ rfl g1 ?_|refine X3 an an ?_|exact rZ|fail)<;>conv=>whnf)
   ·have m2:(x.getD (x.length-1) 0 !=x.getD 0 0)=true:=by simpa using ha
    rw[if_neg λh=>ha h.2.1];refine pO func459 call459 ntmps459 results459 λS=>?_;conv=>whnf
    repeat'(first|refine awz ?_|(refine cP (su) ?_;conv=>whnf)|fail)
    (refine X9 aN 2 29 eG eJ ae ae ae rfl ?_;conv=>whnf)
    repeat'((first|refine awz ?_|refine X8 (x.length-1) _ an ga ?_|refine X8 0 _ rfl g0 ?_|refine X3 an an ?_|exact rZ|fail)<;>conv=>whnf)
  ·have m1:decide (((x.map eI).length:Int)<7)=true:=by simp only[List.length_map,decide_eq_true_eq];omega
   rw[if_neg λh=>h7 h.1];refine pO func459 call459 ntmps459 results459 λS=>?_;conv=>whnf
   repeat'(first|refine awz ?_|(refine cP (su) ?_;conv=>whnf)|fail)
   (refine X9 aN 2 29 eG eJ ae ae ae rfl ?_;conv=>whnf)
   repeat'(first|refine awz ?_|exact rZ|fail)
def yh:List (List Int)->Option (List Int)
 |[]=>some []
 |r::l=>match fP r with
  |some x=>(yh l).map λy=>x++y
  |none=>none
theorem JO(h:fP r=some x):∃y,iW r=some y/\6<=y.length/\x=(y.drop 4).take (y.length-6):=by
 unfold fP at h;split at h
 ·rename_i y e;split at h
  ·rename_i hc;injection h with h
   exact⟨y,e,ac,h.symm⟩
  ·cases h
 ·cases h
theorem zk{rows:List (List Int)}{l:List Int}(h:yh rows=some l):gO rows=some l:=by
 induction rows generalizing l with
 |nil=>exact h
 |cons r t ih=>
  simp only[yh]at h;split at h
  ·rename_i x e;obtain⟨y,h1,h2,h3⟩:=JO e;cases hp:yh t with
   |none=>rw[hp]at h;cases h
   |some z=>
    rw[hp]at h;simp only[gO,h1,if_pos h2,ih hp,<-h3];exact h
  ·cases h
theorem JP{s:Int×DState}(h:eO s=true){p:Nat}(hp:p<cA (bH s.2).length):(fP (iL (dh s p))).isSome=true:=by
 obtain⟨h1,h2⟩:=nA h hp;have hl:=(tz hp).1;unfold fP;rw[Eb h1 h2];have e:dh s p=[s.1,s.2.index,(p:Int),((bH s.2).length:Int)]++((bH s.2).drop (20*p)).take 20++[s.2.index,s.1]:=by simp[dh]
 have a1:(dh s p).getD ((dh s p).length-1) 0=s.1:=by
  rw[e];simp
 have a2:(dh s p).getD ((dh s p).length-2) 0=s.2.index:=by
  rw[e];simp
 have a3:(dh s p).getD 0 0=s.1:=by rw[e];simp
 have a4:(dh s p).getD 1 0=s.2.index:=by rw[e];simp
 simp only;rw[if_pos ⟨hl,by rw[a1,a3],by rw[a2,a4]⟩];rfl
end
end Go.Proofs.YtknefkdcokgpbaaGreat
