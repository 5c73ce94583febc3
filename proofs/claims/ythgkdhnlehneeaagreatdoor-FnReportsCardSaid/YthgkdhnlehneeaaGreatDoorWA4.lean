/- WA4 -/
import Derived.Test.YthgkdhnlehneeaaGreatDoorAwx
import Derived.Test.YthgkdhnlehneeaaGreatDoorWA3
import Derived.Test.YthgkdhnlehneeaaGreatDoorWH
set_option maxHeartbeats 8000000
set_option linter.unusedVariables false
set_option linter.unusedSimpArgs false
set_option maxRecDepth 100000
namespace Go.Proofs.YthgkdhnlehneeaaGreatDoor
section
open Go.Proofs.Tryz
open Go.ChangeShapes Go.WideShapes Go.RowKit
variable {c:Int}{s:List aT}{k:Nat}{Q:Prop}
def uX:List (List Nat):=bC [0,0,66,12417,1052803,84680772,6509830341,486455906566,35601001230663,35601001230663,0x24714308110620a,0xb2881840420c51c9,0x3091c50c204418828b,0xd2ca20610108314724c,0x38c24714308110620a2cd,0x81840420c51cf34b28930e,0x40e30928b34f1c50c2044188,0x112061010831473cd2ca24c390,0x112061010831473cd2ca24c390,0x1240e30928b34f1c50c2044188453,0x5134481840420c51cf34b28930e412,0x1549038c24a2cd3c71430811062114d4,0x5944d12061010831473cd2ca24c390495,0x1755240e30928b34f1c50c2044188453516,0x4481840420c51cf34b28930e4185944d2557,0x195d549351661038c24a2cd3c7143081106211,0x6912061010831473cd2ca24c3906165134955d9,0x1b6575524d459840e30928b34f1c50c204418845a,0x71a4481840420c51cf34b28930e4185944d255765b,0x1d6d95d549351661038c24a2cd3c714308110621169c,0x1d6d95d549351661038c24a2cd3c714308110621169c,0x7dc6912061010831473cd2ca24c3906165134955d96dd,0x79c6912061010831473cd2ca24c3906165134955d96dd81f,0x217e075b6575524d459840e30928b34f1c50c204418845a71e,0x89e71a4481840420c51cf34b28930e4185944d255765b7607e1,0x1d6d95d549351661038c24a2cd3c714308110621169c,0x1d6d95d549351661038c24a2cd3c714308110621169c,0x2471a4481840420c51cf34b28930e4185944d255765b765,0x9a575b6575524d459840e30928b34f1c50c204418845a724,0x2791c6912061010831473cd2ca24c3906165134955d96dd966,0x8e17e075b6575524d459840e30928b34f1c50c204418845a71e8a89a5927,0x1d6d95d549351661038c24a2cd3c714308110621169ca679259a889e81f863,0x6912061010831473cd2ca24c3906165134955d9aa385f81e8a89a5927a5c6dd]
def vn:List (List Nat):=dW 40 [6,2,4,13,40,121,364,1093,42646,16402,29524,88573,265720,797161,2391484,7174453,21523360,839411059,322850407,581130733,1743392200,5230176601,15690529804,47071589413,141214768240,423644304721,1270932914164,3812798742493,0xa67358b3f98,0xa80cee290ee4d517,0xa80790f173180a75,0xa8084c3336e2832e,0xa80a3f8d40fe6fc6,0xa810d4dd231cae47,0xa82494ccc97769ca,0x4dc1cc44fb26673,0x2151f10eaf00807,0x3789dea9d51373d,0x9b858be40068bb0,0x1c77893928268909]
def lG:List (List Nat):=bC [0,0,66,12417,1052803,0,0,391,33222,2384328,90925286754906505]
def lI:List (List Nat):=dW 10 [58812,58808,58810,58819,58846,1700,728,1214,3401,9962]
theorem a7{a b c:Nat}(h:(a+b)*c<=140737488355328)(q:Q):(a+b)*c<=140737488355328/\Q:=⟨h,q⟩
theorem aW{xs:List (List AD)}{s:Nat}(h:∀x∈xs,x.length=s)(q:Q):(∀x∈xs,x.length=s)/\Q:=⟨h,q⟩
theorem jT(a b:Int):aN av 411 [pI a,pI b] (rI (if b>a then b else a)):=by
  refine pO func411 call411 ntmps411 results411 λS=>?_;conv=>whnf
  repeat'(first|refine awz ?_|refine tB ?_ ?_|(intro h;conv=>whnf))
  all_goals
    simp only[decide_eq_true_eq,decide_eq_false_iff_not]at*
    first
      |(rw[if_neg ac];done)
      | (by_cases h2 : b > a
         · rw[if_pos h2]
         · rw[if_neg h2];have:a=b:=ac;rw[this])
theorem fO(s:List aT)(h:s.length<=1000000):aN av 328 [.one (.sl (s.map aT.ds))] (.val (.one (.sl (s.map aT.ds)))):=by
  refine pO func328 call328 ntmps328 results328 λS=>?_;conv=>whnf
  repeat'((first|refine awz ?_|refine aW (λx hx=>by obtain⟨y,_,rfl⟩:=List.mem_map.1 hx;rfl) ?_|refine a7 az ?_|fail)<;>conv=>whnf)
  all_goals rfl
theorem oG(s:List aT)(h:s.length<=1000000):aN av 295 [.one (.sl (s.map aT.ds))] (.val (.one (.sl (s.map aT.ds)))):=by
  refine pO func295 call295 ntmps295 results295 λS=>?_;conv=>whnf
  repeat'((first|refine awz ?_|refine aW (λx hx=>by obtain⟨y,_,rfl⟩:=List.mem_map.1 hx;rfl) ?_|refine a7 az ?_|fail)<;>conv=>whnf)
  all_goals rfl
theorem Pc(h:¬s.length<=4):seenOk s=false:=by
  cases hs:seenOk s with
  |false=>rfl
  |true=>exact absurd (eO hs) h
theorem fN(s:List aT):aN av 326 [.one (.sl (s.map aT.ds))] (rB (seenOk s)):=by
  refine pO func326 call326 ntmps326 results326 λS=>?_;conv=>whnf
  repeat'(first|refine awz ?_|refine tB ?_ ?_|(intro h;conv=>whnf))
  · rw[Pc ari]
  · have h4:s.length<=4:=ari;clear h;refine aaK (λk:Nat=>k<=s.length/\(∀(j:Nat) (hj:j<k) (hl:j<s.length),cC fq j8 s j hl=true)/\∀(i j:Nat) (hi:i<j) (hj:j<k) (hl:j<s.length),(s[i]'(ac)).index≠s[j].index) (2::3::4::rg 8 65) (λk=>[(3,vI .i64 (k:Int))]) (λk=>[]) (λk=>s.length-k) 0 ⟨ac,ac,ac⟩ ?_ aaE (λk hR=>?_)<;>(conv=>whnf)
    · exact whd
    · obtain⟨hk,hall,hdup⟩:=hR;repeat'((first|refine awz ?_|refine aaJ aM 6 40 uX vn ae ae ae rfl ?_|refine aaO ari (λhlt=>?_)|refine aa3 ari ari (λhpv=>?_)|refine aaH (n:=_-_) ari ari ?_|refine cP (fg _) ?_|refine cP (gI _) ?_|refine cP (gQ _) ?_|refine tB ?_ ?_|intro h)<;>conv=>whnf)
      all_goals first
        |(rw[AF hlt (by first|(refine bX _ ?_;simp_all[fq];done)|(rw[bq _ ari];simp_all[fq,j8];done)|(rw[bu _ ari];simp_all[fq];done))];done)
        | (refine bE ?_
           have hkk:k=s.length:=ari;rw[F8 (λj hl=>hall j ac hl) (λi j hi hl=>hdup i j hi ac hl)];done)
        |skip
      all_goals
        have hch:cC fq j8 s k hlt=true:=(by first|(refine bX _ ?_;simp_all[fq];done)|(rw[bq _ ari];simp_all[fq,j8];done)|(rw[bu _ ari];simp_all[fq];done));refine aaK (λq:Nat=>q<=k/\∀(i:Nat) (hi:i<q) (hik:i<k),(s[i]'(ac)).index≠s[k].index) (2::4::rg 57 16) (λq=>[(4,vI .i64 (q:Int))]) (λ_=>[]) (λq=>k-q) 0 ⟨ac,ac⟩ ?_ aaE (λq hQ=>?_)<;>(conv=>whnf)
        · exact whd
        · obtain⟨hq,hno⟩:=hQ;repeat'((first|refine awz ?_|refine aaJ aM 11 10 lG lI ae ae ae rfl ?_|refine aaO (k:=q) ari (λhqt=>?_)|refine aaO (k:=k) ari (λhlt=>?_)|refine aaH ari ari ?_|refine tB ?_ ?_|intro h)<;>conv=>whnf)
          all_goals first
            |(rw[F7 (j:=q) (k:=k) ari ari ar];done)
            | (refine a8.mk ⟨q + 1, ⟨ari, fun i hi hik => ?_⟩, ari, ?_, aaE⟩
               · by_cases hiq:i=q
                 · subst hiq;intro e;simp[e]at h
                 · exact hno i ac hik
               · exact hds)
            | (refine a8.mk ⟨k + 1, ⟨ari, fU hall ari hch, Ni ari hdup fun i hi => hno i ari hi⟩, ari, ?_, aaE⟩
               exact hds)
theorem Id(hk:k<s.length):bR (s.take (k+1))=(if s[k].index>bR (s.take k)then s[k].index else bR (s.take k)):=by
  unfold bR;rw[List.take_succ_eq_append_getElem hk,List.foldl_append];rfl
theorem oH(s:List aT)(hs:s.length<=1000000):aN av 293 [.one (.sl (s.map aT.ds))] (rI (bR s)):=by
  refine pO func293 call293 ntmps293 results293 λS=>?_;conv=>whnf
  repeat'(first|refine awz ?_|fail)
  refine aaK (λp:Nat×Int=>p.1<=s.length/\p.2=bR (s.take p.1)) (3::5::rg 8 9) (λp=>[(3,vI .i64 p.2),(8,vI .i64 (p.1:Int))]) (λ_=>[]) (λp=>s.length-p.1) (0,0) ⟨by simp,rfl⟩ ?_ aaE (λp hR=>?_)<;>(conv=>whnf)
  · exact whd
  · obtain⟨k,v⟩:=p;obtain⟨hk,hv⟩:=hR;simp only at hk hv;repeat'((first|refine awz ?_|refine aaO ari (λhlt=>?_)|refine aaH ari ari ?_|refine tB ?_ ?_|intro h)<;>conv=>whnf)
    all_goals first
      | (refine a8.mk ⟨(k + 1, if s[k].index > v then s[k].index else v), ⟨ari, by simp only [Id (s := s) (k := k) ari, hv]⟩, by simp only; omega, ?_, aaE⟩
         exact hds)
      | (have hkk : k = s.length := ari
         subst hkk;rw[List.take_length]at hv;rw[hv])
theorem oR(s:List aT)(h:seenOk s=true):aN av 327 [.one (.sl (s.map aT.ds))] (rI (bR s)):=by
  have h':(!seenOk s)=false:=by simp[h]
  have hl:=eO h;refine pO func327 call327 ntmps327 results327 λS=>?_;conv=>whnf
  repeat'(first|refine awz ?_|(refine cP (fN s) ?_;conv=>whnf)|fail)
  refine aaK (λp:Nat×Int=>p.1<=s.length/\p.2=bR (s.take p.1)) (3::4::rg 9 13) (λp=>[(3,vI .i64 p.2),(4,vI .i64 (p.1:Int))]) (λ_=>[]) (λp=>s.length-p.1) (0,0) ⟨by simp,rfl⟩ ?_ aaE (λp hR=>?_)<;>(conv=>whnf)
  · exact whd
  · obtain⟨k,v⟩:=p;obtain⟨hk,hv⟩:=hR;simp only at hk hv;repeat'((first|refine awz ?_|refine aaO ari (λhlt=>?_)|refine aaH ari ari ?_|refine cP (jT _ _) ?_|refine tB ?_ ?_|intro h)<;>conv=>whnf)
    all_goals first
      | (refine a8.mk ⟨(k + 1, if s[k].index > v then s[k].index else v), ⟨ari, by simp only [Id (s := s) (k := k) ari, hv]⟩, by simp only; omega, ?_, aaE⟩
         exact hds)
      | (have hkk : k = s.length := ari
         subst hkk;rw[List.take_length]at hv;rw[hv])
theorem RC(hk:k<s.length)(hno:∀(j:Nat) (hj:j<k) (hl:j<s.length),s[j].client≠c)(h:s[k].client=c):bI s c=s[k]:=by
  unfold bI;have e:s=s.take k++s[k]::s.drop (k+1):=ah;have h0:(s.take k).find? (λm=>m.client==c)=none:=by
    rw[List.find?_eq_none];intro m hm;obtain⟨i,hi,rfl⟩:=List.getElem_of_mem hm;simp at hi;have:=hno i ac ac;simpa using this
  have:s.find? (λm=>m.client==c)=some s[k]:=by
    conv=>lhs;rw[e]
    rw[List.find?_append,h0,List.find?_cons];simp[h]
  rw[this];rfl
theorem RD(hno:∀(j:Nat) (hl:j<s.length),s[j].client≠c):bI s c=⟨0,0,0⟩:=by
  unfold bI;have:s.find? (λm=>m.client==c)=none:=by
    rw[List.find?_eq_none];intro m hm;obtain⟨i,hi,rfl⟩:=List.getElem_of_mem hm;simpa using hno i hi
  rw[this];rfl
theorem jp(s:List aT)(c:Int)(h:seenOk s=true):aN av 253 [.one (.sl (s.map aT.ds)),pI c] (.val (.agg (bI s c).ds)):=by
  have h':(!seenOk s)=false:=by simp[h]
  have hl:=eO h;refine pO func253 call253 ntmps253 results253 λS=>?_;conv=>whnf
  repeat'(first|refine awz ?_|(refine cP (fN s) ?_;conv=>whnf)|fail)
  refine aaK (λk:Nat=>k<=s.length/\∀(j:Nat) (hj:j<k) (hl:j<s.length),s[j].client≠c) (5::rg 10 17) (λk=>[(5,vI .i64 (k:Int))]) (λ_=>[(4,.cells 279 [.d (dI 0),.d (dI 0),.d (dI 0)])]) (λk=>s.length-k) 0 ⟨ac,ac⟩ ?_ sbW (λk hR=>?_)<;>(conv=>whnf)
  · exact whd
  · obtain⟨hk,hno⟩:=hR;repeat'((first|refine awz ?_|refine aaO ari (λhlt=>?_)|refine aaH ari ari ?_|refine tB ?_ ?_|intro h)<;>conv=>whnf)
    all_goals first
      | (refine a8.mk ⟨k + 1, ⟨ari, fun j hj hl => ?_⟩,ac, ?_, sbW⟩
         · by_cases hjk:j=k
           · subst hjk;simp_all
           · exact hno j ac hl
         · exact hds)
      |(rw[RC (k:=k) hlt hno ar];rfl)
      | (have hkk : k = s.length := ari
         rw[RD λj hl=>hno j ac hl];rfl)
theorem FT(s:List aT)(c q:Int)(h:seenOk s=true)(hc:aJ c 2 5=true)(hq:aJ q 1 2000=true):aN av 412 [.one (.sl (s.map aT.ds)),pI c,pI q] (rB (decide ((bI s c).seq<q))):=by
  refine pO func412 call412 ntmps412 results412 λS=>?_;conv=>whnf
  repeat'((first|refine awz ?_|refine cP (fN s) ?_|refine cP (jp s c h) ?_|refine cP (fg _) ?_|refine cP (gI _) ?_|exact rr|fail)<;>conv=>whnf)
  all_goals first
    |rfl
    |simp_all
end
section
open Go.Proofs.Tryz
open Go.ChangeShapes Go.WideShapes Go.RowKit
variable {s:List aT}{p:List aT×Bool}{e:aO}{m x:aT}
def uY:List (List Nat):=bC [0,1,129,12354,1056835,1056835,101453956,1056835,135008388,0x50c10841c6248,0x2882461c40810c5,0x40810cb14718920a,0x30a20918714b0c1084,0xd1020432c51c624828c,0x38c2882461c52c304210d,0xd1020432c51c624828c,0x40c2882461c52c304210d,0xf3440810cb14718920a30e450,0x3440810cb14718920a31241138f]
def vo:List (List Nat):=dW 17 [0,1,4,13,19480,17698,17941,2146,4333,9841,29524,88573,265720,115588417,117182740,13551745,27900652]
def tz:List (List Nat):=bC [0,1,129,12354,12354,67637445,6527127684,485365133638,12354,2367555,0x206143042107289,0x30422c9287105188]
def tP:List (List Nat):=dW 10 [0,1,4,52663,52555,52609,52852,53581,6547,13108]
def tA:List (List Nat):=bC [0,0,66,12417,1052803,0,6,346852442566]
def tQ:List (List Nat):=dW 7 [1950,1946,1948,1957,1984,242,485]
def CD(r:List aT×Bool):AP:= .tup [.one (.sl (r.1.map aT.ds)),.one (dB r.2)]
def jk(s:List aT)(e:aO):List aT×Bool:=match dt s e with|some o=>(o,true)|none=>(s,false)
theorem mZ(h:bL e=true):aJ e.client 2 5=true/\aJ e.seq 1 2000=true/\aJ e.index 1 2000=true:=by
  simp only[bL,Bool.and_eq_true]at h;exact⟨h.1.1.2,h.1.2,h.1.1.1.1⟩
theorem I8(x:aT):∀(s:List aT) (p:List aT×Bool),(s.foldl (gt x) p).1.length<=p.1.length+2*s.length
  |[],p=>by simp
  |m::r,p=>by
    have h1:=I8 x r (gt x p m);have h2:(gt x p m).1.length<=p.1.length+2:=by
      unfold gt;simp only;split<;>split<;>simp
    simp only[List.foldl_cons,List.length_cons];omega
theorem sG(x:aT){k:Nat}(hk:k<s.length):(s.take (k+1)).foldl (gt x) ([],false)=gt x ((s.take k).foldl (gt x) ([],false)) s[k]:=by
  rw[List.take_succ_eq_append_getElem hk,List.foldl_append];rfl
theorem Dy(h1:(!p.2&&decide (m.client>=x.client))=true)(h2:(m.client !=x.client)=true):gt x p m=(p.1++[x]++[m],true):=by simp only[gt,h1,h2,if_true]
theorem Dz(h1:(!p.2&&decide (m.client>=x.client))=true)(h2:(m.client !=x.client)=false):gt x p m=(p.1++[x],true):=by simp only[gt,h1,h2,if_true];rfl
theorem DA(h1:(!p.2&&decide (m.client>=x.client))=false)(h2:(m.client !=x.client)=true):gt x p m=(p.1++[m],p.2):=by simp only[gt,h1,h2,if_true];rfl
theorem DB(h1:(!p.2&&decide (m.client>=x.client))=false)(h2:(m.client !=x.client)=false):gt x p m=(p.1,p.2):=by simp only[gt,h1,h2];rfl
theorem Fm(h:(bL e&&k9 s e&&decide (bR s<e.index))=false):dt s e=none:=by simp[dt,h]
theorem vJ(h:(bL e&&k9 s e&&decide (bR s<e.index))=true):dt s e=some (putMark s e.mark):=by simp only[dt,h,if_true]
theorem qz(s:List aT)(e:aO)(hseen:seenOk s=true):aN av 329 [.one (.sl (s.map aT.ds)),.agg e.ds] (CD (jk s e)):=by
  have h':(!seenOk s)=false:=by simp[hseen]
  have hl:=eO hseen;refine pO func329 call329 ntmps329 results329 λS=>?_;conv=>whnf
  repeat'((first|refine awz ?_|refine aaJ aM 3 17 uY vo ae ae ae rfl ?_|refine cP (fN s) ?_|refine cP (bP e) ?_|refine cP (FT s e.client e.seq hseen (by simp_all[bL]) (by simp_all[bL])) ?_|refine cP (oR s hseen) ?_|refine cP (fO s ac) ?_|refine tB ?_ ?_|intro h)<;>conv=>whnf)
  all_goals first
    | (have hno : dt s e = none := Fm (by first | (simp_all [k9]; done) | (simp_all [k9]; intros; omega))
       simp only[jk,hno];rfl)
    |skip
  have hyes:dt s e=some (putMark s e.mark):=vJ (by first|(simp_all[k9];done)|(simp_all[k9];omega));simp only[jk,hyes];refine aaK (λp:Nat×List aT×Bool=>p.1<=s.length/\p.2=(s.take p.1).foldl (gt e.mark) ([],false)) (42::[7,8,9,43,44,45,46,47,48,49,50,51,52,53,54,55,56,57,58,59,60,61,62,63,64,65,66,67,68,69,70,71,72,73,74,75,76,77,78,79]) (λp=>[(7,.one (.own 42)),(8,vB p.2.2),(9,vI .i64 (p.1:Int))]) (λp=>[(42,.row 279 3 (p.2.1.map aT.ds)),(6,.cells 279 (e.mark.ds.map .d)),(3,.cells 275 (e.ds.map .d))]) (λp=>s.length-p.1) (0,[],false) ⟨by simp,rfl⟩ ?_ sbW (λp hR=>?_)<;>(conv=>whnf)
  · exact whd
  · obtain⟨hk,hv⟩:=hR;have hlen:=I8 e.mark (s.take p.1) ([],false);rw[<-hv]at hlen;have htl:(s.take p.1).length<=4:=al;simp only[List.length_nil]at hlen;have hfin:=I7 e.mark s [] (oU hseen);repeat'((first|refine awz ?_|refine aaJ aM 11 10 tz tP ae ae ae rfl ?_|refine aaJ aM 14 7 tA tQ ae ae ae rfl ?_|refine aaO ari (λhlt=>?_)|refine aaH ari ari ?_|refine a7 az ?_|refine tB ?_ ?_|intro h)<;>conv=>whnf)
    all_goals first
      | (have he : gt e.mark p.2 (s[p.1]'ari) = (p.2.1 ++ [e.mark] ++ [s[p.1]'ari], true) := (by first | exact Dy (by clear hfin hlen hv; first | (simp_all [aO.mark]; done) | (simp_all [aO.mark]; omega)) (by clear hfin hlen hv; first | (simp_all [aO.mark]; done) | (simp_all [aO.mark]; omega)) | exact Dz (by clear hfin hlen hv; first | (simp_all [aO.mark]; done) | (simp_all [aO.mark]; omega)) (by clear hfin hlen hv; first | (simp_all [aO.mark]; done) | (simp_all [aO.mark]; omega)) | exact DA (by clear hfin hlen hv; first | (simp_all [aO.mark]; done) | (simp_all [aO.mark]; omega)) (by clear hfin hlen hv; first | (simp_all [aO.mark]; done) | (simp_all [aO.mark]; omega)) | exact DB (by clear hfin hlen hv; first | (simp_all [aO.mark]; done) | (simp_all [aO.mark]; omega)) (by clear hfin hlen hv; first | (simp_all [aO.mark]; done) | (simp_all [aO.mark]; omega)))
         (refine a8.mk ⟨(p.1 + 1, p.2.1 ++ [e.mark] ++ [s[p.1]'ari], true), ⟨ari, by simp only [sG e.mark (s := s) (k := p.1) ari, ← hv, he]⟩, ari, ?_, aaC (congrArg some (congrArg (AO.row 279 3) aB)) sbW⟩
          exact hds))
      | (have he : gt e.mark p.2 (s[p.1]'ari) = (p.2.1 ++ [e.mark], true) := (by first | exact Dy (by clear hfin hlen hv; first | (simp_all [aO.mark]; done) | (simp_all [aO.mark]; omega)) (by clear hfin hlen hv; first | (simp_all [aO.mark]; done) | (simp_all [aO.mark]; omega)) | exact Dz (by clear hfin hlen hv; first | (simp_all [aO.mark]; done) | (simp_all [aO.mark]; omega)) (by clear hfin hlen hv; first | (simp_all [aO.mark]; done) | (simp_all [aO.mark]; omega)) | exact DA (by clear hfin hlen hv; first | (simp_all [aO.mark]; done) | (simp_all [aO.mark]; omega)) (by clear hfin hlen hv; first | (simp_all [aO.mark]; done) | (simp_all [aO.mark]; omega)) | exact DB (by clear hfin hlen hv; first | (simp_all [aO.mark]; done) | (simp_all [aO.mark]; omega)) (by clear hfin hlen hv; first | (simp_all [aO.mark]; done) | (simp_all [aO.mark]; omega)))
         (refine a8.mk ⟨(p.1 + 1, p.2.1 ++ [e.mark], true), ⟨ari, by simp only [sG e.mark (s := s) (k := p.1) ari, ← hv, he]⟩, ari, ?_, aaC (congrArg some (congrArg (AO.row 279 3) aB)) sbW⟩
          exact hds))
      | (have he : gt e.mark p.2 (s[p.1]'ari) = (p.2.1 ++ [s[p.1]'ari], p.2.2) := (by first | exact Dy (by clear hfin hlen hv; first | (simp_all [aO.mark]; done) | (simp_all [aO.mark]; omega)) (by clear hfin hlen hv; first | (simp_all [aO.mark]; done) | (simp_all [aO.mark]; omega)) | exact Dz (by clear hfin hlen hv; first | (simp_all [aO.mark]; done) | (simp_all [aO.mark]; omega)) (by clear hfin hlen hv; first | (simp_all [aO.mark]; done) | (simp_all [aO.mark]; omega)) | exact DA (by clear hfin hlen hv; first | (simp_all [aO.mark]; done) | (simp_all [aO.mark]; omega)) (by clear hfin hlen hv; first | (simp_all [aO.mark]; done) | (simp_all [aO.mark]; omega)) | exact DB (by clear hfin hlen hv; first | (simp_all [aO.mark]; done) | (simp_all [aO.mark]; omega)) (by clear hfin hlen hv; first | (simp_all [aO.mark]; done) | (simp_all [aO.mark]; omega)))
         (refine a8.mk ⟨(p.1 + 1, p.2.1 ++ [s[p.1]'ari], p.2.2), ⟨ari, by simp only [sG e.mark (s := s) (k := p.1) ari, ← hv, he]⟩, ari, ?_, aaC (congrArg some (congrArg (AO.row 279 3) aB)) sbW⟩
          exact hds))
      | (have he : gt e.mark p.2 (s[p.1]'ari) = (p.2.1, p.2.2) := (by first | exact Dy (by clear hfin hlen hv; first | (simp_all [aO.mark]; done) | (simp_all [aO.mark]; omega)) (by clear hfin hlen hv; first | (simp_all [aO.mark]; done) | (simp_all [aO.mark]; omega)) | exact Dz (by clear hfin hlen hv; first | (simp_all [aO.mark]; done) | (simp_all [aO.mark]; omega)) (by clear hfin hlen hv; first | (simp_all [aO.mark]; done) | (simp_all [aO.mark]; omega)) | exact DA (by clear hfin hlen hv; first | (simp_all [aO.mark]; done) | (simp_all [aO.mark]; omega)) (by clear hfin hlen hv; first | (simp_all [aO.mark]; done) | (simp_all [aO.mark]; omega)) | exact DB (by clear hfin hlen hv; first | (simp_all [aO.mark]; done) | (simp_all [aO.mark]; omega)) (by clear hfin hlen hv; first | (simp_all [aO.mark]; done) | (simp_all [aO.mark]; omega)))
         (refine a8.mk ⟨(p.1 + 1, p.2.1, p.2.2), ⟨ari, by simp only [sG e.mark (s := s) (k := p.1) ari, ← hv, he]⟩, ari, ?_, aaC (congrArg some (congrArg (AO.row 279 3) aB)) sbW⟩
          exact hds))
      |(exfalso;clear hfin hlen hv;simp_all;done)
      |(exfalso;clear hfin hlen hv;simp_all;omega)
      | (have hkk : p.1 = s.length := ari
         rw[hkk,List.take_length]at hv;rw[<-hv]at hfin;have hf:putMark s e.mark=p.2.1++[e.mark]:=ar;rw[hf];simp only[CD,List.map_append,List.map_cons,List.map_nil];rfl)
      | (have hkk : p.1 = s.length := ari
         rw[hkk,List.take_length]at hv;rw[<-hv]at hfin;have hf:putMark s e.mark=p.2.1:=ar;rw[hf];rfl)
end
section
open Go.Proofs.Tryz
open Go.ChangeShapes Go.WideShapes Go.RowKit
theorem Mf{s:List aT}{l:List aO}(h:seenOk s=false):bG s l=([],false):=by simp[bG,h]
theorem Mg{s:List aT}{l:List aO}(h:seenOk s=true)(hl:2000<l.length):bG s l=(s,false):=by simp[bG,h,hl]
theorem xc{s:List aT}{l:List aO}(h:seenOk s=true)(hl:¬2000<l.length)(hf:bU s l=none):bG s l=(s,false):=by simp[bG,h,hl,hf]
theorem jl{s c:List aT}{l:List aO}(h:seenOk s=true)(hl:¬2000<l.length)(hf:bU s l=some c):bG s l=(c,true):=by simp[bG,h,hl,hf]
theorem Cs{s c:List aT}{e:aO}(h:dt s e=some c):jk s e=(c,true):=by simp[jk,h]
theorem L4{s:List aT}{e:aO}(h:dt s e=none):jk s e=(s,false):=by simp[jk,h]
theorem mD(s:List aT)(l:List aO):aN av 232 [.one (.sl (s.map aT.ds)),.one (.sl (l.map aO.ds))] (CD (bG s l)):=by
 cases hseen:seenOk s with
 |false=>
  have h':(!seenOk s)=true:=by simp[hseen]
  rw[Mf hseen];refine pO func232 call232 ntmps232 results232 λS=>?_;conv=>whnf
  repeat'(first|refine awz ?_|(refine cP (fN s) ?_;conv=>whnf)|exact rr|fail)
  all_goals rfl
 |true=>
  have h':(!seenOk s)=false:=by simp[hseen]
  have hs4:=eO hseen;refine pO func232 call232 ntmps232 results232 λS=>?_;conv=>whnf
  repeat'((first|refine awz ?_|refine cP (fN s) ?_|refine cP (fO s ac) ?_|refine tB ?_ ?_|intro h)<;>conv=>whnf)
  ·rw[Mg hseen ari];rfl
  ·have hl:¬2000<l.length:=ari;clear h;refine aaK (λp:Nat×List aT=>p.1<=l.length/\bU s (l.take p.1)=some p.2) (rg 4 6++(rg 21 20)) (λp=>[(6,.one (.d (.sl (p.2.map aT.ds)))),(7,vI .i64 (p.1:Int))]) (λ_=>[]) (λp=>l.length-p.1) (0,s) ⟨by simp,rfl⟩ ?_ aaE (λp hR=>?_)<;>(conv=>whnf)
   ·exact whd
   ·obtain⟨hk,hf⟩:=hR;have hcur:=nn hseen hf;by_cases hlt:p.1<l.length
    ·have hlt':decide ((p.1:Int)<((l.map aO.ds).length:Int))=true:=al;cases hm:dt p.2 l[p.1]with
     |none=>
      have hmk:=L4 hm;have hM:=qz p.2 l[p.1] hcur;rw[hmk]at hM;repeat'((first|refine awz ?_|refine aaO ari (λhlt=>?_)|refine cP (hM) ?_|refine cP (fO s ac) ?_|fail)<;>conv=>whnf)
      rw[xc hseen hl (wT hlt hf hm)];rfl
     |some c=>
      have hmk:=Cs hm;have hM:=qz p.2 l[p.1] hcur;rw[hmk]at hM;repeat'((first|refine awz ?_|refine aaO ari (λhlt=>?_)|refine aaH ari ari ?_|refine cP (hM) ?_|fail)<;>conv=>whnf)
      refine a8.mk ⟨(p.1+1,c),⟨ari,by simp only[wV hlt hf,hm]⟩,ari,?_,aaE⟩;exact hds
    ·have hlt':decide ((p.1:Int)<((l.map aO.ds).length:Int))=false:=al;repeat'(first|refine awz ?_|fail)
     have hkk:p.1=l.length:=ac;rw[hkk,List.take_length]at hf;rw[jl hseen hl hf];rfl
theorem Nv(w:World):(zeroValue 279).run Tryz.prog w= .ok (aT.v ⟨0,0,0⟩) w:=by kernel_rfl
theorem Ix(m:aT)(Z:Nat->Prop)(w:World)(ρ:Nat->Value):cu Z w ρ (.agg (m.ds.map .d)) m.v:=by
 have:m.v= .agg [.int .i64 m.client,.int .i64 m.seq,.int .i64 m.index].toArray:=rfl;rw[this];refine .agg _ _ rfl λi c u hc hu=>?_;match i,hc,hu with
 |0,hc,hu=>simp[aT.ds]at hc hu;subst hc hu;exact co.pv _ rfl
 |1,hc,hu=>simp[aT.ds]at hc hu;subst hc hu;exact co.pv _ rfl
 |2,hc,hu=>simp[aT.ds]at hc hu;subst hc hu;exact co.pv _ rfl
 |i+3,hc,hu=>simp[aT.ds]at hc
theorem TU(m:aT):∀(Z:Nat->Prop) (w:World) (ρ:Nat->Value) (y:Value),cu Z w ρ (.agg (m.ds.map .d)) y->y=m.v:=λZ w ρ y h=>Aj rfl h
section
variable {S:bZ} {o:Oper} {st:ASt} {K:ASt->Prop} {x i v:Operand} {id:Nat} {n:Int} {N:Nat} {s:List aT}
theorem abL(ho:o.op= .lookup 312 x i false)(hx:aEv st x λv=>v= .one (.own id))(hi:aEv st i λv=>v=vI .i64 n)(hob:aOb st.ob id λo=>o=ji Tryz.prog 2 N (iJ s))(hn:(Lit.int .i64 n).wf=true)
  (hK:fa st o.dst (.agg ((bI s n).ds.map .d)) K):AOp av S o st K:=
 abE (E:=av) ho underlying312 underlying2 Nv hx hi hob hn (.agg ((bI s n).ds.map .d)) (λZ w ρ=>by rw[Fn];exact Ix ..) hK
theorem abj(ho:o.op= .lookup 312 x i true)(hx:aEv st x λv=>v= .one (.own id))(hi:aEv st i λv=>v=vI .i64 n)(hob:aOb st.ob id λo=>o=ji Tryz.prog 2 N (iJ s))(hn:(Lit.int .i64 n).wf=true)
  (hK:fa st o.dst (.tup [.agg ((bI s n).ds.map .d),vB (s.find? λm=>m.client==n).isSome]) K):AOp av S o st K:=
 abE (E:=av) ho underlying312 underlying2 Nv hx hi hob hn (.agg ((bI s n).ds.map .d)) (λZ w ρ=>by rw[Fn];exact Ix ..) (show fa st o.dst (.tup [.agg ((bI s n).ds.map .d),vB (iJ s n).isSome]) K from(by simp only[iJ,Option.isSome_map];exact hK))
theorem abB{f:Int->Option Value}(m:aT)(ho:o.op= .mapUpdate 312 x i v)(hN:N<9223372036854775807)(hx:aEv st x λv=>v= .one (.own id))(hi:aEv st i λv=>v=vI .i64 m.client)(hob:aOb st.ob id λo=>o=ji Tryz.prog 2 N f)(hn:(Lit.int .i64 m.client).wf=true)
  (hv:aEv st v λv=>v= .agg (m.ds.map .d)) {g:Int->Option Value} (hg:uf f m.client (some m.v)=g)
  (hK:ju id (ji Tryz.prog 2 (N+1) g) st.ob λob=>fa ⟨st.tm,ob⟩ o.dst (.one .und) K):AOp av S o st K:=by
 subst hg;refine abF (E:=av) (u:=m.v) ho underlying312 underlying2 hN hx hi hob hn ?_ hK;exact(dZ (st:=st) v).mono (λx (h:x= .agg (m.ds.map .d))=>by subst h;exact TU m) hv
end
end
section
open Go.Proofs.Tryz
open Go.ChangeShapes Go.WideShapes Go.RowKit
variable {s:List aT}{e:aO}
theorem SI(h:seenOk s=true){k:Nat}(hk:k<s.length):(Lit.int .i64 s[k].client).wf=true:=by
  have:=xg h (List.getElem_mem hk);simp only[fq,aJ,Bool.and_eq_true,decide_eq_true_eq]at this;exact wW ac ac
theorem Gz(h:(!bL e)=false):(Lit.int .i64 e.client).wf=true:=by
  have:=(mZ (e:=e) (by simpa using h)).1;simp only[aJ,Bool.and_eq_true,decide_eq_true_eq]at this;exact wW ac ac
theorem L5(s:List aT)(e:aO):uf (uf (iJ s) e.client none) e.mark.client (some e.mark.v)=iJ (putMark s e.mark):=Oh s e.mark
theorem TX(h:bL e=false\/e.seq<=(bI s e.client).seq\/e.index<=bR s):dt s e=none:=by
  refine Fm ?_;rcases h with h|h|h
  · simp[h]
  · have:k9 s e=false:=by simp[k9];omega
    simp[this]
  · have:decide (bR s<e.index)=false:=al;simp[this]
theorem WK(h:bL e=true)(h2:¬e.seq<=(bI s e.client).seq)(h3:¬e.index<=bR s):dt s e=some (putMark s e.mark):=by
  refine vJ ?_;have a:k9 s e=true:=by simp[k9];omega
  have b:decide (bR s<e.index)=true:=al;simp[h,a,b]
theorem Ic(h3:¬e.index<=bR s):bR (putMark s e.mark)=e.index:=LY (m:=e.mark) (by simp[aO.mark];omega)
theorem oF(s:List aT)(l:List aO)(hs:s.length<=9223372036854775806):aN av 207 [.one (.sl (s.map aT.ds)),.one (.sl (l.map aO.ds))] (CD (bG s l)):=by
  cases hseen:seenOk s with
  |false=>
    have h':(!seenOk s)=true:=by simp[hseen]
    rw[Mf hseen];refine pO func207 call207 ntmps207 results207 λS=>?_;conv=>whnf
    repeat'(first|refine awz ?_|(refine cP (nq s hs) ?_;conv=>whnf)|exact rr|fail)
    all_goals rfl
  |true=>
    have h':(!seenOk s)=false:=by simp[hseen]
    have hs4:=eO hseen;refine pO func207 call207 ntmps207 results207 λS=>?_;conv=>whnf
    repeat'((first|refine awz ?_|refine cP (nq s hs) ?_|refine cP (oG s ac) ?_|refine AOp.makeMap (E:=av) 2 rfl rfl ?_|refine tB ?_ ?_|intro h)<;>conv=>whnf)
    · rw[Mg hseen ari];rfl
    · have hl:¬2000<l.length:=ari;clear h;refine aaK (λk:Nat=>k<=s.length) (8::rg 27 9) (λk=>[(27,vI .i64 (k:Int))]) (λk=>[(24,ji Tryz.prog 2 k (iJ (s.take k)))]) (λk=>s.length-k) 0 ac ?_ sbW (λk hk=>?_)<;>(conv=>whnf)
      · exact whd
      · repeat'((first|refine awz ?_|refine aaO ari (λhlt=>?_)|refine aaH ari ari ?_|refine abB (id:=24) (N:=k) (s[k]'ari) rfl ac rfl rfl rfl (SI hseen ari) rfl (L6 (oU hseen) ari) ?_|refine cP (oH s ac) ?_|refine tB ?_ ?_|intro h)<;>conv=>whnf)
        · refine a8.mk ⟨k+1,hlt,ac,?_,sbW⟩;exact hds
        · have hkk:k=s.length:=ari;subst hkk;rw[List.take_length];clear h hk;refine aaK (λp:Nat×List aT×Int=>p.1<=l.length/\bU s (l.take p.1)=some p.2.1/\p.2.2=bR p.2.1) (4::5::9::11::rg 40 41) (λp=>[(9,vI .i64 p.2.2),(40,vI .i64 (p.1:Int))]) (λp=>[(24,ji Tryz.prog 2 (s.length+p.1) (iJ p.2.1))]) (λp=>l.length-p.1) (0,s,bR s) ⟨by simp,rfl,rfl⟩ ?_ sbW (λp hR=>?_)<;>(conv=>whnf)
          · exact whd
          · obtain⟨hk,hf,hla⟩:=hR;have hcur:=nn hseen hf;repeat'((first|refine awz ?_|refine aaO ari (λhlt=>?_)|refine aaH ari ari ?_|refine cP (lU _) ?_|refine cP (oG s ac) ?_|refine abL (id:=24) (N:=s.length+p.1) (s:=p.2.1) rfl rfl rfl rfl (Gz aj) ?_|refine ab2 (E:=av) (id:=24) (N:=s.length+p.1) (f:=iJ p.2.1) rfl rfl underlying312 underlying2 rfl rfl rfl (Gz aj) ?_|refine abB (id:=24) (N:=s.length+p.1) (aO.mark (l[p.1]'ari)) rfl ac rfl rfl rfl (Gz aj) rfl (L5 _ _) ?_|refine tB ?_ ?_|intro h)<;>conv=>whnf)
            all_goals first
              |(rw[xc hseen hl (wT ari hf (TX (.inl (by simpa using h))))];rfl)
              |(rw[xc hseen hl (wT ari hf (TX (.inr (.inl (by simpa using h)))))];rfl)
              |(rw[xc hseen hl (wT ari hf (TX (.inr (.inr (by rw[<-hla];simpa using h)))))];rfl)
              | (have hm := WK (s := p.2.1) (e := l[p.1]'ari) ar ar (by rw [← hla]; simp_all)
                 refine a8.mk ⟨(p.1+1,putMark p.2.1 (l[p.1]'ari).mark,(l[p.1]'ari).index),⟨ari,by simp only[wV (l:=l) (k:=p.1) ari hf,hm],(Ic (by rw[<-hla];simp_all)).symm⟩,ari,?_,sbW⟩;exact hds)
              |skip
            have hkk:p.1=l.length:=ari;rw[hkk,List.take_length]at hf;rw[jl hseen hl hf];have hlen:=eO hcur;refine aaK (λc:Int=>2<=c/\c<=6) (81::[12,13,14,15,82,83,84,85,86,87,88,89,90,91,92,93,94,95,96]) (λc=>[(12,.one (.own 81)),(13,vI .i64 c)]) (λc=>[(81,.row 279 3 ((p.2.1.filter λx=>decide (x.client<c)).map aT.ds)),(24,ji Tryz.prog 2 (s.length+p.1) (iJ p.2.1))]) (λc=>(6-c).toNat) 2 ac ?_ (aaC (congrArg some (congrArg (AO.row 279 3) (by simp only[Ri hcur,List.map_nil]))) sbW) (λc hc=>?_)<;>(conv=>whnf)
            · exact whd
            · have hfl:(p.2.1.filter λx=>decide (x.client<c)).length<=4:=Nat.le_trans (List.length_filter_le ..) hlen;have hsu:=HT (c:=c) (oU hcur);cases hfi:p.2.1.find? (λx=>x.client==c)with
              |none=>
                have hso:(p.2.1.find? (λx=>x.client==c)).isSome=false:=by rw[hfi];rfl
                rw[hfi]at hsu;simp only[Option.toList_none,List.append_nil]at hsu;repeat'((first|refine awz ?_|refine aaH ari ari ?_|refine abj (id:=24) (N:=s.length+p.1) (s:=p.2.1) rfl rfl rfl rfl (wW ac ac) ?_|refine tB ?_ ?_|intro h)<;>conv=>whnf)
                all_goals first
                  | (refine a8.mk ⟨c + 1, ⟨ari, ari⟩, ari, ?_, aaC (congrArg some (congrArg (AO.row 279 3) (by rw [hsu]))) sbW⟩
                     exact hds)
                  | (have h4 : c = 6 := ari
                     subst h4;have:=Lk hcur;simp only[CD,this])
              |some m=>
                have hso:(p.2.1.find? (λx=>x.client==c)).isSome=true:=by rw[hfi];rfl
                have hmo:bI p.2.1 c=m:=by unfold bI;rw[hfi];rfl
                rw[hfi]at hsu;simp only[Option.toList_some]at hsu;repeat'((first|refine awz ?_|refine aaH ari ari ?_|refine abj (id:=24) (N:=s.length+p.1) (s:=p.2.1) rfl rfl rfl rfl (wW ac ac) ?_|refine a7 az ?_|refine tB ?_ ?_|intro h)<;>conv=>whnf)
                all_goals first
                  | (refine a8.mk ⟨c + 1, ⟨ari, ari⟩, ari, ?_, aaC (congrArg some (congrArg (AO.row 279 3) (by rw [hsu, hmo, List.map_append]; rfl))) sbW⟩
                     exact hds)
                  | (have h4 : c = 6 := ari
                     subst h4;have:=Lk hcur;simp only[CD,this])
end
section
open Go.Proofs.Tryz
open Go.ChangeShapes Go.WideShapes Go.RowKit
variable {l:List aO}{b:bn}
def mq:List (List Nat):=bC [0,1,129,12354,1056835,84676740,1056835,118231172,26665322041863,0x40810c91c8146,0x2861481c90c1084,0xb10204324720518a,0x30a18520724304210b,0xd2c40810c91c814628c,0x2c40810c91c814628e30d,0xf34c38a18520724304210b,0x40b10204324720518a38c34f,0x113cd30e2861481c90c10842d0,0x4902c40810c91c814628e30d3d1,0x1344f34c38a18520724304210b412,0x51240b10204324720518a38c34f453,0x154d13cd30e2861481c90c10842d0494,0x5944902c40810c91c814628e30d3d14d5,0x144902c40810c91c814628e30d3d14d7556,0x40b10204324720518a38c34f6165574d1494,0x195124535d55983cd30e2861481c90c10842d0,0x6902c40810c91c814628e30d3d85955d3452519,0x1b6544914d755660f34c38a18520724304210b41a,0x71a40b10204324720518a38c34f6165574d149465b,0x1a40b10204324720518a38c34f6165574d149465d6dc,0x79c6dd6544914d755660f34c38a18520724304210b41a,0x1f6902c40810c91c814628e30d3d85955d345251975b71e,0x81e71b7595124535d55983cd30e2861481c90c10842d069f,0x217da40b10204324720518a38c34f6165574d149465d6dc7a0,0x1f6902c40810c91c814628e30d3d85955d345251975b71e,0x8de71b7595124535d55983cd30e2861481c90c10842d069f,0x8a079c6dd6544914d755660f34c38a18520724304210b41a7e1923,0x1f6902c40810c91c814628e30d3d85955d345251975b71e963921822,0x9a282192395e71b7595124535d55983cd30e2861481c90c10842d069f]
def mw:List (List Nat):=dW 36 [0,1,4,13,5872,5953,688,1417,3280,9841,29524,88573,265720,797161,2391484,7174453,21523360,64570081,193710244,581130733,1743392200,5230176601,15690529804,47071589413,141214768240,423644304721,1270932914164,3812798742493,0xa67358b3f98,34315188682441,0x5da0e1e53c5c,0x1db175a3e31495d,0x1dd491f8990b388,0x1e3de6f6baef209,0x3a26ec4d607d73,0x7566bb4070affc]
def pU:List (List Nat):=bC [0,1,129,12354,1056835,84676740,6510088389,486455648518,35601017745735,486455648518,486455648518,48795157279047,0x28610204314730b,0xd2cc1c50c108418a,0x38a1840810c51cc2cd,0xf34b30714304210628e,0x24714304210621038a30b34f,0x113cd2cc28e4081840810c51c9,0x4891c50c108418840e28c2cd3d1,0x1344f34b30a390206102043147252,0x4891c50c108418840e28c2cd3d1,0x4891c50c108418840e28c2cd3d1,0x1644f34b30a390206102043147252,0x1544f34b30a3902061020431472525d6,0x6165d224714304210621038a30b34f455,0x195513cd2cc28e4081840810c51c9497598,0x51224714304210621038a30b34f453698597559,0x1224714304210621038a30b34f45b6555d661a4d4,0x1c50c108419c5136985975596d13cd2cc28e408252,0x40810dd48921038a30b34f45b6555d661a4d4706147]
def p8:List (List Nat):=dW 26 [0,1,4,13,40,121,364,43028131,43030318,490981,57955,117004,274468,805909,2400232,7183201,21523360,64570081,2538572754172,2538960174661,86975899780,10266642958,20726996161,48621271369,142764450196,425193986677]
def pV:List (List Nat):=bC [0,0,66,12417,1052803,84680772,6509830341,486455906566,35601001230663,0x91c50c2044188,0x2881840420c51c9,0x2881840420c51c9,0x2c91c50c204418828c,0xd30a20610108314724b,0x38b24714308110620a30d,0x2881840420c51c9,0x2881840420c51c9,0x1124714308110620a,0x1024714308110620a491,0x4d148a206101083147250,0x144091c50c2044188292453,0x5534522881840420c51c9414,0x3cd30a20610108314724b3965104914d5,0x1755345241458e2c91c50c204418828c34f,0x60f34c2881840420c51c92ce594412453557,0x60f34c2881840420c51c92ce594412453557,0x65755345241458e2c91c50c204418828c34f61a,0x1b6983cd30a20610108314724b3965104914d55d9,0x7195d54d149051638b24714308110620a30d3d869b,0x60f34c2881840420c51c92ce594412453557,0x60f34c2881840420c51c92ce594412453557,0x1f5d54d149051638b24714308110620a30d3d8,0x1e5d54d149051638b24714308110620a30d3d881f,0x85f8183cd30a20610108314724b3965104914d55de,0x2279755345241458e2c91c50c204418828c34f6207e1,0x1d6da60f34c2881840420c51c92ce59441245355765c8e17e07a2,0x60f34c2881840420c51c92ce5944124535579227a07e18dc65a6dd,0xa20610108314726575b69972385f81e8a45d54d149051638b30d3d8,0x1c50c20441a660f34c2ce5944124535579227a07e18dc65a6dd94920a]
def p9:List (List Nat):=dW 35 [6,2,4,13,40,121,364,1093,3280,9841,31367094520,31366858324,31366976422,31367507863,31369102186,358693150,43017196,86063917,200855173,588275662,1750537129,5237321530,15690529804,47071589413,0xb182ad05a7cbbe,0xb181a5fd34e83a,0xb18229816e59fc,0xb184795470d9e5,0xb18b68cd7859a0,0x618587e88e6ea,0xbb20e2bc1c48,411641049421057,960684068340121,0x9ff0c92c0c01a,8372764823747485]
def gD:List (List Nat):=bC [0,1,129,12354,1056835,84676740,6510088389,486455648518,35601017745735,0x91c50c1084188,84676740,11878797509,830053032203,0xa20610204314724d2cc,0x38c2cd24714304210620a,0xf2881840810c51c934b30e,0x40e30b3491c50c108418828f,0x113ca20610204314724d2cc390,0x49038c2cd24714304210620a3d1,0x1344f2881840810c51c934b30e412,0xf2881840810c51c934b30e,0x54e30b3491c50c108418828f,0x51240e30b3491c50c108418828f453595,0xf2881840810c51c934b30e5d5593450494,0x1430421185124114d655738c2cd24718828f,0x193ca2061c934b30e5d55934504946040810c5]
def gE:List (List Nat):=dW 22 [0,1,4,13,40,1535395,1535638,1536367,1538554,1545115,58927,117976,295123,797161,2391484,27901449661,27915798568,27958845289,28087985452,28475405941,3479609947,6966394348]
theorem wY(hh:bH)(hs:hh.seen.length<=9223372036854775806):aN av 205 [.agg hh.ds] (rB (dm hh)):=by
  have seen_le6:∀{s:List aT},seenOk s=true->s.length<=1000000:=λh=>Nat.le_trans (eO h) ac;refine pO func205 call205 ntmps205 results205 λS=>?_;conv=>whnf
  repeat'((first|refine awz ?_|refine aaJ aM 1 36 mq mw ae ae ae rfl ?_|refine cP (ba _ _ _) ?_|refine cP (dM _) ?_|refine cP (nq hh.seen hs) ?_|refine cP (oH hh.seen (seen_le6 aj)) ?_|refine tB ?_ ?_|intro h)<;>conv=>whnf)
  all_goals
    refine bE ?_;first
      |(simp_all[dm,tOk];done)
      |(simp_all[dm,tOk];intros;omega)
theorem g8(hh:bH)(hs:hh.seen.length<=9223372036854775806):aN av 231 [.agg hh.ds] (rB (dm hh)):=by
  have seen_le6:∀{s:List aT},seenOk s=true->s.length<=1000000:=λh=>Nat.le_trans (eO h) ac;refine pO func231 call231 ntmps231 results231 λS=>?_;conv=>whnf
  repeat'((first|refine awz ?_|refine aaJ aM 1 36 mq mw ae ae ae rfl ?_|refine cP (aQ _ _ _) ?_|refine cP (db _) ?_|refine cP (fN hh.seen) ?_|refine cP (oR hh.seen aj) ?_|refine tB ?_ ?_|intro h)<;>conv=>whnf)
  all_goals
    refine bE ?_;first
      |(simp_all[dm,tOk];done)
      |(simp_all[dm,tOk];intros;omega)
theorem xT(h:¬l.length<=2000):dK l=false:=by simp[dK,h]
theorem zA{k:Nat}(hk:k<l.length)(h:cC bL lK l k hk=false):dK l=false:=by
  have:=pQ hk h;simp only[dK,Bool.and_assoc]at*
  simp only[this,Bool.and_false]
theorem xU(h:l.length<=2000)(hc:(l.all bL&&hE lK l)=true):dK l=true:=by
  simp only[dK,Bool.and_assoc,hc,h,decide_true,Bool.and_self]
theorem Ca{e:aO}(h:bL e=true):1<=e.index/\e.index<=2000:=by
  have:=(mZ h).2.2;simp only[aJ,Bool.and_eq_true,decide_eq_true_eq]at this;exact this
theorem JF{α:Type}{P:α->Bool}{Q:α->α->Bool}{l:List α}{j:Nat}{hl:j<l.length}(h:cC P Q l j hl=true):P l[j]=true:=by
  unfold cC at h;exact(Bool.and_eq_true_iff.1 h).1
theorem m0(l:List aO):aN av 294 [.one (.sl (l.map aO.ds))] (rB (dK l)):=by
  refine pO func294 call294 ntmps294 results294 λS=>?_;conv=>whnf
  repeat'(first|refine awz ?_|refine tB ?_ ?_|(intro h;conv=>whnf))
  · rw[xT ari]
  · have h1:l.length<=2000:=ari;clear h;refine aaK (λk:Nat=>k<=l.length/\∀(j:Nat) (hj:j<k) (hl:j<l.length),cC bL lK l j hl=true) (2::3::4::rg 10 36) (λk=>[(10,vI .i64 (k:Int))]) (λ_=>[]) (λk=>l.length-k) 0 ⟨ac,ac⟩ ?_ aaE (λk hR=>?_)<;>(conv=>whnf)
    · exact whd
    · obtain⟨hk,hall⟩:=hR;have hprev:∀h0:0<k,1<=(l[k-1]'(ac)).index/\(l[k-1]'(ac)).index<=2000:=λh0=>Ca (JF (hall (k-1) ac ac));repeat'((first|refine awz ?_|refine aaJ aM 6 26 pU p8 ae ae ae rfl ?_|refine aaO ari (λhlt=>?_)|refine aa3 ari ari (λhpv=>?_)|refine aaH (n:=_-_) ari ari ?_|refine aaH (by have:=hprev ari;omega) (by have:=hprev ari;omega) ?_|refine aaH ari ari ?_|refine cP (lU _) ?_|refine tB ?_ ?_|intro h)<;>conv=>whnf)
      all_goals first
        |(rw[zA hlt (by first|(refine bX _ ?_;simp_all;done)|(rw[bq _ ari];simp_all[lK];done)|(rw[bu _ ari];simp_all;done)|(rw[bq _ ari];simp_all[lK];omega)|(exfalso;assumption))];done)
        | (refine a8.mk ⟨k + 1, ⟨ari, fU hall ari (by first | (refine bX _ ?_; simp_all; done) | (rw [bq _ ari]; simp_all [lK]; done) | (rw [bu _ ari]; simp_all; done) | (rw [bq _ ari]; simp_all [lK]; omega) | (exfalso; assumption))⟩, ari, ?_, aaE⟩
           exact hds)
        |(rw[xU h1 (iz hall ari)])
theorem gH(l:List aO):aN av 249 [.one (.sl (l.map aO.ds))] (rB (dK l)):=by
  refine pO func249 call249 ntmps249 results249 λS=>?_;conv=>whnf
  repeat'(first|refine awz ?_|refine tB ?_ ?_|(intro h;conv=>whnf))
  · rw[xT ari]
  · have h1:l.length<=2000:=ari;clear h;refine aaK (λk:Nat=>k<=l.length/\∀(j:Nat) (hj:j<k) (hl:j<l.length),cC bL lK l j hl=true) (2::3::rg 7 45) (λk=>[(3,vI .i64 (k:Int))]) (λ_=>[]) (λk=>l.length-k) 0 ⟨ac,ac⟩ ?_ aaE (λk hR=>?_)<;>(conv=>whnf)
    · exact whd
    · obtain⟨hk,hall⟩:=hR;have hprev:∀h0:0<k,1<=(l[k-1]'(ac)).index/\(l[k-1]'(ac)).index<=2000:=λh0=>Ca (JF (hall (k-1) ac ac));repeat'((first|refine awz ?_|refine aaJ aM 6 35 pV p9 ae ae ae rfl ?_|refine aaO ari (λhlt=>?_)|refine aa3 ari ari (λhpv=>?_)|refine aaH (n:=_-_) ari ari ?_|refine aaH (by have:=hprev ari;omega) (by have:=hprev ari;omega) ?_|refine aaH ari ari ?_|refine cP (bP _) ?_|refine tB ?_ ?_|intro h)<;>conv=>whnf)
      all_goals first
        |(rw[zA hlt (by first|(refine bX _ ?_;simp_all;done)|(rw[bq _ ari];simp_all[lK];done)|(rw[bu _ ari];simp_all;done)|(rw[bq _ ari];simp_all[lK];omega)|(exfalso;assumption))];done)
        | (refine a8.mk ⟨k + 1, ⟨ari, fU hall ari (by first | (refine bX _ ?_; simp_all; done) | (rw [bq _ ari]; simp_all [lK]; done) | (rw [bu _ ari]; simp_all; done) | (rw [bq _ ari]; simp_all [lK]; omega) | (exfalso; assumption))⟩, ari, ?_, aaE⟩
           exact hds)
        |(rw[xU h1 (iz hall ari)])
theorem zu(h:(aJ b.base 0 2000&&tOk b.time&& !(b.base==0&&b.time !=0))=false):bN b=false:=by simp only[bN,h,Bool.false_and]
theorem zv(h:(decide (b.entries.length<=20)&&dK b.entries)=false):bN b=false:=by
  simp only[Bool.and_eq_false_iff]at h;rcases h with h|h<;>simp only[bN,h,Bool.and_false,Bool.false_and]
theorem HK{x lo hi:Int}(h:(!aJ x lo hi)=false):lo<=x/\x<=hi:=by
  have:aJ x lo hi=true:=by simpa using h
  simpa only[aJ,Bool.and_eq_true,decide_eq_true_eq]using this
theorem wX(b:bn):aN av 206 [.agg b.ds] (rB (bN b)):=by
  rcases he:b.entries with _|⟨e,r⟩
  · have he0:(((b.entries.map aO.ds).length:Int)==0)=true:=by simp[he]
    refine pO func206 call206 ntmps206 results206 λS=>?_;conv=>whnf
    repeat'((first|refine awz ?_|refine aaJ aM 5 22 gD gE ae ae ae rfl ?_|refine cP (ba _ _ _) ?_|refine cP (dM _) ?_|refine cP (m0 b.entries) ?_|refine tB ?_ ?_|intro h)<;>conv=>whnf)
    all_goals
      refine bE ?_;first
        |(rw[zu (by first|(simp_all[tOk];done)|(exfalso;assumption))];done)
        |(rw[zv aA];done)
        |(simp_all[bN,tOk];done)
  · have he0:(((b.entries.map aO.ds).length:Int)==0)=false:=by simp[he];omega
    have i0:∀{K:Nat->List AD->Prop},K 0 e.ds->AIx (b.entries.map aO.ds) 0 K:=λh=>aaG 0 _ rfl (by rw[he];rfl) h;refine pO func206 call206 ntmps206 results206 λS=>?_;conv=>whnf
    repeat'((first|refine awz ?_|refine aaJ aM 5 22 gD gE ae ae ae rfl ?_|refine i0 ?_|refine aaH (by have:=HK (x:=b.base) aj;omega) (by have:=HK (x:=b.base) aj;omega) ?_|refine cP (ba _ _ _) ?_|refine cP (dM _) ?_|refine cP (m0 b.entries) ?_|refine tB ?_ ?_|intro h)<;>conv=>whnf)
    all_goals
      refine bE ?_;first
        |(rw[zu (by first|(simp_all[tOk];done)|(exfalso;assumption))];done)
        |(rw[zv (by simp only[Bool.and_eq_false_iff,decide_eq_false_iff_not];first|(exact .inl ari)|(refine .inr ?_;simp_all;done)|(exfalso;assumption))];done)
        | (have hlen : b.entries.length ≤ 20 := ari
           simp_all[bN,tOk];done)
        | (have hlen : b.entries.length ≤ 20 := ari
           simp_all[bN,tOk];intros;omega)
theorem fz(b:bn):aN av 162 [.agg b.ds] (rB (bN b)):=by
  rcases he:b.entries with _|⟨e,r⟩
  · have he0:(((b.entries.map aO.ds).length:Int)==0)=true:=by simp[he]
    refine pO func162 call162 ntmps162 results162 λS=>?_;conv=>whnf
    repeat'((first|refine awz ?_|refine aaJ aM 3 22 gD gE ae ae ae rfl ?_|refine cP (aQ _ _ _) ?_|refine cP (db _) ?_|refine cP (gH b.entries) ?_|refine tB ?_ ?_|intro h)<;>conv=>whnf)
    all_goals
      refine bE ?_;first
        |(rw[zu (by first|(simp_all[tOk];done)|(exfalso;assumption))];done)
        |(rw[zv aA];done)
        |(simp_all[bN,tOk];done)
  · have he0:(((b.entries.map aO.ds).length:Int)==0)=false:=by simp[he];omega
    have i0:∀{K:Nat->List AD->Prop},K 0 e.ds->AIx (b.entries.map aO.ds) 0 K:=λh=>aaG 0 _ rfl (by rw[he];rfl) h;refine pO func162 call162 ntmps162 results162 λS=>?_;conv=>whnf
    repeat'((first|refine awz ?_|refine aaJ aM 3 22 gD gE ae ae ae rfl ?_|refine i0 ?_|refine aaH (by have:=HK (x:=b.base) aj;omega) (by have:=HK (x:=b.base) aj;omega) ?_|refine cP (aQ _ _ _) ?_|refine cP (db _) ?_|refine cP (gH b.entries) ?_|refine tB ?_ ?_|intro h)<;>conv=>whnf)
    all_goals
      refine bE ?_;first
        |(rw[zu (by first|(simp_all[tOk];done)|(exfalso;assumption))];done)
        |(rw[zv (by simp only[Bool.and_eq_false_iff,decide_eq_false_iff_not];first|(exact .inl ari)|(refine .inr ?_;simp_all;done)|(exfalso;assumption))];done)
        | (have hlen : b.entries.length ≤ 20 := ari
           simp_all[bN,tOk];done)
        | (have hlen : b.entries.length ≤ 20 := ari
           simp_all[bN,tOk];intros;omega)
theorem cO(x:Int):aN av 58 [pI x] (rB (ft x)):=by
  refine pO func58 call58 ntmps58 results58 λS=>?_;conv=>whnf
  repeat'(first|refine awz ?_|refine tB ?_ ?_|(intro h;conv=>whnf))
  all_goals
    refine bE ?_;simp_all[ft]
theorem dp(x:Int):aN av 103 [pI x] (rB (ft x)):=by
  refine pO func103 call103 ntmps103 results103 λS=>?_;conv=>whnf
  repeat'(first|refine awz ?_|refine tB ?_ ?_|(intro h;conv=>whnf))
  all_goals
    refine bE ?_;simp_all[ft]
theorem CZ(x:Int):aN av 414 [pI x] (rB (ft x)):=by
  refine pO func414 call414 ntmps414 results414 λS=>?_;conv=>whnf
  repeat'(first|refine awz ?_|refine tB ?_ ?_|(intro h;conv=>whnf))
  all_goals
    refine bE ?_;simp_all[ft]
theorem wu(p:br):aN av 413 [.agg p.ds] (rB (dU p)):=by
  refine pO func413 call413 ntmps413 results413 λS=>?_;conv=>whnf
  repeat'((first|refine awz ?_|refine cP (aQ _ _ _) ?_|refine tB ?_ ?_|intro h)<;>conv=>whnf)
  all_goals
    refine bE ?_;simp_all[dU]
theorem LA(p:bo):aN av 399 [.agg p.ds] (rB (iN p)):=by
  refine pO func399 call399 ntmps399 results399 λS=>?_;conv=>whnf
  repeat'((first|refine awz ?_|refine cP (w3 _) ?_|refine cP (dM _) ?_|refine cP (mA _) ?_|refine cP (iY _) ?_|refine cP (ba _ _ _) ?_|refine tB ?_ ?_|intro h)<;>conv=>whnf)
  all_goals
    refine bE ?_;simp_all[iN,tOk]
theorem Ar(p:bo):aN av 250 [.agg p.ds] (rB (iN p)):=by
  refine pO func250 call250 ntmps250 results250 λS=>?_;conv=>whnf
  repeat'((first|refine awz ?_|refine cP (aQ _ _ _) ?_|refine tB ?_ ?_|intro h)<;>conv=>whnf)
  all_goals
    refine bE ?_;simp_all[iN,tOk]
theorem H4(p:bo):aN av 55 [.agg p.ds] (rB (p.fired !=0)):=by
  refine pO func55 call55 ntmps55 results55 λS=>?_;conv=>whnf
  repeat'(first|refine awz ?_|exact rr|fail)
theorem ES(l:ge):aN av 309 [.agg l.ds] (rB (d9 l)):=by
  refine pO func309 call309 ntmps309 results309 λS=>?_;conv=>whnf
  repeat'((first|refine awz ?_|refine aaW (oB l ⟨0,0,0⟩) rfl rfl rfl rfl rfl ?_|refine cP (cO _) ?_|refine cP (ba _ _ _) ?_|refine tB ?_ ?_|intro h)<;>conv=>whnf)
  all_goals
    refine bE ?_;simp_all[d9]
theorem fA(l:ge):aN av 335 [.agg l.ds] (rB (d9 l)):=by
  refine pO func335 call335 ntmps335 results335 λS=>?_;conv=>whnf
  repeat'((first|refine awz ?_|refine aaW (oB l ⟨0,0,0⟩) rfl rfl rfl rfl rfl ?_|refine cP (dp _) ?_|refine cP (aQ _ _ _) ?_|refine tB ?_ ?_|intro h)<;>conv=>whnf)
  all_goals
    refine bE ?_;simp_all[d9]
end
section
open Go.Proofs.Tryz
open Go.ChangeShapes Go.WideShapes Go.RowKit
def tC:List (List Nat):=bC [0,1,129,12354,1056835,84676740,6510088389,486455648518,35601017745735,0x50c1084247188,0x2881872440810c5,0xb1430421091c620a,0x30a2061c910204314b,0xd2c50c108424718828c,0x38c2881872440810c52cd,0x38c2881872440810c52cd,0x1034b1430421091c620a30e,0xf34b1430421091c620a30e450,0x49044e30a2061c910204314b34f,0x133cd2c50c108424718828c391412,0x38c2881872440810c52cd,0x1534b1430421091c620a30e,0x51241138c2881872440810c52cd3d3595,0xe30a2061c910204314b3575564cf450494,0x2c50c10842471882985124113d35955cd30e]
def tR:List (List Nat):=dW 22 [0,1,4,13,40,121,364,1093,3280,9841,29524,88573,265720,797161,28011457948,27906232630,27920581537,27958845289,28087985452,28475405941,3484392916,6971177317]
def lH:List (List Nat):=bC [0,0,66,12417,1052803,84680772,6509830341,486455906566,35601001230663,0x91c50c2044188,0x2881840420c51c9,0x2881840420c51c9,0xc24714308110620a,0xb24714308110620a34c,0x38c34a20610108314724b,0xf2c91c50c204418828d30e,0x2881840420c51c9,0x2881840420c51c9,0x4491c50c2044188292,0x1348a206101083147251,0x51124714308110620a493,0x1038c34a20610108314724b3d54d2454,0x2881840420c51c95944524d53cb34c390,0x71430811065d038c34b3d54d245458920a]
def lJ:List (List Nat):=dW 21 [6,2,4,13,40,121,364,1093,3280,9841,10418753182,10417454104,10417631251,10418103643,10419697966,10424480935,301297522,129110638,215204080,602624569,1764886036]
def uZ:List (List Nat):=bC [0,1,129,12354,1056835,84676740,6510088389,486455648518,486455648518,39999064256839,0x206102043147289,0xb24a1c50c1084188,0x3081840810c51ca24b,486455648518,61989296812359,0xd2c928714304210620c3ce,0x1c50c108419038f3082892cd,0x40810d134b24a20c3ce406147,0x48714640e3cc20a24b3510c1084,0x1310204344d2c928830f3901851d2,0x5121c519038f3082892cd443042113,0x154c40810d134b24a20c3ce406147494,0x59448714640e3cc20a24b3510c10844d5,0x59448714640e3cc20a24b3510c10844d5,0x1855310204344d2c928830f3901851d2516,0x1755310204344d2c928830f3901851d2516658,0x59448714640e3cc20a24b3510c10844d5698657,0x1310204344d2c928830f3901851d26d7658695516]
def vp:List (List Nat):=dW 25 [0,1,4,13,40,121,364,12808165,12760051,12766612,12784108,12843157,13020304,1593229,3187552,7174453,21523360,64570081,193710244,581130733,1743392200,5230176601,768835960420,78452649022,172595827849]
def tD:List (List Nat):=bC [0,0,66,12417,1052803,84680772,6509830341,486455906566,486455906566,0x81840420c51c9,0x2891c50c2044188,0xb20610108314724a,486455906566,486455906566,0xd1840420c51ce,0x3ce1c50c204418d,0x1034610108314738f,0xc2891c50c20441882d13ce350,0x1c50c204419240d38f44b20928c]
def tS:List (List Nat):=dW 17 [6,2,4,13,40,121,364,128622937,128614189,128618563,128638246,128697295,3718993,1593229,2656111,7439080,21787987]
section
variable {α:Type} {P:α->Bool} {Q R:α->α->Bool} {l:List α}
theorem sH{k:Nat}(hlt:k<l.length)(hd:∀(i j:Nat) (hi:i<j) (hj:j<k) (hl:j<l.length),R (l[i]'(ac)) l[j]=false)(h:∀(i:Nat) (hi:i<k),R (l[i]'(ac)) l[k]=false):∀(i j:Nat) (hi:i<j) (hj:j<k+1) (hl:j<l.length),R (l[i]'(ac)) l[j]=false:=by
  intro i j hi hj hl;by_cases hjk:j=k
  · subst hjk;exact h i hi
  · exact hd i j hi ac hl
theorem wP{k:Nat}(hk:k=l.length)(hd:∀(i j:Nat) (hi:i<j) (hj:j<k) (hl:j<l.length),R (l[i]'(ac)) l[j]=false):fH R l=true:=mY λi j hi hl=>hd i j hi ac hl
end
theorem Fz{l:List br}{k:Nat}(hk:k<l.length)(h:cC dU gP l k hk=false):bS l=false:=by
  simp only[bS,pQ hk h]
theorem CE{l:List br}(hc:(l.all dU&&hE gP l)=true):bS l=true:=by simp only[bS,hc]
theorem Ua{l:List br}(h:bS l=true):l.length<=10:=by
  simp only[bS,Bool.and_eq_true]at h;obtain⟨h1,h2⟩:=h;have key:∀(j:Nat) (hj:j<l.length),(j:Int)<=l[j].key:=by
    intro j;induction j with
    |zero=>
      intro hj;have:=wL h1 hj;simp only[dU,aJ,Bool.and_eq_true,decide_eq_true_eq]at this;omega
    |succ j ih=>
      intro hj;have:=jK h2 hj;simp only[gP,decide_eq_true_eq]at this;have:=ih ac;omega
  rcases Nat.lt_or_ge 10 l.length with hl|hl
  · have h5:=key 10 hl;have:=wL h1 hl;simp only[dU,aJ,Bool.and_eq_true,decide_eq_true_eq]at this;omega
  · exact hl
theorem Mk{l:List br}(h:¬l.length<=10):bS l=false:=by
  cases hp:bS l with
  |false=>rfl
  |true=>exact absurd (Ua hp) h
theorem lV(l:List br)(hs:l.length<=9223372036854775806):aN av 307 [.one (.sl (l.map br.ds))] (rB (bS l)):=by
  refine pO func307 call307 ntmps307 results307 λS=>?_;conv=>whnf
  repeat'(first|refine awz ?_|fail)
  refine aaK (λk:Nat=>k<=l.length/\∀(j:Nat) (hj:j<k) (hl:j<l.length),cC dU gP l j hl=true) (2::3::4::rg 7 31) (λk=>[(7,vI .i64 (k:Int))]) (λ_=>[]) (λk=>l.length-k) 0 ⟨ac,ac⟩ ?_ aaE (λk hR=>?_)<;>(conv=>whnf)
  · exact whd
  · obtain⟨hk,hall⟩:=hR;repeat'((first|refine awz ?_|refine aaJ aM 4 22 tC tR ae ae ae rfl ?_|refine aaO ari (λhlt=>?_)|refine aa3 ari ari (λhpv=>?_)|refine aaH (n:=_-_) ari ari ?_|refine aaH ari ari ?_|refine cP (mA _) ?_|refine cP (iY _) ?_|refine tB ?_ ?_|intro h)<;>conv=>whnf)
    all_goals first
      |(rw[Fz hlt (by first|(refine bX _ ?_;simp_all;done)|(refine bX _ ?_;simp_all[dU];done)|(rw[bq _ ari];simp_all[gP];done)|(rw[bu _ ari];simp_all;done)|(rw[bq _ ari];simp_all[dU,gP];done)|(rw[bu _ ari];simp_all[dU];done)|(exfalso;assumption))];done)
      | (refine a8.mk ⟨k + 1, ⟨ari, fU hall ari (by first | (refine bX _ ?_; simp_all; done) | (refine bX _ ?_; simp_all [dU]; done) | (rw [bq _ ari]; simp_all [gP]; done) | (rw [bu _ ari]; simp_all; done) | (rw [bq _ ari]; simp_all [dU, gP]; done) | (rw [bu _ ari]; simp_all [dU]; done) | (exfalso; assumption))⟩, ari, ?_, aaE⟩
         exact hds)
      |(rw[CE (iz hall ari)])
theorem fB(l:List br):aN av 334 [.one (.sl (l.map br.ds))] (rB (bS l)):=by
  refine pO func334 call334 ntmps334 results334 λS=>?_;conv=>whnf
  repeat'(first|refine awz ?_|refine tB ?_ ?_|(intro h;conv=>whnf))
  · rw[Mk ari]
  · have h1:l.length<=10:=ari;clear h;refine aaK (λk:Nat=>k<=l.length/\∀(j:Nat) (hj:j<k) (hl:j<l.length),cC dU gP l j hl=true) (2::3::rg 7 30) (λk=>[(3,vI .i64 (k:Int))]) (λ_=>[]) (λk=>l.length-k) 0 ⟨ac,ac⟩ ?_ aaE (λk hR=>?_)<;>(conv=>whnf)
    · exact whd
    · obtain⟨hk,hall⟩:=hR;repeat'((first|refine awz ?_|refine aaJ aM 6 21 lH lJ ae ae ae rfl ?_|refine aaO ari (λhlt=>?_)|refine aa3 ari ari (λhpv=>?_)|refine aaH (n:=_-_) ari ari ?_|refine aaH ari ari ?_|refine cP (wu _) ?_|refine tB ?_ ?_|intro h)<;>conv=>whnf)
      all_goals first
        |(rw[Fz hlt (by first|(refine bX _ ?_;simp_all;done)|(refine bX _ ?_;simp_all[dU];done)|(rw[bq _ ari];simp_all[gP];done)|(rw[bu _ ari];simp_all;done)|(rw[bq _ ari];simp_all[dU,gP];done)|(rw[bu _ ari];simp_all[dU];done)|(exfalso;assumption))];done)
        | (refine a8.mk ⟨k + 1, ⟨ari, fU hall ari (by first | (refine bX _ ?_; simp_all; done) | (refine bX _ ?_; simp_all [dU]; done) | (rw [bq _ ari]; simp_all [gP]; done) | (rw [bu _ ari]; simp_all; done) | (rw [bq _ ari]; simp_all [dU, gP]; done) | (rw [bu _ ari]; simp_all [dU]; done) | (exfalso; assumption))⟩, ari, ?_, aaE⟩
           exact hds)
        |(rw[CE (iz hall ari)])
theorem E8{l:List bo}(h:¬l.length<=8):bO l=false:=by simp[bO,h]
theorem zW{l:List bo}{k:Nat}(hk:k<l.length)(h:cC iN mS l k hk=false):bO l=false:=by
  rcases Bool.and_eq_false_iff.1 (pQ hk h)with h|h<;>simp only[bO,h,Bool.and_false,Bool.false_and]
theorem E7{l:List bo}{j k:Nat}(hj:j<k)(hk:k<l.length)(h:mB (l[j]'(ac)) l[k]=true):bO l=false:=by
  have:=uM (R:=mB) hj hk h;simp only[bO,this,Bool.and_false]
theorem E9{l:List bo}(h:l.length<=8)(hc:(l.all iN&&hE mS l)=true)(hd:fH mB l=true):bO l=true:=by
  rw[Bool.and_eq_true]at hc;simp only[bO,h,hc.1,hc.2,hd,decide_true,Bool.and_self]
theorem LU{l:List bo}{k:Nat}(hk:k<l.length)(h0:(l[k].fired !=0)=true)(h:decide (l[k].fired∈(l.take k).map (·.fired))=true):bO l=false:=by
  obtain⟨m,hm,e⟩:=List.mem_map.1 (of_decide_eq_true h);obtain⟨j,hj,rfl⟩:=List.getElem_of_mem hm;simp at hj e;exact E7 (j:=j) ac hk (by simp only[mB,h0,Bool.true_and];simpa using e)
theorem U5{l:List bo}{k:Nat}(hk:k<l.length)(h:(l[k].fired !=0)=false\/decide (l[k].fired∈(l.take k).map (·.fired))=false){i:Nat}(hi:i<k):mB (l[i]'(ac)) l[k]=false:=by
  rcases h with h|h
  · simp only[mB,h,Bool.false_and]
  · have:=of_decide_eq_false h;simp only[mB,Bool.and_eq_false_iff];refine .inr ?_;simp only[beq_eq_false_iff_ne,ne_eq];intro e;refine this (List.mem_map.2 ⟨l[i],?_,e⟩);rw[List.mem_take_iff_getElem];exact⟨i,ac,rfl⟩
theorem TL{x y:bo}(h:¬x.fired=y.fired\/y.fired=0):mB x y=false:=by
  simp only[mB,Bool.and_eq_false_iff];rcases h with h|h
  · exact .inr (by simpa using h)
  · exact .inl (by simp[h])
theorem Px{l:List bo}{k:Nat}(hlt:k<l.length):((l.take k).map (·.fired))++[l[k].fired]=(l.take (k+1)).map (·.fired):=(ir (λm:bo=>m.fired) hlt).symm
theorem GA{j:bo}(h:(!iN j)=false):(Lit.int .i64 j.fired).wf=true:=by
  have:iN j=true:=by simpa using h
  simp only[iN,aJ,Bool.and_eq_true,decide_eq_true_eq]at this;exact wW ac ac
theorem np(l:List bo):aN av 308 [.one (.sl (l.map bo.ds))] (rB (bO l)):=by
  refine pO func308 call308 ntmps308 results308 λS=>?_;conv=>whnf
  repeat'((first|refine awz ?_|refine abl rfl rfl ?_|refine tB ?_ ?_|intro h)<;>conv=>whnf)
  · rw[E8 ari]
  · have h1:l.length<=8:=ari;clear h;refine aaK (λk:Nat=>k<=l.length/\(∀(j:Nat) (hj:j<k) (hl:j<l.length),cC iN mS l j hl=true)/\∀(i j:Nat) (hi:i<j) (hj:j<k) (hl:j<l.length),mB (l[i]'(ac)) l[j]=false) (2::4::5::rg 12 37) (λk=>[(12,vI .i64 (k:Int))]) (λk=>[(9,ji Tryz.prog 2 k (lN ((l.take k).map (·.fired))))]) (λk=>l.length-k) 0 ⟨ac,ac,ac⟩ ?_ sbW (λk hR=>?_)<;>(conv=>whnf)
    · exact whd
    · obtain⟨hk,hall,hdup⟩:=hR;repeat'((first|refine awz ?_|refine aaJ aM 7 25 uZ vp ae ae ae rfl ?_|refine aaO ari (λhlt=>?_)|refine aa3 ari ari (λhpv=>?_)|refine aaH (n:=_-_) ari ari ?_|refine aaH ari ari ?_|refine cP (LA _) ?_|refine cP (H4 _) ?_|refine abk (id:=9) (N:=k) rfl rfl rfl rfl (GA aj) ?_|refine abq (id:=9) (N:=k) rfl ac rfl rfl rfl (GA aj) ?_|refine tB ?_ ?_|intro h)<;>conv=>whnf)
      all_goals first
        |(rw[zW hlt (by first|(refine bX _ ?_;simp_all;done)|(rw[bq _ ari];simp_all[mS];done)|(rw[bu _ ari];simp_all;done)|(exfalso;assumption))];done)
        |(rw[LU hlt aj aj];done)
        | (refine a8.mk ⟨k + 1, ⟨ari, fU hall ari (by first | (refine bX _ ?_; simp_all; done) | (rw [bq _ ari]; simp_all [mS]; done) | (rw [bu _ ari]; simp_all; done) | (exfalso; assumption)), sH ari hdup fun i hi => U5 ari (by first | exact .inl aj | exact .inr aj) hi⟩, ari, ?_, aaC (congrArg some (congrArg (fun l => ji Tryz.prog 2 (k + 1) (lN l)) (Px ari))) aaE⟩
           exact hds)
        |(rw[E9 h1 (iz hall ari) (wP ari hdup)])
theorem fh(l:List bo):aN av 164 [.one (.sl (l.map bo.ds))] (rB (bO l)):=by
  refine pO func164 call164 ntmps164 results164 λS=>?_;conv=>whnf
  repeat'(first|refine awz ?_|refine tB ?_ ?_|(intro h;conv=>whnf))
  · rw[E8 ari]
  · have h1:l.length<=8:=ari;clear h;refine aaK (λk:Nat=>k<=l.length/\(∀(j:Nat) (hj:j<k) (hl:j<l.length),cC iN mS l j hl=true)/\∀(i j:Nat) (hi:i<j) (hj:j<k) (hl:j<l.length),mB (l[i]'(ac)) l[j]=false) (2::3::4::rg 8 54) (λk=>[(3,vI .i64 (k:Int))]) (λk=>[]) (λk=>l.length-k) 0 ⟨ac,ac,ac⟩ ?_ aaE (λk hR=>?_)<;>(conv=>whnf)
    · exact whd
    · obtain⟨hk,hall,hdup⟩:=hR;repeat'((first|refine awz ?_|refine aaJ aM 6 21 lH lJ ae ae ae rfl ?_|refine aaO ari (λhlt=>?_)|refine aa3 ari ari (λhpv=>?_)|refine aaH (n:=_-_) ari ari ?_|refine cP (Ar _) ?_|refine tB ?_ ?_|intro h)<;>conv=>whnf)
      all_goals first
        |(rw[zW hlt (by first|(refine bX _ ?_;simp_all;done)|(rw[bq _ ari];simp_all[mS];done)|(rw[bu _ ari];simp_all;done)|(exfalso;assumption))];done)
        |(rw[E9 h1 (iz hall ari) (wP ari hdup)];done)
        |skip
      all_goals
        have hkl:k<l.length:=ari;have hch:cC iN mS l k hkl=true:=(by first|(refine bX _ ?_;simp_all;done)|(rw[bq _ ari];simp_all[mS];done)|(rw[bu _ ari];simp_all;done)|(exfalso;assumption));have hfk:0<=l[k].fired:=by
          have:=JF hch;simp only[iN,aJ,Bool.and_eq_true,decide_eq_true_eq]at this;omega
        refine aaK (λq:Nat=>q<=k/\∀(i:Nat) (hi:i<q) (hik:i<k),mB (l[i]'(ac)) l[k]=false) (2::4::rg 38 24) (λq=>[(4,vI .i64 (q:Int))]) (λ_=>[]) (λq=>k-q) 0 ⟨ac,ac⟩ ?_ aaE (λq hQ=>?_)<;>(conv=>whnf)
        · exact whd
        · obtain⟨hq,hno⟩:=hQ;repeat'((first|refine awz ?_|refine aaJ aM 11 17 tD tS ae ae ae rfl ?_|refine aaO (k:=q) ari (λhqt=>?_)|refine aaO (k:=k) ari (λhlt=>?_)|refine aaH ari ari ?_|refine tB ?_ ?_|intro h)<;>conv=>whnf)
          all_goals first
            |(rw[E7 (j:=q) (k:=k) ari ari (by simp_all[mB];omega)];done)
            | (have hjq : ∀ hqk : q < k, mB (l[q]'(ac)) l[k] = false := fun hqk => TL (by first | exact .inl (by simpa using h) | (refine .inr ?_; simp only [gt_iff_lt, decide_eq_false_iff_not] at h; omega))
               refine a8.mk ⟨q+1,⟨ari,λi hi hik=>?_⟩,ari,?_,aaE⟩
               · by_cases hiq:i=q
                 · subst hiq;exact hjq hik
                 · exact hno i ac hik
               · exact hds)
            | (refine a8.mk ⟨k + 1, ⟨ari, fU hall ari hch, sH ari hdup fun i hi => hno i ari hi⟩, ari, ?_, aaE⟩
               exact hds)
end
end Go.Proofs.YthgkdhnlehneeaaGreatDoor
