/- WA4 -/
import Derived.Test.YtknefkdcokgpbaaGreatAwx
import Derived.Test.YtknefkdcokgpbaaGreatWA2
import Derived.Test.YtknefkdcokgpbaaGreatWG
set_option maxHeartbeats 8000000
set_option linter.unusedVariables false
set_option linter.unusedSimpArgs false
set_option maxRecDepth 100000
namespace Go.Proofs.YtknefkdcokgpbaaGreat
section
open Go.Proofs.Tryz
open Go.ChangeShapes Go.WideShapes Go.RowKit
variable {c:Int}{s:List DMark}{k:Nat}{Q:Prop}
def sG:List (List Nat):=bZ [0,0,66,12417,1052803,84680772,6509830341,486455906566,35601001230663,35601001230663,0x24714308110620a,0xb2881840420c51c9,0x3091c50c204418828b,0xd2ca20610108314724c,0x38c24714308110620a2cd,0x81840420c51cf34b28930e,0x40e30928b34f1c50c2044188,0x112061010831473cd2ca24c390,0x112061010831473cd2ca24c390,0x1240e30928b34f1c50c2044188453,0x5134481840420c51cf34b28930e412,0x1549038c24a2cd3c71430811062114d4,0x5944d12061010831473cd2ca24c390495,0x1755240e30928b34f1c50c2044188453516,0x4481840420c51cf34b28930e4185944d2557,0x195d549351661038c24a2cd3c7143081106211,0x6912061010831473cd2ca24c3906165134955d9,0x1b6575524d459840e30928b34f1c50c204418845a,0x71a4481840420c51cf34b28930e4185944d255765b,0x1d6d95d549351661038c24a2cd3c714308110621169c,0x1d6d95d549351661038c24a2cd3c714308110621169c,0x7dc6912061010831473cd2ca24c3906165134955d96dd,0x79c6912061010831473cd2ca24c3906165134955d96dd81f,0x217e075b6575524d459840e30928b34f1c50c204418845a71e,0x89e71a4481840420c51cf34b28930e4185944d255765b7607e1,0x1d6d95d549351661038c24a2cd3c714308110621169c,0x1d6d95d549351661038c24a2cd3c714308110621169c,0x2471a4481840420c51cf34b28930e4185944d255765b765,0x9a575b6575524d459840e30928b34f1c50c204418845a724,0x2791c6912061010831473cd2ca24c3906165134955d96dd966,0x8e17e075b6575524d459840e30928b34f1c50c204418845a71e8a89a5927,0x1d6d95d549351661038c24a2cd3c714308110621169ca679259a889e81f863,0x6912061010831473cd2ca24c3906165134955d9aa385f81e8a89a5927a5c6dd]
def sP:List (List Nat):=fB 40 [6,2,4,13,40,121,364,1093,42646,16402,29524,88573,265720,797161,2391484,7174453,21523360,839411059,322850407,581130733,1743392200,5230176601,15690529804,47071589413,141214768240,423644304721,1270932914164,3812798742493,0xa67358b3f98,0xa80cee290ee4d517,0xa80790f173180a75,0xa8084c3336e2832e,0xa80a3f8d40fe6fc6,0xa810d4dd231cae47,0xa82494ccc97769ca,0x4dc1cc44fb26673,0x2151f10eaf00807,0x3789dea9d51373d,0x9b858be40068bb0,0x1c77893928268909]
def kN:List (List Nat):=bZ [0,0,66,12417,1052803,0,0,391,33222,2384328,90925286754906505]
def kQ:List (List Nat):=fB 10 [58812,58808,58810,58819,58846,1700,728,1214,3401,9962]
theorem aJ{a b c:Nat}(h:(a+b)*c<=140737488355328)(q:Q):(a+b)*c<=140737488355328/\Q:=⟨h,q⟩
theorem aI{xs:List (List AD)}{s:Nat}(h:∀x∈xs,x.length=s)(q:Q):(∀x∈xs,x.length=s)/\Q:=⟨h,q⟩
theorem Dd(a b:Int):aM av 401 [pI a,pI b] (rI (if b>a then b else a)):=by
  refine pO func401 call401 ntmps401 results401 λS=>?_;conv=>whnf
  repeat'(first|refine awz ?_|refine tB ?_ ?_|(intro h;conv=>whnf))
  all_goals
    simp only[decide_eq_true_eq,decide_eq_false_iff_not]at*
    first
      |(rw[if_neg ac];done)
      | (by_cases h2 : b > a
         · rw[if_pos h2]
         · rw[if_neg h2];have:a=b:=ac;rw[this])
theorem fU(s:List DMark)(h:s.length<=1000000):aM av 315 [.one (.sl (s.map DMark.ds))] (.val (.one (.sl (s.map DMark.ds)))):=by
  refine pO func315 call315 ntmps315 results315 λS=>?_;conv=>whnf
  repeat'((first|refine awz ?_|refine aI (λx hx=>by obtain⟨y,_,rfl⟩:=List.mem_map.1 hx;rfl) ?_|refine aJ au ?_|fail)<;>conv=>whnf)
  all_goals rfl
theorem nQ(s:List DMark)(h:s.length<=1000000):aM av 287 [.one (.sl (s.map DMark.ds))] (.val (.one (.sl (s.map DMark.ds)))):=by
  refine pO func287 call287 ntmps287 results287 λS=>?_;conv=>whnf
  repeat'((first|refine awz ?_|refine aI (λx hx=>by obtain⟨y,_,rfl⟩:=List.mem_map.1 hx;rfl) ?_|refine aJ au ?_|fail)<;>conv=>whnf)
  all_goals rfl
theorem Mg(h:¬s.length<=4):seenOk s=false:=by
  cases hs:seenOk s with
  |false=>rfl
  |true=>exact absurd (fq hs) h
theorem fe(s:List DMark):aM av 312 [.one (.sl (s.map DMark.ds))] (rB (seenOk s)):=by
  refine pO func312 call312 ntmps312 results312 λS=>?_;conv=>whnf
  repeat'(first|refine awz ?_|refine tB ?_ ?_|(intro h;conv=>whnf))
  · rw[Mg ari]
  · have h4:s.length<=4:=ari;clear h;refine X5 (λk:Nat=>k<=s.length/\(∀(j:Nat) (hj:j<k) (hl:j<s.length),cu eL jF s j hl=true)/\∀(i j:Nat) (hi:i<j) (hj:j<k) (hl:j<s.length),(s[i]'(ac)).index≠s[j].index) (2::3::4::rg 8 65) (λk=>[(3,vI .i64 (k:Int))]) (λk=>[]) (λk=>s.length-k) 0 ⟨ac,ac,ac⟩ ?_ X4 (λk hR=>?_)<;>(conv=>whnf)
    · exact whd
    · obtain⟨hk,hall,hdup⟩:=hR;repeat'((first|refine awz ?_|refine X9 aN 6 40 sG sP ae ae ae rfl ?_|refine Yc ari (λhlt=>?_)|refine YJ ari ari (λhpv=>?_)|refine X3 (n:=_-_) ari ari ?_|refine cP (fk _) ?_|refine cP (iu _) ?_|refine cP (lq _) ?_|refine tB ?_ ?_|intro h)<;>conv=>whnf)
      all_goals first
        |(rw[xt hlt (by first|(refine bU _ ?_;simp_all[eL];done)|(rw[bo _ ari];simp_all[eL,jF];done)|(rw[br _ ari];simp_all[eL];done))];done)
        | (refine bJ ?_
           have hkk:k=s.length:=ari;rw[C1 (λj hl=>hall j ac hl) (λi j hi hl=>hdup i j hi ac hl)];done)
        |skip
      all_goals
        have hch:cu eL jF s k hlt=true:=(by first|(refine bU _ ?_;simp_all[eL];done)|(rw[bo _ ari];simp_all[eL,jF];done)|(rw[br _ ari];simp_all[eL];done));refine X5 (λq:Nat=>q<=k/\∀(i:Nat) (hi:i<q) (hik:i<k),(s[i]'(ac)).index≠s[k].index) (2::4::rg 57 16) (λq=>[(4,vI .i64 (q:Int))]) (λ_=>[]) (λq=>k-q) 0 ⟨ac,ac⟩ ?_ X4 (λq hQ=>?_)<;>(conv=>whnf)
        · exact whd
        · obtain⟨hq,hno⟩:=hQ;repeat'((first|refine awz ?_|refine X9 aN 11 10 kN kQ ae ae ae rfl ?_|refine Yc (k:=q) ari (λhqt=>?_)|refine Yc (k:=k) ari (λhlt=>?_)|refine X3 ari ari ?_|refine tB ?_ ?_|intro h)<;>conv=>whnf)
          all_goals first
            |(rw[C0 (j:=q) (k:=k) ari ari aq];done)
            | (refine bd.mk ⟨q + 1, ⟨ari, fun i hi hik => ?_⟩, ari, ?_, X4⟩
               · by_cases hiq:i=q
                 · subst hiq;intro e;simp[e]at h
                 · exact hno i ac hik
               · exact hds)
            | (refine bd.mk ⟨k + 1, ⟨ari, fm hall ari hch, Kj ari hdup fun i hi => hno i ari hi⟩, ari, ?_, X4⟩
               exact hds)
theorem Fd(hk:k<s.length):bP (s.take (k+1))=(if s[k].index>bP (s.take k)then s[k].index else bP (s.take k)):=by
  unfold bP;rw[List.take_succ_eq_append_getElem hk,List.foldl_append];rfl
theorem nR(s:List DMark)(hs:s.length<=1000000):aM av 424 [.one (.sl (s.map DMark.ds))] (rI (bP s)):=by
  refine pO func424 call424 ntmps424 results424 λS=>?_;conv=>whnf
  repeat'(first|refine awz ?_|fail)
  refine X5 (λp:Nat×Int=>p.1<=s.length/\p.2=bP (s.take p.1)) (3::5::rg 8 9) (λp=>[(3,vI .i64 p.2),(8,vI .i64 (p.1:Int))]) (λ_=>[]) (λp=>s.length-p.1) (0,0) ⟨by simp,rfl⟩ ?_ X4 (λp hR=>?_)<;>(conv=>whnf)
  · exact whd
  · obtain⟨k,v⟩:=p;obtain⟨hk,hv⟩:=hR;simp only at hk hv;repeat'((first|refine awz ?_|refine Yc ari (λhlt=>?_)|refine X3 ari ari ?_|refine tB ?_ ?_|intro h)<;>conv=>whnf)
    all_goals first
      | (refine bd.mk ⟨(k + 1, if s[k].index > v then s[k].index else v), ⟨ari, by simp only [Fd (s := s) (k := k) ari, hv]⟩, by simp only; omega, ?_, X4⟩
         exact hds)
      | (have hkk : k = s.length := ari
         subst hkk;rw[List.take_length]at hv;rw[hv])
theorem oc(s:List DMark)(h:seenOk s=true):aM av 313 [.one (.sl (s.map DMark.ds))] (rI (bP s)):=by
  have h':(!seenOk s)=false:=by simp[h]
  have hl:=fq h;refine pO func313 call313 ntmps313 results313 λS=>?_;conv=>whnf
  repeat'(first|refine awz ?_|(refine cP (fe s) ?_;conv=>whnf)|fail)
  refine X5 (λp:Nat×Int=>p.1<=s.length/\p.2=bP (s.take p.1)) (3::4::rg 9 13) (λp=>[(3,vI .i64 p.2),(4,vI .i64 (p.1:Int))]) (λ_=>[]) (λp=>s.length-p.1) (0,0) ⟨by simp,rfl⟩ ?_ X4 (λp hR=>?_)<;>(conv=>whnf)
  · exact whd
  · obtain⟨k,v⟩:=p;obtain⟨hk,hv⟩:=hR;simp only at hk hv;repeat'((first|refine awz ?_|refine Yc ari (λhlt=>?_)|refine X3 ari ari ?_|refine cP (Dd _ _) ?_|refine tB ?_ ?_|intro h)<;>conv=>whnf)
    all_goals first
      | (refine bd.mk ⟨(k + 1, if s[k].index > v then s[k].index else v), ⟨ari, by simp only [Fd (s := s) (k := k) ari, hv]⟩, by simp only; omega, ?_, X4⟩
         exact hds)
      | (have hkk : k = s.length := ari
         subst hkk;rw[List.take_length]at hv;rw[hv])
theorem Ol(hk:k<s.length)(hno:∀(j:Nat) (hj:j<k) (hl:j<s.length),s[j].client≠c)(h:s[k].client=c):fK s c=s[k]:=by
  unfold fK;have e:s=s.take k++s[k]::s.drop (k+1):=aj;have h0:(s.take k).find? (λm=>m.client==c)=none:=by
    rw[List.find?_eq_none];intro m hm;obtain⟨i,hi,rfl⟩:=List.getElem_of_mem hm;simp at hi;have:=hno i ac ac;simpa using this
  have:s.find? (λm=>m.client==c)=some s[k]:=by
    conv=>lhs;rw[e]
    rw[List.find?_append,h0,List.find?_cons];simp[h]
  rw[this];rfl
theorem Om(hno:∀(j:Nat) (hl:j<s.length),s[j].client≠c):fK s c=⟨0,0,0⟩:=by
  unfold fK;have:s.find? (λm=>m.client==c)=none:=by
    rw[List.find?_eq_none];intro m hm;obtain⟨i,hi,rfl⟩:=List.getElem_of_mem hm;simpa using hno i hi
  rw[this];rfl
theorem Fz(s:List DMark)(c:Int)(h:seenOk s=true):aM av 457 [.one (.sl (s.map DMark.ds)),pI c] (.val (.agg (fK s c).ds)):=by
  have h':(!seenOk s)=false:=by simp[h]
  have hl:=fq h;refine pO func457 call457 ntmps457 results457 λS=>?_;conv=>whnf
  repeat'(first|refine awz ?_|(refine cP (fe s) ?_;conv=>whnf)|fail)
  refine X5 (λk:Nat=>k<=s.length/\∀(j:Nat) (hj:j<k) (hl:j<s.length),s[j].client≠c) (5::rg 10 17) (λk=>[(5,vI .i64 (k:Int))]) (λ_=>[(4,.cells 236 [.d (dI 0),.d (dI 0),.d (dI 0)])]) (λk=>s.length-k) 0 ⟨ac,ac⟩ ?_ sbW (λk hR=>?_)<;>(conv=>whnf)
  · exact whd
  · obtain⟨hk,hno⟩:=hR;repeat'((first|refine awz ?_|refine Yc ari (λhlt=>?_)|refine X3 ari ari ?_|refine tB ?_ ?_|intro h)<;>conv=>whnf)
    all_goals first
      | (refine bd.mk ⟨k + 1, ⟨ari, fun j hj hl => ?_⟩,ac, ?_, sbW⟩
         · by_cases hjk:j=k
           · subst hjk;simp_all
           · exact hno j ac hl
         · exact hds)
      |(rw[Ol (k:=k) hlt hno aq];rfl)
      | (have hkk : k = s.length := ari
         rw[Om λj hl=>hno j ac hl];rfl)
theorem CT(s:List DMark)(c q:Int)(h:seenOk s=true)(hc:aK c 2 5=true)(hq:aK q 1 2000=true):aM av 403 [.one (.sl (s.map DMark.ds)),pI c,pI q] (rB (decide ((fK s c).seq<q))):=by
  refine pO func403 call403 ntmps403 results403 λS=>?_;conv=>whnf
  repeat'((first|refine awz ?_|refine cP (fe s) ?_|refine cP (Fz s c h) ?_|refine cP (fk _) ?_|refine cP (iu _) ?_|exact rr|fail)<;>conv=>whnf)
  all_goals first
    |rfl
    |simp_all
end
section
open Go.Proofs.Tryz
open Go.ChangeShapes Go.WideShapes Go.RowKit
variable {e:DEntry}{m x:DMark}{s:List DMark}{p:List DMark×Bool}
def sH:List (List Nat):=bZ [0,1,129,12354,1056835,1056835,101453956,1056835,135008388,0x50c10841c6248,0x2882461c40810c5,0x40810cb14718920a,0x30a20918714b0c1084,0xd1020432c51c624828c,0x38c2882461c52c304210d,0xd1020432c51c624828c,0x40c2882461c52c304210d,0xf3440810cb14718920a30e450,0x3440810cb14718920a31241138f]
def sQ:List (List Nat):=fB 17 [0,1,4,13,19480,17698,17941,2146,4333,9841,29524,88573,265720,115588417,117182740,13551745,27900652]
def q7:List (List Nat):=bZ [0,1,129,12354,12354,67637445,6527127684,485365133638,12354,2367555,0x206143042107289,0x30422c9287105188]
def rq:List (List Nat):=fB 10 [0,1,4,52663,52555,52609,52852,53581,6547,13108]
def q8:List (List Nat):=bZ [0,0,66,12417,1052803,0,6,346852442566]
def rt:List (List Nat):=fB 7 [1950,1946,1948,1957,1984,242,485]
def CD(r:List DMark×Bool):AP:= .tup [.one (.sl (r.1.map DMark.ds)),.one (dB r.2)]
def qk(s:List DMark)(e:DEntry):List DMark×Bool:=match d7 s e with|some o=>(o,true)|none=>(s,false)
theorem mq(h:dd e=true):aK e.client 2 5=true/\aK e.seq 1 2000=true/\aK e.index 1 2000=true:=by
  simp only[dd,Bool.and_eq_true]at h;exact⟨h.1.1.2,h.1.2,h.1.1.1.1⟩
theorem FX(x:DMark):∀(s:List DMark) (p:List DMark×Bool),(s.foldl (fN x) p).1.length<=p.1.length+2*s.length
  |[],p=>by simp
  |m::r,p=>by
    have h1:=FX x r (fN x p m);have h2:(fN x p m).1.length<=p.1.length+2:=by
      unfold fN;simp only;split<;>split<;>simp
    simp only[List.foldl_cons,List.length_cons];omega
theorem qF(x:DMark){k:Nat}(hk:k<s.length):(s.take (k+1)).foldl (fN x) ([],false)=fN x ((s.take k).foldl (fN x) ([],false)) s[k]:=by
  rw[List.take_succ_eq_append_getElem hk,List.foldl_append];rfl
theorem z7(h1:(!p.2&&decide (m.client>=x.client))=true)(h2:(m.client !=x.client)=true):fN x p m=(p.1++[x]++[m],true):=by simp only[fN,h1,h2,if_true]
theorem z8(h1:(!p.2&&decide (m.client>=x.client))=true)(h2:(m.client !=x.client)=false):fN x p m=(p.1++[x],true):=by simp only[fN,h1,h2,if_true];rfl
theorem z9(h1:(!p.2&&decide (m.client>=x.client))=false)(h2:(m.client !=x.client)=true):fN x p m=(p.1++[m],p.2):=by simp only[fN,h1,h2,if_true];rfl
theorem Aa(h1:(!p.2&&decide (m.client>=x.client))=false)(h2:(m.client !=x.client)=false):fN x p m=(p.1,p.2):=by simp only[fN,h1,h2];rfl
theorem Co(h:(dd e&&mW s e&&decide (bP s<e.index))=false):d7 s e=none:=by simp[d7,h]
theorem y4(h:(dd e&&mW s e&&decide (bP s<e.index))=true):d7 s e=some (putMark s e.mark):=by simp only[d7,h,if_true]
theorem FA(s:List DMark)(e:DEntry)(hseen:seenOk s=true):aM av 316 [.one (.sl (s.map DMark.ds)),.agg e.ds] (CD (qk s e)):=by
  have h':(!seenOk s)=false:=by simp[hseen]
  have hl:=fq hseen;refine pO func316 call316 ntmps316 results316 λS=>?_;conv=>whnf
  repeat'((first|refine awz ?_|refine X9 aN 3 17 sH sQ ae ae ae rfl ?_|refine cP (fe s) ?_|refine cP (lm e) ?_|refine cP (CT s e.client e.seq hseen (by simp_all[dd]) (by simp_all[dd])) ?_|refine cP (oc s hseen) ?_|refine cP (fU s ac) ?_|refine tB ?_ ?_|intro h)<;>conv=>whnf)
  all_goals first
    | (have hno : d7 s e = none := Co (by first | (simp_all [mW]; done) | (simp_all [mW]; intros; omega))
       simp only[qk,hno];rfl)
    |skip
  have hyes:d7 s e=some (putMark s e.mark):=y4 (by first|(simp_all[mW];done)|(simp_all[mW];omega));simp only[qk,hyes];refine X5 (λp:Nat×List DMark×Bool=>p.1<=s.length/\p.2=(s.take p.1).foldl (fN e.mark) ([],false)) (42::[7,8,9,43,44,45,46,47,48,49,50,51,52,53,54,55,56,57,58,59,60,61,62,63,64,65,66,67,68,69,70,71,72,73,74,75,76,77,78,79]) (λp=>[(7,.one (.own 42)),(8,vB p.2.2),(9,vI .i64 (p.1:Int))]) (λp=>[(42,.row 236 3 (p.2.1.map DMark.ds)),(6,.cells 236 (e.mark.ds.map .d)),(3,.cells 332 (e.ds.map .d))]) (λp=>s.length-p.1) (0,[],false) ⟨by simp,rfl⟩ ?_ sbW (λp hR=>?_)<;>(conv=>whnf)
  · exact whd
  · obtain⟨hk,hv⟩:=hR;have hlen:=FX e.mark (s.take p.1) ([],false);rw[<-hv]at hlen;have htl:(s.take p.1).length<=4:=al;simp only[List.length_nil]at hlen;have hfin:=FW e.mark s [] (oh hseen);repeat'((first|refine awz ?_|refine X9 aN 11 10 q7 rq ae ae ae rfl ?_|refine X9 aN 14 7 q8 rt ae ae ae rfl ?_|refine Yc ari (λhlt=>?_)|refine X3 ari ari ?_|refine aJ au ?_|refine tB ?_ ?_|intro h)<;>conv=>whnf)
    all_goals first
      | (have he : fN e.mark p.2 (s[p.1]'ari) = (p.2.1 ++ [e.mark] ++ [s[p.1]'ari], true) := (by first | exact z7 (by clear hfin hlen hv; first | (simp_all [DEntry.mark]; done) | (simp_all [DEntry.mark]; omega)) (by clear hfin hlen hv; first | (simp_all [DEntry.mark]; done) | (simp_all [DEntry.mark]; omega)) | exact z8 (by clear hfin hlen hv; first | (simp_all [DEntry.mark]; done) | (simp_all [DEntry.mark]; omega)) (by clear hfin hlen hv; first | (simp_all [DEntry.mark]; done) | (simp_all [DEntry.mark]; omega)) | exact z9 (by clear hfin hlen hv; first | (simp_all [DEntry.mark]; done) | (simp_all [DEntry.mark]; omega)) (by clear hfin hlen hv; first | (simp_all [DEntry.mark]; done) | (simp_all [DEntry.mark]; omega)) | exact Aa (by clear hfin hlen hv; first | (simp_all [DEntry.mark]; done) | (simp_all [DEntry.mark]; omega)) (by clear hfin hlen hv; first | (simp_all [DEntry.mark]; done) | (simp_all [DEntry.mark]; omega)))
         (refine bd.mk ⟨(p.1 + 1, p.2.1 ++ [e.mark] ++ [s[p.1]'ari], true), ⟨ari, by simp only [qF e.mark (s := s) (k := p.1) ari, ← hv, he]⟩, ari, ?_, X0 (congrArg some (congrArg (AO.row 236 3) ay)) sbW⟩
          exact hds))
      | (have he : fN e.mark p.2 (s[p.1]'ari) = (p.2.1 ++ [e.mark], true) := (by first | exact z7 (by clear hfin hlen hv; first | (simp_all [DEntry.mark]; done) | (simp_all [DEntry.mark]; omega)) (by clear hfin hlen hv; first | (simp_all [DEntry.mark]; done) | (simp_all [DEntry.mark]; omega)) | exact z8 (by clear hfin hlen hv; first | (simp_all [DEntry.mark]; done) | (simp_all [DEntry.mark]; omega)) (by clear hfin hlen hv; first | (simp_all [DEntry.mark]; done) | (simp_all [DEntry.mark]; omega)) | exact z9 (by clear hfin hlen hv; first | (simp_all [DEntry.mark]; done) | (simp_all [DEntry.mark]; omega)) (by clear hfin hlen hv; first | (simp_all [DEntry.mark]; done) | (simp_all [DEntry.mark]; omega)) | exact Aa (by clear hfin hlen hv; first | (simp_all [DEntry.mark]; done) | (simp_all [DEntry.mark]; omega)) (by clear hfin hlen hv; first | (simp_all [DEntry.mark]; done) | (simp_all [DEntry.mark]; omega)))
         (refine bd.mk ⟨(p.1 + 1, p.2.1 ++ [e.mark], true), ⟨ari, by simp only [qF e.mark (s := s) (k := p.1) ari, ← hv, he]⟩, ari, ?_, X0 (congrArg some (congrArg (AO.row 236 3) ay)) sbW⟩
          exact hds))
      | (have he : fN e.mark p.2 (s[p.1]'ari) = (p.2.1 ++ [s[p.1]'ari], p.2.2) := (by first | exact z7 (by clear hfin hlen hv; first | (simp_all [DEntry.mark]; done) | (simp_all [DEntry.mark]; omega)) (by clear hfin hlen hv; first | (simp_all [DEntry.mark]; done) | (simp_all [DEntry.mark]; omega)) | exact z8 (by clear hfin hlen hv; first | (simp_all [DEntry.mark]; done) | (simp_all [DEntry.mark]; omega)) (by clear hfin hlen hv; first | (simp_all [DEntry.mark]; done) | (simp_all [DEntry.mark]; omega)) | exact z9 (by clear hfin hlen hv; first | (simp_all [DEntry.mark]; done) | (simp_all [DEntry.mark]; omega)) (by clear hfin hlen hv; first | (simp_all [DEntry.mark]; done) | (simp_all [DEntry.mark]; omega)) | exact Aa (by clear hfin hlen hv; first | (simp_all [DEntry.mark]; done) | (simp_all [DEntry.mark]; omega)) (by clear hfin hlen hv; first | (simp_all [DEntry.mark]; done) | (simp_all [DEntry.mark]; omega)))
         (refine bd.mk ⟨(p.1 + 1, p.2.1 ++ [s[p.1]'ari], p.2.2), ⟨ari, by simp only [qF e.mark (s := s) (k := p.1) ari, ← hv, he]⟩, ari, ?_, X0 (congrArg some (congrArg (AO.row 236 3) ay)) sbW⟩
          exact hds))
      | (have he : fN e.mark p.2 (s[p.1]'ari) = (p.2.1, p.2.2) := (by first | exact z7 (by clear hfin hlen hv; first | (simp_all [DEntry.mark]; done) | (simp_all [DEntry.mark]; omega)) (by clear hfin hlen hv; first | (simp_all [DEntry.mark]; done) | (simp_all [DEntry.mark]; omega)) | exact z8 (by clear hfin hlen hv; first | (simp_all [DEntry.mark]; done) | (simp_all [DEntry.mark]; omega)) (by clear hfin hlen hv; first | (simp_all [DEntry.mark]; done) | (simp_all [DEntry.mark]; omega)) | exact z9 (by clear hfin hlen hv; first | (simp_all [DEntry.mark]; done) | (simp_all [DEntry.mark]; omega)) (by clear hfin hlen hv; first | (simp_all [DEntry.mark]; done) | (simp_all [DEntry.mark]; omega)) | exact Aa (by clear hfin hlen hv; first | (simp_all [DEntry.mark]; done) | (simp_all [DEntry.mark]; omega)) (by clear hfin hlen hv; first | (simp_all [DEntry.mark]; done) | (simp_all [DEntry.mark]; omega)))
         (refine bd.mk ⟨(p.1 + 1, p.2.1, p.2.2), ⟨ari, by simp only [qF e.mark (s := s) (k := p.1) ari, ← hv, he]⟩, ari, ?_, X0 (congrArg some (congrArg (AO.row 236 3) ay)) sbW⟩
          exact hds))
      |(exfalso;clear hfin hlen hv;simp_all;done)
      |(exfalso;clear hfin hlen hv;simp_all;omega)
      | (have hkk : p.1 = s.length := ari
         rw[hkk,List.take_length]at hv;rw[<-hv]at hfin;have hf:putMark s e.mark=p.2.1++[e.mark]:=aq;rw[hf];simp only[CD,List.map_append,List.map_cons,List.map_nil];rfl)
      | (have hkk : p.1 = s.length := ari
         rw[hkk,List.take_length]at hv;rw[<-hv]at hfin;have hf:putMark s e.mark=p.2.1:=aq;rw[hf];rfl)
end
section
open Go.Proofs.Tryz
open Go.ChangeShapes Go.WideShapes Go.RowKit
theorem JJ{s:List DMark}{l:List DEntry}(h:seenOk s=false):bL s l=([],false):=by simp[bL,h]
theorem JK{s:List DMark}{l:List DEntry}(h:seenOk s=true)(hl:2000<l.length):bL s l=(s,false):=by simp[bL,h,hl]
theorem uk{s:List DMark}{l:List DEntry}(h:seenOk s=true)(hl:¬2000<l.length)(hf:bY s l=none):bL s l=(s,false):=by simp[bL,h,hl,hf]
theorem mH{s c:List DMark}{l:List DEntry}(h:seenOk s=true)(hl:¬2000<l.length)(hf:bY s l=some c):bL s l=(c,true):=by simp[bL,h,hl,hf]
theorem Jw{s c:List DMark}{e:DEntry}(h:d7 s e=some c):qk s e=(c,true):=by simp[qk,h]
theorem Jv{s:List DMark}{e:DEntry}(h:d7 s e=none):qk s e=(s,false):=by simp[qk,h]
theorem oe(s:List DMark)(l:List DEntry):aM av 217 [.one (.sl (s.map DMark.ds)),.one (.sl (l.map DEntry.ds))] (CD (bL s l)):=by
 cases hseen:seenOk s with
 |false=>
  have h':(!seenOk s)=true:=by simp[hseen]
  rw[JJ hseen];refine pO func217 call217 ntmps217 results217 λS=>?_;conv=>whnf
  repeat'(first|refine awz ?_|(refine cP (fe s) ?_;conv=>whnf)|exact rr|fail)
  all_goals rfl
 |true=>
  have h':(!seenOk s)=false:=by simp[hseen]
  have hs4:=fq hseen;refine pO func217 call217 ntmps217 results217 λS=>?_;conv=>whnf
  repeat'((first|refine awz ?_|refine cP (fe s) ?_|refine cP (fU s ac) ?_|refine tB ?_ ?_|intro h)<;>conv=>whnf)
  ·rw[JK hseen ari];rfl
  ·have hl:¬2000<l.length:=ari;clear h;refine X5 (λp:Nat×List DMark=>p.1<=l.length/\bY s (l.take p.1)=some p.2) (rg 4 6++(rg 21 20)) (λp=>[(6,.one (.d (.sl (p.2.map DMark.ds)))),(7,vI .i64 (p.1:Int))]) (λ_=>[]) (λp=>l.length-p.1) (0,s) ⟨by simp,rfl⟩ ?_ X4 (λp hR=>?_)<;>(conv=>whnf)
   ·exact whd
   ·obtain⟨hk,hf⟩:=hR;have hcur:=mA hseen hf;by_cases hlt:p.1<l.length
    ·have hlt':decide ((p.1:Int)<((l.map DEntry.ds).length:Int))=true:=al;cases hm:d7 p.2 l[p.1]with
     |none=>
      have hmk:=Jv hm;have hM:=FA p.2 l[p.1] hcur;rw[hmk]at hM;repeat'((first|refine awz ?_|refine Yc ari (λhlt=>?_)|refine cP (hM) ?_|refine cP (fU s ac) ?_|fail)<;>conv=>whnf)
      rw[uk hseen hl (tZ hlt hf hm)];rfl
     |some c=>
      have hmk:=Jw hm;have hM:=FA p.2 l[p.1] hcur;rw[hmk]at hM;repeat'((first|refine awz ?_|refine Yc ari (λhlt=>?_)|refine X3 ari ari ?_|refine cP (hM) ?_|fail)<;>conv=>whnf)
      refine bd.mk ⟨(p.1+1,c),⟨ari,by simp only[t7 hlt hf,hm]⟩,ari,?_,X4⟩;exact hds
    ·have hlt':decide ((p.1:Int)<((l.map DEntry.ds).length:Int))=false:=al;repeat'(first|refine awz ?_|fail)
     have hkk:p.1=l.length:=ac;rw[hkk,List.take_length]at hf;rw[mH hseen hl hf];rfl
theorem KI(w:World):(zeroValue 236).run Tryz.prog w= .ok (DMark.v ⟨0,0,0⟩) w:=by kernel_rfl
theorem Ft(m:DMark)(Z:Nat->Prop)(w:World)(ρ:Nat->Value):bX Z w ρ (.agg (m.ds.map .d)) m.v:=by
 have:m.v= .agg [.int .i64 m.client,.int .i64 m.seq,.int .i64 m.index].toArray:=rfl;rw[this];refine .agg _ _ rfl λi c u hc hu=>?_;match i,hc,hu with
 |0,hc,hu=>simp[DMark.ds]at hc hu;subst hc hu;exact bR.pv _ rfl
 |1,hc,hu=>simp[DMark.ds]at hc hu;subst hc hu;exact bR.pv _ rfl
 |2,hc,hu=>simp[DMark.ds]at hc hu;subst hc hu;exact bR.pv _ rfl
 |i+3,hc,hu=>simp[DMark.ds]at hc
theorem Qv(m:DMark):∀(Z:Nat->Prop) (w:World) (ρ:Nat->Value) (y:Value),bX Z w ρ (.agg (m.ds.map .d)) y->y=m.v:=λZ w ρ y h=>xm rfl h
section
variable {S:bV} {o:Oper} {st:ASt} {K:ASt->Prop} {x i v:Operand} {id:Nat} {n:Int} {N:Nat} {s:List DMark}
theorem Z5(ho:o.op= .lookup 425 x i false)(hx:aEv st x λv=>v= .one (.own id))(hi:aEv st i λv=>v=vI .i64 n)(hob:aOb st.ob id λo=>o=jc Tryz.prog 2 N (iB s))(hn:(Lit.int .i64 n).wf=true)
  (hK:dR st o.dst (.agg ((fK s n).ds.map .d)) K):AOp av S o st K:=
 ZO (E:=av) ho underlying425 underlying2 KI hx hi hob hn (.agg ((fK s n).ds.map .d)) (λZ w ρ=>by rw[Cp];exact Ft ..) hK
theorem Y9(ho:o.op= .lookup 425 x i true)(hx:aEv st x λv=>v= .one (.own id))(hi:aEv st i λv=>v=vI .i64 n)(hob:aOb st.ob id λo=>o=jc Tryz.prog 2 N (iB s))(hn:(Lit.int .i64 n).wf=true)
  (hK:dR st o.dst (.tup [.agg ((fK s n).ds.map .d),vB (s.find? λm=>m.client==n).isSome]) K):AOp av S o st K:=
 ZO (E:=av) ho underlying425 underlying2 KI hx hi hob hn (.agg ((fK s n).ds.map .d)) (λZ w ρ=>by rw[Cp];exact Ft ..) (show dR st o.dst (.tup [.agg ((fK s n).ds.map .d),vB (iB s n).isSome]) K from(by simp only[iB,Option.isSome_map];exact hK))
theorem ZG{f:Int->Option Value}(m:DMark)(ho:o.op= .mapUpdate 425 x i v)(hN:N<9223372036854775807)(hx:aEv st x λv=>v= .one (.own id))(hi:aEv st i λv=>v=vI .i64 m.client)(hob:aOb st.ob id λo=>o=jc Tryz.prog 2 N f)(hn:(Lit.int .i64 m.client).wf=true)
  (hv:aEv st v λv=>v= .agg (m.ds.map .d)) {g:Int->Option Value} (hg:rJ f m.client (some m.v)=g)
  (hK:gH id (jc Tryz.prog 2 (N+1) g) st.ob λob=>dR ⟨st.tm,ob⟩ o.dst (.one .und) K):AOp av S o st K:=by
 subst hg;refine ZP (E:=av) (u:=m.v) ho underlying425 underlying2 hN hx hi hob hn ?_ hK;exact(dK (st:=st) v).mono (λx (h:x= .agg (m.ds.map .d))=>by subst h;exact Qv m) hv
end
end
section
open Go.Proofs.Tryz
open Go.ChangeShapes Go.WideShapes Go.RowKit
variable {e:DEntry}{s:List DMark}
theorem O9(h:seenOk s=true){k:Nat}(hk:k<s.length):(Lit.int .i64 s[k].client).wf=true:=by
  have:=uv h (List.getElem_mem hk);simp only[eL,aK,Bool.and_eq_true,decide_eq_true_eq]at this;exact t9 ac ac
theorem Dv(h:(!dd e)=false):(Lit.int .i64 e.client).wf=true:=by
  have:=(mq (e:=e) (by simpa using h)).1;simp only[aK,Bool.and_eq_true,decide_eq_true_eq]at this;exact t9 ac ac
theorem Jy(s:List DMark)(e:DEntry):rJ (rJ (iB s) e.client none) e.mark.client (some e.mark.v)=iB (putMark s e.mark):=LV s e.mark
theorem QA(h:dd e=false\/e.seq<=(fK s e.client).seq\/e.index<=bP s):d7 s e=none:=by
  refine Co ?_;rcases h with h|h|h
  · simp[h]
  · have:mW s e=false:=by simp[mW];omega
    simp[this]
  · have:decide (bP s<e.index)=false:=al;simp[this]
theorem T7(h:dd e=true)(h2:¬e.seq<=(fK s e.client).seq)(h3:¬e.index<=bP s):d7 s e=some (putMark s e.mark):=by
  refine y4 ?_;have a:mW s e=true:=by simp[mW];omega
  have b:decide (bP s<e.index)=true:=al;simp[h,a,b]
theorem Fc(h3:¬e.index<=bP s):bP (putMark s e.mark)=e.index:=Jg (m:=e.mark) (by simp[DEntry.mark];omega)
theorem nP(s:List DMark)(l:List DEntry)(hs:s.length<=9223372036854775806):aM av 361 [.one (.sl (s.map DMark.ds)),.one (.sl (l.map DEntry.ds))] (CD (bL s l)):=by
  cases hseen:seenOk s with
  |false=>
    have h':(!seenOk s)=true:=by simp[hseen]
    rw[JJ hseen];refine pO func361 call361 ntmps361 results361 λS=>?_;conv=>whnf
    repeat'(first|refine awz ?_|(refine cP (mD s hs) ?_;conv=>whnf)|exact rr|fail)
    all_goals rfl
  |true=>
    have h':(!seenOk s)=false:=by simp[hseen]
    have hs4:=fq hseen;refine pO func361 call361 ntmps361 results361 λS=>?_;conv=>whnf
    repeat'((first|refine awz ?_|refine cP (mD s hs) ?_|refine cP (nQ s ac) ?_|refine AOp.makeMap (E:=av) 2 rfl rfl ?_|refine tB ?_ ?_|intro h)<;>conv=>whnf)
    · rw[JK hseen ari];rfl
    · have hl:¬2000<l.length:=ari;clear h;refine X5 (λk:Nat=>k<=s.length) (8::rg 27 9) (λk=>[(27,vI .i64 (k:Int))]) (λk=>[(24,jc Tryz.prog 2 k (iB (s.take k)))]) (λk=>s.length-k) 0 ac ?_ sbW (λk hk=>?_)<;>(conv=>whnf)
      · exact whd
      · repeat'((first|refine awz ?_|refine Yc ari (λhlt=>?_)|refine X3 ari ari ?_|refine ZG (id:=24) (N:=k) (s[k]'ari) rfl ac rfl rfl rfl (O9 hseen ari) rfl (Jz (oh hseen) ari) ?_|refine cP (nR s ac) ?_|refine tB ?_ ?_|intro h)<;>conv=>whnf)
        · refine bd.mk ⟨k+1,hlt,ac,?_,sbW⟩;exact hds
        · have hkk:k=s.length:=ari;subst hkk;rw[List.take_length];clear h hk;refine X5 (λp:Nat×List DMark×Int=>p.1<=l.length/\bY s (l.take p.1)=some p.2.1/\p.2.2=bP p.2.1) (4::5::9::11::rg 40 41) (λp=>[(9,vI .i64 p.2.2),(40,vI .i64 (p.1:Int))]) (λp=>[(24,jc Tryz.prog 2 (s.length+p.1) (iB p.2.1))]) (λp=>l.length-p.1) (0,s,bP s) ⟨by simp,rfl,rfl⟩ ?_ sbW (λp hR=>?_)<;>(conv=>whnf)
          · exact whd
          · obtain⟨hk,hf,hla⟩:=hR;have hcur:=mA hseen hf;repeat'((first|refine awz ?_|refine Yc ari (λhlt=>?_)|refine X3 ari ari ?_|refine cP (k8 _) ?_|refine cP (nQ s ac) ?_|refine Z5 (id:=24) (N:=s.length+p.1) (s:=p.2.1) rfl rfl rfl rfl (Dv ai) ?_|refine aae (E:=av) (id:=24) (N:=s.length+p.1) (f:=iB p.2.1) rfl rfl underlying425 underlying2 rfl rfl rfl (Dv ai) ?_|refine ZG (id:=24) (N:=s.length+p.1) (DEntry.mark (l[p.1]'ari)) rfl ac rfl rfl rfl (Dv ai) rfl (Jy _ _) ?_|refine tB ?_ ?_|intro h)<;>conv=>whnf)
            all_goals first
              |(rw[uk hseen hl (tZ ari hf (QA (.inl (by simpa using h))))];rfl)
              |(rw[uk hseen hl (tZ ari hf (QA (.inr (.inl (by simpa using h)))))];rfl)
              |(rw[uk hseen hl (tZ ari hf (QA (.inr (.inr (by rw[<-hla];simpa using h)))))];rfl)
              | (have hm := T7 (s := p.2.1) (e := l[p.1]'ari) aq aq (by rw [← hla]; simp_all)
                 refine bd.mk ⟨(p.1+1,putMark p.2.1 (l[p.1]'ari).mark,(l[p.1]'ari).index),⟨ari,by simp only[t7 (l:=l) (k:=p.1) ari hf,hm],(Fc (by rw[<-hla];simp_all)).symm⟩,ari,?_,sbW⟩;exact hds)
              |skip
            have hkk:p.1=l.length:=ari;rw[hkk,List.take_length]at hf;rw[mH hseen hl hf];have hlen:=fq hcur;refine X5 (λc:Int=>2<=c/\c<=6) (81::[12,13,14,15,82,83,84,85,86,87,88,89,90,91,92,93,94,95,96]) (λc=>[(12,.one (.own 81)),(13,vI .i64 c)]) (λc=>[(81,.row 236 3 ((p.2.1.filter λx=>decide (x.client<c)).map DMark.ds)),(24,jc Tryz.prog 2 (s.length+p.1) (iB p.2.1))]) (λc=>(6-c).toNat) 2 ac ?_ (X0 (congrArg some (congrArg (AO.row 236 3) (by simp only[N8 hcur,List.map_nil]))) sbW) (λc hc=>?_)<;>(conv=>whnf)
            · exact whd
            · have hfl:(p.2.1.filter λx=>decide (x.client<c)).length<=4:=Nat.le_trans (List.length_filter_le ..) hlen;have hsu:=EP (c:=c) (oh hcur);cases hfi:p.2.1.find? (λx=>x.client==c)with
              |none=>
                have hso:(p.2.1.find? (λx=>x.client==c)).isSome=false:=by rw[hfi];rfl
                rw[hfi]at hsu;simp only[Option.toList_none,List.append_nil]at hsu;repeat'((first|refine awz ?_|refine X3 ari ari ?_|refine Y9 (id:=24) (N:=s.length+p.1) (s:=p.2.1) rfl rfl rfl rfl (t9 ac ac) ?_|refine tB ?_ ?_|intro h)<;>conv=>whnf)
                all_goals first
                  | (refine bd.mk ⟨c + 1, ⟨ari, ari⟩, ari, ?_, X0 (congrArg some (congrArg (AO.row 236 3) (by rw [hsu]))) sbW⟩
                     exact hds)
                  | (have h4 : c = 6 := ari
                     subst h4;have:=IF hcur;simp only[CD,this])
              |some m=>
                have hso:(p.2.1.find? (λx=>x.client==c)).isSome=true:=by rw[hfi];rfl
                have hmo:fK p.2.1 c=m:=by unfold fK;rw[hfi];rfl
                rw[hfi]at hsu;simp only[Option.toList_some]at hsu;repeat'((first|refine awz ?_|refine X3 ari ari ?_|refine Y9 (id:=24) (N:=s.length+p.1) (s:=p.2.1) rfl rfl rfl rfl (t9 ac ac) ?_|refine aJ au ?_|refine tB ?_ ?_|intro h)<;>conv=>whnf)
                all_goals first
                  | (refine bd.mk ⟨c + 1, ⟨ari, ari⟩, ari, ?_, X0 (congrArg some (congrArg (AO.row 236 3) (by rw [hsu, hmo, List.map_append]; rfl))) sbW⟩
                     exact hds)
                  | (have h4 : c = 6 := ari
                     subst h4;have:=IF hcur;simp only[CD,this])
end
section
open Go.Proofs.Tryz
open Go.ChangeShapes Go.WideShapes Go.RowKit
variable {b:DBook}{l:List DEntry}
def lC:List (List Nat):=bZ [0,1,129,12354,1056835,84676740,1056835,118231172,26665322041863,0x40810c91c8146,0x2861481c90c1084,0xb10204324720518a,0x30a18520724304210b,0xd2c40810c91c814628c,0x2c40810c91c814628e30d,0xf34c38a18520724304210b,0x40b10204324720518a38c34f,0x113cd30e2861481c90c10842d0,0x4902c40810c91c814628e30d3d1,0x1344f34c38a18520724304210b412,0x51240b10204324720518a38c34f453,0x154d13cd30e2861481c90c10842d0494,0x5944902c40810c91c814628e30d3d14d5,0x144902c40810c91c814628e30d3d14d7556,0x40b10204324720518a38c34f6165574d1494,0x195124535d55983cd30e2861481c90c10842d0,0x6902c40810c91c814628e30d3d85955d3452519,0x1b6544914d755660f34c38a18520724304210b41a,0x71a40b10204324720518a38c34f6165574d149465b,0x1a40b10204324720518a38c34f6165574d149465d6dc,0x79c6dd6544914d755660f34c38a18520724304210b41a,0x1f6902c40810c91c814628e30d3d85955d345251975b71e,0x81e71b7595124535d55983cd30e2861481c90c10842d069f,0x217da40b10204324720518a38c34f6165574d149465d6dc7a0,0x1f6902c40810c91c814628e30d3d85955d345251975b71e,0x8de71b7595124535d55983cd30e2861481c90c10842d069f,0x8a079c6dd6544914d755660f34c38a18520724304210b41a7e1923,0x1f6902c40810c91c814628e30d3d85955d345251975b71e963921822,0x9a282192395e71b7595124535d55983cd30e2861481c90c10842d069f]
def lG:List (List Nat):=fB 36 [0,1,4,13,5872,5953,688,1417,3280,9841,29524,88573,265720,797161,2391484,7174453,21523360,64570081,193710244,581130733,1743392200,5230176601,15690529804,47071589413,141214768240,423644304721,1270932914164,3812798742493,0xa67358b3f98,34315188682441,0x5da0e1e53c5c,0x1db175a3e31495d,0x1dd491f8990b388,0x1e3de6f6baef209,0x3a26ec4d607d73,0x7566bb4070affc]
def oT:List (List Nat):=bZ [0,1,129,12354,1056835,84676740,6510088389,486455648518,35601017745735,486455648518,486455648518,48795157279047,0x28610204314730b,0xd2cc1c50c108418a,0x38a1840810c51cc2cd,0xf34b30714304210628e,0x24714304210621038a30b34f,0x113cd2cc28e4081840810c51c9,0x4891c50c108418840e28c2cd3d1,0x1344f34b30a390206102043147252,0x4891c50c108418840e28c2cd3d1,0x4891c50c108418840e28c2cd3d1,0x1644f34b30a390206102043147252,0x1544f34b30a3902061020431472525d6,0x6165d224714304210621038a30b34f455,0x195513cd2cc28e4081840810c51c9497598,0x51224714304210621038a30b34f453698597559,0x1224714304210621038a30b34f45b6555d661a4d4,0x1c50c108419c5136985975596d13cd2cc28e408252,0x40810dd48921038a30b34f45b6555d661a4d4706147]
def o4:List (List Nat):=fB 26 [0,1,4,13,40,121,364,43028131,43030318,490981,57955,117004,274468,805909,2400232,7183201,21523360,64570081,2538572754172,2538960174661,86975899780,10266642958,20726996161,48621271369,142764450196,425193986677]
def oU:List (List Nat):=bZ [0,0,66,12417,1052803,84680772,6509830341,486455906566,35601001230663,0x91c50c2044188,0x2881840420c51c9,0x2881840420c51c9,0x2c91c50c204418828c,0xd30a20610108314724b,0x38b24714308110620a30d,0x2881840420c51c9,0x2881840420c51c9,0x1124714308110620a,0x1024714308110620a491,0x4d148a206101083147250,0x144091c50c2044188292453,0x5534522881840420c51c9414,0x3cd30a20610108314724b3965104914d5,0x1755345241458e2c91c50c204418828c34f,0x60f34c2881840420c51c92ce594412453557,0x60f34c2881840420c51c92ce594412453557,0x65755345241458e2c91c50c204418828c34f61a,0x1b6983cd30a20610108314724b3965104914d55d9,0x7195d54d149051638b24714308110620a30d3d869b,0x60f34c2881840420c51c92ce594412453557,0x60f34c2881840420c51c92ce594412453557,0x1f5d54d149051638b24714308110620a30d3d8,0x1e5d54d149051638b24714308110620a30d3d881f,0x85f8183cd30a20610108314724b3965104914d55de,0x2279755345241458e2c91c50c204418828c34f6207e1,0x1d6da60f34c2881840420c51c92ce59441245355765c8e17e07a2,0x60f34c2881840420c51c92ce5944124535579227a07e18dc65a6dd,0xa20610108314726575b69972385f81e8a45d54d149051638b30d3d8,0x1c50c20441a660f34c2ce5944124535579227a07e18dc65a6dd94920a]
def o5:List (List Nat):=fB 35 [6,2,4,13,40,121,364,1093,3280,9841,31367094520,31366858324,31366976422,31367507863,31369102186,358693150,43017196,86063917,200855173,588275662,1750537129,5237321530,15690529804,47071589413,0xb182ad05a7cbbe,0xb181a5fd34e83a,0xb18229816e59fc,0xb184795470d9e5,0xb18b68cd7859a0,0x618587e88e6ea,0xbb20e2bc1c48,411641049421057,960684068340121,0x9ff0c92c0c01a,8372764823747485]
def gi:List (List Nat):=bZ [0,1,129,12354,1056835,84676740,6510088389,486455648518,35601017745735,0x91c50c1084188,84676740,11878797509,830053032203,0xa20610204314724d2cc,0x38c2cd24714304210620a,0xf2881840810c51c934b30e,0x40e30b3491c50c108418828f,0x113ca20610204314724d2cc390,0x49038c2cd24714304210620a3d1,0x1344f2881840810c51c934b30e412,0xf2881840810c51c934b30e,0x54e30b3491c50c108418828f,0x51240e30b3491c50c108418828f453595,0xf2881840810c51c934b30e5d5593450494,0x1430421185124114d655738c2cd24718828f,0x193ca2061c934b30e5d55934504946040810c5]
def gj:List (List Nat):=fB 22 [0,1,4,13,40,1535395,1535638,1536367,1538554,1545115,58927,117976,295123,797161,2391484,27901449661,27915798568,27958845289,28087985452,28475405941,3479609947,6966394348]
theorem ua(hh:DHead)(hs:hh.seen.length<=9223372036854775806):aM av 359 [.agg hh.ds] (rB (gv hh)):=by
  have seen_le6:∀{s:List DMark},seenOk s=true->s.length<=1000000:=λh=>Nat.le_trans (fq h) ac;refine pO func359 call359 ntmps359 results359 λS=>?_;conv=>whnf
  repeat'((first|refine awz ?_|refine X9 aN 1 36 lC lG ae ae ae rfl ?_|refine cP (be _ _ _) ?_|refine cP (da _) ?_|refine cP (mD hh.seen hs) ?_|refine cP (nR hh.seen (seen_le6 ai)) ?_|refine tB ?_ ?_|intro h)<;>conv=>whnf)
  all_goals
    refine bJ ?_;first
      |(simp_all[gv,tOk];done)
      |(simp_all[gv,tOk];intros;omega)
theorem Fx(hh:DHead)(hs:hh.seen.length<=9223372036854775806):aM av 215 [.agg hh.ds] (rB (gv hh)):=by
  have seen_le6:∀{s:List DMark},seenOk s=true->s.length<=1000000:=λh=>Nat.le_trans (fq h) ac;refine pO func215 call215 ntmps215 results215 λS=>?_;conv=>whnf
  repeat'((first|refine awz ?_|refine X9 aN 1 36 lC lG ae ae ae rfl ?_|refine cP (bg _ _ _) ?_|refine cP (ew _) ?_|refine cP (fe hh.seen) ?_|refine cP (oc hh.seen ai) ?_|refine tB ?_ ?_|intro h)<;>conv=>whnf)
  all_goals
    refine bJ ?_;first
      |(simp_all[gv,tOk];done)
      |(simp_all[gv,tOk];intros;omega)
theorem uW(h:¬l.length<=2000):dD l=false:=by simp[dD,h]
theorem wM{k:Nat}(hk:k<l.length)(h:cu dd kT l k hk=false):dD l=false:=by
  have:=oR hk h;simp only[dD,Bool.and_assoc]at*
  simp only[this,Bool.and_false]
theorem uX(h:l.length<=2000)(hc:(l.all dd&&jh kT l)=true):dD l=true:=by
  simp only[dD,Bool.and_assoc,hc,h,decide_true,Bool.and_self]
theorem yF{e:DEntry}(h:dd e=true):1<=e.index/\e.index<=2000:=by
  have:=(mq h).2.2;simp only[aK,Bool.and_eq_true,decide_eq_true_eq]at this;exact this
theorem GD{α:Type}{P:α->Bool}{Q:α->α->Bool}{l:List α}{j:Nat}{hl:j<l.length}(h:cu P Q l j hl=true):P l[j]=true:=by
  unfold cu at h;exact(Bool.and_eq_true_iff.1 h).1
theorem mt(l:List DEntry):aM av 425 [.one (.sl (l.map DEntry.ds))] (rB (dD l)):=by
  refine pO func425 call425 ntmps425 results425 λS=>?_;conv=>whnf
  repeat'(first|refine awz ?_|refine tB ?_ ?_|(intro h;conv=>whnf))
  · rw[uW ari]
  · have h1:l.length<=2000:=ari;clear h;refine X5 (λk:Nat=>k<=l.length/\∀(j:Nat) (hj:j<k) (hl:j<l.length),cu dd kT l j hl=true) (2::3::4::rg 10 36) (λk=>[(10,vI .i64 (k:Int))]) (λ_=>[]) (λk=>l.length-k) 0 ⟨ac,ac⟩ ?_ X4 (λk hR=>?_)<;>(conv=>whnf)
    · exact whd
    · obtain⟨hk,hall⟩:=hR;have hprev:∀h0:0<k,1<=(l[k-1]'(ac)).index/\(l[k-1]'(ac)).index<=2000:=λh0=>yF (GD (hall (k-1) ac ac));repeat'((first|refine awz ?_|refine X9 aN 6 26 oT o4 ae ae ae rfl ?_|refine Yc ari (λhlt=>?_)|refine YJ ari ari (λhpv=>?_)|refine X3 (n:=_-_) ari ari ?_|refine X3 (by have:=hprev ari;omega) (by have:=hprev ari;omega) ?_|refine X3 ari ari ?_|refine cP (k8 _) ?_|refine tB ?_ ?_|intro h)<;>conv=>whnf)
      all_goals first
        |(rw[wM hlt (by first|(refine bU _ ?_;simp_all;done)|(rw[bo _ ari];simp_all[kT];done)|(rw[br _ ari];simp_all;done)|(rw[bo _ ari];simp_all[kT];omega)|(exfalso;assumption))];done)
        | (refine bd.mk ⟨k + 1, ⟨ari, fm hall ari (by first | (refine bU _ ?_; simp_all; done) | (rw [bo _ ari]; simp_all [kT]; done) | (rw [br _ ari]; simp_all; done) | (rw [bo _ ari]; simp_all [kT]; omega) | (exfalso; assumption))⟩, ari, ?_, X4⟩
           exact hds)
        |(rw[uX h1 (iy hall ari)])
theorem mw(l:List DEntry):aM av 314 [.one (.sl (l.map DEntry.ds))] (rB (dD l)):=by
  refine pO func314 call314 ntmps314 results314 λS=>?_;conv=>whnf
  repeat'(first|refine awz ?_|refine tB ?_ ?_|(intro h;conv=>whnf))
  · rw[uW ari]
  · have h1:l.length<=2000:=ari;clear h;refine X5 (λk:Nat=>k<=l.length/\∀(j:Nat) (hj:j<k) (hl:j<l.length),cu dd kT l j hl=true) (2::3::rg 7 45) (λk=>[(3,vI .i64 (k:Int))]) (λ_=>[]) (λk=>l.length-k) 0 ⟨ac,ac⟩ ?_ X4 (λk hR=>?_)<;>(conv=>whnf)
    · exact whd
    · obtain⟨hk,hall⟩:=hR;have hprev:∀h0:0<k,1<=(l[k-1]'(ac)).index/\(l[k-1]'(ac)).index<=2000:=λh0=>yF (GD (hall (k-1) ac ac));repeat'((first|refine awz ?_|refine X9 aN 6 35 oU o5 ae ae ae rfl ?_|refine Yc ari (λhlt=>?_)|refine YJ ari ari (λhpv=>?_)|refine X3 (n:=_-_) ari ari ?_|refine X3 (by have:=hprev ari;omega) (by have:=hprev ari;omega) ?_|refine X3 ari ari ?_|refine cP (lm _) ?_|refine tB ?_ ?_|intro h)<;>conv=>whnf)
      all_goals first
        |(rw[wM hlt (by first|(refine bU _ ?_;simp_all;done)|(rw[bo _ ari];simp_all[kT];done)|(rw[br _ ari];simp_all;done)|(rw[bo _ ari];simp_all[kT];omega)|(exfalso;assumption))];done)
        | (refine bd.mk ⟨k + 1, ⟨ari, fm hall ari (by first | (refine bU _ ?_; simp_all; done) | (rw [bo _ ari]; simp_all [kT]; done) | (rw [br _ ari]; simp_all; done) | (rw [bo _ ari]; simp_all [kT]; omega) | (exfalso; assumption))⟩, ari, ?_, X4⟩
           exact hds)
        |(rw[uX h1 (iy hall ari)])
theorem wB(h:(aK b.base 0 2000&&tOk b.time&& !(b.base==0&&b.time !=0))=false):cp b=false:=by simp only[cp,h,Bool.false_and]
theorem wC(h:(decide (b.entries.length<=20)&&dD b.entries)=false):cp b=false:=by
  simp only[Bool.and_eq_false_iff]at h;rcases h with h|h<;>simp only[cp,h,Bool.and_false,Bool.false_and]
theorem EE{x lo hi:Int}(h:(!aK x lo hi)=false):lo<=x/\x<=hi:=by
  have:aK x lo hi=true:=by simpa using h
  simpa only[aK,Bool.and_eq_true,decide_eq_true_eq]using this
theorem pb(b:DBook):aM av 360 [.agg b.ds] (rB (cp b)):=by
  rcases he:b.entries with _|⟨e,r⟩
  · have he0:(((b.entries.map DEntry.ds).length:Int)==0)=true:=by simp[he]
    refine pO func360 call360 ntmps360 results360 λS=>?_;conv=>whnf
    repeat'((first|refine awz ?_|refine X9 aN 5 22 gi gj ae ae ae rfl ?_|refine cP (be _ _ _) ?_|refine cP (da _) ?_|refine cP (mt b.entries) ?_|refine tB ?_ ?_|intro h)<;>conv=>whnf)
    all_goals
      refine bJ ?_;first
        |(rw[wB (by first|(simp_all[tOk];done)|(exfalso;assumption))];done)
        |(rw[wC ax];done)
        |(simp_all[cp,tOk];done)
  · have he0:(((b.entries.map DEntry.ds).length:Int)==0)=false:=by simp[he];omega
    have i0:∀{K:Nat->List AD->Prop},K 0 e.ds->AIx (b.entries.map DEntry.ds) 0 K:=λh=>X8 0 _ rfl (by rw[he];rfl) h;refine pO func360 call360 ntmps360 results360 λS=>?_;conv=>whnf
    repeat'((first|refine awz ?_|refine X9 aN 5 22 gi gj ae ae ae rfl ?_|refine i0 ?_|refine X3 (by have:=EE (x:=b.base) ai;omega) (by have:=EE (x:=b.base) ai;omega) ?_|refine cP (be _ _ _) ?_|refine cP (da _) ?_|refine cP (mt b.entries) ?_|refine tB ?_ ?_|intro h)<;>conv=>whnf)
    all_goals
      refine bJ ?_;first
        |(rw[wB (by first|(simp_all[tOk];done)|(exfalso;assumption))];done)
        |(rw[wC (by simp only[Bool.and_eq_false_iff,decide_eq_false_iff_not];first|(exact .inl ari)|(refine .inr ?_;simp_all;done)|(exfalso;assumption))];done)
        | (have hlen : b.entries.length ≤ 20 := ari
           simp_all[cp,tOk];done)
        | (have hlen : b.entries.length ≤ 20 := ari
           simp_all[cp,tOk];intros;omega)
theorem yl(b:DBook):aM av 216 [.agg b.ds] (rB (cp b)):=by
  rcases he:b.entries with _|⟨e,r⟩
  · have he0:(((b.entries.map DEntry.ds).length:Int)==0)=true:=by simp[he]
    refine pO func216 call216 ntmps216 results216 λS=>?_;conv=>whnf
    repeat'((first|refine awz ?_|refine X9 aN 3 22 gi gj ae ae ae rfl ?_|refine cP (bg _ _ _) ?_|refine cP (ew _) ?_|refine cP (mw b.entries) ?_|refine tB ?_ ?_|intro h)<;>conv=>whnf)
    all_goals
      refine bJ ?_;first
        |(rw[wB (by first|(simp_all[tOk];done)|(exfalso;assumption))];done)
        |(rw[wC ax];done)
        |(simp_all[cp,tOk];done)
  · have he0:(((b.entries.map DEntry.ds).length:Int)==0)=false:=by simp[he];omega
    have i0:∀{K:Nat->List AD->Prop},K 0 e.ds->AIx (b.entries.map DEntry.ds) 0 K:=λh=>X8 0 _ rfl (by rw[he];rfl) h;refine pO func216 call216 ntmps216 results216 λS=>?_;conv=>whnf
    repeat'((first|refine awz ?_|refine X9 aN 3 22 gi gj ae ae ae rfl ?_|refine i0 ?_|refine X3 (by have:=EE (x:=b.base) ai;omega) (by have:=EE (x:=b.base) ai;omega) ?_|refine cP (bg _ _ _) ?_|refine cP (ew _) ?_|refine cP (mw b.entries) ?_|refine tB ?_ ?_|intro h)<;>conv=>whnf)
    all_goals
      refine bJ ?_;first
        |(rw[wB (by first|(simp_all[tOk];done)|(exfalso;assumption))];done)
        |(rw[wC (by simp only[Bool.and_eq_false_iff,decide_eq_false_iff_not];first|(exact .inl ari)|(refine .inr ?_;simp_all;done)|(exfalso;assumption))];done)
        | (have hlen : b.entries.length ≤ 20 := ari
           simp_all[cp,tOk];done)
        | (have hlen : b.entries.length ≤ 20 := ari
           simp_all[cp,tOk];intros;omega)
theorem gx(x:Int):aM av 419 [pI x] (rB (d8 x)):=by
  refine pO func419 call419 ntmps419 results419 λS=>?_;conv=>whnf
  repeat'(first|refine awz ?_|refine tB ?_ ?_|(intro h;conv=>whnf))
  all_goals
    refine bJ ?_;simp_all[d8]
theorem pz(x:Int):aM av 230 [pI x] (rB (d8 x)):=by
  refine pO func230 call230 ntmps230 results230 λS=>?_;conv=>whnf
  repeat'(first|refine awz ?_|refine tB ?_ ?_|(intro h;conv=>whnf))
  all_goals
    refine bJ ?_;simp_all[d8]
theorem zA(x:Int):aM av 406 [pI x] (rB (d8 x)):=by
  refine pO func406 call406 ntmps406 results406 λS=>?_;conv=>whnf
  repeat'(first|refine awz ?_|refine tB ?_ ?_|(intro h;conv=>whnf))
  all_goals
    refine bJ ?_;simp_all[d8]
theorem zB(p:DPair):aM av 404 [.agg p.ds] (rB (fx p)):=by
  refine pO func404 call404 ntmps404 results404 λS=>?_;conv=>whnf
  repeat'((first|refine awz ?_|refine cP (bg _ _ _) ?_|refine tB ?_ ?_|intro h)<;>conv=>whnf)
  all_goals
    refine bJ ?_;simp_all[fx]
theorem IR(p:DJob):aM av 473 [.agg p.ds] (rB (m8 p)):=by
  refine pO func473 call473 ntmps473 results473 λS=>?_;conv=>whnf
  repeat'((first|refine awz ?_|refine cP (uc _) ?_|refine cP (da _) ?_|refine cP (kq _) ?_|refine cP (iR _) ?_|refine cP (be _ _ _) ?_|refine tB ?_ ?_|intro h)<;>conv=>whnf)
  all_goals
    refine bJ ?_;simp_all[m8,tOk]
theorem J2(p:DJob):aM av 405 [.agg p.ds] (rB (m8 p)):=by
  refine pO func405 call405 ntmps405 results405 λS=>?_;conv=>whnf
  repeat'((first|refine awz ?_|refine cP (bg _ _ _) ?_|refine tB ?_ ?_|intro h)<;>conv=>whnf)
  all_goals
    refine bJ ?_;simp_all[m8,tOk]
theorem E5(p:DJob):aM av 474 [.agg p.ds] (rB (p.fired !=0)):=by
  refine pO func474 call474 ntmps474 results474 λS=>?_;conv=>whnf
  repeat'(first|refine awz ?_|exact rr|fail)
theorem BU(l:DLease):aM av 439 [.agg l.ds] (rB (ii l)):=by
  refine pO func439 call439 ntmps439 results439 λS=>?_;conv=>whnf
  repeat'((first|refine awz ?_|refine YF (nK l ⟨0,0,0⟩) rfl rfl rfl rfl rfl ?_|refine cP (gx _) ?_|refine cP (be _ _ _) ?_|refine tB ?_ ?_|intro h)<;>conv=>whnf)
  all_goals
    refine bJ ?_;simp_all[ii]
theorem iT(l:DLease):aM av 322 [.agg l.ds] (rB (ii l)):=by
  refine pO func322 call322 ntmps322 results322 λS=>?_;conv=>whnf
  repeat'((first|refine awz ?_|refine YF (nK l ⟨0,0,0⟩) rfl rfl rfl rfl rfl ?_|refine cP (pz _) ?_|refine cP (bg _ _ _) ?_|refine tB ?_ ?_|intro h)<;>conv=>whnf)
  all_goals
    refine bJ ?_;simp_all[ii]
end
section
open Go.Proofs.Tryz
open Go.ChangeShapes Go.WideShapes Go.RowKit
def q9:List (List Nat):=bZ [0,1,129,12354,1056835,84676740,6510088389,486455648518,35601017745735,0x50c1084247188,0x2881872440810c5,0xb1430421091c620a,0x30a2061c910204314b,0xd2c50c108424718828c,0x38c2881872440810c52cd,0x38c2881872440810c52cd,0x1034b1430421091c620a30e,0xf34b1430421091c620a30e450,0x49044e30a2061c910204314b34f,0x133cd2c50c108424718828c391412,0x38c2881872440810c52cd,0x1534b1430421091c620a30e,0x51241138c2881872440810c52cd3d3595,0xe30a2061c910204314b3575564cf450494,0x2c50c10842471882985124113d35955cd30e]
def ru:List (List Nat):=fB 22 [0,1,4,13,40,121,364,1093,3280,9841,29524,88573,265720,797161,28011457948,27906232630,27920581537,27958845289,28087985452,28475405941,3484392916,6971177317]
def kO:List (List Nat):=bZ [0,0,66,12417,1052803,84680772,6509830341,486455906566,35601001230663,0x91c50c2044188,0x2881840420c51c9,0x2881840420c51c9,0xc24714308110620a,0xb24714308110620a34c,0x38c34a20610108314724b,0xf2c91c50c204418828d30e,0x2881840420c51c9,0x2881840420c51c9,0x4491c50c2044188292,0x1348a206101083147251,0x51124714308110620a493,0x1038c34a20610108314724b3d54d2454,0x2881840420c51c95944524d53cb34c390,0x71430811065d038c34b3d54d245458920a]
def kR:List (List Nat):=fB 21 [6,2,4,13,40,121,364,1093,3280,9841,10418753182,10417454104,10417631251,10418103643,10419697966,10424480935,301297522,129110638,215204080,602624569,1764886036]
def sI:List (List Nat):=bZ [0,1,129,12354,1056835,84676740,6510088389,486455648518,486455648518,39999064256839,0x206102043147289,0xb24a1c50c1084188,0x3081840810c51ca24b,486455648518,61989296812359,0xd2c928714304210620c3ce,0x1c50c108419038f3082892cd,0x40810d134b24a20c3ce406147,0x48714640e3cc20a24b3510c1084,0x1310204344d2c928830f3901851d2,0x5121c519038f3082892cd443042113,0x154c40810d134b24a20c3ce406147494,0x59448714640e3cc20a24b3510c10844d5,0x59448714640e3cc20a24b3510c10844d5,0x1855310204344d2c928830f3901851d2516,0x1755310204344d2c928830f3901851d2516658,0x59448714640e3cc20a24b3510c10844d5698657,0x1310204344d2c928830f3901851d26d7658695516]
def sR:List (List Nat):=fB 25 [0,1,4,13,40,121,364,12808165,12760051,12766612,12784108,12843157,13020304,1593229,3187552,7174453,21523360,64570081,193710244,581130733,1743392200,5230176601,768835960420,78452649022,172595827849]
def rb:List (List Nat):=bZ [0,0,66,12417,1052803,84680772,6509830341,486455906566,486455906566,0x81840420c51c9,0x2891c50c2044188,0xb20610108314724a,486455906566,486455906566,0xd1840420c51ce,0x3ce1c50c204418d,0x1034610108314738f,0xc2891c50c20441882d13ce350,0x1c50c204419240d38f44b20928c]
def rv:List (List Nat):=fB 17 [6,2,4,13,40,121,364,128622937,128614189,128618563,128638246,128697295,3718993,1593229,2656111,7439080,21787987]
section
variable {α:Type} {P:α->Bool} {Q R:α->α->Bool} {l:List α}
theorem qG{k:Nat}(hlt:k<l.length)(hd:∀(i j:Nat) (hi:i<j) (hj:j<k) (hl:j<l.length),R (l[i]'(ac)) l[j]=false)(h:∀(i:Nat) (hi:i<k),R (l[i]'(ac)) l[k]=false):∀(i j:Nat) (hi:i<j) (hj:j<k+1) (hl:j<l.length),R (l[i]'(ac)) l[j]=false:=by
  intro i j hi hj hl;by_cases hjk:j=k
  · subst hjk;exact h i hi
  · exact hd i j hi ac hl
theorem tX{k:Nat}(hk:k=l.length)(hd:∀(i j:Nat) (hi:i<j) (hj:j<k) (hl:j<l.length),R (l[i]'(ac)) l[j]=false):eT R l=true:=pU λi j hi hl=>hd i j hi ac hl
end
theorem CG{l:List DPair}{k:Nat}(hk:k<l.length)(h:cu fx jG l k hk=false):cM l=false:=by
  simp only[cM,oR hk h]
theorem zi{l:List DPair}(hc:(l.all fx&&jh jG l)=true):cM l=true:=by simp only[cM,hc]
theorem QI{l:List DPair}(h:cM l=true):l.length<=10:=by
  simp only[cM,Bool.and_eq_true]at h;obtain⟨h1,h2⟩:=h;have key:∀(j:Nat) (hj:j<l.length),(j:Int)<=l[j].key:=by
    intro j;induction j with
    |zero=>
      intro hj;have:=tU h1 hj;simp only[fx,aK,Bool.and_eq_true,decide_eq_true_eq]at this;omega
    |succ j ih=>
      intro hj;have:=j8 h2 hj;simp only[jG,decide_eq_true_eq]at this;have:=ih ac;omega
  rcases Nat.lt_or_ge 10 l.length with hl|hl
  · have h5:=key 10 hl;have:=tU h1 hl;simp only[fx,aK,Bool.and_eq_true,decide_eq_true_eq]at this;omega
  · exact hl
theorem JN{l:List DPair}(h:¬l.length<=10):cM l=false:=by
  cases hp:cM l with
  |false=>rfl
  |true=>exact absurd (QI hp) h
theorem k9(l:List DPair)(hs:l.length<=9223372036854775806):aM av 437 [.one (.sl (l.map DPair.ds))] (rB (cM l)):=by
  refine pO func437 call437 ntmps437 results437 λS=>?_;conv=>whnf
  repeat'(first|refine awz ?_|fail)
  refine X5 (λk:Nat=>k<=l.length/\∀(j:Nat) (hj:j<k) (hl:j<l.length),cu fx jG l j hl=true) (2::3::4::rg 7 31) (λk=>[(7,vI .i64 (k:Int))]) (λ_=>[]) (λk=>l.length-k) 0 ⟨ac,ac⟩ ?_ X4 (λk hR=>?_)<;>(conv=>whnf)
  · exact whd
  · obtain⟨hk,hall⟩:=hR;repeat'((first|refine awz ?_|refine X9 aN 4 22 q9 ru ae ae ae rfl ?_|refine Yc ari (λhlt=>?_)|refine YJ ari ari (λhpv=>?_)|refine X3 (n:=_-_) ari ari ?_|refine X3 ari ari ?_|refine cP (kq _) ?_|refine cP (iR _) ?_|refine tB ?_ ?_|intro h)<;>conv=>whnf)
    all_goals first
      |(rw[CG hlt (by first|(refine bU _ ?_;simp_all;done)|(refine bU _ ?_;simp_all[fx];done)|(rw[bo _ ari];simp_all[jG];done)|(rw[br _ ari];simp_all;done)|(rw[bo _ ari];simp_all[fx,jG];done)|(rw[br _ ari];simp_all[fx];done)|(exfalso;assumption))];done)
      | (refine bd.mk ⟨k + 1, ⟨ari, fm hall ari (by first | (refine bU _ ?_; simp_all; done) | (refine bU _ ?_; simp_all [fx]; done) | (rw [bo _ ari]; simp_all [jG]; done) | (rw [br _ ari]; simp_all; done) | (rw [bo _ ari]; simp_all [fx, jG]; done) | (rw [br _ ari]; simp_all [fx]; done) | (exfalso; assumption))⟩, ari, ?_, X4⟩
         exact hds)
      |(rw[zi (iy hall ari)])
theorem gy(l:List DPair):aM av 320 [.one (.sl (l.map DPair.ds))] (rB (cM l)):=by
  refine pO func320 call320 ntmps320 results320 λS=>?_;conv=>whnf
  repeat'(first|refine awz ?_|refine tB ?_ ?_|(intro h;conv=>whnf))
  · rw[JN ari]
  · have h1:l.length<=10:=ari;clear h;refine X5 (λk:Nat=>k<=l.length/\∀(j:Nat) (hj:j<k) (hl:j<l.length),cu fx jG l j hl=true) (2::3::rg 7 30) (λk=>[(3,vI .i64 (k:Int))]) (λ_=>[]) (λk=>l.length-k) 0 ⟨ac,ac⟩ ?_ X4 (λk hR=>?_)<;>(conv=>whnf)
    · exact whd
    · obtain⟨hk,hall⟩:=hR;repeat'((first|refine awz ?_|refine X9 aN 6 21 kO kR ae ae ae rfl ?_|refine Yc ari (λhlt=>?_)|refine YJ ari ari (λhpv=>?_)|refine X3 (n:=_-_) ari ari ?_|refine X3 ari ari ?_|refine cP (zB _) ?_|refine tB ?_ ?_|intro h)<;>conv=>whnf)
      all_goals first
        |(rw[CG hlt (by first|(refine bU _ ?_;simp_all;done)|(refine bU _ ?_;simp_all[fx];done)|(rw[bo _ ari];simp_all[jG];done)|(rw[br _ ari];simp_all;done)|(rw[bo _ ari];simp_all[fx,jG];done)|(rw[br _ ari];simp_all[fx];done)|(exfalso;assumption))];done)
        | (refine bd.mk ⟨k + 1, ⟨ari, fm hall ari (by first | (refine bU _ ?_; simp_all; done) | (refine bU _ ?_; simp_all [fx]; done) | (rw [bo _ ari]; simp_all [jG]; done) | (rw [br _ ari]; simp_all; done) | (rw [bo _ ari]; simp_all [fx, jG]; done) | (rw [br _ ari]; simp_all [fx]; done) | (exfalso; assumption))⟩, ari, ?_, X4⟩
           exact hds)
        |(rw[zi (iy hall ari)])
theorem Cc{l:List DJob}(h:¬l.length<=8):cW l=false:=by simp[cW,h]
theorem xc{l:List DJob}{k:Nat}(hk:k<l.length)(h:cu m8 m7 l k hk=false):cW l=false:=by
  rcases Bool.and_eq_false_iff.1 (oR hk h)with h|h<;>simp only[cW,h,Bool.and_false,Bool.false_and]
theorem Cb{l:List DJob}{j k:Nat}(hj:j<k)(hk:k<l.length)(h:lK (l[j]'(ac)) l[k]=true):cW l=false:=by
  have:=sq (R:=lK) hj hk h;simp only[cW,this,Bool.and_false]
theorem Cd{l:List DJob}(h:l.length<=8)(hc:(l.all m8&&jh m7 l)=true)(hd:eT lK l=true):cW l=true:=by
  rw[Bool.and_eq_true]at hc;simp only[cW,h,hc.1,hc.2,hd,decide_true,Bool.and_self]
theorem Jd{l:List DJob}{k:Nat}(hk:k<l.length)(h0:(l[k].fired !=0)=true)(h:decide (l[k].fired∈(l.take k).map (·.fired))=true):cW l=false:=by
  obtain⟨m,hm,e⟩:=List.mem_map.1 (of_decide_eq_true h);obtain⟨j,hj,rfl⟩:=List.getElem_of_mem hm;simp at hj e;exact Cb (j:=j) ac hk (by simp only[lK,h0,Bool.true_and];simpa using e)
theorem Sh{l:List DJob}{k:Nat}(hk:k<l.length)(h:(l[k].fired !=0)=false\/decide (l[k].fired∈(l.take k).map (·.fired))=false){i:Nat}(hi:i<k):lK (l[i]'(ac)) l[k]=false:=by
  rcases h with h|h
  · simp only[lK,h,Bool.false_and]
  · have:=of_decide_eq_false h;simp only[lK,Bool.and_eq_false_iff];refine .inr ?_;simp only[beq_eq_false_iff_ne,ne_eq];intro e;refine this (List.mem_map.2 ⟨l[i],?_,e⟩);rw[List.mem_take_iff_getElem];exact⟨i,ac,rfl⟩
theorem Qh{x y:DJob}(h:¬x.fired=y.fired\/y.fired=0):lK x y=false:=by
  simp only[lK,Bool.and_eq_false_iff];rcases h with h|h
  · exact .inr (by simpa using h)
  · exact .inl (by simp[h])
theorem Ms{l:List DJob}{k:Nat}(hlt:k<l.length):((l.take k).map (·.fired))++[l[k].fired]=(l.take (k+1)).map (·.fired):=(dn (λm:DJob=>m.fired) hlt).symm
theorem Dw{j:DJob}(h:(!m8 j)=false):(Lit.int .i64 j.fired).wf=true:=by
  have:m8 j=true:=by simpa using h
  simp only[m8,aK,Bool.and_eq_true,decide_eq_true_eq]at this;exact t9 ac ac
theorem mC(l:List DJob):aM av 438 [.one (.sl (l.map DJob.ds))] (rB (cW l)):=by
  refine pO func438 call438 ntmps438 results438 λS=>?_;conv=>whnf
  repeat'((first|refine awz ?_|refine Zb rfl rfl ?_|refine tB ?_ ?_|intro h)<;>conv=>whnf)
  · rw[Cc ari]
  · have h1:l.length<=8:=ari;clear h;refine X5 (λk:Nat=>k<=l.length/\(∀(j:Nat) (hj:j<k) (hl:j<l.length),cu m8 m7 l j hl=true)/\∀(i j:Nat) (hi:i<j) (hj:j<k) (hl:j<l.length),lK (l[i]'(ac)) l[j]=false) (2::4::5::rg 12 37) (λk=>[(12,vI .i64 (k:Int))]) (λk=>[(9,jc Tryz.prog 2 k (kU ((l.take k).map (·.fired))))]) (λk=>l.length-k) 0 ⟨ac,ac,ac⟩ ?_ sbW (λk hR=>?_)<;>(conv=>whnf)
    · exact whd
    · obtain⟨hk,hall,hdup⟩:=hR;repeat'((first|refine awz ?_|refine X9 aN 7 25 sI sR ae ae ae rfl ?_|refine Yc ari (λhlt=>?_)|refine YJ ari ari (λhpv=>?_)|refine X3 (n:=_-_) ari ari ?_|refine X3 ari ari ?_|refine cP (IR _) ?_|refine cP (E5 _) ?_|refine Za (id:=9) (N:=k) rfl rfl rfl rfl (Dw ai) ?_|refine Zk (id:=9) (N:=k) rfl ac rfl rfl rfl (Dw ai) ?_|refine tB ?_ ?_|intro h)<;>conv=>whnf)
      all_goals first
        |(rw[xc hlt (by first|(refine bU _ ?_;simp_all;done)|(rw[bo _ ari];simp_all[m7];done)|(rw[br _ ari];simp_all;done)|(exfalso;assumption))];done)
        |(rw[Jd hlt ai ai];done)
        | (refine bd.mk ⟨k + 1, ⟨ari, fm hall ari (by first | (refine bU _ ?_; simp_all; done) | (rw [bo _ ari]; simp_all [m7]; done) | (rw [br _ ari]; simp_all; done) | (exfalso; assumption)), qG ari hdup fun i hi => Sh ari (by first | exact .inl ai | exact .inr ai) hi⟩, ari, ?_, X0 (congrArg some (congrArg (fun l => jc Tryz.prog 2 (k + 1) (kU l)) (Ms ari))) X4⟩
           exact hds)
        |(rw[Cd h1 (iy hall ari) (tX ari hdup)])
theorem iA(l:List DJob):aM av 321 [.one (.sl (l.map DJob.ds))] (rB (cW l)):=by
  refine pO func321 call321 ntmps321 results321 λS=>?_;conv=>whnf
  repeat'(first|refine awz ?_|refine tB ?_ ?_|(intro h;conv=>whnf))
  · rw[Cc ari]
  · have h1:l.length<=8:=ari;clear h;refine X5 (λk:Nat=>k<=l.length/\(∀(j:Nat) (hj:j<k) (hl:j<l.length),cu m8 m7 l j hl=true)/\∀(i j:Nat) (hi:i<j) (hj:j<k) (hl:j<l.length),lK (l[i]'(ac)) l[j]=false) (2::3::4::rg 8 54) (λk=>[(3,vI .i64 (k:Int))]) (λk=>[]) (λk=>l.length-k) 0 ⟨ac,ac,ac⟩ ?_ X4 (λk hR=>?_)<;>(conv=>whnf)
    · exact whd
    · obtain⟨hk,hall,hdup⟩:=hR;repeat'((first|refine awz ?_|refine X9 aN 6 21 kO kR ae ae ae rfl ?_|refine Yc ari (λhlt=>?_)|refine YJ ari ari (λhpv=>?_)|refine X3 (n:=_-_) ari ari ?_|refine cP (J2 _) ?_|refine tB ?_ ?_|intro h)<;>conv=>whnf)
      all_goals first
        |(rw[xc hlt (by first|(refine bU _ ?_;simp_all;done)|(rw[bo _ ari];simp_all[m7];done)|(rw[br _ ari];simp_all;done)|(exfalso;assumption))];done)
        |(rw[Cd h1 (iy hall ari) (tX ari hdup)];done)
        |skip
      all_goals
        have hkl:k<l.length:=ari;have hch:cu m8 m7 l k hkl=true:=(by first|(refine bU _ ?_;simp_all;done)|(rw[bo _ ari];simp_all[m7];done)|(rw[br _ ari];simp_all;done)|(exfalso;assumption));have hfk:0<=l[k].fired:=by
          have:=GD hch;simp only[m8,aK,Bool.and_eq_true,decide_eq_true_eq]at this;omega
        refine X5 (λq:Nat=>q<=k/\∀(i:Nat) (hi:i<q) (hik:i<k),lK (l[i]'(ac)) l[k]=false) (2::4::rg 38 24) (λq=>[(4,vI .i64 (q:Int))]) (λ_=>[]) (λq=>k-q) 0 ⟨ac,ac⟩ ?_ X4 (λq hQ=>?_)<;>(conv=>whnf)
        · exact whd
        · obtain⟨hq,hno⟩:=hQ;repeat'((first|refine awz ?_|refine X9 aN 11 17 rb rv ae ae ae rfl ?_|refine Yc (k:=q) ari (λhqt=>?_)|refine Yc (k:=k) ari (λhlt=>?_)|refine X3 ari ari ?_|refine tB ?_ ?_|intro h)<;>conv=>whnf)
          all_goals first
            |(rw[Cb (j:=q) (k:=k) ari ari (by simp_all[lK];omega)];done)
            | (have hjq : ∀ hqk : q < k, lK (l[q]'(ac)) l[k] = false := fun hqk => Qh (by first | exact .inl (by simpa using h) | (refine .inr ?_; simp only [gt_iff_lt, decide_eq_false_iff_not] at h; omega))
               refine bd.mk ⟨q+1,⟨ari,λi hi hik=>?_⟩,ari,?_,X4⟩
               · by_cases hiq:i=q
                 · subst hiq;exact hjq hik
                 · exact hno i ac hik
               · exact hds)
            | (refine bd.mk ⟨k + 1, ⟨ari, fm hall ari hch, qG ari hdup fun i hi => hno i ari hi⟩, ari, ?_, X4⟩
               exact hds)
end
end Go.Proofs.YtknefkdcokgpbaaGreat
