/- WA1 -/
import Derived.Test.YthgkdhnlehneeaaGreatDoorAwx
set_option maxHeartbeats 8000000
set_option linter.unusedVariables false
set_option linter.unusedSimpArgs false
set_option maxRecDepth 100000
namespace Go.Proofs.YthgkdhnlehneeaaGreatDoor
section
open Go.Proofs.Tryz
open Go.ChangeShapes Go.WideShapes Go.RowKit
variable {l:List Int}{k:Nat}{α:Type}{d:bD}
def tx:List (List Nat):=bC [0,0,2,0,12420,1327235,101458181,76320612550,35599944798657,0x9047144083188,0x288183084147049,0xb2411c51020c620a,0x288183084147049,0xc2881830841470492cd,0x38d2c904714408318828c,0xf30a2060c21051c124b34e,0x40e34b2411c51020c620a30f,0x113cc2881830841470492cd390,0x28818308414704949038d2cc3d1]
def tO:List (List Nat):=dW 13 [2184,56,59,26,41,122,365,1093,3280,9841,1092406,1151455,501916]
theorem bE{a b:Bool}(h:a=b):AP.val (.one (dB a))=rB b:=by rw[h]
theorem gJ{l:List α}{p:α->Bool}(hall:∀(j:Nat) (hj:j<k) (hl:j<l.length),p l[j]=true)(hlt:k<l.length)(h:p l[k]=true):∀(j:Nat) (hj:j<k+1) (hl:j<l.length),p l[j]=true:=by
  intro j hj hl;by_cases hjk:j=k
  · subst hjk;exact h
  · exact hall j ac hl
theorem iM{l:List α}{p:α->Bool}(hall:∀(j:Nat) (hj:j<k) (hl:j<l.length),p l[j]=true)(hk:k=l.length):l.all p=true:=JB λj hj=>hall j ac hj
theorem IC(h:¬l.length<=48):bQ l=false:=by simp[bQ,h]
theorem MF(hk:k<l.length)(h:aJ l[k] 0 1000000000=false):bQ l=false:=by
  have:=q8 (p:=λx=>aJ x 0 1000000000) hk h;simp only[bQ,this,Bool.and_false]
theorem iu(l:List Int):aN av 112 [.one (dIs l)] (rB (bQ l)):=by
  refine pO func112 call112 ntmps112 results112 λS=>?_;conv=>whnf
  repeat'(first|refine awz ?_|refine tB ?_ ?_|(intro h;conv=>whnf))
  · rw[IC ari]
  · have h48:l.length<=48:=ari;clear h;refine aaK (λk:Nat=>k<=l.length/\∀(j:Nat) (hj:j<k) (hl:j<l.length),aJ l[j] 0 1000000000=true) (2::4::rg 10 8) (λk=>[(10,vI .i64 (k:Int))]) (λ_=>[]) (λk=>l.length-k) 0 ⟨ac,ac⟩ ?_ aaE (λk hR=>?_)<;>(conv=>whnf)
    · exact whd
    · obtain⟨hk,hall⟩:=hR;repeat'((first|refine awz ?_|refine aaO ari (λhlt=>?_)|refine aaH ari ari ?_|refine cP (ba _ _ _) ?_|refine tB ?_ ?_|intro h)<;>conv=>whnf)
      · rw[MF hlt (by simpa using h)]
      · refine a8.mk ⟨k+1,⟨hlt,gJ (p:=λx=>aJ x 0 1000000000) hall hlt (by simpa using h)⟩,ac,?_,aaE⟩;exact hds
      · refine bE ?_;simp only[bQ,iM (p:=λx=>aJ x 0 1000000000) hall ari,h48,decide_true,Bool.and_self]
theorem cM(l:List Int):aN av 166 [.one (dIs l)] (rB (bQ l)):=by
  refine pO func166 call166 ntmps166 results166 λS=>?_;conv=>whnf
  repeat'(first|refine awz ?_|refine tB ?_ ?_|(intro h;conv=>whnf))
  · rw[IC ari]
  · have h48:l.length<=48:=ari;clear h;refine aaK (λk:Nat=>k<=l.length/\∀(j:Nat) (hj:j<k) (hl:j<l.length),aJ l[j] 0 1000000000=true) (2::3::rg 7 12) (λk=>[(3,vI .i64 (k:Int))]) (λ_=>[]) (λk=>l.length-k) 0 ⟨ac,ac⟩ ?_ aaE (λk hR=>?_)<;>(conv=>whnf)
    · exact whd
    · obtain⟨hk,hall⟩:=hR;repeat'((first|refine awz ?_|refine aaO ari (λhlt=>?_)|refine aaH ari ari ?_|refine cP (aQ _ _ _) ?_|refine tB ?_ ?_|intro h)<;>conv=>whnf)
      · rw[MF hlt (by simpa using h)]
      · refine a8.mk ⟨k+1,⟨hlt,gJ (p:=λx=>aJ x 0 1000000000) hall hlt (by simpa using h)⟩,ac,?_,aaE⟩;exact hds
      · refine bE ?_;simp only[bQ,iM (p:=λx=>aJ x 0 1000000000) hall ari,h48,decide_true,Bool.and_self]
theorem Cn(d:bD)(at_:Int)(hs:d.kept.length<=40):aN av 217 [.agg d.ds,pI at_] (rB (aJ at_ 0 ((d.kept.length:Int)-1))):=by
  have e:((d.kept.map dO).length:Int)=d.kept.length:=ah;refine pO func217 call217 ntmps217 results217 λS=>?_;conv=>whnf
  repeat'((first|refine awz ?_|refine aaH (n:=_-_) ari ari ?_|refine cP (ba _ _ _) ?_|fail)<;>conv=>whnf)
  rw[e]
theorem eT(d:bD)(at_:Int)(hs:d.kept.length<=40):aN av 190 [.agg d.ds,pI at_] (rB (aJ at_ 0 ((d.kept.length:Int)-1))):=by
  have e:((d.kept.map dO).length:Int)=d.kept.length:=ah;refine pO func190 call190 ntmps190 results190 λS=>?_;conv=>whnf
  repeat'((first|refine awz ?_|refine aaH (n:=_-_) ari ari ?_|refine cP (aQ _ _ _) ?_|fail)<;>conv=>whnf)
  rw[e]
theorem lQ(h:¬(1<=d.kept.length/\d.kept.length<=40/\d.wait.length<=60)):cG d=false:=by
  have:(decide (1<=d.kept.length)&&decide (d.kept.length<=40)&&decide (d.wait.length<=60))=false:=by
    simp only[Bool.and_eq_false_iff,decide_eq_false_iff_not];omega
  simp only[cG,this,Bool.false_and]
theorem EG(hk:k<d.kept.length)(h:bQ d.kept[k]=false):cG d=false:=by
  have:=q8 (p:=bQ) hk h;simp only[cG,this,Bool.and_false,Bool.false_and]
theorem B8(hk:k<d.wait.length)(h:gq d.kept.length d.wait[k]=false):cG d=false:=by
  have:=q8 (p:=gq d.kept.length) hk h;simp only[cG,this,Bool.and_false]
theorem kC(d:bD):aN av 141 [.agg d.ds] (rB (cG d)):=by
  refine pO func141 call141 ntmps141 results141 λS=>?_;conv=>whnf
  repeat'(first|refine awz ?_|refine tB ?_ ?_|(intro h;conv=>whnf))
  · rw[lQ ari]
  · rw[lQ ari]
  · rw[lQ ari]
  · have h1:1<=d.kept.length:=ari;have h2:d.kept.length<=40:=ari;have h3:d.wait.length<=60:=ari;clear h;refine aaK (λk:Nat=>k<=d.kept.length/\∀(j:Nat) (hj:j<k) (hl:j<d.kept.length),bQ d.kept[j]=true) (2::4::rg 26 8) (λk=>[(26,vI .i64 (k:Int))]) (λ_=>[(1,.cells 30 (d.ds.map .d))]) (λk=>d.kept.length-k) 0 ⟨ac,ac⟩ ?_ sbW (λk hR=>?_)<;>(conv=>whnf)
    · exact whd
    · obtain⟨hk,hall⟩:=hR;repeat'((first|refine awz ?_|refine aaO ari (λhlt=>?_)|refine aaH ari ari ?_|refine cP (iu _) ?_|refine tB ?_ ?_|intro h)<;>conv=>whnf)
      · rw[EG hlt (by simpa using h)]
      · refine a8.mk ⟨k+1,⟨hlt,gJ (p:=bQ) hall hlt (by simpa using h)⟩,ac,?_,sbW⟩;exact hds
      · have hrows:=iM (p:=bQ) hall ari;clear hall hk h;refine aaK (λk:Nat=>k<=d.wait.length/\∀(j:Nat) (hj:j<k) (hl:j<d.wait.length),gq d.kept.length d.wait[j]=true) (2::6::rg 37 16) (λk=>[(37,vI .i64 (k:Int))]) (λ_=>[(1,.cells 30 (d.ds.map .d))]) (λk=>d.wait.length-k) 0 ⟨ac,ac⟩ ?_ sbW (λk hR=>?_)<;>(conv=>whnf)
        · exact whd
        · obtain⟨hk,hall⟩:=hR;repeat'((first|refine awz ?_|refine aaO ari (λhlt=>?_)|refine aaH ari ari ?_|refine cP (Cn d _ h2) ?_|refine cP (iu _) ?_|refine tB ?_ ?_|intro h)<;>conv=>whnf)
          all_goals first
            |(rw[B8 hlt (by simp_all[gq])];done)
            | (refine a8.mk ⟨k + 1, ⟨hlt, gJ (p := gq d.kept.length) hall hlt (by simp_all [gq])⟩,ac, ?_, sbW⟩
               exact hds)
            | (refine bE ?_
               simp only[cG,hrows,iM (p:=gq d.kept.length) hall ari,h1,h2,h3,decide_true,Bool.and_self])
theorem dz(d:bD):aN av 241 [.agg d.ds] (rB (cG d)):=by
  refine pO func241 call241 ntmps241 results241 λS=>?_;conv=>whnf
  repeat'(first|refine awz ?_|refine tB ?_ ?_|(intro h;conv=>whnf))
  · rw[lQ ari]
  · rw[lQ ari]
  · rw[lQ ari]
  · have h1:1<=d.kept.length:=ari;have h2:d.kept.length<=40:=ari;have h3:d.wait.length<=60:=ari;clear h;refine aaK (λk:Nat=>k<=d.kept.length/\∀(j:Nat) (hj:j<k) (hl:j<d.kept.length),bQ d.kept[j]=true) (2::3::rg 21 14) (λk=>[(3,vI .i64 (k:Int))]) (λ_=>[(1,.cells 30 (d.ds.map .d))]) (λk=>d.kept.length-k) 0 ⟨ac,ac⟩ ?_ sbW (λk hR=>?_)<;>(conv=>whnf)
    · exact whd
    · obtain⟨hk,hall⟩:=hR;repeat'((first|refine awz ?_|refine aaO ari (λhlt=>?_)|refine aaH ari ari ?_|refine cP (cM _) ?_|refine tB ?_ ?_|intro h)<;>conv=>whnf)
      · rw[EG hlt (by simpa using h)]
      · refine a8.mk ⟨k+1,⟨hlt,gJ (p:=bQ) hall hlt (by simpa using h)⟩,ac,?_,sbW⟩;exact hds
      · have hrows:=iM (p:=bQ) hall ari;clear hall hk h;refine aaK (λk:Nat=>k<=d.wait.length/\∀(j:Nat) (hj:j<k) (hl:j<d.wait.length),gq d.kept.length d.wait[j]=true) (2::4::rg 35 26) (λk=>[(4,vI .i64 (k:Int))]) (λ_=>[(1,.cells 30 (d.ds.map .d))]) (λk=>d.wait.length-k) 0 ⟨ac,ac⟩ ?_ sbW (λk hR=>?_)<;>(conv=>whnf)
        · exact whd
        · obtain⟨hk,hall⟩:=hR;repeat'((first|refine awz ?_|refine aaJ aM 11 13 tx tO ae ae ae rfl ?_|refine aaO ari (λhlt=>?_)|refine aaH ari ari ?_|refine cP (eT d _ h2) ?_|refine cP (cM _) ?_|refine tB ?_ ?_|intro h)<;>conv=>whnf)
          all_goals first
            |(rw[B8 hlt (by simp_all[gq])];done)
            | (refine a8.mk ⟨k + 1, ⟨hlt, gJ (p := gq d.kept.length) hall hlt (by simp_all [gq])⟩,ac, ?_, sbW⟩
               exact hds)
            | (refine bE ?_
               simp only[cG,hrows,iM (p:=gq d.kept.length) hall ari,h1,h2,h3,decide_true,Bool.and_self])
end
section
open Go.Proofs.Tryz
open Go.ChangeShapes Go.WideShapes Go.RowKit
variable {l:List Int}{k:Nat}{α:Type}{n:ee}
def uU:List (List Nat):=bC [0,1,0,3,528643,84688962,6476284101,486456430726,35598854271303,486456430726,44394947293511,0x91c50c40421882ca,0x1c50c404218c28b209,0xd2482ca306081103147,0x38714310108630a2c824d,0xf34920b28c1820440c51ce,0x40e1c50c404218c28b20934f,0x113cd2482ca306081103147390,0x49038714310108630a2c824d3d1,0x113cd2482ca306081103147390,0x51038714310108630a2c824d3d1,0x1344f34920b28c1820440c51ce412554,0x59455240e1c50c404218c28b20934f453,0x113cd2482ca306081103147390,0x5d344f34920b28c1820440c51ce412554598,0x1961651549038714310108630a2c824d3d14d7,0x44f34920b28c1820440c51ce41a5d3495516619,0xe1c50c404218c28b20935b6585945524d76903d1]
def vj:List (List Nat):=dW 24 [72,73,8,17,40,121,364,158557,160744,18589,38272,88573,265720,797161,2391484,7174453,21523360,197649019471,197778159634,189384049039,190546310506,193516534255,203976887458,94078608745]
def uV:List (List Nat):=bC [0,1,129,12354,1056835,84676740,6510088389,486455648518,35601017745735,0x50c1084247188,0x2881872440810c5,0xb1430421091c620a,0x30a2061c910204314b,0xb1430421091c620a,0x38a2061c910204314b,0xd2c50c108424718828c3ce,0x2c50c108424718829038f30d,0x1134c3ce40a2061c910204314b,0x48b1430421091c620a40e3cc351,0x1344d30f3902881872440810c52d2,0x5122c50c108424718829038f30d453,0x154d134c3ce40a2061c910204314b494,0x59448b1430421091c620a40e3cc3514d5,0x154d134c3ce40a2061c910204314b494,0x61448b1430421091c620a40e3cc3514d5,0x1755344d30f3902881872440810c52d2516658,0x6986565122c50c108424718829038f30d453557,0x154d134c3ce40a2061c910204314b494,0x6d755344d30f3902881872440810c52d251665869c,0x1d71a61959448b1430421091c620a40e3cc3514d55db,0x55344d30f3902881872440810c52d251e6d759961a71d,0x122c50c108424718829038f30d45f75c6986565db7944d5]
def vk:List (List Nat):=dW 28 [0,1,4,13,40,121,364,1093,3280,9841,29524,12843157,13020304,1505749,3100072,7174453,21523360,64570081,193710244,581130733,1743392200,0xe8f84c46b27,0xe91f440bdda,0xdf3a5afbe67,0xe09910ea6b2,0xe41953a14c7,0xf06db903f6a,7620367308385]
theorem aa3{enc:α->List AD}{l:List α}{K:Nat->List AD->Prop}(h0:0<k)(hk:k<=l.length)(h:∀_:k-1<l.length,K (k-1) (enc l[k-1])):AIx (l.map enc) ((k:Int)-1) K:=by
  have e:((k:Int)-1)=((k-1:Nat):Int):=ac;rw[e];exact aaM ac (h ac)
def cC{α:Type}(P:α->Bool)(Q:α->α->Bool)(l:List α)(k:Nat)(hk:k<l.length):Bool:=P l[k]&&(if h:0<k then Q (l[k-1]'(ac)) l[k]else true)
theorem pQ{P:α->Bool}{Q:α->α->Bool}{l:List α}(hk:k<l.length)(h:cC P Q l k hk=false):(l.all P&&hE Q l)=false:=by
  unfold cC at h;cases hp:P l[k]with
  |false=>rw[q8 hk hp];rfl
  |true=>
    rw[hp]at h;simp only[Bool.true_and]at h;split at h
    · rename_i h0;obtain⟨j,rfl⟩:∃j,k=j+1:=⟨k-1,ac⟩;rw[UM (Q:=Q) hk (by simpa using h),Bool.and_false]
    · cases h
theorem HL{P:α->Bool}{Q:α->α->Bool}{l:List α}(h:∀(j:Nat) (hl:j<l.length),cC P Q l j hl=true):(l.all P&&hE Q l)=true:=by
  rw[Bool.and_eq_true];refine⟨JB λk hk=>?_,Et λk hk=>?_⟩
  · have:=h k hk;unfold cC at this;exact(Bool.and_eq_true_iff.1 this).1
  · have:=h (k+1) hk;unfold cC at this;have:=(Bool.and_eq_true_iff.1 this).2;simpa using this
theorem fU{P:α->Bool}{Q:α->α->Bool}{l:List α}(hall:∀(j:Nat) (hj:j<k) (hl:j<l.length),cC P Q l j hl=true)(hlt:k<l.length)(h:cC P Q l k hlt=true):∀(j:Nat) (hj:j<k+1) (hl:j<l.length),cC P Q l j hl=true:=by
  intro j hj hl;by_cases hjk:j=k
  · subst hjk;exact h
  · exact hall j ac hl
theorem iz{P:α->Bool}{Q:α->α->Bool}{l:List α}(hall:∀(j:Nat) (hj:j<k) (hl:j<l.length),cC P Q l j hl=true)(hk:k=l.length):(l.all P&&hE Q l)=true:=HL λj hj=>hall j ac hj
theorem bq{P:α->Bool}{Q:α->α->Bool}{l:List α}(hk:k<l.length)(h:0<k):cC P Q l k hk=(P l[k]&&Q (l[k-1]'(ac)) l[k]):=by simp[cC,h]
theorem bu{P:α->Bool}{Q:α->α->Bool}{l:List α}(hk:k<l.length)(h:¬0<k):cC P Q l k hk=P l[k]:=by simp[cC,h]
theorem bX{P:α->Bool}{Q:α->α->Bool}{l:List α}(hk:k<l.length)(h:P l[k]=false):cC P Q l k hk=false:=by simp[cC,h]
theorem zL(t:di):aN av 138 [.agg t.ds] (rB (fW t)):=by
  refine pO func138 call138 ntmps138 results138 λS=>?_;conv=>whnf
  repeat'((first|refine awz ?_|refine cP (kC t.a) ?_|refine cP (kC t.b) ?_|refine tB ?_ ?_|intro h)<;>conv=>whnf)
  all_goals
    refine bE ?_;simp_all[fW]
  all_goals first|omega|(rw[Bool.eq_iff_iff];simp only[beq_iff_eq,decide_eq_true_eq];omega)
theorem dX(t:di):aN av 237 [.agg t.ds] (rB (fW t)):=by
  refine pO func237 call237 ntmps237 results237 λS=>?_;conv=>whnf
  repeat'((first|refine awz ?_|refine cP (dz t.a) ?_|refine cP (dz t.b) ?_|refine tB ?_ ?_|intro h)<;>conv=>whnf)
  all_goals
    refine bE ?_;simp_all[fW]
  all_goals first|omega|(rw[Bool.eq_iff_iff];simp only[beq_iff_eq,decide_eq_true_eq];omega)
theorem H0(t:di):aN av 204 [.agg t.ds] (rB (eC t)):=by
  refine pO func204 call204 ntmps204 results204 λS=>?_;conv=>whnf
  repeat'((first|refine awz ?_|refine cP (zL t) ?_|refine tB ?_ ?_|intro h)<;>conv=>whnf)
  all_goals
    refine bE ?_;simp_all[eC]
  all_goals first|omega|(rw[Bool.eq_iff_iff];simp only[beq_iff_eq,decide_eq_true_eq];omega)
theorem iD(t:di):aN av 230 [.agg t.ds] (rB (eC t)):=by
  refine pO func230 call230 ntmps230 results230 λS=>?_;conv=>whnf
  repeat'((first|refine awz ?_|refine cP (dX t) ?_|refine tB ?_ ?_|intro h)<;>conv=>whnf)
  all_goals
    refine bE ?_;simp_all[eC]
  all_goals first|omega|(rw[Bool.eq_iff_iff];simp only[beq_iff_eq,decide_eq_true_eq];omega)
theorem EV(d:bD):aN av 215 [.agg d.ds] (rB (dw d)):=by
  refine pO func215 call215 ntmps215 results215 λS=>?_;conv=>whnf
  repeat'((first|refine awz ?_|refine cP (kC d) ?_|refine tB ?_ ?_|intro h)<;>conv=>whnf)
  all_goals
    refine bE ?_;simp_all[dw]
  all_goals first|omega|(rw[Bool.eq_iff_iff];simp only[beq_iff_eq,decide_eq_true_eq];omega)
theorem jd(d:bD):aN av 239 [.agg d.ds] (rB (dw d)):=by
  refine pO func239 call239 ntmps239 results239 λS=>?_;conv=>whnf
  repeat'((first|refine awz ?_|refine cP (dz d) ?_|refine tB ?_ ?_|intro h)<;>conv=>whnf)
  all_goals
    refine bE ?_;simp_all[dw]
  all_goals first|omega|(rw[Bool.eq_iff_iff];simp only[beq_iff_eq,decide_eq_true_eq];omega)
theorem zM(a b:Int):aN av 133 [pI a,pI b] (rB (fR a b)):=by
  refine pO func133 call133 ntmps133 results133 λS=>?_;conv=>whnf
  repeat'((first|refine awz ?_|refine cP (w6 _) ?_|refine tB ?_ ?_|intro h)<;>conv=>whnf)
  all_goals
    refine bE ?_;simp_all[fR]
theorem LC(m:cX):aN av 132 [.agg m.ds] (rB (iO m)):=by
  refine pO func132 call132 ntmps132 results132 λS=>?_;conv=>whnf
  repeat'((first|refine awz ?_|refine cP (zM _ _) ?_|refine cP (iu _) ?_|refine tB ?_ ?_|intro h)<;>conv=>whnf)
  all_goals
    refine bE ?_;simp_all[iO]
theorem jc(m:cX):aN av 159 [.agg m.ds] (rB (iO m)):=by
  refine pO func159 call159 ntmps159 results159 λS=>?_;conv=>whnf
  repeat'((first|refine awz ?_|refine cP (iE _) ?_|refine cP (cM _) ?_|refine tB ?_ ?_|intro h)<;>conv=>whnf)
  all_goals
    refine bE ?_;simp_all[iO,fR]
theorem Ci(x y:dJ):aN av 134 [.agg x.ds,.agg y.ds] (rB (dn x y)):=by
  refine pO func134 call134 ntmps134 results134 λS=>?_;conv=>whnf
  repeat'(first|refine awz ?_|refine tB ?_ ?_|(intro h;conv=>whnf))
  all_goals
    refine bE ?_;simp_all[dn]
  all_goals first|omega|(rw[Bool.eq_iff_iff];simp only[beq_iff_eq,decide_eq_true_eq];omega)
theorem mg(x y:dJ):aN av 161 [.agg x.ds,.agg y.ds] (rB (dn x y)):=by
  refine pO func161 call161 ntmps161 results161 λS=>?_;conv=>whnf
  repeat'(first|refine awz ?_|refine tB ?_ ?_|(intro h;conv=>whnf))
  all_goals
    refine bE ?_;simp_all[dn]
  all_goals first|omega|(rw[Bool.eq_iff_iff];simp only[beq_iff_eq,decide_eq_true_eq];omega)
theorem w9(h:¬(n.flight.length<=60/\n.cuts.length<=15)):dT n=false:=by
  have:(decide (n.flight.length<=60)&&decide (n.cuts.length<=15))=false:=by
    simp only[Bool.and_eq_false_iff,decide_eq_false_iff_not];omega
  simp only[dT,this,Bool.false_and]
theorem Ij(hk:k<n.flight.length)(h:iO n.flight[k]=false):dT n=false:=by
  have:=q8 (p:=iO) hk h;simp only[dT,this,Bool.and_false,Bool.false_and]
theorem Ii(hk:k<n.cuts.length)(h:cC dH dn n.cuts k hk=false):dT n=false:=by
  have:=pQ hk h;simp only[dT,Bool.and_assoc]at*
  simp only[this,Bool.and_false]
theorem LD(n:ee):aN av 83 [.agg n.ds] (rB (dT n)):=by
  refine pO func83 call83 ntmps83 results83 λS=>?_;conv=>whnf
  repeat'(first|refine awz ?_|refine tB ?_ ?_|(intro h;conv=>whnf))
  · rw[w9 ari]
  · rw[w9 ari]
  · have h1:n.flight.length<=60:=ari;have h2:n.cuts.length<=15:=ari;clear h;refine aaK (λk:Nat=>k<=n.flight.length/\∀(j:Nat) (hj:j<k) (hl:j<n.flight.length),iO n.flight[j]=true) (2::4::rg 20 8) (λk=>[(20,vI .i64 (k:Int))]) (λ_=>[(1,.cells 66 (n.ds.map .d))]) (λk=>n.flight.length-k) 0 ⟨ac,ac⟩ ?_ sbW (λk hR=>?_)<;>(conv=>whnf)
    · exact whd
    · obtain⟨hk,hall⟩:=hR;repeat'((first|refine awz ?_|refine aaO ari (λhlt=>?_)|refine aaH ari ari ?_|refine cP (LC _) ?_|refine tB ?_ ?_|intro h)<;>conv=>whnf)
      · rw[Ij hlt (by simpa using h)]
      · refine a8.mk ⟨k+1,⟨hlt,gJ (p:=iO) hall hlt (by simpa using h)⟩,ac,?_,sbW⟩;exact hds
      · have hrows:=iM (p:=iO) hall ari;clear hall hk h;refine aaK (λk:Nat=>k<=n.cuts.length/\∀(j:Nat) (hj:j<k) (hl:j<n.cuts.length),cC dH dn n.cuts j hl=true) (2::5::6::rg 31 34) (λk=>[(31,vI .i64 (k:Int))]) (λ_=>[(1,.cells 66 (n.ds.map .d))]) (λk=>n.cuts.length-k) 0 ⟨ac,ac⟩ ?_ sbW (λk hR=>?_)<;>(conv=>whnf)
        · exact whd
        · obtain⟨hk,hall⟩:=hR;repeat'((first|refine awz ?_|refine aaJ aM 12 24 uU vj ae ae ae rfl ?_|refine aaO ari (λhlt=>?_)|refine aa3 ari ari (λhpv=>?_)|refine aaH (n:=_-_) ari ari ?_|refine aaH ari ari ?_|refine cP (zM _ _) ?_|refine cP (Ci _ _) ?_|refine tB ?_ ?_|intro h)<;>conv=>whnf)
          all_goals first
            |(rw[Ii hlt (by first|(refine bX _ ?_;simp_all[dH];done)|(refine bX _ ?_;simp_all[dH];omega)|(rw[bq _ ari];simp_all[dH];done)|(rw[bu _ ari];simp_all[dH];done))];done)
            | (refine a8.mk ⟨k + 1, ⟨hlt, fU hall hlt (by first | (refine bX _ ?_; simp_all [dH]; done) | (refine bX _ ?_; simp_all [dH]; omega) | (rw [bq _ ari]; simp_all [dH]; done) | (rw [bu _ ari]; simp_all [dH]; done))⟩,ac, ?_, sbW⟩
               exact hds)
            | (refine bE ?_
               have he:=iz hall ari;simp only[dT,hrows,h1,h2,decide_true,Bool.and_self,Bool.true_and,he])
theorem g9(n:ee):aN av 99 [.agg n.ds] (rB (dT n)):=by
  refine pO func99 call99 ntmps99 results99 λS=>?_;conv=>whnf
  repeat'(first|refine awz ?_|refine tB ?_ ?_|(intro h;conv=>whnf))
  · rw[w9 ari]
  · rw[w9 ari]
  · have h1:n.flight.length<=60:=ari;have h2:n.cuts.length<=15:=ari;clear h;refine aaK (λk:Nat=>k<=n.flight.length/\∀(j:Nat) (hj:j<k) (hl:j<n.flight.length),iO n.flight[j]=true) (2::3::rg 16 14) (λk=>[(3,vI .i64 (k:Int))]) (λ_=>[(1,.cells 66 (n.ds.map .d))]) (λk=>n.flight.length-k) 0 ⟨ac,ac⟩ ?_ sbW (λk hR=>?_)<;>(conv=>whnf)
    · exact whd
    · obtain⟨hk,hall⟩:=hR;repeat'((first|refine awz ?_|refine aaO ari (λhlt=>?_)|refine aaH ari ari ?_|refine cP (jc _) ?_|refine tB ?_ ?_|intro h)<;>conv=>whnf)
      · rw[Ij hlt (by simpa using h)]
      · refine a8.mk ⟨k+1,⟨hlt,gJ (p:=iO) hall hlt (by simpa using h)⟩,ac,?_,sbW⟩;exact hds
      · have hrows:=iM (p:=iO) hall ari;clear hall hk h;refine aaK (λk:Nat=>k<=n.cuts.length/\∀(j:Nat) (hj:j<k) (hl:j<n.cuts.length),cC dH dn n.cuts j hl=true) (2::4::5::rg 30 44) (λk=>[(4,vI .i64 (k:Int))]) (λ_=>[(1,.cells 66 (n.ds.map .d))]) (λk=>n.cuts.length-k) 0 ⟨ac,ac⟩ ?_ sbW (λk hR=>?_)<;>(conv=>whnf)
        · exact whd
        · obtain⟨hk,hall⟩:=hR;repeat'((first|refine awz ?_|refine aaJ aM 12 28 uV vk ae ae ae rfl ?_|refine aaO ari (λhlt=>?_)|refine aa3 ari ari (λhpv=>?_)|refine aaH (n:=_-_) ari ari ?_|refine aaH ari ari ?_|refine cP (iE _) ?_|refine cP (mg _ _) ?_|refine tB ?_ ?_|intro h)<;>conv=>whnf)
          all_goals first
            |(rw[Ii hlt (by first|(refine bX _ ?_;simp_all[dH,fR];done)|(refine bX _ ?_;simp_all[dH,fR];intros;omega)|(rw[bq _ ari];simp_all[dH,fR];done)|(rw[bu _ ari];simp_all[dH,fR];done)|(rw[bq _ ari];simp_all[dH,fR];omega)|(rw[bu _ ari];simp_all[dH,fR];omega))];done)
            | (refine a8.mk ⟨k + 1, ⟨hlt, fU hall hlt (by first | (refine bX _ ?_; simp_all [dH, fR]; done) | (refine bX _ ?_; simp_all [dH, fR]; intros; omega) | (rw [bq _ ari]; simp_all [dH, fR]; done) | (rw [bu _ ari]; simp_all [dH, fR]; done) | (rw [bq _ ari]; simp_all [dH, fR]; omega) | (rw [bu _ ari]; simp_all [dH, fR]; omega))⟩,ac, ?_, sbW⟩
               exact hds)
            | (refine bE ?_
               have he:=iz hall ari;simp only[dT,hrows,h1,h2,decide_true,Bool.and_self,Bool.true_and,he])
theorem JI(h:l.length≠6):cY l=false:=by simp[cY,h]
theorem B7(hk:k<l.length)(h:tOk l[k]=false):cY l=false:=by
  have:=q8 (p:=tOk) hk h;simp only[cY,this,Bool.and_false]
theorem Ce(l:List Int):aN av 82 [.one (dIs l)] (rB (cY l)):=by
  refine pO func82 call82 ntmps82 results82 λS=>?_;conv=>whnf
  repeat'(first|refine awz ?_|refine tB ?_ ?_|(intro h;conv=>whnf))
  · rw[JI (by simp only[bne_iff_ne,ne_eq,decide_eq_true_eq,decide_eq_false_iff_not,beq_iff_eq,beq_eq_false_iff_ne,List.length_map,Bool.not_eq_true',Bool.not_eq_false',bne_eq_false_iff_eq]at*;omega)]
  · have h1:l.length=6:=(by simp only[bne_iff_ne,ne_eq,decide_eq_true_eq,decide_eq_false_iff_not,beq_iff_eq,beq_eq_false_iff_ne,List.length_map,Bool.not_eq_true',Bool.not_eq_false',bne_eq_false_iff_eq]at*;omega);clear h;refine aaK (λk:Nat=>k<=l.length/\∀(j:Nat) (hj:j<k) (hl:j<l.length),tOk l[j]=true) (2::4::rg 10 8) (λk=>[(10,vI .i64 (k:Int))]) (λ_=>[]) (λk=>l.length-k) 0 ⟨ac,ac⟩ ?_ aaE (λk hR=>?_)<;>(conv=>whnf)
    · exact whd
    · obtain⟨hk,hall⟩:=hR;repeat'((first|refine awz ?_|refine aaO ari (λhlt=>?_)|refine aaH ari ari ?_|refine cP (dM _) ?_|refine tB ?_ ?_|intro h)<;>conv=>whnf)
      · rw[B7 hlt (by simpa[tOk]using h)]
      · refine a8.mk ⟨k+1,⟨hlt,gJ (p:=tOk) hall hlt (by simpa[tOk]using h)⟩,ac,?_,aaE⟩;exact hds
      · refine bE ?_;simp only[cY,iM (p:=tOk) hall ari,h1,decide_true,Bool.and_self]
theorem AJ(l:List Int)(h6:l.length=6):aN av 94 [.one (dIs l)] (rB (cY l)):=by
  refine pO func94 call94 ntmps94 results94 λS=>?_;conv=>whnf
  repeat'(first|refine awz ?_|fail)
  refine aaK (λk:Nat=>k<=l.length/\∀(j:Nat) (hj:j<k) (hl:j<l.length),tOk l[j]=true) (rg 2 14) (λk=>[(3,vI .i64 (k:Int))]) (λ_=>[]) (λk=>l.length-k) 0 ⟨ac,ac⟩ ?_ aaE (λk hR=>?_)<;>(conv=>whnf)
  · exact whd
  · obtain⟨hk,hall⟩:=hR;repeat'((first|refine awz ?_|refine aaO ari (λhlt=>?_)|refine aaH ari ari ?_|refine cP (db _) ?_|refine tB ?_ ?_|intro h)<;>conv=>whnf)
    all_goals first
      |(rw[B7 hlt (by simpa[tOk]using h)];done)
      | (refine a8.mk ⟨k + 1, ⟨hlt, gJ (p := tOk) hall hlt (by simpa [tOk] using h)⟩,ac, ?_, aaE⟩
         exact hds)
      | (refine bE ?_
         simp only[cY,iM (p:=tOk) hall ari,Bool.and_true];simp only[List.length_map];first|omega|(rw[Bool.eq_iff_iff];simp only[beq_iff_eq,decide_eq_true_eq];omega))
end
end Go.Proofs.YthgkdhnlehneeaaGreatDoor
