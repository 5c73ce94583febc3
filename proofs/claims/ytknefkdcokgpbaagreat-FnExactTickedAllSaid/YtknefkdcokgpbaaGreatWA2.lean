/- WA2 -/
import Derived.Test.YtknefkdcokgpbaaGreatAwx
import Derived.Test.YtknefkdcokgpbaaGreatWData
set_option maxHeartbeats 8000000
set_option linter.unusedVariables false
set_option linter.unusedSimpArgs false
set_option maxRecDepth 100000
open List (all_eq_true filter_cons filter_sublist find?_cons find?_eq_none foldl_cons mem_cons mem_filter pairwise_cons)
open Bool (and_eq_true)
namespace Go.Proofs.YtknefkdcokgpbaaGreat
section
open Go.Proofs.Tryz
open Go.ChangeShapes Go.WideShapes Go.RowKit
variable {n:DNet}{l:List Int}{k:Nat}{α:Type}
def sD:List (List Nat):=bZ [0,1,0,3,528643,84688962,6476284101,486456430726,35598854271303,486456430726,44394947293511,0x91c50c40421882ca,0x1c50c404218c28b209,0xd2482ca306081103147,0x38714310108630a2c824d,0xf34920b28c1820440c51ce,0x40e1c50c404218c28b20934f,0x113cd2482ca306081103147390,0x49038714310108630a2c824d3d1,0x113cd2482ca306081103147390,0x51038714310108630a2c824d3d1,0x1344f34920b28c1820440c51ce412554,0x59455240e1c50c404218c28b20934f453,0x113cd2482ca306081103147390,0x5d344f34920b28c1820440c51ce412554598,0x1961651549038714310108630a2c824d3d14d7,0x44f34920b28c1820440c51ce41a5d3495516619,0xe1c50c404218c28b20935b6585945524d76903d1]
def sM:List (List Nat):=fB 24 [72,73,8,17,40,121,364,158557,160744,18589,38272,88573,265720,797161,2391484,7174453,21523360,197649019471,197778159634,189384049039,190546310506,193516534255,203976887458,94078608745]
def sE:List (List Nat):=bZ [0,1,129,12354,1056835,84676740,6510088389,486455648518,35601017745735,0x50c1084247188,0x2881872440810c5,0xb1430421091c620a,0x30a2061c910204314b,0xb1430421091c620a,0x38a2061c910204314b,0xd2c50c108424718828c3ce,0x2c50c108424718829038f30d,0x1134c3ce40a2061c910204314b,0x48b1430421091c620a40e3cc351,0x1344d30f3902881872440810c52d2,0x5122c50c108424718829038f30d453,0x154d134c3ce40a2061c910204314b494,0x59448b1430421091c620a40e3cc3514d5,0x154d134c3ce40a2061c910204314b494,0x61448b1430421091c620a40e3cc3514d5,0x1755344d30f3902881872440810c52d2516658,0x6986565122c50c108424718829038f30d453557,0x154d134c3ce40a2061c910204314b494,0x6d755344d30f3902881872440810c52d251665869c,0x1d71a61959448b1430421091c620a40e3cc3514d55db,0x55344d30f3902881872440810c52d251e6d759961a71d,0x122c50c108424718829038f30d45f75c6986565db7944d5]
def sN:List (List Nat):=fB 28 [0,1,4,13,40,121,364,1093,3280,9841,29524,12843157,13020304,1505749,3100072,7174453,21523360,64570081,193710244,581130733,1743392200,0xe8f84c46b27,0xe91f440bdda,0xdf3a5afbe67,0xe09910ea6b2,0xe41953a14c7,0xf06db903f6a,7620367308385]
theorem YJ{enc:α->List AD}{l:List α}{K:Nat->List AD->Prop}(h0:0<k)(hk:k<=l.length)(h:∀_:k-1<l.length,K (k-1) (enc l[k-1])):AIx (l.map enc) ((k:Int)-1) K:=by
  have e:((k:Int)-1)=((k-1:Nat):Int):=ac;rw[e];exact Yg ac (h ac)
def cu{α:Type}(P:α->Bool)(Q:α->α->Bool)(l:List α)(k:Nat)(hk:k<l.length):Bool:=P l[k]&&(if h:0<k then Q (l[k-1]'(ac)) l[k]else true)
theorem oR{P:α->Bool}{Q:α->α->Bool}{l:List α}(hk:k<l.length)(h:cu P Q l k hk=false):(l.all P&&jh Q l)=false:=by
  unfold cu at h;cases hp:P l[k]with
  |false=>rw[pS hk hp];rfl
  |true=>
    rw[hp]at h;simp only[Bool.true_and]at h;split at h
    · rename_i h0;obtain⟨j,rfl⟩:∃j,k=j+1:=⟨k-1,ac⟩;rw[RJ (Q:=Q) hk (by simpa using h),Bool.and_false]
    · cases h
theorem EF{P:α->Bool}{Q:α->α->Bool}{l:List α}(h:∀(j:Nat) (hl:j<l.length),cu P Q l j hl=true):(l.all P&&jh Q l)=true:=by
  rw[Bool.and_eq_true];refine⟨GA λk hk=>?_,Bl λk hk=>?_⟩
  · have:=h k hk;unfold cu at this;exact(Bool.and_eq_true_iff.1 this).1
  · have:=h (k+1) hk;unfold cu at this;have:=(Bool.and_eq_true_iff.1 this).2;simpa using this
theorem fm{P:α->Bool}{Q:α->α->Bool}{l:List α}(hall:∀(j:Nat) (hj:j<k) (hl:j<l.length),cu P Q l j hl=true)(hlt:k<l.length)(h:cu P Q l k hlt=true):∀(j:Nat) (hj:j<k+1) (hl:j<l.length),cu P Q l j hl=true:=by
  intro j hj hl;by_cases hjk:j=k
  · subst hjk;exact h
  · exact hall j ac hl
theorem iy{P:α->Bool}{Q:α->α->Bool}{l:List α}(hall:∀(j:Nat) (hj:j<k) (hl:j<l.length),cu P Q l j hl=true)(hk:k=l.length):(l.all P&&jh Q l)=true:=EF λj hj=>hall j ac hj
theorem bo{P:α->Bool}{Q:α->α->Bool}{l:List α}(hk:k<l.length)(h:0<k):cu P Q l k hk=(P l[k]&&Q (l[k-1]'(ac)) l[k]):=by simp[cu,h]
theorem br{P:α->Bool}{Q:α->α->Bool}{l:List α}(hk:k<l.length)(h:¬0<k):cu P Q l k hk=P l[k]:=by simp[cu,h]
theorem bU{P:α->Bool}{Q:α->α->Bool}{l:List α}(hk:k<l.length)(h:P l[k]=false):cu P Q l k hk=false:=by simp[cu,h]
theorem sU(t:DTwo):aM av 279 [.agg t.ds] (rB (j4 t)):=by
  refine pO func279 call279 ntmps279 results279 λS=>?_;conv=>whnf
  repeat'((first|refine awz ?_|refine cP (fS t.a) ?_|refine cP (fS t.b) ?_|refine tB ?_ ?_|intro h)<;>conv=>whnf)
  all_goals
    refine bJ ?_;simp_all[j4]
  all_goals first|omega|(rw[Bool.eq_iff_iff];simp only[beq_iff_eq,decide_eq_true_eq];omega)
theorem pu(t:DTwo):aM av 223 [.agg t.ds] (rB (j4 t)):=by
  refine pO func223 call223 ntmps223 results223 λS=>?_;conv=>whnf
  repeat'((first|refine awz ?_|refine cP (em t.a) ?_|refine cP (em t.b) ?_|refine tB ?_ ?_|intro h)<;>conv=>whnf)
  all_goals
    refine bJ ?_;simp_all[j4]
  all_goals first|omega|(rw[Bool.eq_iff_iff];simp only[beq_iff_eq,decide_eq_true_eq];omega)
theorem EX(t:DTwo):aM av 358 [.agg t.ds] (rB (kt t)):=by
  refine pO func358 call358 ntmps358 results358 λS=>?_;conv=>whnf
  repeat'((first|refine awz ?_|refine cP (sU t) ?_|refine tB ?_ ?_|intro h)<;>conv=>whnf)
  all_goals
    refine bJ ?_;simp_all[kt]
  all_goals first|omega|(rw[Bool.eq_iff_iff];simp only[beq_iff_eq,decide_eq_true_eq];omega)
theorem Fy(t:DTwo):aM av 214 [.agg t.ds] (rB (kt t)):=by
  refine pO func214 call214 ntmps214 results214 λS=>?_;conv=>whnf
  repeat'((first|refine awz ?_|refine cP (pu t) ?_|refine tB ?_ ?_|intro h)<;>conv=>whnf)
  all_goals
    refine bJ ?_;simp_all[kt]
  all_goals first|omega|(rw[Bool.eq_iff_iff];simp only[beq_iff_eq,decide_eq_true_eq];omega)
theorem qc(d:DDisk):aM av 370 [.agg d.ds] (rB (dg d)):=by
  refine pO func370 call370 ntmps370 results370 λS=>?_;conv=>whnf
  repeat'((first|refine awz ?_|refine cP (fS d) ?_|refine tB ?_ ?_|intro h)<;>conv=>whnf)
  all_goals
    refine bJ ?_;simp_all[dg]
  all_goals first|omega|(rw[Bool.eq_iff_iff];simp only[beq_iff_eq,decide_eq_true_eq];omega)
theorem nv(d:DDisk):aM av 225 [.agg d.ds] (rB (dg d)):=by
  refine pO func225 call225 ntmps225 results225 λS=>?_;conv=>whnf
  repeat'((first|refine awz ?_|refine cP (em d) ?_|refine tB ?_ ?_|intro h)<;>conv=>whnf)
  all_goals
    refine bJ ?_;simp_all[dg]
  all_goals first|omega|(rw[Bool.eq_iff_iff];simp only[beq_iff_eq,decide_eq_true_eq];omega)
theorem wY(a b:Int):aM av 274 [pI a,pI b] (rB (iP a b)):=by
  refine pO func274 call274 ntmps274 results274 λS=>?_;conv=>whnf
  repeat'((first|refine awz ?_|refine cP (E7 _) ?_|refine tB ?_ ?_|intro h)<;>conv=>whnf)
  all_goals
    refine bJ ?_;simp_all[iP]
theorem BW(m:DMsg):aM av 273 [.agg m.ds] (rB (fM m)):=by
  refine pO func273 call273 ntmps273 results273 λS=>?_;conv=>whnf
  repeat'((first|refine awz ?_|refine cP (wY _ _) ?_|refine cP (js _) ?_|refine tB ?_ ?_|intro h)<;>conv=>whnf)
  all_goals
    refine bJ ?_;simp_all[fM]
theorem tu(m:DMsg):aM av 141 [.agg m.ds] (rB (fM m)):=by
  refine pO func141 call141 ntmps141 results141 λS=>?_;conv=>whnf
  repeat'((first|refine awz ?_|refine cP (uA _) ?_|refine cP (dJ _) ?_|refine tB ?_ ?_|intro h)<;>conv=>whnf)
  all_goals
    refine bJ ?_;simp_all[fM,iP]
theorem yX(x y:DLink):aM av 275 [.agg x.ds,.agg y.ds] (rB (ju x y)):=by
  refine pO func275 call275 ntmps275 results275 λS=>?_;conv=>whnf
  repeat'(first|refine awz ?_|refine tB ?_ ?_|(intro h;conv=>whnf))
  all_goals
    refine bJ ?_;simp_all[ju]
  all_goals first|omega|(rw[Bool.eq_iff_iff];simp only[beq_iff_eq,decide_eq_true_eq];omega)
theorem vq(x y:DLink):aM av 143 [.agg x.ds,.agg y.ds] (rB (ju x y)):=by
  refine pO func143 call143 ntmps143 results143 λS=>?_;conv=>whnf
  repeat'(first|refine awz ?_|refine tB ?_ ?_|(intro h;conv=>whnf))
  all_goals
    refine bJ ?_;simp_all[ju]
  all_goals first|omega|(rw[Bool.eq_iff_iff];simp only[beq_iff_eq,decide_eq_true_eq];omega)
theorem uh(h:¬(n.flight.length<=60/\n.cuts.length<=15)):fd n=false:=by
  have:(decide (n.flight.length<=60)&&decide (n.cuts.length<=15))=false:=by
    simp only[Bool.and_eq_false_iff,decide_eq_false_iff_not];omega
  simp only[fd,this,Bool.false_and]
theorem Fi(hk:k<n.flight.length)(h:fM n.flight[k]=false):fd n=false:=by
  have:=pS (p:=fM) hk h;simp only[fd,this,Bool.and_false,Bool.false_and]
theorem Fh(hk:k<n.cuts.length)(h:cu eW ju n.cuts k hk=false):fd n=false:=by
  have:=oR hk h;simp only[fd,Bool.and_assoc]at*
  simp only[this,Bool.and_false]
theorem BX(n:DNet):aM av 171 [.agg n.ds] (rB (fd n)):=by
  refine pO func171 call171 ntmps171 results171 λS=>?_;conv=>whnf
  repeat'(first|refine awz ?_|refine tB ?_ ?_|(intro h;conv=>whnf))
  · rw[uh ari]
  · rw[uh ari]
  · have h1:n.flight.length<=60:=ari;have h2:n.cuts.length<=15:=ari;clear h;refine X5 (λk:Nat=>k<=n.flight.length/\∀(j:Nat) (hj:j<k) (hl:j<n.flight.length),fM n.flight[j]=true) (2::4::rg 20 8) (λk=>[(20,vI .i64 (k:Int))]) (λ_=>[(1,.cells 103 (n.ds.map .d))]) (λk=>n.flight.length-k) 0 ⟨ac,ac⟩ ?_ sbW (λk hR=>?_)<;>(conv=>whnf)
    · exact whd
    · obtain⟨hk,hall⟩:=hR;repeat'((first|refine awz ?_|refine Yc ari (λhlt=>?_)|refine X3 ari ari ?_|refine cP (BW _) ?_|refine tB ?_ ?_|intro h)<;>conv=>whnf)
      · rw[Fi hlt (by simpa using h)]
      · refine bd.mk ⟨k+1,⟨hlt,gq (p:=fM) hall hlt (by simpa using h)⟩,ac,?_,sbW⟩;exact hds
      · have hrows:=iG (p:=fM) hall ari;clear hall hk h;refine X5 (λk:Nat=>k<=n.cuts.length/\∀(j:Nat) (hj:j<k) (hl:j<n.cuts.length),cu eW ju n.cuts j hl=true) (2::5::6::rg 31 34) (λk=>[(31,vI .i64 (k:Int))]) (λ_=>[(1,.cells 103 (n.ds.map .d))]) (λk=>n.cuts.length-k) 0 ⟨ac,ac⟩ ?_ sbW (λk hR=>?_)<;>(conv=>whnf)
        · exact whd
        · obtain⟨hk,hall⟩:=hR;repeat'((first|refine awz ?_|refine X9 aN 12 24 sD sM ae ae ae rfl ?_|refine Yc ari (λhlt=>?_)|refine YJ ari ari (λhpv=>?_)|refine X3 (n:=_-_) ari ari ?_|refine X3 ari ari ?_|refine cP (wY _ _) ?_|refine cP (yX _ _) ?_|refine tB ?_ ?_|intro h)<;>conv=>whnf)
          all_goals first
            |(rw[Fh hlt (by first|(refine bU _ ?_;simp_all[eW];done)|(refine bU _ ?_;simp_all[eW];omega)|(rw[bo _ ari];simp_all[eW];done)|(rw[br _ ari];simp_all[eW];done))];done)
            | (refine bd.mk ⟨k + 1, ⟨hlt, fm hall hlt (by first | (refine bU _ ?_; simp_all [eW]; done) | (refine bU _ ?_; simp_all [eW]; omega) | (rw [bo _ ari]; simp_all [eW]; done) | (rw [br _ ari]; simp_all [eW]; done))⟩,ac, ?_, sbW⟩
               exact hds)
            | (refine bJ ?_
               have he:=iy hall ari;simp only[fd,hrows,h1,h2,decide_true,Bool.and_self,Bool.true_and,he])
theorem tv(n:DNet):aM av 67 [.agg n.ds] (rB (fd n)):=by
  refine pO func67 call67 ntmps67 results67 λS=>?_;conv=>whnf
  repeat'(first|refine awz ?_|refine tB ?_ ?_|(intro h;conv=>whnf))
  · rw[uh ari]
  · rw[uh ari]
  · have h1:n.flight.length<=60:=ari;have h2:n.cuts.length<=15:=ari;clear h;refine X5 (λk:Nat=>k<=n.flight.length/\∀(j:Nat) (hj:j<k) (hl:j<n.flight.length),fM n.flight[j]=true) (2::3::rg 16 14) (λk=>[(3,vI .i64 (k:Int))]) (λ_=>[(1,.cells 103 (n.ds.map .d))]) (λk=>n.flight.length-k) 0 ⟨ac,ac⟩ ?_ sbW (λk hR=>?_)<;>(conv=>whnf)
    · exact whd
    · obtain⟨hk,hall⟩:=hR;repeat'((first|refine awz ?_|refine Yc ari (λhlt=>?_)|refine X3 ari ari ?_|refine cP (tu _) ?_|refine tB ?_ ?_|intro h)<;>conv=>whnf)
      · rw[Fi hlt (by simpa using h)]
      · refine bd.mk ⟨k+1,⟨hlt,gq (p:=fM) hall hlt (by simpa using h)⟩,ac,?_,sbW⟩;exact hds
      · have hrows:=iG (p:=fM) hall ari;clear hall hk h;refine X5 (λk:Nat=>k<=n.cuts.length/\∀(j:Nat) (hj:j<k) (hl:j<n.cuts.length),cu eW ju n.cuts j hl=true) (2::4::5::rg 30 44) (λk=>[(4,vI .i64 (k:Int))]) (λ_=>[(1,.cells 103 (n.ds.map .d))]) (λk=>n.cuts.length-k) 0 ⟨ac,ac⟩ ?_ sbW (λk hR=>?_)<;>(conv=>whnf)
        · exact whd
        · obtain⟨hk,hall⟩:=hR;repeat'((first|refine awz ?_|refine X9 aN 12 28 sE sN ae ae ae rfl ?_|refine Yc ari (λhlt=>?_)|refine YJ ari ari (λhpv=>?_)|refine X3 (n:=_-_) ari ari ?_|refine X3 ari ari ?_|refine cP (uA _) ?_|refine cP (vq _ _) ?_|refine tB ?_ ?_|intro h)<;>conv=>whnf)
          all_goals first
            |(rw[Fh hlt (by first|(refine bU _ ?_;simp_all[eW,iP];done)|(refine bU _ ?_;simp_all[eW,iP];intros;omega)|(rw[bo _ ari];simp_all[eW,iP];done)|(rw[br _ ari];simp_all[eW,iP];done)|(rw[bo _ ari];simp_all[eW,iP];omega)|(rw[br _ ari];simp_all[eW,iP];omega))];done)
            | (refine bd.mk ⟨k + 1, ⟨hlt, fm hall hlt (by first | (refine bU _ ?_; simp_all [eW, iP]; done) | (refine bU _ ?_; simp_all [eW, iP]; intros; omega) | (rw [bo _ ari]; simp_all [eW, iP]; done) | (rw [br _ ari]; simp_all [eW, iP]; done) | (rw [bo _ ari]; simp_all [eW, iP]; omega) | (rw [br _ ari]; simp_all [eW, iP]; omega))⟩,ac, ?_, sbW⟩
               exact hds)
            | (refine bJ ?_
               have he:=iy hall ari;simp only[fd,hrows,h1,h2,decide_true,Bool.and_self,Bool.true_and,he])
theorem GI(h:l.length≠6):fp l=false:=by simp[fp,h]
theorem yA(hk:k<l.length)(h:tOk l[k]=false):fp l=false:=by
  have:=pS (p:=tOk) hk h;simp only[fp,this,Bool.and_false]
theorem yP(l:List Int):aM av 170 [.one (dIs l)] (rB (fp l)):=by
  refine pO func170 call170 ntmps170 results170 λS=>?_;conv=>whnf
  repeat'(first|refine awz ?_|refine tB ?_ ?_|(intro h;conv=>whnf))
  · rw[GI (by simp only[bne_iff_ne,ne_eq,decide_eq_true_eq,decide_eq_false_iff_not,beq_iff_eq,beq_eq_false_iff_ne,List.length_map,Bool.not_eq_true',Bool.not_eq_false',bne_eq_false_iff_eq]at*;omega)]
  · have h1:l.length=6:=(by simp only[bne_iff_ne,ne_eq,decide_eq_true_eq,decide_eq_false_iff_not,beq_iff_eq,beq_eq_false_iff_ne,List.length_map,Bool.not_eq_true',Bool.not_eq_false',bne_eq_false_iff_eq]at*;omega);clear h;refine X5 (λk:Nat=>k<=l.length/\∀(j:Nat) (hj:j<k) (hl:j<l.length),tOk l[j]=true) (2::4::rg 10 8) (λk=>[(10,vI .i64 (k:Int))]) (λ_=>[]) (λk=>l.length-k) 0 ⟨ac,ac⟩ ?_ X4 (λk hR=>?_)<;>(conv=>whnf)
    · exact whd
    · obtain⟨hk,hall⟩:=hR;repeat'((first|refine awz ?_|refine Yc ari (λhlt=>?_)|refine X3 ari ari ?_|refine cP (da _) ?_|refine tB ?_ ?_|intro h)<;>conv=>whnf)
      · rw[yA hlt (by simpa[tOk]using h)]
      · refine bd.mk ⟨k+1,⟨hlt,gq (p:=tOk) hall hlt (by simpa[tOk]using h)⟩,ac,?_,X4⟩;exact hds
      · refine bJ ?_;simp only[fp,iG (p:=tOk) hall ari,h1,decide_true,Bool.and_self]
theorem xv(l:List Int)(h6:l.length=6):aM av 62 [.one (dIs l)] (rB (fp l)):=by
  refine pO func62 call62 ntmps62 results62 λS=>?_;conv=>whnf
  repeat'(first|refine awz ?_|fail)
  refine X5 (λk:Nat=>k<=l.length/\∀(j:Nat) (hj:j<k) (hl:j<l.length),tOk l[j]=true) (rg 2 14) (λk=>[(3,vI .i64 (k:Int))]) (λ_=>[]) (λk=>l.length-k) 0 ⟨ac,ac⟩ ?_ X4 (λk hR=>?_)<;>(conv=>whnf)
  · exact whd
  · obtain⟨hk,hall⟩:=hR;repeat'((first|refine awz ?_|refine Yc ari (λhlt=>?_)|refine X3 ari ari ?_|refine cP (ew _) ?_|refine tB ?_ ?_|intro h)<;>conv=>whnf)
    all_goals first
      |(rw[yA hlt (by simpa[tOk]using h)];done)
      | (refine bd.mk ⟨k + 1, ⟨hlt, gq (p := tOk) hall hlt (by simpa [tOk] using h)⟩,ac, ?_, X4⟩
         exact hds)
      | (refine bJ ?_
         simp only[fp,iG (p:=tOk) hall ari,Bool.and_true];simp only[List.length_map];first|omega|(rw[Bool.eq_iff_iff];simp only[beq_iff_eq,decide_eq_true_eq];omega))
end
section
open Go.Proofs.Tryz
open Go.ChangeShapes Go.WideShapes Go.RowKit
def sF:List (List Nat):=bZ [0,1,129,12354,12354,1318979,4328796549,486506500228,35461415067975,12354,2629699,0x91c51830421082ca,0xc108c28b2041851c9]
def sO:List (List Nat):=fB 11 [0,1,4,158125,157531,157612,157828,158557,160744,19669,39352]
theorem t9{n:Int}(h1: -9223372036854775808<=n)(h2:n<=9223372036854775807):(Lit.int .i64 n).wf=true:=by
  simp[Lit.wf,IntKind.min,IntKind.max,IntKind.signed,IntKind.bits];omega
theorem Dx{n lo hi:Int}(h:(!aK n lo hi)=false)(h1: -9223372036854775808<=lo)(h2:hi<=9223372036854775807):(Lit.int .i64 n).wf=true:=by
  have:aK n lo hi=true:=by simpa using h
  simp only[aK,Bool.and_eq_true,decide_eq_true_eq]at this;exact t9 ac ac
theorem KH(w:World):(zeroValue 4).run Tryz.prog w= .ok (.bool false) w:=by kernel_rfl
def kU(l:List Int)(x:Int):Option Value:=if x∈l then some (.bool true)else none
theorem O8:kU []=λ_=>none:=by funext x;simp[kU]
theorem Mx(l:List Int)(n:Int):rJ (kU l) n (some (.bool true))=kU (l++[n]):=by
  funext x;unfold rJ kU;by_cases h:x=n
  · simp[h]
  · simp[h]
theorem Gi(l:List Int)(n:Int):(kU l n).getD (.bool false)= .bool (decide (n∈l)):=by
  unfold kU;by_cases h:n∈l<;>simp[h]
section
variable {S:bV} {o:Oper} {st:ASt} {K:ASt->Prop}
theorem Zb{t:TypeId}{d:Tmp}(ho:o.op= .makeMap t none)(hd:o.dst=some d)(hk:wq st d (jc Tryz.prog 2 0 (kU [])) λst=>dR st (some d) (.one (.own d)) K):AOp av S o st K:=
  AOp.makeMap 2 ho hd (by rw[O8]at hk;exact hk)
theorem Za{x i:Operand}{id:Nat}{n:Int}{N:Nat}{l:List Int}(ho:o.op= .lookup 452 x i false)(hx:aEv st x λv=>v= .one (.own id))(hi:aEv st i λv=>v=vI .i64 n)(hob:aOb st.ob id λo=>o=jc Tryz.prog 2 N (kU l))(hn:(Lit.int .i64 n).wf=true)
    (hK:dR st o.dst (vB (decide (n∈l))) K):AOp av S o st K:=
  ZO (E:=av) ho underlying452 underlying2 KH hx hi hob hn (vB (decide (n∈l))) (λZ w ρ=>by rw[Gi];exact cK rfl) hK
theorem Zp{K:AV->Prop}{x i:Operand}{id:Nat}{n:Int}{N:Nat}{l:List Int}(ho:o.op= .lookup 452 x i false)(hx:aEv st x λv=>v= .one (.own id))(hi:aEv st i λv=>v=vI .i64 n)(hob:aOb st.ob id λo=>o=jc Tryz.prog 2 N (kU l))(hn:(Lit.int .i64 n).wf=true)
    (hK:K (vB (decide (n∈l)))):ou av o st K:=
  aam (E:=av) ho underlying452 underlying2 KH hx hi hob hn (vB (decide (n∈l))) (λZ w ρ=>by rw[Gi];exact cK rfl) hK
theorem Zk{x i:Operand}{id:Nat}{n:Int}{N:Nat}{l:List Int}(ho:o.op= .mapUpdate 452 x i (.const (.bool true)))(hN:N<9223372036854775807)(hx:aEv st x λv=>v= .one (.own id))(hi:aEv st i λv=>v=vI .i64 n)(hob:aOb st.ob id λo=>o=jc Tryz.prog 2 N (kU l))(hn:(Lit.int .i64 n).wf=true)
    (hK:gH id (jc Tryz.prog 2 (N+1) (kU (l++[n]))) st.ob λob=>dR ⟨st.tm,ob⟩ o.dst (.one .und) K):AOp av S o st K:=by
  refine ZP (E:=av) (u:= .bool true) ho underlying452 underlying2 hN hx hi hob hn (show∀Z w ρ y,bX Z w ρ (vB true) y->y= .bool true from λZ w ρ y h=>cy h) ?_;rw[Mx];exact hK
end
theorem Rn{s:List DMark}{k:Nat}(hlt:k<s.length):((s.take k).map (·.index))++[s[k].index]=(s.take (k+1)).map (·.index):=(dn (λm:DMark=>m.index) hlt).symm
theorem xt{s:List DMark}{k:Nat}(hk:k<s.length)(h:cu eL jF s k hk=false):seenOk s=false:=by
  have:=oR hk h;simp only[seenOk,this,Bool.false_and]
theorem C0{s:List DMark}{j k:Nat}(hj:j<k)(hk:k<s.length)(h:(s[j]'(ac)).index=s[k].index):seenOk s=false:=by
  have:=sq (R:=qj) hj hk (by simp[qj,h]);simp only[seenOk,this,Bool.and_false]
theorem Ka{s:List DMark}{k:Nat}(hk:k<s.length)(h:decide (s[k].index∈(s.take k).map (·.index))=true):seenOk s=false:=by
  obtain⟨m,hm,e⟩:=List.mem_map.1 (of_decide_eq_true h);obtain⟨j,hj,rfl⟩:=List.getElem_of_mem hm;simp at hj e;exact C0 (j:=j) ac hk e
theorem C1{s:List DMark}(h:∀(j:Nat) (hl:j<s.length),cu eL jF s j hl=true)(hd:∀(i j:Nat) (hi:i<j) (hl:j<s.length),(s[i]'(ac)).index≠s[j].index):seenOk s=true:=by
  have h1:=EF h;have h2:=pU (R:=qj) (l:=s) λi j hi hl=>by simpa[qj]using hd i j hi hl
  simp only[seenOk,h1,h2,Bool.and_self]
theorem Tr{s:List DMark}{k:Nat}(hk:k<s.length)(h:decide (s[k].index∈(s.take k).map (·.index))=false){i:Nat}(hi:i<k):(s[i]'(ac)).index≠s[k].index:=by
  have:=of_decide_eq_false h;intro e;refine this (List.mem_map.2 ⟨s[i],?_,e⟩);rw[List.mem_take_iff_getElem];exact⟨i,ac,rfl⟩
theorem Kj{s:List DMark}{k:Nat}(hlt:k<s.length)(hd:∀(i j:Nat) (hi:i<j) (hj:j<k) (hl:j<s.length),(s[i]'(ac)).index≠s[j].index)(h:∀(i:Nat) (hi:i<k),(s[i]'(ac)).index≠s[k].index):∀(i j:Nat) (hi:i<j) (hj:j<k+1) (hl:j<s.length),(s[i]'(ac)).index≠s[j].index:=by
  intro i j hi hj hl;by_cases hjk:j=k
  · subst hjk;exact h i hi
  · exact hd i j hi ac hl
theorem fq{s:List DMark}(h:seenOk s=true):s.length<=4:=by
  simp only[seenOk,Bool.and_eq_true]at h;obtain⟨⟨h1,h2⟩,_⟩:=h;have key:∀(j:Nat) (hj:j<s.length),(2:Int)+j<=s[j].client:=by
    intro j;induction j with
    |zero=>
      intro hj;have:=tU h1 hj;simp only[eL,aK,Bool.and_eq_true,decide_eq_true_eq]at this;omega
    |succ j ih=>
      intro hj;have:=j8 h2 hj;simp only[jF,decide_eq_true_eq]at this;have:=ih ac;omega
  rcases Nat.lt_or_ge 4 s.length with hl|hl
  · have h5:=key 4 hl;have:=tU h1 hl;simp only[eL,aK,Bool.and_eq_true,decide_eq_true_eq]at this;omega
  · exact hl
theorem mD(s:List DMark)(hs:s.length<=9223372036854775806):aM av 423 [.one (.sl (s.map DMark.ds))] (rB (seenOk s)):=by
  refine pO func423 call423 ntmps423 results423 λS=>?_;conv=>whnf
  repeat'(first|refine awz ?_|(refine Zb rfl rfl ?_;conv=>whnf)|fail)
  refine X5 (λk:Nat=>k<=s.length/\(∀(j:Nat) (hj:j<k) (hl:j<s.length),cu eL jF s j hl=true)/\∀(i j:Nat) (hi:i<j) (hj:j<k) (hl:j<s.length),(s[i]'(ac)).index≠s[j].index) (2::4::5::rg 9 44) (λk=>[(9,vI .i64 (k:Int))]) (λk=>[(6,jc Tryz.prog 2 k (kU ((s.take k).map (·.index))))]) (λk=>s.length-k) 0 ⟨ac,ac,ac⟩ ?_ sbW (λk hR=>?_)<;>(conv=>whnf)
  · exact whd
  · obtain⟨hk,hall,hdup⟩:=hR;repeat'((first|refine awz ?_|refine X9 aN 7 11 sF sO ae ae ae rfl ?_|refine Yc ari (λhlt=>?_)|refine YJ ari ari (λhpv=>?_)|refine X3 (n:=_-_) ari ari ?_|refine X3 ari ari ?_|refine cP (jD _) ?_|refine cP (m0 _) ?_|refine cP (ld _) ?_|refine Za (id:=6) (N:=k) rfl rfl rfl rfl (Dx ai ah ah) ?_|refine Zk (id:=6) (N:=k) rfl ac rfl rfl rfl (Dx ai ah ah) ?_|refine tB ?_ ?_|intro h)<;>conv=>whnf)
    all_goals first
      |(rw[xt hlt (by first|(refine bU _ ?_;simp_all[eL];done)|(rw[bo _ ari];simp_all[eL,jF];done)|(rw[br _ ari];simp_all[eL];done))];done)
      |(rw[Ka hlt ai];done)
      | (refine bd.mk ⟨k + 1, ⟨hlt, fm hall hlt (by first | (refine bU _ ?_; simp_all [eL]; done) | (rw [bo _ ari]; simp_all [eL, jF]; done) | (rw [br _ ari]; simp_all [eL]; done)), Kj hlt hdup fun i hi => Tr hlt ai hi⟩,ac, ?_, X0 (congrArg some (congrArg (fun l => jc Tryz.prog 2 (k + 1) (kU l)) (Rn hlt))) X4⟩
         exact hds)
      | (refine bJ ?_
         have hkk:k=s.length:=ari;rw[C1 (λj hl=>hall j ac hl) (λi j hi hl=>hdup i j hi ac hl)])
end
open Go.ChangeShapes Go.WideShapes Go.RowKit
def mm(s:List DMark):Prop:=s.Pairwise λx y=>x.client<y.client
theorem Bm:∀{s:List DMark},jh jF s=true->mm s
 |[],_=>List.Pairwise.nil
 |[x],_=>List.pairwise_singleton _ _
 |x::y::r,h=>by
  simp only[jh,and_eq_true]at h;have ih:=Bm (s:=y::r) h.2;have hxy:x.client<y.client:=by simpa[jF]using h.1
  refine pairwise_cons.2 ⟨λz hz=>?_,ih⟩;rcases mem_cons.1 hz with rfl|hz
  ·exact hxy
  ·have:=(pairwise_cons.1 ih).1 z hz;omega
theorem Dl:∀{s:List DMark},mm s->jh jF s=true
 |[],_=>rfl
 |[x],_=>rfl
 |x::y::r,h=>by
  have h1:=pairwise_cons.1 h;simp only[jh,and_eq_true];exact⟨by simpa[jF]using h1.1 y aj,Dl h1.2⟩
theorem oh{s:List DMark}(h:seenOk s=true):mm s:=by
 simp only[seenOk,and_eq_true]at h;exact Bm h.1.2
theorem uv{s:List DMark}(h:seenOk s=true){m:DMark}(hm:m∈s):eL m=true:=by
 simp only[seenOk,and_eq_true]at h;exact all_eq_true.1 h.1.1 m hm
theorem wN{s:List DMark}{c:Int}(h:∀m∈s,c<=m.client):s.filter (λx=>decide (x.client<c))=[]:=by
 rw[List.filter_eq_nil_iff];intro m hm;have:=h m hm;simp;omega
theorem EP{c:Int}:∀{s:List DMark},mm s->s.filter (λx=>decide (x.client<c+1))=s.filter (λx=>decide (x.client<c))++(s.find? λx=>x.client==c).toList
 |[],_=>rfl
 |x::r,h=>by
  obtain⟨h1,h2⟩:=pairwise_cons.1 h;have ih:=EP (c:=c) h2;rcases Int.lt_trichotomy x.client c with hx|hx|hx
  ·have e1:decide (x.client<c+1)=true:=al;have e2:decide (x.client<c)=true:=al;have e3:(x.client==c)=false:=al;simp only[filter_cons,e1,e2,if_true,find?_cons,e3,ih,List.cons_append]
  ·have e1:decide (x.client<c+1)=true:=al;have e2:decide (x.client<c)=false:=al;have e3:(x.client==c)=true:=al;simp only[filter_cons,e1,e2,if_true,find?_cons,e3];rw[wN (λm hm=>by have:=h1 m hm;omega),wN (λm hm=>by have:=h1 m hm;omega)];rfl
  ·have e1:decide (x.client<c+1)=false:=al;have e2:decide (x.client<c)=false:=al;have e3:(x.client==c)=false:=al;simp only[filter_cons,e1,e2,find?_cons,e3,ih];rfl
theorem IF{s:List DMark}(h:seenOk s=true):s.filter (λx=>decide (x.client<6))=s:=by
 rw[List.filter_eq_self];intro m hm;have:=uv h hm;simp only[eL,aK,and_eq_true,decide_eq_true_eq]at this;simp;omega
theorem N8{s:List DMark}(h:seenOk s=true):s.filter (λx=>decide (x.client<2))=[]:=wN λm hm=>by
 have:=uv h hm;simp only[eL,aK,and_eq_true,decide_eq_true_eq]at this;omega
theorem L3{s:List DMark}(h:mm s)(m:DMark):mm (putMark s m):=by
 unfold putMark mm;rw[List.pairwise_append];refine⟨h.sublist filter_sublist,pairwise_cons.2 ⟨λz hz=>?_,h.sublist filter_sublist⟩,λa ha b hb=>?_⟩
 ·have:=(mem_filter.1 hz).2;simpa using this
 ·have h1:=(mem_filter.1 ha).2;simp only[decide_eq_true_eq]at h1;rcases mem_cons.1 hb with rfl|hb
  ·exact h1
  ·have:=(mem_filter.1 hb).2;simp only[decide_eq_true_eq]at this;omega
theorem M6{s:List DMark}{m x:DMark}(h:x∈putMark s m):x=m\/x∈s:=by
 unfold putMark at h;rcases List.mem_append.1 h with h|h
 ·exact .inr (mem_filter.1 h).1
 ·rcases mem_cons.1 h with h|h
  ·exact .inl h
  ·exact .inr (mem_filter.1 h).1
theorem tY{α:Type}(p q:α->Bool):∀l:List α,(l.filter p).find? q=l.find? λa=>p a&&q a
 |[]=>rfl
 |x::r=>by
  rw[filter_cons,find?_cons];cases hp:p x with
  |true=>
   simp only[if_true,find?_cons,Bool.true_and];cases q x with
   |true=>rfl
   |false=>exact tY p q r
  |false=>
   simp only[Bool.false_and];exact tY p q r
theorem QN(s:List DMark)(m:DMark)(d:Int):(putMark s m).find? (λx=>x.client==d)=if d=m.client then some m else s.find? (λx=>x.client==d):=by
 unfold putMark;rw[List.find?_append,find?_cons,tY,tY];by_cases hd:d=m.client
 ·subst hd;have e:s.find? (λa=>decide (a.client<m.client)&&a.client==m.client)=none:=by
   rw[find?_eq_none];intro x _;simp;omega
  rw[e];simp
 ·have e0:(m.client==d)=false:=al;rw[if_neg hd,e0];rcases Int.lt_or_gt_of_ne hd with h|h
  ·have e1:(λa:DMark=>decide (a.client<m.client)&&a.client==d)=λa=>a.client==d:=by
    funext a;by_cases ha:a.client=d
    ·simp[ha,h]
    ·simp[ha]
   have e2:s.find? (λa=>decide (m.client<a.client)&&a.client==d)=none:=by
    rw[find?_eq_none];intro x _;simp;omega
   rw[e1];simp only[e2];simp
  ·have e1:(λa:DMark=>decide (m.client<a.client)&&a.client==d)=λa=>a.client==d:=by
    funext a;by_cases ha:a.client=d
    ·simp[ha];omega
    ·simp[ha]
   have e2:s.find? (λa=>decide (a.client<m.client)&&a.client==d)=none:=by
    rw[find?_eq_none];intro x _;simp;omega
   rw[e1,e2];simp
theorem qh(x0:Int):∀s:List DMark,(∀m∈s,m.index<=s.foldl (λx m=>if m.index>x then m.index else x) x0)/\x0<=s.foldl (λx m=>if m.index>x then m.index else x) x0/\(s.foldl (λx m=>if m.index>x then m.index else x) x0=x0\/∃m∈s,m.index=s.foldl (λx m=>if m.index>x then m.index else x) x0)
 |[]=>⟨by simp,by simp,.inl rfl⟩
 |y::r=>by
  obtain⟨h1,h2,h3⟩:=qh (if y.index>x0 then y.index else x0) r;simp only[foldl_cons];have hy:y.index<=(if y.index>x0 then y.index else x0)/\x0<=(if y.index>x0 then y.index else x0):=by split<;>omega
  refine⟨λm hm=>?_,ac,?_⟩
  ·rcases mem_cons.1 hm with rfl|hm
   ·omega
   ·exact h1 m hm
  ·rcases h3 with h3|⟨m,hm,h3⟩
   ·by_cases hc:y.index>x0
    ·rw[if_pos hc]at h3⊢;exact .inr ⟨y,by simp,h3.symm⟩
    ·rw[if_neg hc]at h3⊢;exact .inl h3
   ·exact .inr ⟨m,by simp[hm],h3⟩
theorem G9{s:List DMark}{m:DMark}(h:m∈s):m.index<=bP s:=(qh 0 s).1 m h
theorem Jf(s:List DMark):0<=bP s:=(qh 0 s).2.1
theorem Si{s:List DMark}{x:Int}(h1:∀m∈s,m.index<=x)(h2:∃m∈s,m.index=x)(h0:0<=x):bP s=x:=by
 obtain⟨m,hm,e⟩:=h2;have h3:=G9 hm;rcases(qh 0 s).2.2 with h|⟨y,hy,h⟩
 ·have h:bP s=0:=h;omega
 ·have h:y.index=bP s:=h;have:=h1 y hy;omega
theorem Jg{s:List DMark}{m:DMark}(h:bP s<m.index):bP (putMark s m)=m.index:=by
 have h0:=Jf s;refine Si (λx hx=>?_) ⟨m,by simp[putMark],rfl⟩ ac;rcases M6 hx with rfl|hx
 ·exact Int.le_refl _
 ·have:=G9 hx;omega
theorem Lo{e:DEntry}(h:dd e=true):eL e.mark=true:=by
 simp only[dd,and_eq_true]at h;simp only[eL,DEntry.mark,and_eq_true];exact⟨⟨h.1.1.2,h.1.2⟩,h.1.1.1.1⟩
theorem Hx{s:List DMark}{R:DMark->DMark->Prop}(h:s.Pairwise R){i j:Nat}(hi:i<j)(hj:j<s.length):R (s[i]'(ac)) s[j]:=List.pairwise_iff_getElem.1 h i j ac hj hi
theorem Bo:∀{s:List DMark},eT qj s=true->s.Pairwise λx y=>x.index≠y.index
 |[],_=>List.Pairwise.nil
 |x::r,h=>by
  simp only[eT,and_eq_true]at h;refine pairwise_cons.2 ⟨λy hy=>?_,Bo h.2⟩;have:=all_eq_true.1 h.1 y hy;simpa[qj]using this
theorem CF:∀{s:List DMark},(s.Pairwise λx y=>x.index≠y.index)->eT qj s=true
 |[],_=>rfl
 |x::r,h=>by
  obtain⟨h1,h2⟩:=pairwise_cons.1 h;simp only[eT,and_eq_true];refine⟨all_eq_true.2 λy hy=>?_,CF h2⟩;have:=h1 y hy;simpa[qj]using this
theorem QO{s:List DMark}{m:DMark}(h:seenOk s=true)(hm:eL m=true)(hl:bP s<m.index):seenOk (putMark s m)=true:=by
 have hs:=oh h;have hx:∀x∈s,x.index≠m.index:=λx hx=>by have:=G9 hx;omega
 have hp:s.Pairwise λx y=>x.index≠y.index:=by
  simp only[seenOk,and_eq_true]at h;exact Bo h.2
 simp only[seenOk,and_eq_true];refine⟨⟨all_eq_true.2 λx hx=>?_,Dl (L3 hs m)⟩,CF ?_⟩
 ·rcases M6 hx with rfl|hx
  ·exact hm
  ·exact uv h hx
 ·unfold putMark;rw[List.pairwise_append];refine⟨hp.sublist filter_sublist,pairwise_cons.2 ⟨λz hz=>(hx z (mem_filter.1 hz).1).symm,hp.sublist filter_sublist⟩,λa ha b hb=>?_⟩;have h1:=mem_filter.1 ha;simp only[decide_eq_true_eq]at h1;rcases mem_cons.1 hb with rfl|hb
  ·exact hx a h1.1
  ·have h2:=mem_filter.1 hb;simp only[decide_eq_true_eq]at h2;obtain⟨i,hi,rfl⟩:=List.getElem_of_mem h1.1;obtain⟨j,hj,rfl⟩:=List.getElem_of_mem h2.1;rcases Nat.lt_trichotomy i j with hij|hij|hij
   ·exact Hx hp hij hj
   ·subst hij;omega
   ·exact(Hx hp hij hi).symm
theorem tf{s s':List DMark}{e:DEntry}(h:seenOk s=true)(hm:d7 s e=some s'):seenOk s'=true/\bP s'=e.index:=by
 unfold d7 at hm;split at hm
 ·rename_i hc;simp only[and_eq_true,decide_eq_true_eq]at hc;injection hm with hm
  subst hm;exact⟨QO h (Lo hc.1.1) hc.2,Jg hc.2⟩
 ·cases hm
theorem jT(s:List DMark):∀(a b:List DEntry),bY s (a++b)=(bY s a).bind λs'=>bY s' b
 |[],b=>rfl
 |e::a,b=>by
  simp only[List.cons_append,bY];cases d7 s e with
  |none=>rfl
  |some s'=>exact jT s' a b
theorem mA:∀{l:List DEntry} {s s':List DMark},seenOk s=true->bY s l=some s'->seenOk s'=true
 |[],s,s',h,hf=>by simp only[bY,Option.some.injEq]at hf;subst hf;exact h
 |e::r,s,s',h,hf=>by
  simp only[bY]at hf;cases hm:d7 s e with
  |none=>rw[hm]at hf;cases hf
  |some s1=>rw[hm]at hf;exact mA (tf h hm).1 hf
theorem t7{s c:List DMark}{l:List DEntry}{k:Nat}(hk:k<l.length)(h:bY s (l.take k)=some c):bY s (l.take (k+1))=d7 c l[k]:=by
 rw[List.take_succ_eq_append_getElem hk,jT,h];simp only[Option.bind_some,bY];cases d7 c l[k]<;>rfl
theorem tZ{s c:List DMark}{l:List DEntry}{k:Nat}(hk:k<l.length)(h:bY s (l.take k)=some c)(hn:d7 c l[k]=none):bY s l=none:=by
 have e:l=l.take (k+1)++l.drop (k+1):=(List.take_append_drop _ _).symm;rw[e,jT,t7 hk h,hn];rfl
def DMark.v(m:DMark):Value:= .agg #[.int .i64 m.client,.int .i64 m.seq,.int .i64 m.index]
def iB(s:List DMark)(c:Int):Option Value:=(s.find? λm=>m.client==c).map DMark.v
theorem LV(s:List DMark)(m:DMark):rJ (rJ (iB s) m.client none) m.client (some m.v)=iB (putMark s m):=by
 funext d;unfold rJ iB;rw[QN];by_cases h:d=m.client
 ·simp[h]
 ·simp[h]
theorem Jz{s:List DMark}(h:mm s){k:Nat}(hk:k<s.length):rJ (iB (s.take k)) s[k].client (some s[k].v)=iB (s.take (k+1)):=by
 funext d;unfold rJ iB;rw[List.take_succ_eq_append_getElem hk,List.find?_append];by_cases hd:d=s[k].client
 ·have:(s.take k).find? (λm=>m.client==d)=none:=by
   rw[find?_eq_none];intro m hm;obtain⟨i,hi,rfl⟩:=List.getElem_of_mem hm;simp at hi;have:=Hx h (i:=i) (j:=k) ac hk;simp only[List.getElem_take];simp;omega
  rw[this];simp[hd]
 ·have e:(s[k].client==d)=false:=al;simp[hd,e]
theorem Cp(s:List DMark)(c:Int):(iB s c).getD (DMark.v ⟨0,0,0⟩)=(fK s c).v:=by
 unfold iB fK;cases s.find? λm=>m.client==c<;>rfl
def fN(x:DMark)(p:List DMark×Bool)(m:DMark):List DMark×Bool:=
 let q:=if(!p.2&&decide (m.client>=x.client))=true then(p.1++[x],true)else p
 if(m.client !=x.client)=true then(q.1++[m],q.2)else q
theorem tF(x:DMark):∀(r:List DMark) (out:List DMark),(∀m∈r,x.client<m.client)->r.foldl (fN x) (out,true)=(out++r,true)
 |[],out,_=>by simp
 |m::r,out,h=>by
  have hm:=h m aj;have e:(m.client !=x.client)=true:=al;rw[foldl_cons];have:fN x (out,true) m=(out++[m],true):=by simp[fN,e]
  rw[this,tF x r _ λy hy=>h y (by simp[hy])];simp
theorem FW(x:DMark):∀(s:List DMark) (out:List DMark),mm s->(let p:=s.foldl (fN x) (out,false);if p.2 then p.1 else p.1++[x])=out++putMark s x
 |[],out,_=>by simp[putMark]
 |m::r,out,h=>by
  obtain⟨h1,h2⟩:=pairwise_cons.1 h;rw[foldl_cons];rcases Int.lt_trichotomy m.client x.client with hx|hx|hx
  ·have e:fN x (out,false) m=(out++[m],false):=by
    have e1:(m.client !=x.client)=true:=al;have e2:decide (m.client>=x.client)=false:=al;simp[fN,e1,e2]
   rw[e];have:=FW x r (out++[m]) h2;simp only at this⊢;rw[this];have e1:decide (m.client<x.client)=true:=al;have e2:decide (x.client<m.client)=false:=al;simp[putMark,filter_cons,e1,e2]
  ·have e:fN x (out,false) m=(out++[x],true):=by
    have e1:(m.client !=x.client)=false:=al;have e2:decide (m.client>=x.client)=true:=al;simp[fN,e1,e2]
   rw[e,tF x r _ λy hy=>by have:=h1 y hy;omega];have e1:decide (m.client<x.client)=false:=al;have e2:decide (x.client<m.client)=false:=al;have e3:=wN (s:=r) (c:=x.client) λy hy=>by have:=h1 y hy;omega
   have e4:r.filter (λy=>decide (x.client<y.client))=r:=List.filter_eq_self.2 λy hy=>by have:=h1 y hy;simp;omega
   simp[putMark,filter_cons,e1,e2,e3,e4]
  ·have e:fN x (out,false) m=(out++[x]++[m],true):=by
    have e1:(m.client !=x.client)=true:=al;have e2:decide (m.client>=x.client)=true:=al;simp[fN,e1,e2]
   rw[e,tF x r _ λy hy=>by have:=h1 y hy;omega];have e1:decide (m.client<x.client)=false:=al;have e2:decide (x.client<m.client)=true:=al;have e3:=wN (s:=r) (c:=x.client) λy hy=>by have:=h1 y hy;omega
   have e4:r.filter (λy=>decide (x.client<y.client))=r:=List.filter_eq_self.2 λy hy=>by have:=h1 y hy;simp;omega
   simp[putMark,filter_cons,e1,e2,e3,e4]
end Go.Proofs.YtknefkdcokgpbaaGreat
