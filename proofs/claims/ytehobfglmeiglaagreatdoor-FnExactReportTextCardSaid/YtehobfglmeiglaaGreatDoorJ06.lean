/- J06 -/
import Derived.Test.YtehobfglmeiglaaGreatDoorAwx
import Derived.Test.YtehobfglmeiglaaGreatDoorJ04
set_option linter.unusedVariables false
set_option linter.unusedSimpArgs false
set_option maxRecDepth 100000
namespace Go.Proofs.YtehobfglmeiglaaGreatDoor
open Go.Proofs.Tryz
open Go.ChangeShapes Go.WideShapes Go.RowKit
def kF:List (List Nat):=bk [0,0,2,0,12420,1327235,101458181,76320612550,35599944798657,2538159309599112,182422381561933897,12844578746489659914,182422381561933897,57415599869313423807181,4293453185968282837484172,293816795099147061053141838,20081821632468054499984974607,1365683037628839150997648233360,51347335601647746243218769757137]
def k7:List (List Nat):=bj 13 [2184,56,59,26,41,122,365,1093,3280,9841,1092406,1151455,501916]
theorem aG{a b:Bool}(h:a=b):AP.val (.one (dB a))=rB b:=by rw[h]
theorem cu{α:Type}{l:List α}{p:α->Bool}{k:Nat}(hall:∀(j:Nat) (hj:j<k) (hl:j<l.length),p l[j]=true)(hlt:k<l.length)(h:p l[k]=true):∀(j:Nat) (hj:j<k+1) (hl:j<l.length),p l[j]=true:=by
  intro j hj hl
  by_cases hjk:j=k
  · subst hjk;exact h
  · exact hall j Mo hl
theorem dl{α:Type}{l:List α}{p:α->Bool}{k:Nat}(hall:∀(j:Nat) (hj:j<k) (hl:j<l.length),p l[j]=true)(hk:k=l.length):l.all p=true:=xc λj hj=>hall j Mo hj
theorem wk{l:List Int}(h:¬l.length<=48):dT l=false:=by simp[dT,h]
theorem zE{l:List Int}{k:Nat}(hk:k<l.length)(h:ai l[k] 0 1000000000=false):dT l=false:=by
  have:=jt (p:=λx=>ai x 0 1000000000) hk h
  simp only[dT,this,Bool.and_false]
theorem db(l:List Int):aj av 238 [.one (dIs l)] (rB (dT l)):=by
  refine ae ah func238 rfl call238 ntmps238 (MC results238) λS=>?_;conv=>whnf
  repeat'((first|refine aw0 ?_|refine awx ?_|exact rr|refine And.intro rfl ?_|refine AB.mk (λh=>?_) (λh=>?_))<;>conv=>whnf)
  · rw[wk ari]
  · have h48:l.length<=48:=ari
    clear h
    refine AWP.loopS (λk:Nat=>k<=l.length/\∀(j:Nat) (hj:j<k) (hl:j<l.length),ai l[j] 0 1000000000=true) [2,4,10,11,12,13,14,15,16,17] (λk=>[(10,vI .i64 (k:Int))]) (λ_=>[]) (λk=>l.length-k) 0 ⟨by omega,by omega⟩ ?_ ak.nil (λk hR=>?_)<;>(conv=>whnf)
    · exact whd
    · obtain⟨hk,hall⟩:=hR
      repeat'((first|refine aw0 ?_|refine awx ?_|refine AIx.mapF ari (λhlt=>?_)|refine AW.i64 ari ari ?_|refine cP (aq _ _ _) ?_|exact rr|refine And.intro rfl ?_|refine AB.mk (λh=>?_) (λh=>?_))<;>conv=>whnf)
      · rw[zE hlt (by simpa using h)]
      · refine aB.mk ⟨k+1,⟨hlt,cu (p:=λx=>ai x 0 1000000000) hall hlt (by simpa using h)⟩,by omega,?_,ak.nil⟩
        exact hds
      · refine aG ?_
        simp only[dT,dl (p:=λx=>ai x 0 1000000000) hall ari,h48,decide_true,Bool.and_self]
theorem cr(l:List Int):aj av 132 [.one (dIs l)] (rB (dT l)):=by
  refine ae ah func132 rfl call132 ntmps132 (MC results132) λS=>?_;conv=>whnf
  repeat'((first|refine aw0 ?_|refine awx ?_|exact rr|refine And.intro rfl ?_|refine AB.mk (λh=>?_) (λh=>?_))<;>conv=>whnf)
  · rw[wk ari]
  · have h48:l.length<=48:=ari
    clear h
    refine AWP.loopS (λk:Nat=>k<=l.length/\∀(j:Nat) (hj:j<k) (hl:j<l.length),ai l[j] 0 1000000000=true) [2,3,7,8,9,10,11,12,13,14,15,16,17,18] (λk=>[(3,vI .i64 (k:Int))]) (λ_=>[]) (λk=>l.length-k) 0 ⟨by omega,by omega⟩ ?_ ak.nil (λk hR=>?_)<;>(conv=>whnf)
    · exact whd
    · obtain⟨hk,hall⟩:=hR
      repeat'((first|refine aw0 ?_|refine awx ?_|refine AIx.mapF ari (λhlt=>?_)|refine AW.i64 ari ari ?_|refine cP (aA _ _ _) ?_|exact rr|refine And.intro rfl ?_|refine AB.mk (λh=>?_) (λh=>?_))<;>conv=>whnf)
      · rw[zE hlt (by simpa using h)]
      · refine aB.mk ⟨k+1,⟨hlt,cu (p:=λx=>ai x 0 1000000000) hall hlt (by simpa using h)⟩,by omega,?_,ak.nil⟩
        exact hds
      · refine aG ?_
        simp only[dT,dl (p:=λx=>ai x 0 1000000000) hall ari,h48,decide_true,Bool.and_self]
theorem qX(d:DDisk)(at_:Int)(hs:d.kept.length<=40):aj av 258 [.agg d.ds,pI at_] (rB (ai at_ 0 ((d.kept.length:Int)-1))):=by
  have e:((d.kept.map fW).length:Int)=d.kept.length:=by simp
  refine ae ah func258 rfl call258 ntmps258 (MC results258) λS=>?_;conv=>whnf
  repeat'((first|refine aw0 ?_|refine awx ?_|refine AW.i64 (n:=_-_) ari ari ?_|refine cP (aq _ _ _) ?_|exact rr|refine And.intro rfl ?_|refine AB.mk (λh=>?_) (λh=>?_))<;>conv=>whnf)
  rw[e]
theorem zO(d:DDisk)(at_:Int)(hs:d.kept.length<=40):aj av 281 [.agg d.ds,pI at_] (rB (ai at_ 0 ((d.kept.length:Int)-1))):=by
  have e:((d.kept.map fW).length:Int)=d.kept.length:=by simp
  refine ae ah func281 rfl call281 ntmps281 (MC results281) λS=>?_;conv=>whnf
  repeat'((first|refine aw0 ?_|refine awx ?_|refine AW.i64 (n:=_-_) ari ari ?_|refine cP (aA _ _ _) ?_|exact rr|refine And.intro rfl ?_|refine AB.mk (λh=>?_) (λh=>?_))<;>conv=>whnf)
  rw[e]
theorem fr{d:DDisk}(h:¬(1<=d.kept.length/\d.kept.length<=40/\d.wait.length<=60)):eT d=false:=by
  have:(decide (1<=d.kept.length)&&decide (d.kept.length<=40)&&decide (d.wait.length<=60))=false:=by
    simp only[Bool.and_eq_false_iff,decide_eq_false_iff_not]
    omega
  simp only[eT,this,Bool.false_and]
theorem sO{d:DDisk}{k:Nat}(hk:k<d.kept.length)(h:dT d.kept[k]=false):eT d=false:=by
  have:=jt (p:=dT) hk h
  simp only[eT,this,Bool.and_false,Bool.false_and]
theorem qI{d:DDisk}{k:Nat}(hk:k<d.wait.length)(h:dK d.kept.length d.wait[k]=false):eT d=false:=by
  have:=jt (p:=dK d.kept.length) hk h
  simp only[eT,this,Bool.and_false]
theorem eA(d:DDisk):aj av 159 [.agg d.ds] (rB (eT d)):=by
  refine ae ah func159 rfl call159 ntmps159 (MC results159) λS=>?_;conv=>whnf
  repeat'((first|refine aw0 ?_|refine awx ?_|exact rr|refine And.intro rfl ?_|refine AB.mk (λh=>?_) (λh=>?_))<;>conv=>whnf)
  · rw[fr ari]
  · rw[fr ari]
  · rw[fr ari]
  · have h1:1<=d.kept.length:=ari
    have h2:d.kept.length<=40:=ari
    have h3:d.wait.length<=60:=ari
    clear h
    refine AWP.loopS (λk:Nat=>k<=d.kept.length/\∀(j:Nat) (hj:j<k) (hl:j<d.kept.length),dT d.kept[j]=true) [2,4,26,27,28,29,30,31,32,33] (λk=>[(26,vI .i64 (k:Int))]) (λ_=>[(1,.cells 70 (d.ds.map .d))]) (λk=>d.kept.length-k) 0 ⟨by omega,by omega⟩ ?_ (ak.cons rfl ak.nil) (λk hR=>?_)<;>(conv=>whnf)
    · exact whd
    · obtain⟨hk,hall⟩:=hR
      repeat'((first|refine aw0 ?_|refine awx ?_|refine AIx.mapF ari (λhlt=>?_)|refine AW.i64 ari ari ?_|refine cP (db _) ?_|exact rr|refine And.intro rfl ?_|refine AB.mk (λh=>?_) (λh=>?_))<;>conv=>whnf)
      · rw[sO hlt (by simpa using h)]
      · refine aB.mk ⟨k+1,⟨hlt,cu (p:=dT) hall hlt (by simpa using h)⟩,by omega,?_,ak.cons rfl ak.nil⟩
        exact hds
      · have hrows:=dl (p:=dT) hall ari
        clear hall hk h
        refine AWP.loopS (λk:Nat=>k<=d.wait.length/\∀(j:Nat) (hj:j<k) (hl:j<d.wait.length),dK d.kept.length d.wait[j]=true) [2,6,37,38,39,40,41,42,43,44,45,46,47,48,49,50,51,52] (λk=>[(37,vI .i64 (k:Int))]) (λ_=>[(1,.cells 70 (d.ds.map .d))]) (λk=>d.wait.length-k) 0 ⟨by omega,by omega⟩ ?_ (ak.cons rfl ak.nil) (λk hR=>?_)<;>(conv=>whnf)
        · exact whd
        · obtain⟨hk,hall⟩:=hR
          repeat'((first|refine aw0 ?_|refine awx ?_|refine AIx.mapF ari (λhlt=>?_)|refine AW.i64 ari ari ?_|refine cP (qX d _ h2) ?_|refine cP (db _) ?_|exact rr|refine And.intro rfl ?_|refine AB.mk (λh=>?_) (λh=>?_))<;>conv=>whnf)
          all_goals first
            |(rw[qI hlt (by simp_all[dK])];done)
            | (refine aB.mk ⟨k + 1, ⟨hlt, cu (p := dK d.kept.length) hall hlt (by simp_all [dK])⟩, by omega, ?_, ak.cons rfl ak.nil⟩
               exact hds)
            | (refine aG ?_
               simp only[eT,hrows,dl (p:=dK d.kept.length) hall ari,h1,h2,h3,decide_true,Bool.and_self])
theorem eG(d:DDisk):aj av 223 [.agg d.ds] (rB (eT d)):=by
  refine ae ah func223 rfl call223 ntmps223 (MC results223) λS=>?_;conv=>whnf
  repeat'((first|refine aw0 ?_|refine awx ?_|exact rr|refine And.intro rfl ?_|refine AB.mk (λh=>?_) (λh=>?_))<;>conv=>whnf)
  · rw[fr ari]
  · rw[fr ari]
  · rw[fr ari]
  · have h1:1<=d.kept.length:=ari
    have h2:d.kept.length<=40:=ari
    have h3:d.wait.length<=60:=ari
    clear h
    refine AWP.loopS (λk:Nat=>k<=d.kept.length/\∀(j:Nat) (hj:j<k) (hl:j<d.kept.length),dT d.kept[j]=true) [2,3,21,22,23,24,25,26,27,28,29,30,31,32,33,34] (λk=>[(3,vI .i64 (k:Int))]) (λ_=>[(1,.cells 70 (d.ds.map .d))]) (λk=>d.kept.length-k) 0 ⟨by omega,by omega⟩ ?_ (ak.cons rfl ak.nil) (λk hR=>?_)<;>(conv=>whnf)
    · exact whd
    · obtain⟨hk,hall⟩:=hR
      repeat'((first|refine aw0 ?_|refine awx ?_|refine AIx.mapF ari (λhlt=>?_)|refine AW.i64 ari ari ?_|refine cP (cr _) ?_|exact rr|refine And.intro rfl ?_|refine AB.mk (λh=>?_) (λh=>?_))<;>conv=>whnf)
      · rw[sO hlt (by simpa using h)]
      · refine aB.mk ⟨k+1,⟨hlt,cu (p:=dT) hall hlt (by simpa using h)⟩,by omega,?_,ak.cons rfl ak.nil⟩
        exact hds
      · have hrows:=dl (p:=dT) hall ari
        clear hall hk h
        refine AWP.loopS (λk:Nat=>k<=d.wait.length/\∀(j:Nat) (hj:j<k) (hl:j<d.wait.length),dK d.kept.length d.wait[j]=true) [2,4,35,36,37,38,39,40,41,42,43,44,45,46,47,48,49,50,51,52,53,54,55,56,57,58,59,60] (λk=>[(4,vI .i64 (k:Int))]) (λ_=>[(1,.cells 70 (d.ds.map .d))]) (λk=>d.wait.length-k) 0 ⟨by omega,by omega⟩ ?_ (ak.cons rfl ak.nil) (λk hR=>?_)<;>(conv=>whnf)
        · exact whd
        · obtain⟨hk,hall⟩:=hR
          repeat'((first|refine aw0 ?_|refine awx ?_|refine AWP.drawK ah 11 13 kF k7 Mp Mp Mp rfl ?_|refine AIx.mapF ari (λhlt=>?_)|refine AW.i64 ari ari ?_|refine cP (zO d _ h2) ?_|refine cP (cr _) ?_|exact rr|refine And.intro rfl ?_|refine AB.mk (λh=>?_) (λh=>?_))<;>conv=>whnf)
          all_goals first
            |(rw[qI hlt (by simp_all[dK])];done)
            | (refine aB.mk ⟨k + 1, ⟨hlt, cu (p := dK d.kept.length) hall hlt (by simp_all [dK])⟩, by omega, ?_, ak.cons rfl ak.nil⟩
               exact hds)
            | (refine aG ?_
               simp only[eT,hrows,dl (p:=dK d.kept.length) hall ari,h1,h2,h3,decide_true,Bool.and_self])
end Go.Proofs.YtehobfglmeiglaaGreatDoor
namespace Go.Proofs.YtehobfglmeiglaaGreatDoor
open Go.Proofs.Tryz
open Go.ChangeShapes Go.WideShapes Go.RowKit
def lR:List (List Nat):=bk [0,1,0,3,528643,84688962,6476284101,486456430726,35598854271303,486456430726,44394947293511,10503815176037892810,522328615224468877833,62064271462320198136135,4264669400025568119652941,294114310081099494610194894,20079979470167720758043775823,1365702078587684106745299628944,92555961902523251036277432439761,1365702078587684106745299628944,102697166704349086248251058082769,25613342525602691447650973971256517972,1898579654498538553515499365527662687315,1365702078587684106745299628944,8119242556706811315658977143619271613826456,566002918510602468683893843127845943626241239,24602301488906423948961528814919994170672244249,1288917237452834698431029975546430322336596558801]
def mh:List (List Nat):=bj 24 [72,73,8,17,40,121,364,158557,160744,18589,38272,88573,265720,797161,2391484,7174453,21523360,197649019471,197778159634,189384049039,190546310506,193516534255,203976887458,94078608745]
def lS:List (List Nat):=bk [0,1,129,12354,1056835,84676740,6510088389,486455648518,35601017745735,1420639959544200,182422663955222725,12773057508086145546,897118766031192731979,12773057508086145546,1044692718620869144907,254804950867242602876945358,13714966066789312667963683597,1363208697787790677710463054155,92148601044707032918512306537297,6253097876168526412253434026414802,421281259149647460389224493955994707,28313986175558019021364168043577783444,1898515018650738986513470708487908824277,28313986175558019021364168043577783444,2068656202111208218245158012203792930005,520339481158209813593658008738527969100785240,37652490628674061534872091696306030714472969559,28313986175558019021364168043577783444,159973487346561542562477585137151576684277530986140,11016286098325919531521200713218472422092833913918939,510059430358465878414296464190246256277998880524707613,27850205761078480999127350412056121497280325358127236309]
def mi:List (List Nat):=bj 28 [0,1,4,13,40,121,364,1093,3280,9841,29524,12843157,13020304,1505749,3100072,7174453,21523360,64570081,193710244,581130733,1743392200,16009570577191,16020030930394,15340107972199,15434251151026,15674839274695,16522127884138,7620367308385]
theorem AIx.mapP{α:Type}{enc:α->List AD}{l:List α}{k:Nat}{K:Nat->List AD->Prop}(h0:0<k)(hk:k<=l.length)(h:∀_:k-1<l.length,K (k-1) (enc l[k-1])):AIx (l.map enc) ((k:Int)-1) K:=by
  have e:((k:Int)-1)=((k-1:Nat):Int):=by omega
  rw[e]
  exact AIx.map Mo (h Mo)
def aQ{α:Type}(P:α->Bool)(Q:α->α->Bool)(l:List α)(k:Nat)(hk:k<l.length):Bool:=P l[k]&&(if h:0<k then Q (l[k-1]'(by omega)) l[k]else true)
theorem iG{α:Type}{P:α->Bool}{Q:α->α->Bool}{l:List α}{k:Nat}(hk:k<l.length)(h:aQ P Q l k hk=false):(l.all P&&gc Q l)=false:=by
  unfold aQ at h
  cases hp:P l[k]with
  |false=>rw[jt hk hp];rfl
  |true=>
    rw[hp]at h
    simp only[Bool.true_and]at h
    split at h
    · rename_i h0
      obtain⟨j,rfl⟩:∃j,k=j+1:=⟨k-1,by omega⟩
      rw[FD (Q:=Q) hk (by simpa using h),Bool.and_false]
    · cases h
theorem vw{α:Type}{P:α->Bool}{Q:α->α->Bool}{l:List α}(h:∀(j:Nat) (hl:j<l.length),aQ P Q l j hl=true):(l.all P&&gc Q l)=true:=by
  rw[Bool.and_eq_true]
  refine⟨xc λk hk=>?_,ym λk hk=>?_⟩
  · have:=h k hk
    unfold aQ at this
    exact(Bool.and_eq_true_iff.1 this).1
  · have:=h (k+1) hk
    unfold aQ at this
    have:=(Bool.and_eq_true_iff.1 this).2
    simpa using this
theorem cc{α:Type}{P:α->Bool}{Q:α->α->Bool}{l:List α}{k:Nat}(hall:∀(j:Nat) (hj:j<k) (hl:j<l.length),aQ P Q l j hl=true)(hlt:k<l.length)(h:aQ P Q l k hlt=true):∀(j:Nat) (hj:j<k+1) (hl:j<l.length),aQ P Q l j hl=true:=by
  intro j hj hl
  by_cases hjk:j=k
  · subst hjk;exact h
  · exact hall j Mo hl
theorem dd{α:Type}{P:α->Bool}{Q:α->α->Bool}{l:List α}{k:Nat}(hall:∀(j:Nat) (hj:j<k) (hl:j<l.length),aQ P Q l j hl=true)(hk:k=l.length):(l.all P&&gc Q l)=true:=vw λj hj=>hall j Mo hj
theorem aC{α:Type}{P:α->Bool}{Q:α->α->Bool}{l:List α}{k:Nat}(hk:k<l.length)(h:0<k):aQ P Q l k hk=(P l[k]&&Q (l[k-1]'(by omega)) l[k]):=by simp[aQ,h]
theorem aD{α:Type}{P:α->Bool}{Q:α->α->Bool}{l:List α}{k:Nat}(hk:k<l.length)(h:¬0<k):aQ P Q l k hk=P l[k]:=by simp[aQ,h]
theorem aL{α:Type}{P:α->Bool}{Q:α->α->Bool}{l:List α}{k:Nat}(hk:k<l.length)(h:P l[k]=false):aQ P Q l k hk=false:=by simp[aQ,h]
theorem pk(t:DTwo):aj av 156 [.agg t.ds] (rB (ry t)):=by
  refine ae ah func156 rfl call156 ntmps156 (MC results156) λS=>?_;conv=>whnf
  repeat'((first|refine aw0 ?_|refine awx ?_|refine cP (eA t.a) ?_|refine cP (eA t.b) ?_|exact rr|refine And.intro rfl ?_|refine AB.mk (λh=>?_) (λh=>?_))<;>conv=>whnf)
  all_goals
    refine aG ?_
    simp_all[ry]
  all_goals first|omega|(rw[Bool.eq_iff_iff];simp only[beq_iff_eq,decide_eq_true_eq];omega)
theorem pR(t:DTwo):aj av 219 [.agg t.ds] (rB (ry t)):=by
  refine ae ah func219 rfl call219 ntmps219 (MC results219) λS=>?_;conv=>whnf
  repeat'((first|refine aw0 ?_|refine awx ?_|refine cP (eG t.a) ?_|refine cP (eG t.b) ?_|exact rr|refine And.intro rfl ?_|refine AB.mk (λh=>?_) (λh=>?_))<;>conv=>whnf)
  all_goals
    refine aG ?_
    simp_all[ry]
  all_goals first|omega|(rw[Bool.eq_iff_iff];simp only[beq_iff_eq,decide_eq_true_eq];omega)
theorem vP(t:DTwo):aj av 245 [.agg t.ds] (rB (oz t)):=by
  refine ae ah func245 rfl call245 ntmps245 (MC results245) λS=>?_;conv=>whnf
  repeat'((first|refine aw0 ?_|refine awx ?_|refine cP (pk t) ?_|exact rr|refine And.intro rfl ?_|refine AB.mk (λh=>?_) (λh=>?_))<;>conv=>whnf)
  all_goals
    refine aG ?_
    simp_all[oz]
  all_goals first|omega|(rw[Bool.eq_iff_iff];simp only[beq_iff_eq,decide_eq_true_eq];omega)
theorem wm(t:DTwo):aj av 212 [.agg t.ds] (rB (oz t)):=by
  refine ae ah func212 rfl call212 ntmps212 (MC results212) λS=>?_;conv=>whnf
  repeat'((first|refine aw0 ?_|refine awx ?_|refine cP (pR t) ?_|exact rr|refine And.intro rfl ?_|refine AB.mk (λh=>?_) (λh=>?_))<;>conv=>whnf)
  all_goals
    refine aG ?_
    simp_all[oz]
  all_goals first|omega|(rw[Bool.eq_iff_iff];simp only[beq_iff_eq,decide_eq_true_eq];omega)
theorem tg(d:DDisk):aj av 256 [.agg d.ds] (rB (ns d)):=by
  refine ae ah func256 rfl call256 ntmps256 (MC results256) λS=>?_;conv=>whnf
  repeat'((first|refine aw0 ?_|refine awx ?_|refine cP (eA d) ?_|exact rr|refine And.intro rfl ?_|refine AB.mk (λh=>?_) (λh=>?_))<;>conv=>whnf)
  all_goals
    refine aG ?_
    simp_all[ns]
  all_goals first|omega|(rw[Bool.eq_iff_iff];simp only[beq_iff_eq,decide_eq_true_eq];omega)
theorem ub(d:DDisk):aj av 221 [.agg d.ds] (rB (ns d)):=by
  refine ae ah func221 rfl call221 ntmps221 (MC results221) λS=>?_;conv=>whnf
  repeat'((first|refine aw0 ?_|refine awx ?_|refine cP (eG d) ?_|exact rr|refine And.intro rfl ?_|refine AB.mk (λh=>?_) (λh=>?_))<;>conv=>whnf)
  all_goals
    refine aG ?_
    simp_all[ns]
  all_goals first|omega|(rw[Bool.eq_iff_iff];simp only[beq_iff_eq,decide_eq_true_eq];omega)
theorem pm(a b:Int):aj av 151 [pI a,pI b] (rB (dr a b)):=by
  refine ae ah func151 rfl call151 ntmps151 (MC results151) λS=>?_;conv=>whnf
  repeat'((first|refine aw0 ?_|refine awx ?_|refine cP (na _) ?_|exact rr|refine And.intro rfl ?_|refine AB.mk (λh=>?_) (λh=>?_))<;>conv=>whnf)
  all_goals
    refine aG ?_
    simp_all[dr]
theorem yT(m:DMsg):aj av 150 [.agg m.ds] (rB (jc m)):=by
  refine ae ah func150 rfl call150 ntmps150 (MC results150) λS=>?_;conv=>whnf
  repeat'((first|refine aw0 ?_|refine awx ?_|refine cP (pm _ _) ?_|refine cP (db _) ?_|exact rr|refine And.intro rfl ?_|refine AB.mk (λh=>?_) (λh=>?_))<;>conv=>whnf)
  all_goals
    refine aG ?_
    simp_all[jc]
theorem zI(m:DMsg):aj av 125 [.agg m.ds] (rB (jc m)):=by
  refine ae ah func125 rfl call125 ntmps125 (MC results125) λS=>?_;conv=>whnf
  repeat'((first|refine aw0 ?_|refine awx ?_|refine cP (nt _) ?_|refine cP (cr _) ?_|exact rr|refine And.intro rfl ?_|refine AB.mk (λh=>?_) (λh=>?_))<;>conv=>whnf)
  all_goals
    refine aG ?_
    simp_all[jc,dr]
theorem qS(x y:DLink):aj av 152 [.agg x.ds,.agg y.ds] (rB (fS x y)):=by
  refine ae ah func152 rfl call152 ntmps152 (MC results152) λS=>?_;conv=>whnf
  repeat'((first|refine aw0 ?_|refine awx ?_|exact rr|refine And.intro rfl ?_|refine AB.mk (λh=>?_) (λh=>?_))<;>conv=>whnf)
  all_goals
    refine aG ?_
    simp_all[fS]
  all_goals first|omega|(rw[Bool.eq_iff_iff];simp only[beq_iff_eq,decide_eq_true_eq];omega)
theorem n7(x y:DLink):aj av 127 [.agg x.ds,.agg y.ds] (rB (fS x y)):=by
  refine ae ah func127 rfl call127 ntmps127 (MC results127) λS=>?_;conv=>whnf
  repeat'((first|refine aw0 ?_|refine awx ?_|exact rr|refine And.intro rfl ?_|refine AB.mk (λh=>?_) (λh=>?_))<;>conv=>whnf)
  all_goals
    refine aG ?_
    simp_all[fS]
  all_goals first|omega|(rw[Bool.eq_iff_iff];simp only[beq_iff_eq,decide_eq_true_eq];omega)
theorem ng{n:DNet}(h:¬(n.flight.length<=60/\n.cuts.length<=15)):g8 n=false:=by
  have:(decide (n.flight.length<=60)&&decide (n.cuts.length<=15))=false:=by
    simp only[Bool.and_eq_false_iff,decide_eq_false_iff_not]
    omega
  simp only[g8,this,Bool.false_and]
theorem wa{n:DNet}{k:Nat}(hk:k<n.flight.length)(h:jc n.flight[k]=false):g8 n=false:=by
  have:=jt (p:=jc) hk h
  simp only[g8,this,Bool.and_false,Bool.false_and]
theorem v8{n:DNet}{k:Nat}(hk:k<n.cuts.length)(h:aQ cg fS n.cuts k hk=false):g8 n=false:=by
  have:=iG hk h
  simp only[g8,Bool.and_assoc]at*
  simp only[this,Bool.and_false]
set_option maxHeartbeats 2000000 in
theorem yU(n:DNet):aj av 83 [.agg n.ds] (rB (g8 n)):=by
  refine ae ah func83 rfl call83 ntmps83 (MC results83) λS=>?_;conv=>whnf
  repeat'((first|refine aw0 ?_|refine awx ?_|exact rr|refine And.intro rfl ?_|refine AB.mk (λh=>?_) (λh=>?_))<;>conv=>whnf)
  · rw[ng ari]
  · rw[ng ari]
  · have h1:n.flight.length<=60:=ari
    have h2:n.cuts.length<=15:=ari
    clear h
    refine AWP.loopS (λk:Nat=>k<=n.flight.length/\∀(j:Nat) (hj:j<k) (hl:j<n.flight.length),jc n.flight[j]=true) [2,4,20,21,22,23,24,25,26,27] (λk=>[(20,vI .i64 (k:Int))]) (λ_=>[(1,.cells 104 (n.ds.map .d))]) (λk=>n.flight.length-k) 0 ⟨by omega,by omega⟩ ?_ (ak.cons rfl ak.nil) (λk hR=>?_)<;>(conv=>whnf)
    · exact whd
    · obtain⟨hk,hall⟩:=hR
      repeat'((first|refine aw0 ?_|refine awx ?_|refine AIx.mapF ari (λhlt=>?_)|refine AW.i64 ari ari ?_|refine cP (yT _) ?_|exact rr|refine And.intro rfl ?_|refine AB.mk (λh=>?_) (λh=>?_))<;>conv=>whnf)
      · rw[wa hlt (by simpa using h)]
      · refine aB.mk ⟨k+1,⟨hlt,cu (p:=jc) hall hlt (by simpa using h)⟩,by omega,?_,ak.cons rfl ak.nil⟩
        exact hds
      · have hrows:=dl (p:=jc) hall ari
        clear hall hk h
        refine AWP.loopS (λk:Nat=>k<=n.cuts.length/\∀(j:Nat) (hj:j<k) (hl:j<n.cuts.length),aQ cg fS n.cuts j hl=true) [2,5,6,31,32,33,34,35,36,37,38,39,40,41,42,43,44,45,46,47,48,49,50,51,52,53,54,55,56,57,58,59,60,61,62,63,64] (λk=>[(31,vI .i64 (k:Int))]) (λ_=>[(1,.cells 104 (n.ds.map .d))]) (λk=>n.cuts.length-k) 0 ⟨by omega,by omega⟩ ?_ (ak.cons rfl ak.nil) (λk hR=>?_)<;>(conv=>whnf)
        · exact whd
        · obtain⟨hk,hall⟩:=hR
          repeat'((first|refine aw0 ?_|refine awx ?_|refine AWP.drawK ah 12 24 lR mh Mp Mp Mp rfl ?_|refine AIx.mapF ari (λhlt=>?_)|refine AIx.mapP ari ari (λhpv=>?_)|refine AW.i64 (n:=_-_) ari ari ?_|refine AW.i64 ari ari ?_|refine cP (pm _ _) ?_|refine cP (qS _ _) ?_|exact rr|refine And.intro rfl ?_|refine AB.mk (λh=>?_) (λh=>?_))<;>conv=>whnf)
          all_goals first
            |(rw[v8 hlt (by first|(refine aL _ ?_;simp_all[cg];done)|(refine aL _ ?_;simp_all[cg];omega)|(rw[aC _ ari];simp_all[cg];done)|(rw[aD _ ari];simp_all[cg];done))];done)
            | (refine aB.mk ⟨k + 1, ⟨hlt, cc hall hlt (by first | (refine aL _ ?_; simp_all [cg]; done) | (refine aL _ ?_; simp_all [cg]; omega) | (rw [aC _ ari]; simp_all [cg]; done) | (rw [aD _ ari]; simp_all [cg]; done))⟩, by omega, ?_, ak.cons rfl ak.nil⟩
               exact hds)
            | (refine aG ?_
               have he:=dd hall ari
               simp only[g8,hrows,h1,h2,decide_true,Bool.and_self,Bool.true_and,he])
set_option maxHeartbeats 2000000 in
theorem zJ(n:DNet):aj av 61 [.agg n.ds] (rB (g8 n)):=by
  refine ae ah func61 rfl call61 ntmps61 (MC results61) λS=>?_;conv=>whnf
  repeat'((first|refine aw0 ?_|refine awx ?_|exact rr|refine And.intro rfl ?_|refine AB.mk (λh=>?_) (λh=>?_))<;>conv=>whnf)
  · rw[ng ari]
  · rw[ng ari]
  · have h1:n.flight.length<=60:=ari
    have h2:n.cuts.length<=15:=ari
    clear h
    refine AWP.loopS (λk:Nat=>k<=n.flight.length/\∀(j:Nat) (hj:j<k) (hl:j<n.flight.length),jc n.flight[j]=true) [2,3,16,17,18,19,20,21,22,23,24,25,26,27,28,29] (λk=>[(3,vI .i64 (k:Int))]) (λ_=>[(1,.cells 104 (n.ds.map .d))]) (λk=>n.flight.length-k) 0 ⟨by omega,by omega⟩ ?_ (ak.cons rfl ak.nil) (λk hR=>?_)<;>(conv=>whnf)
    · exact whd
    · obtain⟨hk,hall⟩:=hR
      repeat'((first|refine aw0 ?_|refine awx ?_|refine AIx.mapF ari (λhlt=>?_)|refine AW.i64 ari ari ?_|refine cP (zI _) ?_|exact rr|refine And.intro rfl ?_|refine AB.mk (λh=>?_) (λh=>?_))<;>conv=>whnf)
      · rw[wa hlt (by simpa using h)]
      · refine aB.mk ⟨k+1,⟨hlt,cu (p:=jc) hall hlt (by simpa using h)⟩,by omega,?_,ak.cons rfl ak.nil⟩
        exact hds
      · have hrows:=dl (p:=jc) hall ari
        clear hall hk h
        refine AWP.loopS (λk:Nat=>k<=n.cuts.length/\∀(j:Nat) (hj:j<k) (hl:j<n.cuts.length),aQ cg fS n.cuts j hl=true) [2,4,5,30,31,32,33,34,35,36,37,38,39,40,41,42,43,44,45,46,47,48,49,50,51,52,53,54,55,56,57,58,59,60,61,62,63,64,65,66,67,68,69,70,71,72,73] (λk=>[(4,vI .i64 (k:Int))]) (λ_=>[(1,.cells 104 (n.ds.map .d))]) (λk=>n.cuts.length-k) 0 ⟨by omega,by omega⟩ ?_ (ak.cons rfl ak.nil) (λk hR=>?_)<;>(conv=>whnf)
        · exact whd
        · obtain⟨hk,hall⟩:=hR
          repeat'((first|refine aw0 ?_|refine awx ?_|refine AWP.drawK ah 12 28 lS mi Mp Mp Mp rfl ?_|refine AIx.mapF ari (λhlt=>?_)|refine AIx.mapP ari ari (λhpv=>?_)|refine AW.i64 (n:=_-_) ari ari ?_|refine AW.i64 ari ari ?_|refine cP (nt _) ?_|refine cP (n7 _ _) ?_|exact rr|refine And.intro rfl ?_|refine AB.mk (λh=>?_) (λh=>?_))<;>conv=>whnf)
          all_goals first
            |(rw[v8 hlt (by first|(refine aL _ ?_;simp_all[cg,dr];done)|(refine aL _ ?_;simp_all[cg,dr];intros;omega)|(rw[aC _ ari];simp_all[cg,dr];done)|(rw[aD _ ari];simp_all[cg,dr];done)|(rw[aC _ ari];simp_all[cg,dr];omega)|(rw[aD _ ari];simp_all[cg,dr];omega))];done)
            | (refine aB.mk ⟨k + 1, ⟨hlt, cc hall hlt (by first | (refine aL _ ?_; simp_all [cg, dr]; done) | (refine aL _ ?_; simp_all [cg, dr]; intros; omega) | (rw [aC _ ari]; simp_all [cg, dr]; done) | (rw [aD _ ari]; simp_all [cg, dr]; done) | (rw [aC _ ari]; simp_all [cg, dr]; omega) | (rw [aD _ ari]; simp_all [cg, dr]; omega))⟩, by omega, ?_, ak.cons rfl ak.nil⟩
               exact hds)
            | (refine aG ?_
               have he:=dd hall ari
               simp only[g8,hrows,h1,h2,decide_true,Bool.and_self,Bool.true_and,he])
theorem xh{l:List Int}(h:l.length≠6):cH l=false:=by simp[cH,h]
theorem qH{l:List Int}{k:Nat}(hk:k<l.length)(h:tOk l[k]=false):cH l=false:=by
  have:=jt (p:=tOk) hk h
  simp only[cH,this,Bool.and_false]
theorem qO(l:List Int):aj av 82 [.one (dIs l)] (rB (cH l)):=by
  refine ae ah func82 rfl call82 ntmps82 (MC results82) λS=>?_;conv=>whnf
  repeat'((first|refine aw0 ?_|refine awx ?_|exact rr|refine And.intro rfl ?_|refine AB.mk (λh=>?_) (λh=>?_))<;>conv=>whnf)
  · rw[xh (by simp only[bne_iff_ne,ne_eq,decide_eq_true_eq,decide_eq_false_iff_not,beq_iff_eq,beq_eq_false_iff_ne,List.length_map,Bool.not_eq_true',Bool.not_eq_false',bne_eq_false_iff_eq]at*;omega)]
  · have h1:l.length=6:=(by simp only[bne_iff_ne,ne_eq,decide_eq_true_eq,decide_eq_false_iff_not,beq_iff_eq,beq_eq_false_iff_ne,List.length_map,Bool.not_eq_true',Bool.not_eq_false',bne_eq_false_iff_eq]at*;omega)
    clear h
    refine AWP.loopS (λk:Nat=>k<=l.length/\∀(j:Nat) (hj:j<k) (hl:j<l.length),tOk l[j]=true) [2,4,10,11,12,13,14,15,16,17] (λk=>[(10,vI .i64 (k:Int))]) (λ_=>[]) (λk=>l.length-k) 0 ⟨by omega,by omega⟩ ?_ ak.nil (λk hR=>?_)<;>(conv=>whnf)
    · exact whd
    · obtain⟨hk,hall⟩:=hR
      repeat'((first|refine aw0 ?_|refine awx ?_|refine AIx.mapF ari (λhlt=>?_)|refine AW.i64 ari ari ?_|refine cP (bm _) ?_|exact rr|refine And.intro rfl ?_|refine AB.mk (λh=>?_) (λh=>?_))<;>conv=>whnf)
      · rw[qH hlt (by simpa[tOk]using h)]
      · refine aB.mk ⟨k+1,⟨hlt,cu (p:=tOk) hall hlt (by simpa[tOk]using h)⟩,by omega,?_,ak.nil⟩
        exact hds
      · refine aG ?_
        simp only[cH,dl (p:=tOk) hall ari,h1,decide_true,Bool.and_self]
theorem pU(l:List Int)(h6:l.length=6):aj av 56 [.one (dIs l)] (rB (cH l)):=by
  refine ae ah func56 rfl call56 ntmps56 (MC results56) λS=>?_;conv=>whnf
  repeat'((first|refine aw0 ?_|refine awx ?_|exact rr|refine And.intro rfl ?_|refine AB.mk (λh=>?_) (λh=>?_))<;>conv=>whnf)
  refine AWP.loopS (λk:Nat=>k<=l.length/\∀(j:Nat) (hj:j<k) (hl:j<l.length),tOk l[j]=true) [2,3,4,5,6,7,8,9,10,11,12,13,14,15] (λk=>[(3,vI .i64 (k:Int))]) (λ_=>[]) (λk=>l.length-k) 0 ⟨by omega,by omega⟩ ?_ ak.nil (λk hR=>?_)<;>(conv=>whnf)
  · exact whd
  · obtain⟨hk,hall⟩:=hR
    repeat'((first|refine aw0 ?_|refine awx ?_|refine AIx.mapF ari (λhlt=>?_)|refine AW.i64 ari ari ?_|refine cP (bL _) ?_|exact rr|refine And.intro rfl ?_|refine AB.mk (λh=>?_) (λh=>?_))<;>conv=>whnf)
    all_goals first
      |(rw[qH hlt (by simpa[tOk]using h)];done)
      | (refine aB.mk ⟨k + 1, ⟨hlt, cu (p := tOk) hall hlt (by simpa [tOk] using h)⟩, by omega, ?_, ak.nil⟩
         exact hds)
      | (refine aG ?_
         simp only[cH,dl (p:=tOk) hall ari,Bool.and_true]
         simp only[List.length_map]
         first|omega|(rw[Bool.eq_iff_iff];simp only[beq_iff_eq,decide_eq_true_eq];omega))
end Go.Proofs.YtehobfglmeiglaaGreatDoor
