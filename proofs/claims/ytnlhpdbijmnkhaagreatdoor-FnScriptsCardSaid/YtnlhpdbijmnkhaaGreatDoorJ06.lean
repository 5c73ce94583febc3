/- J06 -/
import Derived.Test.YtnlhpdbijmnkhaaGreatDoorJ04
import Derived.Test.YtnlhpdbijmnkhaaGreatDoorJ03
set_option linter.unusedVariables false
set_option linter.unusedSimpArgs false
set_option maxRecDepth 100000
namespace Go.Proofs.YtnlhpdbijmnkhaaGreatDoor
open Go.Proofs.Tryz
open Go.ChangeShapes Go.WideShapes Go.RowKit
def jM:List (List Nat):=cX [0,0,2,0,12420,1327235,101458181,76320612550,35599944798657,2538159309599112,182422381561933897,12844578746489659914,182422381561933897,57415599869313423807181,4293453185968282837484172,293816795099147061053141838,20081821632468054499984974607,1365683037628839150997648233360,51347335601647746243218769757137]
def j4:List (List Nat):=dQ 13 [2184,56,59,26,41,122,365,1093,3280,9841,1092406,1151455,501916]
theorem bK{a b:Bool}(h:a=b):AP.val (.one (dB a))=rB b:=by rw[h]
theorem gq{α:Type}{l:List α}{p:α->Bool}{k:Nat}(hall:∀(j:Nat) (hj:j<k) (hl:j<l.length),p l[j]=true)(hlt:k<l.length)(h:p l[k]=true):∀(j:Nat) (hj:j<k+1) (hl:j<l.length),p l[j]=true:=by
  intro j hj hl
  by_cases hjk:j=k
  · subst hjk;exact h
  · exact hall j Iv hl
theorem iV{α:Type}{l:List α}{p:α->Bool}{k:Nat}(hall:∀(j:Nat) (hj:j<k) (hl:j<l.length),p l[j]=true)(hk:k=l.length):l.all p=true:=uT λj hj=>hall j Iv hj
theorem AS{l:List Int}(h:¬l.length<=48):bW l=false:=by simp[bW,h]
theorem CK{l:List Int}{k:Nat}(hk:k<l.length)(h:ac l[k] 0 1000000000=false):bW l=false:=by
  have:=kD (p:=λx=>ac x 0 1000000000) hk h
  simp only[bW,this,Bool.and_false]
theorem cW(l:List Int):an av 107 [.one (dIs l)] (rB (bW l)):=by
  refine ai aj func107 rfl call107 ntmps107 (IG results107) λS=>?_;conv=>whnf
  repeat'((first|refine aw0 ?_|refine aw1 ?_|refine aw2 ?_|refine aw3 ?_|refine aw4 ?_|refine aw5 ?_|refine aw6 ?_|refine aw7 ?_|refine aw8 ?_|refine bT ?_|refine bF ?_|exact rr|refine And.intro rfl ?_|refine AB.mk (λh=>?_) (λh=>?_))<;>conv=>whnf)
  · rw[AS ari]
  · have h48:l.length<=48:=ari
    clear h
    refine AWP.loopS (λk:Nat=>k<=l.length/\∀(j:Nat) (hj:j<k) (hl:j<l.length),ac l[j] 0 1000000000=true) [2,3,7,8,9,10,11,12,13,14,15,16,17,18] (λk=>[(3,vI .i64 (k:Int))]) (λ_=>[]) (λk=>l.length-k) 0 ⟨by omega,by omega⟩ ?_ ae.nil (λk hR=>?_)<;>(conv=>whnf)
    · exact whd
    · obtain⟨hk,hall⟩:=hR
      repeat'((first|refine aw0 ?_|refine aw1 ?_|refine aw2 ?_|refine aw3 ?_|refine aw4 ?_|refine aw5 ?_|refine aw6 ?_|refine aw7 ?_|refine aw8 ?_|refine bT ?_|refine bF ?_|refine AIx.mapF ari (λhlt=>?_)|refine AW.i64 ari ari ?_|refine cP (aI _ _ _) ?_|exact rr|refine And.intro rfl ?_|refine AB.mk (λh=>?_) (λh=>?_))<;>conv=>whnf)
      · rw[CK hlt (by simpa using h)]
      · refine aN.mk ⟨k+1,⟨hlt,gq (p:=λx=>ac x 0 1000000000) hall hlt (by simpa using h)⟩,by omega,?_,ae.nil⟩
        exact hds
      · refine bK ?_
        simp only[bW,iV (p:=λx=>ac x 0 1000000000) hall ari,h48,decide_true,Bool.and_self]
theorem nO(d:DDisk)(at_:Int)(hs:d.kept.length<=40):an av 134 [.agg d.ds,pI at_] (rB (ac at_ 0 ((d.kept.length:Int)-1))):=by
  have e:((d.kept.map kO).length:Int)=d.kept.length:=by simp
  refine ai aj func134 rfl call134 ntmps134 (IG results134) λS=>?_;conv=>whnf
  repeat'((first|refine aw0 ?_|refine aw1 ?_|refine aw2 ?_|refine aw3 ?_|refine aw4 ?_|refine aw5 ?_|refine aw6 ?_|refine aw7 ?_|refine aw8 ?_|refine bT ?_|refine bF ?_|refine AW.i64 (n:=_-_) ari ari ?_|refine cP (aI _ _ _) ?_|exact rr|refine And.intro rfl ?_|refine AB.mk (λh=>?_) (λh=>?_))<;>conv=>whnf)
  rw[e]
theorem mF{d:DDisk}(h:¬(1<=d.kept.length/\d.kept.length<=40/\d.wait.length<=60)):bM d=false:=by
  have:(decide (1<=d.kept.length)&&decide (d.kept.length<=40)&&decide (d.wait.length<=60))=false:=by
    simp only[Bool.and_eq_false_iff,decide_eq_false_iff_not]
    omega
  simp only[bM,this,Bool.false_and]
theorem yn{d:DDisk}{k:Nat}(hk:k<d.kept.length)(h:bW d.kept[k]=false):bM d=false:=by
  have:=kD (p:=bW) hk h
  simp only[bM,this,Bool.and_false,Bool.false_and]
theorem wq{d:DDisk}{k:Nat}(hk:k<d.wait.length)(h:dz d.kept.length d.wait[k]=false):bM d=false:=by
  have:=kD (p:=dz d.kept.length) hk h
  simp only[bM,this,Bool.and_false]
theorem cC(d:DDisk):an av 103 [.agg d.ds] (rB (bM d)):=by
  refine ai aj func103 rfl call103 ntmps103 (IG results103) λS=>?_;conv=>whnf
  repeat'((first|refine aw0 ?_|refine aw1 ?_|refine aw2 ?_|refine aw3 ?_|refine aw4 ?_|refine aw5 ?_|refine aw6 ?_|refine aw7 ?_|refine aw8 ?_|refine bT ?_|refine bF ?_|exact rr|refine And.intro rfl ?_|refine AB.mk (λh=>?_) (λh=>?_))<;>conv=>whnf)
  · rw[mF ari]
  · rw[mF ari]
  · rw[mF ari]
  · have h1:1<=d.kept.length:=ari
    have h2:d.kept.length<=40:=ari
    have h3:d.wait.length<=60:=ari
    clear h
    refine AWP.loopS (λk:Nat=>k<=d.kept.length/\∀(j:Nat) (hj:j<k) (hl:j<d.kept.length),bW d.kept[j]=true) [2,3,21,22,23,24,25,26,27,28,29,30,31,32,33,34] (λk=>[(3,vI .i64 (k:Int))]) (λ_=>[(1,.cells 30 (d.ds.map .d))]) (λk=>d.kept.length-k) 0 ⟨by omega,by omega⟩ ?_ (ae.cons rfl ae.nil) (λk hR=>?_)<;>(conv=>whnf)
    · exact whd
    · obtain⟨hk,hall⟩:=hR
      repeat'((first|refine aw0 ?_|refine aw1 ?_|refine aw2 ?_|refine aw3 ?_|refine aw4 ?_|refine aw5 ?_|refine aw6 ?_|refine aw7 ?_|refine aw8 ?_|refine bT ?_|refine bF ?_|refine AIx.mapF ari (λhlt=>?_)|refine AW.i64 ari ari ?_|refine cP (cW _) ?_|exact rr|refine And.intro rfl ?_|refine AB.mk (λh=>?_) (λh=>?_))<;>conv=>whnf)
      · rw[yn hlt (by simpa using h)]
      · refine aN.mk ⟨k+1,⟨hlt,gq (p:=bW) hall hlt (by simpa using h)⟩,by omega,?_,ae.cons rfl ae.nil⟩
        exact hds
      · have hrows:=iV (p:=bW) hall ari
        clear hall hk h
        refine AWP.loopS (λk:Nat=>k<=d.wait.length/\∀(j:Nat) (hj:j<k) (hl:j<d.wait.length),dz d.kept.length d.wait[j]=true) [2,4,35,36,37,38,39,40,41,42,43,44,45,46,47,48,49,50,51,52,53,54,55,56,57,58,59,60] (λk=>[(4,vI .i64 (k:Int))]) (λ_=>[(1,.cells 30 (d.ds.map .d))]) (λk=>d.wait.length-k) 0 ⟨by omega,by omega⟩ ?_ (ae.cons rfl ae.nil) (λk hR=>?_)<;>(conv=>whnf)
        · exact whd
        · obtain⟨hk,hall⟩:=hR
          repeat'((first|refine aw0 ?_|refine aw1 ?_|refine aw2 ?_|refine aw3 ?_|refine aw4 ?_|refine aw5 ?_|refine aw6 ?_|refine aw7 ?_|refine aw8 ?_|refine bT ?_|refine bF ?_|refine AWP.drawK aj 11 13 jM j4 Iw Iw Iw rfl ?_|refine AIx.mapF ari (λhlt=>?_)|refine AW.i64 ari ari ?_|refine cP (nO d _ h2) ?_|refine cP (cW _) ?_|exact rr|refine And.intro rfl ?_|refine AB.mk (λh=>?_) (λh=>?_))<;>conv=>whnf)
          all_goals first
            |(rw[wq hlt (by simp_all[dz])];done)
            | (refine aN.mk ⟨k + 1, ⟨hlt, gq (p := dz d.kept.length) hall hlt (by simp_all [dz])⟩, by omega, ?_, ae.cons rfl ae.nil⟩
               exact hds)
            | (refine bK ?_
               simp only[bM,hrows,iV (p:=dz d.kept.length) hall ari,h1,h2,h3,decide_true,Bool.and_self])
end Go.Proofs.YtnlhpdbijmnkhaaGreatDoor
namespace Go.Proofs.YtnlhpdbijmnkhaaGreatDoor
open Go.Proofs.Tryz
open Go.ChangeShapes Go.WideShapes Go.RowKit
def kH:List (List Nat):=cX [0,1,129,12354,1056835,84676740,6510088389,486455648518,35601017745735,1420639959544200,182422663955222725,12773057508086145546,897118766031192731979,12773057508086145546,1044692718620869144907,254804950867242602876945358,13714966066789312667963683597,1363208697787790677710463054155,92148601044707032918512306537297,6253097876168526412253434026414802,421281259149647460389224493955994707,28313986175558019021364168043577783444,1898515018650738986513470708487908824277,28313986175558019021364168043577783444,2068656202111208218245158012203792930005,520339481158209813593658008738527969100785240,37652490628674061534872091696306030714472969559,28313986175558019021364168043577783444,159973487346561542562477585137151576684277530986140,11016286098325919531521200713218472422092833913918939,510059430358465878414296464190246256277998880524707613,27850205761078480999127350412056121497280325358127236309]
def kP:List (List Nat):=dQ 28 [0,1,4,13,40,121,364,1093,3280,9841,29524,12843157,13020304,1505749,3100072,7174453,21523360,64570081,193710244,581130733,1743392200,16009570577191,16020030930394,15340107972199,15434251151026,15674839274695,16522127884138,7620367308385]
theorem AIx.mapP{α:Type}{enc:α->List AD}{l:List α}{k:Nat}{K:Nat->List AD->Prop}(h0:0<k)(hk:k<=l.length)(h:∀_:k-1<l.length,K (k-1) (enc l[k-1])):AIx (l.map enc) ((k:Int)-1) K:=by
  have e:((k:Int)-1)=((k-1:Nat):Int):=by omega
  rw[e]
  exact AIx.map Iv (h Iv)
def bc{α:Type}(P:α->Bool)(Q:α->α->Bool)(l:List α)(k:Nat)(hk:k<l.length):Bool:=P l[k]&&(if h:0<k then Q (l[k-1]'(by omega)) l[k]else true)
theorem hH{α:Type}{P:α->Bool}{Q:α->α->Bool}{l:List α}{k:Nat}(hk:k<l.length)(h:bc P Q l k hk=false):(l.all P&&fP Q l)=false:=by
  unfold bc at h
  cases hp:P l[k]with
  |false=>rw[kD hk hp];rfl
  |true=>
    rw[hp]at h
    simp only[Bool.true_and]at h
    split at h
    · rename_i h0
      obtain⟨j,rfl⟩:∃j,k=j+1:=⟨k-1,by omega⟩
      rw[C4 (Q:=Q) hk (by simpa using h),Bool.and_false]
    · cases h
theorem tD{α:Type}{P:α->Bool}{Q:α->α->Bool}{l:List α}(h:∀(j:Nat) (hl:j<l.length),bc P Q l j hl=true):(l.all P&&fP Q l)=true:=by
  rw[Bool.and_eq_true]
  refine⟨uT λk hk=>?_,v8 λk hk=>?_⟩
  · have:=h k hk
    unfold bc at this
    exact(Bool.and_eq_true_iff.1 this).1
  · have:=h (k+1) hk
    unfold bc at this
    have:=(Bool.and_eq_true_iff.1 this).2
    simpa using this
theorem e8{α:Type}{P:α->Bool}{Q:α->α->Bool}{l:List α}{k:Nat}(hall:∀(j:Nat) (hj:j<k) (hl:j<l.length),bc P Q l j hl=true)(hlt:k<l.length)(h:bc P Q l k hlt=true):∀(j:Nat) (hj:j<k+1) (hl:j<l.length),bc P Q l j hl=true:=by
  intro j hj hl
  by_cases hjk:j=k
  · subst hjk;exact h
  · exact hall j Iv hl
theorem ib{α:Type}{P:α->Bool}{Q:α->α->Bool}{l:List α}{k:Nat}(hall:∀(j:Nat) (hj:j<k) (hl:j<l.length),bc P Q l j hl=true)(hk:k=l.length):(l.all P&&fP Q l)=true:=tD λj hj=>hall j Iv hj
theorem bb{α:Type}{P:α->Bool}{Q:α->α->Bool}{l:List α}{k:Nat}(hk:k<l.length)(h:0<k):bc P Q l k hk=(P l[k]&&Q (l[k-1]'(by omega)) l[k]):=by simp[bc,h]
theorem bd{α:Type}{P:α->Bool}{Q:α->α->Bool}{l:List α}{k:Nat}(hk:k<l.length)(h:¬0<k):bc P Q l k hk=P l[k]:=by simp[bc,h]
theorem bO{α:Type}{P:α->Bool}{Q:α->α->Bool}{l:List α}{k:Nat}(hk:k<l.length)(h:P l[k]=false):bc P Q l k hk=false:=by simp[bc,h]
theorem fw(t:DTwo):an av 99 [.agg t.ds] (rB (gr t)):=by
  refine ai aj func99 rfl call99 ntmps99 (IG results99) λS=>?_;conv=>whnf
  repeat'((first|refine aw0 ?_|refine aw1 ?_|refine aw2 ?_|refine aw3 ?_|refine aw4 ?_|refine aw5 ?_|refine aw6 ?_|refine aw7 ?_|refine aw8 ?_|refine bT ?_|refine bF ?_|refine cP (cC t.a) ?_|refine cP (cC t.b) ?_|exact rr|refine And.intro rfl ?_|refine AB.mk (λh=>?_) (λh=>?_))<;>conv=>whnf)
  all_goals
    refine bK ?_
    simp_all[gr]
  all_goals first|omega|(rw[Bool.eq_iff_iff];simp only[beq_iff_eq,decide_eq_true_eq];omega)
theorem uc(t:DTwo):an av 91 [.agg t.ds] (rB (re t)):=by
  refine ai aj func91 rfl call91 ntmps91 (IG results91) λS=>?_;conv=>whnf
  repeat'((first|refine aw0 ?_|refine aw1 ?_|refine aw2 ?_|refine aw3 ?_|refine aw4 ?_|refine aw5 ?_|refine aw6 ?_|refine aw7 ?_|refine aw8 ?_|refine bT ?_|refine bF ?_|refine cP (fw t) ?_|exact rr|refine And.intro rfl ?_|refine AB.mk (λh=>?_) (λh=>?_))<;>conv=>whnf)
  all_goals
    refine bK ?_
    simp_all[re]
  all_goals first|omega|(rw[Bool.eq_iff_iff];simp only[beq_iff_eq,decide_eq_true_eq];omega)
theorem rY(d:DDisk):an av 101 [.agg d.ds] (rB (pJ d)):=by
  refine ai aj func101 rfl call101 ntmps101 (IG results101) λS=>?_;conv=>whnf
  repeat'((first|refine aw0 ?_|refine aw1 ?_|refine aw2 ?_|refine aw3 ?_|refine aw4 ?_|refine aw5 ?_|refine aw6 ?_|refine aw7 ?_|refine aw8 ?_|refine bT ?_|refine bF ?_|refine cP (cC d) ?_|exact rr|refine And.intro rfl ?_|refine AB.mk (λh=>?_) (λh=>?_))<;>conv=>whnf)
  all_goals
    refine bK ?_
    simp_all[pJ]
  all_goals first|omega|(rw[Bool.eq_iff_iff];simp only[beq_iff_eq,decide_eq_true_eq];omega)
theorem xp(m:DMsg):an av 70 [.agg m.ds] (rB (oW m)):=by
  refine ai aj func70 rfl call70 ntmps70 (IG results70) λS=>?_;conv=>whnf
  repeat'((first|refine aw0 ?_|refine aw1 ?_|refine aw2 ?_|refine aw3 ?_|refine aw4 ?_|refine aw5 ?_|refine aw6 ?_|refine aw7 ?_|refine aw8 ?_|refine bT ?_|refine bF ?_|refine cP (l0 _) ?_|refine cP (cW _) ?_|exact rr|refine And.intro rfl ?_|refine AB.mk (λh=>?_) (λh=>?_))<;>conv=>whnf)
  all_goals
    refine bK ?_
    simp_all[oW,dV]
theorem mv(x y:DLink):an av 72 [.agg x.ds,.agg y.ds] (rB (lc x y)):=by
  refine ai aj func72 rfl call72 ntmps72 (IG results72) λS=>?_;conv=>whnf
  repeat'((first|refine aw0 ?_|refine aw1 ?_|refine aw2 ?_|refine aw3 ?_|refine aw4 ?_|refine aw5 ?_|refine aw6 ?_|refine aw7 ?_|refine aw8 ?_|refine bT ?_|refine bF ?_|exact rr|refine And.intro rfl ?_|refine AB.mk (λh=>?_) (λh=>?_))<;>conv=>whnf)
  all_goals
    refine bK ?_
    simp_all[lc]
  all_goals first|omega|(rw[Bool.eq_iff_iff];simp only[beq_iff_eq,decide_eq_true_eq];omega)
theorem tT{n:DNet}(h:¬(n.flight.length<=60/\n.cuts.length<=15)):mq n=false:=by
  have:(decide (n.flight.length<=60)&&decide (n.cuts.length<=15))=false:=by
    simp only[Bool.and_eq_false_iff,decide_eq_false_iff_not]
    omega
  simp only[mq,this,Bool.false_and]
theorem AG{n:DNet}{k:Nat}(hk:k<n.flight.length)(h:oW n.flight[k]=false):mq n=false:=by
  have:=kD (p:=oW) hk h
  simp only[mq,this,Bool.and_false,Bool.false_and]
theorem AF{n:DNet}{k:Nat}(hk:k<n.cuts.length)(h:bc dZ lc n.cuts k hk=false):mq n=false:=by
  have:=hH hk h
  simp only[mq,Bool.and_assoc]at*
  simp only[this,Bool.and_false]
set_option maxHeartbeats 2000000 in
theorem xq(n:DNet):an av 49 [.agg n.ds] (rB (mq n)):=by
  refine ai aj func49 rfl call49 ntmps49 (IG results49) λS=>?_;conv=>whnf
  repeat'((first|refine aw0 ?_|refine aw1 ?_|refine aw2 ?_|refine aw3 ?_|refine aw4 ?_|refine aw5 ?_|refine aw6 ?_|refine aw7 ?_|refine aw8 ?_|refine bT ?_|refine bF ?_|exact rr|refine And.intro rfl ?_|refine AB.mk (λh=>?_) (λh=>?_))<;>conv=>whnf)
  · rw[tT ari]
  · rw[tT ari]
  · have h1:n.flight.length<=60:=ari
    have h2:n.cuts.length<=15:=ari
    clear h
    refine AWP.loopS (λk:Nat=>k<=n.flight.length/\∀(j:Nat) (hj:j<k) (hl:j<n.flight.length),oW n.flight[j]=true) [2,3,16,17,18,19,20,21,22,23,24,25,26,27,28,29] (λk=>[(3,vI .i64 (k:Int))]) (λ_=>[(1,.cells 66 (n.ds.map .d))]) (λk=>n.flight.length-k) 0 ⟨by omega,by omega⟩ ?_ (ae.cons rfl ae.nil) (λk hR=>?_)<;>(conv=>whnf)
    · exact whd
    · obtain⟨hk,hall⟩:=hR
      repeat'((first|refine aw0 ?_|refine aw1 ?_|refine aw2 ?_|refine aw3 ?_|refine aw4 ?_|refine aw5 ?_|refine aw6 ?_|refine aw7 ?_|refine aw8 ?_|refine bT ?_|refine bF ?_|refine AIx.mapF ari (λhlt=>?_)|refine AW.i64 ari ari ?_|refine cP (xp _) ?_|exact rr|refine And.intro rfl ?_|refine AB.mk (λh=>?_) (λh=>?_))<;>conv=>whnf)
      · rw[AG hlt (by simpa using h)]
      · refine aN.mk ⟨k+1,⟨hlt,gq (p:=oW) hall hlt (by simpa using h)⟩,by omega,?_,ae.cons rfl ae.nil⟩
        exact hds
      · have hrows:=iV (p:=oW) hall ari
        clear hall hk h
        refine AWP.loopS (λk:Nat=>k<=n.cuts.length/\∀(j:Nat) (hj:j<k) (hl:j<n.cuts.length),bc dZ lc n.cuts j hl=true) [2,4,5,30,31,32,33,34,35,36,37,38,39,40,41,42,43,44,45,46,47,48,49,50,51,52,53,54,55,56,57,58,59,60,61,62,63,64,65,66,67,68,69,70,71,72,73] (λk=>[(4,vI .i64 (k:Int))]) (λ_=>[(1,.cells 66 (n.ds.map .d))]) (λk=>n.cuts.length-k) 0 ⟨by omega,by omega⟩ ?_ (ae.cons rfl ae.nil) (λk hR=>?_)<;>(conv=>whnf)
        · exact whd
        · obtain⟨hk,hall⟩:=hR
          repeat'((first|refine aw0 ?_|refine aw1 ?_|refine aw2 ?_|refine aw3 ?_|refine aw4 ?_|refine aw5 ?_|refine aw6 ?_|refine aw7 ?_|refine aw8 ?_|refine bT ?_|refine bF ?_|refine AWP.drawK aj 12 28 kH kP Iw Iw Iw rfl ?_|refine AIx.mapF ari (λhlt=>?_)|refine AIx.mapP ari ari (λhpv=>?_)|refine AW.i64 (n:=_-_) ari ari ?_|refine AW.i64 ari ari ?_|refine cP (l0 _) ?_|refine cP (mv _ _) ?_|exact rr|refine And.intro rfl ?_|refine AB.mk (λh=>?_) (λh=>?_))<;>conv=>whnf)
          all_goals first
            |(rw[AF hlt (by first|(refine bO _ ?_;simp_all[dZ,dV];done)|(refine bO _ ?_;simp_all[dZ,dV];intros;omega)|(rw[bb _ ari];simp_all[dZ,dV];done)|(rw[bd _ ari];simp_all[dZ,dV];done)|(rw[bb _ ari];simp_all[dZ,dV];omega)|(rw[bd _ ari];simp_all[dZ,dV];omega))];done)
            | (refine aN.mk ⟨k + 1, ⟨hlt, e8 hall hlt (by first | (refine bO _ ?_; simp_all [dZ, dV]; done) | (refine bO _ ?_; simp_all [dZ, dV]; intros; omega) | (rw [bb _ ari]; simp_all [dZ, dV]; done) | (rw [bd _ ari]; simp_all [dZ, dV]; done) | (rw [bb _ ari]; simp_all [dZ, dV]; omega) | (rw [bd _ ari]; simp_all [dZ, dV]; omega))⟩, by omega, ?_, ae.cons rfl ae.nil⟩
               exact hds)
            | (refine bK ?_
               have he:=ib hall ari
               simp only[mq,hrows,h1,h2,decide_true,Bool.and_self,Bool.true_and,he])
theorem wl{l:List Int}{k:Nat}(hk:k<l.length)(h:tOk l[k]=false):fi l=false:=by
  have:=kD (p:=tOk) hk h
  simp only[fi,this,Bool.and_false]
theorem nN(l:List Int)(h6:l.length=6):an av 45 [.one (dIs l)] (rB (fi l)):=by
  refine ai aj func45 rfl call45 ntmps45 (IG results45) λS=>?_;conv=>whnf
  repeat'((first|refine aw0 ?_|refine aw1 ?_|refine aw2 ?_|refine aw3 ?_|refine aw4 ?_|refine aw5 ?_|refine aw6 ?_|refine aw7 ?_|refine aw8 ?_|refine bT ?_|refine bF ?_|exact rr|refine And.intro rfl ?_|refine AB.mk (λh=>?_) (λh=>?_))<;>conv=>whnf)
  refine AWP.loopS (λk:Nat=>k<=l.length/\∀(j:Nat) (hj:j<k) (hl:j<l.length),tOk l[j]=true) [2,3,4,5,6,7,8,9,10,11,12,13,14,15] (λk=>[(3,vI .i64 (k:Int))]) (λ_=>[]) (λk=>l.length-k) 0 ⟨by omega,by omega⟩ ?_ ae.nil (λk hR=>?_)<;>(conv=>whnf)
  · exact whd
  · obtain⟨hk,hall⟩:=hR
    repeat'((first|refine aw0 ?_|refine aw1 ?_|refine aw2 ?_|refine aw3 ?_|refine aw4 ?_|refine aw5 ?_|refine aw6 ?_|refine aw7 ?_|refine aw8 ?_|refine bT ?_|refine bF ?_|refine AIx.mapF ari (λhlt=>?_)|refine AW.i64 ari ari ?_|refine cP (cn _) ?_|exact rr|refine And.intro rfl ?_|refine AB.mk (λh=>?_) (λh=>?_))<;>conv=>whnf)
    all_goals first
      |(rw[wl hlt (by simpa[tOk]using h)];done)
      | (refine aN.mk ⟨k + 1, ⟨hlt, gq (p := tOk) hall hlt (by simpa [tOk] using h)⟩, by omega, ?_, ae.nil⟩
         exact hds)
      | (refine bK ?_
         simp only[fi,iV (p:=tOk) hall ari,Bool.and_true]
         simp only[List.length_map]
         first|omega|(rw[Bool.eq_iff_iff];simp only[beq_iff_eq,decide_eq_true_eq];omega))
end Go.Proofs.YtnlhpdbijmnkhaaGreatDoor
namespace Go.Proofs.YtnlhpdbijmnkhaaGreatDoor
open Go.Proofs.Tryz
open Go.ChangeShapes Go.WideShapes Go.RowKit
structure sH (op:BinOp) (t:TypeId) (ds es:List AD) (r:Bool):Prop where
  guard:∀(x y:Operand) w,(eqGuard op t x y (.agg (ds.map rH).toArray) (.agg (es.map rH).toArray)).run Tryz.prog w= .ok () w
  run:∀w,(binOp op t (.agg (ds.map rH).toArray) (.agg (es.map rH).toArray)).run Tryz.prog w= .ok (.bool r) w
theorem sH.reads{op:BinOp}{t t2:TypeId}{ds es:List AD}{r:Bool}(he:sH op t ds es r)(hd:ds.all AD.isPv=true)(hd2:es.all AD.isPv=true){S:aZ}{Z:Nat->Prop}{ρ:Nat->Value}{st:ASt}{a:Act}{w:World}{o:Oper}{x y:Operand}
    (ho:o.op= .binOp op t x y t2) (hx:aEv st x λv=>v= .agg (ds.map .d)) (hy:aEv st y λv=>v= .agg (es.map .d)) (hs:Sim av.W S Z ρ st a w):∃u,aV Z w ρ (vB r) u/\(execOp a.eval o).run av.P w= .ok (.value u) w:=by
  obtain⟨v,hv,rfl⟩:=aG hs hx
  obtain⟨u,hu,rfl⟩:=aG hs hy
  have e1:=xj hd hv
  have e2:=xj hd2 hu
  have h1:=he.guard x y w
  have h2:=he.run w
  exact⟨.bool r,bt rfl,by simp[execOp,ho,e1,e2,av,h1,h2]⟩
theorem AOp.eqs{op:BinOp}{t t2:TypeId}{ds es:List AD}{r:Bool}(he:sH op t ds es r){S:aZ}{st:ASt}{o:Oper}{x y:Operand}{K:ASt->Prop}(ho:o.op= .binOp op t x y t2)(hx:aEv st x λv=>v= .agg (ds.map .d))(hy:aEv st y λv=>v= .agg (es.map .d))(hd:ds.all AD.isPv=true)(hd2:es.all AD.isPv=true)(hk:cF st o.dst (vB r) K):AOp av S o st K:=
  .reads λZ ρ a w hs=>by
    obtain⟨u,hu,hr⟩:=he.reads hd hd2 ho hx hy hs
    exact⟨_,u,hu,hr,hk⟩
theorem sG.eqs{op:BinOp}{t t2:TypeId}{ds es:List AD}{r:Bool}(he:sH op t ds es r){st:ASt}{o:Oper}{x y:Operand}{K:AV->Prop}(ho:o.op= .binOp op t x y t2)(hx:aEv st x λv=>v= .agg (ds.map .d))(hy:aEv st y λv=>v= .agg (es.map .d))(hd:ds.all AD.isPv=true)(hd2:es.all AD.isPv=true)(hk:K (vB r)):sG av o st K:=
  ⟨_,hk,λS Z ρ a w hs=>he.reads hd hd2 ho hx hy hs⟩
theorem wI(w:World)(d:Nat)(a b:Int):(Op.equalIn (d+1) 2 (.int .i64 a) (.int .i64 b)).run Tryz.prog w= .ok (a==b) w:=BX w d a b
abbrev bG(x:Int):Value:= .int .i64 x
set_option maxHeartbeats 2000000 in
theorem wW(p q:DMark)(w:World):(binOp .neq 167 (.agg #[bG p.client,bG p.seq,bG p.index]) (.agg #[bG q.client,bG q.seq,bG q.index])).run Tryz.prog w= .ok (.bool (!(p==q))) w:=by
  obtain⟨a0,a1,a2⟩:=p
  obtain⟨b0,b1,b2⟩:=q
  have h:=run_underlying (w:=w) underlying167
  have hs:Tryz.prog.stoodInHeld 167=false:=by kernel_rfl
  show(do let x<-Op.equalIn (9999+1) _ _ _;pure (Value.bool !x):Sem Value).run _ _=_
  rw[Op.equalIn]
  have key:∀x y:Int,(Op.equalIn 9999 2 (.int .i64 x) (.int .i64 y)).run Tryz.prog w= .ok (x==y) w:=wI w 9998
  simp[h,hs,iw,key]
  repeat' split
  all_goals simp_all
theorem rn(p q:DMark):sH .neq 167 p.ds q.ds (!(p==q)):=by
  refine⟨λx y w=>?_,λw=>wW p q w⟩
  have h:Tryz.prog.eqGuardType Tryz.prog.depth 167=false:=by kernel_rfl
  simp[eqGuard,h]
set_option maxHeartbeats 2000000 in
theorem yN(p q:DAck)(w:World):(binOp .neq 206 (.agg #[bG p.client,bG p.seq,bG p.index,bG p.last]) (.agg #[bG q.client,bG q.seq,bG q.index,bG q.last])).run Tryz.prog w= .ok (.bool (!(p==q))) w:=by
  obtain⟨a0,a1,a2,a3⟩:=p
  obtain⟨b0,b1,b2,b3⟩:=q
  have h:=run_underlying (w:=w) underlying206
  have hs:Tryz.prog.stoodInHeld 206=false:=by kernel_rfl
  show(do let x<-Op.equalIn (9999+1) _ _ _;pure (Value.bool !x):Sem Value).run _ _=_
  rw[Op.equalIn]
  have key:∀x y:Int,(Op.equalIn 9999 2 (.int .i64 x) (.int .i64 y)).run Tryz.prog w= .ok (x==y) w:=wI w 9998
  simp[h,hs,iw,key]
  repeat' split
  all_goals simp_all
theorem AE(p q:DAck):sH .neq 206 p.ds q.ds (!(p==q)):=by
  refine⟨λx y w=>?_,λw=>yN p q w⟩
  have h:Tryz.prog.eqGuardType Tryz.prog.depth 206=false:=by kernel_rfl
  simp[eqGuard,h]
set_option maxHeartbeats 2000000 in
theorem wX(p q:DPair)(w:World):(binOp .neq 238 (.agg #[bG p.key,bG p.value]) (.agg #[bG q.key,bG q.value])).run Tryz.prog w= .ok (.bool (!(p==q))) w:=by
  obtain⟨a0,a1⟩:=p
  obtain⟨b0,b1⟩:=q
  have h:=run_underlying (w:=w) underlying238
  have hs:Tryz.prog.stoodInHeld 238=false:=by kernel_rfl
  show(do let x<-Op.equalIn (9999+1) _ _ _;pure (Value.bool !x):Sem Value).run _ _=_
  rw[Op.equalIn]
  have key:∀x y:Int,(Op.equalIn 9999 2 (.int .i64 x) (.int .i64 y)).run Tryz.prog w= .ok (x==y) w:=wI w 9998
  simp[h,hs,iw,key]
  repeat' split
  all_goals simp_all
theorem ro(p q:DPair):sH .neq 238 p.ds q.ds (!(p==q)):=by
  refine⟨λx y w=>?_,λw=>wX p q w⟩
  have h:Tryz.prog.eqGuardType Tryz.prog.depth 238=false:=by kernel_rfl
  simp[eqGuard,h]
set_option maxHeartbeats 2000000 in
theorem yO(p q:DJob)(w:World):(binOp .neq 213 (.agg #[bG p.id,bG p.due,bG p.key,bG p.value,bG p.fired]) (.agg #[bG q.id,bG q.due,bG q.key,bG q.value,bG q.fired])).run Tryz.prog w= .ok (.bool (!(p==q))) w:=by
  obtain⟨a0,a1,a2,a3,a4⟩:=p
  obtain⟨b0,b1,b2,b3,b4⟩:=q
  have h:=run_underlying (w:=w) underlying213
  have hs:Tryz.prog.stoodInHeld 213=false:=by kernel_rfl
  show(do let x<-Op.equalIn (9999+1) _ _ _;pure (Value.bool !x):Sem Value).run _ _=_
  rw[Op.equalIn]
  have key:∀x y:Int,(Op.equalIn 9999 2 (.int .i64 x) (.int .i64 y)).run Tryz.prog w= .ok (x==y) w:=wI w 9998
  simp[h,hs,iw,key]
  repeat' split
  all_goals simp_all
theorem tS(p q:DJob):sH .neq 213 p.ds q.ds (!(p==q)):=by
  refine⟨λx y w=>?_,λw=>yO p q w⟩
  have h:Tryz.prog.eqGuardType Tryz.prog.depth 213=false:=by kernel_rfl
  simp[eqGuard,h]
set_option maxHeartbeats 2000000 in
theorem u9(p q:DLease)(w:World):(binOp .eql 45 (.agg #[bG p.holder,bG p.epoch,bG p.til]) (.agg #[bG q.holder,bG q.epoch,bG q.til])).run Tryz.prog w= .ok (.bool (p==q)) w:=by
  obtain⟨a0,a1,a2⟩:=p
  obtain⟨b0,b1,b2⟩:=q
  have h:=run_underlying (w:=w) underlying45
  have hs:Tryz.prog.stoodInHeld 45=false:=by kernel_rfl
  show(do let x<-Op.equalIn (9999+1) _ _ _;pure (Value.bool x):Sem Value).run _ _=_
  rw[Op.equalIn]
  have key:∀x y:Int,(Op.equalIn 9999 2 (.int .i64 x) (.int .i64 y)).run Tryz.prog w= .ok (x==y) w:=wI w 9998
  simp[h,hs,iw,key]
  repeat' split
  all_goals simp_all
theorem oR(p q:DLease):sH .eql 45 p.ds q.ds (p==q):=by
  refine⟨λx y w=>?_,λw=>u9 p q w⟩
  have h:Tryz.prog.eqGuardType Tryz.prog.depth 45=false:=by kernel_rfl
  simp[eqGuard,h]
set_option maxHeartbeats 2000000 in
theorem Aj(p q:DOp)(w:World):(binOp .eql 56 (.agg #[bG p.kind,bG p.a,bG p.b,bG p.c,bG p.d]) (.agg #[bG q.kind,bG q.a,bG q.b,bG q.c,bG q.d])).run Tryz.prog w= .ok (.bool (p==q)) w:=by
  obtain⟨a0,a1,a2,a3,a4⟩:=p
  obtain⟨b0,b1,b2,b3,b4⟩:=q
  have h:=run_underlying (w:=w) underlying56
  have hs:Tryz.prog.stoodInHeld 56=false:=by kernel_rfl
  show(do let x<-Op.equalIn (9999+1) _ _ _;pure (Value.bool x):Sem Value).run _ _=_
  rw[Op.equalIn]
  have key:∀x y:Int,(Op.equalIn 9999 2 (.int .i64 x) (.int .i64 y)).run Tryz.prog w= .ok (x==y) w:=wI w 9998
  simp[h,hs,iw,key]
  repeat' split
  all_goals simp_all
theorem qT(p q:DOp):sH .eql 56 p.ds q.ds (p==q):=by
  refine⟨λx y w=>?_,λw=>Aj p q w⟩
  have h:Tryz.prog.eqGuardType Tryz.prog.depth 56=false:=by kernel_rfl
  simp[eqGuard,h]
end Go.Proofs.YtnlhpdbijmnkhaaGreatDoor
namespace Go.Proofs.YtnlhpdbijmnkhaaGreatDoor
open Go.Proofs.Tryz
open Go.ChangeShapes Go.WideShapes Go.RowKit
def jZ:List (List Nat):=cX [0,0,66,12417,0,0,326,29061,17663105454471]
def kn:List (List Nat):=dQ 8 [6486,6482,6484,6493,566,242,404,1133]
theorem yM{α:Type}[DecidableEq α]{a b:List α}(h:¬a.length=b.length):decide (a=b)=false:=decide_eq_false λe=>h (by rw[e])
theorem Cm{α:Type}[DecidableEq α]{a b:List α}{k:Nat}(h1:k<a.length)(h2:k<b.length)(h:a[k]≠b[k]):decide (a=b)=false:=decide_eq_false λe=>h (by subst e;rfl)
theorem yu{α:Type}[DecidableEq α]{a b:List α}(hl:a.length=b.length)(h:∀(j:Nat) (h1:j<a.length) (h2:j<b.length),a[j]=b[j]):decide (a=b)=true:=decide_eq_true (List.ext_getElem hl h)
theorem vH{α:Type}{a b:List α}{k:Nat}(h:∀(j:Nat) (hj:j<k) (h1:j<a.length) (h2:j<b.length),a[j]=b[j])(hk:∀(h1:k<a.length) (h2:k<b.length),a[k]=b[k]):∀(j:Nat) (hj:j<k+1) (h1:j<a.length) (h2:j<b.length),a[j]=b[j]:=by
  intro j hj h1 h2
  by_cases hjk:j=k
  · subst hjk;exact hk h1 h2
  · exact h j Iv h1 h2
theorem gI(a b:List DMark)(ha:a.length<=9223372036854775806):an av 94 [.one (.sl (a.map DMark.ds)),.one (.sl (b.map DMark.ds))] (rB (decide (a=b))):=by
  refine ai aj func94 rfl call94 ntmps94 (IG results94) λS=>?_;conv=>whnf
  repeat'((first|refine aw0 ?_|refine aw1 ?_|refine aw2 ?_|refine aw3 ?_|refine aw4 ?_|refine aw5 ?_|refine aw6 ?_|refine aw7 ?_|refine aw8 ?_|refine bT ?_|refine bF ?_|exact rr|refine And.intro rfl ?_|refine AB.mk (λh=>?_) (λh=>?_))<;>conv=>whnf)
  · rw[yM ID]
  · have hlen:a.length=b.length:=ID
    clear h
    refine AWP.loopS (λk:Nat=>k<=a.length/\∀(j:Nat) (hj:j<k) (h1:j<a.length) (h2:j<b.length),a[j]=b[j]) [4,5,11,12,13,14,15,16,17,18,19,20,21,22,23,24,25] (λk=>[(5,vI .i64 (k:Int))]) (λ_=>[]) (λk=>a.length-k) 0 ⟨by omega,by omega⟩ ?_ ae.nil (λk hR=>?_)<;>(conv=>whnf)
    · exact whd
    · obtain⟨hk,hall⟩:=hR
      repeat'((first|refine aw0 ?_|refine aw1 ?_|refine aw2 ?_|refine aw3 ?_|refine aw4 ?_|refine aw5 ?_|refine aw6 ?_|refine aw7 ?_|refine aw8 ?_|refine bT ?_|refine bF ?_|refine AWP.drawK aj 6 8 jZ kn Iw Iw Iw rfl ?_|refine AIx.mapF ari (λhlt=>?_)|refine AW.i64 ari ari ?_|refine sG.eqs (rn _ _) rfl rfl rfl rfl rfl ?_|refine AOp.eqs (rn _ _) rfl rfl rfl rfl rfl ?_|exact rr|refine And.intro rfl ?_|refine AB.mk (λh=>?_) (λh=>?_))<;>conv=>whnf)
      all_goals first
        |(rw[Cm (k:=k) ari ari (by simp_all)];done)
        | (refine aN.mk ⟨k + 1, ⟨ari, vH hall fun h1 h2 => by simpa using h⟩, ari, ?_, ae.nil⟩
           exact hds)
        | (have hkk : k = a.length := ari
           rw[yu hlen λj h1 h2=>hall j Iv h1 h2])
end Go.Proofs.YtnlhpdbijmnkhaaGreatDoor
