/- J08 -/
import Derived.Test.YtnlhpdbijmnkhaaGreatDoorJ07
import Derived.Test.YtnlhpdbijmnkhaaGreatDoorJ02
set_option linter.unusedVariables false
set_option linter.unusedSimpArgs false
set_option maxRecDepth 100000
namespace Go.Proofs.YtnlhpdbijmnkhaaGreatDoor
open Go.Proofs.Tryz
open Go.ChangeShapes Go.WideShapes Go.RowKit
def kK:List (List Nat):=cX [0,1,129,12354,1056835,84676740,1056835,118231172,26665322041863,1134768093430086,181855382611431556,12754761708654842250,897082460025190097163,62207069026659297682060,3343584253353614966842125,294128918675465597356351755,20021030020780715756263883599,1365703013537723537321053668048,92552189137762482716163519337425,6253257512376522115268511825703954,421307088787603009176274171575202899,28313996392275330746357133022732289172,1898516671747568141635841887855538148565,110443125483137403237505216433409988851030,5635418958822596579205138822285872971191444,564587086099490636614473950026251854670217936,37469106823719603088584564090313169416107664665,2502417586506266075212044488010407714368280114202,166086206217779181436482113366003741044095335351899,9822301539197151632053911968891055483416127646062300,728993855799396224617265167324643205015392353977938970,48135989065351172313560208207668612243119544957039654686,3185206474464501740293399682312610373172162832886605350559,210225060567942940234648904291143782914937380544563676825504,48135989065351172313560208207668612243119544957039654686,3479445618310752401098202311525469736426960744345856968351,56782137714963027777476425173270074103077862885205941626869782819,3307879980740750269472028025262199455838458345742192669664375609378,259753630549600233854268194224637409062141341103974644176737148929695]
def kS:List (List Nat):=dQ 36 [0,1,4,13,5872,5953,688,1417,3280,9841,29524,88573,265720,797161,2391484,7174453,21523360,64570081,193710244,581130733,1743392200,5230176601,15690529804,47071589413,141214768240,423644304721,1270932914164,3812798742493,11438396227480,34315188682441,102945566047324,133726290295474525,134343963691758472,136196983880610313,16368345001524595,33045526701191164]
def hJ:List (List Nat):=cX [0,0,66,12417,1052803,84680772,6509830341,486455906566,35601001230663,2564407968416136,182422449173582281,182422449173582281,822160554281852764812,62287883029590555521611,4283858644125240688419597,182422449173582281,182422449173582281,19763787688295031306,76230107888386803016849,5824017713988326745469520,391734989181538091299054675,26369477958688238684591658004,1293591356378629304695203670506460484821,127036007785422251621959037557723292549967,8445569296257215953576387387155549035771223,8445569296257215953576387387155549035771223,36201531805538086569100693454073813015853331994,2503932969441214093197262479207192424353626936793,166005081416615564379235145645284422234479058060955,8445569296257215953576387387155549035771223,8445569296257215953576387387155549035771223,699453405652716341491412644855793497408590808,2773617297220344702361095891284562476657092167711,195796087992609360784920931321752318744669002225118,12898421758350281060995982921004739401591290752796641,756631666196460698142482546193420365556173837506908686248708002,39883073373398053585232782724680879911596011738233013544591664861,1066442832612415689874107031114871815364000671881775950079007445976,47711456489035996979616188969501934569300316776543366420105979531786]
def ie:List (List Nat):=dQ 35 [6,2,4,13,40,121,364,1093,3280,9841,31367094520,31366858324,31366976422,31367507863,31369102186,358693150,43017196,86063917,200855173,588275662,1750537129,5237321530,15690529804,47071589413,49964750513621950,49963620795476026,49964185654548988,49966727520377317,49974353117862304,1715618219353834,205749917326408,411641049421057,960684068340121,2813704257191962,8372764823747485]
def fk:List (List Nat):=cX [0,1,129,12354,1056835,84676740,6510088389,486455648518,35601017745735,2564407951901064,84676740,11878797509,830053032203,47820950793236483723980,4288735575286549884985866,293202737558278136887816974,20081519705384423591025083023,1365643737946223539851067442064,92556060477577120017588236100561,6253253718738666115430432707240978,293202737558278136887816974,26271219901811324965520704143,1725674850522526293866763687723186599317,82529233725716921844038705199813207852180,1758667092263185104645647738334975169692303,562800500986352143573799227579081592014377157]
def ft:List (List Nat):=dQ 22 [0,1,4,13,40,1535395,1535638,1536367,1538554,1545115,58927,117976,295123,797161,2391484,27901449661,27915798568,27958845289,28087985452,28475405941,3479609947,6966394348]
set_option maxHeartbeats 2000000 in
theorem lX(hh:DHead)(hs:hh.seen.length<=9223372036854775806):an av 89 [.agg hh.ds] (rB (kW hh)):=by
  have seen_le6:∀{s:List DMark},bn s=true->s.length<=1000000:=λh=>Nat.le_trans (eF h) Iv
  refine ai aj func89 rfl call89 ntmps89 (IG results89) λS=>?_;conv=>whnf
  repeat'((first|refine aw0 ?_|refine aw1 ?_|refine aw2 ?_|refine aw3 ?_|refine aw4 ?_|refine aw5 ?_|refine aw6 ?_|refine aw7 ?_|refine aw8 ?_|refine bT ?_|refine bF ?_|refine AWP.drawK aj 1 36 kK kS Iw Iw Iw rfl ?_|refine cP (aI _ _ _) ?_|refine cP (cn _) ?_|refine cP (cd hh.seen) ?_|refine cP (gH hh.seen Iz) ?_|exact rr|refine And.intro rfl ?_|refine AB.mk (λh=>?_) (λh=>?_))<;>conv=>whnf)
  all_goals
    refine bK ?_
    first
      |(simp_all[kW,tOk];done)
      |(simp_all[kW,tOk];intros;omega)
theorem sI{l:List DEntry}(h:¬l.length<=2000):cB l=false:=by simp[cB,h]
theorem u7{l:List DEntry}{k:Nat}(hk:k<l.length)(h:bc ca nv l k hk=false):cB l=false:=by
  have:=hH hk h
  simp only[cB,Bool.and_assoc]at*
  simp only[this,Bool.and_false]
theorem sJ{l:List DEntry}(h:l.length<=2000)(hc:(l.all ca&&fP nv l)=true):cB l=true:=by
  simp only[cB,Bool.and_assoc,hc,h,decide_true,Bool.and_self]
theorem wt{e:DEntry}(h:ca e=true):1<=e.index/\e.index<=2000:=by
  have:=(iW h).2.2
  simp only[ac,Bool.and_eq_true,decide_eq_true_eq]at this
  exact this
theorem zo{α:Type}{P:α->Bool}{Q:α->α->Bool}{l:List α}{j:Nat}{hl:j<l.length}(h:bc P Q l j hl=true):P l[j]=true:=by
  unfold bc at h
  exact(Bool.and_eq_true_iff.1 h).1
set_option maxHeartbeats 2000000 in
theorem fR(l:List DEntry):an av 124 [.one (.sl (l.map DEntry.ds))] (rB (cB l)):=by
  refine ai aj func124 rfl call124 ntmps124 (IG results124) λS=>?_;conv=>whnf
  repeat'((first|refine aw0 ?_|refine aw1 ?_|refine aw2 ?_|refine aw3 ?_|refine aw4 ?_|refine aw5 ?_|refine aw6 ?_|refine aw7 ?_|refine aw8 ?_|refine bT ?_|refine bF ?_|exact rr|refine And.intro rfl ?_|refine AB.mk (λh=>?_) (λh=>?_))<;>conv=>whnf)
  · rw[sI ari]
  · have h1:l.length<=2000:=ari
    clear h
    refine AWP.loopS (λk:Nat=>k<=l.length/\∀(j:Nat) (hj:j<k) (hl:j<l.length),bc ca nv l j hl=true) [2,3,7,8,9,10,11,12,13,14,15,16,17,18,19,20,21,22,23,24,25,26,27,28,29,30,31,32,33,34,35,36,37,38,39,40,41,42,43,44,45,46,47,48,49,50,51] (λk=>[(3,vI .i64 (k:Int))]) (λ_=>[]) (λk=>l.length-k) 0 ⟨by omega,by omega⟩ ?_ ae.nil (λk hR=>?_)<;>(conv=>whnf)
    · exact whd
    · obtain⟨hk,hall⟩:=hR
      have hprev:∀h0:0<k,1<=(l[k-1]'(by omega)).index/\(l[k-1]'(by omega)).index<=2000:=λh0=>wt (zo (hall (k-1) Iv Iv))
      repeat'((first|refine aw0 ?_|refine aw1 ?_|refine aw2 ?_|refine aw3 ?_|refine aw4 ?_|refine aw5 ?_|refine aw6 ?_|refine aw7 ?_|refine aw8 ?_|refine bT ?_|refine bF ?_|refine AWP.drawK aj 6 35 hJ ie Iw Iw Iw rfl ?_|refine AIx.mapF ari (λhlt=>?_)|refine AIx.mapP ari ari (λhpv=>?_)|refine AW.i64 (n:=_-_) ari ari ?_|refine AW.i64 (by have:=hprev ari;omega) (by have:=hprev ari;omega) ?_|refine AW.i64 ari ari ?_|refine cP (eY _) ?_|exact rr|refine And.intro rfl ?_|refine AB.mk (λh=>?_) (λh=>?_))<;>conv=>whnf)
      all_goals first
        |(rw[u7 hlt (by first|(refine bO _ ?_;simp_all;done)|(rw[bb _ ari];simp_all[nv];done)|(rw[bd _ ari];simp_all;done)|(rw[bb _ ari];simp_all[nv];omega)|(exfalso;assumption))];done)
        | (refine aN.mk ⟨k + 1, ⟨ari, e8 hall ari (by first | (refine bO _ ?_; simp_all; done) | (rw [bb _ ari]; simp_all [nv]; done) | (rw [bd _ ari]; simp_all; done) | (rw [bb _ ari]; simp_all [nv]; omega) | (exfalso; assumption))⟩, ari, ?_, ae.nil⟩
           exact hds)
        |(rw[sJ h1 (ib hall ari)])
theorem wi{b:DBook}(h:(ac b.base 0 2000&&tOk b.time&& !(b.base==0&&b.time !=0))=false):cg b=false:=by simp only[cg,h,Bool.false_and]
theorem wj{b:DBook}(h:(decide (b.entries.length<=20)&&cB b.entries)=false):cg b=false:=by
  simp only[Bool.and_eq_false_iff]at h
  rcases h with h|h<;>simp only[cg,h,Bool.and_false,Bool.false_and]
theorem BN{x lo hi:Int}(h:(!ac x lo hi)=false):lo<=x/\x<=hi:=by
  have:ac x lo hi=true:=by simpa using h
  simpa only[ac,Bool.and_eq_true,decide_eq_true_eq]using this
set_option maxHeartbeats 2000000 in
theorem ub(b:DBook):an av 92 [.agg b.ds] (rB (cg b)):=by
  rcases he:b.entries with _|⟨e,r⟩
  · have he0:(((b.entries.map DEntry.ds).length:Int)==0)=true:=by simp[he]
    refine ai aj func92 rfl call92 ntmps92 (IG results92) λS=>?_;conv=>whnf
    repeat'((first|refine aw0 ?_|refine aw1 ?_|refine aw2 ?_|refine aw3 ?_|refine aw4 ?_|refine aw5 ?_|refine aw6 ?_|refine aw7 ?_|refine aw8 ?_|refine bT ?_|refine bF ?_|refine AWP.drawK aj 3 22 fk ft Iw Iw Iw rfl ?_|refine cP (aI _ _ _) ?_|refine cP (cn _) ?_|refine cP (fR b.entries) ?_|exact rr|refine And.intro rfl ?_|refine AB.mk (λh=>?_) (λh=>?_))<;>conv=>whnf)
    all_goals
      refine bK ?_
      first
        |(rw[wi (by first|(simp_all[tOk];done)|(exfalso;assumption))];done)
        |(rw[wj (by first|(simp_all;done)|(exfalso;assumption))];done)
        |(simp_all[cg,tOk];done)
  · have he0:(((b.entries.map DEntry.ds).length:Int)==0)=false:=by simp[he];omega
    have i0:∀{K:Nat->List AD->Prop},K 0 e.ds->AIx (b.entries.map DEntry.ds) 0 K:=λh=>AIx.at 0 _ rfl (by rw[he];rfl) h
    refine ai aj func92 rfl call92 ntmps92 (IG results92) λS=>?_;conv=>whnf
    repeat'((first|refine aw0 ?_|refine aw1 ?_|refine aw2 ?_|refine aw3 ?_|refine aw4 ?_|refine aw5 ?_|refine aw6 ?_|refine aw7 ?_|refine aw8 ?_|refine bT ?_|refine bF ?_|refine AWP.drawK aj 3 22 fk ft Iw Iw Iw rfl ?_|refine i0 ?_|refine AW.i64 (by have:=BN (x:=b.base) Iz;omega) (by have:=BN (x:=b.base) Iz;omega) ?_|refine cP (aI _ _ _) ?_|refine cP (cn _) ?_|refine cP (fR b.entries) ?_|exact rr|refine And.intro rfl ?_|refine AB.mk (λh=>?_) (λh=>?_))<;>conv=>whnf)
    all_goals
      refine bK ?_
      first
        |(rw[wi (by first|(simp_all[tOk];done)|(exfalso;assumption))];done)
        |(rw[wj (by simp only[Bool.and_eq_false_iff,decide_eq_false_iff_not];first|(exact .inl ari)|(refine .inr ?_;simp_all;done)|(exfalso;assumption))];done)
        | (have hlen : b.entries.length ≤ 20 := ari
           simp_all[cg,tOk];done)
        | (have hlen : b.entries.length ≤ 20 := ari
           simp_all[cg,tOk];intros;omega)
theorem ed(x:Int):an av 44 [pI x] (rB (gL x)):=by
  refine ai aj func44 rfl call44 ntmps44 (IG results44) λS=>?_;conv=>whnf
  repeat'((first|refine aw0 ?_|refine aw1 ?_|refine aw2 ?_|refine aw3 ?_|refine aw4 ?_|refine aw5 ?_|refine aw6 ?_|refine aw7 ?_|refine aw8 ?_|refine bT ?_|refine bF ?_|exact rr|refine And.intro rfl ?_|refine AB.mk (λh=>?_) (λh=>?_))<;>conv=>whnf)
  all_goals
    refine bK ?_
    simp_all[gL]
theorem pj(x:Int):an av 160 [pI x] (rB (gL x)):=by
  refine ai aj func160 rfl call160 ntmps160 (IG results160) λS=>?_;conv=>whnf
  repeat'((first|refine aw0 ?_|refine aw1 ?_|refine aw2 ?_|refine aw3 ?_|refine aw4 ?_|refine aw5 ?_|refine aw6 ?_|refine aw7 ?_|refine aw8 ?_|refine bT ?_|refine bF ?_|exact rr|refine And.intro rfl ?_|refine AB.mk (λh=>?_) (λh=>?_))<;>conv=>whnf)
  all_goals
    refine bK ?_
    simp_all[gL]
theorem pk(p:DPair):an av 158 [.agg p.ds] (rB (eA p)):=by
  refine ai aj func158 rfl call158 ntmps158 (IG results158) λS=>?_;conv=>whnf
  repeat'((first|refine aw0 ?_|refine aw1 ?_|refine aw2 ?_|refine aw3 ?_|refine aw4 ?_|refine aw5 ?_|refine aw6 ?_|refine aw7 ?_|refine aw8 ?_|refine bT ?_|refine bF ?_|refine cP (aI _ _ _) ?_|exact rr|refine And.intro rfl ?_|refine AB.mk (λh=>?_) (λh=>?_))<;>conv=>whnf)
  all_goals
    refine bK ?_
    simp_all[eA]
theorem xm(p:DJob):an av 159 [.agg p.ds] (rB (oU p)):=by
  refine ai aj func159 rfl call159 ntmps159 (IG results159) λS=>?_;conv=>whnf
  repeat'((first|refine aw0 ?_|refine aw1 ?_|refine aw2 ?_|refine aw3 ?_|refine aw4 ?_|refine aw5 ?_|refine aw6 ?_|refine aw7 ?_|refine aw8 ?_|refine bT ?_|refine bF ?_|refine cP (aI _ _ _) ?_|refine cP (aI _ _ _) ?_|refine cP (aI _ _ _) ?_|refine cP (aI _ _ _) ?_|refine cP (aI _ _ _) ?_|exact rr|refine And.intro rfl ?_|refine AB.mk (λh=>?_) (λh=>?_))<;>conv=>whnf)
  all_goals
    refine bK ?_
    simp_all[oU,tOk]
theorem rV(l:DLease):an av 133 [.agg l.ds] (rB (lR l)):=by
  refine ai aj func133 rfl call133 ntmps133 (IG results133) λS=>?_;conv=>whnf
  repeat'((first|refine aw0 ?_|refine aw1 ?_|refine aw2 ?_|refine aw3 ?_|refine aw4 ?_|refine aw5 ?_|refine aw6 ?_|refine aw7 ?_|refine aw8 ?_|refine bT ?_|refine bF ?_|refine AOp.eqs (oR l ⟨0,0,0⟩) rfl rfl rfl rfl rfl ?_|refine cP (ed _) ?_|refine cP (aI _ _ _) ?_|exact rr|refine And.intro rfl ?_|refine AB.mk (λh=>?_) (λh=>?_))<;>conv=>whnf)
  all_goals
    refine bK ?_
    simp_all[lR]
end Go.Proofs.YtnlhpdbijmnkhaaGreatDoor
namespace Go.Proofs.YtnlhpdbijmnkhaaGreatDoor
open Go.Proofs.Tryz
open Go.ChangeShapes Go.WideShapes Go.RowKit
def jR:List (List Nat):=cX [0,0,66,12417,1052803,84680772,6509830341,486455906566,35601001230663,2564407968416136,182422449173582281,182422449173582281,13999180165260796426,52618275474038576948044,4288879672174217859985995,293509766337849470854157070,182422449173582281,182422449173582281,1264882412050882003602,91064803784577456042577,6125581572444402321761427,21562377499414133437229216269637330004,861465659700316375104696408283190444944,38541007621463622645425237766647173386762]
def j9:List (List Nat):=dQ 21 [6,2,4,13,40,121,364,1093,3280,9841,10418753182,10417454104,10417631251,10418103643,10419697966,10424480935,301297522,129110638,215204080,602624569,1764886036]
def kL:List (List Nat):=cX [0,0,66,12417,1052803,84680772,6509830341,486455906566,35601001230663,2564407968416136,182422449173582281,182422449173582281,13999180165260796426,52618275474038576948044,4288879672174217859985995,293509766337849470854157070,182422449173582281,182422449173582281,1264882412050882003602,91064803784577456042577,6125581572444402321761427,21562377499414133437229216269637330004,861465659700316375104696408283190444944,38541007621463622645425237766647173386762]
def kT:List (List Nat):=dQ 21 [6,2,4,13,40,121,364,1093,3280,9841,10418753182,10417454104,10417631251,10418103643,10419697966,10424480935,301297522,129110638,215204080,602624569,1764886036]
def jQ:List (List Nat):=cX [0,0,66,12417,1052803,84680772,6509830341,486455906566,486455906566,2278464078762441,182708393063235976,12827958251716112970,486455906566,486455906566,3685838962315726,274187760494199181,18682637767297758095,963293575337753039564238021456,35894110446290515970994257040012]
def j8:List (List Nat):=dQ 17 [6,2,4,13,40,121,364,128622937,128614189,128618563,128638246,128697295,3718993,1593229,2656111,7439080,21787987]
section
variable {α:Type} {P:α->Bool} {Q R:α->α->Bool} {l:List α}
theorem sv{k:Nat}(hlt:k<l.length)(hd:∀(i j:Nat) (hi:i<j) (hj:j<k) (hl:j<l.length),R (l[i]'(by omega)) l[j]=false)(h:∀(i:Nat) (hi:i<k),R (l[i]'(by omega)) l[k]=false):∀(i j:Nat) (hi:i<j) (hj:j<k+1) (hl:j<l.length),R (l[i]'(by omega)) l[j]=false:=by
  intro i j hi hj hl
  by_cases hjk:j=k
  · subst hjk;exact h i hi
  · exact hd i j hi Iv hl
theorem tJ{k:Nat}(hk:k=l.length)(hd:∀(i j:Nat) (hi:i<j) (hj:j<k) (hl:j<l.length),R (l[i]'(by omega)) l[j]=false):bX R l=true:=iQ λi j hi hl=>hd i j hi Iv hl
end
theorem yV{l:List DPair}{k:Nat}(hk:k<l.length)(h:bc eA jk l k hk=false):cb l=false:=by
  simp only[cb,hH hk h]
theorem xb{l:List DPair}(hc:(l.all eA&&fP jk l)=true):cb l=true:=by simp only[cb,hc]
theorem Cx{l:List DPair}(h:cb l=true):l.length<=10:=by
  simp only[cb,Bool.and_eq_true]at h
  obtain⟨h1,h2⟩:=h
  have key:∀(j:Nat) (hj:j<l.length),(j:Int)<=l[j].key:=by
    intro j
    induction j with
    |zero=>
      intro hj
      have:=lK h1 hj
      simp only[eA,ac,Bool.and_eq_true,decide_eq_true_eq]at this
      omega
    |succ j ih=>
      intro hj
      have:=kA h2 hj
      simp only[jk,decide_eq_true_eq]at this
      have:=ih Iv
      omega
  rcases Nat.lt_or_ge 10 l.length with hl|hl
  · have h5:=key 10 hl
    have:=lK h1 hl
    simp only[eA,ac,Bool.and_eq_true,decide_eq_true_eq]at this
    omega
  · exact hl
theorem xa{l:List DPair}(h:¬l.length<=10):cb l=false:=by
  cases hp:cb l with
  |false=>rfl
  |true=>exact absurd (Cx hp) h
set_option maxHeartbeats 2000000 in
theorem eZ(l:List DPair):an av 131 [.one (.sl (l.map DPair.ds))] (rB (cb l)):=by
  refine ai aj func131 rfl call131 ntmps131 (IG results131) λS=>?_;conv=>whnf
  repeat'((first|refine aw0 ?_|refine aw1 ?_|refine aw2 ?_|refine aw3 ?_|refine aw4 ?_|refine aw5 ?_|refine aw6 ?_|refine aw7 ?_|refine aw8 ?_|refine bT ?_|refine bF ?_|exact rr|refine And.intro rfl ?_|refine AB.mk (λh=>?_) (λh=>?_))<;>conv=>whnf)
  · rw[xa ari]
  · have h1:l.length<=10:=ari
    clear h
    refine AWP.loopS (λk:Nat=>k<=l.length/\∀(j:Nat) (hj:j<k) (hl:j<l.length),bc eA jk l j hl=true) [2,3,7,8,9,10,11,12,13,14,15,16,17,18,19,20,21,22,23,24,25,26,27,28,29,30,31,32,33,34,35,36] (λk=>[(3,vI .i64 (k:Int))]) (λ_=>[]) (λk=>l.length-k) 0 ⟨by omega,by omega⟩ ?_ ae.nil (λk hR=>?_)<;>(conv=>whnf)
    · exact whd
    · obtain⟨hk,hall⟩:=hR
      repeat'((first|refine aw0 ?_|refine aw1 ?_|refine aw2 ?_|refine aw3 ?_|refine aw4 ?_|refine aw5 ?_|refine aw6 ?_|refine aw7 ?_|refine aw8 ?_|refine bT ?_|refine bF ?_|refine AWP.drawK aj 6 21 jR j9 Iw Iw Iw rfl ?_|refine AIx.mapF ari (λhlt=>?_)|refine AIx.mapP ari ari (λhpv=>?_)|refine AW.i64 (n:=_-_) ari ari ?_|refine AW.i64 ari ari ?_|refine cP (pk _) ?_|exact rr|refine And.intro rfl ?_|refine AB.mk (λh=>?_) (λh=>?_))<;>conv=>whnf)
      all_goals first
        |(rw[yV hlt (by first|(refine bO _ ?_;simp_all;done)|(refine bO _ ?_;simp_all[eA];done)|(rw[bb _ ari];simp_all[jk];done)|(rw[bd _ ari];simp_all;done)|(rw[bb _ ari];simp_all[eA,jk];done)|(rw[bd _ ari];simp_all[eA];done)|(exfalso;assumption))];done)
        | (refine aN.mk ⟨k + 1, ⟨ari, e8 hall ari (by first | (refine bO _ ?_; simp_all; done) | (refine bO _ ?_; simp_all [eA]; done) | (rw [bb _ ari]; simp_all [jk]; done) | (rw [bd _ ari]; simp_all; done) | (rw [bb _ ari]; simp_all [eA, jk]; done) | (rw [bd _ ari]; simp_all [eA]; done) | (exfalso; assumption))⟩, ari, ?_, ae.nil⟩
           exact hds)
        |(rw[xb (ib hall ari)])
theorem yF{l:List DJob}(h:¬l.length<=8):cz l=false:=by simp[cz,h]
theorem vo{l:List DJob}{k:Nat}(hk:k<l.length)(h:bc oU ra l k hk=false):cz l=false:=by
  rcases Bool.and_eq_false_iff.1 (hH hk h)with h|h<;>simp only[cz,h,Bool.and_false,Bool.false_and]
theorem yE{l:List DJob}{j k:Nat}(hj:j<k)(hk:k<l.length)(h:mo (l[j]'(by omega)) l[k]=true):cz l=false:=by
  have:=kE (R:=mo) hj hk h
  simp only[cz,this,Bool.and_false]
theorem yG{l:List DJob}(h:l.length<=8)(hc:(l.all oU&&fP ra l)=true)(hd:bX mo l=true):cz l=true:=by
  rw[Bool.and_eq_true]at hc
  simp only[cz,h,hc.1,hc.2,hd,decide_true,Bool.and_self]
theorem Ce{x y:DJob}(h:¬x.fired=y.fired\/y.fired=0):mo x y=false:=by
  simp only[mo,Bool.and_eq_false_iff]
  rcases h with h|h
  · exact .inr (by simpa using h)
  · exact .inl (by simp[h])
set_option maxHeartbeats 4000000 in
theorem fY(l:List DJob):an av 132 [.one (.sl (l.map DJob.ds))] (rB (cz l)):=by
  refine ai aj func132 rfl call132 ntmps132 (IG results132) λS=>?_;conv=>whnf
  repeat'((first|refine aw0 ?_|refine aw1 ?_|refine aw2 ?_|refine aw3 ?_|refine aw4 ?_|refine aw5 ?_|refine aw6 ?_|refine aw7 ?_|refine aw8 ?_|refine bT ?_|refine bF ?_|exact rr|refine And.intro rfl ?_|refine AB.mk (λh=>?_) (λh=>?_))<;>conv=>whnf)
  · rw[yF ari]
  · have h1:l.length<=8:=ari
    clear h
    refine AWP.loopS (λk:Nat=>k<=l.length/\(∀(j:Nat) (hj:j<k) (hl:j<l.length),bc oU ra l j hl=true)/\∀(i j:Nat) (hi:i<j) (hj:j<k) (hl:j<l.length),mo (l[i]'(by omega)) l[j]=false) [2,3,4,8,9,10,11,12,13,14,15,16,17,18,19,20,21,22,23,24,25,26,27,28,29,30,31,32,33,34,35,36,37,38,39,40,41,42,43,44,45,46,47,48,49,50,51,52,53,54,55,56,57,58,59,60,61] (λk=>[(3,vI .i64 (k:Int))]) (λk=>[]) (λk=>l.length-k) 0 ⟨by omega,by omega,by omega⟩ ?_ ae.nil (λk hR=>?_)<;>(conv=>whnf)
    · exact whd
    · obtain⟨hk,hall,hdup⟩:=hR
      repeat'((first|refine aw0 ?_|refine aw1 ?_|refine aw2 ?_|refine aw3 ?_|refine aw4 ?_|refine aw5 ?_|refine aw6 ?_|refine aw7 ?_|refine aw8 ?_|refine bT ?_|refine bF ?_|refine AWP.drawK aj 6 21 kL kT Iw Iw Iw rfl ?_|refine AIx.mapF ari (λhlt=>?_)|refine AIx.mapP ari ari (λhpv=>?_)|refine AW.i64 (n:=_-_) ari ari ?_|refine AW.i64 ari ari ?_|refine cP (xm _) ?_|exact rr|refine And.intro rfl ?_|refine AB.mk (λh=>?_) (λh=>?_))<;>conv=>whnf)
      all_goals first
        |(rw[vo hlt (by first|(refine bO _ ?_;simp_all;done)|(rw[bb _ ari];simp_all[ra];done)|(rw[bd _ ari];simp_all;done)|(exfalso;assumption))];done)
        |(rw[yG h1 (ib hall ari) (tJ ari hdup)];done)
        |skip
      all_goals
        have hkl:k<l.length:=ari
        have hch:bc oU ra l k hkl=true:=(by first|(refine bO _ ?_;simp_all;done)|(rw[bb _ ari];simp_all[ra];done)|(rw[bd _ ari];simp_all;done)|(exfalso;assumption))
        have hfk:0<=l[k].fired:=by
          have:=zo hch
          simp only[oU,ac,Bool.and_eq_true,decide_eq_true_eq]at this
          omega
        refine AWP.loopS (λq:Nat=>q<=k/\∀(i:Nat) (hi:i<q) (hik:i<k),mo (l[i]'(by omega)) l[k]=false) [2,4,38,39,40,41,42,43,44,45,46,47,48,49,50,51,52,53,54,55,56,57,58,59,60,61] (λq=>[(4,vI .i64 (q:Int))]) (λ_=>[]) (λq=>k-q) 0 ⟨by omega,by omega⟩ ?_ ae.nil (λq hQ=>?_)<;>(conv=>whnf)
        · exact whd
        · obtain⟨hq,hno⟩:=hQ
          repeat'((first|refine aw0 ?_|refine aw1 ?_|refine aw2 ?_|refine aw3 ?_|refine aw4 ?_|refine aw5 ?_|refine aw6 ?_|refine aw7 ?_|refine aw8 ?_|refine bT ?_|refine bF ?_|refine AWP.drawK aj 11 17 jQ j8 Iw Iw Iw rfl ?_|refine AIx.mapF (k:=q) ari (λhqt=>?_)|refine AIx.mapF (k:=k) ari (λhlt=>?_)|refine AW.i64 ari ari ?_|exact rr|refine And.intro rfl ?_|refine AB.mk (λh=>?_) (λh=>?_))<;>conv=>whnf)
          all_goals first
            |(rw[yE (j:=q) (k:=k) ari ari (by simp_all[mo];omega)];done)
            | (have hjq : ∀ hqk : q < k, mo (l[q]'(by omega)) l[k] = false := fun hqk => Ce (by first | exact .inl (by simpa using h) | (refine .inr ?_; simp only [gt_iff_lt, decide_eq_false_iff_not] at h; omega))
               refine aN.mk ⟨q+1,⟨ari,λi hi hik=>?_⟩,ari,?_,ae.nil⟩
               · by_cases hiq:i=q
                 · subst hiq;exact hjq hik
                 · exact hno i Iv hik
               · exact hds)
            | (refine aN.mk ⟨k + 1, ⟨ari, e8 hall ari hch, sv ari hdup fun i hi => hno i ari hi⟩, ari, ?_, ae.nil⟩
               exact hds)
end Go.Proofs.YtnlhpdbijmnkhaaGreatDoor
namespace Go.Proofs.YtnlhpdbijmnkhaaGreatDoor
open Go.Proofs.Tryz
open Go.ChangeShapes Go.WideShapes Go.RowKit
def jS:List (List Nat):=cX [0,1,0,8259,1060930,84414660,0,7,26666395521543]
def ka:List (List Nat):=dQ 8 [5850,5851,5840,5845,5872,5953,728,1457]
def hN:List (List Nat):=cX [0,0,66,12417,0,0,326,29061,17663105454471]
def ig:List (List Nat):=dQ 8 [6486,6482,6484,6493,566,242,404,1133]
def iS:List (List Nat):=cX [0,0,66,12417,0,0,326,29061,17663105454471]
def iZ:List (List Nat):=dQ 8 [6486,6482,6484,6493,566,242,404,1133]
theorem A6{s:DState}(h:(ac s.index 0 2000&&tOk s.time&&cb s.pairs&&cz s.jobs&&lR s.lease)=false):cv s=false:=by simp only[cv,h,Bool.false_and]
theorem A7{s:DState}{k:Nat}(hk:k<s.jobs.length)(h:decide (s.jobs[k].fired<=s.index)=false):cv s=false:=by
  have:=kD (p:=λj:DJob=>decide (j.fired<=s.index)) hk h
  simp only[cv,this,Bool.and_false]
theorem xE{s:DState}(h:(ac s.index 0 2000&&tOk s.time&&cb s.pairs&&cz s.jobs&&lR s.lease)=true)(hj:s.jobs.all (λj=>decide (j.fired<=s.index))=true):cv s=true:=by simp only[cv,h,hj,Bool.and_self]
theorem Dh{l:List DJob}(h:cz l=true):l.length<=8:=by
  simp only[cz,Bool.and_eq_true,decide_eq_true_eq]at h
  exact h.1.1.1
theorem e7(s:DState)(hs:s.pairs.length<=9223372036854775806):an av 102 [.agg s.ds] (rB (cv s)):=by
  refine ai aj func102 rfl call102 ntmps102 (IG results102) λS=>?_;conv=>whnf
  repeat'((first|refine aw0 ?_|refine aw1 ?_|refine aw2 ?_|refine aw3 ?_|refine aw4 ?_|refine aw5 ?_|refine aw6 ?_|refine aw7 ?_|refine aw8 ?_|refine bT ?_|refine bF ?_|refine cP (aI _ _ _) ?_|refine cP (si _) ?_|refine cP (eZ s.pairs) ?_|refine cP (fY s.jobs) ?_|refine cP (rV s.lease) ?_|exact rr|refine And.intro rfl ?_|refine AB.mk (λh=>?_) (λh=>?_))<;>conv=>whnf)
  all_goals first
    |(rw[A6 (by first|(simp_all[tOk];done)|(exfalso;assumption))];done)
    |skip
  have hyes:(ac s.index 0 2000&&tOk s.time&&cb s.pairs&&cz s.jobs&&lR s.lease)=true:=by simp_all[tOk]
  have h8:s.jobs.length<=8:=Dh (by simp_all)
  refine AWP.loopS (λk:Nat=>k<=s.jobs.length/\∀(j:Nat) (hj:j<k) (hl:j<s.jobs.length),decide (s.jobs[j].fired<=s.index)=true) [2,3,32,33,34,35,36,37,38,39,40,41,42,43,44,45,46,47] (λk=>[(3,vI .i64 (k:Int))]) (λ_=>[(1,.cells 47 (s.ds.map .d))]) (λk=>s.jobs.length-k) 0 ⟨by omega,by omega⟩ ?_ (ae.cons rfl ae.nil) (λk hR=>?_)<;>(conv=>whnf)
  · exact whd
  · obtain⟨hk,hall⟩:=hR
    repeat'((first|refine aw0 ?_|refine aw1 ?_|refine aw2 ?_|refine aw3 ?_|refine aw4 ?_|refine aw5 ?_|refine aw6 ?_|refine aw7 ?_|refine aw8 ?_|refine bT ?_|refine bF ?_|refine AWP.drawK aj 6 8 jS ka Iw Iw Iw rfl ?_|refine AIx.mapF ari (λhlt=>?_)|refine AW.i64 ari ari ?_|exact rr|refine And.intro rfl ?_|refine AB.mk (λh=>?_) (λh=>?_))<;>conv=>whnf)
    all_goals first
      |(rw[A7 (k:=k) ari (by first|(simp_all;done)|(exfalso;assumption))];done)
      | (refine aN.mk ⟨k + 1, ⟨ari, gq (p := fun j : DJob => decide (j.fired ≤ s.index)) hall ari (by simp_all)⟩, ari, ?_, ae.cons rfl ae.nil⟩
         exact hds)
      |(rw[xE hyes (iV (p:=λj:DJob=>decide (j.fired<=s.index)) hall ari)])
theorem nK(a b:List DPair)(ha:a.length<=9223372036854775806):an av 135 [.one (.sl (a.map DPair.ds)),.one (.sl (b.map DPair.ds))] (rB (cb a&&cb b&&decide (a=b))):=by
  refine ai aj func135 rfl call135 ntmps135 (IG results135) λS=>?_;conv=>whnf
  repeat'((first|refine aw0 ?_|refine aw1 ?_|refine aw2 ?_|refine aw3 ?_|refine aw4 ?_|refine aw5 ?_|refine aw6 ?_|refine aw7 ?_|refine aw8 ?_|refine bT ?_|refine bF ?_|refine cP (eZ a) ?_|refine cP (eZ b) ?_|exact rr|refine And.intro rfl ?_|refine AB.mk (λh=>?_) (λh=>?_))<;>conv=>whnf)
  · refine bK ?_
    have e:cb a=false:=by simp_all
    rw[e];rfl
  · refine bK ?_
    have e:cb b=false:=by simp_all
    rw[e,Bool.and_false];rfl
  · rw[yM ID,Bool.and_false]
  · have hlen:a.length=b.length:=ID
    have ea:cb a=true:=by simp_all
    have eb:cb b=true:=by simp_all
    rw[ea,eb]
    refine AWP.loopS (λk:Nat=>k<=a.length/\∀(j:Nat) (hj:j<k) (h1:j<a.length) (h2:j<b.length),a[j]=b[j]) [4,5,21,22,23,24,25,26,27,28,29,30,31,32,33,34,35] (λk=>[(5,vI .i64 (k:Int))]) (λ_=>[]) (λk=>a.length-k) 0 ⟨by omega,by omega⟩ ?_ ae.nil (λk hR=>?_)<;>(conv=>whnf)
    · exact whd
    · obtain⟨hk,hall⟩:=hR
      repeat'((first|refine aw0 ?_|refine aw1 ?_|refine aw2 ?_|refine aw3 ?_|refine aw4 ?_|refine aw5 ?_|refine aw6 ?_|refine aw7 ?_|refine aw8 ?_|refine bT ?_|refine bF ?_|refine AWP.drawK aj 6 8 hN ig Iw Iw Iw rfl ?_|refine AIx.mapF ari (λhlt=>?_)|refine AW.i64 ari ari ?_|refine sG.eqs (ro _ _) rfl rfl rfl rfl rfl ?_|refine AOp.eqs (ro _ _) rfl rfl rfl rfl rfl ?_|exact rr|refine And.intro rfl ?_|refine AB.mk (λh=>?_) (λh=>?_))<;>conv=>whnf)
      all_goals first
        |(rw[Cm (k:=k) ari ari (by first|(simpa using h)|(exfalso;assumption)),Bool.and_false];done)
        | (refine aN.mk ⟨k + 1, ⟨ari, vH hall fun h1 h2 => by simpa using h⟩, ari, ?_, ae.nil⟩
           exact hds)
        | (have hkk : k = a.length := ari
           rw[yu hlen λj h1 h2=>hall j Iv h1 h2];rfl)
theorem pe(a b:List DJob)(ha:a.length<=9223372036854775806):an av 136 [.one (.sl (a.map DJob.ds)),.one (.sl (b.map DJob.ds))] (rB (cz a&&cz b&&decide (a=b))):=by
  refine ai aj func136 rfl call136 ntmps136 (IG results136) λS=>?_;conv=>whnf
  repeat'((first|refine aw0 ?_|refine aw1 ?_|refine aw2 ?_|refine aw3 ?_|refine aw4 ?_|refine aw5 ?_|refine aw6 ?_|refine aw7 ?_|refine aw8 ?_|refine bT ?_|refine bF ?_|refine cP (fY a) ?_|refine cP (fY b) ?_|exact rr|refine And.intro rfl ?_|refine AB.mk (λh=>?_) (λh=>?_))<;>conv=>whnf)
  · refine bK ?_
    have e:cz a=false:=by simp_all
    rw[e];rfl
  · refine bK ?_
    have e:cz b=false:=by simp_all
    rw[e,Bool.and_false];rfl
  · rw[yM ID,Bool.and_false]
  · have hlen:a.length=b.length:=ID
    have ea:cz a=true:=by simp_all
    have eb:cz b=true:=by simp_all
    rw[ea,eb]
    refine AWP.loopS (λk:Nat=>k<=a.length/\∀(j:Nat) (hj:j<k) (h1:j<a.length) (h2:j<b.length),a[j]=b[j]) [4,5,21,22,23,24,25,26,27,28,29,30,31,32,33,34,35] (λk=>[(5,vI .i64 (k:Int))]) (λ_=>[]) (λk=>a.length-k) 0 ⟨by omega,by omega⟩ ?_ ae.nil (λk hR=>?_)<;>(conv=>whnf)
    · exact whd
    · obtain⟨hk,hall⟩:=hR
      repeat'((first|refine aw0 ?_|refine aw1 ?_|refine aw2 ?_|refine aw3 ?_|refine aw4 ?_|refine aw5 ?_|refine aw6 ?_|refine aw7 ?_|refine aw8 ?_|refine bT ?_|refine bF ?_|refine AWP.drawK aj 6 8 iS iZ Iw Iw Iw rfl ?_|refine AIx.mapF ari (λhlt=>?_)|refine AW.i64 ari ari ?_|refine sG.eqs (tS _ _) rfl rfl rfl rfl rfl ?_|refine AOp.eqs (tS _ _) rfl rfl rfl rfl rfl ?_|exact rr|refine And.intro rfl ?_|refine AB.mk (λh=>?_) (λh=>?_))<;>conv=>whnf)
      all_goals first
        |(rw[Cm (k:=k) ari ari (by first|(simpa using h)|(exfalso;assumption)),Bool.and_false];done)
        | (refine aN.mk ⟨k + 1, ⟨ari, vH hall fun h1 h2 => by simpa using h⟩, ari, ?_, ae.nil⟩
           exact hds)
        | (have hkk : k = a.length := ari
           rw[yu hlen λj h1 h2=>hall j Iv h1 h2];rfl)
theorem gN{s:DState}(h:cv s=true):cb s.pairs=true/\cz s.jobs=true:=by
  simp only[cv,Bool.and_eq_true]at h
  exact⟨h.1.1.1.2,h.1.1.2⟩
theorem nL(a b:DState)(ha:a.pairs.length<=9223372036854775806)(hb:b.pairs.length<=9223372036854775806)(hj:a.jobs.length<=9223372036854775806):an av 104 [.agg a.ds,.agg b.ds] (rB (cv a&&cv b&&decide (a=b))):=by
  refine ai aj func104 rfl call104 ntmps104 (IG results104) λS=>?_;conv=>whnf
  repeat'((first|refine aw0 ?_|refine aw1 ?_|refine aw2 ?_|refine aw3 ?_|refine aw4 ?_|refine aw5 ?_|refine aw6 ?_|refine aw7 ?_|refine aw8 ?_|refine bT ?_|refine bF ?_|refine cP (e7 a ha) ?_|refine cP (e7 b hb) ?_|refine cP (nK a.pairs b.pairs ha) ?_|refine cP (pe a.jobs b.jobs hj) ?_|refine AOp.eqs (oR a.lease b.lease) rfl rfl rfl rfl rfl ?_|exact rr|refine And.intro rfl ?_|refine AB.mk (λh=>?_) (λh=>?_))<;>conv=>whnf)
  all_goals
    refine bK ?_
    obtain⟨i1,t1,p1,j1,l1⟩:=a
    obtain⟨i2,t2,p2,j2,l2⟩:=b
    first
      | (have q1 := gN (s := ⟨i1, t1, p1, j1, l1⟩) Iz
         have q2:=gN (s:=⟨i2,t2,p2,j2,l2⟩) Iz
         simp_all[DState.mk.injEq];done)
      | (have q1 := gN (s := ⟨i1, t1, p1, j1, l1⟩) Iz
         have q2:=gN (s:=⟨i2,t2,p2,j2,l2⟩) Iz
         simp_all[DState.mk.injEq];rw[Bool.eq_iff_iff];simp;done)
      |(simp_all[DState.mk.injEq];done)
      |(simp_all[DState.mk.injEq];rw[Bool.eq_iff_iff];simp;done)
theorem pc:an av 105 [] (.val (.agg fG.ds)):=by
  refine ai aj func105 rfl call105 ntmps105 (IG results105) λS=>?_;conv=>whnf
  repeat'((first|refine aw0 ?_|refine aw1 ?_|refine aw2 ?_|refine aw3 ?_|refine aw4 ?_|refine aw5 ?_|refine aw6 ?_|refine aw7 ?_|refine aw8 ?_|refine bT ?_|refine bF ?_|exact rr|refine And.intro rfl ?_|refine AB.mk (λh=>?_) (λh=>?_))<;>conv=>whnf)
  all_goals rfl
theorem A8{s:DStore}{b:Bool}(h:(pJ s.disk&&cv s.state&&ac s.num 0 1000000000&&ac s.last 0 s.state.index&&((s.num==0)==(s.last==0))&&(s.busy==0||(decide (s.num<1000000000)&&decide (s.last<s.busy)&&decide (s.busy<=s.state.index))))=b):b=l3 s:=h.symm
theorem rZ(s:DStore)(hs:s.state.pairs.length<=9223372036854775806):an av 66 [.agg s.ds] (rB (l3 s)):=by
  refine ai aj func66 rfl call66 ntmps66 (IG results66) λS=>?_;conv=>whnf
  repeat'((first|refine aw0 ?_|refine aw1 ?_|refine aw2 ?_|refine aw3 ?_|refine aw4 ?_|refine aw5 ?_|refine aw6 ?_|refine aw7 ?_|refine aw8 ?_|refine bT ?_|refine bF ?_|refine AW.i64 (by simp_all[ac,cv];omega) (by simp_all[ac,cv];omega) ?_|refine cP (rY s.disk) ?_|refine cP (e7 s.state hs) ?_|refine cP (aI _ _ _) ?_|exact rr|refine And.intro rfl ?_|refine AB.mk (λh=>?_) (λh=>?_))<;>conv=>whnf)
  all_goals
    refine bK (A8 ?_)
    first
      |(simp_all;done)
      |(simp_all;omega)
      |(simp_all[ac];rw[Bool.eq_iff_iff];simp;omega)
end Go.Proofs.YtnlhpdbijmnkhaaGreatDoor
namespace Go.Proofs.YtnlhpdbijmnkhaaGreatDoor
open Go.Proofs.Tryz
open Go.ChangeShapes Go.WideShapes Go.RowKit
def jT:List (List Nat):=cX [0,0,66,12417,1052803,84680772,6509830341,486455906566,35601001230663,35601001230663,164122109978632714,12864558999848899017,895947530576690971275,62214096053295717315148,4288581010608110333633229,156574859254327662432785166,20081510041707290985360540040,1356899553734770709485945406352,92556059859101783530825705349649,6252694090949133134287064896955410,421307336513768724428412551479985235,421307336513768724428412551479985235,29643188329088893724478127479572726932,115973981525213093280048416437421598131670,8484542429884486294578280036455145361446101,421307336513768724428412551479985235,421307336513768724428412551479985235,2237446419982627661829974766124422735131,154770370026833647458333021132891313214682,9478136593377203285270784258858039974432863023376092,728993587567459518691010934350707305400695727828841817,31086994452182876006794359805922655292521215753823303454,1679760286856737015412416772989889414138560113444105565332]
def kb:List (List Nat):=dQ 29 [6,2,4,13,40,121,364,1093,42646,16402,29524,88573,265720,797161,2391484,7174453,21523360,64570081,193710244,581130733,67868514973264,67791805716442,67802266069645,67830160344853,67924303523680,5929276873900,2540122436128,4234699655014,11860297140001]
def iT:List (List Nat):=cX [0,0,66,12417,1052803,0,0,391,33222,2384328,90925286754906505]
def i6:List (List Nat):=dQ 10 [58812,58808,58810,58819,58846,1700,728,1214,3401,9962]
theorem mt(x y:DDue):an av 170 [.agg x.ds,.agg y.ds] (rB (nn x y)):=by
  refine ai aj func170 rfl call170 ntmps170 (IG results170) λS=>?_;conv=>whnf
  repeat'((first|refine aw0 ?_|refine aw1 ?_|refine aw2 ?_|refine aw3 ?_|refine aw4 ?_|refine aw5 ?_|refine aw6 ?_|refine aw7 ?_|refine aw8 ?_|refine bT ?_|refine bF ?_|exact rr|refine And.intro rfl ?_|refine AB.mk (λh=>?_) (λh=>?_))<;>conv=>whnf)
  all_goals
    refine bK ?_
    first
      |(simp_all[nn];done)
      |(simp_all[nn];omega)
def ew(l:List DDue):Bool:=decide (l.length<=8)&&l.all jC&&fP nn l&&bX oQ l
theorem yD(j:DJobs):nr j=(ac j.index 0 2000&&tOk j.time&&(j.holder==0||gL j.holder)&&ac j.epoch 0 1000&&ac j.til 0 1001000&&ew j.opens):=by simp only[nr,ew,Bool.and_assoc]
theorem w8{l:List DDue}(h:¬l.length<=8):ew l=false:=by simp[ew,h]
theorem sS{l:List DDue}{k:Nat}(hk:k<l.length)(h:bc jC nn l k hk=false):ew l=false:=by
  rcases Bool.and_eq_false_iff.1 (hH hk h)with h|h<;>simp only[ew,h,Bool.and_false,Bool.false_and]
theorem w7{l:List DDue}{j k:Nat}(hj:j<k)(hk:k<l.length)(h:(l[j]'(by omega)).id=l[k].id):ew l=false:=by
  have:=kE (R:=oQ) hj hk (by simp[oQ,h])
  simp only[ew,this,Bool.and_false]
theorem w9{l:List DDue}(h:l.length<=8)(hc:(l.all jC&&fP nn l)=true)(hd:bX oQ l=true):ew l=true:=by
  rw[Bool.and_eq_true]at hc
  simp only[ew,h,hc.1,hc.2,hd,decide_true,Bool.and_self]
set_option maxHeartbeats 4000000 in
theorem se(l:List DDue):an av 161 [.one (.sl (l.map DDue.ds))] (rB (ew l)):=by
  refine ai aj func161 rfl call161 ntmps161 (IG results161) λS=>?_;conv=>whnf
  repeat'((first|refine aw0 ?_|refine aw1 ?_|refine aw2 ?_|refine aw3 ?_|refine aw4 ?_|refine aw5 ?_|refine aw6 ?_|refine aw7 ?_|refine aw8 ?_|refine bT ?_|refine bF ?_|exact rr|refine And.intro rfl ?_|refine AB.mk (λh=>?_) (λh=>?_))<;>conv=>whnf)
  · rw[w8 ari]
  · have h1:l.length<=8:=ari
    clear h
    refine AWP.loopS (λk:Nat=>k<=l.length/\(∀(j:Nat) (hj:j<k) (hl:j<l.length),bc jC nn l j hl=true)/\∀(i j:Nat) (hi:i<j) (hj:j<k) (hl:j<l.length),oQ (l[i]'(by omega)) l[j]=false) [2,3,4,8,9,10,11,12,13,14,15,16,17,18,19,20,21,22,23,24,25,26,27,28,29,30,31,32,33,34,35,36,37,38,39,40,41,42,43,44,45,46,47,48,49,50,51,52,53,54,55,56,57,58,59,60,61,62] (λk=>[(3,vI .i64 (k:Int))]) (λk=>[]) (λk=>l.length-k) 0 ⟨by omega,by omega,by omega⟩ ?_ ae.nil (λk hR=>?_)<;>(conv=>whnf)
    · exact whd
    · obtain⟨hk,hall,hdup⟩:=hR
      repeat'((first|refine aw0 ?_|refine aw1 ?_|refine aw2 ?_|refine aw3 ?_|refine aw4 ?_|refine aw5 ?_|refine aw6 ?_|refine aw7 ?_|refine aw8 ?_|refine bT ?_|refine bF ?_|refine AWP.drawK aj 6 29 jT kb Iw Iw Iw rfl ?_|refine AIx.mapF ari (λhlt=>?_)|refine AIx.mapP ari ari (λhpv=>?_)|refine AW.i64 (n:=_-_) ari ari ?_|refine AW.i64 ari ari ?_|refine cP (zM _) ?_|refine cP (cn _) ?_|refine cP (mt _ _) ?_|exact rr|refine And.intro rfl ?_|refine AB.mk (λh=>?_) (λh=>?_))<;>conv=>whnf)
      all_goals first
        |(rw[sS (k:=k) ari (by first|(refine bO _ ?_;simp_all[jC,tOk];done)|(rw[bb _ ari];simp_all[jC,tOk];done)|(rw[bd _ ari];simp_all[jC,tOk];done)|(exfalso;assumption))];done)
        |(rw[w9 h1 (ib hall ari) (tJ ari hdup)];done)
        |skip
      all_goals
        have hkl:k<l.length:=ari
        have hch:bc jC nn l k hkl=true:=(by first|(refine bO _ ?_;simp_all[jC,tOk];done)|(rw[bb _ ari];simp_all[jC,tOk];done)|(rw[bd _ ari];simp_all[jC,tOk];done)|(exfalso;assumption))
        refine AWP.loopS (λq:Nat=>q<=k/\∀(i:Nat) (hi:i<q) (hik:i<k),oQ (l[i]'(by omega)) l[k]=false) [2,4,47,48,49,50,51,52,53,54,55,56,57,58,59,60,61,62] (λq=>[(4,vI .i64 (q:Int))]) (λ_=>[]) (λq=>k-q) 0 ⟨by omega,by omega⟩ ?_ ae.nil (λq hQ=>?_)<;>(conv=>whnf)
        · exact whd
        · obtain⟨hq,hno⟩:=hQ
          repeat'((first|refine aw0 ?_|refine aw1 ?_|refine aw2 ?_|refine aw3 ?_|refine aw4 ?_|refine aw5 ?_|refine aw6 ?_|refine aw7 ?_|refine aw8 ?_|refine bT ?_|refine bF ?_|refine AWP.drawK aj 11 10 iT i6 Iw Iw Iw rfl ?_|refine AIx.mapF (k:=q) ari (λhqt=>?_)|refine AIx.mapF (k:=k) ari (λhlt=>?_)|refine AW.i64 ari ari ?_|exact rr|refine And.intro rfl ?_|refine AB.mk (λh=>?_) (λh=>?_))<;>conv=>whnf)
          all_goals first
            |(rw[w7 (j:=q) (k:=k) ari ari (by simpa using h)];done)
            | (have hjq : ∀ hqk : q < k, oQ (l[q]'(by omega)) l[k] = false := fun hqk => h
               refine aN.mk ⟨q+1,⟨ari,λi hi hik=>?_⟩,ari,?_,ae.nil⟩
               · by_cases hiq:i=q
                 · subst hiq;exact hjq hik
                 · exact hno i Iv hik
               · exact hds)
            | (refine aN.mk ⟨k + 1, ⟨ari, e8 hall ari hch, sv ari hdup fun i hi => hno i ari hi⟩, ari, ?_, ae.nil⟩
               exact hds)
theorem rU(j:DJobs):an av 137 [.agg j.ds] (rB (nr j)):=by
  rw[yD]
  refine ai aj func137 rfl call137 ntmps137 (IG results137) λS=>?_;conv=>whnf
  repeat'((first|refine aw0 ?_|refine aw1 ?_|refine aw2 ?_|refine aw3 ?_|refine aw4 ?_|refine aw5 ?_|refine aw6 ?_|refine aw7 ?_|refine aw8 ?_|refine bT ?_|refine bF ?_|refine cP (aI _ _ _) ?_|refine cP (cn _) ?_|refine cP (pj _) ?_|refine cP (se j.opens) ?_|exact rr|refine And.intro rfl ?_|refine AB.mk (λh=>?_) (λh=>?_))<;>conv=>whnf)
  all_goals
    refine bK ?_
    simp_all[tOk]
theorem uh(v:DView):an av 106 [.agg v.ds] (rB (nr v.jobs)):=by
  refine ai aj func106 rfl call106 ntmps106 (IG results106) λS=>?_;conv=>whnf
  repeat'((first|refine aw0 ?_|refine aw1 ?_|refine aw2 ?_|refine aw3 ?_|refine aw4 ?_|refine aw5 ?_|refine aw6 ?_|refine aw7 ?_|refine aw8 ?_|refine bT ?_|refine bF ?_|refine cP (rU v.jobs) ?_|exact rr|refine And.intro rfl ?_|refine AB.mk (λh=>?_) (λh=>?_))<;>conv=>whnf)
theorem rX(s:DSched):an av 68 [.agg s.ds] (rB (lx s)):=by
  refine ai aj func68 rfl call68 ntmps68 (IG results68) λS=>?_;conv=>whnf
  repeat'((first|refine aw0 ?_|refine aw1 ?_|refine aw2 ?_|refine aw3 ?_|refine aw4 ?_|refine aw5 ?_|refine aw6 ?_|refine aw7 ?_|refine aw8 ?_|refine bT ?_|refine bF ?_|refine cP (ed _) ?_|refine cP (aI _ _ _) ?_|refine cP (uh s.view) ?_|refine cP (nJ s.op) ?_|refine AOp.eqs (qT s.op op0) rfl rfl rfl rfl rfl ?_|exact rr|refine And.intro rfl ?_|refine AB.mk (λh=>?_) (λh=>?_))<;>conv=>whnf)
  all_goals
    refine bK ?_
    first
      |(simp_all[lx];done)
      |(simp_all[lx,ac];omega)
      | (have hb := BN (x := s.seq) Iz
         simp_all[lx];rw[Bool.eq_iff_iff];simp;omega)
end Go.Proofs.YtnlhpdbijmnkhaaGreatDoor
namespace Go.Proofs.YtnlhpdbijmnkhaaGreatDoor
open Go.Proofs.Tryz
open Go.ChangeShapes Go.WideShapes Go.RowKit
theorem CM{a b:DSched}:a=b↔(a.id=b.id/\a.seq=b.seq/\a.view=b.view/\a.busy=b.busy/\a.op=b.op/\a.index=b.index):=by
  cases a;cases b;simp[DSched.mk.injEq]
theorem jH(s:DSched):an av 69 [.agg s.ds] (rB (decide (s=gn s.id))):=by
  refine ai aj func69 rfl call69 ntmps69 (IG results69) λS=>?_;conv=>whnf
  repeat'((first|refine aw0 ?_|refine aw1 ?_|refine aw2 ?_|refine aw3 ?_|refine aw4 ?_|refine aw5 ?_|refine aw6 ?_|refine aw7 ?_|refine aw8 ?_|refine bT ?_|refine bF ?_|refine AOp.eqs (qT s.op op0) rfl rfl rfl rfl rfl ?_|exact rr|refine And.intro rfl ?_|refine AB.mk (λh=>?_) (λh=>?_))<;>conv=>whnf)
  all_goals
    refine bK ?_
    obtain⟨i,q,⟨⟨a,b,c,d,e,l⟩⟩,u,o,x⟩:=s
    rw[Bool.eq_iff_iff,decide_eq_true_iff,CM]
    simp_all[gn,DView.mk.injEq,DJobs.mk.injEq]
theorem gM(s:DSched)(id:Int)(up:Bool):an av 48 [.agg s.ds,.one (dI id),.one (dB up)] (rB (dw s id up)):=by
  refine ai aj func48 rfl call48 ntmps48 (IG results48) λS=>?_;conv=>whnf
  repeat'((first|refine aw0 ?_|refine aw1 ?_|refine aw2 ?_|refine aw3 ?_|refine aw4 ?_|refine aw5 ?_|refine aw6 ?_|refine aw7 ?_|refine aw8 ?_|refine bT ?_|refine bF ?_|refine cP (rX s) ?_|refine cP (jH s) ?_|exact rr|refine And.intro rfl ?_|refine AB.mk (λh=>?_) (λh=>?_))<;>conv=>whnf)
  all_goals
    refine bK ?_
    first
      |(simp_all[dw];done)
      |(simp_all[dw];rw[Bool.eq_iff_iff];simp;done)
end Go.Proofs.YtnlhpdbijmnkhaaGreatDoor
