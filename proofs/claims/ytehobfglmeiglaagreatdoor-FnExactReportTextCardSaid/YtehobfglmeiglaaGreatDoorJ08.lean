/- J08 -/
import Derived.Test.YtehobfglmeiglaaGreatDoorJ07
set_option linter.unusedVariables false
set_option linter.unusedSimpArgs false
set_option maxRecDepth 100000
namespace Go.Proofs.YtehobfglmeiglaaGreatDoor
open Go.Proofs.Tryz
open Go.ChangeShapes Go.WideShapes Go.RowKit
def lW:List (List Nat):=bk [0,1,129,12354,1056835,84676740,1056835,118231172,26665322041863,1134768093430086,181855382611431556,12754761708654842250,897082460025190097163,62207069026659297682060,3343584253353614966842125,294128918675465597356351755,20021030020780715756263883599,1365703013537723537321053668048,92552189137762482716163519337425,6253257512376522115268511825703954,421307088787603009176274171575202899,28313996392275330746357133022732289172,1898516671747568141635841887855538148565,110443125483137403237505216433409988851030,5635418958822596579205138822285872971191444,564587086099490636614473950026251854670217936,37469106823719603088584564090313169416107664665,2502417586506266075212044488010407714368280114202,166086206217779181436482113366003741044095335351899,9822301539197151632053911968891055483416127646062300,728993855799396224617265167324643205015392353977938970,48135989065351172313560208207668612243119544957039654686,3185206474464501740293399682312610373172162832886605350559,210225060567942940234648904291143782914937380544563676825504,48135989065351172313560208207668612243119544957039654686,3479445618310752401098202311525469736426960744345856968351,56782137714963027777476425173270074103077862885205941626869782819,3307879980740750269472028025262199455838458345742192669664375609378,259753630549600233854268194224637409062141341103974644176737148929695]
def mn:List (List Nat):=bj 36 [0,1,4,13,5872,5953,688,1417,3280,9841,29524,88573,265720,797161,2391484,7174453,21523360,64570081,193710244,581130733,1743392200,5230176601,15690529804,47071589413,141214768240,423644304721,1270932914164,3812798742493,11438396227480,34315188682441,102945566047324,133726290295474525,134343963691758472,136196983880610313,16368345001524595,33045526701191164]
def lX:List (List Nat):=bk [0,1,129,12354,1056835,84676740,1056835,118231172,26665322041863,1134768093430086,181855382611431556,12754761708654842250,897082460025190097163,62207069026659297682060,3343584253353614966842125,294128918675465597356351755,20021030020780715756263883599,1365703013537723537321053668048,92552189137762482716163519337425,6253257512376522115268511825703954,421307088787603009176274171575202899,28313996392275330746357133022732289172,1898516671747568141635841887855538148565,110443125483137403237505216433409988851030,5635418958822596579205138822285872971191444,564587086099490636614473950026251854670217936,37469106823719603088584564090313169416107664665,2502417586506266075212044488010407714368280114202,166086206217779181436482113366003741044095335351899,9822301539197151632053911968891055483416127646062300,728993855799396224617265167324643205015392353977938970,48135989065351172313560208207668612243119544957039654686,3185206474464501740293399682312610373172162832886605350559,210225060567942940234648904291143782914937380544563676825504,48135989065351172313560208207668612243119544957039654686,3479445618310752401098202311525469736426960744345856968351,56782137714963027777476425173270074103077862885205941626869782819,3307879980740750269472028025262199455838458345742192669664375609378,259753630549600233854268194224637409062141341103974644176737148929695]
def mo:List (List Nat):=bj 36 [0,1,4,13,5872,5953,688,1417,3280,9841,29524,88573,265720,797161,2391484,7174453,21523360,64570081,193710244,581130733,1743392200,5230176601,15690529804,47071589413,141214768240,423644304721,1270932914164,3812798742493,11438396227480,34315188682441,102945566047324,133726290295474525,134343963691758472,136196983880610313,16368345001524595,33045526701191164]
def iH:List (List Nat):=bk [0,1,129,12354,1056835,84676740,6510088389,486455648518,35601017745735,486455648518,486455648518,48795157279047,181850565705495307,15189546776375345546,1044656104332886590157,71807628236732700320398,11278385445905829884100391759,1365702701870957193602211271113,91992659884970490020345055859665,6253257492429849069270505912300114,91992659884970490020345055859665,91992659884970490020345055859665,7226813153405129249619973974028882,28271798680562493533539606337341957590,2071420796274116772237317507662640116821,137922341883931384971496377778297169868184,28949541850973468982765695211891719706339013977,1657192435115095497113500970605844591886664312020,41383069869978927836559590047083950258115905094226,1508365968364301242666976831698768753810796901851463]
def iR:List (List Nat):=bj 26 [0,1,4,13,40,121,364,43028131,43030318,490981,57955,117004,274468,805909,2400232,7183201,21523360,64570081,2538572754172,2538960174661,86975899780,10266642958,20726996161,48621271369,142764450196,425193986677]
def iI:List (List Nat):=bk [0,0,66,12417,1052803,84680772,6509830341,486455906566,35601001230663,2564407968416136,182422449173582281,182422449173582281,822160554281852764812,62287883029590555521611,4283858644125240688419597,182422449173582281,182422449173582281,19763787688295031306,76230107888386803016849,5824017713988326745469520,391734989181538091299054675,26369477958688238684591658004,1293591356378629304695203670506460484821,127036007785422251621959037557723292549967,8445569296257215953576387387155549035771223,8445569296257215953576387387155549035771223,36201531805538086569100693454073813015853331994,2503932969441214093197262479207192424353626936793,166005081416615564379235145645284422234479058060955,8445569296257215953576387387155549035771223,8445569296257215953576387387155549035771223,699453405652716341491412644855793497408590808,2773617297220344702361095891284562476657092167711,195796087992609360784920931321752318744669002225118,12898421758350281060995982921004739401591290752796641,756631666196460698142482546193420365556173837506908686248708002,39883073373398053585232782724680879911596011738233013544591664861,1066442832612415689874107031114871815364000671881775950079007445976,47711456489035996979616188969501934569300316776543366420105979531786]
def iS:List (List Nat):=bj 35 [6,2,4,13,40,121,364,1093,3280,9841,31367094520,31366858324,31366976422,31367507863,31369102186,358693150,43017196,86063917,200855173,588275662,1750537129,5237321530,15690529804,47071589413,49964750513621950,49963620795476026,49964185654548988,49966727520377317,49974353117862304,1715618219353834,205749917326408,411641049421057,960684068340121,2813704257191962,8372764823747485]
def fM:List (List Nat):=bk [0,1,129,12354,1056835,84676740,6510088389,486455648518,35601017745735,2564407951901064,84676740,11878797509,830053032203,47820950793236483723980,4288735575286549884985866,293202737558278136887816974,20081519705384423591025083023,1365643737946223539851067442064,92556060477577120017588236100561,6253253718738666115430432707240978,293202737558278136887816974,26271219901811324965520704143,1725674850522526293866763687723186599317,82529233725716921844038705199813207852180,1758667092263185104645647738334975169692303,562800500986352143573799227579081592014377157]
def fO:List (List Nat):=bj 22 [0,1,4,13,40,1535395,1535638,1536367,1538554,1545115,58927,117976,295123,797161,2391484,27901449661,27915798568,27958845289,28087985452,28475405941,3479609947,6966394348]
def fN:List (List Nat):=bk [0,1,129,12354,1056835,84676740,6510088389,486455648518,35601017745735,2564407951901064,84676740,11878797509,830053032203,47820950793236483723980,4288735575286549884985866,293202737558278136887816974,20081519705384423591025083023,1365643737946223539851067442064,92556060477577120017588236100561,6253253718738666115430432707240978,293202737558278136887816974,26271219901811324965520704143,1725674850522526293866763687723186599317,82529233725716921844038705199813207852180,1758667092263185104645647738334975169692303,562800500986352143573799227579081592014377157]
def fP:List (List Nat):=bj 22 [0,1,4,13,40,1535395,1535638,1536367,1538554,1545115,58927,117976,295123,797161,2391484,27901449661,27915798568,27958845289,28087985452,28475405941,3479609947,6966394348]
set_option maxHeartbeats 2000000 in
theorem m6(hh:DHead)(hs:hh.seen.length<=9223372036854775806):aj av 246 [.agg hh.ds] (rB (dg hh)):=by
  have seen_le6:∀{s:List DMark},aW s=true->s.length<=1000000:=λh=>Nat.le_trans (dc h) Mo
  refine ae ah func246 rfl call246 ntmps246 (MC results246) λS=>?_;conv=>whnf
  repeat'((first|refine aw0 ?_|refine aw1 ?_|refine aw2 ?_|refine aw3 ?_|refine aw4 ?_|refine aw5 ?_|refine aw6 ?_|refine aw7 ?_|refine aw8 ?_|refine bT ?_|refine bF ?_|refine AWP.drawK ah 1 36 lW mn Mp Mp Mp rfl ?_|refine cP (aq _ _ _) ?_|refine cP (bm _) ?_|refine cP (gm hh.seen hs) ?_|refine cP (gZ hh.seen (seen_le6 Mt)) ?_|exact rr|refine And.intro rfl ?_|refine AB.mk (λh=>?_) (λh=>?_))<;>conv=>whnf)
  all_goals
    refine aG ?_
    first
      |(simp_all[dg,tOk];done)
      |(simp_all[dg,tOk];intros;omega)
set_option maxHeartbeats 2000000 in
theorem wl(hh:DHead)(hs:hh.seen.length<=9223372036854775806):aj av 213 [.agg hh.ds] (rB (dg hh)):=by
  have seen_le6:∀{s:List DMark},aW s=true->s.length<=1000000:=λh=>Nat.le_trans (dc h) Mo
  refine ae ah func213 rfl call213 ntmps213 (MC results213) λS=>?_;conv=>whnf
  repeat'((first|refine aw0 ?_|refine aw1 ?_|refine aw2 ?_|refine aw3 ?_|refine aw4 ?_|refine aw5 ?_|refine aw6 ?_|refine aw7 ?_|refine aw8 ?_|refine bT ?_|refine bF ?_|refine AWP.drawK ah 1 36 lX mo Mp Mp Mp rfl ?_|refine cP (aA _ _ _) ?_|refine cP (bL _) ?_|refine cP (bZ hh.seen) ?_|refine cP (ib hh.seen Mt) ?_|exact rr|refine And.intro rfl ?_|refine AB.mk (λh=>?_) (λh=>?_))<;>conv=>whnf)
  all_goals
    refine aG ?_
    first
      |(simp_all[dg,tOk];done)
      |(simp_all[dg,tOk];intros;omega)
theorem nM{l:List DEntry}(h:¬l.length<=2000):ch l=false:=by simp[ch,h]
theorem o8{l:List DEntry}{k:Nat}(hk:k<l.length)(h:aQ bu g9 l k hk=false):ch l=false:=by
  have:=iG hk h
  simp only[ch,Bool.and_assoc]at*
  simp only[this,Bool.and_false]
theorem nN{l:List DEntry}(h:l.length<=2000)(hc:(l.all bu&&gc g9 l)=true):ch l=true:=by
  simp only[ch,Bool.and_assoc,hc,h,decide_true,Bool.and_self]
theorem qJ{e:DEntry}(h:bu e=true):1<=e.index/\e.index<=2000:=by
  have:=(gd h).2.2
  simp only[ai,Bool.and_eq_true,decide_eq_true_eq]at this
  exact this
theorem xf{α:Type}{P:α->Bool}{Q:α->α->Bool}{l:List α}{j:Nat}{hl:j<l.length}(h:aQ P Q l j hl=true):P l[j]=true:=by
  unfold aQ at h
  exact(Bool.and_eq_true_iff.1 h).1
set_option maxHeartbeats 2000000 in
theorem ge(l:List DEntry):aj av 295 [.one (.sl (l.map DEntry.ds))] (rB (ch l)):=by
  refine ae ah func295 rfl call295 ntmps295 (MC results295) λS=>?_;conv=>whnf
  repeat'((first|refine aw0 ?_|refine aw1 ?_|refine aw2 ?_|refine aw3 ?_|refine aw4 ?_|refine aw5 ?_|refine aw6 ?_|refine aw7 ?_|refine aw8 ?_|refine bT ?_|refine bF ?_|exact rr|refine And.intro rfl ?_|refine AB.mk (λh=>?_) (λh=>?_))<;>conv=>whnf)
  · rw[nM ari]
  · have h1:l.length<=2000:=ari
    clear h
    refine AWP.loopS (λk:Nat=>k<=l.length/\∀(j:Nat) (hj:j<k) (hl:j<l.length),aQ bu g9 l j hl=true) [2,3,4,10,11,12,13,14,15,16,17,18,19,20,21,22,23,24,25,26,27,28,29,30,31,32,33,34,35,36,37,38,39,40,41,42,43,44,45] (λk=>[(10,vI .i64 (k:Int))]) (λ_=>[]) (λk=>l.length-k) 0 ⟨by omega,by omega⟩ ?_ ak.nil (λk hR=>?_)<;>(conv=>whnf)
    · exact whd
    · obtain⟨hk,hall⟩:=hR
      have hprev:∀h0:0<k,1<=(l[k-1]'(by omega)).index/\(l[k-1]'(by omega)).index<=2000:=λh0=>qJ (xf (hall (k-1) Mo Mo))
      repeat'((first|refine aw0 ?_|refine aw1 ?_|refine aw2 ?_|refine aw3 ?_|refine aw4 ?_|refine aw5 ?_|refine aw6 ?_|refine aw7 ?_|refine aw8 ?_|refine bT ?_|refine bF ?_|refine AWP.drawK ah 6 26 iH iR Mp Mp Mp rfl ?_|refine AIx.mapF ari (λhlt=>?_)|refine AIx.mapP ari ari (λhpv=>?_)|refine AW.i64 (n:=_-_) ari ari ?_|refine AW.i64 (by have:=hprev ari;omega) (by have:=hprev ari;omega) ?_|refine AW.i64 ari ari ?_|refine cP (fu _) ?_|exact rr|refine And.intro rfl ?_|refine AB.mk (λh=>?_) (λh=>?_))<;>conv=>whnf)
      all_goals first
        |(rw[o8 hlt (by first|(refine aL _ ?_;simp_all;done)|(rw[aC _ ari];simp_all[g9];done)|(rw[aD _ ari];simp_all;done)|(rw[aC _ ari];simp_all[g9];omega)|(exfalso;assumption))];done)
        | (refine aB.mk ⟨k + 1, ⟨ari, cc hall ari (by first | (refine aL _ ?_; simp_all; done) | (rw [aC _ ari]; simp_all [g9]; done) | (rw [aD _ ari]; simp_all; done) | (rw [aC _ ari]; simp_all [g9]; omega) | (exfalso; assumption))⟩, ari, ?_, ak.nil⟩
           exact hds)
        |(rw[nN h1 (dd hall ari)])
set_option maxHeartbeats 2000000 in
theorem gj(l:List DEntry):aj av 231 [.one (.sl (l.map DEntry.ds))] (rB (ch l)):=by
  refine ae ah func231 rfl call231 ntmps231 (MC results231) λS=>?_;conv=>whnf
  repeat'((first|refine aw0 ?_|refine aw1 ?_|refine aw2 ?_|refine aw3 ?_|refine aw4 ?_|refine aw5 ?_|refine aw6 ?_|refine aw7 ?_|refine aw8 ?_|refine bT ?_|refine bF ?_|exact rr|refine And.intro rfl ?_|refine AB.mk (λh=>?_) (λh=>?_))<;>conv=>whnf)
  · rw[nM ari]
  · have h1:l.length<=2000:=ari
    clear h
    refine AWP.loopS (λk:Nat=>k<=l.length/\∀(j:Nat) (hj:j<k) (hl:j<l.length),aQ bu g9 l j hl=true) [2,3,7,8,9,10,11,12,13,14,15,16,17,18,19,20,21,22,23,24,25,26,27,28,29,30,31,32,33,34,35,36,37,38,39,40,41,42,43,44,45,46,47,48,49,50,51] (λk=>[(3,vI .i64 (k:Int))]) (λ_=>[]) (λk=>l.length-k) 0 ⟨by omega,by omega⟩ ?_ ak.nil (λk hR=>?_)<;>(conv=>whnf)
    · exact whd
    · obtain⟨hk,hall⟩:=hR
      have hprev:∀h0:0<k,1<=(l[k-1]'(by omega)).index/\(l[k-1]'(by omega)).index<=2000:=λh0=>qJ (xf (hall (k-1) Mo Mo))
      repeat'((first|refine aw0 ?_|refine aw1 ?_|refine aw2 ?_|refine aw3 ?_|refine aw4 ?_|refine aw5 ?_|refine aw6 ?_|refine aw7 ?_|refine aw8 ?_|refine bT ?_|refine bF ?_|refine AWP.drawK ah 6 35 iI iS Mp Mp Mp rfl ?_|refine AIx.mapF ari (λhlt=>?_)|refine AIx.mapP ari ari (λhpv=>?_)|refine AW.i64 (n:=_-_) ari ari ?_|refine AW.i64 (by have:=hprev ari;omega) (by have:=hprev ari;omega) ?_|refine AW.i64 ari ari ?_|refine cP (fA _) ?_|exact rr|refine And.intro rfl ?_|refine AB.mk (λh=>?_) (λh=>?_))<;>conv=>whnf)
      all_goals first
        |(rw[o8 hlt (by first|(refine aL _ ?_;simp_all;done)|(rw[aC _ ari];simp_all[g9];done)|(rw[aD _ ari];simp_all;done)|(rw[aC _ ari];simp_all[g9];omega)|(exfalso;assumption))];done)
        | (refine aB.mk ⟨k + 1, ⟨ari, cc hall ari (by first | (refine aL _ ?_; simp_all; done) | (rw [aC _ ari]; simp_all [g9]; done) | (rw [aD _ ari]; simp_all; done) | (rw [aC _ ari]; simp_all [g9]; omega) | (exfalso; assumption))⟩, ari, ?_, ak.nil⟩
           exact hds)
        |(rw[nN h1 (dd hall ari)])
theorem oZ{b:DBook}(h:(ai b.base 0 2000&&tOk b.time&& !(b.base==0&&b.time !=0))=false):bd b=false:=by simp only[bd,h,Bool.false_and]
theorem o3{b:DBook}(h:(decide (b.entries.length<=20)&&ch b.entries)=false):bd b=false:=by
  simp only[Bool.and_eq_false_iff]at h
  rcases h with h|h<;>simp only[bd,h,Bool.and_false,Bool.false_and]
theorem vu{x lo hi:Int}(h:(!ai x lo hi)=false):lo<=x/\x<=hi:=by
  have:ai x lo hi=true:=by simpa using h
  simpa only[ai,Bool.and_eq_true,decide_eq_true_eq]using this
set_option maxHeartbeats 2000000 in
theorem m5(b:DBook):aj av 247 [.agg b.ds] (rB (bd b)):=by
  rcases he:b.entries with _|⟨e,r⟩
  · have he0:(((b.entries.map DEntry.ds).length:Int)==0)=true:=by simp[he]
    refine ae ah func247 rfl call247 ntmps247 (MC results247) λS=>?_;conv=>whnf
    repeat'((first|refine aw0 ?_|refine aw1 ?_|refine aw2 ?_|refine aw3 ?_|refine aw4 ?_|refine aw5 ?_|refine aw6 ?_|refine aw7 ?_|refine aw8 ?_|refine bT ?_|refine bF ?_|refine AWP.drawK ah 5 22 fM fO Mp Mp Mp rfl ?_|refine cP (aq _ _ _) ?_|refine cP (bm _) ?_|refine cP (ge b.entries) ?_|exact rr|refine And.intro rfl ?_|refine AB.mk (λh=>?_) (λh=>?_))<;>conv=>whnf)
    all_goals
      refine aG ?_
      first
        |(rw[oZ (by first|(simp_all[tOk];done)|(exfalso;assumption))];done)
        |(rw[o3 MA];done)
        |(simp_all[bd,tOk];done)
  · have he0:(((b.entries.map DEntry.ds).length:Int)==0)=false:=by simp[he];omega
    have i0:∀{K:Nat->List AD->Prop},K 0 e.ds->AIx (b.entries.map DEntry.ds) 0 K:=λh=>AIx.at 0 _ rfl (by rw[he];rfl) h
    refine ae ah func247 rfl call247 ntmps247 (MC results247) λS=>?_;conv=>whnf
    repeat'((first|refine aw0 ?_|refine aw1 ?_|refine aw2 ?_|refine aw3 ?_|refine aw4 ?_|refine aw5 ?_|refine aw6 ?_|refine aw7 ?_|refine aw8 ?_|refine bT ?_|refine bF ?_|refine AWP.drawK ah 5 22 fM fO Mp Mp Mp rfl ?_|refine i0 ?_|refine AW.i64 (by have:=vu (x:=b.base) Mt;omega) (by have:=vu (x:=b.base) Mt;omega) ?_|refine cP (aq _ _ _) ?_|refine cP (bm _) ?_|refine cP (ge b.entries) ?_|exact rr|refine And.intro rfl ?_|refine AB.mk (λh=>?_) (λh=>?_))<;>conv=>whnf)
    all_goals
      refine aG ?_
      first
        |(rw[oZ (by first|(simp_all[tOk];done)|(exfalso;assumption))];done)
        |(rw[o3 (by simp only[Bool.and_eq_false_iff,decide_eq_false_iff_not];first|(exact .inl ari)|(refine .inr ?_;simp_all;done)|(exfalso;assumption))];done)
        | (have hlen : b.entries.length ≤ 20 := ari
           simp_all[bd,tOk];done)
        | (have hlen : b.entries.length ≤ 20 := ari
           simp_all[bd,tOk];intros;omega)
set_option maxHeartbeats 2000000 in
theorem np(b:DBook):aj av 128 [.agg b.ds] (rB (bd b)):=by
  rcases he:b.entries with _|⟨e,r⟩
  · have he0:(((b.entries.map DEntry.ds).length:Int)==0)=true:=by simp[he]
    refine ae ah func128 rfl call128 ntmps128 (MC results128) λS=>?_;conv=>whnf
    repeat'((first|refine aw0 ?_|refine aw1 ?_|refine aw2 ?_|refine aw3 ?_|refine aw4 ?_|refine aw5 ?_|refine aw6 ?_|refine aw7 ?_|refine aw8 ?_|refine bT ?_|refine bF ?_|refine AWP.drawK ah 3 22 fN fP Mp Mp Mp rfl ?_|refine cP (aA _ _ _) ?_|refine cP (bL _) ?_|refine cP (gj b.entries) ?_|exact rr|refine And.intro rfl ?_|refine AB.mk (λh=>?_) (λh=>?_))<;>conv=>whnf)
    all_goals
      refine aG ?_
      first
        |(rw[oZ (by first|(simp_all[tOk];done)|(exfalso;assumption))];done)
        |(rw[o3 MA];done)
        |(simp_all[bd,tOk];done)
  · have he0:(((b.entries.map DEntry.ds).length:Int)==0)=false:=by simp[he];omega
    have i0:∀{K:Nat->List AD->Prop},K 0 e.ds->AIx (b.entries.map DEntry.ds) 0 K:=λh=>AIx.at 0 _ rfl (by rw[he];rfl) h
    refine ae ah func128 rfl call128 ntmps128 (MC results128) λS=>?_;conv=>whnf
    repeat'((first|refine aw0 ?_|refine aw1 ?_|refine aw2 ?_|refine aw3 ?_|refine aw4 ?_|refine aw5 ?_|refine aw6 ?_|refine aw7 ?_|refine aw8 ?_|refine bT ?_|refine bF ?_|refine AWP.drawK ah 3 22 fN fP Mp Mp Mp rfl ?_|refine i0 ?_|refine AW.i64 (by have:=vu (x:=b.base) Mt;omega) (by have:=vu (x:=b.base) Mt;omega) ?_|refine cP (aA _ _ _) ?_|refine cP (bL _) ?_|refine cP (gj b.entries) ?_|exact rr|refine And.intro rfl ?_|refine AB.mk (λh=>?_) (λh=>?_))<;>conv=>whnf)
    all_goals
      refine aG ?_
      first
        |(rw[oZ (by first|(simp_all[tOk];done)|(exfalso;assumption))];done)
        |(rw[o3 (by simp only[Bool.and_eq_false_iff,decide_eq_false_iff_not];first|(exact .inl ari)|(refine .inr ?_;simp_all;done)|(exfalso;assumption))];done)
        | (have hlen : b.entries.length ≤ 20 := ari
           simp_all[bd,tOk];done)
        | (have hlen : b.entries.length ≤ 20 := ari
           simp_all[bd,tOk];intros;omega)
theorem aU(x:Int):aj av 182 [pI x] (rB (dm x)):=by
  refine ae ah func182 rfl call182 ntmps182 (MC results182) λS=>?_;conv=>whnf
  repeat'((first|refine aw0 ?_|refine aw1 ?_|refine aw2 ?_|refine aw3 ?_|refine aw4 ?_|refine aw5 ?_|refine aw6 ?_|refine aw7 ?_|refine aw8 ?_|refine bT ?_|refine bF ?_|exact rr|refine And.intro rfl ?_|refine AB.mk (λh=>?_) (λh=>?_))<;>conv=>whnf)
  all_goals
    refine aG ?_
    simp_all[dm]
theorem ca(x:Int):aj av 65 [pI x] (rB (dm x)):=by
  refine ae ah func65 rfl call65 ntmps65 (MC results65) λS=>?_;conv=>whnf
  repeat'((first|refine aw0 ?_|refine aw1 ?_|refine aw2 ?_|refine aw3 ?_|refine aw4 ?_|refine aw5 ?_|refine aw6 ?_|refine aw7 ?_|refine aw8 ?_|refine bT ?_|refine bF ?_|exact rr|refine And.intro rfl ?_|refine AB.mk (λh=>?_) (λh=>?_))<;>conv=>whnf)
  all_goals
    refine aG ?_
    simp_all[dm]
theorem ro(x:Int):aj av 324 [pI x] (rB (dm x)):=by
  refine ae ah func324 rfl call324 ntmps324 (MC results324) λS=>?_;conv=>whnf
  repeat'((first|refine aw0 ?_|refine aw1 ?_|refine aw2 ?_|refine aw3 ?_|refine aw4 ?_|refine aw5 ?_|refine aw6 ?_|refine aw7 ?_|refine aw8 ?_|refine bT ?_|refine bF ?_|exact rr|refine And.intro rfl ?_|refine AB.mk (λh=>?_) (λh=>?_))<;>conv=>whnf)
  all_goals
    refine aG ?_
    simp_all[dm]
theorem rp(p:DPair):aj av 323 [.agg p.ds] (rB (cA p)):=by
  refine ae ah func323 rfl call323 ntmps323 (MC results323) λS=>?_;conv=>whnf
  repeat'((first|refine aw0 ?_|refine aw1 ?_|refine aw2 ?_|refine aw3 ?_|refine aw4 ?_|refine aw5 ?_|refine aw6 ?_|refine aw7 ?_|refine aw8 ?_|refine bT ?_|refine bF ?_|refine cP (aA _ _ _) ?_|exact rr|refine And.intro rfl ?_|refine AB.mk (λh=>?_) (λh=>?_))<;>conv=>whnf)
  all_goals
    refine aG ?_
    simp_all[cA]
theorem yR(p:DJob):aj av 336 [.agg p.ds] (rB (g5 p)):=by
  refine ae ah func336 rfl call336 ntmps336 (MC results336) λS=>?_;conv=>whnf
  repeat'((first|refine aw0 ?_|refine aw1 ?_|refine aw2 ?_|refine aw3 ?_|refine aw4 ?_|refine aw5 ?_|refine aw6 ?_|refine aw7 ?_|refine aw8 ?_|refine bT ?_|refine bF ?_|refine cP (m8 _) ?_|refine cP (bm _) ?_|refine cP (fR _) ?_|refine cP (dw _) ?_|refine cP (aq _ _ _) ?_|exact rr|refine And.intro rfl ?_|refine AB.mk (λh=>?_) (λh=>?_))<;>conv=>whnf)
  all_goals
    refine aG ?_
    simp_all[g5,tOk]
theorem zG(p:DJob):aj av 232 [.agg p.ds] (rB (g5 p)):=by
  refine ae ah func232 rfl call232 ntmps232 (MC results232) λS=>?_;conv=>whnf
  repeat'((first|refine aw0 ?_|refine aw1 ?_|refine aw2 ?_|refine aw3 ?_|refine aw4 ?_|refine aw5 ?_|refine aw6 ?_|refine aw7 ?_|refine aw8 ?_|refine bT ?_|refine bF ?_|refine cP (aA _ _ _) ?_|refine cP (aA _ _ _) ?_|refine cP (aA _ _ _) ?_|refine cP (aA _ _ _) ?_|refine cP (aA _ _ _) ?_|exact rr|refine And.intro rfl ?_|refine AB.mk (λh=>?_) (λh=>?_))<;>conv=>whnf)
  all_goals
    refine aG ?_
    simp_all[g5,tOk]
theorem vU(p:DJob):aj av 179 [.agg p.ds] (rB (p.fired !=0)):=by
  refine ae ah func179 rfl call179 ntmps179 (MC results179) λS=>?_;conv=>whnf
  repeat'((first|refine aw0 ?_|refine aw1 ?_|refine aw2 ?_|refine aw3 ?_|refine aw4 ?_|refine aw5 ?_|refine aw6 ?_|refine aw7 ?_|refine aw8 ?_|refine bT ?_|refine bF ?_|exact rr|refine And.intro rfl ?_|refine AB.mk (λh=>?_) (λh=>?_))<;>conv=>whnf)
theorem td(l:DLease):aj av 310 [.agg l.ds] (rB (gi l)):=by
  refine ae ah func310 rfl call310 ntmps310 (MC results310) λS=>?_;conv=>whnf
  repeat'((first|refine aw0 ?_|refine aw1 ?_|refine aw2 ?_|refine aw3 ?_|refine aw4 ?_|refine aw5 ?_|refine aw6 ?_|refine aw7 ?_|refine aw8 ?_|refine bT ?_|refine bF ?_|refine AOp.eqs (gT l ⟨0,0,0⟩) rfl rfl rfl rfl rfl ?_|refine cP (aU _) ?_|refine cP (aq _ _ _) ?_|exact rr|refine And.intro rfl ?_|refine AB.mk (λh=>?_) (λh=>?_))<;>conv=>whnf)
  all_goals
    refine aG ?_
    simp_all[gi]
theorem t8(l:DLease):aj av 280 [.agg l.ds] (rB (gi l)):=by
  refine ae ah func280 rfl call280 ntmps280 (MC results280) λS=>?_;conv=>whnf
  repeat'((first|refine aw0 ?_|refine aw1 ?_|refine aw2 ?_|refine aw3 ?_|refine aw4 ?_|refine aw5 ?_|refine aw6 ?_|refine aw7 ?_|refine aw8 ?_|refine bT ?_|refine bF ?_|refine AOp.eqs (gT l ⟨0,0,0⟩) rfl rfl rfl rfl rfl ?_|refine cP (ca _) ?_|refine cP (aA _ _ _) ?_|exact rr|refine And.intro rfl ?_|refine AB.mk (λh=>?_) (λh=>?_))<;>conv=>whnf)
  all_goals
    refine aG ?_
    simp_all[gi]
end Go.Proofs.YtehobfglmeiglaaGreatDoor
namespace Go.Proofs.YtehobfglmeiglaaGreatDoor
open Go.Proofs.Tryz
open Go.ChangeShapes Go.WideShapes Go.RowKit
def kJ:List (List Nat):=bk [0,1,129,12354,1056835,84676740,6510088389,486455648518,35601017745735,1420639959544200,182422663955222725,12773057508086145546,897118766031192731979,62208239957822901093004,4288655969677198446318285,4288655969677198446318285,313466337178645734394733326,1204729954569468590487283754064,92559813271310657114633183474511,6242955236602553798671150551208978,4288655969677198446318285,410180402747816068371227406,1725675834294886778215531438407583348117,77257557707833936461542131227203264119956,3860419754236959105470024778437602507019022]
def lc:List (List Nat):=bj 22 [0,1,4,13,40,121,364,1093,3280,9841,29524,88573,265720,797161,28011457948,27906232630,27920581537,27958845289,28087985452,28475405941,3484392916,6971177317]
def kL:List (List Nat):=bk [0,0,66,12417,1052803,84680772,6509830341,486455906566,35601001230663,2564407968416136,182422449173582281,182422449173582281,13999180165260796426,52618275474038576948044,4288879672174217859985995,293509766337849470854157070,182422449173582281,182422449173582281,1264882412050882003602,91064803784577456042577,6125581572444402321761427,21562377499414133437229216269637330004,861465659700316375104696408283190444944,38541007621463622645425237766647173386762]
def lg:List (List Nat):=bj 21 [6,2,4,13,40,121,364,1093,3280,9841,10418753182,10417454104,10417631251,10418103643,10419697966,10424480935,301297522,129110638,215204080,602624569,1764886036]
def lY:List (List Nat):=bk [0,1,129,12354,1056835,84676740,6510088389,486455648518,486455648518,39999064256839,145821768686531209,12847112020189266312,894776308733996474955,486455648518,61989296812359,254824363813263363367027662,8763205909596317315049755341,319408860895414673491894493511,91831751014044673068152713384068,6186294686607414347983445638533586,421260980747685069358801479994188051,28309710771426107849250888786753385620,1898513720833013393487523635594353198293,1898513720833013393487523635594353198293,132480250387011640872287906136151209878806,520338360386669057871355545261026994157610584,31851774773379165633433177339471751988059407959,1741287152838076911826374660384069458596716958998]
def mp:List (List Nat):=bj 25 [0,1,4,13,40,121,364,12808165,12760051,12766612,12784108,12843157,13020304,1593229,3187552,7174453,21523360,64570081,193710244,581130733,1743392200,5230176601,768835960420,78452649022,172595827849]
def lZ:List (List Nat):=bk [0,0,66,12417,1052803,84680772,6509830341,486455906566,35601001230663,2564407968416136,182422449173582281,182422449173582281,13999180165260796426,52618275474038576948044,4288879672174217859985995,293509766337849470854157070,182422449173582281,182422449173582281,1264882412050882003602,91064803784577456042577,6125581572444402321761427,21562377499414133437229216269637330004,861465659700316375104696408283190444944,38541007621463622645425237766647173386762]
def mq:List (List Nat):=bj 21 [6,2,4,13,40,121,364,1093,3280,9841,10418753182,10417454104,10417631251,10418103643,10419697966,10424480935,301297522,129110638,215204080,602624569,1764886036]
def kK:List (List Nat):=bk [0,0,66,12417,1052803,84680772,6509830341,486455906566,486455906566,2278464078762441,182708393063235976,12827958251716112970,486455906566,486455906566,3685838962315726,274187760494199181,18682637767297758095,963293575337753039564238021456,35894110446290515970994257040012]
def ld:List (List Nat):=bj 17 [6,2,4,13,40,121,364,128622937,128614189,128618563,128638246,128697295,3718993,1593229,2656111,7439080,21787987]
section
variable {α:Type} {P:α->Bool} {Q R:α->α->Bool} {l:List α}
theorem kj{k:Nat}(hlt:k<l.length)(hd:∀(i j:Nat) (hi:i<j) (hj:j<k) (hl:j<l.length),R (l[i]'(by omega)) l[j]=false)(h:∀(i:Nat) (hi:i<k),R (l[i]'(by omega)) l[k]=false):∀(i j:Nat) (hi:i<j) (hj:j<k+1) (hl:j<l.length),R (l[i]'(by omega)) l[j]=false:=by
  intro i j hi hj hl
  by_cases hjk:j=k
  · subst hjk;exact h i hi
  · exact hd i j hi Mo hl
theorem mY{k:Nat}(hk:k=l.length)(hd:∀(i j:Nat) (hi:i<j) (hj:j<k) (hl:j<l.length),R (l[i]'(by omega)) l[j]=false):bW R l=true:=ju λi j hi hl=>hd i j hi Mo hl
end
theorem tQ{l:List DPair}{k:Nat}(hk:k<l.length)(h:aQ cA e9 l k hk=false):bG l=false:=by
  simp only[bG,iG hk h]
theorem re{l:List DPair}(hc:(l.all cA&&gc e9 l)=true):bG l=true:=by simp only[bG,hc]
theorem EX{l:List DPair}(h:bG l=true):l.length<=10:=by
  simp only[bG,Bool.and_eq_true]at h
  obtain⟨h1,h2⟩:=h
  have key:∀(j:Nat) (hj:j<l.length),(j:Int)<=l[j].key:=by
    intro j
    induction j with
    |zero=>
      intro hj
      have:=mV h1 hj
      simp only[cA,ai,Bool.and_eq_true,decide_eq_true_eq]at this
      omega
    |succ j ih=>
      intro hj
      have:=lN h2 hj
      simp only[e9,decide_eq_true_eq]at this
      have:=ih Mo
      omega
  rcases Nat.lt_or_ge 10 l.length with hl|hl
  · have h5:=key 10 hl
    have:=mV h1 hl
    simp only[cA,ai,Bool.and_eq_true,decide_eq_true_eq]at this
    omega
  · exact hl
theorem zw{l:List DPair}(h:¬l.length<=10):bG l=false:=by
  cases hp:bG l with
  |false=>rfl
  |true=>exact absurd (EX hp) h
set_option maxHeartbeats 2000000 in
theorem fv(l:List DPair)(hs:l.length<=9223372036854775806):aj av 308 [.one (.sl (l.map DPair.ds))] (rB (bG l)):=by
  refine ae ah func308 rfl call308 ntmps308 (MC results308) λS=>?_;conv=>whnf
  repeat'((first|refine aw0 ?_|refine aw1 ?_|refine aw2 ?_|refine aw3 ?_|refine aw4 ?_|refine aw5 ?_|refine aw6 ?_|refine aw7 ?_|refine aw8 ?_|refine bT ?_|refine bF ?_|exact rr|refine And.intro rfl ?_|refine AB.mk (λh=>?_) (λh=>?_))<;>conv=>whnf)
  refine AWP.loopS (λk:Nat=>k<=l.length/\∀(j:Nat) (hj:j<k) (hl:j<l.length),aQ cA e9 l j hl=true) [2,3,4,7,8,9,10,11,12,13,14,15,16,17,18,19,20,21,22,23,24,25,26,27,28,29,30,31,32,33,34,35,36,37] (λk=>[(7,vI .i64 (k:Int))]) (λ_=>[]) (λk=>l.length-k) 0 ⟨by omega,by omega⟩ ?_ ak.nil (λk hR=>?_)<;>(conv=>whnf)
  · exact whd
  · obtain⟨hk,hall⟩:=hR
    repeat'((first|refine aw0 ?_|refine aw1 ?_|refine aw2 ?_|refine aw3 ?_|refine aw4 ?_|refine aw5 ?_|refine aw6 ?_|refine aw7 ?_|refine aw8 ?_|refine bT ?_|refine bF ?_|refine AWP.drawK ah 4 22 kJ lc Mp Mp Mp rfl ?_|refine AIx.mapF ari (λhlt=>?_)|refine AIx.mapP ari ari (λhpv=>?_)|refine AW.i64 (n:=_-_) ari ari ?_|refine AW.i64 ari ari ?_|refine cP (fR _) ?_|refine cP (dw _) ?_|exact rr|refine And.intro rfl ?_|refine AB.mk (λh=>?_) (λh=>?_))<;>conv=>whnf)
    all_goals first
      |(rw[tQ hlt (by first|(refine aL _ ?_;simp_all;done)|(refine aL _ ?_;simp_all[cA];done)|(rw[aC _ ari];simp_all[e9];done)|(rw[aD _ ari];simp_all;done)|(rw[aC _ ari];simp_all[cA,e9];done)|(rw[aD _ ari];simp_all[cA];done)|(exfalso;assumption))];done)
      | (refine aB.mk ⟨k + 1, ⟨ari, cc hall ari (by first | (refine aL _ ?_; simp_all; done) | (refine aL _ ?_; simp_all [cA]; done) | (rw [aC _ ari]; simp_all [e9]; done) | (rw [aD _ ari]; simp_all; done) | (rw [aC _ ari]; simp_all [cA, e9]; done) | (rw [aD _ ari]; simp_all [cA]; done) | (exfalso; assumption))⟩, ari, ?_, ak.nil⟩
         exact hds)
      |(rw[re (dd hall ari)])
set_option maxHeartbeats 2000000 in
theorem fB(l:List DPair):aj av 279 [.one (.sl (l.map DPair.ds))] (rB (bG l)):=by
  refine ae ah func279 rfl call279 ntmps279 (MC results279) λS=>?_;conv=>whnf
  repeat'((first|refine aw0 ?_|refine aw1 ?_|refine aw2 ?_|refine aw3 ?_|refine aw4 ?_|refine aw5 ?_|refine aw6 ?_|refine aw7 ?_|refine aw8 ?_|refine bT ?_|refine bF ?_|exact rr|refine And.intro rfl ?_|refine AB.mk (λh=>?_) (λh=>?_))<;>conv=>whnf)
  · rw[zw ari]
  · have h1:l.length<=10:=ari
    clear h
    refine AWP.loopS (λk:Nat=>k<=l.length/\∀(j:Nat) (hj:j<k) (hl:j<l.length),aQ cA e9 l j hl=true) [2,3,7,8,9,10,11,12,13,14,15,16,17,18,19,20,21,22,23,24,25,26,27,28,29,30,31,32,33,34,35,36] (λk=>[(3,vI .i64 (k:Int))]) (λ_=>[]) (λk=>l.length-k) 0 ⟨by omega,by omega⟩ ?_ ak.nil (λk hR=>?_)<;>(conv=>whnf)
    · exact whd
    · obtain⟨hk,hall⟩:=hR
      repeat'((first|refine aw0 ?_|refine aw1 ?_|refine aw2 ?_|refine aw3 ?_|refine aw4 ?_|refine aw5 ?_|refine aw6 ?_|refine aw7 ?_|refine aw8 ?_|refine bT ?_|refine bF ?_|refine AWP.drawK ah 6 21 kL lg Mp Mp Mp rfl ?_|refine AIx.mapF ari (λhlt=>?_)|refine AIx.mapP ari ari (λhpv=>?_)|refine AW.i64 (n:=_-_) ari ari ?_|refine AW.i64 ari ari ?_|refine cP (rp _) ?_|exact rr|refine And.intro rfl ?_|refine AB.mk (λh=>?_) (λh=>?_))<;>conv=>whnf)
      all_goals first
        |(rw[tQ hlt (by first|(refine aL _ ?_;simp_all;done)|(refine aL _ ?_;simp_all[cA];done)|(rw[aC _ ari];simp_all[e9];done)|(rw[aD _ ari];simp_all;done)|(rw[aC _ ari];simp_all[cA,e9];done)|(rw[aD _ ari];simp_all[cA];done)|(exfalso;assumption))];done)
        | (refine aB.mk ⟨k + 1, ⟨ari, cc hall ari (by first | (refine aL _ ?_; simp_all; done) | (refine aL _ ?_; simp_all [cA]; done) | (rw [aC _ ari]; simp_all [e9]; done) | (rw [aD _ ari]; simp_all; done) | (rw [aC _ ari]; simp_all [cA, e9]; done) | (rw [aD _ ari]; simp_all [cA]; done) | (exfalso; assumption))⟩, ari, ?_, ak.nil⟩
           exact hds)
        |(rw[re (dd hall ari)])
theorem tu{l:List DJob}(h:¬l.length<=8):bo l=false:=by simp[bo,h]
theorem py{l:List DJob}{k:Nat}(hk:k<l.length)(h:aQ g5 nW l k hk=false):bo l=false:=by
  rcases Bool.and_eq_false_iff.1 (iG hk h)with h|h<;>simp only[bo,h,Bool.and_false,Bool.false_and]
theorem tr{l:List DJob}{j k:Nat}(hj:j<k)(hk:k<l.length)(h:gD (l[j]'(by omega)) l[k]=true):bo l=false:=by
  have:=lO (R:=gD) hj hk h
  simp only[bo,this,Bool.and_false]
theorem tv{l:List DJob}(h:l.length<=8)(hc:(l.all g5&&gc nW l)=true)(hd:bW gD l=true):bo l=true:=by
  rw[Bool.and_eq_true]at hc
  simp only[bo,h,hc.1,hc.2,hd,decide_true,Bool.and_self]
theorem y9{l:List DJob}{k:Nat}(hk:k<l.length)(h0:(l[k].fired !=0)=true)(h:decide (l[k].fired∈(l.take k).map (·.fired))=true):bo l=false:=by
  obtain⟨m,hm,e⟩:=List.mem_map.1 (of_decide_eq_true h)
  obtain⟨j,hj,rfl⟩:=List.getElem_of_mem hm
  simp at hj e
  exact tr (j:=j) Mo hk (by simp only[gD,h0,Bool.true_and];simpa using e)
theorem FV{l:List DJob}{k:Nat}(hk:k<l.length)(h:(l[k].fired !=0)=false\/decide (l[k].fired∈(l.take k).map (·.fired))=false){i:Nat}(hi:i<k):gD (l[i]'(by omega)) l[k]=false:=by
  rcases h with h|h
  · simp only[gD,h,Bool.false_and]
  · have:=of_decide_eq_false h
    simp only[gD,Bool.and_eq_false_iff]
    refine .inr ?_
    simp only[beq_eq_false_iff_ne,ne_eq]
    intro e
    refine this (List.mem_map.2 ⟨l[i],?_,e⟩)
    rw[List.mem_take_iff_getElem]
    exact⟨i,by omega,rfl⟩
theorem EM{x y:DJob}(h:¬x.fired=y.fired\/y.fired=0):gD x y=false:=by
  simp only[gD,Bool.and_eq_false_iff]
  rcases h with h|h
  · exact .inr (by simpa using h)
  · exact .inl (by simp[h])
theorem BB{l:List DJob}{k:Nat}(hlt:k<l.length):((l.take k).map (·.fired))++[l[k].fired]=(l.take (k+1)).map (·.fired):=(em (λm:DJob=>m.fired) hlt).symm
theorem uE{j:DJob}(h:(!g5 j)=false):(Lit.int .i64 j.fired).wf=true:=by
  have:g5 j=true:=by simpa using h
  simp only[g5,ai,Bool.and_eq_true,decide_eq_true_eq]at this
  exact m4 Mo Mo
set_option maxHeartbeats 4000000 in
theorem gl(l:List DJob):aj av 309 [.one (.sl (l.map DJob.ds))] (rB (bo l)):=by
  refine ae ah func309 rfl call309 ntmps309 (MC results309) λS=>?_;conv=>whnf
  repeat'((first|refine aw0 ?_|refine aw1 ?_|refine aw2 ?_|refine aw3 ?_|refine aw4 ?_|refine aw5 ?_|refine aw6 ?_|refine aw7 ?_|refine aw8 ?_|refine bT ?_|refine bF ?_|refine AOp.makeSet rfl rfl ?_|exact rr|refine And.intro rfl ?_|refine AB.mk (λh=>?_) (λh=>?_))<;>conv=>whnf)
  · rw[tu ari]
  · have h1:l.length<=8:=ari
    clear h
    refine AWP.loopS (λk:Nat=>k<=l.length/\(∀(j:Nat) (hj:j<k) (hl:j<l.length),aQ g5 nW l j hl=true)/\∀(i j:Nat) (hi:i<j) (hj:j<k) (hl:j<l.length),gD (l[i]'(by omega)) l[j]=false) [2,4,5,12,13,14,15,16,17,18,19,20,21,22,23,24,25,26,27,28,29,30,31,32,33,34,35,36,37,38,39,40,41,42,43,44,45,46,47,48] (λk=>[(12,vI .i64 (k:Int))]) (λk=>[(9,dF Tryz.prog 2 k (fk ((l.take k).map (·.fired))))]) (λk=>l.length-k) 0 ⟨by omega,by omega,by omega⟩ ?_ (ak.cons rfl ak.nil) (λk hR=>?_)<;>(conv=>whnf)
    · exact whd
    · obtain⟨hk,hall,hdup⟩:=hR
      repeat'((first|refine aw0 ?_|refine aw1 ?_|refine aw2 ?_|refine aw3 ?_|refine aw4 ?_|refine aw5 ?_|refine aw6 ?_|refine aw7 ?_|refine aw8 ?_|refine bT ?_|refine bF ?_|refine AWP.drawK ah 7 25 lY mp Mp Mp Mp rfl ?_|refine AIx.mapF ari (λhlt=>?_)|refine AIx.mapP ari ari (λhpv=>?_)|refine AW.i64 (n:=_-_) ari ari ?_|refine AW.i64 ari ari ?_|refine cP (yR _) ?_|refine cP (vU _) ?_|refine il.lookSet (id:=9) (N:=k) rfl rfl rfl rfl (uE Mt) ?_|refine AOp.lookSet (id:=9) (N:=k) rfl rfl rfl rfl (uE Mt) ?_|refine AOp.putSet (id:=9) (N:=k) rfl Mo rfl rfl rfl (uE Mt) ?_|exact rr|refine And.intro rfl ?_|refine AB.mk (λh=>?_) (λh=>?_))<;>conv=>whnf)
      all_goals first
        |(rw[py hlt (by first|(refine aL _ ?_;simp_all;done)|(rw[aC _ ari];simp_all[nW];done)|(rw[aD _ ari];simp_all;done)|(exfalso;assumption))];done)
        |(rw[y9 hlt Mt Mt];done)
        | (refine aB.mk ⟨k + 1, ⟨ari, cc hall ari (by first | (refine aL _ ?_; simp_all; done) | (rw [aC _ ari]; simp_all [nW]; done) | (rw [aD _ ari]; simp_all; done) | (exfalso; assumption)), kj ari hdup fun i hi => FV ari (by first | exact .inl Mt | exact .inr Mt) hi⟩, ari, ?_, ak.cons (congrArg some (congrArg (fun l => dF Tryz.prog 2 (k + 1) (fk l)) (BB ari))) ak.nil⟩
           exact hds)
        |(rw[tv h1 (dd hall ari) (mY ari hdup)])
set_option maxHeartbeats 4000000 in
theorem eJ(l:List DJob):aj av 130 [.one (.sl (l.map DJob.ds))] (rB (bo l)):=by
  refine ae ah func130 rfl call130 ntmps130 (MC results130) λS=>?_;conv=>whnf
  repeat'((first|refine aw0 ?_|refine aw1 ?_|refine aw2 ?_|refine aw3 ?_|refine aw4 ?_|refine aw5 ?_|refine aw6 ?_|refine aw7 ?_|refine aw8 ?_|refine bT ?_|refine bF ?_|exact rr|refine And.intro rfl ?_|refine AB.mk (λh=>?_) (λh=>?_))<;>conv=>whnf)
  · rw[tu ari]
  · have h1:l.length<=8:=ari
    clear h
    refine AWP.loopS (λk:Nat=>k<=l.length/\(∀(j:Nat) (hj:j<k) (hl:j<l.length),aQ g5 nW l j hl=true)/\∀(i j:Nat) (hi:i<j) (hj:j<k) (hl:j<l.length),gD (l[i]'(by omega)) l[j]=false) [2,3,4,8,9,10,11,12,13,14,15,16,17,18,19,20,21,22,23,24,25,26,27,28,29,30,31,32,33,34,35,36,37,38,39,40,41,42,43,44,45,46,47,48,49,50,51,52,53,54,55,56,57,58,59,60,61] (λk=>[(3,vI .i64 (k:Int))]) (λk=>[]) (λk=>l.length-k) 0 ⟨by omega,by omega,by omega⟩ ?_ ak.nil (λk hR=>?_)<;>(conv=>whnf)
    · exact whd
    · obtain⟨hk,hall,hdup⟩:=hR
      repeat'((first|refine aw0 ?_|refine aw1 ?_|refine aw2 ?_|refine aw3 ?_|refine aw4 ?_|refine aw5 ?_|refine aw6 ?_|refine aw7 ?_|refine aw8 ?_|refine bT ?_|refine bF ?_|refine AWP.drawK ah 6 21 lZ mq Mp Mp Mp rfl ?_|refine AIx.mapF ari (λhlt=>?_)|refine AIx.mapP ari ari (λhpv=>?_)|refine AW.i64 (n:=_-_) ari ari ?_|refine AW.i64 ari ari ?_|refine cP (zG _) ?_|exact rr|refine And.intro rfl ?_|refine AB.mk (λh=>?_) (λh=>?_))<;>conv=>whnf)
      all_goals first
        |(rw[py hlt (by first|(refine aL _ ?_;simp_all;done)|(rw[aC _ ari];simp_all[nW];done)|(rw[aD _ ari];simp_all;done)|(exfalso;assumption))];done)
        |(rw[tv h1 (dd hall ari) (mY ari hdup)];done)
        |skip
      all_goals
        have hkl:k<l.length:=ari
        have hch:aQ g5 nW l k hkl=true:=(by first|(refine aL _ ?_;simp_all;done)|(rw[aC _ ari];simp_all[nW];done)|(rw[aD _ ari];simp_all;done)|(exfalso;assumption))
        have hfk:0<=l[k].fired:=by
          have:=xf hch
          simp only[g5,ai,Bool.and_eq_true,decide_eq_true_eq]at this
          omega
        refine AWP.loopS (λq:Nat=>q<=k/\∀(i:Nat) (hi:i<q) (hik:i<k),gD (l[i]'(by omega)) l[k]=false) [2,4,38,39,40,41,42,43,44,45,46,47,48,49,50,51,52,53,54,55,56,57,58,59,60,61] (λq=>[(4,vI .i64 (q:Int))]) (λ_=>[]) (λq=>k-q) 0 ⟨by omega,by omega⟩ ?_ ak.nil (λq hQ=>?_)<;>(conv=>whnf)
        · exact whd
        · obtain⟨hq,hno⟩:=hQ
          repeat'((first|refine aw0 ?_|refine aw1 ?_|refine aw2 ?_|refine aw3 ?_|refine aw4 ?_|refine aw5 ?_|refine aw6 ?_|refine aw7 ?_|refine aw8 ?_|refine bT ?_|refine bF ?_|refine AWP.drawK ah 11 17 kK ld Mp Mp Mp rfl ?_|refine AIx.mapF (k:=q) ari (λhqt=>?_)|refine AIx.mapF (k:=k) ari (λhlt=>?_)|refine AW.i64 ari ari ?_|exact rr|refine And.intro rfl ?_|refine AB.mk (λh=>?_) (λh=>?_))<;>conv=>whnf)
          all_goals first
            |(rw[tr (j:=q) (k:=k) ari ari (by simp_all[gD];omega)];done)
            | (have hjq : ∀ hqk : q < k, gD (l[q]'(by omega)) l[k] = false := fun hqk => EM (by first | exact .inl (by simpa using h) | (refine .inr ?_; simp only [gt_iff_lt, decide_eq_false_iff_not] at h; omega))
               refine aB.mk ⟨q+1,⟨ari,λi hi hik=>?_⟩,ari,?_,ak.nil⟩
               · by_cases hiq:i=q
                 · subst hiq;exact hjq hik
                 · exact hno i Mo hik
               · exact hds)
            | (refine aB.mk ⟨k + 1, ⟨ari, cc hall ari hch, kj ari hdup fun i hi => hno i ari hi⟩, ari, ?_, ak.nil⟩
               exact hds)
end Go.Proofs.YtehobfglmeiglaaGreatDoor
