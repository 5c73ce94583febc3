/- J08 -/
import Derived.Test.YtcmknngafflcnaaGreatJ07
set_option linter.unusedVariables false
set_option linter.unusedSimpArgs false
set_option maxRecDepth 100000
namespace Go.Proofs.YtcmknngafflcnaaGreat
open Go.ChangeShapes Go.WideShapes Go.RowKit
def nm : List (List Nat) := bA [0, 1, 129, 12354, 1056835, 84676740, 1056835, 118231172, 26665322041863, 1134768093430086, 181855382611431556, 12754761708654842250, 897082460025190097163, 62207069026659297682060, 3343584253353614966842125, 294128918675465597356351755, 20021030020780715756263883599, 1365703013537723537321053668048, 92552189137762482716163519337425, 6253257512376522115268511825703954, 421307088787603009176274171575202899, 28313996392275330746357133022732289172, 1898516671747568141635841887855538148565, 110443125483137403237505216433409988851030, 5635418958822596579205138822285872971191444, 564587086099490636614473950026251854670217936, 37469106823719603088584564090313169416107664665, 2502417586506266075212044488010407714368280114202, 166086206217779181436482113366003741044095335351899, 9822301539197151632053911968891055483416127646062300, 728993855799396224617265167324643205015392353977938970, 48135989065351172313560208207668612243119544957039654686, 3185206474464501740293399682312610373172162832886605350559, 210225060567942940234648904291143782914937380544563676825504, 48135989065351172313560208207668612243119544957039654686, 3479445618310752401098202311525469736426960744345856968351, 56782137714963027777476425173270074103077862885205941626869782819, 3307879980740750269472028025262199455838458345742192669664375609378, 259753630549600233854268194224637409062141341103974644176737148929695]
def nE : List (List Nat) := bQ 36 [0, 1, 4, 13, 5872, 5953, 688, 1417, 3280, 9841, 29524, 88573, 265720, 797161, 2391484, 7174453, 21523360, 64570081, 193710244, 581130733, 1743392200, 5230176601, 15690529804, 47071589413, 141214768240, 423644304721, 1270932914164, 3812798742493, 11438396227480, 34315188682441, 102945566047324, 133726290295474525, 134343963691758472, 136196983880610313, 16368345001524595, 33045526701191164]
def nn : List (List Nat) := bA [0, 1, 129, 12354, 1056835, 84676740, 1056835, 118231172, 26665322041863, 1134768093430086, 181855382611431556, 12754761708654842250, 897082460025190097163, 62207069026659297682060, 3343584253353614966842125, 294128918675465597356351755, 20021030020780715756263883599, 1365703013537723537321053668048, 92552189137762482716163519337425, 6253257512376522115268511825703954, 421307088787603009176274171575202899, 28313996392275330746357133022732289172, 1898516671747568141635841887855538148565, 110443125483137403237505216433409988851030, 5635418958822596579205138822285872971191444, 564587086099490636614473950026251854670217936, 37469106823719603088584564090313169416107664665, 2502417586506266075212044488010407714368280114202, 166086206217779181436482113366003741044095335351899, 9822301539197151632053911968891055483416127646062300, 728993855799396224617265167324643205015392353977938970, 48135989065351172313560208207668612243119544957039654686, 3185206474464501740293399682312610373172162832886605350559, 210225060567942940234648904291143782914937380544563676825504, 48135989065351172313560208207668612243119544957039654686, 3479445618310752401098202311525469736426960744345856968351, 56782137714963027777476425173270074103077862885205941626869782819, 3307879980740750269472028025262199455838458345742192669664375609378, 259753630549600233854268194224637409062141341103974644176737148929695]
def nF : List (List Nat) := bQ 36 [0, 1, 4, 13, 5872, 5953, 688, 1417, 3280, 9841, 29524, 88573, 265720, 797161, 2391484, 7174453, 21523360, 64570081, 193710244, 581130733, 1743392200, 5230176601, 15690529804, 47071589413, 141214768240, 423644304721, 1270932914164, 3812798742493, 11438396227480, 34315188682441, 102945566047324, 133726290295474525, 134343963691758472, 136196983880610313, 16368345001524595, 33045526701191164]
def jD : List (List Nat) := bA [0, 1, 129, 12354, 1056835, 84676740, 6510088389, 486455648518, 35601017745735, 486455648518, 486455648518, 48795157279047, 181850565705495307, 15189546776375345546, 1044656104332886590157, 71807628236732700320398, 11278385445905829884100391759, 1365702701870957193602211271113, 91992659884970490020345055859665, 6253257492429849069270505912300114, 91992659884970490020345055859665, 91992659884970490020345055859665, 7226813153405129249619973974028882, 28271798680562493533539606337341957590, 2071420796274116772237317507662640116821, 137922341883931384971496377778297169868184, 28949541850973468982765695211891719706339013977, 1657192435115095497113500970605844591886664312020, 41383069869978927836559590047083950258115905094226, 1508365968364301242666976831698768753810796901851463]
def jM : List (List Nat) := bQ 26 [0, 1, 4, 13, 40, 121, 364, 43028131, 43030318, 490981, 57955, 117004, 274468, 805909, 2400232, 7183201, 21523360, 64570081, 2538572754172, 2538960174661, 86975899780, 10266642958, 20726996161, 48621271369, 142764450196, 425193986677]
def jE : List (List Nat) := bA [0, 0, 66, 12417, 1052803, 84680772, 6509830341, 486455906566, 35601001230663, 2564407968416136, 182422449173582281, 182422449173582281, 822160554281852764812, 62287883029590555521611, 4283858644125240688419597, 182422449173582281, 182422449173582281, 19763787688295031306, 76230107888386803016849, 5824017713988326745469520, 391734989181538091299054675, 26369477958688238684591658004, 1293591356378629304695203670506460484821, 127036007785422251621959037557723292549967, 8445569296257215953576387387155549035771223, 8445569296257215953576387387155549035771223, 36201531805538086569100693454073813015853331994, 2503932969441214093197262479207192424353626936793, 166005081416615564379235145645284422234479058060955, 8445569296257215953576387387155549035771223, 8445569296257215953576387387155549035771223, 699453405652716341491412644855793497408590808, 2773617297220344702361095891284562476657092167711, 195796087992609360784920931321752318744669002225118, 12898421758350281060995982921004739401591290752796641, 756631666196460698142482546193420365556173837506908686248708002, 39883073373398053585232782724680879911596011738233013544591664861, 1066442832612415689874107031114871815364000671881775950079007445976, 47711456489035996979616188969501934569300316776543366420105979531786]
def jN : List (List Nat) := bQ 35 [6, 2, 4, 13, 40, 121, 364, 1093, 3280, 9841, 31367094520, 31366858324, 31366976422, 31367507863, 31369102186, 358693150, 43017196, 86063917, 200855173, 588275662, 1750537129, 5237321530, 15690529804, 47071589413, 49964750513621950, 49963620795476026, 49964185654548988, 49966727520377317, 49974353117862304, 1715618219353834, 205749917326408, 411641049421057, 960684068340121, 2813704257191962, 8372764823747485]
def gO : List (List Nat) := bA [0, 1, 129, 12354, 1056835, 84676740, 6510088389, 486455648518, 35601017745735, 2564407951901064, 84676740, 11878797509, 830053032203, 47820950793236483723980, 4288735575286549884985866, 293202737558278136887816974, 20081519705384423591025083023, 1365643737946223539851067442064, 92556060477577120017588236100561, 6253253718738666115430432707240978, 293202737558278136887816974, 26271219901811324965520704143, 1725674850522526293866763687723186599317, 82529233725716921844038705199813207852180, 1758667092263185104645647738334975169692303, 562800500986352143573799227579081592014377157]
def gQ : List (List Nat) := bQ 22 [0, 1, 4, 13, 40, 1535395, 1535638, 1536367, 1538554, 1545115, 58927, 117976, 295123, 797161, 2391484, 27901449661, 27915798568, 27958845289, 28087985452, 28475405941, 3479609947, 6966394348]
def gP : List (List Nat) := bA [0, 1, 129, 12354, 1056835, 84676740, 6510088389, 486455648518, 35601017745735, 2564407951901064, 84676740, 11878797509, 830053032203, 47820950793236483723980, 4288735575286549884985866, 293202737558278136887816974, 20081519705384423591025083023, 1365643737946223539851067442064, 92556060477577120017588236100561, 6253253718738666115430432707240978, 293202737558278136887816974, 26271219901811324965520704143, 1725674850522526293866763687723186599317, 82529233725716921844038705199813207852180, 1758667092263185104645647738334975169692303, 562800500986352143573799227579081592014377157]
def gR : List (List Nat) := bQ 22 [0, 1, 4, 13, 40, 1535395, 1535638, 1536367, 1538554, 1545115, 58927, 117976, 295123, 797161, 2391484, 27901449661, 27915798568, 27958845289, 28087985452, 28475405941, 3479609947, 6966394348]
set_option maxHeartbeats 2000000 in
theorem oK (hh : DHead) (hs : hh.seen.length ≤ 9223372036854775806) : ak av 291 [.agg hh.ds] (rB (ej hh)) := by
  have seen_le6 : ∀ {s : List DMark}, bw s = true → s.length ≤ 1000000 := fun h => Nat.le_trans (d9 h) (by omega)
  refine ac ah Tryz.func291 rfl Tryz.call291 Tryz.ntmps291 (congrArg Array.toList Tryz.results291) fun S => ?_; conv => whnf
  repeat' (first | (refine aw0 ?_) | ((first | refine aw1 ?_ | refine aw2 ?_ | refine aw3 ?_ | refine aw4 ?_ | refine aw5 ?_ | refine aw6 ?_ | refine aw7 ?_ | refine aw8 ?_); conv => whnf) | ((first | refine bT ?_ | refine bF ?_); conv => whnf) | (refine AWP.drawK ah 1 36 nm nE (by kernel_rfl) (by kernel_rfl) (by kernel_rfl) rfl ?_; conv => whnf) | (refine aa.pure (aC _ _ _) rfl ?_; conv => whnf) | (refine ae.mk ⟨_, _, aC _ _ _, .inl rfl, ?_⟩; conv => whnf) | (refine aa.pure (bO _) rfl ?_; conv => whnf) | (refine ae.mk ⟨_, _, bO _, .inl rfl, ?_⟩; conv => whnf) | (refine aa.pure (ir hh.seen hs) rfl ?_; conv => whnf) | (refine ae.mk ⟨_, _, ir hh.seen hs, .inl rfl, ?_⟩; conv => whnf) | (refine aa.pure (i5 hh.seen (seen_le6 (by assumption))) rfl ?_; conv => whnf) | (refine ae.mk ⟨_, _, i5 hh.seen (seen_le6 (by assumption)), .inl rfl, ?_⟩; conv => whnf) | (exact rr) | (refine And.intro rfl ?_; conv => whnf) | (refine AB.mk (fun h => ?_) (fun h => ?_) <;> (conv => whnf)))
  all_goals
    refine aT ?_
    first
      | (simp_all [ej, tOk]; done)
      | (simp_all [ej, tOk]; intros; omega)
set_option maxHeartbeats 2000000 in
theorem xg (hh : DHead) (hs : hh.seen.length ≤ 9223372036854775806) : ak av 210 [.agg hh.ds] (rB (ej hh)) := by
  have seen_le6 : ∀ {s : List DMark}, bw s = true → s.length ≤ 1000000 := fun h => Nat.le_trans (d9 h) (by omega)
  refine ac ah Tryz.func210 rfl Tryz.call210 Tryz.ntmps210 (congrArg Array.toList Tryz.results210) fun S => ?_; conv => whnf
  repeat' (first | (refine aw0 ?_) | ((first | refine aw1 ?_ | refine aw2 ?_ | refine aw3 ?_ | refine aw4 ?_ | refine aw5 ?_ | refine aw6 ?_ | refine aw7 ?_ | refine aw8 ?_); conv => whnf) | ((first | refine bT ?_ | refine bF ?_); conv => whnf) | (refine AWP.drawK ah 1 36 nn nF (by kernel_rfl) (by kernel_rfl) (by kernel_rfl) rfl ?_; conv => whnf) | (refine aa.pure (aL _ _ _) rfl ?_; conv => whnf) | (refine ae.mk ⟨_, _, aL _ _ _, .inl rfl, ?_⟩; conv => whnf) | (refine aa.pure (ci _) rfl ?_; conv => whnf) | (refine ae.mk ⟨_, _, ci _, .inl rfl, ?_⟩; conv => whnf) | (refine aa.pure (cH hh.seen) rfl ?_; conv => whnf) | (refine ae.mk ⟨_, _, cH hh.seen, .inl rfl, ?_⟩; conv => whnf) | (refine aa.pure (je hh.seen (by assumption)) rfl ?_; conv => whnf) | (refine ae.mk ⟨_, _, je hh.seen (by assumption), .inl rfl, ?_⟩; conv => whnf) | (exact rr) | (refine And.intro rfl ?_; conv => whnf) | (refine AB.mk (fun h => ?_) (fun h => ?_) <;> (conv => whnf)))
  all_goals
    refine aT ?_
    first
      | (simp_all [ej, tOk]; done)
      | (simp_all [ej, tOk]; intros; omega)
theorem pu {l : List DEntry} (h : ¬ l.length ≤ 2000) : cX l = false := by simp [cX, h]
theorem qz {l : List DEntry} {k : Nat} (hk : k < l.length) (h : bp bW ja l k hk = false) : cX l = false := by
  have := jC hk h
  simp only [cX, Bool.and_assoc] at *
  simp only [this, Bool.and_false]
theorem pw {l : List DEntry} (h : l.length ≤ 2000) (hc : (l.all bW && ib ja l) = true) : cX l = true := by
  simp only [cX, Bool.and_assoc, hc, h, decide_true, Bool.and_self]
theorem r4 {e : DEntry} (h : bW e = true) : 1 ≤ e.index ∧ e.index ≤ 2000 := by
  have := (ig h).2.2
  simp only [aj, Bool.and_eq_true, decide_eq_true_eq] at this
  exact this
theorem xW {α : Type} {P : α → Bool} {Q : α → α → Bool} {l : List α} {j : Nat} {hl : j < l.length} (h : bp P Q l j hl = true) : P l[j] = true := by
  unfold bp at h
  exact (Bool.and_eq_true_iff.1 h).1
set_option maxHeartbeats 2000000 in
theorem ij (l : List DEntry) : ak av 328 [.one (.sl (l.map DEntry.ds))] (rB (cX l)) := by
  refine ac ah Tryz.func328 rfl Tryz.call328 Tryz.ntmps328 (congrArg Array.toList Tryz.results328) fun S => ?_; conv => whnf
  repeat' (first | (refine aw0 ?_) | ((first | refine aw1 ?_ | refine aw2 ?_ | refine aw3 ?_ | refine aw4 ?_ | refine aw5 ?_ | refine aw6 ?_ | refine aw7 ?_ | refine aw8 ?_); conv => whnf) | ((first | refine bT ?_ | refine bF ?_); conv => whnf) | (exact rr) | (refine And.intro rfl ?_; conv => whnf) | (refine AB.mk (fun h => ?_) (fun h => ?_) <;> (conv => whnf)))
  · rw [pu ari]
  · have h1 : l.length ≤ 2000 := ari
    clear h
    refine AWP.loopS (fun k : Nat => k ≤ l.length ∧ ∀ (j : Nat) (hj : j < k) (hl : j < l.length), bp bW ja l j hl = true) [2, 3, 4, 10, 11, 12, 13, 14, 15, 16, 17, 18, 19, 20, 21, 22, 23, 24, 25, 26, 27, 28, 29, 30, 31, 32, 33, 34, 35, 36, 37, 38, 39, 40, 41, 42, 43, 44, 45] (fun k => [(10, vI .i64 (k : Int))]) (fun _ => []) (fun k => l.length - k) 0 ⟨by omega, by omega⟩ ?_ ai.nil (fun k hR => ?_) <;> (conv => whnf)
    · exact whd
    · obtain ⟨hk, hall⟩ := hR
      have hprev : ∀ h0 : 0 < k, 1 ≤ (l[k - 1]'(by omega)).index ∧ (l[k - 1]'(by omega)).index ≤ 2000 := fun h0 => r4 (xW (hall (k - 1) (by omega) (by omega)))
      repeat' (first | (refine aw0 ?_) | ((first | refine aw1 ?_ | refine aw2 ?_ | refine aw3 ?_ | refine aw4 ?_ | refine aw5 ?_ | refine aw6 ?_ | refine aw7 ?_ | refine aw8 ?_); conv => whnf) | ((first | refine bT ?_ | refine bF ?_); conv => whnf) | (refine AWP.drawK ah 6 26 jD jM (by kernel_rfl) (by kernel_rfl) (by kernel_rfl) rfl ?_; conv => whnf) | (refine AIx.mapF ari (fun hlt => ?_); conv => whnf) | (refine AIx.mapP ari ari (fun hpv => ?_); conv => whnf) | (refine AW.i64 (n := _ - _) ari ari ?_; conv => whnf) | (refine AW.i64 (by have := hprev ari; omega) (by have := hprev ari; omega) ?_; conv => whnf) | (refine AW.i64 ari ari ?_; conv => whnf) | (refine aa.pure (gt _) rfl ?_; conv => whnf) | (refine ae.mk ⟨_, _, gt _, .inl rfl, ?_⟩; conv => whnf) | (exact rr) | (refine And.intro rfl ?_; conv => whnf) | (refine AB.mk (fun h => ?_) (fun h => ?_) <;> (conv => whnf)))
      all_goals first
        | (rw [qz hlt (by first | (refine aX _ ?_; simp_all; done) | (rw [aH _ ari]; simp_all [ja]; done) | (rw [aJ _ ari]; simp_all; done) | (rw [aH _ ari]; simp_all [ja]; omega) | (exfalso; assumption))]; done)
        | (refine aF.mk ⟨k + 1, ⟨ari, cK hall ari (by first | (refine aX _ ?_; simp_all; done) | (rw [aH _ ari]; simp_all [ja]; done) | (rw [aJ _ ari]; simp_all; done) | (rw [aH _ ari]; simp_all [ja]; omega) | (exfalso; assumption))⟩, ari, ?_, ai.nil⟩
           exact hds)
        | (rw [pw h1 (ee hall ari)])
set_option maxHeartbeats 2000000 in
theorem io (l : List DEntry) : ak av 266 [.one (.sl (l.map DEntry.ds))] (rB (cX l)) := by
  refine ac ah Tryz.func266 rfl Tryz.call266 Tryz.ntmps266 (congrArg Array.toList Tryz.results266) fun S => ?_; conv => whnf
  repeat' (first | (refine aw0 ?_) | ((first | refine aw1 ?_ | refine aw2 ?_ | refine aw3 ?_ | refine aw4 ?_ | refine aw5 ?_ | refine aw6 ?_ | refine aw7 ?_ | refine aw8 ?_); conv => whnf) | ((first | refine bT ?_ | refine bF ?_); conv => whnf) | (exact rr) | (refine And.intro rfl ?_; conv => whnf) | (refine AB.mk (fun h => ?_) (fun h => ?_) <;> (conv => whnf)))
  · rw [pu ari]
  · have h1 : l.length ≤ 2000 := ari
    clear h
    refine AWP.loopS (fun k : Nat => k ≤ l.length ∧ ∀ (j : Nat) (hj : j < k) (hl : j < l.length), bp bW ja l j hl = true) [2, 3, 7, 8, 9, 10, 11, 12, 13, 14, 15, 16, 17, 18, 19, 20, 21, 22, 23, 24, 25, 26, 27, 28, 29, 30, 31, 32, 33, 34, 35, 36, 37, 38, 39, 40, 41, 42, 43, 44, 45, 46, 47, 48, 49, 50, 51] (fun k => [(3, vI .i64 (k : Int))]) (fun _ => []) (fun k => l.length - k) 0 ⟨by omega, by omega⟩ ?_ ai.nil (fun k hR => ?_) <;> (conv => whnf)
    · exact whd
    · obtain ⟨hk, hall⟩ := hR
      have hprev : ∀ h0 : 0 < k, 1 ≤ (l[k - 1]'(by omega)).index ∧ (l[k - 1]'(by omega)).index ≤ 2000 := fun h0 => r4 (xW (hall (k - 1) (by omega) (by omega)))
      repeat' (first | (refine aw0 ?_) | ((first | refine aw1 ?_ | refine aw2 ?_ | refine aw3 ?_ | refine aw4 ?_ | refine aw5 ?_ | refine aw6 ?_ | refine aw7 ?_ | refine aw8 ?_); conv => whnf) | ((first | refine bT ?_ | refine bF ?_); conv => whnf) | (refine AWP.drawK ah 6 35 jE jN (by kernel_rfl) (by kernel_rfl) (by kernel_rfl) rfl ?_; conv => whnf) | (refine AIx.mapF ari (fun hlt => ?_); conv => whnf) | (refine AIx.mapP ari ari (fun hpv => ?_); conv => whnf) | (refine AW.i64 (n := _ - _) ari ari ?_; conv => whnf) | (refine AW.i64 (by have := hprev ari; omega) (by have := hprev ari; omega) ?_; conv => whnf) | (refine AW.i64 ari ari ?_; conv => whnf) | (refine aa.pure (gD _) rfl ?_; conv => whnf) | (refine ae.mk ⟨_, _, gD _, .inl rfl, ?_⟩; conv => whnf) | (exact rr) | (refine And.intro rfl ?_; conv => whnf) | (refine AB.mk (fun h => ?_) (fun h => ?_) <;> (conv => whnf)))
      all_goals first
        | (rw [qz hlt (by first | (refine aX _ ?_; simp_all; done) | (rw [aH _ ari]; simp_all [ja]; done) | (rw [aJ _ ari]; simp_all; done) | (rw [aH _ ari]; simp_all [ja]; omega) | (exfalso; assumption))]; done)
        | (refine aF.mk ⟨k + 1, ⟨ari, cK hall ari (by first | (refine aX _ ?_; simp_all; done) | (rw [aH _ ari]; simp_all [ja]; done) | (rw [aJ _ ari]; simp_all; done) | (rw [aH _ ari]; simp_all [ja]; omega) | (exfalso; assumption))⟩, ari, ?_, ai.nil⟩
           exact hds)
        | (rw [pw h1 (ee hall ari)])
theorem qr {b : DBook} (h : (aj b.base 0 2000 && tOk b.time && !(b.base == 0 && b.time != 0)) = false) : bP b = false := by simp only [bP, h, Bool.false_and]
theorem qt {b : DBook} (h : (decide (b.entries.length ≤ 20) && cX b.entries) = false) : bP b = false := by
  simp only [Bool.and_eq_false_iff] at h
  rcases h with h | h <;> simp only [bP, h, Bool.and_false, Bool.false_and]
theorem wB {x lo hi : Int} (h : (!aj x lo hi) = false) : lo ≤ x ∧ x ≤ hi := by
  have : aj x lo hi = true := by simpa using h
  simpa only [aj, Bool.and_eq_true, decide_eq_true_eq] using this
set_option maxHeartbeats 2000000 in
theorem oJ (b : DBook) : ak av 292 [.agg b.ds] (rB (bP b)) := by
  rcases he : b.entries with _ | ⟨e, r⟩
  · have he0 : (((b.entries.map DEntry.ds).length : Int) == 0) = true := by simp [he]
    refine ac ah Tryz.func292 rfl Tryz.call292 Tryz.ntmps292 (congrArg Array.toList Tryz.results292) fun S => ?_; conv => whnf
    repeat' (first | (refine aw0 ?_) | ((first | refine aw1 ?_ | refine aw2 ?_ | refine aw3 ?_ | refine aw4 ?_ | refine aw5 ?_ | refine aw6 ?_ | refine aw7 ?_ | refine aw8 ?_); conv => whnf) | ((first | refine bT ?_ | refine bF ?_); conv => whnf) | (refine AWP.drawK ah 5 22 gO gQ (by kernel_rfl) (by kernel_rfl) (by kernel_rfl) rfl ?_; conv => whnf) | (refine aa.pure (aC _ _ _) rfl ?_; conv => whnf) | (refine ae.mk ⟨_, _, aC _ _ _, .inl rfl, ?_⟩; conv => whnf) | (refine aa.pure (bO _) rfl ?_; conv => whnf) | (refine ae.mk ⟨_, _, bO _, .inl rfl, ?_⟩; conv => whnf) | (refine aa.pure (ij b.entries) rfl ?_; conv => whnf) | (refine ae.mk ⟨_, _, ij b.entries, .inl rfl, ?_⟩; conv => whnf) | (exact rr) | (refine And.intro rfl ?_; conv => whnf) | (refine AB.mk (fun h => ?_) (fun h => ?_) <;> (conv => whnf)))
    all_goals
      refine aT ?_
      first
        | (rw [qr (by first | (simp_all [tOk]; done) | (exfalso; assumption))]; done)
        | (rw [qt (by first | (simp_all; done) | (exfalso; assumption))]; done)
        | (simp_all [bP, tOk]; done)
  · have he0 : (((b.entries.map DEntry.ds).length : Int) == 0) = false := by simp [he]; omega
    have i0 : ∀ {K : Nat → List AD → Prop}, K 0 e.ds → AIx (b.entries.map DEntry.ds) 0 K := fun h => AIx.at 0 _ rfl (by rw [he]; rfl) h
    refine ac ah Tryz.func292 rfl Tryz.call292 Tryz.ntmps292 (congrArg Array.toList Tryz.results292) fun S => ?_; conv => whnf
    repeat' (first | (refine aw0 ?_) | ((first | refine aw1 ?_ | refine aw2 ?_ | refine aw3 ?_ | refine aw4 ?_ | refine aw5 ?_ | refine aw6 ?_ | refine aw7 ?_ | refine aw8 ?_); conv => whnf) | ((first | refine bT ?_ | refine bF ?_); conv => whnf) | (refine AWP.drawK ah 5 22 gO gQ (by kernel_rfl) (by kernel_rfl) (by kernel_rfl) rfl ?_; conv => whnf) | (refine i0 ?_; conv => whnf) | (refine AW.i64 (by have := wB (x := b.base) (by assumption); omega) (by have := wB (x := b.base) (by assumption); omega) ?_; conv => whnf) | (refine aa.pure (aC _ _ _) rfl ?_; conv => whnf) | (refine ae.mk ⟨_, _, aC _ _ _, .inl rfl, ?_⟩; conv => whnf) | (refine aa.pure (bO _) rfl ?_; conv => whnf) | (refine ae.mk ⟨_, _, bO _, .inl rfl, ?_⟩; conv => whnf) | (refine aa.pure (ij b.entries) rfl ?_; conv => whnf) | (refine ae.mk ⟨_, _, ij b.entries, .inl rfl, ?_⟩; conv => whnf) | (exact rr) | (refine And.intro rfl ?_; conv => whnf) | (refine AB.mk (fun h => ?_) (fun h => ?_) <;> (conv => whnf)))
    all_goals
      refine aT ?_
      first
        | (rw [qr (by first | (simp_all [tOk]; done) | (exfalso; assumption))]; done)
        | (rw [qt (by simp only [Bool.and_eq_false_iff, decide_eq_false_iff_not]; first | (exact .inl ari) | (refine .inr ?_; simp_all; done) | (exfalso; assumption))]; done)
        | (have hlen : b.entries.length ≤ 20 := ari
           simp_all [bP, tOk]; done)
        | (have hlen : b.entries.length ≤ 20 := ari
           simp_all [bP, tOk]; intros; omega)
set_option maxHeartbeats 2000000 in
theorem xf (b : DBook) : ak av 211 [.agg b.ds] (rB (bP b)) := by
  rcases he : b.entries with _ | ⟨e, r⟩
  · have he0 : (((b.entries.map DEntry.ds).length : Int) == 0) = true := by simp [he]
    refine ac ah Tryz.func211 rfl Tryz.call211 Tryz.ntmps211 (congrArg Array.toList Tryz.results211) fun S => ?_; conv => whnf
    repeat' (first | (refine aw0 ?_) | ((first | refine aw1 ?_ | refine aw2 ?_ | refine aw3 ?_ | refine aw4 ?_ | refine aw5 ?_ | refine aw6 ?_ | refine aw7 ?_ | refine aw8 ?_); conv => whnf) | ((first | refine bT ?_ | refine bF ?_); conv => whnf) | (refine AWP.drawK ah 3 22 gP gR (by kernel_rfl) (by kernel_rfl) (by kernel_rfl) rfl ?_; conv => whnf) | (refine aa.pure (aL _ _ _) rfl ?_; conv => whnf) | (refine ae.mk ⟨_, _, aL _ _ _, .inl rfl, ?_⟩; conv => whnf) | (refine aa.pure (ci _) rfl ?_; conv => whnf) | (refine ae.mk ⟨_, _, ci _, .inl rfl, ?_⟩; conv => whnf) | (refine aa.pure (io b.entries) rfl ?_; conv => whnf) | (refine ae.mk ⟨_, _, io b.entries, .inl rfl, ?_⟩; conv => whnf) | (exact rr) | (refine And.intro rfl ?_; conv => whnf) | (refine AB.mk (fun h => ?_) (fun h => ?_) <;> (conv => whnf)))
    all_goals
      refine aT ?_
      first
        | (rw [qr (by first | (simp_all [tOk]; done) | (exfalso; assumption))]; done)
        | (rw [qt (by first | (simp_all; done) | (exfalso; assumption))]; done)
        | (simp_all [bP, tOk]; done)
  · have he0 : (((b.entries.map DEntry.ds).length : Int) == 0) = false := by simp [he]; omega
    have i0 : ∀ {K : Nat → List AD → Prop}, K 0 e.ds → AIx (b.entries.map DEntry.ds) 0 K := fun h => AIx.at 0 _ rfl (by rw [he]; rfl) h
    refine ac ah Tryz.func211 rfl Tryz.call211 Tryz.ntmps211 (congrArg Array.toList Tryz.results211) fun S => ?_; conv => whnf
    repeat' (first | (refine aw0 ?_) | ((first | refine aw1 ?_ | refine aw2 ?_ | refine aw3 ?_ | refine aw4 ?_ | refine aw5 ?_ | refine aw6 ?_ | refine aw7 ?_ | refine aw8 ?_); conv => whnf) | ((first | refine bT ?_ | refine bF ?_); conv => whnf) | (refine AWP.drawK ah 3 22 gP gR (by kernel_rfl) (by kernel_rfl) (by kernel_rfl) rfl ?_; conv => whnf) | (refine i0 ?_; conv => whnf) | (refine AW.i64 (by have := wB (x := b.base) (by assumption); omega) (by have := wB (x := b.base) (by assumption); omega) ?_; conv => whnf) | (refine aa.pure (aL _ _ _) rfl ?_; conv => whnf) | (refine ae.mk ⟨_, _, aL _ _ _, .inl rfl, ?_⟩; conv => whnf) | (refine aa.pure (ci _) rfl ?_; conv => whnf) | (refine ae.mk ⟨_, _, ci _, .inl rfl, ?_⟩; conv => whnf) | (refine aa.pure (io b.entries) rfl ?_; conv => whnf) | (refine ae.mk ⟨_, _, io b.entries, .inl rfl, ?_⟩; conv => whnf) | (exact rr) | (refine And.intro rfl ?_; conv => whnf) | (refine AB.mk (fun h => ?_) (fun h => ?_) <;> (conv => whnf)))
    all_goals
      refine aT ?_
      first
        | (rw [qr (by first | (simp_all [tOk]; done) | (exfalso; assumption))]; done)
        | (rw [qt (by simp only [Bool.and_eq_false_iff, decide_eq_false_iff_not]; first | (exact .inl ari) | (refine .inr ?_; simp_all; done) | (exfalso; assumption))]; done)
        | (have hlen : b.entries.length ≤ 20 := ari
           simp_all [bP, tOk]; done)
        | (have hlen : b.entries.length ≤ 20 := ari
           simp_all [bP, tOk]; intros; omega)
theorem eC (x : Int) : ak av 322 [pI x] (rB (fd x)) := by
  refine ac ah Tryz.func322 rfl Tryz.call322 Tryz.ntmps322 (congrArg Array.toList Tryz.results322) fun S => ?_; conv => whnf
  repeat' (first | (refine aw0 ?_) | ((first | refine aw1 ?_ | refine aw2 ?_ | refine aw3 ?_ | refine aw4 ?_ | refine aw5 ?_ | refine aw6 ?_ | refine aw7 ?_ | refine aw8 ?_); conv => whnf) | ((first | refine bT ?_ | refine bF ?_); conv => whnf) | (exact rr) | (refine And.intro rfl ?_; conv => whnf) | (refine AB.mk (fun h => ?_) (fun h => ?_) <;> (conv => whnf)))
  all_goals
    refine aT ?_
    simp_all [fd]
theorem o5 (x : Int) : ak av 225 [pI x] (rB (fd x)) := by
  refine ac ah Tryz.func225 rfl Tryz.call225 Tryz.ntmps225 (congrArg Array.toList Tryz.results225) fun S => ?_; conv => whnf
  repeat' (first | (refine aw0 ?_) | ((first | refine aw1 ?_ | refine aw2 ?_ | refine aw3 ?_ | refine aw4 ?_ | refine aw5 ?_ | refine aw6 ?_ | refine aw7 ?_ | refine aw8 ?_); conv => whnf) | ((first | refine bT ?_ | refine bF ?_); conv => whnf) | (exact rr) | (refine And.intro rfl ?_; conv => whnf) | (refine AB.mk (fun h => ?_) (fun h => ?_) <;> (conv => whnf)))
  all_goals
    refine aT ?_
    simp_all [fd]
theorem sK (x : Int) : ak av 318 [pI x] (rB (fd x)) := by
  refine ac ah Tryz.func318 rfl Tryz.call318 Tryz.ntmps318 (congrArg Array.toList Tryz.results318) fun S => ?_; conv => whnf
  repeat' (first | (refine aw0 ?_) | ((first | refine aw1 ?_ | refine aw2 ?_ | refine aw3 ?_ | refine aw4 ?_ | refine aw5 ?_ | refine aw6 ?_ | refine aw7 ?_ | refine aw8 ?_); conv => whnf) | ((first | refine bT ?_ | refine bF ?_); conv => whnf) | (exact rr) | (refine And.intro rfl ?_; conv => whnf) | (refine AB.mk (fun h => ?_) (fun h => ?_) <;> (conv => whnf)))
  all_goals
    refine aT ?_
    simp_all [fd]
theorem sL (p : DPair) : ak av 316 [.agg p.ds] (rB (du p)) := by
  refine ac ah Tryz.func316 rfl Tryz.call316 Tryz.ntmps316 (congrArg Array.toList Tryz.results316) fun S => ?_; conv => whnf
  repeat' (first | (refine aw0 ?_) | ((first | refine aw1 ?_ | refine aw2 ?_ | refine aw3 ?_ | refine aw4 ?_ | refine aw5 ?_ | refine aw6 ?_ | refine aw7 ?_ | refine aw8 ?_); conv => whnf) | ((first | refine bT ?_ | refine bF ?_); conv => whnf) | (refine aa.pure (aL _ _ _) rfl ?_; conv => whnf) | (refine ae.mk ⟨_, _, aL _ _ _, .inl rfl, ?_⟩; conv => whnf) | (exact rr) | (refine And.intro rfl ?_; conv => whnf) | (refine AB.mk (fun h => ?_) (fun h => ?_) <;> (conv => whnf)))
  all_goals
    refine aT ?_
    simp_all [du]
theorem zP (p : DJob) : ak av 357 [.agg p.ds] (rB (jY p)) := by
  refine ac ah Tryz.func357 rfl Tryz.call357 Tryz.ntmps357 (congrArg Array.toList Tryz.results357) fun S => ?_; conv => whnf
  repeat' (first | (refine aw0 ?_) | ((first | refine aw1 ?_ | refine aw2 ?_ | refine aw3 ?_ | refine aw4 ?_ | refine aw5 ?_ | refine aw6 ?_ | refine aw7 ?_ | refine aw8 ?_); conv => whnf) | ((first | refine bT ?_ | refine bF ?_); conv => whnf) | (refine aa.pure (oM _) rfl ?_; conv => whnf) | (refine ae.mk ⟨_, _, oM _, .inl rfl, ?_⟩; conv => whnf) | (refine aa.pure (bO _) rfl ?_; conv => whnf) | (refine ae.mk ⟨_, _, bO _, .inl rfl, ?_⟩; conv => whnf) | (refine aa.pure (gT _) rfl ?_; conv => whnf) | (refine ae.mk ⟨_, _, gT _, .inl rfl, ?_⟩; conv => whnf) | (refine aa.pure (eD _) rfl ?_; conv => whnf) | (refine ae.mk ⟨_, _, eD _, .inl rfl, ?_⟩; conv => whnf) | (refine aa.pure (aC _ _ _) rfl ?_; conv => whnf) | (refine ae.mk ⟨_, _, aC _ _ _, .inl rfl, ?_⟩; conv => whnf) | (exact rr) | (refine And.intro rfl ?_; conv => whnf) | (refine AB.mk (fun h => ?_) (fun h => ?_) <;> (conv => whnf)))
  all_goals
    refine aT ?_
    simp_all [jY, tOk]
theorem AN (p : DJob) : ak av 317 [.agg p.ds] (rB (jY p)) := by
  refine ac ah Tryz.func317 rfl Tryz.call317 Tryz.ntmps317 (congrArg Array.toList Tryz.results317) fun S => ?_; conv => whnf
  repeat' (first | (refine aw0 ?_) | ((first | refine aw1 ?_ | refine aw2 ?_ | refine aw3 ?_ | refine aw4 ?_ | refine aw5 ?_ | refine aw6 ?_ | refine aw7 ?_ | refine aw8 ?_); conv => whnf) | ((first | refine bT ?_ | refine bF ?_); conv => whnf) | (refine aa.pure (aL _ _ _) rfl ?_; conv => whnf) | (refine ae.mk ⟨_, _, aL _ _ _, .inl rfl, ?_⟩; conv => whnf) | (refine aa.pure (aL _ _ _) rfl ?_; conv => whnf) | (refine ae.mk ⟨_, _, aL _ _ _, .inl rfl, ?_⟩; conv => whnf) | (refine aa.pure (aL _ _ _) rfl ?_; conv => whnf) | (refine ae.mk ⟨_, _, aL _ _ _, .inl rfl, ?_⟩; conv => whnf) | (refine aa.pure (aL _ _ _) rfl ?_; conv => whnf) | (refine ae.mk ⟨_, _, aL _ _ _, .inl rfl, ?_⟩; conv => whnf) | (refine aa.pure (aL _ _ _) rfl ?_; conv => whnf) | (refine ae.mk ⟨_, _, aL _ _ _, .inl rfl, ?_⟩; conv => whnf) | (exact rr) | (refine And.intro rfl ?_; conv => whnf) | (refine AB.mk (fun h => ?_) (fun h => ?_) <;> (conv => whnf)))
  all_goals
    refine aT ?_
    simp_all [jY, tOk]
theorem wU (p : DJob) : ak av 358 [.agg p.ds] (rB (p.fired != 0)) := by
  refine ac ah Tryz.func358 rfl Tryz.call358 Tryz.ntmps358 (congrArg Array.toList Tryz.results358) fun S => ?_; conv => whnf
  repeat' (first | (refine aw0 ?_) | ((first | refine aw1 ?_ | refine aw2 ?_ | refine aw3 ?_ | refine aw4 ?_ | refine aw5 ?_ | refine aw6 ?_ | refine aw7 ?_ | refine aw8 ?_); conv => whnf) | ((first | refine bT ?_ | refine bF ?_); conv => whnf) | (exact rr) | (refine And.intro rfl ?_; conv => whnf) | (refine AB.mk (fun h => ?_) (fun h => ?_) <;> (conv => whnf)))
theorem uq (l : DLease) : ak av 342 [.agg l.ds] (rB (il l)) := by
  refine ac ah Tryz.func342 rfl Tryz.call342 Tryz.ntmps342 (congrArg Array.toList Tryz.results342) fun S => ?_; conv => whnf
  repeat' (first | (refine aw0 ?_) | ((first | refine aw1 ?_ | refine aw2 ?_ | refine aw3 ?_ | refine aw4 ?_ | refine aw5 ?_ | refine aw6 ?_ | refine aw7 ?_ | refine aw8 ?_); conv => whnf) | ((first | refine bT ?_ | refine bF ?_); conv => whnf) | (refine AOp.eqs (iS l ⟨0, 0, 0⟩) rfl rfl rfl rfl rfl ?_; conv => whnf) | (refine aa.pure (eC _) rfl ?_; conv => whnf) | (refine ae.mk ⟨_, _, eC _, .inl rfl, ?_⟩; conv => whnf) | (refine aa.pure (aC _ _ _) rfl ?_; conv => whnf) | (refine ae.mk ⟨_, _, aC _ _ _, .inl rfl, ?_⟩; conv => whnf) | (exact rr) | (refine And.intro rfl ?_; conv => whnf) | (refine AB.mk (fun h => ?_) (fun h => ?_) <;> (conv => whnf)))
  all_goals
    refine aT ?_
    simp_all [il]
theorem vn (l : DLease) : ak av 275 [.agg l.ds] (rB (il l)) := by
  refine ac ah Tryz.func275 rfl Tryz.call275 Tryz.ntmps275 (congrArg Array.toList Tryz.results275) fun S => ?_; conv => whnf
  repeat' (first | (refine aw0 ?_) | ((first | refine aw1 ?_ | refine aw2 ?_ | refine aw3 ?_ | refine aw4 ?_ | refine aw5 ?_ | refine aw6 ?_ | refine aw7 ?_ | refine aw8 ?_); conv => whnf) | ((first | refine bT ?_ | refine bF ?_); conv => whnf) | (refine AOp.eqs (iS l ⟨0, 0, 0⟩) rfl rfl rfl rfl rfl ?_; conv => whnf) | (refine aa.pure (o5 _) rfl ?_; conv => whnf) | (refine ae.mk ⟨_, _, o5 _, .inl rfl, ?_⟩; conv => whnf) | (refine aa.pure (aL _ _ _) rfl ?_; conv => whnf) | (refine ae.mk ⟨_, _, aL _ _ _, .inl rfl, ?_⟩; conv => whnf) | (exact rr) | (refine And.intro rfl ?_; conv => whnf) | (refine AB.mk (fun h => ?_) (fun h => ?_) <;> (conv => whnf)))
  all_goals
    refine aT ?_
    simp_all [il]
end Go.Proofs.YtcmknngafflcnaaGreat
namespace Go.Proofs.YtcmknngafflcnaaGreat
open Go.ChangeShapes Go.WideShapes Go.RowKit
def lY : List (List Nat) := bA [0, 1, 129, 12354, 1056835, 84676740, 6510088389, 486455648518, 35601017745735, 1420639959544200, 182422663955222725, 12773057508086145546, 897118766031192731979, 62208239957822901093004, 4288655969677198446318285, 4288655969677198446318285, 313466337178645734394733326, 1204729954569468590487283754064, 92559813271310657114633183474511, 6242955236602553798671150551208978, 4288655969677198446318285, 410180402747816068371227406, 1725675834294886778215531438407583348117, 77257557707833936461542131227203264119956, 3860419754236959105470024778437602507019022]
def mv : List (List Nat) := bQ 22 [0, 1, 4, 13, 40, 121, 364, 1093, 3280, 9841, 29524, 88573, 265720, 797161, 28011457948, 27906232630, 27920581537, 27958845289, 28087985452, 28475405941, 3484392916, 6971177317]
def l0 : List (List Nat) := bA [0, 0, 66, 12417, 1052803, 84680772, 6509830341, 486455906566, 35601001230663, 2564407968416136, 182422449173582281, 182422449173582281, 13999180165260796426, 52618275474038576948044, 4288879672174217859985995, 293509766337849470854157070, 182422449173582281, 182422449173582281, 1264882412050882003602, 91064803784577456042577, 6125581572444402321761427, 21562377499414133437229216269637330004, 861465659700316375104696408283190444944, 38541007621463622645425237766647173386762]
def mx : List (List Nat) := bQ 21 [6, 2, 4, 13, 40, 121, 364, 1093, 3280, 9841, 10418753182, 10417454104, 10417631251, 10418103643, 10419697966, 10424480935, 301297522, 129110638, 215204080, 602624569, 1764886036]
def np : List (List Nat) := bA [0, 1, 129, 12354, 1056835, 84676740, 6510088389, 486455648518, 486455648518, 39999064256839, 145821768686531209, 12847112020189266312, 894776308733996474955, 486455648518, 61989296812359, 254824363813263363367027662, 8763205909596317315049755341, 319408860895414673491894493511, 91831751014044673068152713384068, 6186294686607414347983445638533586, 421260980747685069358801479994188051, 28309710771426107849250888786753385620, 1898513720833013393487523635594353198293, 1898513720833013393487523635594353198293, 132480250387011640872287906136151209878806, 520338360386669057871355545261026994157610584, 31851774773379165633433177339471751988059407959, 1741287152838076911826374660384069458596716958998]
def nG : List (List Nat) := bQ 25 [0, 1, 4, 13, 40, 121, 364, 12808165, 12760051, 12766612, 12784108, 12843157, 13020304, 1593229, 3187552, 7174453, 21523360, 64570081, 193710244, 581130733, 1743392200, 5230176601, 768835960420, 78452649022, 172595827849]
def nq : List (List Nat) := bA [0, 0, 66, 12417, 1052803, 84680772, 6509830341, 486455906566, 35601001230663, 2564407968416136, 182422449173582281, 182422449173582281, 13999180165260796426, 52618275474038576948044, 4288879672174217859985995, 293509766337849470854157070, 182422449173582281, 182422449173582281, 1264882412050882003602, 91064803784577456042577, 6125581572444402321761427, 21562377499414133437229216269637330004, 861465659700316375104696408283190444944, 38541007621463622645425237766647173386762]
def nH : List (List Nat) := bQ 21 [6, 2, 4, 13, 40, 121, 364, 1093, 3280, 9841, 10418753182, 10417454104, 10417631251, 10418103643, 10419697966, 10424480935, 301297522, 129110638, 215204080, 602624569, 1764886036]
def lZ : List (List Nat) := bA [0, 0, 66, 12417, 1052803, 84680772, 6509830341, 486455906566, 486455906566, 2278464078762441, 182708393063235976, 12827958251716112970, 486455906566, 486455906566, 3685838962315726, 274187760494199181, 18682637767297758095, 963293575337753039564238021456, 35894110446290515970994257040012]
def mw : List (List Nat) := bQ 17 [6, 2, 4, 13, 40, 121, 364, 128622937, 128614189, 128618563, 128638246, 128697295, 3718993, 1593229, 2656111, 7439080, 21787987]
section
variable {α : Type} {P : α → Bool} {Q R : α → α → Bool} {l : List α}
theorem lx {k : Nat} (hlt : k < l.length) (hd : ∀ (i j : Nat) (hi : i < j) (hj : j < k) (hl : j < l.length), R (l[i]'(by omega)) l[j] = false) (h : ∀ (i : Nat) (hi : i < k), R (l[i]'(by omega)) l[k] = false) : ∀ (i j : Nat) (hi : i < j) (hj : j < k + 1) (hl : j < l.length), R (l[i]'(by omega)) l[j] = false := by
  intro i j hi hj hl
  by_cases hjk : j = k
  · subst hjk; exact h i hi
  · exact hd i j hi (by omega) hl
theorem oC {k : Nat} (hk : k = l.length) (hd : ∀ (i j : Nat) (hi : i < j) (hj : j < k) (hl : j < l.length), R (l[i]'(by omega)) l[j] = false) : cC R l = true := kv fun i j hi hl => hd i j hi (by omega) hl
end
theorem u9 {l : List DPair} {k : Nat} (hk : k < l.length) (h : bp du fV l k hk = false) : cf l = false := by
  simp only [cf, jC hk h]
theorem sD {l : List DPair} (hc : (l.all du && ib fV l) = true) : cf l = true := by simp only [cf, hc]
theorem Fe {l : List DPair} (h : cf l = true) : l.length ≤ 10 := by
  simp only [cf, Bool.and_eq_true] at h
  obtain ⟨h1, h2⟩ := h
  have key : ∀ (j : Nat) (hj : j < l.length), (j : Int) ≤ l[j].key := by
    intro j
    induction j with
    | zero =>
      intro hj
      have := ox h1 hj
      simp only [du, aj, Bool.and_eq_true, decide_eq_true_eq] at this
      omega
    | succ j ih =>
      intro hj
      have := m4 h2 hj
      simp only [fV, decide_eq_true_eq] at this
      have := ih (by omega)
      omega
  rcases Nat.lt_or_ge 10 l.length with hl | hl
  · have h5 := key 10 hl
    have := ox h1 hl
    simp only [du, aj, Bool.and_eq_true, decide_eq_true_eq] at this
    omega
  · exact hl
theorem AF {l : List DPair} (h : ¬ l.length ≤ 10) : cf l = false := by
  cases hp : cf l with
  | false => rfl
  | true => exact absurd (Fe hp) h
set_option maxHeartbeats 2000000 in
theorem gu (l : List DPair) (hs : l.length ≤ 9223372036854775806) : ak av 340 [.one (.sl (l.map DPair.ds))] (rB (cf l)) := by
  refine ac ah Tryz.func340 rfl Tryz.call340 Tryz.ntmps340 (congrArg Array.toList Tryz.results340) fun S => ?_; conv => whnf
  repeat' (first | (refine aw0 ?_) | ((first | refine aw1 ?_ | refine aw2 ?_ | refine aw3 ?_ | refine aw4 ?_ | refine aw5 ?_ | refine aw6 ?_ | refine aw7 ?_ | refine aw8 ?_); conv => whnf) | ((first | refine bT ?_ | refine bF ?_); conv => whnf) | (exact rr) | (refine And.intro rfl ?_; conv => whnf) | (refine AB.mk (fun h => ?_) (fun h => ?_) <;> (conv => whnf)))
  refine AWP.loopS (fun k : Nat => k ≤ l.length ∧ ∀ (j : Nat) (hj : j < k) (hl : j < l.length), bp du fV l j hl = true) [2, 3, 4, 7, 8, 9, 10, 11, 12, 13, 14, 15, 16, 17, 18, 19, 20, 21, 22, 23, 24, 25, 26, 27, 28, 29, 30, 31, 32, 33, 34, 35, 36, 37] (fun k => [(7, vI .i64 (k : Int))]) (fun _ => []) (fun k => l.length - k) 0 ⟨by omega, by omega⟩ ?_ ai.nil (fun k hR => ?_) <;> (conv => whnf)
  · exact whd
  · obtain ⟨hk, hall⟩ := hR
    repeat' (first | (refine aw0 ?_) | ((first | refine aw1 ?_ | refine aw2 ?_ | refine aw3 ?_ | refine aw4 ?_ | refine aw5 ?_ | refine aw6 ?_ | refine aw7 ?_ | refine aw8 ?_); conv => whnf) | ((first | refine bT ?_ | refine bF ?_); conv => whnf) | (refine AWP.drawK ah 4 22 lY mv (by kernel_rfl) (by kernel_rfl) (by kernel_rfl) rfl ?_; conv => whnf) | (refine AIx.mapF ari (fun hlt => ?_); conv => whnf) | (refine AIx.mapP ari ari (fun hpv => ?_); conv => whnf) | (refine AW.i64 (n := _ - _) ari ari ?_; conv => whnf) | (refine AW.i64 ari ari ?_; conv => whnf) | (refine aa.pure (gT _) rfl ?_; conv => whnf) | (refine ae.mk ⟨_, _, gT _, .inl rfl, ?_⟩; conv => whnf) | (refine aa.pure (eD _) rfl ?_; conv => whnf) | (refine ae.mk ⟨_, _, eD _, .inl rfl, ?_⟩; conv => whnf) | (exact rr) | (refine And.intro rfl ?_; conv => whnf) | (refine AB.mk (fun h => ?_) (fun h => ?_) <;> (conv => whnf)))
    all_goals first
      | (rw [u9 hlt (by first | (refine aX _ ?_; simp_all; done) | (refine aX _ ?_; simp_all [du]; done) | (rw [aH _ ari]; simp_all [fV]; done) | (rw [aJ _ ari]; simp_all; done) | (rw [aH _ ari]; simp_all [du, fV]; done) | (rw [aJ _ ari]; simp_all [du]; done) | (exfalso; assumption))]; done)
      | (refine aF.mk ⟨k + 1, ⟨ari, cK hall ari (by first | (refine aX _ ?_; simp_all; done) | (refine aX _ ?_; simp_all [du]; done) | (rw [aH _ ari]; simp_all [fV]; done) | (rw [aJ _ ari]; simp_all; done) | (rw [aH _ ari]; simp_all [du, fV]; done) | (rw [aJ _ ari]; simp_all [du]; done) | (exfalso; assumption))⟩, ari, ?_, ai.nil⟩
         exact hds)
      | (rw [sD (ee hall ari)])
set_option maxHeartbeats 2000000 in
theorem gE (l : List DPair) : ak av 273 [.one (.sl (l.map DPair.ds))] (rB (cf l)) := by
  refine ac ah Tryz.func273 rfl Tryz.call273 Tryz.ntmps273 (congrArg Array.toList Tryz.results273) fun S => ?_; conv => whnf
  repeat' (first | (refine aw0 ?_) | ((first | refine aw1 ?_ | refine aw2 ?_ | refine aw3 ?_ | refine aw4 ?_ | refine aw5 ?_ | refine aw6 ?_ | refine aw7 ?_ | refine aw8 ?_); conv => whnf) | ((first | refine bT ?_ | refine bF ?_); conv => whnf) | (exact rr) | (refine And.intro rfl ?_; conv => whnf) | (refine AB.mk (fun h => ?_) (fun h => ?_) <;> (conv => whnf)))
  · rw [AF ari]
  · have h1 : l.length ≤ 10 := ari
    clear h
    refine AWP.loopS (fun k : Nat => k ≤ l.length ∧ ∀ (j : Nat) (hj : j < k) (hl : j < l.length), bp du fV l j hl = true) [2, 3, 7, 8, 9, 10, 11, 12, 13, 14, 15, 16, 17, 18, 19, 20, 21, 22, 23, 24, 25, 26, 27, 28, 29, 30, 31, 32, 33, 34, 35, 36] (fun k => [(3, vI .i64 (k : Int))]) (fun _ => []) (fun k => l.length - k) 0 ⟨by omega, by omega⟩ ?_ ai.nil (fun k hR => ?_) <;> (conv => whnf)
    · exact whd
    · obtain ⟨hk, hall⟩ := hR
      repeat' (first | (refine aw0 ?_) | ((first | refine aw1 ?_ | refine aw2 ?_ | refine aw3 ?_ | refine aw4 ?_ | refine aw5 ?_ | refine aw6 ?_ | refine aw7 ?_ | refine aw8 ?_); conv => whnf) | ((first | refine bT ?_ | refine bF ?_); conv => whnf) | (refine AWP.drawK ah 6 21 l0 mx (by kernel_rfl) (by kernel_rfl) (by kernel_rfl) rfl ?_; conv => whnf) | (refine AIx.mapF ari (fun hlt => ?_); conv => whnf) | (refine AIx.mapP ari ari (fun hpv => ?_); conv => whnf) | (refine AW.i64 (n := _ - _) ari ari ?_; conv => whnf) | (refine AW.i64 ari ari ?_; conv => whnf) | (refine aa.pure (sL _) rfl ?_; conv => whnf) | (refine ae.mk ⟨_, _, sL _, .inl rfl, ?_⟩; conv => whnf) | (exact rr) | (refine And.intro rfl ?_; conv => whnf) | (refine AB.mk (fun h => ?_) (fun h => ?_) <;> (conv => whnf)))
      all_goals first
        | (rw [u9 hlt (by first | (refine aX _ ?_; simp_all; done) | (refine aX _ ?_; simp_all [du]; done) | (rw [aH _ ari]; simp_all [fV]; done) | (rw [aJ _ ari]; simp_all; done) | (rw [aH _ ari]; simp_all [du, fV]; done) | (rw [aJ _ ari]; simp_all [du]; done) | (exfalso; assumption))]; done)
        | (refine aF.mk ⟨k + 1, ⟨ari, cK hall ari (by first | (refine aX _ ?_; simp_all; done) | (refine aX _ ?_; simp_all [du]; done) | (rw [aH _ ari]; simp_all [fV]; done) | (rw [aJ _ ari]; simp_all; done) | (rw [aH _ ari]; simp_all [du, fV]; done) | (rw [aJ _ ari]; simp_all [du]; done) | (exfalso; assumption))⟩, ari, ?_, ai.nil⟩
           exact hds)
        | (rw [sD (ee hall ari)])
theorem uD {l : List DJob} (h : ¬ l.length ≤ 8) : cr l = false := by simp [cr, h]
theorem qV {l : List DJob} {k : Nat} (hk : k < l.length) (h : bp jY pD l k hk = false) : cr l = false := by
  rcases Bool.and_eq_false_iff.1 (jC hk h) with h | h <;> simp only [cr, h, Bool.and_false, Bool.false_and]
theorem uC {l : List DJob} {j k : Nat} (hj : j < k) (hk : k < l.length) (h : iJ (l[j]'(by omega)) l[k] = true) : cr l = false := by
  have := m8 (R := iJ) hj hk h
  simp only [cr, this, Bool.and_false]
theorem uE {l : List DJob} (h : l.length ≤ 8) (hc : (l.all jY && ib pD l) = true) (hd : cC iJ l = true) : cr l = true := by
  rw [Bool.and_eq_true] at hc
  simp only [cr, h, hc.1, hc.2, hd, decide_true, Bool.and_self]
theorem z4 {l : List DJob} {k : Nat} (hk : k < l.length) (h0 : (l[k].fired != 0) = true) (h : decide (l[k].fired ∈ (l.take k).map (·.fired)) = true) : cr l = false := by
  obtain ⟨m, hm, e⟩ := List.mem_map.1 (of_decide_eq_true h)
  obtain ⟨j, hj, rfl⟩ := List.getElem_of_mem hm
  simp at hj e
  exact uC (j := j) (by omega) hk (by simp only [iJ, h0, Bool.true_and]; simpa using e)
theorem Gh {l : List DJob} {k : Nat} (hk : k < l.length) (h : (l[k].fired != 0) = false ∨ decide (l[k].fired ∈ (l.take k).map (·.fired)) = false) {i : Nat} (hi : i < k) : iJ (l[i]'(by omega)) l[k] = false := by
  rcases h with h | h
  · simp only [iJ, h, Bool.false_and]
  · have := of_decide_eq_false h
    simp only [iJ, Bool.and_eq_false_iff]
    refine .inr ?_
    simp only [beq_eq_false_iff_ne, ne_eq]
    intro e
    refine this (List.mem_map.2 ⟨l[i], ?_, e⟩)
    rw [List.mem_take_iff_getElem]
    exact ⟨i, by omega, rfl⟩
theorem E2 {x y : DJob} (h : ¬ x.fired = y.fired ∨ y.fired = 0) : iJ x y = false := by
  simp only [iJ, Bool.and_eq_false_iff]
  rcases h with h | h
  · exact .inr (by simpa using h)
  · exact .inl (by simp [h])
theorem CB {l : List DJob} {k : Nat} (hlt : k < l.length) : ((l.take k).map (·.fired)) ++ [l[k].fired] = (l.take (k + 1)).map (·.fired) := (cu (fun m : DJob => m.fired) hlt).symm
theorem vR {j : DJob} (h : (!jY j) = false) : (Lit.int .i64 j.fired).wf = true := by
  have : jY j = true := by simpa using h
  simp only [jY, aj, Bool.and_eq_true, decide_eq_true_eq] at this
  exact oI (by omega) (by omega)
set_option maxHeartbeats 4000000 in
theorem iq (l : List DJob) : ak av 341 [.one (.sl (l.map DJob.ds))] (rB (cr l)) := by
  refine ac ah Tryz.func341 rfl Tryz.call341 Tryz.ntmps341 (congrArg Array.toList Tryz.results341) fun S => ?_; conv => whnf
  repeat' (first | (refine aw0 ?_) | ((first | refine aw1 ?_ | refine aw2 ?_ | refine aw3 ?_ | refine aw4 ?_ | refine aw5 ?_ | refine aw6 ?_ | refine aw7 ?_ | refine aw8 ?_); conv => whnf) | ((first | refine bT ?_ | refine bF ?_); conv => whnf) | (refine AOp.makeSet rfl rfl ?_; conv => whnf) | (exact rr) | (refine And.intro rfl ?_; conv => whnf) | (refine AB.mk (fun h => ?_) (fun h => ?_) <;> (conv => whnf)))
  · rw [uD ari]
  · have h1 : l.length ≤ 8 := ari
    clear h
    refine AWP.loopS (fun k : Nat => k ≤ l.length ∧ (∀ (j : Nat) (hj : j < k) (hl : j < l.length), bp jY pD l j hl = true) ∧ ∀ (i j : Nat) (hi : i < j) (hj : j < k) (hl : j < l.length), iJ (l[i]'(by omega)) l[j] = false) [2, 4, 5, 12, 13, 14, 15, 16, 17, 18, 19, 20, 21, 22, 23, 24, 25, 26, 27, 28, 29, 30, 31, 32, 33, 34, 35, 36, 37, 38, 39, 40, 41, 42, 43, 44, 45, 46, 47, 48] (fun k => [(12, vI .i64 (k : Int))]) (fun k => [(9, eL Tryz.prog 2 k (gh ((l.take k).map (·.fired))))]) (fun k => l.length - k) 0 ⟨by omega, by omega, by omega⟩ ?_ (ai.cons rfl ai.nil) (fun k hR => ?_) <;> (conv => whnf)
    · exact whd
    · obtain ⟨hk, hall, hdup⟩ := hR
      repeat' (first | (refine aw0 ?_) | ((first | refine aw1 ?_ | refine aw2 ?_ | refine aw3 ?_ | refine aw4 ?_ | refine aw5 ?_ | refine aw6 ?_ | refine aw7 ?_ | refine aw8 ?_); conv => whnf) | ((first | refine bT ?_ | refine bF ?_); conv => whnf) | (refine AWP.drawK ah 7 25 np nG (by kernel_rfl) (by kernel_rfl) (by kernel_rfl) rfl ?_; conv => whnf) | (refine AIx.mapF ari (fun hlt => ?_); conv => whnf) | (refine AIx.mapP ari ari (fun hpv => ?_); conv => whnf) | (refine AW.i64 (n := _ - _) ari ari ?_; conv => whnf) | (refine AW.i64 ari ari ?_; conv => whnf) | (refine aa.pure (zP _) rfl ?_; conv => whnf) | (refine ae.mk ⟨_, _, zP _, .inl rfl, ?_⟩; conv => whnf) | (refine aa.pure (wU _) rfl ?_; conv => whnf) | (refine ae.mk ⟨_, _, wU _, .inl rfl, ?_⟩; conv => whnf) | (refine jl.lookSet (id := 9) (N := k) rfl rfl rfl rfl (vR (by assumption)) ?_; conv => whnf) | (refine AOp.lookSet (id := 9) (N := k) rfl rfl rfl rfl (vR (by assumption)) ?_; conv => whnf) | (refine AOp.putSet (id := 9) (N := k) rfl (by omega) rfl rfl rfl (vR (by assumption)) ?_; conv => whnf) | (exact rr) | (refine And.intro rfl ?_; conv => whnf) | (refine AB.mk (fun h => ?_) (fun h => ?_) <;> (conv => whnf)))
      all_goals first
        | (rw [qV hlt (by first | (refine aX _ ?_; simp_all; done) | (rw [aH _ ari]; simp_all [pD]; done) | (rw [aJ _ ari]; simp_all; done) | (exfalso; assumption))]; done)
        | (rw [z4 hlt (by assumption) (by assumption)]; done)
        | (refine aF.mk ⟨k + 1, ⟨ari, cK hall ari (by first | (refine aX _ ?_; simp_all; done) | (rw [aH _ ari]; simp_all [pD]; done) | (rw [aJ _ ari]; simp_all; done) | (exfalso; assumption)), lx ari hdup fun i hi => Gh ari (by first | exact .inl (by assumption) | exact .inr (by assumption)) hi⟩, ari, ?_, ai.cons (congrArg some (congrArg (fun l => eL Tryz.prog 2 (k + 1) (gh l)) (CB ari))) ai.nil⟩
           exact hds)
        | (rw [uE h1 (ee hall ari) (oC ari hdup)])
set_option maxHeartbeats 4000000 in
theorem iu (l : List DJob) : ak av 274 [.one (.sl (l.map DJob.ds))] (rB (cr l)) := by
  refine ac ah Tryz.func274 rfl Tryz.call274 Tryz.ntmps274 (congrArg Array.toList Tryz.results274) fun S => ?_; conv => whnf
  repeat' (first | (refine aw0 ?_) | ((first | refine aw1 ?_ | refine aw2 ?_ | refine aw3 ?_ | refine aw4 ?_ | refine aw5 ?_ | refine aw6 ?_ | refine aw7 ?_ | refine aw8 ?_); conv => whnf) | ((first | refine bT ?_ | refine bF ?_); conv => whnf) | (exact rr) | (refine And.intro rfl ?_; conv => whnf) | (refine AB.mk (fun h => ?_) (fun h => ?_) <;> (conv => whnf)))
  · rw [uD ari]
  · have h1 : l.length ≤ 8 := ari
    clear h
    refine AWP.loopS (fun k : Nat => k ≤ l.length ∧ (∀ (j : Nat) (hj : j < k) (hl : j < l.length), bp jY pD l j hl = true) ∧ ∀ (i j : Nat) (hi : i < j) (hj : j < k) (hl : j < l.length), iJ (l[i]'(by omega)) l[j] = false) [2, 3, 4, 8, 9, 10, 11, 12, 13, 14, 15, 16, 17, 18, 19, 20, 21, 22, 23, 24, 25, 26, 27, 28, 29, 30, 31, 32, 33, 34, 35, 36, 37, 38, 39, 40, 41, 42, 43, 44, 45, 46, 47, 48, 49, 50, 51, 52, 53, 54, 55, 56, 57, 58, 59, 60, 61] (fun k => [(3, vI .i64 (k : Int))]) (fun k => []) (fun k => l.length - k) 0 ⟨by omega, by omega, by omega⟩ ?_ ai.nil (fun k hR => ?_) <;> (conv => whnf)
    · exact whd
    · obtain ⟨hk, hall, hdup⟩ := hR
      repeat' (first | (refine aw0 ?_) | ((first | refine aw1 ?_ | refine aw2 ?_ | refine aw3 ?_ | refine aw4 ?_ | refine aw5 ?_ | refine aw6 ?_ | refine aw7 ?_ | refine aw8 ?_); conv => whnf) | ((first | refine bT ?_ | refine bF ?_); conv => whnf) | (refine AWP.drawK ah 6 21 nq nH (by kernel_rfl) (by kernel_rfl) (by kernel_rfl) rfl ?_; conv => whnf) | (refine AIx.mapF ari (fun hlt => ?_); conv => whnf) | (refine AIx.mapP ari ari (fun hpv => ?_); conv => whnf) | (refine AW.i64 (n := _ - _) ari ari ?_; conv => whnf) | (refine AW.i64 ari ari ?_; conv => whnf) | (refine aa.pure (AN _) rfl ?_; conv => whnf) | (refine ae.mk ⟨_, _, AN _, .inl rfl, ?_⟩; conv => whnf) | (exact rr) | (refine And.intro rfl ?_; conv => whnf) | (refine AB.mk (fun h => ?_) (fun h => ?_) <;> (conv => whnf)))
      all_goals first
        | (rw [qV hlt (by first | (refine aX _ ?_; simp_all; done) | (rw [aH _ ari]; simp_all [pD]; done) | (rw [aJ _ ari]; simp_all; done) | (exfalso; assumption))]; done)
        | (rw [uE h1 (ee hall ari) (oC ari hdup)]; done)
        | skip
      all_goals
        have hkl : k < l.length := ari
        have hch : bp jY pD l k hkl = true := (by first | (refine aX _ ?_; simp_all; done) | (rw [aH _ ari]; simp_all [pD]; done) | (rw [aJ _ ari]; simp_all; done) | (exfalso; assumption))
        have hfk : 0 ≤ l[k].fired := by
          have := xW hch
          simp only [jY, aj, Bool.and_eq_true, decide_eq_true_eq] at this
          omega
        refine AWP.loopS (fun q : Nat => q ≤ k ∧ ∀ (i : Nat) (hi : i < q) (hik : i < k), iJ (l[i]'(by omega)) l[k] = false) [2, 4, 38, 39, 40, 41, 42, 43, 44, 45, 46, 47, 48, 49, 50, 51, 52, 53, 54, 55, 56, 57, 58, 59, 60, 61] (fun q => [(4, vI .i64 (q : Int))]) (fun _ => []) (fun q => k - q) 0 ⟨by omega, by omega⟩ ?_ ai.nil (fun q hQ => ?_) <;> (conv => whnf)
        · exact whd
        · obtain ⟨hq, hno⟩ := hQ
          repeat' (first | (refine aw0 ?_) | ((first | refine aw1 ?_ | refine aw2 ?_ | refine aw3 ?_ | refine aw4 ?_ | refine aw5 ?_ | refine aw6 ?_ | refine aw7 ?_ | refine aw8 ?_); conv => whnf) | ((first | refine bT ?_ | refine bF ?_); conv => whnf) | (refine AWP.drawK ah 11 17 lZ mw (by kernel_rfl) (by kernel_rfl) (by kernel_rfl) rfl ?_; conv => whnf) | (refine AIx.mapF (k := q) ari (fun hqt => ?_); conv => whnf) | (refine AIx.mapF (k := k) ari (fun hlt => ?_); conv => whnf) | (refine AW.i64 ari ari ?_; conv => whnf) | (exact rr) | (refine And.intro rfl ?_; conv => whnf) | (refine AB.mk (fun h => ?_) (fun h => ?_) <;> (conv => whnf)))
          all_goals first
            | (rw [uC (j := q) (k := k) ari ari (by simp_all [iJ]; omega)]; done)
            | (have hjq : ∀ hqk : q < k, iJ (l[q]'(by omega)) l[k] = false := fun hqk => E2 (by first | exact .inl (by simpa using h) | (refine .inr ?_; simp only [gt_iff_lt, decide_eq_false_iff_not] at h; omega))
               refine aF.mk ⟨q + 1, ⟨ari, fun i hi hik => ?_⟩, ari, ?_, ai.nil⟩
               · by_cases hiq : i = q
                 · subst hiq; exact hjq hik
                 · exact hno i (by omega) hik
               · exact hds)
            | (refine aF.mk ⟨k + 1, ⟨ari, cK hall ari hch, lx ari hdup fun i hi => hno i ari hi⟩, ari, ?_, ai.nil⟩
               exact hds)
end Go.Proofs.YtcmknngafflcnaaGreat
