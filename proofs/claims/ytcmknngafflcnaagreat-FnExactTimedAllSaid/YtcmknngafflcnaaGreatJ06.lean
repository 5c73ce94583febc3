/- J06 -/
import Derived.Test.YtcmknngafflcnaaGreatAwx
import Derived.Test.YtcmknngafflcnaaGreatJ04
set_option linter.unusedVariables false
set_option linter.unusedSimpArgs false
set_option maxRecDepth 100000
namespace Go.Proofs.YtcmknngafflcnaaGreat
open Go.ChangeShapes Go.WideShapes Go.RowKit
def lU : List (List Nat) := bA [0, 0, 2, 0, 12420, 1327235, 101458181, 76320612550, 35599944798657, 2538159309599112, 182422381561933897, 12844578746489659914, 182422381561933897, 57415599869313423807181, 4293453185968282837484172, 293816795099147061053141838, 20081821632468054499984974607, 1365683037628839150997648233360, 51347335601647746243218769757137]
def mr : List (List Nat) := bQ 13 [2184, 56, 59, 26, 41, 122, 365, 1093, 3280, 9841, 1092406, 1151455, 501916]
theorem aT {a b : Bool} (h : a = b) : AP.val (.one (dB a)) = rB b := by rw [h]
theorem dq {α : Type} {l : List α} {p : α → Bool} {k : Nat} (hall : ∀ (j : Nat) (hj : j < k) (hl : j < l.length), p l[j] = true) (hlt : k < l.length) (h : p l[k] = true) : ∀ (j : Nat) (hj : j < k + 1) (hl : j < l.length), p l[j] = true := by
  intro j hj hl
  by_cases hjk : j = k
  · subst hjk; exact h
  · exact hall j (by omega) hl
theorem eo {α : Type} {l : List α} {p : α → Bool} {k : Nat} (hall : ∀ (j : Nat) (hj : j < k) (hl : j < l.length), p l[j] = true) (hk : k = l.length) : l.all p = true := xU fun j hj => hall j (by omega) hj
theorem xe {l : List Int} (h : ¬ l.length ≤ 48) : fX l = false := by simp [fX, h]
theorem AL {l : List Int} {k : Nat} (hk : k < l.length) (h : aj l[k] 0 1000000000 = false) : fX l = false := by
  have := ku (p := fun x => aj x 0 1000000000) hk h
  simp only [fX, this, Bool.and_false]
theorem jV (l : List Int) : ak av 283 [.one (dIs l)] (rB (fX l)) := by
  refine ac ah Tryz.func283 rfl Tryz.call283 Tryz.ntmps283 (congrArg Array.toList Tryz.results283) fun S => ?_; conv => whnf
  repeat' (first | (refine aw0 ?_) | (refine awx ?_; conv => whnf) | fail | (exact rr) | (refine And.intro rfl ?_; conv => whnf) | (refine AB.mk (fun h => ?_) (fun h => ?_) <;> (conv => whnf)))
  · rw [xe ari]
  · have h48 : l.length ≤ 48 := ari
    clear h
    refine AWP.loopS (fun k : Nat => k ≤ l.length ∧ ∀ (j : Nat) (hj : j < k) (hl : j < l.length), aj l[j] 0 1000000000 = true) [2, 4, 10, 11, 12, 13, 14, 15, 16, 17] (fun k => [(10, vI .i64 (k : Int))]) (fun _ => []) (fun k => l.length - k) 0 ⟨by omega, by omega⟩ ?_ ai.nil (fun k hR => ?_) <;> (conv => whnf)
    · exact whd
    · obtain ⟨hk, hall⟩ := hR
      repeat' (first | (refine aw0 ?_) | (refine awx ?_; conv => whnf) | fail | (refine AIx.mapF ari (fun hlt => ?_); conv => whnf) | (refine AW.i64 ari ari ?_; conv => whnf) | (refine aa.pure (aC _ _ _) rfl ?_; conv => whnf) | (refine ae.mk ⟨_, _, aC _ _ _, .inl rfl, ?_⟩; conv => whnf) | (exact rr) | (refine And.intro rfl ?_; conv => whnf) | (refine AB.mk (fun h => ?_) (fun h => ?_) <;> (conv => whnf)))
      · rw [AL hlt (by simpa using h)]
      · refine aF.mk ⟨k + 1, ⟨hlt, dq (p := fun x => aj x 0 1000000000) hall hlt (by simpa using h)⟩, by omega, ?_, ai.nil⟩
        exact hds
      · refine aT ?_
        simp only [fX, eo (p := fun x => aj x 0 1000000000) hall ari, h48, decide_true, Bool.and_self]
theorem j9 (l : List Int) : ak av 231 [.one (dIs l)] (rB (fX l)) := by
  refine ac ah Tryz.func231 rfl Tryz.call231 Tryz.ntmps231 (congrArg Array.toList Tryz.results231) fun S => ?_; conv => whnf
  repeat' (first | (refine aw0 ?_) | (refine awx ?_; conv => whnf) | fail | (exact rr) | (refine And.intro rfl ?_; conv => whnf) | (refine AB.mk (fun h => ?_) (fun h => ?_) <;> (conv => whnf)))
  · rw [xe ari]
  · have h48 : l.length ≤ 48 := ari
    clear h
    refine AWP.loopS (fun k : Nat => k ≤ l.length ∧ ∀ (j : Nat) (hj : j < k) (hl : j < l.length), aj l[j] 0 1000000000 = true) [2, 3, 7, 8, 9, 10, 11, 12, 13, 14, 15, 16, 17, 18] (fun k => [(3, vI .i64 (k : Int))]) (fun _ => []) (fun k => l.length - k) 0 ⟨by omega, by omega⟩ ?_ ai.nil (fun k hR => ?_) <;> (conv => whnf)
    · exact whd
    · obtain ⟨hk, hall⟩ := hR
      repeat' (first | (refine aw0 ?_) | (refine awx ?_; conv => whnf) | fail | (refine AIx.mapF ari (fun hlt => ?_); conv => whnf) | (refine AW.i64 ari ari ?_; conv => whnf) | (refine aa.pure (aL _ _ _) rfl ?_; conv => whnf) | (refine ae.mk ⟨_, _, aL _ _ _, .inl rfl, ?_⟩; conv => whnf) | (exact rr) | (refine And.intro rfl ?_; conv => whnf) | (refine AB.mk (fun h => ?_) (fun h => ?_) <;> (conv => whnf)))
      · rw [AL hlt (by simpa using h)]
      · refine aF.mk ⟨k + 1, ⟨hlt, dq (p := fun x => aj x 0 1000000000) hall hlt (by simpa using h)⟩, by omega, ?_, ai.nil⟩
        exact hds
      · refine aT ?_
        simp only [fX, eo (p := fun x => aj x 0 1000000000) hall ari, h48, decide_true, Bool.and_self]
theorem so (d : DDisk) (at_ : Int) (hs : d.kept.length ≤ 40) : ak av 304 [.agg d.ds, pI at_] (rB (aj at_ 0 ((d.kept.length : Int) - 1))) := by
  have e : ((d.kept.map cG).length : Int) = d.kept.length := by simp
  refine ac ah Tryz.func304 rfl Tryz.call304 Tryz.ntmps304 (congrArg Array.toList Tryz.results304) fun S => ?_; conv => whnf
  repeat' (first | (refine aw0 ?_) | (refine awx ?_; conv => whnf) | fail | (refine AW.i64 (n := _ - _) ari ari ?_; conv => whnf) | (refine aa.pure (aC _ _ _) rfl ?_; conv => whnf) | (refine ae.mk ⟨_, _, aC _ _ _, .inl rfl, ?_⟩; conv => whnf) | (exact rr) | (refine And.intro rfl ?_; conv => whnf) | (refine AB.mk (fun h => ?_) (fun h => ?_) <;> (conv => whnf)))
  rw [e]
theorem A4 (d : DDisk) (at_ : Int) (hs : d.kept.length ≤ 40) : ak av 276 [.agg d.ds, pI at_] (rB (aj at_ 0 ((d.kept.length : Int) - 1))) := by
  have e : ((d.kept.map cG).length : Int) = d.kept.length := by simp
  refine ac ah Tryz.func276 rfl Tryz.call276 Tryz.ntmps276 (congrArg Array.toList Tryz.results276) fun S => ?_; conv => whnf
  repeat' (first | (refine aw0 ?_) | (refine awx ?_; conv => whnf) | fail | (refine AW.i64 (n := _ - _) ari ari ?_; conv => whnf) | (refine aa.pure (aL _ _ _) rfl ?_; conv => whnf) | (refine ae.mk ⟨_, _, aL _ _ _, .inl rfl, ?_⟩; conv => whnf) | (exact rr) | (refine And.intro rfl ?_; conv => whnf) | (refine AB.mk (fun h => ?_) (fun h => ?_) <;> (conv => whnf)))
  rw [e]
theorem gn {d : DDisk} (h : ¬ (1 ≤ d.kept.length ∧ d.kept.length ≤ 40 ∧ d.wait.length ≤ 60)) : fM d = false := by
  have : (decide (1 ≤ d.kept.length) && decide (d.kept.length ≤ 40) && decide (d.wait.length ≤ 60)) = false := by
    simp only [Bool.and_eq_false_iff, decide_eq_false_iff_not]
    omega
  simp only [fM, this, Bool.false_and]
theorem t3 {d : DDisk} {k : Nat} (hk : k < d.kept.length) (h : fX d.kept[k] = false) : fM d = false := by
  have := ku (p := fX) hk h
  simp only [fM, this, Bool.and_false, Bool.false_and]
theorem rZ {d : DDisk} {k : Nat} (hk : k < d.wait.length) (h : eN d.kept.length d.wait[k] = false) : fM d = false := by
  have := ku (p := eN d.kept.length) hk h
  simp only [fM, this, Bool.and_false]
theorem fx (d : DDisk) : ak av 247 [.agg d.ds] (rB (fM d)) := by
  refine ac ah Tryz.func247 rfl Tryz.call247 Tryz.ntmps247 (congrArg Array.toList Tryz.results247) fun S => ?_; conv => whnf
  repeat' (first | (refine aw0 ?_) | (refine awx ?_; conv => whnf) | fail | (exact rr) | (refine And.intro rfl ?_; conv => whnf) | (refine AB.mk (fun h => ?_) (fun h => ?_) <;> (conv => whnf)))
  · rw [gn ari]
  · rw [gn ari]
  · rw [gn ari]
  · have h1 : 1 ≤ d.kept.length := ari
    have h2 : d.kept.length ≤ 40 := ari
    have h3 : d.wait.length ≤ 60 := ari
    clear h
    refine AWP.loopS (fun k : Nat => k ≤ d.kept.length ∧ ∀ (j : Nat) (hj : j < k) (hl : j < d.kept.length), fX d.kept[j] = true) [2, 4, 26, 27, 28, 29, 30, 31, 32, 33] (fun k => [(26, vI .i64 (k : Int))]) (fun _ => [(1, .cells 69 (d.ds.map .d))]) (fun k => d.kept.length - k) 0 ⟨by omega, by omega⟩ ?_ (ai.cons rfl ai.nil) (fun k hR => ?_) <;> (conv => whnf)
    · exact whd
    · obtain ⟨hk, hall⟩ := hR
      repeat' (first | (refine aw0 ?_) | (refine awx ?_; conv => whnf) | fail | (refine AIx.mapF ari (fun hlt => ?_); conv => whnf) | (refine AW.i64 ari ari ?_; conv => whnf) | (refine aa.pure (jV _) rfl ?_; conv => whnf) | (refine ae.mk ⟨_, _, jV _, .inl rfl, ?_⟩; conv => whnf) | (exact rr) | (refine And.intro rfl ?_; conv => whnf) | (refine AB.mk (fun h => ?_) (fun h => ?_) <;> (conv => whnf)))
      · rw [t3 hlt (by simpa using h)]
      · refine aF.mk ⟨k + 1, ⟨hlt, dq (p := fX) hall hlt (by simpa using h)⟩, by omega, ?_, ai.cons rfl ai.nil⟩
        exact hds
      · have hrows := eo (p := fX) hall ari
        clear hall hk h
        refine AWP.loopS (fun k : Nat => k ≤ d.wait.length ∧ ∀ (j : Nat) (hj : j < k) (hl : j < d.wait.length), eN d.kept.length d.wait[j] = true) [2, 6, 37, 38, 39, 40, 41, 42, 43, 44, 45, 46, 47, 48, 49, 50, 51, 52] (fun k => [(37, vI .i64 (k : Int))]) (fun _ => [(1, .cells 69 (d.ds.map .d))]) (fun k => d.wait.length - k) 0 ⟨by omega, by omega⟩ ?_ (ai.cons rfl ai.nil) (fun k hR => ?_) <;> (conv => whnf)
        · exact whd
        · obtain ⟨hk, hall⟩ := hR
          repeat' (first | (refine aw0 ?_) | (refine awx ?_; conv => whnf) | fail | (refine AIx.mapF ari (fun hlt => ?_); conv => whnf) | (refine AW.i64 ari ari ?_; conv => whnf) | (refine aa.pure (so d _ h2) rfl ?_; conv => whnf) | (refine ae.mk ⟨_, _, so d _ h2, .inl rfl, ?_⟩; conv => whnf) | (refine aa.pure (jV _) rfl ?_; conv => whnf) | (refine ae.mk ⟨_, _, jV _, .inl rfl, ?_⟩; conv => whnf) | (exact rr) | (refine And.intro rfl ?_; conv => whnf) | (refine AB.mk (fun h => ?_) (fun h => ?_) <;> (conv => whnf)))
          all_goals first
            | (rw [rZ hlt (by simp_all [eN])]; done)
            | (refine aF.mk ⟨k + 1, ⟨hlt, dq (p := eN d.kept.length) hall hlt (by simp_all [eN])⟩, by omega, ?_, ai.cons rfl ai.nil⟩
               exact hds)
            | (refine aT ?_
               simp only [fM, hrows, eo (p := eN d.kept.length) hall ari, h1, h2, h3, decide_true, Bool.and_self])
theorem fB (d : DDisk) : ak av 222 [.agg d.ds] (rB (fM d)) := by
  refine ac ah Tryz.func222 rfl Tryz.call222 Tryz.ntmps222 (congrArg Array.toList Tryz.results222) fun S => ?_; conv => whnf
  repeat' (first | (refine aw0 ?_) | (refine awx ?_; conv => whnf) | fail | (exact rr) | (refine And.intro rfl ?_; conv => whnf) | (refine AB.mk (fun h => ?_) (fun h => ?_) <;> (conv => whnf)))
  · rw [gn ari]
  · rw [gn ari]
  · rw [gn ari]
  · have h1 : 1 ≤ d.kept.length := ari
    have h2 : d.kept.length ≤ 40 := ari
    have h3 : d.wait.length ≤ 60 := ari
    clear h
    refine AWP.loopS (fun k : Nat => k ≤ d.kept.length ∧ ∀ (j : Nat) (hj : j < k) (hl : j < d.kept.length), fX d.kept[j] = true) [2, 3, 21, 22, 23, 24, 25, 26, 27, 28, 29, 30, 31, 32, 33, 34] (fun k => [(3, vI .i64 (k : Int))]) (fun _ => [(1, .cells 69 (d.ds.map .d))]) (fun k => d.kept.length - k) 0 ⟨by omega, by omega⟩ ?_ (ai.cons rfl ai.nil) (fun k hR => ?_) <;> (conv => whnf)
    · exact whd
    · obtain ⟨hk, hall⟩ := hR
      repeat' (first | (refine aw0 ?_) | (refine awx ?_; conv => whnf) | fail | (refine AIx.mapF ari (fun hlt => ?_); conv => whnf) | (refine AW.i64 ari ari ?_; conv => whnf) | (refine aa.pure (j9 _) rfl ?_; conv => whnf) | (refine ae.mk ⟨_, _, j9 _, .inl rfl, ?_⟩; conv => whnf) | (exact rr) | (refine And.intro rfl ?_; conv => whnf) | (refine AB.mk (fun h => ?_) (fun h => ?_) <;> (conv => whnf)))
      · rw [t3 hlt (by simpa using h)]
      · refine aF.mk ⟨k + 1, ⟨hlt, dq (p := fX) hall hlt (by simpa using h)⟩, by omega, ?_, ai.cons rfl ai.nil⟩
        exact hds
      · have hrows := eo (p := fX) hall ari
        clear hall hk h
        refine AWP.loopS (fun k : Nat => k ≤ d.wait.length ∧ ∀ (j : Nat) (hj : j < k) (hl : j < d.wait.length), eN d.kept.length d.wait[j] = true) [2, 4, 35, 36, 37, 38, 39, 40, 41, 42, 43, 44, 45, 46, 47, 48, 49, 50, 51, 52, 53, 54, 55, 56, 57, 58, 59, 60] (fun k => [(4, vI .i64 (k : Int))]) (fun _ => [(1, .cells 69 (d.ds.map .d))]) (fun k => d.wait.length - k) 0 ⟨by omega, by omega⟩ ?_ (ai.cons rfl ai.nil) (fun k hR => ?_) <;> (conv => whnf)
        · exact whd
        · obtain ⟨hk, hall⟩ := hR
          repeat' (first | (refine aw0 ?_) | (refine awx ?_; conv => whnf) | fail | (refine AWP.drawK ah 11 13 lU mr (by kernel_rfl) (by kernel_rfl) (by kernel_rfl) rfl ?_; conv => whnf) | (refine AIx.mapF ari (fun hlt => ?_); conv => whnf) | (refine AW.i64 ari ari ?_; conv => whnf) | (refine aa.pure (A4 d _ h2) rfl ?_; conv => whnf) | (refine ae.mk ⟨_, _, A4 d _ h2, .inl rfl, ?_⟩; conv => whnf) | (refine aa.pure (j9 _) rfl ?_; conv => whnf) | (refine ae.mk ⟨_, _, j9 _, .inl rfl, ?_⟩; conv => whnf) | (exact rr) | (refine And.intro rfl ?_; conv => whnf) | (refine AB.mk (fun h => ?_) (fun h => ?_) <;> (conv => whnf)))
          all_goals first
            | (rw [rZ hlt (by simp_all [eN])]; done)
            | (refine aF.mk ⟨k + 1, ⟨hlt, dq (p := eN d.kept.length) hall hlt (by simp_all [eN])⟩, by omega, ?_, ai.cons rfl ai.nil⟩
               exact hds)
            | (refine aT ?_
               simp only [fM, hrows, eo (p := eN d.kept.length) hall ari, h1, h2, h3, decide_true, Bool.and_self])
end Go.Proofs.YtcmknngafflcnaaGreat
namespace Go.Proofs.YtcmknngafflcnaaGreat
open Go.ChangeShapes Go.WideShapes Go.RowKit
def nf : List (List Nat) := bA [0, 1, 0, 3, 528643, 84688962, 6476284101, 486456430726, 35598854271303, 486456430726, 44394947293511, 10503815176037892810, 522328615224468877833, 62064271462320198136135, 4264669400025568119652941, 294114310081099494610194894, 20079979470167720758043775823, 1365702078587684106745299628944, 92555961902523251036277432439761, 1365702078587684106745299628944, 102697166704349086248251058082769, 25613342525602691447650973971256517972, 1898579654498538553515499365527662687315, 1365702078587684106745299628944, 8119242556706811315658977143619271613826456, 566002918510602468683893843127845943626241239, 24602301488906423948961528814919994170672244249, 1288917237452834698431029975546430322336596558801]
def nz : List (List Nat) := bQ 24 [72, 73, 8, 17, 40, 121, 364, 158557, 160744, 18589, 38272, 88573, 265720, 797161, 2391484, 7174453, 21523360, 197649019471, 197778159634, 189384049039, 190546310506, 193516534255, 203976887458, 94078608745]
def ng : List (List Nat) := bA [0, 1, 129, 12354, 1056835, 84676740, 6510088389, 486455648518, 35601017745735, 1420639959544200, 182422663955222725, 12773057508086145546, 897118766031192731979, 12773057508086145546, 1044692718620869144907, 254804950867242602876945358, 13714966066789312667963683597, 1363208697787790677710463054155, 92148601044707032918512306537297, 6253097876168526412253434026414802, 421281259149647460389224493955994707, 28313986175558019021364168043577783444, 1898515018650738986513470708487908824277, 28313986175558019021364168043577783444, 2068656202111208218245158012203792930005, 520339481158209813593658008738527969100785240, 37652490628674061534872091696306030714472969559, 28313986175558019021364168043577783444, 159973487346561542562477585137151576684277530986140, 11016286098325919531521200713218472422092833913918939, 510059430358465878414296464190246256277998880524707613, 27850205761078480999127350412056121497280325358127236309]
def nA : List (List Nat) := bQ 28 [0, 1, 4, 13, 40, 121, 364, 1093, 3280, 9841, 29524, 12843157, 13020304, 1505749, 3100072, 7174453, 21523360, 64570081, 193710244, 581130733, 1743392200, 16009570577191, 16020030930394, 15340107972199, 15434251151026, 15674839274695, 16522127884138, 7620367308385]
theorem AIx.mapP {α : Type} {enc : α → List AD} {l : List α} {k : Nat} {K : Nat → List AD → Prop} (h0 : 0 < k) (hk : k ≤ l.length) (h : ∀ _ : k - 1 < l.length, K (k - 1) (enc l[k - 1])) : AIx (l.map enc) ((k : Int) - 1) K := by
  have e : ((k : Int) - 1) = ((k - 1 : Nat) : Int) := by omega
  rw [e]
  exact AIx.map (by omega) (h (by omega))
def bp {α : Type} (P : α → Bool) (Q : α → α → Bool) (l : List α) (k : Nat) (hk : k < l.length) : Bool := P l[k] && (if h : 0 < k then Q (l[k - 1]'(by omega)) l[k] else true)
theorem jC {α : Type} {P : α → Bool} {Q : α → α → Bool} {l : List α} {k : Nat} (hk : k < l.length) (h : bp P Q l k hk = false) : (l.all P && ib Q l) = false := by
  unfold bp at h
  cases hp : P l[k] with
  | false => rw [ku hk hp]; rfl
  | true =>
    rw [hp] at h
    simp only [Bool.true_and] at h
    split at h
    · rename_i h0
      obtain ⟨j, rfl⟩ : ∃ j, k = j + 1 := ⟨k - 1, by omega⟩
      rw [FS (Q := Q) hk (by simpa using h), Bool.and_false]
    · cases h
theorem wC {α : Type} {P : α → Bool} {Q : α → α → Bool} {l : List α} (h : ∀ (j : Nat) (hl : j < l.length), bp P Q l j hl = true) : (l.all P && ib Q l) = true := by
  rw [Bool.and_eq_true]
  refine ⟨xU fun k hk => ?_, zi fun k hk => ?_⟩
  · have := h k hk
    unfold bp at this
    exact (Bool.and_eq_true_iff.1 this).1
  · have := h (k + 1) hk
    unfold bp at this
    have := (Bool.and_eq_true_iff.1 this).2
    simpa using this
theorem cK {α : Type} {P : α → Bool} {Q : α → α → Bool} {l : List α} {k : Nat} (hall : ∀ (j : Nat) (hj : j < k) (hl : j < l.length), bp P Q l j hl = true) (hlt : k < l.length) (h : bp P Q l k hlt = true) : ∀ (j : Nat) (hj : j < k + 1) (hl : j < l.length), bp P Q l j hl = true := by
  intro j hj hl
  by_cases hjk : j = k
  · subst hjk; exact h
  · exact hall j (by omega) hl
theorem ee {α : Type} {P : α → Bool} {Q : α → α → Bool} {l : List α} {k : Nat} (hall : ∀ (j : Nat) (hj : j < k) (hl : j < l.length), bp P Q l j hl = true) (hk : k = l.length) : (l.all P && ib Q l) = true := wC fun j hj => hall j (by omega) hj
theorem aH {α : Type} {P : α → Bool} {Q : α → α → Bool} {l : List α} {k : Nat} (hk : k < l.length) (h : 0 < k) : bp P Q l k hk = (P l[k] && Q (l[k - 1]'(by omega)) l[k]) := by simp [bp, h]
theorem aJ {α : Type} {P : α → Bool} {Q : α → α → Bool} {l : List α} {k : Nat} (hk : k < l.length) (h : ¬ 0 < k) : bp P Q l k hk = P l[k] := by simp [bp, h]
theorem aX {α : Type} {P : α → Bool} {Q : α → α → Bool} {l : List α} {k : Nat} (hk : k < l.length) (h : P l[k] = false) : bp P Q l k hk = false := by simp [bp, h]
theorem qJ (t : DTwo) : ak av 244 [.agg t.ds] (rB (sR t)) := by
  refine ac ah Tryz.func244 rfl Tryz.call244 Tryz.ntmps244 (congrArg Array.toList Tryz.results244) fun S => ?_; conv => whnf
  repeat' (first | (refine aw0 ?_) | (refine awx ?_; conv => whnf) | fail | (refine aa.pure (fx t.a) rfl ?_; conv => whnf) | (refine ae.mk ⟨_, _, fx t.a, .inl rfl, ?_⟩; conv => whnf) | (refine aa.pure (fx t.b) rfl ?_; conv => whnf) | (refine ae.mk ⟨_, _, fx t.b, .inl rfl, ?_⟩; conv => whnf) | (exact rr) | (refine And.intro rfl ?_; conv => whnf) | (refine AB.mk (fun h => ?_) (fun h => ?_) <;> (conv => whnf)))
  all_goals
    refine aT ?_
    simp_all [sR]
  all_goals first | omega | (rw [Bool.eq_iff_iff]; simp only [beq_iff_eq, decide_eq_true_eq]; omega)
theorem q9 (t : DTwo) : ak av 218 [.agg t.ds] (rB (sR t)) := by
  refine ac ah Tryz.func218 rfl Tryz.call218 Tryz.ntmps218 (congrArg Array.toList Tryz.results218) fun S => ?_; conv => whnf
  repeat' (first | (refine aw0 ?_) | (refine awx ?_; conv => whnf) | fail | (refine aa.pure (fB t.a) rfl ?_; conv => whnf) | (refine ae.mk ⟨_, _, fB t.a, .inl rfl, ?_⟩; conv => whnf) | (refine aa.pure (fB t.b) rfl ?_; conv => whnf) | (refine ae.mk ⟨_, _, fB t.b, .inl rfl, ?_⟩; conv => whnf) | (exact rr) | (refine And.intro rfl ?_; conv => whnf) | (refine AB.mk (fun h => ?_) (fun h => ?_) <;> (conv => whnf)))
  all_goals
    refine aT ?_
    simp_all [sR]
  all_goals first | omega | (rw [Bool.eq_iff_iff]; simp only [beq_iff_eq, decide_eq_true_eq]; omega)
theorem wR (t : DTwo) : ak av 290 [.agg t.ds] (rB (p4 t)) := by
  refine ac ah Tryz.func290 rfl Tryz.call290 Tryz.ntmps290 (congrArg Array.toList Tryz.results290) fun S => ?_; conv => whnf
  repeat' (first | (refine aw0 ?_) | (refine awx ?_; conv => whnf) | fail | (refine aa.pure (qJ t) rfl ?_; conv => whnf) | (refine ae.mk ⟨_, _, qJ t, .inl rfl, ?_⟩; conv => whnf) | (exact rr) | (refine And.intro rfl ?_; conv => whnf) | (refine AB.mk (fun h => ?_) (fun h => ?_) <;> (conv => whnf)))
  all_goals
    refine aT ?_
    simp_all [p4]
  all_goals first | omega | (rw [Bool.eq_iff_iff]; simp only [beq_iff_eq, decide_eq_true_eq]; omega)
theorem xh (t : DTwo) : ak av 209 [.agg t.ds] (rB (p4 t)) := by
  refine ac ah Tryz.func209 rfl Tryz.call209 Tryz.ntmps209 (congrArg Array.toList Tryz.results209) fun S => ?_; conv => whnf
  repeat' (first | (refine aw0 ?_) | (refine awx ?_; conv => whnf) | fail | (refine aa.pure (q9 t) rfl ?_; conv => whnf) | (refine ae.mk ⟨_, _, q9 t, .inl rfl, ?_⟩; conv => whnf) | (exact rr) | (refine And.intro rfl ?_; conv => whnf) | (refine AB.mk (fun h => ?_) (fun h => ?_) <;> (conv => whnf)))
  all_goals
    refine aT ?_
    simp_all [p4]
  all_goals first | omega | (rw [Bool.eq_iff_iff]; simp only [beq_iff_eq, decide_eq_true_eq]; omega)
theorem uv (d : DDisk) : ak av 302 [.agg d.ds] (rB (o4 d)) := by
  refine ac ah Tryz.func302 rfl Tryz.call302 Tryz.ntmps302 (congrArg Array.toList Tryz.results302) fun S => ?_; conv => whnf
  repeat' (first | (refine aw0 ?_) | (refine awx ?_; conv => whnf) | fail | (refine aa.pure (fx d) rfl ?_; conv => whnf) | (refine ae.mk ⟨_, _, fx d, .inl rfl, ?_⟩; conv => whnf) | (exact rr) | (refine And.intro rfl ?_; conv => whnf) | (refine AB.mk (fun h => ?_) (fun h => ?_) <;> (conv => whnf)))
  all_goals
    refine aT ?_
    simp_all [o4]
  all_goals first | omega | (rw [Bool.eq_iff_iff]; simp only [beq_iff_eq, decide_eq_true_eq]; omega)
theorem vp (d : DDisk) : ak av 220 [.agg d.ds] (rB (o4 d)) := by
  refine ac ah Tryz.func220 rfl Tryz.call220 Tryz.ntmps220 (congrArg Array.toList Tryz.results220) fun S => ?_; conv => whnf
  repeat' (first | (refine aw0 ?_) | (refine awx ?_; conv => whnf) | fail | (refine aa.pure (fB d) rfl ?_; conv => whnf) | (refine ae.mk ⟨_, _, fB d, .inl rfl, ?_⟩; conv => whnf) | (exact rr) | (refine And.intro rfl ?_; conv => whnf) | (refine AB.mk (fun h => ?_) (fun h => ?_) <;> (conv => whnf)))
  all_goals
    refine aT ?_
    simp_all [o4]
  all_goals first | omega | (rw [Bool.eq_iff_iff]; simp only [beq_iff_eq, decide_eq_true_eq]; omega)
theorem qK (a b : Int) : ak av 239 [pI a, pI b] (rB (ey a b)) := by
  refine ac ah Tryz.func239 rfl Tryz.call239 Tryz.ntmps239 (congrArg Array.toList Tryz.results239) fun S => ?_; conv => whnf
  repeat' (first | (refine aw0 ?_) | (refine awx ?_; conv => whnf) | fail | (refine aa.pure (wW _) rfl ?_; conv => whnf) | (refine ae.mk ⟨_, _, wW _, .inl rfl, ?_⟩; conv => whnf) | (exact rr) | (refine And.intro rfl ?_; conv => whnf) | (refine AB.mk (fun h => ?_) (fun h => ?_) <;> (conv => whnf)))
  all_goals
    refine aT ?_
    simp_all [ey]
theorem zR (m : DMsg) : ak av 238 [.agg m.ds] (rB (j3 m)) := by
  refine ac ah Tryz.func238 rfl Tryz.call238 Tryz.ntmps238 (congrArg Array.toList Tryz.results238) fun S => ?_; conv => whnf
  repeat' (first | (refine aw0 ?_) | (refine awx ?_; conv => whnf) | fail | (refine aa.pure (qK _ _) rfl ?_; conv => whnf) | (refine ae.mk ⟨_, _, qK _ _, .inl rfl, ?_⟩; conv => whnf) | (refine aa.pure (jV _) rfl ?_; conv => whnf) | (refine ae.mk ⟨_, _, jV _, .inl rfl, ?_⟩; conv => whnf) | (exact rr) | (refine And.intro rfl ?_; conv => whnf) | (refine AB.mk (fun h => ?_) (fun h => ?_) <;> (conv => whnf)))
  all_goals
    refine aT ?_
    simp_all [j3]
theorem AR (m : DMsg) : ak av 149 [.agg m.ds] (rB (j3 m)) := by
  refine ac ah Tryz.func149 rfl Tryz.call149 Tryz.ntmps149 (congrArg Array.toList Tryz.results149) fun S => ?_; conv => whnf
  repeat' (first | (refine aw0 ?_) | (refine awx ?_; conv => whnf) | fail | (refine aa.pure (o7 _) rfl ?_; conv => whnf) | (refine ae.mk ⟨_, _, o7 _, .inl rfl, ?_⟩; conv => whnf) | (refine aa.pure (j9 _) rfl ?_; conv => whnf) | (refine ae.mk ⟨_, _, j9 _, .inl rfl, ?_⟩; conv => whnf) | (exact rr) | (refine And.intro rfl ?_; conv => whnf) | (refine AB.mk (fun h => ?_) (fun h => ?_) <;> (conv => whnf)))
  all_goals
    refine aT ?_
    simp_all [j3, ey]
theorem sm (x y : DLink) : ak av 240 [.agg x.ds, .agg y.ds] (rB (gV x y)) := by
  refine ac ah Tryz.func240 rfl Tryz.call240 Tryz.ntmps240 (congrArg Array.toList Tryz.results240) fun S => ?_; conv => whnf
  repeat' (first | (refine aw0 ?_) | (refine awx ?_; conv => whnf) | fail | (exact rr) | (refine And.intro rfl ?_; conv => whnf) | (refine AB.mk (fun h => ?_) (fun h => ?_) <;> (conv => whnf)))
  all_goals
    refine aT ?_
    simp_all [gV]
  all_goals first | omega | (rw [Bool.eq_iff_iff]; simp only [beq_iff_eq, decide_eq_true_eq]; omega)
theorem pL (x y : DLink) : ak av 151 [.agg x.ds, .agg y.ds] (rB (gV x y)) := by
  refine ac ah Tryz.func151 rfl Tryz.call151 Tryz.ntmps151 (congrArg Array.toList Tryz.results151) fun S => ?_; conv => whnf
  repeat' (first | (refine aw0 ?_) | (refine awx ?_; conv => whnf) | fail | (exact rr) | (refine And.intro rfl ?_; conv => whnf) | (refine AB.mk (fun h => ?_) (fun h => ?_) <;> (conv => whnf)))
  all_goals
    refine aT ?_
    simp_all [gV]
  all_goals first | omega | (rw [Bool.eq_iff_iff]; simp only [beq_iff_eq, decide_eq_true_eq]; omega)
theorem oS {n : DNet} (h : ¬ (n.flight.length ≤ 60 ∧ n.cuts.length ≤ 15)) : j4 n = false := by
  have : (decide (n.flight.length ≤ 60) && decide (n.cuts.length ≤ 15)) = false := by
    simp only [Bool.and_eq_false_iff, decide_eq_false_iff_not]
    omega
  simp only [j4, this, Bool.false_and]
theorem w8 {n : DNet} {k : Nat} (hk : k < n.flight.length) (h : j3 n.flight[k] = false) : j4 n = false := by
  have := ku (p := j3) hk h
  simp only [j4, this, Bool.and_false, Bool.false_and]
theorem w7 {n : DNet} {k : Nat} (hk : k < n.cuts.length) (h : bp cT gV n.cuts k hk = false) : j4 n = false := by
  have := jC hk h
  simp only [j4, Bool.and_assoc] at *
  simp only [this, Bool.and_false]
set_option maxHeartbeats 2000000 in
theorem zS (n : DNet) : ak av 169 [.agg n.ds] (rB (j4 n)) := by
  refine ac ah Tryz.func169 rfl Tryz.call169 Tryz.ntmps169 (congrArg Array.toList Tryz.results169) fun S => ?_; conv => whnf
  repeat' (first | (refine aw0 ?_) | (refine awx ?_; conv => whnf) | fail | (exact rr) | (refine And.intro rfl ?_; conv => whnf) | (refine AB.mk (fun h => ?_) (fun h => ?_) <;> (conv => whnf)))
  · rw [oS ari]
  · rw [oS ari]
  · have h1 : n.flight.length ≤ 60 := ari
    have h2 : n.cuts.length ≤ 15 := ari
    clear h
    refine AWP.loopS (fun k : Nat => k ≤ n.flight.length ∧ ∀ (j : Nat) (hj : j < k) (hl : j < n.flight.length), j3 n.flight[j] = true) [2, 4, 20, 21, 22, 23, 24, 25, 26, 27] (fun k => [(20, vI .i64 (k : Int))]) (fun _ => [(1, .cells 103 (n.ds.map .d))]) (fun k => n.flight.length - k) 0 ⟨by omega, by omega⟩ ?_ (ai.cons rfl ai.nil) (fun k hR => ?_) <;> (conv => whnf)
    · exact whd
    · obtain ⟨hk, hall⟩ := hR
      repeat' (first | (refine aw0 ?_) | (refine awx ?_; conv => whnf) | fail | (refine AIx.mapF ari (fun hlt => ?_); conv => whnf) | (refine AW.i64 ari ari ?_; conv => whnf) | (refine aa.pure (zR _) rfl ?_; conv => whnf) | (refine ae.mk ⟨_, _, zR _, .inl rfl, ?_⟩; conv => whnf) | (exact rr) | (refine And.intro rfl ?_; conv => whnf) | (refine AB.mk (fun h => ?_) (fun h => ?_) <;> (conv => whnf)))
      · rw [w8 hlt (by simpa using h)]
      · refine aF.mk ⟨k + 1, ⟨hlt, dq (p := j3) hall hlt (by simpa using h)⟩, by omega, ?_, ai.cons rfl ai.nil⟩
        exact hds
      · have hrows := eo (p := j3) hall ari
        clear hall hk h
        refine AWP.loopS (fun k : Nat => k ≤ n.cuts.length ∧ ∀ (j : Nat) (hj : j < k) (hl : j < n.cuts.length), bp cT gV n.cuts j hl = true) [2, 5, 6, 31, 32, 33, 34, 35, 36, 37, 38, 39, 40, 41, 42, 43, 44, 45, 46, 47, 48, 49, 50, 51, 52, 53, 54, 55, 56, 57, 58, 59, 60, 61, 62, 63, 64] (fun k => [(31, vI .i64 (k : Int))]) (fun _ => [(1, .cells 103 (n.ds.map .d))]) (fun k => n.cuts.length - k) 0 ⟨by omega, by omega⟩ ?_ (ai.cons rfl ai.nil) (fun k hR => ?_) <;> (conv => whnf)
        · exact whd
        · obtain ⟨hk, hall⟩ := hR
          repeat' (first | (refine aw0 ?_) | (refine awx ?_; conv => whnf) | fail | (refine AWP.drawK ah 12 24 nf nz (by kernel_rfl) (by kernel_rfl) (by kernel_rfl) rfl ?_; conv => whnf) | (refine AIx.mapF ari (fun hlt => ?_); conv => whnf) | (refine AIx.mapP ari ari (fun hpv => ?_); conv => whnf) | (refine AW.i64 (n := _ - _) ari ari ?_; conv => whnf) | (refine AW.i64 ari ari ?_; conv => whnf) | (refine aa.pure (qK _ _) rfl ?_; conv => whnf) | (refine ae.mk ⟨_, _, qK _ _, .inl rfl, ?_⟩; conv => whnf) | (refine aa.pure (sm _ _) rfl ?_; conv => whnf) | (refine ae.mk ⟨_, _, sm _ _, .inl rfl, ?_⟩; conv => whnf) | (exact rr) | (refine And.intro rfl ?_; conv => whnf) | (refine AB.mk (fun h => ?_) (fun h => ?_) <;> (conv => whnf)))
          all_goals first
            | (rw [w7 hlt (by first | (refine aX _ ?_; simp_all [cT]; done) | (refine aX _ ?_; simp_all [cT]; omega) | (rw [aH _ ari]; simp_all [cT]; done) | (rw [aJ _ ari]; simp_all [cT]; done))]; done)
            | (refine aF.mk ⟨k + 1, ⟨hlt, cK hall hlt (by first | (refine aX _ ?_; simp_all [cT]; done) | (refine aX _ ?_; simp_all [cT]; omega) | (rw [aH _ ari]; simp_all [cT]; done) | (rw [aJ _ ari]; simp_all [cT]; done))⟩, by omega, ?_, ai.cons rfl ai.nil⟩
               exact hds)
            | (refine aT ?_
               have he := ee hall ari
               simp only [j4, hrows, h1, h2, decide_true, Bool.and_self, Bool.true_and, he])
set_option maxHeartbeats 2000000 in
theorem AS (n : DNet) : ak av 73 [.agg n.ds] (rB (j4 n)) := by
  refine ac ah Tryz.func73 rfl Tryz.call73 Tryz.ntmps73 (congrArg Array.toList Tryz.results73) fun S => ?_; conv => whnf
  repeat' (first | (refine aw0 ?_) | (refine awx ?_; conv => whnf) | fail | (exact rr) | (refine And.intro rfl ?_; conv => whnf) | (refine AB.mk (fun h => ?_) (fun h => ?_) <;> (conv => whnf)))
  · rw [oS ari]
  · rw [oS ari]
  · have h1 : n.flight.length ≤ 60 := ari
    have h2 : n.cuts.length ≤ 15 := ari
    clear h
    refine AWP.loopS (fun k : Nat => k ≤ n.flight.length ∧ ∀ (j : Nat) (hj : j < k) (hl : j < n.flight.length), j3 n.flight[j] = true) [2, 3, 16, 17, 18, 19, 20, 21, 22, 23, 24, 25, 26, 27, 28, 29] (fun k => [(3, vI .i64 (k : Int))]) (fun _ => [(1, .cells 103 (n.ds.map .d))]) (fun k => n.flight.length - k) 0 ⟨by omega, by omega⟩ ?_ (ai.cons rfl ai.nil) (fun k hR => ?_) <;> (conv => whnf)
    · exact whd
    · obtain ⟨hk, hall⟩ := hR
      repeat' (first | (refine aw0 ?_) | (refine awx ?_; conv => whnf) | fail | (refine AIx.mapF ari (fun hlt => ?_); conv => whnf) | (refine AW.i64 ari ari ?_; conv => whnf) | (refine aa.pure (AR _) rfl ?_; conv => whnf) | (refine ae.mk ⟨_, _, AR _, .inl rfl, ?_⟩; conv => whnf) | (exact rr) | (refine And.intro rfl ?_; conv => whnf) | (refine AB.mk (fun h => ?_) (fun h => ?_) <;> (conv => whnf)))
      · rw [w8 hlt (by simpa using h)]
      · refine aF.mk ⟨k + 1, ⟨hlt, dq (p := j3) hall hlt (by simpa using h)⟩, by omega, ?_, ai.cons rfl ai.nil⟩
        exact hds
      · have hrows := eo (p := j3) hall ari
        clear hall hk h
        refine AWP.loopS (fun k : Nat => k ≤ n.cuts.length ∧ ∀ (j : Nat) (hj : j < k) (hl : j < n.cuts.length), bp cT gV n.cuts j hl = true) [2, 4, 5, 30, 31, 32, 33, 34, 35, 36, 37, 38, 39, 40, 41, 42, 43, 44, 45, 46, 47, 48, 49, 50, 51, 52, 53, 54, 55, 56, 57, 58, 59, 60, 61, 62, 63, 64, 65, 66, 67, 68, 69, 70, 71, 72, 73] (fun k => [(4, vI .i64 (k : Int))]) (fun _ => [(1, .cells 103 (n.ds.map .d))]) (fun k => n.cuts.length - k) 0 ⟨by omega, by omega⟩ ?_ (ai.cons rfl ai.nil) (fun k hR => ?_) <;> (conv => whnf)
        · exact whd
        · obtain ⟨hk, hall⟩ := hR
          repeat' (first | (refine aw0 ?_) | (refine awx ?_; conv => whnf) | fail | (refine AWP.drawK ah 12 28 ng nA (by kernel_rfl) (by kernel_rfl) (by kernel_rfl) rfl ?_; conv => whnf) | (refine AIx.mapF ari (fun hlt => ?_); conv => whnf) | (refine AIx.mapP ari ari (fun hpv => ?_); conv => whnf) | (refine AW.i64 (n := _ - _) ari ari ?_; conv => whnf) | (refine AW.i64 ari ari ?_; conv => whnf) | (refine aa.pure (o7 _) rfl ?_; conv => whnf) | (refine ae.mk ⟨_, _, o7 _, .inl rfl, ?_⟩; conv => whnf) | (refine aa.pure (pL _ _) rfl ?_; conv => whnf) | (refine ae.mk ⟨_, _, pL _ _, .inl rfl, ?_⟩; conv => whnf) | (exact rr) | (refine And.intro rfl ?_; conv => whnf) | (refine AB.mk (fun h => ?_) (fun h => ?_) <;> (conv => whnf)))
          all_goals first
            | (rw [w7 hlt (by first | (refine aX _ ?_; simp_all [cT, ey]; done) | (refine aX _ ?_; simp_all [cT, ey]; intros; omega) | (rw [aH _ ari]; simp_all [cT, ey]; done) | (rw [aJ _ ari]; simp_all [cT, ey]; done) | (rw [aH _ ari]; simp_all [cT, ey]; omega) | (rw [aJ _ ari]; simp_all [cT, ey]; omega))]; done)
            | (refine aF.mk ⟨k + 1, ⟨hlt, cK hall hlt (by first | (refine aX _ ?_; simp_all [cT, ey]; done) | (refine aX _ ?_; simp_all [cT, ey]; intros; omega) | (rw [aH _ ari]; simp_all [cT, ey]; done) | (rw [aJ _ ari]; simp_all [cT, ey]; done) | (rw [aH _ ari]; simp_all [cT, ey]; omega) | (rw [aJ _ ari]; simp_all [cT, ey]; omega))⟩, by omega, ?_, ai.cons rfl ai.nil⟩
               exact hds)
            | (refine aT ?_
               have he := ee hall ari
               simp only [j4, hrows, h1, h2, decide_true, Bool.and_self, Bool.true_and, he])
theorem xY {l : List Int} (h : l.length ≠ 6) : cg l = false := by simp [cg, h]
theorem rW {l : List Int} {k : Nat} (hk : k < l.length) (h : tOk l[k] = false) : cg l = false := by
  have := ku (p := tOk) hk h
  simp only [cg, this, Bool.and_false]
theorem iZ (l : List Int) : ak av 168 [.one (dIs l)] (rB (cg l)) := by
  refine ac ah Tryz.func168 rfl Tryz.call168 Tryz.ntmps168 (congrArg Array.toList Tryz.results168) fun S => ?_; conv => whnf
  repeat' (first | (refine aw0 ?_) | (refine awx ?_; conv => whnf) | fail | (exact rr) | (refine And.intro rfl ?_; conv => whnf) | (refine AB.mk (fun h => ?_) (fun h => ?_) <;> (conv => whnf)))
  · rw [xY (by simp only [bne_iff_ne, ne_eq, decide_eq_true_eq, decide_eq_false_iff_not, beq_iff_eq, beq_eq_false_iff_ne, List.length_map, Bool.not_eq_true', Bool.not_eq_false', bne_eq_false_iff_eq] at *; omega)]
  · have h1 : l.length = 6 := (by simp only [bne_iff_ne, ne_eq, decide_eq_true_eq, decide_eq_false_iff_not, beq_iff_eq, beq_eq_false_iff_ne, List.length_map, Bool.not_eq_true', Bool.not_eq_false', bne_eq_false_iff_eq] at *; omega)
    clear h
    refine AWP.loopS (fun k : Nat => k ≤ l.length ∧ ∀ (j : Nat) (hj : j < k) (hl : j < l.length), tOk l[j] = true) [2, 4, 10, 11, 12, 13, 14, 15, 16, 17] (fun k => [(10, vI .i64 (k : Int))]) (fun _ => []) (fun k => l.length - k) 0 ⟨by omega, by omega⟩ ?_ ai.nil (fun k hR => ?_) <;> (conv => whnf)
    · exact whd
    · obtain ⟨hk, hall⟩ := hR
      repeat' (first | (refine aw0 ?_) | (refine awx ?_; conv => whnf) | fail | (refine AIx.mapF ari (fun hlt => ?_); conv => whnf) | (refine AW.i64 ari ari ?_; conv => whnf) | (refine aa.pure (bO _) rfl ?_; conv => whnf) | (refine ae.mk ⟨_, _, bO _, .inl rfl, ?_⟩; conv => whnf) | (exact rr) | (refine And.intro rfl ?_; conv => whnf) | (refine AB.mk (fun h => ?_) (fun h => ?_) <;> (conv => whnf)))
      · rw [rW hlt (by simpa [tOk] using h)]
      · refine aF.mk ⟨k + 1, ⟨hlt, dq (p := tOk) hall hlt (by simpa [tOk] using h)⟩, by omega, ?_, ai.nil⟩
        exact hds
      · refine aT ?_
        simp only [cg, eo (p := tOk) hall ari, h1, decide_true, Bool.and_self]
theorem re (l : List Int) (h6 : l.length = 6) : ak av 68 [.one (dIs l)] (rB (cg l)) := by
  refine ac ah Tryz.func68 rfl Tryz.call68 Tryz.ntmps68 (congrArg Array.toList Tryz.results68) fun S => ?_; conv => whnf
  repeat' (first | (refine aw0 ?_) | (refine awx ?_; conv => whnf) | fail | (exact rr) | (refine And.intro rfl ?_; conv => whnf) | (refine AB.mk (fun h => ?_) (fun h => ?_) <;> (conv => whnf)))
  refine AWP.loopS (fun k : Nat => k ≤ l.length ∧ ∀ (j : Nat) (hj : j < k) (hl : j < l.length), tOk l[j] = true) [2, 3, 4, 5, 6, 7, 8, 9, 10, 11, 12, 13, 14, 15] (fun k => [(3, vI .i64 (k : Int))]) (fun _ => []) (fun k => l.length - k) 0 ⟨by omega, by omega⟩ ?_ ai.nil (fun k hR => ?_) <;> (conv => whnf)
  · exact whd
  · obtain ⟨hk, hall⟩ := hR
    repeat' (first | (refine aw0 ?_) | (refine awx ?_; conv => whnf) | fail | (refine AIx.mapF ari (fun hlt => ?_); conv => whnf) | (refine AW.i64 ari ari ?_; conv => whnf) | (refine aa.pure (ci _) rfl ?_; conv => whnf) | (refine ae.mk ⟨_, _, ci _, .inl rfl, ?_⟩; conv => whnf) | (exact rr) | (refine And.intro rfl ?_; conv => whnf) | (refine AB.mk (fun h => ?_) (fun h => ?_) <;> (conv => whnf)))
    all_goals first
      | (rw [rW hlt (by simpa [tOk] using h)]; done)
      | (refine aF.mk ⟨k + 1, ⟨hlt, dq (p := tOk) hall hlt (by simpa [tOk] using h)⟩, by omega, ?_, ai.nil⟩
         exact hds)
      | (refine aT ?_
         simp only [cg, eo (p := tOk) hall ari, Bool.and_true]
         simp only [List.length_map]
         first | omega | (rw [Bool.eq_iff_iff]; simp only [beq_iff_eq, decide_eq_true_eq]; omega))
end Go.Proofs.YtcmknngafflcnaaGreat
