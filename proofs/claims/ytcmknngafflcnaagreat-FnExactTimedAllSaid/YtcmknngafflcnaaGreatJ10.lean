/- J10 -/
import Derived.Test.YtcmknngafflcnaaGreatJ09
import Derived.Test.YtcmknngafflcnaaGreatJ08
set_option linter.unusedVariables false
set_option linter.unusedSimpArgs false
set_option maxRecDepth 100000
namespace Go.Proofs.YtcmknngafflcnaaGreat
open Go.ChangeShapes Go.WideShapes Go.RowKit
def iF : List (List Nat) := bA [0, 1, 129, 12354, 1056835, 84676740, 1056835, 416645656903, 17730751197510, 2560014318047364, 181278753171460489, 12845977467030348042, 897045555741031948875, 47521137471379338482380, 4288735575005357318349066, 293183549505679279592354574, 20081519705366427266760327823, 1365642509910857212984157848464, 76856308401616789069458197521425, 6253342968325639574771053470696079, 420302552420489684782885030978978899, 28314001861456074263765295688011785172, 1898452381420072888874664982857379812565, 110179792301716847927724613560953444595030, 8484376297489341970054194503657943330759636]
def iH : List (List Nat) := bQ 7 [0, 1, 4, 13, 1498, 1579, 688]
def nr : List (List Nat) := bA [0, 1, 129, 12354, 1056835, 84676740, 6510088389, 486455648518, 84676740, 9731313861, 692614078729, 9332593195938001482, 372412241764185567624, 61988106853988610609349, 4255074752124109987799565, 294109435546166273008480590, 20079365412702027437605159759, 1115442315820822688641729237968, 92557395712311800847789419934030, 6237240827722640460953035062178834, 421307422008374165536698229213385619, 28312971324457482320480942509866681492, 1635055259542523860996072423339808351509, 127037440858952856457949213307312938963859]
def nI : List (List Nat) := bQ 11 [0, 1, 4, 13, 40, 170707, 170950, 171679, 6439, 13000, 32683]
def kE : List (List Nat) := bA [0, 1, 0, 8259, 1060930, 0, 0, 7, 0, 1416242985992649, 182708602476957829]
def kP : List (List Nat) := bQ 9 [19458, 19459, 19448, 19453, 19480, 19196, 13850, 14579, 6560]
def jH : List (List Nat) := bA [0, 1, 0, 8259, 1060930, 0, 6, 0, 29064, 2392455, 0, 11, 0, 23760614502006025142989, 4293456789134072521429125]
def jQ : List (List Nat) := bQ 13 [1594098, 1594099, 1594088, 1594093, 1594120, 1539890, 1540133, 1537460, 1538675, 1545236, 1121930, 1180979, 531440]
theorem A8 {a b : DStore} : a = b ↔ (a.disk = b.disk ∧ a.state = b.state ∧ a.num = b.num ∧ a.last = b.last ∧ a.busy = b.busy) := by
  cases a; cases b; simp [DStore.mk.injEq]
theorem D4 : cz iM = true := by decide
theorem GS (s : DState) : (cz s && cz iM && decide (s = iM)) = decide (s = iM) := by
  by_cases h : s = iM
  · simp [h, D4]
  · simp [h]
theorem lN (s : DStore) (hs : s.state.pairs.length ≤ 9223372036854775806) (hj : s.state.jobs.length ≤ 9223372036854775806) : ak av 144 [.agg s.ds] (rB (fE s)) := by
  refine ac ah Tryz.func144 rfl Tryz.call144 Tryz.ntmps144 (congrArg Array.toList Tryz.results144) fun S => ?_; conv => whnf
  repeat' (first | (refine aw0 ?_) | ((first | refine aw1 ?_ | refine aw2 ?_ | refine aw3 ?_ | refine aw4 ?_ | refine aw5 ?_ | refine aw6 ?_ | refine aw7 ?_ | refine aw8 ?_); conv => whnf) | ((first | refine bT ?_ | refine bF ?_); conv => whnf) | (refine AWP.drawK ah 1 7 iF iH (by kernel_rfl) (by kernel_rfl) (by kernel_rfl) rfl ?_; conv => whnf) | (refine aa.pure (fB s.disk) rfl ?_; conv => whnf) | (refine ae.mk ⟨_, _, fB s.disk, .inl rfl, ?_⟩; conv => whnf) | (refine aa.pure (sI) rfl ?_; conv => whnf) | (refine ae.mk ⟨_, _, sI, .inl rfl, ?_⟩; conv => whnf) | (refine aa.pure (q8 s.state iM hs (by decide) hj) rfl ?_; conv => whnf) | (refine ae.mk ⟨_, _, q8 s.state iM hs (by decide) hj, .inl rfl, ?_⟩; conv => whnf) | (exact rr) | (refine And.intro rfl ?_; conv => whnf) | (refine AB.mk (fun h => ?_) (fun h => ?_) <;> (conv => whnf)))
  all_goals
    refine aT ?_
    try simp only [GS] at *
    rw [Bool.eq_iff_iff]
    simp [fE, A8]
    simp_all
theorem sM (s : DStore) (up : Bool) (hs : s.state.pairs.length ≤ 9223372036854775806) (hj : s.state.jobs.length ≤ 9223372036854775806) : ak av 70 [.agg s.ds, .one (dB up)] (rB (if up then jk s else fE s)) := by
  refine ac ah Tryz.func70 rfl Tryz.call70 Tryz.ntmps70 (congrArg Array.toList Tryz.results70) fun S => ?_; conv => whnf
  repeat' (first | (refine aw0 ?_) | ((first | refine aw1 ?_ | refine aw2 ?_ | refine aw3 ?_ | refine aw4 ?_ | refine aw5 ?_ | refine aw6 ?_ | refine aw7 ?_ | refine aw8 ?_); conv => whnf) | ((first | refine bT ?_ | refine bF ?_); conv => whnf) | (refine aa.pure (vq s hs) rfl ?_; conv => whnf) | (refine ae.mk ⟨_, _, vq s hs, .inl rfl, ?_⟩; conv => whnf) | (refine aa.pure (lN s hs hj) rfl ?_; conv => whnf) | (refine ae.mk ⟨_, _, lN s hs hj, .inl rfl, ?_⟩; conv => whnf) | (exact rr) | (refine And.intro rfl ?_; conv => whnf) | (refine AB.mk (fun h => ?_) (fun h => ?_) <;> (conv => whnf)))
  all_goals
    refine aT ?_
    simp_all
theorem wT (w : DWant) : ak av 320 [.agg w.ds] (rB (eF w)) := by
  refine ac ah Tryz.func320 rfl Tryz.call320 Tryz.ntmps320 (congrArg Array.toList Tryz.results320) fun S => ?_; conv => whnf
  repeat' (first | (refine aw0 ?_) | ((first | refine aw1 ?_ | refine aw2 ?_ | refine aw3 ?_ | refine aw4 ?_ | refine aw5 ?_ | refine aw6 ?_ | refine aw7 ?_ | refine aw8 ?_); conv => whnf) | ((first | refine bT ?_ | refine bF ?_); conv => whnf) | (refine aa.pure (oL w.op) rfl ?_; conv => whnf) | (refine ae.mk ⟨_, _, oL w.op, .inl rfl, ?_⟩; conv => whnf) | (refine aa.pure (gT _) rfl ?_; conv => whnf) | (refine ae.mk ⟨_, _, gT _, .inl rfl, ?_⟩; conv => whnf) | (refine AOp.eqs (jL w.op op0) rfl rfl rfl rfl rfl ?_; conv => whnf) | (exact rr) | (refine And.intro rfl ?_; conv => whnf) | (refine AB.mk (fun h => ?_) (fun h => ?_) <;> (conv => whnf)))
  all_goals
    refine aT ?_
    simp_all [eF, op0]
def l13 (k : Int) : Int := if k == 1 then 1 else if k == 2 then 2 else if k == 3 then 3 else 0
theorem AZ (k : Int) : ak av 229 [.one (dI k)] (.val (pI (l13 k))) := by
  refine ac ah Tryz.func229 rfl Tryz.call229 Tryz.ntmps229 (congrArg Array.toList Tryz.results229) fun S => ?_; conv => whnf
  repeat' (first | (refine aw0 ?_) | ((first | refine aw1 ?_ | refine aw2 ?_ | refine aw3 ?_ | refine aw4 ?_ | refine aw5 ?_ | refine aw6 ?_ | refine aw7 ?_ | refine aw8 ?_); conv => whnf) | ((first | refine bT ?_ | refine bF ?_); conv => whnf) | (exact rr) | (refine And.intro rfl ?_; conv => whnf) | (refine AB.mk (fun h => ?_) (fun h => ?_) <;> (conv => whnf)))
  all_goals simp_all [l13]
theorem xl (w : DWant) : ak av 147 [.agg w.ds] (rB (eF w)) := by
  refine ac ah Tryz.func147 rfl Tryz.call147 Tryz.ntmps147 (congrArg Array.toList Tryz.results147) fun S => ?_; conv => whnf
  repeat' (first | (refine aw0 ?_) | ((first | refine aw1 ?_ | refine aw2 ?_ | refine aw3 ?_ | refine aw4 ?_ | refine aw5 ?_ | refine aw6 ?_ | refine aw7 ?_ | refine aw8 ?_); conv => whnf) | ((first | refine bT ?_ | refine bF ?_); conv => whnf) | (refine AWP.drawK ah 3 11 nr nI (by kernel_rfl) (by kernel_rfl) (by kernel_rfl) rfl ?_; conv => whnf) | (refine aa.pure (oZ w.op) rfl ?_; conv => whnf) | (refine ae.mk ⟨_, _, oZ w.op, .inl rfl, ?_⟩; conv => whnf) | (refine aa.pure (rf _) rfl ?_; conv => whnf) | (refine ae.mk ⟨_, _, rf _, .inl rfl, ?_⟩; conv => whnf) | (refine aa.pure (AZ w.kind) rfl ?_; conv => whnf) | (refine ae.mk ⟨_, _, AZ w.kind, .inl rfl, ?_⟩; conv => whnf) | (refine AOp.eqs (jL w.op op0) rfl rfl rfl rfl rfl ?_; conv => whnf) | (exact rr) | (refine And.intro rfl ?_; conv => whnf) | (refine AB.mk (fun h => ?_) (fun h => ?_) <;> (conv => whnf)))
  all_goals
    refine aT ?_
    first
      | (simp_all [eF, op0, l13]; done)
      | (by_cases k1 : w.kind = 1 <;> by_cases k2 : w.kind = 2 <;> by_cases k3 : w.kind = 3 <;> simp_all [eF, op0, l13])
theorem uz (a b : Int) : ak av 321 [.one (dI a), .one (dI b)] (rB ((a == 0 && b == 0) || (a == 1 && aj b 0 999))) := by
  refine ac ah Tryz.func321 rfl Tryz.call321 Tryz.ntmps321 (congrArg Array.toList Tryz.results321) fun S => ?_; conv => whnf
  repeat' (first | (refine aw0 ?_) | ((first | refine aw1 ?_ | refine aw2 ?_ | refine aw3 ?_ | refine aw4 ?_ | refine aw5 ?_ | refine aw6 ?_ | refine aw7 ?_ | refine aw8 ?_); conv => whnf) | ((first | refine bT ?_ | refine bF ?_); conv => whnf) | (refine aa.pure (eD _) rfl ?_; conv => whnf) | (refine ae.mk ⟨_, _, eD _, .inl rfl, ?_⟩; conv => whnf) | (exact rr) | (refine And.intro rfl ?_; conv => whnf) | (refine AB.mk (fun h => ?_) (fun h => ?_) <;> (conv => whnf)))
  all_goals
    refine aT ?_
    simp_all
theorem zX (w : DWant) (g : DGot) (q l : Int) : ak av 286 [.agg w.ds, .agg g.ds, .one (dI q), .one (dI l)] (rB (qD w g q l)) := by
  refine ac ah Tryz.func286 rfl Tryz.call286 Tryz.ntmps286 (congrArg Array.toList Tryz.results286) fun S => ?_; conv => whnf
  repeat' (first | (refine aw0 ?_) | ((first | refine aw1 ?_ | refine aw2 ?_ | refine aw3 ?_ | refine aw4 ?_ | refine aw5 ?_ | refine aw6 ?_ | refine aw7 ?_ | refine aw8 ?_); conv => whnf) | ((first | refine bT ?_ | refine bF ?_); conv => whnf) | (refine aa.pure (aC _ _ _) rfl ?_; conv => whnf) | (refine ae.mk ⟨_, _, aC _ _ _, .inl rfl, ?_⟩; conv => whnf) | (refine aa.pure (uz _ _) rfl ?_; conv => whnf) | (refine ae.mk ⟨_, _, uz _ _, .inl rfl, ?_⟩; conv => whnf) | (exact rr) | (refine And.intro rfl ?_; conv => whnf) | (refine AB.mk (fun h => ?_) (fun h => ?_) <;> (conv => whnf)))
  all_goals
    refine aT ?_
    first
      | (simp_all [qD]; done)
      | (simp_all [qD]; intros; omega)
theorem Kh (x : Int) : aj x 0 1 = (x == 0 || x == 1) := by
  rw [Bool.eq_iff_iff]; simp [aj]; omega
theorem xm (w : DWant) (g : DGot) (q l : Int) : ak av 148 [.agg w.ds, .agg g.ds, .one (dI q), .one (dI l)] (rB (qD w g q l)) := by
  refine ac ah Tryz.func148 rfl Tryz.call148 Tryz.ntmps148 (congrArg Array.toList Tryz.results148) fun S => ?_; conv => whnf
  repeat' (first | (refine aw0 ?_) | ((first | refine aw1 ?_ | refine aw2 ?_ | refine aw3 ?_ | refine aw4 ?_ | refine aw5 ?_ | refine aw6 ?_ | refine aw7 ?_ | refine aw8 ?_); conv => whnf) | ((first | refine bT ?_ | refine bF ?_); conv => whnf) | (refine aa.pure (aL _ _ _) rfl ?_; conv => whnf) | (refine ae.mk ⟨_, _, aL _ _ _, .inl rfl, ?_⟩; conv => whnf) | (refine aa.pure (lr _) rfl ?_; conv => whnf) | (refine ae.mk ⟨_, _, lr _, .inl rfl, ?_⟩; conv => whnf) | (exact rr) | (refine And.intro rfl ?_; conv => whnf) | (refine AB.mk (fun h => ?_) (fun h => ?_) <;> (conv => whnf)))
  all_goals
    refine aT ?_
    try simp only [Kh] at *
    first
      | (simp_all [qD]; done)
      | (have e0 : aj 0 0 999 = true := by decide
         rw [Bool.eq_iff_iff]
         simp_all [qD, aj]
         omega)
theorem yh {α : Type} {l : List α} {k : Nat} {d : α} (h : k < l.length) : l.getD k d = l[k] := by simp [List.getD_eq_getElem?_getD, h]
def clG (c : DClient) (k : Nat) : Bool := qD (c.todo.getD k ⟨0, op0, 0⟩) (c.gots.getD k ⟨0, 0, 0, 0⟩) ((k : Int) + 1) (la c.gots k)
theorem xX {c : DClient} {k : Nat} {l : Int} {b : Bool} (h1 : k < c.todo.length) (h2 : k < c.gots.length) (hl : l = la c.gots k) (h : qD c.todo[k] c.gots[k] ((k : Int) + 1) l = b) : clG c k = b := by
  rw [← h, hl]
  simp only [clG, yh h1, yh h2]
theorem wY {c : DClient} {k : Nat} (h2 : k < c.gots.length) : c.gots[k].index = la c.gots (k + 1) := by
  simp only [la, yh h2]
theorem BW {c : DClient} (h : ((c.id == 4 || c.id == 5) && c.todo.all eF && decide (c.todo.length ≤ 12) && decide (c.gots.length ≤ c.todo.length)) = false) : cE c = false := by simp only [cE, h, Bool.false_and]
theorem tY {c : DClient} {k : Nat} (hk : k < c.gots.length) (h : clG c k = false) : cE c = false := by
  have := FT (ok := clG c) hk h
  simp only [cE]
  unfold clG at this
  rw [this]
  simp
theorem qu {c : DClient} {b : Bool} (h : ((c.id == 4 || c.id == 5) && c.todo.all eF && decide (c.todo.length ≤ 12) && decide (c.gots.length ≤ c.todo.length)) = true) (ha : ∀ k, k < c.gots.length → clG c k = true) (hb : (c.last == la c.gots c.gots.length) = b) : cE c = b := by
  have := EI (ok := clG c) ha
  unfold clG at this
  simp only [cE, h, this, hb, Bool.true_and]
theorem Dd {p : Nat → Bool} {k : Nat} (h : ∀ j, j < k → p j = true) (hk : p k = true) : ∀ j, j < k + 1 → p j = true := fun j hj => by
  rcases Nat.lt_succ_iff_lt_or_eq.1 hj with h1 | h1
  · exact h j h1
  · rw [h1]; exact hk
theorem wX (l : List DWant) (hs : l.length ≤ 9223372036854775806) : ak av 285 [.one (.sl (l.map DWant.ds))] (rB (l.all eF && decide (l.length ≤ 12))) := by
  refine ac ah Tryz.func285 rfl Tryz.call285 Tryz.ntmps285 (congrArg Array.toList Tryz.results285) fun S => ?_; conv => whnf
  repeat' (first | (refine aw0 ?_) | ((first | refine aw1 ?_ | refine aw2 ?_ | refine aw3 ?_ | refine aw4 ?_ | refine aw5 ?_ | refine aw6 ?_ | refine aw7 ?_ | refine aw8 ?_); conv => whnf) | ((first | refine bT ?_ | refine bF ?_); conv => whnf) | (exact rr) | (refine And.intro rfl ?_; conv => whnf) | (refine AB.mk (fun h => ?_) (fun h => ?_) <;> (conv => whnf)))
  refine AWP.loopS (fun k : Nat => k ≤ l.length ∧ ∀ (j : Nat) (hj : j < k) (hl : j < l.length), eF l[j] = true) [2, 4, 7, 8, 9, 10, 11, 12, 13, 14] (fun k => [(7, vI .i64 (k : Int))]) (fun _ => []) (fun k => l.length - k) 0 ⟨by omega, by omega⟩ ?_ ai.nil (fun k hR => ?_) <;> (conv => whnf)
  · exact whd
  · obtain ⟨hk, hall⟩ := hR
    repeat' (first | (refine aw0 ?_) | ((first | refine aw1 ?_ | refine aw2 ?_ | refine aw3 ?_ | refine aw4 ?_ | refine aw5 ?_ | refine aw6 ?_ | refine aw7 ?_ | refine aw8 ?_); conv => whnf) | ((first | refine bT ?_ | refine bF ?_); conv => whnf) | (refine AIx.mapF ari (fun hlt => ?_); conv => whnf) | (refine AW.i64 ari ari ?_; conv => whnf) | (refine aa.pure (wT l[k]) rfl ?_; conv => whnf) | (refine ae.mk ⟨_, _, wT l[k], .inl rfl, ?_⟩; conv => whnf) | (exact rr) | (refine And.intro rfl ?_; conv => whnf) | (refine AB.mk (fun h => ?_) (fun h => ?_) <;> (conv => whnf)))
    all_goals first
      | (rw [ku (k := k) ari (by first | (simpa using h) | (exfalso; assumption)), Bool.false_and]; done)
      | (refine aF.mk ⟨k + 1, ⟨ari, dq hall ari (by simp_all)⟩, ari, ?_, ai.nil⟩
         exact hds)
      | (rw [eo (p := eF) hall ari, Bool.true_and]; first | done | (refine aT ?_; simp; done) | (refine aT ?_; simp; omega))
def fv (c : DClient) : Bool := (c.id == 4 || c.id == 5) && c.todo.all eF && decide (c.todo.length ≤ 12) && decide (c.gots.length ≤ c.todo.length)
theorem Cu {c : DClient} (h : fv c = false) : cE c = false := BW h
theorem Ff {c : DClient} (h : (!(c.todo.all eF && decide (c.todo.length ≤ 12))) = true) : fv c = false := by
  rw [Bool.not_eq_true'] at h
  rcases Bool.and_eq_false_iff.1 h with e | e <;> simp only [fv, e, Bool.and_false, Bool.false_and]
theorem iY (c : DClient) (ht : c.todo.length ≤ 9223372036854775806) (hg : c.gots.length ≤ 9223372036854775806) : ak av 241 [.agg c.ds] (rB (cE c)) := by
  refine ac ah Tryz.func241 rfl Tryz.call241 Tryz.ntmps241 (congrArg Array.toList Tryz.results241) fun S => ?_; conv => whnf
  repeat' (first | (refine aw0 ?_) | ((first | refine aw1 ?_ | refine aw2 ?_ | refine aw3 ?_ | refine aw4 ?_ | refine aw5 ?_ | refine aw6 ?_ | refine aw7 ?_ | refine aw8 ?_); conv => whnf) | ((first | refine bT ?_ | refine bF ?_); conv => whnf) | (refine aa.pure (wX c.todo ht) rfl ?_; conv => whnf) | (refine ae.mk ⟨_, _, wX c.todo ht, .inl rfl, ?_⟩; conv => whnf) | (exact rr) | (refine And.intro rfl ?_; conv => whnf) | (refine AB.mk (fun h => ?_) (fun h => ?_) <;> (conv => whnf)))
  all_goals first
    | (have hno : fv c = false := by (first | exact Ff (by assumption) | (simp_all [fv]; done) | (rw [← Bool.not_eq_true]; simp_all [fv]; done) | (rw [← Bool.not_eq_true]; simp_all [fv]; intros; omega) | (by_cases hw : c.todo.all eF = true <;> simp_all [fv] <;> intros <;> omega))
       rw [Cu hno]; done)
    | skip
  all_goals
    have hpre : fv c = true := by (first | (simp_all [fv]; done) | (simp_all [fv]; omega))
    have hle : c.gots.length ≤ c.todo.length := by simp only [fv, Bool.and_eq_true, decide_eq_true_iff] at hpre; exact hpre.2
    refine AWP.loopS (fun g : Nat × Int => g.1 ≤ c.gots.length ∧ g.2 = la c.gots g.1 ∧ ∀ j, j < g.1 → clG c j = true) [2, 3, 4, 5, 32, 33, 34, 35, 36, 37, 38, 39, 40, 41, 42, 43, 44, 45, 46, 47, 48, 49, 50] (fun g => [(3, vI .i64 g.2), (32, vI .i64 (g.1 : Int))]) (fun _ => [(1, .cells 99 (c.ds.map .d))]) (fun g => c.gots.length - g.1) (0, 0) ⟨by omega, rfl, by omega⟩ ?_ (ai.cons rfl ai.nil) (fun g hR => ?_) <;> (conv => whnf)
    · exact whd
    · obtain ⟨hk, hl, hall⟩ := hR
      repeat' (first | (refine aw0 ?_) | ((first | refine aw1 ?_ | refine aw2 ?_ | refine aw3 ?_ | refine aw4 ?_ | refine aw5 ?_ | refine aw6 ?_ | refine aw7 ?_ | refine aw8 ?_); conv => whnf) | ((first | refine bT ?_ | refine bF ?_); conv => whnf) | (refine AWP.drawK ah 7 9 kE kP (by kernel_rfl) (by kernel_rfl) (by kernel_rfl) rfl ?_; conv => whnf) | (refine AIx.mapF ari (fun hlt => ?_); conv => whnf) | (refine AW.i64 ari ari ?_; conv => whnf) | (refine aa.pure (zX c.todo[g.1] c.gots[g.1] _ _) rfl ?_; conv => whnf) | (refine ae.mk ⟨_, _, zX c.todo[g.1] c.gots[g.1] _ _, .inl rfl, ?_⟩; conv => whnf) | (exact rr) | (refine And.intro rfl ?_; conv => whnf) | (refine AB.mk (fun h => ?_) (fun h => ?_) <;> (conv => whnf)))
      all_goals first
        | (rw [tY (k := g.1) ari (xX ari ari hl (by first | (simpa using h) | (exfalso; assumption)))]; done)
        | (refine aF.mk ⟨(g.1 + 1, c.gots[g.1].index), ⟨ari, wY ari, Dd hall (xX ari ari hl (by first | (simpa using h) | (exfalso; assumption)))⟩, ari, ?_, ai.cons rfl ai.nil⟩
           exact hds)
        | (have hkk : g.1 = c.gots.length := ari
           rw [qu hpre (fun k hk' => hall k (by omega)) (by rw [← hkk, ← hl])])
theorem jd (c : DClient) (ht : c.todo.length ≤ 9223372036854775806) (hg : c.gots.length ≤ 9223372036854775806) : ak av 72 [.agg c.ds] (rB (cE c)) := by
  refine ac ah Tryz.func72 rfl Tryz.call72 Tryz.ntmps72 (congrArg Array.toList Tryz.results72) fun S => ?_; conv => whnf
  repeat' (first | (refine aw0 ?_) | ((first | refine aw1 ?_ | refine aw2 ?_ | refine aw3 ?_ | refine aw4 ?_ | refine aw5 ?_ | refine aw6 ?_ | refine aw7 ?_ | refine aw8 ?_); conv => whnf) | ((first | refine bT ?_ | refine bF ?_); conv => whnf) | (exact rr) | (refine And.intro rfl ?_; conv => whnf) | (refine AB.mk (fun h => ?_) (fun h => ?_) <;> (conv => whnf)))
  all_goals first
    | (have hno : fv c = false := by (first | (simp_all [fv]; done) | (rw [← Bool.not_eq_true]; simp_all [fv]; done) | (rw [← Bool.not_eq_true]; simp_all [fv]; intros; omega))
       rw [Cu hno]; done)
    | skip
  all_goals
    have hpre0 : ((c.id == 4 || c.id == 5) && decide (c.todo.length ≤ 12) && decide (c.gots.length ≤ c.todo.length)) = true := by (first | (simp_all; done) | (simp_all; omega))
    have hle : c.gots.length ≤ c.todo.length := by simp only [Bool.and_eq_true, decide_eq_true_iff] at hpre0; exact hpre0.2
    refine AWP.loopS (fun k : Nat => k ≤ c.todo.length ∧ ∀ (j : Nat) (hj : j < k) (hl : j < c.todo.length), eF c.todo[j] = true) [2, 3, 29, 30, 31, 32, 33, 34, 35, 36, 37, 38, 39, 40, 41, 42] (fun k => [(3, vI .i64 (k : Int))]) (fun _ => [(1, .cells 99 (c.ds.map .d))]) (fun k => c.todo.length - k) 0 ⟨by omega, by omega⟩ ?_ (ai.cons rfl ai.nil) (fun k hR => ?_) <;> (conv => whnf)
    · exact whd
    · obtain ⟨hk, hall⟩ := hR
      repeat' (first | (refine aw0 ?_) | ((first | refine aw1 ?_ | refine aw2 ?_ | refine aw3 ?_ | refine aw4 ?_ | refine aw5 ?_ | refine aw6 ?_ | refine aw7 ?_ | refine aw8 ?_); conv => whnf) | ((first | refine bT ?_ | refine bF ?_); conv => whnf) | (refine AIx.mapF ari (fun hlt => ?_); conv => whnf) | (refine AW.i64 ari ari ?_; conv => whnf) | (refine aa.pure (xl c.todo[k]) rfl ?_; conv => whnf) | (refine ae.mk ⟨_, _, xl c.todo[k], .inl rfl, ?_⟩; conv => whnf) | (exact rr) | (refine And.intro rfl ?_; conv => whnf) | (refine AB.mk (fun h => ?_) (fun h => ?_) <;> (conv => whnf)))
      all_goals first
        | (have hno : fv c = false := by
             have := ku (p := eF) (k := k) ari (by first | (simpa using h) | (exfalso; assumption))
             simp only [fv, this, Bool.and_false, Bool.false_and]
           rw [Cu hno]; done)
        | (refine aF.mk ⟨k + 1, ⟨ari, dq hall ari (by simp_all)⟩, ari, ?_, ai.cons rfl ai.nil⟩
           exact hds)
        | skip
      have hpre : fv c = true := by
        have e := eo (p := eF) hall ari
        simp only [fv, e, Bool.and_true]
        exact hpre0
      refine AWP.loopS (fun g : Nat × Int => g.1 ≤ c.gots.length ∧ g.2 = la c.gots g.1 ∧ ∀ j, j < g.1 → clG c j = true) [2, 4, 5, 43, 44, 45, 46, 47, 48, 49, 50, 51, 52, 53, 54, 55, 56, 57, 58, 59, 60, 61, 62, 63, 64, 65, 66, 67, 68, 69, 70] (fun g => [(4, vI .i64 g.2), (5, vI .i64 (g.1 : Int))]) (fun _ => [(1, .cells 99 (c.ds.map .d))]) (fun g => c.gots.length - g.1) (0, 0) ⟨by omega, rfl, by omega⟩ ?_ (ai.cons rfl ai.nil) (fun g hR => ?_) <;> (conv => whnf)
      · exact whd
      · obtain ⟨hk, hl, hall⟩ := hR
        repeat' (first | (refine aw0 ?_) | ((first | refine aw1 ?_ | refine aw2 ?_ | refine aw3 ?_ | refine aw4 ?_ | refine aw5 ?_ | refine aw6 ?_ | refine aw7 ?_ | refine aw8 ?_); conv => whnf) | ((first | refine bT ?_ | refine bF ?_); conv => whnf) | (refine AWP.drawK ah 12 13 jH jQ (by kernel_rfl) (by kernel_rfl) (by kernel_rfl) rfl ?_; conv => whnf) | (refine AIx.mapF ari (fun hlt => ?_); conv => whnf) | (refine AW.i64 ari ari ?_; conv => whnf) | (refine aa.pure (xm c.todo[g.1] c.gots[g.1] _ _) rfl ?_; conv => whnf) | (refine ae.mk ⟨_, _, xm c.todo[g.1] c.gots[g.1] _ _, .inl rfl, ?_⟩; conv => whnf) | (exact rr) | (refine And.intro rfl ?_; conv => whnf) | (refine AB.mk (fun h => ?_) (fun h => ?_) <;> (conv => whnf)))
        all_goals first
          | (rw [tY (k := g.1) ari (xX ari ari hl (by first | (simpa using h) | (exfalso; assumption)))]; done)
          | (refine aF.mk ⟨(g.1 + 1, c.gots[g.1].index), ⟨ari, wY ari, Dd hall (xX ari ari hl (by first | (simpa using h) | assumption | (exfalso; assumption)))⟩, ari, ?_, ai.cons rfl ai.nil⟩
             exact hds)
          | (have hkk : g.1 = c.gots.length := ari
             rw [qu hpre (fun k hk' => hall k (by omega)) (by rw [← hkk, ← hl])])
end Go.Proofs.YtcmknngafflcnaaGreat
namespace Go.Proofs.YtcmknngafflcnaaGreat
open Go.ChangeShapes Go.WideShapes Go.RowKit
def me : List (List Nat) := bA [0, 1, 0, 8259, 1060930, 0, 0, 391, 33222, 2384328, 90639551170638217]
def mC : List (List Nat) := bQ 10 [58824, 58825, 58814, 58819, 58846, 1700, 728, 1214, 3401, 9962]
def yf : DEntry := ⟨0, 0, 0, 0, ⟨0, 0, 0, 0, 0⟩⟩
theorem cp {b : DBook} (h : bP b = true) : (0 ≤ b.base ∧ b.base ≤ 2000) ∧ tOk b.time = true ∧ b.entries.length ≤ 20 ∧ cX b.entries = true := by
  simp only [bP, Bool.and_eq_true, aj, decide_eq_true_eq] at h
  obtain ⟨⟨⟨⟨⟨h1, h2⟩, _⟩, h4⟩, h5⟩, _⟩ := h
  exact ⟨h1, h2, h4, h5⟩
theorem pV {b : DBook} (h : bP b = true) {k : Nat} (hk : k < b.entries.length) : bW b.entries[k] = true := by
  have h5 := (cp h).2.2.2
  simp only [cX, Bool.and_eq_true] at h5
  exact ox h5.1.2 hk
theorem BL {b : DBook} (h : bP b = true) {e : DEntry} {r : List DEntry} (he : b.entries = e :: r) : e.index = b.base + 1 := by
  simp only [bP, Bool.and_eq_true] at h
  have h6 := h.2
  rw [he] at h6
  simp only [Bool.and_eq_true, beq_iff_eq] at h6
  exact h6.1
theorem Gg {l : List DEntry} (hk : 0 < l.length) : ∃ r, l = l[0] :: r := by
  cases l with
  | nil => simp at hk
  | cons e r => exact ⟨r, rfl⟩
theorem kw {b : DBook} (h : bP b = true) : ∀ (k : Nat) (hk : k < b.entries.length), b.entries[k].index = b.base + 1 + k := by
  intro k
  induction k with
  | zero =>
    intro hk
    obtain ⟨r, hr⟩ := Gg hk
    have := BL h hr
    omega
  | succ k ih =>
    intro hk
    have h5 := (cp h).2.2.2
    simp only [cX, Bool.and_eq_true] at h5
    have := m4 h5.2 hk
    simp only [ja, Bool.and_eq_true, beq_iff_eq] at this
    have := ih (by omega)
    omega
theorem dC {b : DBook} (h : bP b = true) : b.base ≤ cM b ∧ cM b ≤ 2000 := by
  have h1 := (cp h).1
  refine ⟨by unfold cM; omega, ?_⟩
  rcases Nat.eq_zero_or_pos b.entries.length with h0 | h0
  · unfold cM; omega
  · have h2 := kw h (b.entries.length - 1) (by omega)
    have h3 := ig (pV h (k := b.entries.length - 1) (by omega))
    have h4 := h3.2.2
    simp only [aj, Bool.and_eq_true, decide_eq_true_eq] at h4
    unfold cM
    omega
theorem GG {l : List DEntry} : ∀ {c m : Int}, (∀ (k : Nat) (hk : k < l.length), l[k].index = c + k) → l.filter (fun e => decide (e.index < m)) = l.take (m - c).toNat := by
  induction l with
  | nil => intro c m _; simp
  | cons e r ih =>
    intro c m h
    have h0 := h 0 (by simp)
    have hr := ih (c := c + 1) (m := m) fun k hk => by
      have := h (k + 1) (by simpa using hk)
      simp only [List.getElem_cons_succ] at this
      omega
    simp only [List.getElem_cons_zero] at h0
    by_cases hm : e.index < m
    · rw [List.filter_cons_of_pos (by simpa using hm), hr]
      have : (m - c).toNat = (m - (c + 1)).toNat + 1 := by omega
      rw [this, List.take_succ_cons]
    · rw [List.filter_cons_of_neg (by simpa using hm), hr]
      have e1 : (m - c).toNat = 0 := by omega
      have e2 : (m - (c + 1)).toNat = 0 := by omega
      rw [e1, e2]; simp
def hG (b : DBook) (lo hi : Int) : List DEntry := b.entries.filter fun e => aj e.index lo hi
theorem px {l : List DEntry} {p q : DEntry → Bool} (h : ∀ e ∈ l, p e = q e) : l.filter p = l.filter q := by
  induction l with
  | nil => rfl
  | cons e r ih =>
    have h0 := h e (by simp)
    have hr := ih fun x hx => h x (List.mem_cons_of_mem _ hx)
    cases hp : p e with
    | true => rw [List.filter_cons_of_pos hp, List.filter_cons_of_pos (by rw [← h0, hp]), hr]
    | false => rw [List.filter_cons_of_neg (by simp [hp]), List.filter_cons_of_neg (by simp [← h0, hp]), hr]
theorem Gv {b : DBook} (h : bP b = true) (i : Int) : hG b (b.base + 1) i = jK b i := by
  have h1 : hG b (b.base + 1) i = b.entries.filter fun e => decide (e.index < i + 1) := px fun e he => by
    obtain ⟨k, hk, rfl⟩ := List.getElem_of_mem he
    have := kw h k hk
    rw [Bool.eq_iff_iff]
    simp [aj]
    omega
  rw [h1, GG (c := b.base + 1) (kw h)]
  unfold jK
  congr 1
  omega
theorem Ct {b : DBook} (h : bP b = true) (d : Int) : hG b (d + 1) 2000 = d5 b d := px fun e he => by
  obtain ⟨k, hk, rfl⟩ := List.getElem_of_mem he
  have h3 := (ig (pV h hk)).2.2
  rw [Bool.eq_iff_iff]
  simp [aj] at h3 ⊢
  omega
theorem oN (b : DBook) (h : bP b = true) : ak av 295 [.agg b.ds] (.val (pI (cM b))) := by
  have hp := cp h
  have hq := dC h
  refine ac ah Tryz.func295 rfl Tryz.call295 Tryz.ntmps295 (congrArg Array.toList Tryz.results295) fun S => ?_; conv => whnf
  repeat' (first | (refine aw0 ?_) | ((first | refine aw1 ?_ | refine aw2 ?_ | refine aw3 ?_ | refine aw4 ?_ | refine aw5 ?_ | refine aw6 ?_ | refine aw7 ?_ | refine aw8 ?_); conv => whnf) | ((first | refine bT ?_ | refine bF ?_); conv => whnf) | (refine AW.i64 ari ari ?_; conv => whnf) | (exact rr) | (refine And.intro rfl ?_; conv => whnf) | (refine AB.mk (fun h => ?_) (fun h => ?_) <;> (conv => whnf)))
  all_goals simp [cM]
theorem xo (b : DBook) (h : bP b = true) : ak av 214 [.agg b.ds] (.val (pI (cM b))) := by
  have hp := cp h
  have hq := dC h
  refine ac ah Tryz.func214 rfl Tryz.call214 Tryz.ntmps214 (congrArg Array.toList Tryz.results214) fun S => ?_; conv => whnf
  repeat' (first | (refine aw0 ?_) | ((first | refine aw1 ?_ | refine aw2 ?_ | refine aw3 ?_ | refine aw4 ?_ | refine aw5 ?_ | refine aw6 ?_ | refine aw7 ?_ | refine aw8 ?_); conv => whnf) | ((first | refine bT ?_ | refine bF ?_); conv => whnf) | (refine AW.i64 ari ari ?_; conv => whnf) | (exact rr) | (refine And.intro rfl ?_; conv => whnf) | (refine AB.mk (fun h => ?_) (fun h => ?_) <;> (conv => whnf)))
  all_goals simp [cM]
def yO (b : DBook) (i : Int) : Int := (b.entries.getD (i - b.base - 1).toNat yf).time
theorem sN (b : DBook) (i : Int) (h : bP b = true) (h1 : b.base + 1 ≤ i) (h2 : i ≤ cM b) : ak av 271 [.agg b.ds, .one (dI i)] (.val (pI (yO b i))) := by
  have hp := cp h
  have hq := dC h
  obtain ⟨k, hk⟩ : ∃ k : Nat, i - b.base - 1 = k := ⟨(i - b.base - 1).toNat, by omega⟩
  have hkl : k < b.entries.length := by unfold cM at h2; omega
  refine ac ah Tryz.func271 rfl Tryz.call271 Tryz.ntmps271 (congrArg Array.toList Tryz.results271) fun S => ?_; conv => whnf
  repeat' (first | (refine aw0 ?_) | ((first | refine aw1 ?_ | refine aw2 ?_ | refine aw3 ?_ | refine aw4 ?_ | refine aw5 ?_ | refine aw6 ?_ | refine aw7 ?_ | refine aw8 ?_); conv => whnf) | ((first | refine bT ?_ | refine bF ?_); conv => whnf) | (refine AW.i64 (by omega) (by omega) ?_; conv => whnf) | (refine AIx.at k (DEntry.ds (b.entries[k]'hkl)) hk (by simp [hkl]) ?_; conv => whnf) | (exact rr) | (refine And.intro rfl ?_; conv => whnf) | (refine AB.mk (fun h => ?_) (fun h => ?_) <;> (conv => whnf)))
  · exfalso; simp at h; omega
  · have e : (i - b.base - 1).toNat = k := by omega
    simp only [yO, e, List.getD_eq_getElem?_getD, List.getElem?_eq_getElem hkl, Option.getD_some]
theorem E0 (e : DEntry) : ak av 334 [.agg e.ds] (.val (.agg (bI e).ds)) := by
  refine ac ah Tryz.func334 rfl Tryz.call334 Tryz.ntmps334 (congrArg Array.toList Tryz.results334) fun S => ?_; conv => whnf
  repeat' (first | (refine aw0 ?_) | ((first | refine aw1 ?_ | refine aw2 ?_ | refine aw3 ?_ | refine aw4 ?_ | refine aw5 ?_ | refine aw6 ?_ | refine aw7 ?_ | refine aw8 ?_); conv => whnf) | ((first | refine bT ?_ | refine bF ?_); conv => whnf) | (refine aa.pure (gt e) rfl ?_; conv => whnf) | (refine ae.mk ⟨_, _, gt e, .inl rfl, ?_⟩; conv => whnf) | (exact rr) | (refine And.intro rfl ?_; conv => whnf) | (refine AB.mk (fun h => ?_) (fun h => ?_) <;> (conv => whnf)))
  all_goals
    simp_all [bI, DAck.ds]
theorem AM (e : DEntry) : ak av 270 [.agg e.ds] (.val (.agg (bI e).ds)) := by
  refine ac ah Tryz.func270 rfl Tryz.call270 Tryz.ntmps270 (congrArg Array.toList Tryz.results270) fun S => ?_; conv => whnf
  repeat' (first | (refine aw0 ?_) | ((first | refine aw1 ?_ | refine aw2 ?_ | refine aw3 ?_ | refine aw4 ?_ | refine aw5 ?_ | refine aw6 ?_ | refine aw7 ?_ | refine aw8 ?_); conv => whnf) | ((first | refine bT ?_ | refine bF ?_); conv => whnf) | (refine aa.pure (gD e) rfl ?_; conv => whnf) | (refine ae.mk ⟨_, _, gD e, .inl rfl, ?_⟩; conv => whnf) | (exact rr) | (refine And.intro rfl ?_; conv => whnf) | (refine AB.mk (fun h => ?_) (fun h => ?_) <;> (conv => whnf)))
  all_goals
    simp_all [bI, DAck.ds]
theorem EV {l : List DEntry} {p : DEntry → Bool} {k : Nat} (hk : k < l.length) (h : p l[k] = true) : (l.take (k + 1)).filter p = (l.take k).filter p ++ [l[k]] := by
  rw [List.take_succ_eq_append_getElem hk, List.filter_append, List.filter_cons_of_pos h, List.filter_nil]
theorem Gb {l : List DEntry} {p : DEntry → Bool} {k : Nat} (hk : k < l.length) (h : p l[k] = false) : (l.take (k + 1)).filter p = (l.take k).filter p := by
  rw [List.take_succ_eq_append_getElem hk, List.filter_append, List.filter_cons_of_neg (by simp [h]), List.filter_nil, List.append_nil]
theorem EU {l : List DEntry} {p : DEntry → Bool} {k : Nat} : ((l.take k).filter p).length ≤ l.length := Nat.le_trans (List.length_filter_le ..) (by simp; omega)
theorem lp (b : DBook) (lo hi : Int) (h20 : b.entries.length ≤ 20) : ak av 269 [.agg b.ds, .one (dI lo), .one (dI hi)] (.val (.one (.sl ((hG b lo hi).map DEntry.ds)))) := by
  refine ac ah Tryz.func269 rfl Tryz.call269 Tryz.ntmps269 (congrArg Array.toList Tryz.results269) fun S => ?_; conv => whnf
  repeat' (first | (refine aw0 ?_) | ((first | refine aw1 ?_ | refine aw2 ?_ | refine aw3 ?_ | refine aw4 ?_ | refine aw5 ?_ | refine aw6 ?_ | refine aw7 ?_ | refine aw8 ?_); conv => whnf) | ((first | refine bT ?_ | refine bF ?_); conv => whnf) | (exact rr) | (refine And.intro rfl ?_; conv => whnf) | (refine AB.mk (fun h => ?_) (fun h => ?_) <;> (conv => whnf)))
  refine AWP.loopS (fun k : Nat => k ≤ b.entries.length) (9 :: [7, 8, 10, 11, 12, 13, 14, 15, 16, 17, 18, 19, 20, 21, 22, 23, 24, 25, 26, 27, 28, 29, 30, 31, 32, 33]) (fun k => [(7, .one (.own 9)), (8, vI .i64 (k : Int))]) (fun k => [(9, .row 291 9 (((b.entries.take k).filter fun e => aj e.index lo hi).map DEntry.ds)), (3, .cells 77 (b.ds.map .d))]) (fun k => b.entries.length - k) 0 (by omega) ?_ (ai.cons rfl (ai.cons rfl ai.nil)) (fun k hk => ?_) <;> (conv => whnf)
  · exact whd
  · have hfl : ((b.entries.take k).filter fun e => aj e.index lo hi).length ≤ b.entries.length := EU
    repeat' (first | (refine aw0 ?_) | ((first | refine aw1 ?_ | refine aw2 ?_ | refine aw3 ?_ | refine aw4 ?_ | refine aw5 ?_ | refine aw6 ?_ | refine aw7 ?_ | refine aw8 ?_); conv => whnf) | ((first | refine bT ?_ | refine bF ?_); conv => whnf) | (refine AIx.mapF ari (fun hlt => ?_); conv => whnf) | (refine AW.i64 ari ari ?_; conv => whnf) | (refine aa.pure (aL _ _ _) rfl ?_; conv => whnf) | (refine ae.mk ⟨_, _, aL _ _ _, .inl rfl, ?_⟩; conv => whnf) | (refine br (fun x hx => by obtain ⟨y, _, rfl⟩ := List.mem_map.1 hx; rfl) ?_; conv => whnf) | (refine bx (by simp only [List.length_map, List.length_nil, List.length_append, List.length_cons] <;> omega) ?_; conv => whnf) | (exact rr) | (refine And.intro rfl ?_; conv => whnf) | (refine AB.mk (fun h => ?_) (fun h => ?_) <;> (conv => whnf)))
    all_goals first
      | (refine aF.mk ⟨k + 1, ari, ari, ?_, ai.cons (congrArg some (congrArg (AO.row 291 9) (by rw [EV ari (by assumption)]; simp only [List.map_append, List.map_cons, List.map_nil]; rfl))) (ai.cons rfl ai.nil)⟩
         exact hds)
      | (refine aF.mk ⟨k + 1, ari, ari, ?_, ai.cons (congrArg some (congrArg (AO.row 291 9) (by rw [Gb ari (by assumption)]))) (ai.cons rfl ai.nil)⟩
         exact hds)
      | (have hkk : k = b.entries.length := ari
         subst hkk
         simp only [List.take_length, hG])
theorem HK {P : List DEntry} {l : List DAck} (hl : P.length = l.length) {k : Nat} (hk : k < P.length) (h : (l[k]'(by omega) != bI P[k]) = true) : decide (l = P.map bI) = false := decide_eq_false fun e => by
  subst e
  simp at h
theorem FR {P : List DEntry} {l : List DAck} (hl : P.length = l.length) (h : ∀ (j : Nat) (h1 : j < P.length), l[j]'(by omega) = bI P[j]) : decide (l = P.map bI) = true := decide_eq_true (List.ext_getElem (by simp [hl]) fun j h1 h2 => by
  simp at h2
  rw [h j h2]; simp)
theorem Fp {P : List DEntry} {l : List DAck} {k : Nat} {hl : P.length = l.length} (h : ∀ (j : Nat) (hj : j < k) (h1 : j < P.length), l[j]'(by omega) = bI P[j]) {h1 : k < P.length} (hk : l[k]'(by omega) = bI P[k]) : ∀ (j : Nat) (hj : j < k + 1) (h1 : j < P.length), l[j]'(by omega) = bI P[j] := fun j hj h1 => by
  rcases Nat.lt_succ_iff_lt_or_eq.1 hj with h2 | h2
  · exact h j h2 h1
  · subst h2; exact hk
theorem vA (n : DLogNode) (hb : bP n.book = true) (hd : n.book.base ≤ n.durable ∧ n.durable ≤ cM n.book) (ho : n.owe.length ≤ 9223372036854775806) : ak av 215 [.agg n.ds] (rB (decide (n.owe = (d5 n.book n.durable).map bI))) := by
  have hp := cp hb
  have hq := dC hb
  have h20 := hp.2.2.1
  rw [← Ct hb]
  have hlen : (hG n.book (n.durable + 1) 2000).length ≤ 20 := Nat.le_trans (List.length_filter_le ..) h20
  refine ac ah Tryz.func215 rfl Tryz.call215 Tryz.ntmps215 (congrArg Array.toList Tryz.results215) fun S => ?_; conv => whnf
  repeat' (first | (refine aw0 ?_) | ((first | refine aw1 ?_ | refine aw2 ?_ | refine aw3 ?_ | refine aw4 ?_ | refine aw5 ?_ | refine aw6 ?_ | refine aw7 ?_ | refine aw8 ?_); conv => whnf) | ((first | refine bT ?_ | refine bF ?_); conv => whnf) | (refine AW.i64 (by omega) (by omega) ?_; conv => whnf) | (refine aa.pure (lp n.book _ _ h20) rfl ?_; conv => whnf) | (refine ae.mk ⟨_, _, lp n.book _ _ h20, .inl rfl, ?_⟩; conv => whnf) | (exact rr) | (refine And.intro rfl ?_; conv => whnf) | (refine AB.mk (fun h => ?_) (fun h => ?_) <;> (conv => whnf)))
  · have hne : (hG n.book (n.durable + 1) 2000).length ≠ n.owe.length := (by simp only [bne_iff_ne, ne_eq, decide_eq_true_eq, decide_eq_false_iff_not, List.length_map, bne_eq_false_iff_eq] at *; omega)
    rw [decide_eq_false fun e => hne (by rw [e, List.length_map])]
  · have hln : (hG n.book (n.durable + 1) 2000).length = n.owe.length := (by simp only [bne_iff_ne, ne_eq, decide_eq_true_eq, decide_eq_false_iff_not, List.length_map, bne_eq_false_iff_eq] at *; omega)
    clear h
    refine AWP.loopS (fun k : Nat => k ≤ (hG n.book (n.durable + 1) 2000).length ∧ ∀ (j : Nat) (hj : j < k) (h1 : j < (hG n.book (n.durable + 1) 2000).length), n.owe[j]'(by omega) = bI (hG n.book (n.durable + 1) 2000)[j]) [2, 4, 17, 18, 19, 20, 21, 22, 23, 24, 25, 26, 27, 28, 29, 30, 31, 32, 33] (fun k => [(4, vI .i64 (k : Int))]) (fun _ => [(1, .cells 80 (n.ds.map .d))]) (fun k => (hG n.book (n.durable + 1) 2000).length - k) 0 ⟨by omega, by omega⟩ ?_ (ai.cons rfl ai.nil) (fun k hR => ?_) <;> (conv => whnf)
    · exact whd
    · obtain ⟨hk, hall⟩ := hR
      repeat' (first | (refine aw0 ?_) | ((first | refine aw1 ?_ | refine aw2 ?_ | refine aw3 ?_ | refine aw4 ?_ | refine aw5 ?_ | refine aw6 ?_ | refine aw7 ?_ | refine aw8 ?_); conv => whnf) | ((first | refine bT ?_ | refine bF ?_); conv => whnf) | (refine AWP.drawK ah 7 10 me mC (by kernel_rfl) (by kernel_rfl) (by kernel_rfl) rfl ?_; conv => whnf) | (refine AIx.mapF ari (fun hlt => ?_); conv => whnf) | (refine AIx.mapF (l := n.owe) (by clear hall; simp only [List.length_map, decide_eq_true_eq] at *; omega) (fun hlt => ?_); conv => whnf) | (refine AW.i64 ari ari ?_; conv => whnf) | (refine aa.pure (AM _) rfl ?_; conv => whnf) | (refine ae.mk ⟨_, _, AM _, .inl rfl, ?_⟩; conv => whnf) | (refine AOp.eqs (rE _ _) rfl rfl rfl rfl rfl ?_; conv => whnf) | (exact rr) | (refine And.intro rfl ?_; conv => whnf) | (refine AB.mk (fun h => ?_) (fun h => ?_) <;> (conv => whnf)))
      all_goals first
        | (rw [HK hln (k := k) ari (by first | (simpa using h) | (exfalso; assumption))]; done)
        | (refine aF.mk ⟨k + 1, ⟨ari, Fp (hl := hln) (h1 := ari) hall (by simpa using h)⟩, ari, ?_, ai.cons rfl ai.nil⟩
           exact hds)
        | (have hkk : k = (hG n.book (n.durable + 1) 2000).length := ari
           rw [FR hln fun j h1 => hall j (by omega) h1])
theorem ta {a b : DHead} : a = b ↔ (a.num = b.num ∧ a.base = b.base ∧ a.time = b.time ∧ a.seen = b.seen) := by
  cases a; cases b; simp [DHead.mk.injEq]
theorem fy (a b : DHead) (ha : a.seen.length ≤ 9223372036854775806) : ak av 300 [.agg a.ds, .agg b.ds] (rB (decide (a = b))) := by
  refine ac ah Tryz.func300 rfl Tryz.call300 Tryz.ntmps300 (congrArg Array.toList Tryz.results300) fun S => ?_; conv => whnf
  repeat' (first | (refine aw0 ?_) | ((first | refine aw1 ?_ | refine aw2 ?_ | refine aw3 ?_ | refine aw4 ?_ | refine aw5 ?_ | refine aw6 ?_ | refine aw7 ?_ | refine aw8 ?_); conv => whnf) | ((first | refine bT ?_ | refine bF ?_); conv => whnf) | (refine aa.pure (dO a.seen b.seen ha) rfl ?_; conv => whnf) | (refine ae.mk ⟨_, _, dO a.seen b.seen ha, .inl rfl, ?_⟩; conv => whnf) | (exact rr) | (refine And.intro rfl ?_; conv => whnf) | (refine AB.mk (fun h => ?_) (fun h => ?_) <;> (conv => whnf)))
  all_goals
    refine aT ?_
    rw [Bool.eq_iff_iff]
    simp only [decide_eq_true_iff, ta]
    simp_all
theorem fZ (a b : DHead) (ha : a.seen.length ≤ 9223372036854775806) : ak av 216 [.agg a.ds, .agg b.ds] (rB (decide (a = b))) := by
  refine ac ah Tryz.func216 rfl Tryz.call216 Tryz.ntmps216 (congrArg Array.toList Tryz.results216) fun S => ?_; conv => whnf
  repeat' (first | (refine aw0 ?_) | ((first | refine aw1 ?_ | refine aw2 ?_ | refine aw3 ?_ | refine aw4 ?_ | refine aw5 ?_ | refine aw6 ?_ | refine aw7 ?_ | refine aw8 ?_); conv => whnf) | ((first | refine bT ?_ | refine bF ?_); conv => whnf) | (refine aa.pure (jf a.seen b.seen ha) rfl ?_; conv => whnf) | (refine ae.mk ⟨_, _, jf a.seen b.seen ha, .inl rfl, ?_⟩; conv => whnf) | (exact rr) | (refine And.intro rfl ?_; conv => whnf) | (refine AB.mk (fun h => ?_) (fun h => ?_) <;> (conv => whnf)))
  all_goals
    refine aT ?_
    rw [Bool.eq_iff_iff]
    simp only [decide_eq_true_iff, ta]
    simp_all
theorem CS {a b : DBook} : a = b ↔ (a.base = b.base ∧ a.time = b.time ∧ a.entries = b.entries) := by
  cases a; cases b; simp [DBook.mk.injEq]
theorem sg (a b : DBook) (ha : a.entries.length ≤ 9223372036854775806) : ak av 301 [.agg a.ds, .agg b.ds] (rB (decide (a = b))) := by
  refine ac ah Tryz.func301 rfl Tryz.call301 Tryz.ntmps301 (congrArg Array.toList Tryz.results301) fun S => ?_; conv => whnf
  repeat' (first | (refine aw0 ?_) | ((first | refine aw1 ?_ | refine aw2 ?_ | refine aw3 ?_ | refine aw4 ?_ | refine aw5 ?_ | refine aw6 ?_ | refine aw7 ?_ | refine aw8 ?_); conv => whnf) | ((first | refine bT ?_ | refine bF ?_); conv => whnf) | (refine aa.pure (sO a.entries b.entries ha) rfl ?_; conv => whnf) | (refine ae.mk ⟨_, _, sO a.entries b.entries ha, .inl rfl, ?_⟩; conv => whnf) | (exact rr) | (refine And.intro rfl ?_; conv => whnf) | (refine AB.mk (fun h => ?_) (fun h => ?_) <;> (conv => whnf)))
  all_goals
    refine aT ?_
    rw [Bool.eq_iff_iff]
    simp only [decide_eq_true_iff, CS]
    simp_all
theorem f9 (a : DHead) : ak av 219 [.agg a.ds] (rB (decide (a = lE))) := by
  refine ac ah Tryz.func219 rfl Tryz.call219 Tryz.ntmps219 (congrArg Array.toList Tryz.results219) fun S => ?_; conv => whnf
  repeat' (first | (refine aw0 ?_) | ((first | refine aw1 ?_ | refine aw2 ?_ | refine aw3 ?_ | refine aw4 ?_ | refine aw5 ?_ | refine aw6 ?_ | refine aw7 ?_ | refine aw8 ?_); conv => whnf) | ((first | refine bT ?_ | refine bF ?_); conv => whnf) | (exact rr) | (refine And.intro rfl ?_; conv => whnf) | (refine AB.mk (fun h => ?_) (fun h => ?_) <;> (conv => whnf)))
  all_goals
    refine aT ?_
    rw [Bool.eq_iff_iff]
    simp only [decide_eq_true_iff, ta]
    simp_all [lE]
theorem FV {a b : DDisk} : a = b ↔ (a.kept = b.kept ∧ a.wait = b.wait) := by
  cases a; cases b; simp [DDisk.mk.injEq]
theorem i6 (a b : DDisk) (h1 : a.kept.length ≤ 9223372036854775806) (h2 : ∀ y ∈ a.kept, y.length ≤ 9223372036854775806) (h3 : a.wait.length ≤ 9223372036854775806) (h4 : ∀ y ∈ a.wait, y.row.length ≤ 9223372036854775806) : ak av 299 [.agg a.ds, .agg b.ds] (rB (decide (a = b))) := by
  refine ac ah Tryz.func299 rfl Tryz.call299 Tryz.ntmps299 (congrArg Array.toList Tryz.results299) fun S => ?_; conv => whnf
  repeat' (first | (refine aw0 ?_) | ((first | refine aw1 ?_ | refine aw2 ?_ | refine aw3 ?_ | refine aw4 ?_ | refine aw5 ?_ | refine aw6 ?_ | refine aw7 ?_ | refine aw8 ?_); conv => whnf) | ((first | refine bT ?_ | refine bF ?_); conv => whnf) | (refine aa.pure (vF a.kept b.kept h1 h2) rfl ?_; conv => whnf) | (refine ae.mk ⟨_, _, vF a.kept b.kept h1 h2, .inl rfl, ?_⟩; conv => whnf) | (refine aa.pure (rh a.wait b.wait h3 h4) rfl ?_; conv => whnf) | (refine ae.mk ⟨_, _, rh a.wait b.wait h3 h4, .inl rfl, ?_⟩; conv => whnf) | (exact rr) | (refine And.intro rfl ?_; conv => whnf) | (refine AB.mk (fun h => ?_) (fun h => ?_) <;> (conv => whnf)))
  all_goals
    refine aT ?_
    rw [Bool.eq_iff_iff]
    simp only [decide_eq_true_iff, FV]
    simp_all
end Go.Proofs.YtcmknngafflcnaaGreat
