/- J09 -/
import Derived.Test.YtcmknngafflcnaaGreatJ08
import Derived.Test.YtcmknngafflcnaaGreatJ02
set_option linter.unusedVariables false
set_option linter.unusedSimpArgs false
set_option maxRecDepth 100000
namespace Go.Proofs.YtcmknngafflcnaaGreat
open Go.ChangeShapes Go.WideShapes Go.RowKit
def ma : List (List Nat) := bA [0, 1, 0, 8259, 1060930, 84414660, 0, 7, 26666395521543]
def my : List (List Nat) := bQ 8 [5850, 5851, 5840, 5845, 5872, 5953, 728, 1457]
def jF : List (List Nat) := bA [0, 0, 66, 12417, 0, 0, 326, 29061, 17663105454471]
def jO : List (List Nat) := bQ 8 [6486, 6482, 6484, 6493, 566, 242, 404, 1133]
def kB : List (List Nat) := bA [0, 0, 66, 12417, 0, 0, 326, 29061, 17663105454471]
def kM : List (List Nat) := bQ 8 [6486, 6482, 6484, 6493, 566, 242, 404, 1133]
theorem xx {s : DState} (h : (aj s.index 0 2000 && tOk s.time && cf s.pairs && cr s.jobs && il s.lease) = false) : cz s = false := by simp only [cz, h, Bool.false_and]
theorem xy {s : DState} {k : Nat} (hk : k < s.jobs.length) (h : decide (s.jobs[k].fired ≤ s.index) = false) : cz s = false := by
  have := ku (p := fun j : DJob => decide (j.fired ≤ s.index)) hk h
  simp only [cz, this, Bool.and_false]
theorem sQ {s : DState} (h : (aj s.index 0 2000 && tOk s.time && cf s.pairs && cr s.jobs && il s.lease) = true) (hj : s.jobs.all (fun j => decide (j.fired ≤ s.index)) = true) : cz s = true := by simp only [cz, h, hj, Bool.and_self]
theorem C1 {l : List DJob} (h : cr l = true) : l.length ≤ 8 := by
  simp only [cr, Bool.and_eq_true, decide_eq_true_eq] at h
  exact h.1.1.1
theorem gv (s : DState) (hs : s.pairs.length ≤ 9223372036854775806) : ak av 303 [.agg s.ds] (rB (cz s)) := by
  refine ac ah Tryz.func303 rfl Tryz.call303 Tryz.ntmps303 (congrArg Array.toList Tryz.results303) fun S => ?_; conv => whnf
  repeat' (first | (refine aw0 ?_) | ((first | refine aw1 ?_ | refine aw2 ?_ | refine aw3 ?_ | refine aw4 ?_ | refine aw5 ?_ | refine aw6 ?_ | refine aw7 ?_ | refine aw8 ?_); conv => whnf) | ((first | refine bT ?_ | refine bF ?_); conv => whnf) | (refine aa.pure (aC _ _ _) rfl ?_; conv => whnf) | (refine ae.mk ⟨_, _, aC _ _ _, .inl rfl, ?_⟩; conv => whnf) | (refine aa.pure (bO _) rfl ?_; conv => whnf) | (refine ae.mk ⟨_, _, bO _, .inl rfl, ?_⟩; conv => whnf) | (refine aa.pure (gu s.pairs hs) rfl ?_; conv => whnf) | (refine ae.mk ⟨_, _, gu s.pairs hs, .inl rfl, ?_⟩; conv => whnf) | (refine aa.pure (iq s.jobs) rfl ?_; conv => whnf) | (refine ae.mk ⟨_, _, iq s.jobs, .inl rfl, ?_⟩; conv => whnf) | (refine aa.pure (uq s.lease) rfl ?_; conv => whnf) | (refine ae.mk ⟨_, _, uq s.lease, .inl rfl, ?_⟩; conv => whnf) | (exact rr) | (refine And.intro rfl ?_; conv => whnf) | (refine AB.mk (fun h => ?_) (fun h => ?_) <;> (conv => whnf)))
  all_goals first
    | (rw [xx (by first | (simp_all [tOk]; done) | (exfalso; assumption))]; done)
    | skip
  have hyes : (aj s.index 0 2000 && tOk s.time && cf s.pairs && cr s.jobs && il s.lease) = true := by simp_all [tOk]
  have h8 : s.jobs.length ≤ 8 := C1 (by simp_all)
  refine AWP.loopS (fun k : Nat => k ≤ s.jobs.length ∧ ∀ (j : Nat) (hj : j < k) (hl : j < s.jobs.length), decide (s.jobs[j].fired ≤ s.index) = true) [2, 4, 36, 37, 38, 39, 40, 41, 42, 43, 44, 45] (fun k => [(36, vI .i64 (k : Int))]) (fun _ => [(1, .cells 85 (s.ds.map .d))]) (fun k => s.jobs.length - k) 0 ⟨by omega, by omega⟩ ?_ (ai.cons rfl ai.nil) (fun k hR => ?_) <;> (conv => whnf)
  · exact whd
  · obtain ⟨hk, hall⟩ := hR
    repeat' (first | (refine aw0 ?_) | ((first | refine aw1 ?_ | refine aw2 ?_ | refine aw3 ?_ | refine aw4 ?_ | refine aw5 ?_ | refine aw6 ?_ | refine aw7 ?_ | refine aw8 ?_); conv => whnf) | ((first | refine bT ?_ | refine bF ?_); conv => whnf) | (exact (trivial : True)) | (refine AIx.mapF ari (fun hlt => ?_); conv => whnf) | (refine AW.i64 ari ari ?_; conv => whnf) | (exact rr) | (refine And.intro rfl ?_; conv => whnf) | (refine AB.mk (fun h => ?_) (fun h => ?_) <;> (conv => whnf)))
    all_goals first
      | (rw [xy (k := k) ari (by first | (simp_all; done) | (exfalso; assumption))]; done)
      | (refine aF.mk ⟨k + 1, ⟨ari, dq (p := fun j : DJob => decide (j.fired ≤ s.index)) hall ari (by simp_all)⟩, ari, ?_, ai.cons rfl ai.nil⟩
         exact hds)
      | (rw [sQ hyes (eo (p := fun j : DJob => decide (j.fired ≤ s.index)) hall ari)])
theorem gF (s : DState) (hs : s.pairs.length ≤ 9223372036854775806) : ak av 221 [.agg s.ds] (rB (cz s)) := by
  refine ac ah Tryz.func221 rfl Tryz.call221 Tryz.ntmps221 (congrArg Array.toList Tryz.results221) fun S => ?_; conv => whnf
  repeat' (first | (refine aw0 ?_) | ((first | refine aw1 ?_ | refine aw2 ?_ | refine aw3 ?_ | refine aw4 ?_ | refine aw5 ?_ | refine aw6 ?_ | refine aw7 ?_ | refine aw8 ?_); conv => whnf) | ((first | refine bT ?_ | refine bF ?_); conv => whnf) | (refine aa.pure (aL _ _ _) rfl ?_; conv => whnf) | (refine ae.mk ⟨_, _, aL _ _ _, .inl rfl, ?_⟩; conv => whnf) | (refine aa.pure (vC _) rfl ?_; conv => whnf) | (refine ae.mk ⟨_, _, vC _, .inl rfl, ?_⟩; conv => whnf) | (refine aa.pure (gE s.pairs) rfl ?_; conv => whnf) | (refine ae.mk ⟨_, _, gE s.pairs, .inl rfl, ?_⟩; conv => whnf) | (refine aa.pure (iu s.jobs) rfl ?_; conv => whnf) | (refine ae.mk ⟨_, _, iu s.jobs, .inl rfl, ?_⟩; conv => whnf) | (refine aa.pure (vn s.lease) rfl ?_; conv => whnf) | (refine ae.mk ⟨_, _, vn s.lease, .inl rfl, ?_⟩; conv => whnf) | (exact rr) | (refine And.intro rfl ?_; conv => whnf) | (refine AB.mk (fun h => ?_) (fun h => ?_) <;> (conv => whnf)))
  all_goals first
    | (rw [xx (by first | (simp_all [tOk]; done) | (exfalso; assumption))]; done)
    | skip
  have hyes : (aj s.index 0 2000 && tOk s.time && cf s.pairs && cr s.jobs && il s.lease) = true := by simp_all [tOk]
  have h8 : s.jobs.length ≤ 8 := C1 (by simp_all)
  refine AWP.loopS (fun k : Nat => k ≤ s.jobs.length ∧ ∀ (j : Nat) (hj : j < k) (hl : j < s.jobs.length), decide (s.jobs[j].fired ≤ s.index) = true) [2, 3, 32, 33, 34, 35, 36, 37, 38, 39, 40, 41, 42, 43, 44, 45, 46, 47] (fun k => [(3, vI .i64 (k : Int))]) (fun _ => [(1, .cells 85 (s.ds.map .d))]) (fun k => s.jobs.length - k) 0 ⟨by omega, by omega⟩ ?_ (ai.cons rfl ai.nil) (fun k hR => ?_) <;> (conv => whnf)
  · exact whd
  · obtain ⟨hk, hall⟩ := hR
    repeat' (first | (refine aw0 ?_) | ((first | refine aw1 ?_ | refine aw2 ?_ | refine aw3 ?_ | refine aw4 ?_ | refine aw5 ?_ | refine aw6 ?_ | refine aw7 ?_ | refine aw8 ?_); conv => whnf) | ((first | refine bT ?_ | refine bF ?_); conv => whnf) | (refine AWP.drawK ah 6 8 ma my (by kernel_rfl) (by kernel_rfl) (by kernel_rfl) rfl ?_; conv => whnf) | (refine AIx.mapF ari (fun hlt => ?_); conv => whnf) | (refine AW.i64 ari ari ?_; conv => whnf) | (exact rr) | (refine And.intro rfl ?_; conv => whnf) | (refine AB.mk (fun h => ?_) (fun h => ?_) <;> (conv => whnf)))
    all_goals first
      | (rw [xy (k := k) ari (by first | (simp_all; done) | (exfalso; assumption))]; done)
      | (refine aF.mk ⟨k + 1, ⟨ari, dq (p := fun j : DJob => decide (j.fired ≤ s.index)) hall ari (by simp_all)⟩, ari, ?_, ai.cons rfl ai.nil⟩
         exact hds)
      | (rw [sQ hyes (eo (p := fun j : DJob => decide (j.fired ≤ s.index)) hall ari)])
theorem qH (a b : List DPair) (ha : a.length ≤ 9223372036854775806) (hb : b.length ≤ 9223372036854775806) : ak av 305 [.one (.sl (a.map DPair.ds)), .one (.sl (b.map DPair.ds))] (rB (cf a && cf b && decide (a = b))) := by
  refine ac ah Tryz.func305 rfl Tryz.call305 Tryz.ntmps305 (congrArg Array.toList Tryz.results305) fun S => ?_; conv => whnf
  repeat' (first | (refine aw0 ?_) | ((first | refine aw1 ?_ | refine aw2 ?_ | refine aw3 ?_ | refine aw4 ?_ | refine aw5 ?_ | refine aw6 ?_ | refine aw7 ?_ | refine aw8 ?_); conv => whnf) | ((first | refine bT ?_ | refine bF ?_); conv => whnf) | (refine aa.pure (gu a ha) rfl ?_; conv => whnf) | (refine ae.mk ⟨_, _, gu a ha, .inl rfl, ?_⟩; conv => whnf) | (refine aa.pure (gu b hb) rfl ?_; conv => whnf) | (refine ae.mk ⟨_, _, gu b hb, .inl rfl, ?_⟩; conv => whnf) | (refine aa.pure (vE a b ha) rfl ?_; conv => whnf) | (refine ae.mk ⟨_, _, vE a b ha, .inl rfl, ?_⟩; conv => whnf) | (exact rr) | (refine And.intro rfl ?_; conv => whnf) | (refine AB.mk (fun h => ?_) (fun h => ?_) <;> (conv => whnf)))
  all_goals
    refine aT ?_
    simp_all
theorem sh (a b : List DJob) (ha : a.length ≤ 9223372036854775806) : ak av 306 [.one (.sl (a.map DJob.ds)), .one (.sl (b.map DJob.ds))] (rB (cr a && cr b && decide (a = b))) := by
  refine ac ah Tryz.func306 rfl Tryz.call306 Tryz.ntmps306 (congrArg Array.toList Tryz.results306) fun S => ?_; conv => whnf
  repeat' (first | (refine aw0 ?_) | ((first | refine aw1 ?_ | refine aw2 ?_ | refine aw3 ?_ | refine aw4 ?_ | refine aw5 ?_ | refine aw6 ?_ | refine aw7 ?_ | refine aw8 ?_); conv => whnf) | ((first | refine bT ?_ | refine bF ?_); conv => whnf) | (refine aa.pure (iq a) rfl ?_; conv => whnf) | (refine ae.mk ⟨_, _, iq a, .inl rfl, ?_⟩; conv => whnf) | (refine aa.pure (iq b) rfl ?_; conv => whnf) | (refine ae.mk ⟨_, _, iq b, .inl rfl, ?_⟩; conv => whnf) | (refine aa.pure (xr a b ha) rfl ?_; conv => whnf) | (refine ae.mk ⟨_, _, xr a b ha, .inl rfl, ?_⟩; conv => whnf) | (exact rr) | (refine And.intro rfl ?_; conv => whnf) | (refine AB.mk (fun h => ?_) (fun h => ?_) <;> (conv => whnf)))
  all_goals
    refine aT ?_
    simp_all
theorem q7 (a b : List DPair) (ha : a.length ≤ 9223372036854775806) : ak av 277 [.one (.sl (a.map DPair.ds)), .one (.sl (b.map DPair.ds))] (rB (cf a && cf b && decide (a = b))) := by
  refine ac ah Tryz.func277 rfl Tryz.call277 Tryz.ntmps277 (congrArg Array.toList Tryz.results277) fun S => ?_; conv => whnf
  repeat' (first | (refine aw0 ?_) | ((first | refine aw1 ?_ | refine aw2 ?_ | refine aw3 ?_ | refine aw4 ?_ | refine aw5 ?_ | refine aw6 ?_ | refine aw7 ?_ | refine aw8 ?_); conv => whnf) | ((first | refine bT ?_ | refine bF ?_); conv => whnf) | (refine aa.pure (gE a) rfl ?_; conv => whnf) | (refine ae.mk ⟨_, _, gE a, .inl rfl, ?_⟩; conv => whnf) | (refine aa.pure (gE b) rfl ?_; conv => whnf) | (refine ae.mk ⟨_, _, gE b, .inl rfl, ?_⟩; conv => whnf) | (exact rr) | (refine And.intro rfl ?_; conv => whnf) | (refine AB.mk (fun h => ?_) (fun h => ?_) <;> (conv => whnf)))
  · refine aT ?_
    have e : cf a = false := by simp_all
    rw [e]; rfl
  · refine aT ?_
    have e : cf b = false := by simp_all
    rw [e, Bool.and_false]; rfl
  · rw [hC (by simp only [bne_iff_ne, ne_eq, decide_eq_true_eq, decide_eq_false_iff_not, List.length_map, bne_eq_false_iff_eq] at *; omega), Bool.and_false]
  · have hlen : a.length = b.length := (by simp only [bne_iff_ne, ne_eq, decide_eq_true_eq, decide_eq_false_iff_not, List.length_map, bne_eq_false_iff_eq] at *; omega)
    have ea : cf a = true := by simp_all
    have eb : cf b = true := by simp_all
    rw [ea, eb]
    refine AWP.loopS (fun k : Nat => k ≤ a.length ∧ ∀ (j : Nat) (hj : j < k) (h1 : j < a.length) (h2 : j < b.length), a[j] = b[j]) [4, 5, 21, 22, 23, 24, 25, 26, 27, 28, 29, 30, 31, 32, 33, 34, 35] (fun k => [(5, vI .i64 (k : Int))]) (fun _ => []) (fun k => a.length - k) 0 ⟨by omega, by omega⟩ ?_ ai.nil (fun k hR => ?_) <;> (conv => whnf)
    · exact whd
    · obtain ⟨hk, hall⟩ := hR
      repeat' (first | (refine aw0 ?_) | ((first | refine aw1 ?_ | refine aw2 ?_ | refine aw3 ?_ | refine aw4 ?_ | refine aw5 ?_ | refine aw6 ?_ | refine aw7 ?_ | refine aw8 ?_); conv => whnf) | ((first | refine bT ?_ | refine bF ?_); conv => whnf) | (refine AWP.drawK ah 6 8 jF jO (by kernel_rfl) (by kernel_rfl) (by kernel_rfl) rfl ?_; conv => whnf) | (refine AIx.mapF ari (fun hlt => ?_); conv => whnf) | (refine AW.i64 ari ari ?_; conv => whnf) | (refine jl.eqs (lk _ _) rfl rfl rfl rfl rfl ?_; conv => whnf) | (refine AOp.eqs (lk _ _) rfl rfl rfl rfl rfl ?_; conv => whnf) | (exact rr) | (refine And.intro rfl ?_; conv => whnf) | (refine AB.mk (fun h => ?_) (fun h => ?_) <;> (conv => whnf)))
      all_goals first
        | (rw [lI (k := k) ari ari (by first | (simpa using h) | (exfalso; assumption)), Bool.and_false]; done)
        | (refine aF.mk ⟨k + 1, ⟨ari, fe hall fun h1 h2 => by simpa using h⟩, ari, ?_, ai.nil⟩
           exact hds)
        | (have hkk : k = a.length := ari
           rw [g9 hlen fun j h1 h2 => hall j (by omega) h1 h2]; rfl)
theorem sJ (a b : List DJob) (ha : a.length ≤ 9223372036854775806) : ak av 278 [.one (.sl (a.map DJob.ds)), .one (.sl (b.map DJob.ds))] (rB (cr a && cr b && decide (a = b))) := by
  refine ac ah Tryz.func278 rfl Tryz.call278 Tryz.ntmps278 (congrArg Array.toList Tryz.results278) fun S => ?_; conv => whnf
  repeat' (first | (refine aw0 ?_) | ((first | refine aw1 ?_ | refine aw2 ?_ | refine aw3 ?_ | refine aw4 ?_ | refine aw5 ?_ | refine aw6 ?_ | refine aw7 ?_ | refine aw8 ?_); conv => whnf) | ((first | refine bT ?_ | refine bF ?_); conv => whnf) | (refine aa.pure (iu a) rfl ?_; conv => whnf) | (refine ae.mk ⟨_, _, iu a, .inl rfl, ?_⟩; conv => whnf) | (refine aa.pure (iu b) rfl ?_; conv => whnf) | (refine ae.mk ⟨_, _, iu b, .inl rfl, ?_⟩; conv => whnf) | (exact rr) | (refine And.intro rfl ?_; conv => whnf) | (refine AB.mk (fun h => ?_) (fun h => ?_) <;> (conv => whnf)))
  · refine aT ?_
    have e : cr a = false := by simp_all
    rw [e]; rfl
  · refine aT ?_
    have e : cr b = false := by simp_all
    rw [e, Bool.and_false]; rfl
  · rw [hC (by simp only [bne_iff_ne, ne_eq, decide_eq_true_eq, decide_eq_false_iff_not, List.length_map, bne_eq_false_iff_eq] at *; omega), Bool.and_false]
  · have hlen : a.length = b.length := (by simp only [bne_iff_ne, ne_eq, decide_eq_true_eq, decide_eq_false_iff_not, List.length_map, bne_eq_false_iff_eq] at *; omega)
    have ea : cr a = true := by simp_all
    have eb : cr b = true := by simp_all
    rw [ea, eb]
    refine AWP.loopS (fun k : Nat => k ≤ a.length ∧ ∀ (j : Nat) (hj : j < k) (h1 : j < a.length) (h2 : j < b.length), a[j] = b[j]) [4, 5, 21, 22, 23, 24, 25, 26, 27, 28, 29, 30, 31, 32, 33, 34, 35] (fun k => [(5, vI .i64 (k : Int))]) (fun _ => []) (fun k => a.length - k) 0 ⟨by omega, by omega⟩ ?_ ai.nil (fun k hR => ?_) <;> (conv => whnf)
    · exact whd
    · obtain ⟨hk, hall⟩ := hR
      repeat' (first | (refine aw0 ?_) | ((first | refine aw1 ?_ | refine aw2 ?_ | refine aw3 ?_ | refine aw4 ?_ | refine aw5 ?_ | refine aw6 ?_ | refine aw7 ?_ | refine aw8 ?_); conv => whnf) | ((first | refine bT ?_ | refine bF ?_); conv => whnf) | (refine AWP.drawK ah 6 8 kB kM (by kernel_rfl) (by kernel_rfl) (by kernel_rfl) rfl ?_; conv => whnf) | (refine AIx.mapF ari (fun hlt => ?_); conv => whnf) | (refine AW.i64 ari ari ?_; conv => whnf) | (refine jl.eqs (oR _ _) rfl rfl rfl rfl rfl ?_; conv => whnf) | (refine AOp.eqs (oR _ _) rfl rfl rfl rfl rfl ?_; conv => whnf) | (exact rr) | (refine And.intro rfl ?_; conv => whnf) | (refine AB.mk (fun h => ?_) (fun h => ?_) <;> (conv => whnf)))
      all_goals first
        | (rw [lI (k := k) ari ari (by first | (simpa using h) | (exfalso; assumption)), Bool.and_false]; done)
        | (refine aF.mk ⟨k + 1, ⟨ari, fe hall fun h1 h2 => by simpa using h⟩, ari, ?_, ai.nil⟩
           exact hds)
        | (have hkk : k = a.length := ari
           rw [g9 hlen fun j h1 h2 => hall j (by omega) h1 h2]; rfl)
theorem dP {s : DState} (h : cz s = true) : cf s.pairs = true ∧ cr s.jobs = true := by
  simp only [cz, Bool.and_eq_true] at h
  exact ⟨h.1.1.1.2, h.1.1.2⟩
theorem qI (a b : DState) (ha : a.pairs.length ≤ 9223372036854775806) (hb : b.pairs.length ≤ 9223372036854775806) (hj : a.jobs.length ≤ 9223372036854775806) : ak av 248 [.agg a.ds, .agg b.ds] (rB (cz a && cz b && decide (a = b))) := by
  refine ac ah Tryz.func248 rfl Tryz.call248 Tryz.ntmps248 (congrArg Array.toList Tryz.results248) fun S => ?_; conv => whnf
  repeat' (first | (refine aw0 ?_) | ((first | refine aw1 ?_ | refine aw2 ?_ | refine aw3 ?_ | refine aw4 ?_ | refine aw5 ?_ | refine aw6 ?_ | refine aw7 ?_ | refine aw8 ?_); conv => whnf) | ((first | refine bT ?_ | refine bF ?_); conv => whnf) | (refine aa.pure (gv a ha) rfl ?_; conv => whnf) | (refine ae.mk ⟨_, _, gv a ha, .inl rfl, ?_⟩; conv => whnf) | (refine aa.pure (gv b hb) rfl ?_; conv => whnf) | (refine ae.mk ⟨_, _, gv b hb, .inl rfl, ?_⟩; conv => whnf) | (refine aa.pure (qH a.pairs b.pairs ha hb) rfl ?_; conv => whnf) | (refine ae.mk ⟨_, _, qH a.pairs b.pairs ha hb, .inl rfl, ?_⟩; conv => whnf) | (refine aa.pure (sh a.jobs b.jobs hj) rfl ?_; conv => whnf) | (refine ae.mk ⟨_, _, sh a.jobs b.jobs hj, .inl rfl, ?_⟩; conv => whnf) | (refine AOp.eqs (iS a.lease b.lease) rfl rfl rfl rfl rfl ?_; conv => whnf) | (exact rr) | (refine And.intro rfl ?_; conv => whnf) | (refine AB.mk (fun h => ?_) (fun h => ?_) <;> (conv => whnf)))
  all_goals
    refine aT ?_
    obtain ⟨i1, t1, p1, j1, l1⟩ := a
    obtain ⟨i2, t2, p2, j2, l2⟩ := b
    first
      | (have q1 := dP (s := ⟨i1, t1, p1, j1, l1⟩) (by assumption)
         have q2 := dP (s := ⟨i2, t2, p2, j2, l2⟩) (by assumption)
         simp_all [DState.mk.injEq]; done)
      | (have q1 := dP (s := ⟨i1, t1, p1, j1, l1⟩) (by assumption)
         have q2 := dP (s := ⟨i2, t2, p2, j2, l2⟩) (by assumption)
         simp_all [DState.mk.injEq]; rw [Bool.eq_iff_iff]; simp; done)
      | (simp_all [DState.mk.injEq]; done)
      | (simp_all [DState.mk.injEq]; rw [Bool.eq_iff_iff]; simp; done)
theorem q8 (a b : DState) (ha : a.pairs.length ≤ 9223372036854775806) (hb : b.pairs.length ≤ 9223372036854775806) (hj : a.jobs.length ≤ 9223372036854775806) : ak av 223 [.agg a.ds, .agg b.ds] (rB (cz a && cz b && decide (a = b))) := by
  refine ac ah Tryz.func223 rfl Tryz.call223 Tryz.ntmps223 (congrArg Array.toList Tryz.results223) fun S => ?_; conv => whnf
  repeat' (first | (refine aw0 ?_) | ((first | refine aw1 ?_ | refine aw2 ?_ | refine aw3 ?_ | refine aw4 ?_ | refine aw5 ?_ | refine aw6 ?_ | refine aw7 ?_ | refine aw8 ?_); conv => whnf) | ((first | refine bT ?_ | refine bF ?_); conv => whnf) | (refine aa.pure (gF a ha) rfl ?_; conv => whnf) | (refine ae.mk ⟨_, _, gF a ha, .inl rfl, ?_⟩; conv => whnf) | (refine aa.pure (gF b hb) rfl ?_; conv => whnf) | (refine ae.mk ⟨_, _, gF b hb, .inl rfl, ?_⟩; conv => whnf) | (refine aa.pure (q7 a.pairs b.pairs ha) rfl ?_; conv => whnf) | (refine ae.mk ⟨_, _, q7 a.pairs b.pairs ha, .inl rfl, ?_⟩; conv => whnf) | (refine aa.pure (sJ a.jobs b.jobs hj) rfl ?_; conv => whnf) | (refine ae.mk ⟨_, _, sJ a.jobs b.jobs hj, .inl rfl, ?_⟩; conv => whnf) | (refine AOp.eqs (iS a.lease b.lease) rfl rfl rfl rfl rfl ?_; conv => whnf) | (exact rr) | (refine And.intro rfl ?_; conv => whnf) | (refine AB.mk (fun h => ?_) (fun h => ?_) <;> (conv => whnf)))
  all_goals
    refine aT ?_
    obtain ⟨i1, t1, p1, j1, l1⟩ := a
    obtain ⟨i2, t2, p2, j2, l2⟩ := b
    first
      | (have q1 := dP (s := ⟨i1, t1, p1, j1, l1⟩) (by assumption)
         have q2 := dP (s := ⟨i2, t2, p2, j2, l2⟩) (by assumption)
         simp_all [DState.mk.injEq]; done)
      | (have q1 := dP (s := ⟨i1, t1, p1, j1, l1⟩) (by assumption)
         have q2 := dP (s := ⟨i2, t2, p2, j2, l2⟩) (by assumption)
         simp_all [DState.mk.injEq]; rw [Bool.eq_iff_iff]; simp; done)
      | (simp_all [DState.mk.injEq]; done)
      | (simp_all [DState.mk.injEq]; rw [Bool.eq_iff_iff]; simp; done)
theorem sI : ak av 224 [] (.val (.agg iM.ds)) := by
  refine ac ah Tryz.func224 rfl Tryz.call224 Tryz.ntmps224 (congrArg Array.toList Tryz.results224) fun S => ?_; conv => whnf
  repeat' (first | (refine aw0 ?_) | ((first | refine aw1 ?_ | refine aw2 ?_ | refine aw3 ?_ | refine aw4 ?_ | refine aw5 ?_ | refine aw6 ?_ | refine aw7 ?_ | refine aw8 ?_); conv => whnf) | ((first | refine bT ?_ | refine bF ?_); conv => whnf) | (exact rr) | (refine And.intro rfl ?_; conv => whnf) | (refine AB.mk (fun h => ?_) (fun h => ?_) <;> (conv => whnf)))
  all_goals rfl
theorem xB {s : DStore} {b : Bool} (h : (o4 s.disk && cz s.state && aj s.num 0 1000000000 && aj s.last 0 s.state.index && ((s.num == 0) == (s.last == 0)) && (s.busy == 0 || (decide (s.num < 1000000000) && decide (s.last < s.busy) && decide (s.busy ≤ s.state.index)))) = b) : b = jk s := h.symm
theorem uw (s : DStore) (hs : s.state.pairs.length ≤ 9223372036854775806) : ak av 246 [.agg s.ds] (rB (jk s)) := by
  refine ac ah Tryz.func246 rfl Tryz.call246 Tryz.ntmps246 (congrArg Array.toList Tryz.results246) fun S => ?_; conv => whnf
  repeat' (first | (refine aw0 ?_) | ((first | refine aw1 ?_ | refine aw2 ?_ | refine aw3 ?_ | refine aw4 ?_ | refine aw5 ?_ | refine aw6 ?_ | refine aw7 ?_ | refine aw8 ?_); conv => whnf) | ((first | refine bT ?_ | refine bF ?_); conv => whnf) | (refine aa.pure (uv s.disk) rfl ?_; conv => whnf) | (refine ae.mk ⟨_, _, uv s.disk, .inl rfl, ?_⟩; conv => whnf) | (refine aa.pure (gv s.state hs) rfl ?_; conv => whnf) | (refine ae.mk ⟨_, _, gv s.state hs, .inl rfl, ?_⟩; conv => whnf) | (refine aa.pure (aC _ _ _) rfl ?_; conv => whnf) | (refine ae.mk ⟨_, _, aC _ _ _, .inl rfl, ?_⟩; conv => whnf) | (exact rr) | (refine And.intro rfl ?_; conv => whnf) | (refine AB.mk (fun h => ?_) (fun h => ?_) <;> (conv => whnf)))
  all_goals
    refine aT (xB ?_)
    first
      | (simp_all; done)
      | (simp_all; omega)
theorem vq (s : DStore) (hs : s.state.pairs.length ≤ 9223372036854775806) : ak av 143 [.agg s.ds] (rB (jk s)) := by
  refine ac ah Tryz.func143 rfl Tryz.call143 Tryz.ntmps143 (congrArg Array.toList Tryz.results143) fun S => ?_; conv => whnf
  repeat' (first | (refine aw0 ?_) | ((first | refine aw1 ?_ | refine aw2 ?_ | refine aw3 ?_ | refine aw4 ?_ | refine aw5 ?_ | refine aw6 ?_ | refine aw7 ?_ | refine aw8 ?_); conv => whnf) | ((first | refine bT ?_ | refine bF ?_); conv => whnf) | (refine AW.i64 (by simp_all [aj, cz]; omega) (by simp_all [aj, cz]; omega) ?_; conv => whnf) | (refine aa.pure (vp s.disk) rfl ?_; conv => whnf) | (refine ae.mk ⟨_, _, vp s.disk, .inl rfl, ?_⟩; conv => whnf) | (refine aa.pure (gF s.state hs) rfl ?_; conv => whnf) | (refine ae.mk ⟨_, _, gF s.state hs, .inl rfl, ?_⟩; conv => whnf) | (refine aa.pure (aL _ _ _) rfl ?_; conv => whnf) | (refine ae.mk ⟨_, _, aL _ _ _, .inl rfl, ?_⟩; conv => whnf) | (exact rr) | (refine And.intro rfl ?_; conv => whnf) | (refine AB.mk (fun h => ?_) (fun h => ?_) <;> (conv => whnf)))
  all_goals
    refine aT (xB ?_)
    first
      | (simp_all; done)
      | (simp_all; omega)
      | (simp_all [aj]; rw [Bool.eq_iff_iff]; simp; omega)
end Go.Proofs.YtcmknngafflcnaaGreat
namespace Go.Proofs.YtcmknngafflcnaaGreat
open Go.ChangeShapes Go.WideShapes Go.RowKit
def mb : List (List Nat) := bA [0, 1, 129, 12354, 1056835, 84676740, 6510088389, 486455648518, 35601017745735, 1420639959544200, 182422663955222725, 12773057508086145546, 12773057508086145546, 970905742326030938443, 3674598465663765430186893, 214296344793583010436666252, 20043448135544716623136174411, 1360593728809283051758193795856, 92553623897107378771643345949393, 6252930518153901924192488793883666, 421307180612201082523824880478368851, 28313975464645083054128267548695790740, 421307180612201082523824880478368851, 30972431456214914799935881669256479892, 7776324311549306545480028705690995791844887, 565665440792314898885167755628818958089528598, 421307180612201082523824880478368851, 2406791985042823201691274050742470225704287041115, 166190669982267733666810070155792670210451560809882, 7589595446454492208365568010425794255677587611031260, 411214222190821752199510526821617712340966917935543444]
def mz : List (List Nat) := bQ 27 [0, 1, 4, 13, 40, 121, 364, 1093, 3280, 9841, 29524, 4340101, 442867, 974308, 2391484, 7174453, 21523360, 64570081, 193710244, 581130733, 5336523525730, 5340010310131, 5113369324066, 5144750383675, 5224946424898, 5507375961379, 2540122436128]
def mc : List (List Nat) := bA [0, 0, 66, 12417, 1052803, 84680772, 6509830341, 486455906566, 35601001230663, 35601001230663, 164122109978632714, 12864558999848899017, 895947530576690971275, 62214096053295717315148, 4288581010608110333633229, 156574859254327662432785166, 20081510041707290985360540040, 1356899553734770709485945406352, 92556059859101783530825705349649, 6252694090949133134287064896955410, 421307336513768724428412551479985235, 421307336513768724428412551479985235, 29643188329088893724478127479572726932, 115973981525213093280048416437421598131670, 8484542429884486294578280036455145361446101, 421307336513768724428412551479985235, 421307336513768724428412551479985235, 2237446419982627661829974766124422735131, 154770370026833647458333021132891313214682, 9478136593377203285270784258858039974432863023376092, 728993587567459518691010934350707305400695727828841817, 31086994452182876006794359805922655292521215753823303454, 1679760286856737015412416772989889414138560113444105565332]
def mA : List (List Nat) := bQ 29 [6, 2, 4, 13, 40, 121, 364, 1093, 42646, 16402, 29524, 88573, 265720, 797161, 2391484, 7174453, 21523360, 64570081, 193710244, 581130733, 67868514973264, 67791805716442, 67802266069645, 67830160344853, 67924303523680, 5929276873900, 2540122436128, 4234699655014, 11860297140001]
def kC : List (List Nat) := bA [0, 0, 66, 12417, 1052803, 0, 0, 391, 33222, 2384328, 90925286754906505]
def kN : List (List Nat) := bQ 10 [58812, 58808, 58810, 58819, 58846, 1700, 728, 1214, 3401, 9962]
theorem uy (x y : DDue) : ak av 359 [.agg x.ds, .agg y.ds] (rB (jJ x y)) := by
  refine ac ah Tryz.func359 rfl Tryz.call359 Tryz.ntmps359 (congrArg Array.toList Tryz.results359) fun S => ?_; conv => whnf
  repeat' (first | (refine aw0 ?_) | ((first | refine aw1 ?_ | refine aw2 ?_ | refine aw3 ?_ | refine aw4 ?_ | refine aw5 ?_ | refine aw6 ?_ | refine aw7 ?_ | refine aw8 ?_); conv => whnf) | ((first | refine bT ?_ | refine bF ?_); conv => whnf) | (exact rr) | (refine And.intro rfl ?_; conv => whnf) | (refine AB.mk (fun h => ?_) (fun h => ?_) <;> (conv => whnf)))
  all_goals
    refine aT ?_
    first
      | (simp_all [jJ]; done)
      | (simp_all [jJ]; omega)
theorem pJ (x y : DDue) : ak av 346 [.agg x.ds, .agg y.ds] (rB (jJ x y)) := by
  refine ac ah Tryz.func346 rfl Tryz.call346 Tryz.ntmps346 (congrArg Array.toList Tryz.results346) fun S => ?_; conv => whnf
  repeat' (first | (refine aw0 ?_) | ((first | refine aw1 ?_ | refine aw2 ?_ | refine aw3 ?_ | refine aw4 ?_ | refine aw5 ?_ | refine aw6 ?_ | refine aw7 ?_ | refine aw8 ?_); conv => whnf) | ((first | refine bT ?_ | refine bF ?_); conv => whnf) | (exact rr) | (refine And.intro rfl ?_; conv => whnf) | (refine AB.mk (fun h => ?_) (fun h => ?_) <;> (conv => whnf)))
  all_goals
    refine aT ?_
    first
      | (simp_all [jJ]; done)
      | (simp_all [jJ]; omega)
def fc (l : List DDue) : Bool := decide (l.length ≤ 8) && l.all fN && ib jJ l && cC ny l
theorem uB (j : DJobs) : k9 j = (aj j.index 0 2000 && tOk j.time && (j.holder == 0 || fd j.holder) && aj j.epoch 0 1000 && aj j.til 0 1001000 && fc j.opens) := by simp only [k9, fc, Bool.and_assoc]
theorem sB {l : List DDue} (h : ¬ l.length ≤ 8) : fc l = false := by simp [fc, h]
theorem pG {l : List DDue} {k : Nat} (hk : k < l.length) (h : bp fN jJ l k hk = false) : fc l = false := by
  rcases Bool.and_eq_false_iff.1 (jC hk h) with h | h <;> simp only [fc, h, Bool.and_false, Bool.false_and]
theorem sA {l : List DDue} {j k : Nat} (hj : j < k) (hk : k < l.length) (h : (l[j]'(by omega)).id = l[k].id) : fc l = false := by
  have := m8 (R := ny) hj hk (by simp [ny, h])
  simp only [fc, this, Bool.and_false]
theorem sC {l : List DDue} (h : l.length ≤ 8) (hc : (l.all fN && ib jJ l) = true) (hd : cC ny l = true) : fc l = true := by
  rw [Bool.and_eq_true] at hc
  simp only [fc, h, hc.1, hc.2, hd, decide_true, Bool.and_self]
theorem yK {l : List DDue} {k : Nat} (hk : k < l.length) (h : decide (l[k].id ∈ (l.take k).map (·.id)) = true) : fc l = false := by
  obtain ⟨m, hm, e⟩ := List.mem_map.1 (of_decide_eq_true h)
  obtain ⟨j, hj, rfl⟩ := List.getElem_of_mem hm
  simp at hj e
  exact sA (j := j) (by omega) hk e
theorem FW {l : List DDue} {k : Nat} (hk : k < l.length) (h : decide (l[k].id ∈ (l.take k).map (·.id)) = false) {i : Nat} (hi : i < k) : ny (l[i]'(by omega)) l[k] = false := by
  have := of_decide_eq_false h
  simp only [ny, beq_eq_false_iff_ne, ne_eq]
  intro e
  refine this (List.mem_map.2 ⟨l[i], ?_, e⟩)
  rw [List.mem_take_iff_getElem]
  exact ⟨i, by omega, rfl⟩
theorem GF {l : List DDue} {k : Nat} (hlt : k < l.length) : ((l.take k).map (·.id)) ++ [l[k].id] = (l.take (k + 1)).map (·.id) := (cu (fun m : DDue => m.id) hlt).symm
theorem FN {n : Int} (h : (!aj n 1 20) = false) : (Lit.int .i64 n).wf = true := vT h (by decide) (by decide)
set_option maxHeartbeats 4000000 in
theorem uo (j : DJobs) : ak av 349 [.agg j.ds] (rB (k9 j)) := by
  rw [uB]
  refine ac ah Tryz.func349 rfl Tryz.call349 Tryz.ntmps349 (congrArg Array.toList Tryz.results349) fun S => ?_; conv => whnf
  repeat' (first | (refine aw0 ?_) | ((first | refine aw1 ?_ | refine aw2 ?_ | refine aw3 ?_ | refine aw4 ?_ | refine aw5 ?_ | refine aw6 ?_ | refine aw7 ?_ | refine aw8 ?_); conv => whnf) | ((first | refine bT ?_ | refine bF ?_); conv => whnf) | (refine AOp.makeSet rfl rfl ?_; conv => whnf) | (refine aa.pure (aC _ _ _) rfl ?_; conv => whnf) | (refine ae.mk ⟨_, _, aC _ _ _, .inl rfl, ?_⟩; conv => whnf) | (refine aa.pure (bO _) rfl ?_; conv => whnf) | (refine ae.mk ⟨_, _, bO _, .inl rfl, ?_⟩; conv => whnf) | (refine aa.pure (eC _) rfl ?_; conv => whnf) | (refine ae.mk ⟨_, _, eC _, .inl rfl, ?_⟩; conv => whnf) | (exact rr) | (refine And.intro rfl ?_; conv => whnf) | (refine AB.mk (fun h => ?_) (fun h => ?_) <;> (conv => whnf)))
  all_goals first
    | (refine aT ?_; simp_all [tOk]; done)
    | (refine aT ?_; rw [sB ari, Bool.and_false]; done)
    | skip
  all_goals
    have h1 : j.opens.length ≤ 8 := ari
    have hpre : (aj j.index 0 2000 && tOk j.time && (j.holder == 0 || fd j.holder) && aj j.epoch 0 1000 && aj j.til 0 1001000) = true := by simp_all [tOk]
    rw [hpre, Bool.true_and]
    clear hpre
    refine AWP.loopS (fun k : Nat => k ≤ j.opens.length ∧ (∀ (q : Nat) (hj : q < k) (hl : q < j.opens.length), bp fN jJ j.opens q hl = true) ∧ ∀ (i q : Nat) (hi : i < q) (hj : q < k) (hl : q < j.opens.length), ny (j.opens[i]'(by omega)) j.opens[q] = false) [2, 4, 5, 47, 48, 49, 50, 51, 52, 53, 54, 55, 56, 57, 58, 59, 60, 61, 62, 63, 64, 65, 66, 67, 68, 69, 70, 71, 72, 73, 74, 75, 76, 77, 78, 79, 80, 81, 82, 83, 84, 85, 86] (fun k => [(47, vI .i64 (k : Int))]) (fun k => [(43, eL Tryz.prog 2 k (gh ((j.opens.take k).map (·.id)))), (1, .cells 90 (j.ds.map .d))]) (fun k => j.opens.length - k) 0 ⟨by omega, by omega, by omega⟩ ?_ (ai.cons rfl (ai.cons rfl ai.nil)) (fun k hR => ?_) <;> (conv => whnf)
    · exact whd
    · obtain ⟨hk, hall, hdup⟩ := hR
      repeat' (first | (refine aw0 ?_) | ((first | refine aw1 ?_ | refine aw2 ?_ | refine aw3 ?_ | refine aw4 ?_ | refine aw5 ?_ | refine aw6 ?_ | refine aw7 ?_ | refine aw8 ?_); conv => whnf) | ((first | refine bT ?_ | refine bF ?_); conv => whnf) | (refine AWP.drawK ah 9 27 mb mz (by kernel_rfl) (by kernel_rfl) (by kernel_rfl) rfl ?_; conv => whnf) | (refine AIx.mapF ari (fun hlt => ?_); conv => whnf) | (refine AIx.mapP ari ari (fun hpv => ?_); conv => whnf) | (refine AW.i64 (n := _ - _) ari ari ?_; conv => whnf) | (refine AW.i64 ari ari ?_; conv => whnf) | (refine aa.pure (oM _) rfl ?_; conv => whnf) | (refine ae.mk ⟨_, _, oM _, .inl rfl, ?_⟩; conv => whnf) | (refine aa.pure (bO _) rfl ?_; conv => whnf) | (refine ae.mk ⟨_, _, bO _, .inl rfl, ?_⟩; conv => whnf) | (refine aa.pure (uy _ _) rfl ?_; conv => whnf) | (refine ae.mk ⟨_, _, uy _ _, .inl rfl, ?_⟩; conv => whnf) | (refine jl.lookSet (id := 43) (N := k) rfl rfl rfl rfl (FN (by assumption)) ?_; conv => whnf) | (refine AOp.lookSet (id := 43) (N := k) rfl rfl rfl rfl (FN (by assumption)) ?_; conv => whnf) | (refine AOp.putSet (id := 43) (N := k) rfl (by omega) rfl rfl rfl (FN (by assumption)) ?_; conv => whnf) | (exact rr) | (refine And.intro rfl ?_; conv => whnf) | (refine AB.mk (fun h => ?_) (fun h => ?_) <;> (conv => whnf)))
      all_goals first
        | (rw [pG (k := k) ari (by first | (refine aX _ ?_; simp_all [fN, tOk]; done) | (rw [aH _ ari]; simp_all [fN, tOk]; done) | (rw [aJ _ ari]; simp_all [fN, tOk]; done) | (exfalso; assumption))]; done)
        | (rw [yK (k := k) ari (by assumption)]; done)
        | (refine aF.mk ⟨k + 1, ⟨ari, cK hall ari (by first | (refine aX _ ?_; simp_all [fN, tOk]; done) | (rw [aH _ ari]; simp_all [fN, tOk]; done) | (rw [aJ _ ari]; simp_all [fN, tOk]; done) | (exfalso; assumption)), lx ari hdup fun i hi => FW ari (by assumption) hi⟩, ari, ?_, ai.cons (congrArg some (congrArg (fun l => eL Tryz.prog 2 (k + 1) (gh l)) (GF ari))) (ai.cons rfl ai.nil)⟩
           exact hds)
        | (rw [sC h1 (ee hall ari) (oC ari hdup)])
set_option maxHeartbeats 4000000 in
theorem vw (l : List DDue) : ak av 319 [.one (.sl (l.map DDue.ds))] (rB (fc l)) := by
  refine ac ah Tryz.func319 rfl Tryz.call319 Tryz.ntmps319 (congrArg Array.toList Tryz.results319) fun S => ?_; conv => whnf
  repeat' (first | (refine aw0 ?_) | ((first | refine aw1 ?_ | refine aw2 ?_ | refine aw3 ?_ | refine aw4 ?_ | refine aw5 ?_ | refine aw6 ?_ | refine aw7 ?_ | refine aw8 ?_); conv => whnf) | ((first | refine bT ?_ | refine bF ?_); conv => whnf) | (exact rr) | (refine And.intro rfl ?_; conv => whnf) | (refine AB.mk (fun h => ?_) (fun h => ?_) <;> (conv => whnf)))
  · rw [sB ari]
  · have h1 : l.length ≤ 8 := ari
    clear h
    refine AWP.loopS (fun k : Nat => k ≤ l.length ∧ (∀ (j : Nat) (hj : j < k) (hl : j < l.length), bp fN jJ l j hl = true) ∧ ∀ (i j : Nat) (hi : i < j) (hj : j < k) (hl : j < l.length), ny (l[i]'(by omega)) l[j] = false) [2, 3, 4, 8, 9, 10, 11, 12, 13, 14, 15, 16, 17, 18, 19, 20, 21, 22, 23, 24, 25, 26, 27, 28, 29, 30, 31, 32, 33, 34, 35, 36, 37, 38, 39, 40, 41, 42, 43, 44, 45, 46, 47, 48, 49, 50, 51, 52, 53, 54, 55, 56, 57, 58, 59, 60, 61, 62] (fun k => [(3, vI .i64 (k : Int))]) (fun k => []) (fun k => l.length - k) 0 ⟨by omega, by omega, by omega⟩ ?_ ai.nil (fun k hR => ?_) <;> (conv => whnf)
    · exact whd
    · obtain ⟨hk, hall, hdup⟩ := hR
      repeat' (first | (refine aw0 ?_) | ((first | refine aw1 ?_ | refine aw2 ?_ | refine aw3 ?_ | refine aw4 ?_ | refine aw5 ?_ | refine aw6 ?_ | refine aw7 ?_ | refine aw8 ?_); conv => whnf) | ((first | refine bT ?_ | refine bF ?_); conv => whnf) | (refine AWP.drawK ah 6 29 mc mA (by kernel_rfl) (by kernel_rfl) (by kernel_rfl) rfl ?_; conv => whnf) | (refine AIx.mapF ari (fun hlt => ?_); conv => whnf) | (refine AIx.mapP ari ari (fun hpv => ?_); conv => whnf) | (refine AW.i64 (n := _ - _) ari ari ?_; conv => whnf) | (refine AW.i64 ari ari ?_; conv => whnf) | (refine aa.pure (td _) rfl ?_; conv => whnf) | (refine ae.mk ⟨_, _, td _, .inl rfl, ?_⟩; conv => whnf) | (refine aa.pure (ci _) rfl ?_; conv => whnf) | (refine ae.mk ⟨_, _, ci _, .inl rfl, ?_⟩; conv => whnf) | (refine aa.pure (pJ _ _) rfl ?_; conv => whnf) | (refine ae.mk ⟨_, _, pJ _ _, .inl rfl, ?_⟩; conv => whnf) | (exact rr) | (refine And.intro rfl ?_; conv => whnf) | (refine AB.mk (fun h => ?_) (fun h => ?_) <;> (conv => whnf)))
      all_goals first
        | (rw [pG (k := k) ari (by first | (refine aX _ ?_; simp_all [fN, tOk]; done) | (rw [aH _ ari]; simp_all [fN, tOk]; done) | (rw [aJ _ ari]; simp_all [fN, tOk]; done) | (exfalso; assumption))]; done)
        | (rw [sC h1 (ee hall ari) (oC ari hdup)]; done)
        | skip
      all_goals
        have hkl : k < l.length := ari
        have hch : bp fN jJ l k hkl = true := (by first | (refine aX _ ?_; simp_all [fN, tOk]; done) | (rw [aH _ ari]; simp_all [fN, tOk]; done) | (rw [aJ _ ari]; simp_all [fN, tOk]; done) | (exfalso; assumption))
        refine AWP.loopS (fun q : Nat => q ≤ k ∧ ∀ (i : Nat) (hi : i < q) (hik : i < k), ny (l[i]'(by omega)) l[k] = false) [2, 4, 47, 48, 49, 50, 51, 52, 53, 54, 55, 56, 57, 58, 59, 60, 61, 62] (fun q => [(4, vI .i64 (q : Int))]) (fun _ => []) (fun q => k - q) 0 ⟨by omega, by omega⟩ ?_ ai.nil (fun q hQ => ?_) <;> (conv => whnf)
        · exact whd
        · obtain ⟨hq, hno⟩ := hQ
          repeat' (first | (refine aw0 ?_) | ((first | refine aw1 ?_ | refine aw2 ?_ | refine aw3 ?_ | refine aw4 ?_ | refine aw5 ?_ | refine aw6 ?_ | refine aw7 ?_ | refine aw8 ?_); conv => whnf) | ((first | refine bT ?_ | refine bF ?_); conv => whnf) | (refine AWP.drawK ah 11 10 kC kN (by kernel_rfl) (by kernel_rfl) (by kernel_rfl) rfl ?_; conv => whnf) | (refine AIx.mapF (k := q) ari (fun hqt => ?_); conv => whnf) | (refine AIx.mapF (k := k) ari (fun hlt => ?_); conv => whnf) | (refine AW.i64 ari ari ?_; conv => whnf) | (exact rr) | (refine And.intro rfl ?_; conv => whnf) | (refine AB.mk (fun h => ?_) (fun h => ?_) <;> (conv => whnf)))
          all_goals first
            | (rw [sA (j := q) (k := k) ari ari (by simpa using h)]; done)
            | (have hjq : ∀ hqk : q < k, ny (l[q]'(by omega)) l[k] = false := fun hqk => h
               refine aF.mk ⟨q + 1, ⟨ari, fun i hi hik => ?_⟩, ari, ?_, ai.nil⟩
               · by_cases hiq : i = q
                 · subst hiq; exact hjq hik
                 · exact hno i (by omega) hik
               · exact hds)
            | (refine aF.mk ⟨k + 1, ⟨ari, cK hall ari hch, lx ari hdup fun i hi => hno i ari hi⟩, ari, ?_, ai.nil⟩
               exact hds)
theorem vm (j : DJobs) : ak av 279 [.agg j.ds] (rB (k9 j)) := by
  rw [uB]
  refine ac ah Tryz.func279 rfl Tryz.call279 Tryz.ntmps279 (congrArg Array.toList Tryz.results279) fun S => ?_; conv => whnf
  repeat' (first | (refine aw0 ?_) | ((first | refine aw1 ?_ | refine aw2 ?_ | refine aw3 ?_ | refine aw4 ?_ | refine aw5 ?_ | refine aw6 ?_ | refine aw7 ?_ | refine aw8 ?_); conv => whnf) | ((first | refine bT ?_ | refine bF ?_); conv => whnf) | (refine aa.pure (aL _ _ _) rfl ?_; conv => whnf) | (refine ae.mk ⟨_, _, aL _ _ _, .inl rfl, ?_⟩; conv => whnf) | (refine aa.pure (ci _) rfl ?_; conv => whnf) | (refine ae.mk ⟨_, _, ci _, .inl rfl, ?_⟩; conv => whnf) | (refine aa.pure (sK _) rfl ?_; conv => whnf) | (refine ae.mk ⟨_, _, sK _, .inl rfl, ?_⟩; conv => whnf) | (refine aa.pure (vw j.opens) rfl ?_; conv => whnf) | (refine ae.mk ⟨_, _, vw j.opens, .inl rfl, ?_⟩; conv => whnf) | (exact rr) | (refine And.intro rfl ?_; conv => whnf) | (refine AB.mk (fun h => ?_) (fun h => ?_) <;> (conv => whnf)))
  all_goals
    refine aT ?_
    simp_all [tOk]
theorem wS (v : DView) : ak av 323 [.agg v.ds] (rB (k9 v.jobs)) := by
  refine ac ah Tryz.func323 rfl Tryz.call323 Tryz.ntmps323 (congrArg Array.toList Tryz.results323) fun S => ?_; conv => whnf
  repeat' (first | (refine aw0 ?_) | ((first | refine aw1 ?_ | refine aw2 ?_ | refine aw3 ?_ | refine aw4 ?_ | refine aw5 ?_ | refine aw6 ?_ | refine aw7 ?_ | refine aw8 ?_); conv => whnf) | ((first | refine bT ?_ | refine bF ?_); conv => whnf) | (refine aa.pure (uo v.jobs) rfl ?_; conv => whnf) | (refine ae.mk ⟨_, _, uo v.jobs, .inl rfl, ?_⟩; conv => whnf) | (exact rr) | (refine And.intro rfl ?_; conv => whnf) | (refine AB.mk (fun h => ?_) (fun h => ?_) <;> (conv => whnf)))
theorem xk (v : DView) : ak av 226 [.agg v.ds] (rB (k9 v.jobs)) := by
  refine ac ah Tryz.func226 rfl Tryz.call226 Tryz.ntmps226 (congrArg Array.toList Tryz.results226) fun S => ?_; conv => whnf
  repeat' (first | (refine aw0 ?_) | ((first | refine aw1 ?_ | refine aw2 ?_ | refine aw3 ?_ | refine aw4 ?_ | refine aw5 ?_ | refine aw6 ?_ | refine aw7 ?_ | refine aw8 ?_); conv => whnf) | ((first | refine bT ?_ | refine bF ?_); conv => whnf) | (refine aa.pure (vm v.jobs) rfl ?_; conv => whnf) | (refine ae.mk ⟨_, _, vm v.jobs, .inl rfl, ?_⟩; conv => whnf) | (exact rr) | (refine And.intro rfl ?_; conv => whnf) | (refine AB.mk (fun h => ?_) (fun h => ?_) <;> (conv => whnf)))
theorem uu (s : DSched) : ak av 287 [.agg s.ds] (rB (fb s)) := by
  refine ac ah Tryz.func287 rfl Tryz.call287 Tryz.ntmps287 (congrArg Array.toList Tryz.results287) fun S => ?_; conv => whnf
  repeat' (first | (refine aw0 ?_) | ((first | refine aw1 ?_ | refine aw2 ?_ | refine aw3 ?_ | refine aw4 ?_ | refine aw5 ?_ | refine aw6 ?_ | refine aw7 ?_ | refine aw8 ?_); conv => whnf) | ((first | refine bT ?_ | refine bF ?_); conv => whnf) | (refine aa.pure (eC _) rfl ?_; conv => whnf) | (refine ae.mk ⟨_, _, eC _, .inl rfl, ?_⟩; conv => whnf) | (refine aa.pure (aC _ _ _) rfl ?_; conv => whnf) | (refine ae.mk ⟨_, _, aC _ _ _, .inl rfl, ?_⟩; conv => whnf) | (refine aa.pure (wS s.view) rfl ?_; conv => whnf) | (refine ae.mk ⟨_, _, wS s.view, .inl rfl, ?_⟩; conv => whnf) | (refine aa.pure (oL s.op) rfl ?_; conv => whnf) | (refine ae.mk ⟨_, _, oL s.op, .inl rfl, ?_⟩; conv => whnf) | (refine AOp.eqs (jL s.op op0) rfl rfl rfl rfl rfl ?_; conv => whnf) | (exact rr) | (refine And.intro rfl ?_; conv => whnf) | (refine AB.mk (fun h => ?_) (fun h => ?_) <;> (conv => whnf)))
  all_goals
    refine aT ?_
    first
      | (simp_all [fb]; done)
      | (simp_all [fb, aj]; omega)
      | (have hb := wB (x := s.seq) (by assumption)
         simp_all [fb]; rw [Bool.eq_iff_iff]; simp; omega)
theorem vo (s : DSched) : ak av 145 [.agg s.ds] (rB (fb s)) := by
  refine ac ah Tryz.func145 rfl Tryz.call145 Tryz.ntmps145 (congrArg Array.toList Tryz.results145) fun S => ?_; conv => whnf
  repeat' (first | (refine aw0 ?_) | ((first | refine aw1 ?_ | refine aw2 ?_ | refine aw3 ?_ | refine aw4 ?_ | refine aw5 ?_ | refine aw6 ?_ | refine aw7 ?_ | refine aw8 ?_); conv => whnf) | ((first | refine bT ?_ | refine bF ?_); conv => whnf) | (refine aa.pure (o5 _) rfl ?_; conv => whnf) | (refine ae.mk ⟨_, _, o5 _, .inl rfl, ?_⟩; conv => whnf) | (refine aa.pure (aL _ _ _) rfl ?_; conv => whnf) | (refine ae.mk ⟨_, _, aL _ _ _, .inl rfl, ?_⟩; conv => whnf) | (refine aa.pure (xk s.view) rfl ?_; conv => whnf) | (refine ae.mk ⟨_, _, xk s.view, .inl rfl, ?_⟩; conv => whnf) | (refine aa.pure (oZ s.op) rfl ?_; conv => whnf) | (refine ae.mk ⟨_, _, oZ s.op, .inl rfl, ?_⟩; conv => whnf) | (refine AOp.eqs (jL s.op op0) rfl rfl rfl rfl rfl ?_; conv => whnf) | (exact rr) | (refine And.intro rfl ?_; conv => whnf) | (refine AB.mk (fun h => ?_) (fun h => ?_) <;> (conv => whnf)))
  all_goals
    refine aT ?_
    first
      | (simp_all [fb]; done)
      | (simp_all [fb, aj]; omega)
      | (have hb := wB (x := s.seq) (by assumption)
         simp_all [fb]; rw [Bool.eq_iff_iff]; simp; omega)
end Go.Proofs.YtcmknngafflcnaaGreat
namespace Go.Proofs.YtcmknngafflcnaaGreat
open Go.ChangeShapes Go.WideShapes Go.RowKit
def kD : List (List Nat) := bA [0, 1, 0, 3, 0, 0, 1318982, 416663998597]
def kO : List (List Nat) := bQ 6 [720, 721, 656, 665, 566, 242]
def jG : List (List Nat) := bA [0, 1, 129, 12354, 1056835, 12354, 5419311366, 207267586309, 35532366946371, 2546539915919688, 182418056579387593, 12845115105294176778, 12845115105294176778, 970905447453977489995, 3674597257867834505343885, 215505270666383147350676364, 11199800992597658428499096203, 1360694127215502325577536770249]
def jP : List (List Nat) := bQ 14 [0, 1, 4, 499, 526, 229, 364, 1093, 3280, 9841, 29524, 4340101, 442867, 974308]
theorem sn (a b : DView) (ha : a.jobs.opens.length ≤ 9223372036854775806) : ak av 325 [.agg a.ds, .agg b.ds] (rB (decide (a = b))) := by
  refine ac ah Tryz.func325 rfl Tryz.call325 Tryz.ntmps325 (congrArg Array.toList Tryz.results325) fun S => ?_; conv => whnf
  repeat' (first | (refine aw0 ?_) | ((first | refine aw1 ?_ | refine aw2 ?_ | refine aw3 ?_ | refine aw4 ?_ | refine aw5 ?_ | refine aw6 ?_ | refine aw7 ?_ | refine aw8 ?_); conv => whnf) | ((first | refine bT ?_ | refine bF ?_); conv => whnf) | (exact rr) | (refine And.intro rfl ?_; conv => whnf) | (refine AB.mk (fun h => ?_) (fun h => ?_) <;> (conv => whnf)))
  refine AWP.drawSN ah 1 6 kD kO 4 1 4 (by kernel_rfl) (by kernel_rfl) (by kernel_rfl) rfl ⟨_, rfl, rfl, rfl, rfl⟩ rfl rfl rfl rfl rfl ?_; conv => whnf
  repeat' (first | (refine aw0 ?_) | ((first | refine aw1 ?_ | refine aw2 ?_ | refine aw3 ?_ | refine aw4 ?_ | refine aw5 ?_ | refine aw6 ?_ | refine aw7 ?_ | refine aw8 ?_); conv => whnf) | ((first | refine bT ?_ | refine bF ?_); conv => whnf) | (exact rr) | (refine And.intro rfl ?_; conv => whnf) | (refine AB.mk (fun h => ?_) (fun h => ?_) <;> (conv => whnf)))
  refine ⟨_, _, _, _, _, ?o1, rfl, rfl, rfl, rfl, rfl, ?hst, ?hk⟩
  case hst =>
    conv => whnf
  conv => whnf
  refine ⟨rfl, ?_, ?_⟩
  · repeat' (first | exact trivial | exact ⟨rfl, rfl⟩ | (refine ⟨?_, ?_⟩) | (refine aw0 ?_) | ((first | refine aw1 ?_ | refine aw2 ?_ | refine aw3 ?_ | refine aw4 ?_ | refine aw5 ?_ | refine aw6 ?_ | refine aw7 ?_ | refine aw8 ?_); conv => whnf) | ((first | refine bT ?_ | refine bF ?_); conv => whnf) | (conv => whnf))
  conv => whnf
  repeat' (first | (refine aw0 ?_) | ((first | refine aw1 ?_ | refine aw2 ?_ | refine aw3 ?_ | refine aw4 ?_ | refine aw5 ?_ | refine aw6 ?_ | refine aw7 ?_ | refine aw8 ?_); conv => whnf) | ((first | refine bT ?_ | refine bF ?_); conv => whnf) | (refine aa.pure (xp a.jobs.opens b.jobs.opens ha) rfl ?_; conv => whnf) | (refine ae.mk ⟨_, _, xp a.jobs.opens b.jobs.opens ha, .inl rfl, ?_⟩; conv => whnf) | (exact rr) | (refine And.intro rfl ?_; conv => whnf) | (refine AB.mk (fun h => ?_) (fun h => ?_) <;> (conv => whnf)))
  all_goals
    refine aT ?_
    obtain ⟨⟨i1, t1, h1, e1, l1, o1⟩⟩ := a
    obtain ⟨⟨i2, t2, h2, e2, l2, o2⟩⟩ := b
    simp_all [DView.mk.injEq, DJobs.mk.injEq]
theorem AX {a b : DSched} : a = b ↔ (a.id = b.id ∧ a.seq = b.seq ∧ a.view = b.view ∧ a.busy = b.busy ∧ a.op = b.op ∧ a.index = b.index) := by
  cases a; cases b; simp [DSched.mk.injEq]
theorem qP (a b : DSched) (ha : a.view.jobs.opens.length ≤ 9223372036854775806) : ak av 288 [.agg a.ds, .agg b.ds] (rB (decide (a = b))) := by
  refine ac ah Tryz.func288 rfl Tryz.call288 Tryz.ntmps288 (congrArg Array.toList Tryz.results288) fun S => ?_; conv => whnf
  repeat' (first | (refine aw0 ?_) | ((first | refine aw1 ?_ | refine aw2 ?_ | refine aw3 ?_ | refine aw4 ?_ | refine aw5 ?_ | refine aw6 ?_ | refine aw7 ?_ | refine aw8 ?_); conv => whnf) | ((first | refine bT ?_ | refine bF ?_); conv => whnf) | (refine aa.pure (sn a.view b.view ha) rfl ?_; conv => whnf) | (refine ae.mk ⟨_, _, sn a.view b.view ha, .inl rfl, ?_⟩; conv => whnf) | (refine AOp.eqs (jL a.op b.op) rfl rfl rfl rfl rfl ?_; conv => whnf) | (exact rr) | (refine And.intro rfl ?_; conv => whnf) | (refine AB.mk (fun h => ?_) (fun h => ?_) <;> (conv => whnf)))
  all_goals
    refine aT ?_
    rw [Bool.eq_iff_iff, decide_eq_true_iff, AX]
    simp_all
def j5 (id : Int) : DSched := if fd id then qa id else qa 0
theorem sf (id : Int) : ak av 289 [.one (dI id)] (.val (.agg (j5 id).ds)) := by
  refine ac ah Tryz.func289 rfl Tryz.call289 Tryz.ntmps289 (congrArg Array.toList Tryz.results289) fun S => ?_; conv => whnf
  repeat' (first | (refine aw0 ?_) | ((first | refine aw1 ?_ | refine aw2 ?_ | refine aw3 ?_ | refine aw4 ?_ | refine aw5 ?_ | refine aw6 ?_ | refine aw7 ?_ | refine aw8 ?_); conv => whnf) | ((first | refine bT ?_ | refine bF ?_); conv => whnf) | (refine aa.pure (eC _) rfl ?_; conv => whnf) | (refine ae.mk ⟨_, _, eC _, .inl rfl, ?_⟩; conv => whnf) | (exact rr) | (refine And.intro rfl ?_; conv => whnf) | (refine AB.mk (fun h => ?_) (fun h => ?_) <;> (conv => whnf)))
  all_goals simp_all [j5, qa, DSched.ds, op0]
theorem ik (s : DSched) (id : Int) (up : Bool) (hs : s.view.jobs.opens.length ≤ 9223372036854775806) : ak av 242 [.agg s.ds, .one (dI id), .one (dB up)] (rB (cJ s id up)) := by
  refine ac ah Tryz.func242 rfl Tryz.call242 Tryz.ntmps242 (congrArg Array.toList Tryz.results242) fun S => ?_; conv => whnf
  repeat' (first | (refine aw0 ?_) | ((first | refine aw1 ?_ | refine aw2 ?_ | refine aw3 ?_ | refine aw4 ?_ | refine aw5 ?_ | refine aw6 ?_ | refine aw7 ?_ | refine aw8 ?_); conv => whnf) | ((first | refine bT ?_ | refine bF ?_); conv => whnf) | (refine AWP.drawK ah 1 14 jG jP (by kernel_rfl) (by kernel_rfl) (by kernel_rfl) rfl ?_; conv => whnf) | (refine aa.pure (uu s) rfl ?_; conv => whnf) | (refine ae.mk ⟨_, _, uu s, .inl rfl, ?_⟩; conv => whnf) | (refine aa.pure (sf _) rfl ?_; conv => whnf) | (refine ae.mk ⟨_, _, sf _, .inl rfl, ?_⟩; conv => whnf) | (refine aa.pure (qP s (j5 id) hs) rfl ?_; conv => whnf) | (refine ae.mk ⟨_, _, qP s (j5 id) hs, .inl rfl, ?_⟩; conv => whnf) | (exact rr) | (refine And.intro rfl ?_; conv => whnf) | (refine AB.mk (fun h => ?_) (fun h => ?_) <;> (conv => whnf)))
  all_goals
    refine aT ?_
    first
      | (simp_all [cJ]; done)
      | (have e : j5 id = qa id := by simp_all [j5, fb]
         simp_all [cJ]
         rw [Bool.eq_iff_iff]; simp; done)
theorem lM (s : DSched) : ak av 146 [.agg s.ds] (rB (decide (s = qa s.id))) := by
  refine ac ah Tryz.func146 rfl Tryz.call146 Tryz.ntmps146 (congrArg Array.toList Tryz.results146) fun S => ?_; conv => whnf
  repeat' (first | (refine aw0 ?_) | ((first | refine aw1 ?_ | refine aw2 ?_ | refine aw3 ?_ | refine aw4 ?_ | refine aw5 ?_ | refine aw6 ?_ | refine aw7 ?_ | refine aw8 ?_); conv => whnf) | ((first | refine bT ?_ | refine bF ?_); conv => whnf) | (refine AOp.eqs (jL s.op op0) rfl rfl rfl rfl rfl ?_; conv => whnf) | (exact rr) | (refine And.intro rfl ?_; conv => whnf) | (refine AB.mk (fun h => ?_) (fun h => ?_) <;> (conv => whnf)))
  all_goals
    refine aT ?_
    obtain ⟨i, q, ⟨⟨a, b, c, d, e, l⟩⟩, u, o, x⟩ := s
    rw [Bool.eq_iff_iff, decide_eq_true_iff, AX]
    simp_all [qa, DView.mk.injEq, DJobs.mk.injEq]
theorem ji (s : DSched) (id : Int) (up : Bool) : ak av 71 [.agg s.ds, .one (dI id), .one (dB up)] (rB (cJ s id up)) := by
  refine ac ah Tryz.func71 rfl Tryz.call71 Tryz.ntmps71 (congrArg Array.toList Tryz.results71) fun S => ?_; conv => whnf
  repeat' (first | (refine aw0 ?_) | ((first | refine aw1 ?_ | refine aw2 ?_ | refine aw3 ?_ | refine aw4 ?_ | refine aw5 ?_ | refine aw6 ?_ | refine aw7 ?_ | refine aw8 ?_); conv => whnf) | ((first | refine bT ?_ | refine bF ?_); conv => whnf) | (refine aa.pure (vo s) rfl ?_; conv => whnf) | (refine ae.mk ⟨_, _, vo s, .inl rfl, ?_⟩; conv => whnf) | (refine aa.pure (lM s) rfl ?_; conv => whnf) | (refine ae.mk ⟨_, _, lM s, .inl rfl, ?_⟩; conv => whnf) | (exact rr) | (refine And.intro rfl ?_; conv => whnf) | (refine AB.mk (fun h => ?_) (fun h => ?_) <;> (conv => whnf)))
  all_goals
    refine aT ?_
    first
      | (simp_all [cJ]; done)
      | (simp_all [cJ]; rw [Bool.eq_iff_iff]; simp; done)
end Go.Proofs.YtcmknngafflcnaaGreat
