/- WH -/
import Derived.Test.YtcmknngafflcnaaGreatWG
import Derived.Test.YtcmknngafflcnaaGreatJ06
set_option linter.unusedVariables false
set_option linter.unusedSimpArgs false
set_option maxRecDepth 100000
namespace Go.Proofs.YtcmknngafflcnaaGreat
open Go.ChangeShapes Go.WideShapes Go.RowKit
def dJ : List (List Nat) := bA [0, 0, 66, 12417, 0, 0, 326, 29061, 17663105454471]
def dL : List (List Nat) := bQ 8 [6486, 6482, 6484, 6493, 566, 242, 404, 1133]
def dY : List (List Nat) := bA [0, 0, 66, 12417, 0, 0, 326, 29061, 17663105454471]
def d6 : List (List Nat) := bQ 8 [6486, 6482, 6484, 6493, 566, 242, 404, 1133]
def dy : List (List Nat) := bA [0, 0, 66, 12417, 0, 0, 326, 29061, 17663105454471]
def dz : List (List Nat) := bQ 8 [6486, 6482, 6484, 6493, 566, 242, 404, 1133]
def dK : List (List Nat) := bA [0, 0, 66, 12417, 0, 0, 326, 29061, 17663105454471]
def dM : List (List Nat) := bQ 8 [6486, 6482, 6484, 6493, 566, 242, 404, 1133]
def d4 : List (List Nat) := bA [0, 0, 66, 12417, 0, 0, 326, 29061, 17663105454471]
def d8 : List (List Nat) := bQ 8 [6486, 6482, 6484, 6493, 566, 242, 404, 1133]
def dZ : List (List Nat) := bA [0, 0, 66, 12417, 0, 0, 326, 29061, 17663105454471]
def d7 : List (List Nat) := bQ 8 [6486, 6482, 6484, 6493, 566, 242, 404, 1133]
def eT : List (List Nat) := bA [0, 0, 66, 12417, 0, 0, 326, 29061, 17663105454471]
def eW : List (List Nat) := bQ 8 [6486, 6482, 6484, 6493, 566, 242, 404, 1133]
def mq : List (List Nat) := bA [0, 0, 66, 12417, 0, 0, 326, 29061, 17663105454471]
def mO : List (List Nat) := bQ 8 [6486, 6482, 6484, 6493, 566, 242, 404, 1133]
theorem hC {α : Type} [DecidableEq α] {a b : List α} (h : ¬ a.length = b.length) : decide (a = b) = false := decide_eq_false fun e => h (by rw [e])
theorem lI {α : Type} [DecidableEq α] {a b : List α} {k : Nat} (h1 : k < a.length) (h2 : k < b.length) (h : a[k] ≠ b[k]) : decide (a = b) = false := decide_eq_false fun e => h (by subst e; rfl)
theorem g9 {α : Type} [DecidableEq α] {a b : List α} (hl : a.length = b.length) (h : ∀ (j : Nat) (h1 : j < a.length) (h2 : j < b.length), a[j] = b[j]) : decide (a = b) = true := decide_eq_true (List.ext_getElem hl h)
theorem fe {α : Type} {a b : List α} {k : Nat} (h : ∀ (j : Nat) (hj : j < k) (h1 : j < a.length) (h2 : j < b.length), a[j] = b[j]) (hk : ∀ (h1 : k < a.length) (h2 : k < b.length), a[k] = b[k]) : ∀ (j : Nat) (hj : j < k + 1) (h1 : j < a.length) (h2 : j < b.length), a[j] = b[j] := by
  intro j hj h1 h2
  by_cases hjk : j = k
  · subst hjk; exact hk h1 h2
  · exact h j (by omega) h1 h2
theorem vD (a b : List DMark) (ha : a.length ≤ 9223372036854775806) : ak av 330 [.one (.sl (a.map DMark.ds)), .one (.sl (b.map DMark.ds))] (rB (decide (a = b))) := by
  refine ac ah Tryz.func330 rfl Tryz.call330 Tryz.ntmps330 (congrArg Array.toList Tryz.results330) fun S => ?_; conv => whnf
  repeat' (first | (refine aw0 ?_) | ((first | refine aw1 ?_ | refine aw2 ?_ | refine aw3 ?_ | refine aw4 ?_ | refine aw5 ?_ | refine aw6 ?_ | refine aw7 ?_ | refine aw8 ?_); conv => whnf) | ((first | refine bT ?_ | refine bF ?_); conv => whnf) | (exact rr) | (refine And.intro rfl ?_; conv => whnf) | (refine AB.mk (fun h => ?_) (fun h => ?_) <;> (conv => whnf)))
  · rw [hC (by simp only [bne_iff_ne, ne_eq, decide_eq_true_eq, decide_eq_false_iff_not, List.length_map, bne_eq_false_iff_eq] at *; omega)]
  · have hlen : a.length = b.length := (by simp only [bne_iff_ne, ne_eq, decide_eq_true_eq, decide_eq_false_iff_not, List.length_map, bne_eq_false_iff_eq] at *; omega)
    clear h
    refine AWP.loopS (fun k : Nat => k ≤ a.length ∧ ∀ (j : Nat) (hj : j < k) (h1 : j < a.length) (h2 : j < b.length), a[j] = b[j]) [4, 5, 13, 14, 15, 16, 17, 18, 19, 20, 21, 22, 23, 24, 25] (fun k => [(13, vI .i64 (k : Int))]) (fun _ => []) (fun k => a.length - k) 0 ⟨by omega, by omega⟩ ?_ ai.nil (fun k hR => ?_) <;> (conv => whnf)
    · exact whd
    · obtain ⟨hk, hall⟩ := hR
      repeat' (first | (refine aw0 ?_) | ((first | refine aw1 ?_ | refine aw2 ?_ | refine aw3 ?_ | refine aw4 ?_ | refine aw5 ?_ | refine aw6 ?_ | refine aw7 ?_ | refine aw8 ?_); conv => whnf) | ((first | refine bT ?_ | refine bF ?_); conv => whnf) | (refine AWP.drawK ah 6 8 dJ dL (by kernel_rfl) (by kernel_rfl) (by kernel_rfl) rfl ?_; conv => whnf) | (refine AIx.mapF ari (fun hlt => ?_); conv => whnf) | (refine AW.i64 ari ari ?_; conv => whnf) | (refine jl.eqs (lj _ _) rfl rfl rfl rfl rfl ?_; conv => whnf) | (refine AOp.eqs (lj _ _) rfl rfl rfl rfl rfl ?_; conv => whnf) | (exact rr) | (refine And.intro rfl ?_; conv => whnf) | (refine AB.mk (fun h => ?_) (fun h => ?_) <;> (conv => whnf)))
      all_goals first
        | (rw [lI (k := k) ari ari (by simp_all)]; done)
        | (refine aF.mk ⟨k + 1, ⟨ari, fe hall fun h1 h2 => by simpa using h⟩, ari, ?_, ai.nil⟩
           exact hds)
        | (have hkk : k = a.length := ari
           rw [g9 hlen fun j h1 h2 => hall j (by omega) h1 h2])
theorem o8 (a b : List DAck) (ha : a.length ≤ 9223372036854775806) : ak av 297 [.one (.sl (a.map DAck.ds)), .one (.sl (b.map DAck.ds))] (rB (decide (a = b))) := by
  refine ac ah Tryz.func297 rfl Tryz.call297 Tryz.ntmps297 (congrArg Array.toList Tryz.results297) fun S => ?_; conv => whnf
  repeat' (first | (refine aw0 ?_) | ((first | refine aw1 ?_ | refine aw2 ?_ | refine aw3 ?_ | refine aw4 ?_ | refine aw5 ?_ | refine aw6 ?_ | refine aw7 ?_ | refine aw8 ?_); conv => whnf) | ((first | refine bT ?_ | refine bF ?_); conv => whnf) | (exact rr) | (refine And.intro rfl ?_; conv => whnf) | (refine AB.mk (fun h => ?_) (fun h => ?_) <;> (conv => whnf)))
  · rw [hC (by simp only [bne_iff_ne, ne_eq, decide_eq_true_eq, decide_eq_false_iff_not, List.length_map, bne_eq_false_iff_eq] at *; omega)]
  · have hlen : a.length = b.length := (by simp only [bne_iff_ne, ne_eq, decide_eq_true_eq, decide_eq_false_iff_not, List.length_map, bne_eq_false_iff_eq] at *; omega)
    clear h
    refine AWP.loopS (fun k : Nat => k ≤ a.length ∧ ∀ (j : Nat) (hj : j < k) (h1 : j < a.length) (h2 : j < b.length), a[j] = b[j]) [4, 5, 13, 14, 15, 16, 17, 18, 19, 20, 21, 22, 23, 24, 25] (fun k => [(13, vI .i64 (k : Int))]) (fun _ => []) (fun k => a.length - k) 0 ⟨by omega, by omega⟩ ?_ ai.nil (fun k hR => ?_) <;> (conv => whnf)
    · exact whd
    · obtain ⟨hk, hall⟩ := hR
      repeat' (first | (refine aw0 ?_) | ((first | refine aw1 ?_ | refine aw2 ?_ | refine aw3 ?_ | refine aw4 ?_ | refine aw5 ?_ | refine aw6 ?_ | refine aw7 ?_ | refine aw8 ?_); conv => whnf) | ((first | refine bT ?_ | refine bF ?_); conv => whnf) | (refine AWP.drawK ah 6 8 dY d6 (by kernel_rfl) (by kernel_rfl) (by kernel_rfl) rfl ?_; conv => whnf) | (refine AIx.mapF ari (fun hlt => ?_); conv => whnf) | (refine AW.i64 ari ari ?_; conv => whnf) | (refine jl.eqs (rE _ _) rfl rfl rfl rfl rfl ?_; conv => whnf) | (refine AOp.eqs (rE _ _) rfl rfl rfl rfl rfl ?_; conv => whnf) | (exact rr) | (refine And.intro rfl ?_; conv => whnf) | (refine AB.mk (fun h => ?_) (fun h => ?_) <;> (conv => whnf)))
      all_goals first
        | (rw [lI (k := k) ari ari (by simp_all)]; done)
        | (refine aF.mk ⟨k + 1, ⟨ari, fe hall fun h1 h2 => by simpa using h⟩, ari, ?_, ai.nil⟩
           exact hds)
        | (have hkk : k = a.length := ari
           rw [g9 hlen fun j h1 h2 => hall j (by omega) h1 h2])
theorem sO (a b : List DEntry) (ha : a.length ≤ 9223372036854775806) : ak av 339 [.one (.sl (a.map DEntry.ds)), .one (.sl (b.map DEntry.ds))] (rB (decide (a = b))) := by
  refine ac ah Tryz.func339 rfl Tryz.call339 Tryz.ntmps339 (congrArg Array.toList Tryz.results339) fun S => ?_; conv => whnf
  repeat' (first | (refine aw0 ?_) | ((first | refine aw1 ?_ | refine aw2 ?_ | refine aw3 ?_ | refine aw4 ?_ | refine aw5 ?_ | refine aw6 ?_ | refine aw7 ?_ | refine aw8 ?_); conv => whnf) | ((first | refine bT ?_ | refine bF ?_); conv => whnf) | (exact rr) | (refine And.intro rfl ?_; conv => whnf) | (refine AB.mk (fun h => ?_) (fun h => ?_) <;> (conv => whnf)))
  · rw [hC (by simp only [bne_iff_ne, ne_eq, decide_eq_true_eq, decide_eq_false_iff_not, List.length_map, bne_eq_false_iff_eq] at *; omega)]
  · have hlen : a.length = b.length := (by simp only [bne_iff_ne, ne_eq, decide_eq_true_eq, decide_eq_false_iff_not, List.length_map, bne_eq_false_iff_eq] at *; omega)
    clear h
    refine AWP.loopS (fun k : Nat => k ≤ a.length ∧ ∀ (j : Nat) (hj : j < k) (h1 : j < a.length) (h2 : j < b.length), a[j] = b[j]) [4, 5, 13, 14, 15, 16, 17, 18, 19, 20, 21, 22, 23, 24, 25] (fun k => [(13, vI .i64 (k : Int))]) (fun _ => []) (fun k => a.length - k) 0 ⟨by omega, by omega⟩ ?_ ai.nil (fun k hR => ?_) <;> (conv => whnf)
    · exact whd
    · obtain ⟨hk, hall⟩ := hR
      repeat' (first | (refine aw0 ?_) | ((first | refine aw1 ?_ | refine aw2 ?_ | refine aw3 ?_ | refine aw4 ?_ | refine aw5 ?_ | refine aw6 ?_ | refine aw7 ?_ | refine aw8 ?_); conv => whnf) | ((first | refine bT ?_ | refine bF ?_); conv => whnf) | (refine AWP.drawK ah 6 8 dy dz (by kernel_rfl) (by kernel_rfl) (by kernel_rfl) rfl ?_; conv => whnf) | (refine AIx.mapF ari (fun hlt => ?_); conv => whnf) | (refine AW.i64 ari ari ?_; conv => whnf) | (refine jl.eqs (su _ _) rfl rfl rfl rfl rfl ?_; conv => whnf) | (refine AOp.eqs (su _ _) rfl rfl rfl rfl rfl ?_; conv => whnf) | (exact rr) | (refine And.intro rfl ?_; conv => whnf) | (refine AB.mk (fun h => ?_) (fun h => ?_) <;> (conv => whnf)))
      all_goals first
        | (rw [lI (k := k) ari ari (by simp_all)]; done)
        | (refine aF.mk ⟨k + 1, ⟨ari, fe hall fun h1 h2 => by simpa using h⟩, ari, ?_, ai.nil⟩
           exact hds)
        | (have hkk : k = a.length := ari
           rw [g9 hlen fun j h1 h2 => hall j (by omega) h1 h2])
theorem vE (a b : List DPair) (ha : a.length ≤ 9223372036854775806) : ak av 343 [.one (.sl (a.map DPair.ds)), .one (.sl (b.map DPair.ds))] (rB (decide (a = b))) := by
  refine ac ah Tryz.func343 rfl Tryz.call343 Tryz.ntmps343 (congrArg Array.toList Tryz.results343) fun S => ?_; conv => whnf
  repeat' (first | (refine aw0 ?_) | ((first | refine aw1 ?_ | refine aw2 ?_ | refine aw3 ?_ | refine aw4 ?_ | refine aw5 ?_ | refine aw6 ?_ | refine aw7 ?_ | refine aw8 ?_); conv => whnf) | ((first | refine bT ?_ | refine bF ?_); conv => whnf) | (exact rr) | (refine And.intro rfl ?_; conv => whnf) | (refine AB.mk (fun h => ?_) (fun h => ?_) <;> (conv => whnf)))
  · rw [hC (by simp only [bne_iff_ne, ne_eq, decide_eq_true_eq, decide_eq_false_iff_not, List.length_map, bne_eq_false_iff_eq] at *; omega)]
  · have hlen : a.length = b.length := (by simp only [bne_iff_ne, ne_eq, decide_eq_true_eq, decide_eq_false_iff_not, List.length_map, bne_eq_false_iff_eq] at *; omega)
    clear h
    refine AWP.loopS (fun k : Nat => k ≤ a.length ∧ ∀ (j : Nat) (hj : j < k) (h1 : j < a.length) (h2 : j < b.length), a[j] = b[j]) [4, 5, 13, 14, 15, 16, 17, 18, 19, 20, 21, 22, 23, 24, 25] (fun k => [(13, vI .i64 (k : Int))]) (fun _ => []) (fun k => a.length - k) 0 ⟨by omega, by omega⟩ ?_ ai.nil (fun k hR => ?_) <;> (conv => whnf)
    · exact whd
    · obtain ⟨hk, hall⟩ := hR
      repeat' (first | (refine aw0 ?_) | ((first | refine aw1 ?_ | refine aw2 ?_ | refine aw3 ?_ | refine aw4 ?_ | refine aw5 ?_ | refine aw6 ?_ | refine aw7 ?_ | refine aw8 ?_); conv => whnf) | ((first | refine bT ?_ | refine bF ?_); conv => whnf) | (refine AWP.drawK ah 6 8 dK dM (by kernel_rfl) (by kernel_rfl) (by kernel_rfl) rfl ?_; conv => whnf) | (refine AIx.mapF ari (fun hlt => ?_); conv => whnf) | (refine AW.i64 ari ari ?_; conv => whnf) | (refine jl.eqs (lk _ _) rfl rfl rfl rfl rfl ?_; conv => whnf) | (refine AOp.eqs (lk _ _) rfl rfl rfl rfl rfl ?_; conv => whnf) | (exact rr) | (refine And.intro rfl ?_; conv => whnf) | (refine AB.mk (fun h => ?_) (fun h => ?_) <;> (conv => whnf)))
      all_goals first
        | (rw [lI (k := k) ari ari (by simp_all)]; done)
        | (refine aF.mk ⟨k + 1, ⟨ari, fe hall fun h1 h2 => by simpa using h⟩, ari, ?_, ai.nil⟩
           exact hds)
        | (have hkk : k = a.length := ari
           rw [g9 hlen fun j h1 h2 => hall j (by omega) h1 h2])
theorem xr (a b : List DJob) (ha : a.length ≤ 9223372036854775806) : ak av 344 [.one (.sl (a.map DJob.ds)), .one (.sl (b.map DJob.ds))] (rB (decide (a = b))) := by
  refine ac ah Tryz.func344 rfl Tryz.call344 Tryz.ntmps344 (congrArg Array.toList Tryz.results344) fun S => ?_; conv => whnf
  repeat' (first | (refine aw0 ?_) | ((first | refine aw1 ?_ | refine aw2 ?_ | refine aw3 ?_ | refine aw4 ?_ | refine aw5 ?_ | refine aw6 ?_ | refine aw7 ?_ | refine aw8 ?_); conv => whnf) | ((first | refine bT ?_ | refine bF ?_); conv => whnf) | (exact rr) | (refine And.intro rfl ?_; conv => whnf) | (refine AB.mk (fun h => ?_) (fun h => ?_) <;> (conv => whnf)))
  · rw [hC (by simp only [bne_iff_ne, ne_eq, decide_eq_true_eq, decide_eq_false_iff_not, List.length_map, bne_eq_false_iff_eq] at *; omega)]
  · have hlen : a.length = b.length := (by simp only [bne_iff_ne, ne_eq, decide_eq_true_eq, decide_eq_false_iff_not, List.length_map, bne_eq_false_iff_eq] at *; omega)
    clear h
    refine AWP.loopS (fun k : Nat => k ≤ a.length ∧ ∀ (j : Nat) (hj : j < k) (h1 : j < a.length) (h2 : j < b.length), a[j] = b[j]) [4, 5, 13, 14, 15, 16, 17, 18, 19, 20, 21, 22, 23, 24, 25] (fun k => [(13, vI .i64 (k : Int))]) (fun _ => []) (fun k => a.length - k) 0 ⟨by omega, by omega⟩ ?_ ai.nil (fun k hR => ?_) <;> (conv => whnf)
    · exact whd
    · obtain ⟨hk, hall⟩ := hR
      repeat' (first | (refine aw0 ?_) | ((first | refine aw1 ?_ | refine aw2 ?_ | refine aw3 ?_ | refine aw4 ?_ | refine aw5 ?_ | refine aw6 ?_ | refine aw7 ?_ | refine aw8 ?_); conv => whnf) | ((first | refine bT ?_ | refine bF ?_); conv => whnf) | (refine AWP.drawK ah 6 8 d4 d8 (by kernel_rfl) (by kernel_rfl) (by kernel_rfl) rfl ?_; conv => whnf) | (refine AIx.mapF ari (fun hlt => ?_); conv => whnf) | (refine AW.i64 ari ari ?_; conv => whnf) | (refine jl.eqs (oR _ _) rfl rfl rfl rfl rfl ?_; conv => whnf) | (refine AOp.eqs (oR _ _) rfl rfl rfl rfl rfl ?_; conv => whnf) | (exact rr) | (refine And.intro rfl ?_; conv => whnf) | (refine AB.mk (fun h => ?_) (fun h => ?_) <;> (conv => whnf)))
      all_goals first
        | (rw [lI (k := k) ari ari (by simp_all)]; done)
        | (refine aF.mk ⟨k + 1, ⟨ari, fe hall fun h1 h2 => by simpa using h⟩, ari, ?_, ai.nil⟩
           exact hds)
        | (have hkk : k = a.length := ari
           rw [g9 hlen fun j h1 h2 => hall j (by omega) h1 h2])
theorem xp (a b : List DDue) (ha : a.length ≤ 9223372036854775806) : ak av 351 [.one (.sl (a.map DDue.ds)), .one (.sl (b.map DDue.ds))] (rB (decide (a = b))) := by
  refine ac ah Tryz.func351 rfl Tryz.call351 Tryz.ntmps351 (congrArg Array.toList Tryz.results351) fun S => ?_; conv => whnf
  repeat' (first | (refine aw0 ?_) | ((first | refine aw1 ?_ | refine aw2 ?_ | refine aw3 ?_ | refine aw4 ?_ | refine aw5 ?_ | refine aw6 ?_ | refine aw7 ?_ | refine aw8 ?_); conv => whnf) | ((first | refine bT ?_ | refine bF ?_); conv => whnf) | (exact rr) | (refine And.intro rfl ?_; conv => whnf) | (refine AB.mk (fun h => ?_) (fun h => ?_) <;> (conv => whnf)))
  · rw [hC (by simp only [bne_iff_ne, ne_eq, decide_eq_true_eq, decide_eq_false_iff_not, List.length_map, bne_eq_false_iff_eq] at *; omega)]
  · have hlen : a.length = b.length := (by simp only [bne_iff_ne, ne_eq, decide_eq_true_eq, decide_eq_false_iff_not, List.length_map, bne_eq_false_iff_eq] at *; omega)
    clear h
    refine AWP.loopS (fun k : Nat => k ≤ a.length ∧ ∀ (j : Nat) (hj : j < k) (h1 : j < a.length) (h2 : j < b.length), a[j] = b[j]) [4, 5, 13, 14, 15, 16, 17, 18, 19, 20, 21, 22, 23, 24, 25] (fun k => [(13, vI .i64 (k : Int))]) (fun _ => []) (fun k => a.length - k) 0 ⟨by omega, by omega⟩ ?_ ai.nil (fun k hR => ?_) <;> (conv => whnf)
    · exact whd
    · obtain ⟨hk, hall⟩ := hR
      repeat' (first | (refine aw0 ?_) | ((first | refine aw1 ?_ | refine aw2 ?_ | refine aw3 ?_ | refine aw4 ?_ | refine aw5 ?_ | refine aw6 ?_ | refine aw7 ?_ | refine aw8 ?_); conv => whnf) | ((first | refine bT ?_ | refine bF ?_); conv => whnf) | (refine AWP.drawK ah 6 8 dZ d7 (by kernel_rfl) (by kernel_rfl) (by kernel_rfl) rfl ?_; conv => whnf) | (refine AIx.mapF ari (fun hlt => ?_); conv => whnf) | (refine AW.i64 ari ari ?_; conv => whnf) | (refine jl.eqs (w6 _ _) rfl rfl rfl rfl rfl ?_; conv => whnf) | (refine AOp.eqs (w6 _ _) rfl rfl rfl rfl rfl ?_; conv => whnf) | (exact rr) | (refine And.intro rfl ?_; conv => whnf) | (refine AB.mk (fun h => ?_) (fun h => ?_) <;> (conv => whnf)))
      all_goals first
        | (rw [lI (k := k) ari ari (by simp_all)]; done)
        | (refine aF.mk ⟨k + 1, ⟨ari, fe hall fun h1 h2 => by simpa using h⟩, ari, ?_, ai.nil⟩
           exact hds)
        | (have hkk : k = a.length := ari
           rw [g9 hlen fun j h1 h2 => hall j (by omega) h1 h2])
theorem xq (a b : List Int) (ha : a.length ≤ 9223372036854775806) : ak av 356 [.one (.sl (a.map eI)), .one (.sl (b.map eI))] (rB (decide (a = b))) := by
  refine ac ah Tryz.func356 rfl Tryz.call356 Tryz.ntmps356 (congrArg Array.toList Tryz.results356) fun S => ?_; conv => whnf
  repeat' (first | (refine aw0 ?_) | ((first | refine aw1 ?_ | refine aw2 ?_ | refine aw3 ?_ | refine aw4 ?_ | refine aw5 ?_ | refine aw6 ?_ | refine aw7 ?_ | refine aw8 ?_); conv => whnf) | ((first | refine bT ?_ | refine bF ?_); conv => whnf) | (exact rr) | (refine And.intro rfl ?_; conv => whnf) | (refine AB.mk (fun h => ?_) (fun h => ?_) <;> (conv => whnf)))
  · rw [hC (by simp only [bne_iff_ne, ne_eq, decide_eq_true_eq, decide_eq_false_iff_not, List.length_map, bne_eq_false_iff_eq] at *; omega)]
  · have hlen : a.length = b.length := (by simp only [bne_iff_ne, ne_eq, decide_eq_true_eq, decide_eq_false_iff_not, List.length_map, bne_eq_false_iff_eq] at *; omega)
    clear h
    refine AWP.loopS (fun k : Nat => k ≤ a.length ∧ ∀ (j : Nat) (hj : j < k) (h1 : j < a.length) (h2 : j < b.length), a[j] = b[j]) [4, 5, 13, 14, 15, 16, 17, 18, 19, 20, 21, 22, 23, 24, 25] (fun k => [(13, vI .i64 (k : Int))]) (fun _ => []) (fun k => a.length - k) 0 ⟨by omega, by omega⟩ ?_ ai.nil (fun k hR => ?_) <;> (conv => whnf)
    · exact whd
    · obtain ⟨hk, hall⟩ := hR
      repeat' (first | (refine aw0 ?_) | ((first | refine aw1 ?_ | refine aw2 ?_ | refine aw3 ?_ | refine aw4 ?_ | refine aw5 ?_ | refine aw6 ?_ | refine aw7 ?_ | refine aw8 ?_); conv => whnf) | ((first | refine bT ?_ | refine bF ?_); conv => whnf) | (refine AWP.drawK ah 6 8 eT eW (by kernel_rfl) (by kernel_rfl) (by kernel_rfl) rfl ?_; conv => whnf) | (refine AIx.mapF ari (fun hlt => ?_); conv => whnf) | (refine AW.i64 ari ari ?_; conv => whnf) | (exact rr) | (refine And.intro rfl ?_; conv => whnf) | (refine AB.mk (fun h => ?_) (fun h => ?_) <;> (conv => whnf)))
      all_goals first
        | (rw [lI (k := k) ari ari (by simp_all)]; done)
        | (refine aF.mk ⟨k + 1, ⟨ari, fe hall fun h1 h2 => by simpa using h⟩, ari, ?_, ai.nil⟩
           exact hds)
        | (have hkk : k = a.length := ari
           rw [g9 hlen fun j h1 h2 => hall j (by omega) h1 h2])
theorem jf (a b : List DMark) (ha : a.length ≤ 9223372036854775806) : ak av 213 [.one (.sl (a.map DMark.ds)), .one (.sl (b.map DMark.ds))] (rB (decide (a = b))) := by
  refine ac ah Tryz.func213 rfl Tryz.call213 Tryz.ntmps213 (congrArg Array.toList Tryz.results213) fun S => ?_; conv => whnf
  repeat' (first | (refine aw0 ?_) | ((first | refine aw1 ?_ | refine aw2 ?_ | refine aw3 ?_ | refine aw4 ?_ | refine aw5 ?_ | refine aw6 ?_ | refine aw7 ?_ | refine aw8 ?_); conv => whnf) | ((first | refine bT ?_ | refine bF ?_); conv => whnf) | (exact rr) | (refine And.intro rfl ?_; conv => whnf) | (refine AB.mk (fun h => ?_) (fun h => ?_) <;> (conv => whnf)))
  · rw [hC (by simp only [bne_iff_ne, ne_eq, decide_eq_true_eq, decide_eq_false_iff_not, List.length_map, bne_eq_false_iff_eq] at *; omega)]
  · have hlen : a.length = b.length := (by simp only [bne_iff_ne, ne_eq, decide_eq_true_eq, decide_eq_false_iff_not, List.length_map, bne_eq_false_iff_eq] at *; omega)
    clear h
    refine AWP.loopS (fun k : Nat => k ≤ a.length ∧ ∀ (j : Nat) (hj : j < k) (h1 : j < a.length) (h2 : j < b.length), a[j] = b[j]) [4, 5, 11, 12, 13, 14, 15, 16, 17, 18, 19, 20, 21, 22, 23, 24, 25] (fun k => [(5, vI .i64 (k : Int))]) (fun _ => []) (fun k => a.length - k) 0 ⟨by omega, by omega⟩ ?_ ai.nil (fun k hR => ?_) <;> (conv => whnf)
    · exact whd
    · obtain ⟨hk, hall⟩ := hR
      repeat' (first | (refine aw0 ?_) | ((first | refine aw1 ?_ | refine aw2 ?_ | refine aw3 ?_ | refine aw4 ?_ | refine aw5 ?_ | refine aw6 ?_ | refine aw7 ?_ | refine aw8 ?_); conv => whnf) | ((first | refine bT ?_ | refine bF ?_); conv => whnf) | (refine AWP.drawK ah 6 8 mq mO (by kernel_rfl) (by kernel_rfl) (by kernel_rfl) rfl ?_; conv => whnf) | (refine AIx.mapF ari (fun hlt => ?_); conv => whnf) | (refine AW.i64 ari ari ?_; conv => whnf) | (refine jl.eqs (lj _ _) rfl rfl rfl rfl rfl ?_; conv => whnf) | (refine AOp.eqs (lj _ _) rfl rfl rfl rfl rfl ?_; conv => whnf) | (exact rr) | (refine And.intro rfl ?_; conv => whnf) | (refine AB.mk (fun h => ?_) (fun h => ?_) <;> (conv => whnf)))
      all_goals first
        | (rw [lI (k := k) ari ari (by simp_all)]; done)
        | (refine aF.mk ⟨k + 1, ⟨ari, fe hall fun h1 h2 => by simpa using h⟩, ari, ?_, ai.nil⟩
           exact hds)
        | (have hkk : k = a.length := ari
           rw [g9 hlen fun j h1 h2 => hall j (by omega) h1 h2])
theorem dO (a b : List DMark) (ha : a.length ≤ 9223372036854775806) : ak av 294 [.one (.sl (a.map DMark.ds)), .one (.sl (b.map DMark.ds))] (rB (decide (a = b))) := by
  refine ac ah Tryz.func294 rfl Tryz.call294 Tryz.ntmps294 (congrArg Array.toList Tryz.results294) fun S => ?_; conv => whnf
  repeat' (first | (refine aw0 ?_) | ((first | refine aw1 ?_ | refine aw2 ?_ | refine aw3 ?_ | refine aw4 ?_ | refine aw5 ?_ | refine aw6 ?_ | refine aw7 ?_ | refine aw8 ?_); conv => whnf) | ((first | refine bT ?_ | refine bF ?_); conv => whnf) | (refine aa.pure (vD a b ha) rfl ?_; conv => whnf) | (refine ae.mk ⟨_, _, vD a b ha, .inl rfl, ?_⟩; conv => whnf) | (exact rr) | (refine And.intro rfl ?_; conv => whnf) | (refine AB.mk (fun h => ?_) (fun h => ?_) <;> (conv => whnf)))
theorem kX (a b : List Int) (ha : a.length ≤ 9223372036854775806) : ak av 336 [.one (dIs a), .one (dIs b)] (rB (decide (a = b))) := by
  refine ac ah Tryz.func336 rfl Tryz.call336 Tryz.ntmps336 (congrArg Array.toList Tryz.results336) fun S => ?_; conv => whnf
  repeat' (first | (refine aw0 ?_) | ((first | refine aw1 ?_ | refine aw2 ?_ | refine aw3 ?_ | refine aw4 ?_ | refine aw5 ?_ | refine aw6 ?_ | refine aw7 ?_ | refine aw8 ?_); conv => whnf) | ((first | refine bT ?_ | refine bF ?_); conv => whnf) | (refine aa.pure (xq a b ha) rfl ?_; conv => whnf) | (refine ae.mk ⟨_, _, xq a b ha, .inl rfl, ?_⟩; conv => whnf) | (exact rr) | (refine And.intro rfl ?_; conv => whnf) | (refine AB.mk (fun h => ?_) (fun h => ?_) <;> (conv => whnf)))
theorem qQ (x y : DWrite) (hx : x.row.length ≤ 9223372036854775806) : ak av 338 [.agg x.ds, .agg y.ds] (rB (decide (x = y))) := by
  obtain ⟨a, r⟩ := x
  obtain ⟨b, q⟩ := y
  refine ac ah Tryz.func338 rfl Tryz.call338 Tryz.ntmps338 (congrArg Array.toList Tryz.results338) fun S => ?_; conv => whnf
  repeat' (first | (refine aw0 ?_) | ((first | refine aw1 ?_ | refine aw2 ?_ | refine aw3 ?_ | refine aw4 ?_ | refine aw5 ?_ | refine aw6 ?_ | refine aw7 ?_ | refine aw8 ?_); conv => whnf) | ((first | refine bT ?_ | refine bF ?_); conv => whnf) | (refine aa.pure (kX r q hx) rfl ?_; conv => whnf) | (refine ae.mk ⟨_, _, kX r q hx, .inl rfl, ?_⟩; conv => whnf) | (exact rr) | (refine And.intro rfl ?_; conv => whnf) | (refine AB.mk (fun h => ?_) (fun h => ?_) <;> (conv => whnf)))
  all_goals
    refine congrArg (fun b => AP.val (AP1.one (dB b))) ?_
    simp_all [DWrite.mk.injEq]
theorem vF (a b : List (List Int)) (ha : a.length ≤ 9223372036854775806) (hr : ∀ y ∈ a, y.length ≤ 9223372036854775806) : ak av 335 [.one (.sl (a.map cG)), .one (.sl (b.map cG)), .one (.pv (.func (.func 336) #[] #[]))] (rB (decide (a = b))) := by
  refine ac ah Tryz.func335 rfl Tryz.call335 Tryz.ntmps335 (congrArg Array.toList Tryz.results335) fun S => ?_; conv => whnf
  repeat' (first | (refine aw0 ?_) | ((first | refine aw1 ?_ | refine aw2 ?_ | refine aw3 ?_ | refine aw4 ?_ | refine aw5 ?_ | refine aw6 ?_ | refine aw7 ?_ | refine aw8 ?_); conv => whnf) | ((first | refine bT ?_ | refine bF ?_); conv => whnf) | (exact rr) | (refine And.intro rfl ?_; conv => whnf) | (refine AB.mk (fun h => ?_) (fun h => ?_) <;> (conv => whnf)))
  · rw [hC (by simp only [bne_iff_ne, ne_eq, decide_eq_true_eq, decide_eq_false_iff_not, List.length_map, bne_eq_false_iff_eq] at *; omega)]
  · have hlen : a.length = b.length := (by simp only [bne_iff_ne, ne_eq, decide_eq_true_eq, decide_eq_false_iff_not, List.length_map, bne_eq_false_iff_eq] at *; omega)
    clear h
    refine AWP.loopS (fun k : Nat => k ≤ a.length ∧ ∀ (j : Nat) (hj : j < k) (h1 : j < a.length) (h2 : j < b.length), a[j] = b[j]) [6, 7, 8, 9, 17, 18, 19, 20, 21, 22, 23, 24, 25, 26, 27, 28, 29, 30, 31] (fun k => [(17, vI .i64 (k : Int))]) (fun _ => []) (fun k => a.length - k) 0 ⟨by omega, by omega⟩ ?_ ai.nil (fun k hR => ?_) <;> (conv => whnf)
    · exact whd
    · obtain ⟨hk, hall⟩ := hR
      repeat' (first | (refine aw0 ?_) | ((first | refine aw1 ?_ | refine aw2 ?_ | refine aw3 ?_ | refine aw4 ?_ | refine aw5 ?_ | refine aw6 ?_ | refine aw7 ?_ | refine aw8 ?_); conv => whnf) | ((first | refine bT ?_ | refine bF ?_); conv => whnf) | (refine AIx.mapF ari (fun hlt => ?_); conv => whnf) | (refine AW.i64 ari ari ?_; conv => whnf) | (refine aa.pure (kX _ _ (hr _ (List.getElem_mem ari))) rfl ?_; conv => whnf) | (refine ae.mk ⟨_, _, kX _ _ (hr _ (List.getElem_mem ari)), .inl rfl, ?_⟩; conv => whnf) | (exact rr) | (refine And.intro rfl ?_; conv => whnf) | (refine AB.mk (fun h => ?_) (fun h => ?_) <;> (conv => whnf)))
      all_goals first
        | (rw [lI (k := k) ari ari (by simp_all)]; done)
        | (refine aF.mk ⟨k + 1, ⟨ari, fe hall fun h1 h2 => by simpa using h⟩, ari, ?_, ai.nil⟩
           exact hds)
        | (have hkk : k = a.length := ari
           rw [g9 hlen fun j h1 h2 => hall j (by omega) h1 h2])
theorem rh (a b : List (DWrite)) (ha : a.length ≤ 9223372036854775806) (hr : ∀ y ∈ a, y.row.length ≤ 9223372036854775806) : ak av 337 [.one (.sl (a.map DWrite.ds)), .one (.sl (b.map DWrite.ds)), .one (.pv (.func (.func 338) #[] #[]))] (rB (decide (a = b))) := by
  refine ac ah Tryz.func337 rfl Tryz.call337 Tryz.ntmps337 (congrArg Array.toList Tryz.results337) fun S => ?_; conv => whnf
  repeat' (first | (refine aw0 ?_) | ((first | refine aw1 ?_ | refine aw2 ?_ | refine aw3 ?_ | refine aw4 ?_ | refine aw5 ?_ | refine aw6 ?_ | refine aw7 ?_ | refine aw8 ?_); conv => whnf) | ((first | refine bT ?_ | refine bF ?_); conv => whnf) | (exact rr) | (refine And.intro rfl ?_; conv => whnf) | (refine AB.mk (fun h => ?_) (fun h => ?_) <;> (conv => whnf)))
  · rw [hC (by simp only [bne_iff_ne, ne_eq, decide_eq_true_eq, decide_eq_false_iff_not, List.length_map, bne_eq_false_iff_eq] at *; omega)]
  · have hlen : a.length = b.length := (by simp only [bne_iff_ne, ne_eq, decide_eq_true_eq, decide_eq_false_iff_not, List.length_map, bne_eq_false_iff_eq] at *; omega)
    clear h
    refine AWP.loopS (fun k : Nat => k ≤ a.length ∧ ∀ (j : Nat) (hj : j < k) (h1 : j < a.length) (h2 : j < b.length), a[j] = b[j]) [6, 7, 8, 9, 17, 18, 19, 20, 21, 22, 23, 24, 25, 26, 27, 28, 29, 30, 31] (fun k => [(17, vI .i64 (k : Int))]) (fun _ => []) (fun k => a.length - k) 0 ⟨by omega, by omega⟩ ?_ ai.nil (fun k hR => ?_) <;> (conv => whnf)
    · exact whd
    · obtain ⟨hk, hall⟩ := hR
      repeat' (first | (refine aw0 ?_) | ((first | refine aw1 ?_ | refine aw2 ?_ | refine aw3 ?_ | refine aw4 ?_ | refine aw5 ?_ | refine aw6 ?_ | refine aw7 ?_ | refine aw8 ?_); conv => whnf) | ((first | refine bT ?_ | refine bF ?_); conv => whnf) | (refine AIx.mapF ari (fun hlt => ?_); conv => whnf) | (refine AW.i64 ari ari ?_; conv => whnf) | (refine aa.pure (qQ _ _ (hr _ (List.getElem_mem ari))) rfl ?_; conv => whnf) | (refine ae.mk ⟨_, _, qQ _ _ (hr _ (List.getElem_mem ari)), .inl rfl, ?_⟩; conv => whnf) | (exact rr) | (refine And.intro rfl ?_; conv => whnf) | (refine AB.mk (fun h => ?_) (fun h => ?_) <;> (conv => whnf)))
      all_goals first
        | (rw [lI (k := k) ari ari (by simp_all)]; done)
        | (refine aF.mk ⟨k + 1, ⟨ari, fe hall fun h1 h2 => by simpa using h⟩, ari, ?_, ai.nil⟩
           exact hds)
        | (have hkk : k = a.length := ari
           rw [g9 hlen fun j h1 h2 => hall j (by omega) h1 h2])
end Go.Proofs.YtcmknngafflcnaaGreat
