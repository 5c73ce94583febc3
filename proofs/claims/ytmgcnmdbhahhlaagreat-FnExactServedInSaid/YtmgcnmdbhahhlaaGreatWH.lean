/- Slices compared (gen_wsl.py). -/
import Derived.Test.YtmgcnmdbhahhlaaGreatWG
import Derived.Test.YtmgcnmdbhahhlaaGreatJ06
set_option linter.unusedVariables false
set_option linter.unusedSimpArgs false
set_option maxRecDepth 100000
namespace Go.Proofs.YtmgcnmdbhahhlaaGreat
open Go.ChangeShapes Go.WideShapes Go.RowKit
def dk_WH_slices_Equal___impl_Mark_impl_Mark__6 : List (List Nat) := unqs [0, 0, 66, 12417, 0, 0, 326, 29061, 17663105454471]
def fk_WH_slices_Equal___impl_Mark_impl_Mark__6 : List (List Nat) := unps 8 [6486, 6482, 6484, 6493, 566, 242, 404, 1133]
def dk_WH_slices_Equal___impl_Ack_impl_Ack__6 : List (List Nat) := unqs [0, 0, 66, 12417, 0, 0, 326, 29061, 17663105454471]
def fk_WH_slices_Equal___impl_Ack_impl_Ack__6 : List (List Nat) := unps 8 [6486, 6482, 6484, 6493, 566, 242, 404, 1133]
def dk_WH_slices_Equal___impl_Entry_impl_Entry__6 : List (List Nat) := unqs [0, 0, 66, 12417, 0, 0, 326, 29061, 17663105454471]
def fk_WH_slices_Equal___impl_Entry_impl_Entry__6 : List (List Nat) := unps 8 [6486, 6482, 6484, 6493, 566, 242, 404, 1133]
def dk_WH_slices_Equal___impl_Pair_impl_Pair__6 : List (List Nat) := unqs [0, 0, 66, 12417, 0, 0, 326, 29061, 17663105454471]
def fk_WH_slices_Equal___impl_Pair_impl_Pair__6 : List (List Nat) := unps 8 [6486, 6482, 6484, 6493, 566, 242, 404, 1133]
def dk_WH_slices_Equal___impl_Job_impl_Job__6 : List (List Nat) := unqs [0, 0, 66, 12417, 0, 0, 326, 29061, 17663105454471]
def fk_WH_slices_Equal___impl_Job_impl_Job__6 : List (List Nat) := unps 8 [6486, 6482, 6484, 6493, 566, 242, 404, 1133]
def dk_WH_slices_Equal___impl_Due_impl_Due__6 : List (List Nat) := unqs [0, 0, 66, 12417, 0, 0, 326, 29061, 17663105454471]
def fk_WH_slices_Equal___impl_Due_impl_Due__6 : List (List Nat) := unps 8 [6486, 6482, 6484, 6493, 566, 242, 404, 1133]
def dk_WH_slices_Equal___int64_int64__6 : List (List Nat) := unqs [0, 0, 66, 12417, 0, 0, 326, 29061, 17663105454471]
def fk_WH_slices_Equal___int64_int64__6 : List (List Nat) := unps 8 [6486, 6482, 6484, 6493, 566, 242, 404, 1133]
def dk_WH_spec_SameSeen_6 : List (List Nat) := unqs [0, 0, 66, 12417, 0, 0, 326, 29061, 17663105454471]
def fk_WH_spec_SameSeen_6 : List (List Nat) := unps 8 [6486, 6482, 6484, 6493, 566, 242, 404, 1133]

theorem ne_len {α : Type} [DecidableEq α] {a b : List α} (h : ¬ a.length = b.length) : decide (a = b) = false := decide_eq_false fun e => h (by rw [e])
theorem ne_at {α : Type} [DecidableEq α] {a b : List α} {k : Nat} (h1 : k < a.length) (h2 : k < b.length) (h : a[k] ≠ b[k]) : decide (a = b) = false := decide_eq_false fun e => h (by subst e; rfl)
theorem eq_all {α : Type} [DecidableEq α] {a b : List α} (hl : a.length = b.length) (h : ∀ (j : Nat) (h1 : j < a.length) (h2 : j < b.length), a[j] = b[j]) : decide (a = b) = true := decide_eq_true (List.ext_getElem hl h)
theorem step_eq {α : Type} {a b : List α} {k : Nat} (h : ∀ (j : Nat) (hj : j < k) (h1 : j < a.length) (h2 : j < b.length), a[j] = b[j]) (hk : ∀ (h1 : k < a.length) (h2 : k < b.length), a[k] = b[k]) : ∀ (j : Nat) (hj : j < k + 1) (h1 : j < a.length) (h2 : j < b.length), a[j] = b[j] := by
  intro j hj h1 h2
  by_cases hjk : j = k
  · subst hjk; exact hk h1 h2
  · exact h j (by omega) h1 h2

theorem slEqMark_p (a b : List DMark) (ha : a.length ≤ 9223372036854775806) : PCall av 327 [.one (.sl (a.map DMark.ds)), .one (.sl (b.map DMark.ds))] (rB (decide (a = b))) := by
  refine pcall_of av_ok Tryz.func327 rfl Tryz.call327 Tryz.ntmps327 (congrArg Array.toList Tryz.results327) fun S => ?_; conv => whnf
  repeat' (first | (refine aw0 ?_) | ((first | refine aw1 ?_ | refine aw2 ?_ | refine aw3 ?_ | refine aw4 ?_ | refine aw5 ?_ | refine aw6 ?_ | refine aw7 ?_ | refine aw8 ?_); conv => whnf) | ((first | refine bT ?_ | refine bF ?_); conv => whnf) | (exact rr) | (refine And.intro rfl ?_; conv => whnf) | (refine AB.mk (fun h => ?_) (fun h => ?_) <;> (conv => whnf)))
  · rw [ne_len (by simp only [bne_iff_ne, ne_eq, decide_eq_true_eq, decide_eq_false_iff_not, List.length_map, bne_eq_false_iff_eq] at *; omega)]
  · have hlen : a.length = b.length := (by simp only [bne_iff_ne, ne_eq, decide_eq_true_eq, decide_eq_false_iff_not, List.length_map, bne_eq_false_iff_eq] at *; omega)
    clear h
    refine AWP.loopS (fun k : Nat => k ≤ a.length ∧ ∀ (j : Nat) (hj : j < k) (h1 : j < a.length) (h2 : j < b.length), a[j] = b[j]) [4, 5, 13, 14, 15, 16, 17, 18, 19, 20, 21, 22, 23, 24, 25] (fun k => [(13, vI .i64 (k : Int))]) (fun _ => []) (fun k => a.length - k) 0 ⟨by omega, by omega⟩ ?_ SubO.nil (fun k hR => ?_) <;> (conv => whnf)
    · exact whd
    · obtain ⟨hk, hall⟩ := hR
      repeat' (first | (refine aw0 ?_) | ((first | refine aw1 ?_ | refine aw2 ?_ | refine aw3 ?_ | refine aw4 ?_ | refine aw5 ?_ | refine aw6 ?_ | refine aw7 ?_ | refine aw8 ?_); conv => whnf) | ((first | refine bT ?_ | refine bF ?_); conv => whnf) | (refine AWP.drawK av_ok 6 8 dk_WH_slices_Equal___impl_Mark_impl_Mark__6 fk_WH_slices_Equal___impl_Mark_impl_Mark__6 (by kernel_rfl) (by kernel_rfl) (by kernel_rfl) rfl ?_; conv => whnf) | (refine AIx.mapF ari (fun hlt => ?_); conv => whnf) | (refine AW.i64 ari ari ?_; conv => whnf) | (refine AFRd.eqs (neqMark_at _ _) rfl rfl rfl rfl rfl ?_; conv => whnf) | (refine AOp.eqs (neqMark_at _ _) rfl rfl rfl rfl rfl ?_; conv => whnf) | (exact rr) | (refine And.intro rfl ?_; conv => whnf) | (refine AB.mk (fun h => ?_) (fun h => ?_) <;> (conv => whnf)))
      all_goals first
        | (rw [ne_at (k := k) ari ari (by simp_all)]; done)
        | (refine ANext.mk ⟨k + 1, ⟨ari, step_eq hall fun h1 h2 => by simpa using h⟩, ari, ?_, SubO.nil⟩
           exact hds)
        | (have hkk : k = a.length := ari
           rw [eq_all hlen fun j h1 h2 => hall j (by omega) h1 h2])
theorem slEqAck_p (a b : List DAck) (ha : a.length ≤ 9223372036854775806) : PCall av 279 [.one (.sl (a.map DAck.ds)), .one (.sl (b.map DAck.ds))] (rB (decide (a = b))) := by
  refine pcall_of av_ok Tryz.func279 rfl Tryz.call279 Tryz.ntmps279 (congrArg Array.toList Tryz.results279) fun S => ?_; conv => whnf
  repeat' (first | (refine aw0 ?_) | ((first | refine aw1 ?_ | refine aw2 ?_ | refine aw3 ?_ | refine aw4 ?_ | refine aw5 ?_ | refine aw6 ?_ | refine aw7 ?_ | refine aw8 ?_); conv => whnf) | ((first | refine bT ?_ | refine bF ?_); conv => whnf) | (exact rr) | (refine And.intro rfl ?_; conv => whnf) | (refine AB.mk (fun h => ?_) (fun h => ?_) <;> (conv => whnf)))
  · rw [ne_len (by simp only [bne_iff_ne, ne_eq, decide_eq_true_eq, decide_eq_false_iff_not, List.length_map, bne_eq_false_iff_eq] at *; omega)]
  · have hlen : a.length = b.length := (by simp only [bne_iff_ne, ne_eq, decide_eq_true_eq, decide_eq_false_iff_not, List.length_map, bne_eq_false_iff_eq] at *; omega)
    clear h
    refine AWP.loopS (fun k : Nat => k ≤ a.length ∧ ∀ (j : Nat) (hj : j < k) (h1 : j < a.length) (h2 : j < b.length), a[j] = b[j]) [4, 5, 13, 14, 15, 16, 17, 18, 19, 20, 21, 22, 23, 24, 25] (fun k => [(13, vI .i64 (k : Int))]) (fun _ => []) (fun k => a.length - k) 0 ⟨by omega, by omega⟩ ?_ SubO.nil (fun k hR => ?_) <;> (conv => whnf)
    · exact whd
    · obtain ⟨hk, hall⟩ := hR
      repeat' (first | (refine aw0 ?_) | ((first | refine aw1 ?_ | refine aw2 ?_ | refine aw3 ?_ | refine aw4 ?_ | refine aw5 ?_ | refine aw6 ?_ | refine aw7 ?_ | refine aw8 ?_); conv => whnf) | ((first | refine bT ?_ | refine bF ?_); conv => whnf) | (refine AWP.drawK av_ok 6 8 dk_WH_slices_Equal___impl_Ack_impl_Ack__6 fk_WH_slices_Equal___impl_Ack_impl_Ack__6 (by kernel_rfl) (by kernel_rfl) (by kernel_rfl) rfl ?_; conv => whnf) | (refine AIx.mapF ari (fun hlt => ?_); conv => whnf) | (refine AW.i64 ari ari ?_; conv => whnf) | (refine AFRd.eqs (neqAck_at _ _) rfl rfl rfl rfl rfl ?_; conv => whnf) | (refine AOp.eqs (neqAck_at _ _) rfl rfl rfl rfl rfl ?_; conv => whnf) | (exact rr) | (refine And.intro rfl ?_; conv => whnf) | (refine AB.mk (fun h => ?_) (fun h => ?_) <;> (conv => whnf)))
      all_goals first
        | (rw [ne_at (k := k) ari ari (by simp_all)]; done)
        | (refine ANext.mk ⟨k + 1, ⟨ari, step_eq hall fun h1 h2 => by simpa using h⟩, ari, ?_, SubO.nil⟩
           exact hds)
        | (have hkk : k = a.length := ari
           rw [eq_all hlen fun j h1 h2 => hall j (by omega) h1 h2])
theorem slEqEntry_p (a b : List DEntry) (ha : a.length ≤ 9223372036854775806) : PCall av 336 [.one (.sl (a.map DEntry.ds)), .one (.sl (b.map DEntry.ds))] (rB (decide (a = b))) := by
  refine pcall_of av_ok Tryz.func336 rfl Tryz.call336 Tryz.ntmps336 (congrArg Array.toList Tryz.results336) fun S => ?_; conv => whnf
  repeat' (first | (refine aw0 ?_) | ((first | refine aw1 ?_ | refine aw2 ?_ | refine aw3 ?_ | refine aw4 ?_ | refine aw5 ?_ | refine aw6 ?_ | refine aw7 ?_ | refine aw8 ?_); conv => whnf) | ((first | refine bT ?_ | refine bF ?_); conv => whnf) | (exact rr) | (refine And.intro rfl ?_; conv => whnf) | (refine AB.mk (fun h => ?_) (fun h => ?_) <;> (conv => whnf)))
  · rw [ne_len (by simp only [bne_iff_ne, ne_eq, decide_eq_true_eq, decide_eq_false_iff_not, List.length_map, bne_eq_false_iff_eq] at *; omega)]
  · have hlen : a.length = b.length := (by simp only [bne_iff_ne, ne_eq, decide_eq_true_eq, decide_eq_false_iff_not, List.length_map, bne_eq_false_iff_eq] at *; omega)
    clear h
    refine AWP.loopS (fun k : Nat => k ≤ a.length ∧ ∀ (j : Nat) (hj : j < k) (h1 : j < a.length) (h2 : j < b.length), a[j] = b[j]) [4, 5, 13, 14, 15, 16, 17, 18, 19, 20, 21, 22, 23, 24, 25] (fun k => [(13, vI .i64 (k : Int))]) (fun _ => []) (fun k => a.length - k) 0 ⟨by omega, by omega⟩ ?_ SubO.nil (fun k hR => ?_) <;> (conv => whnf)
    · exact whd
    · obtain ⟨hk, hall⟩ := hR
      repeat' (first | (refine aw0 ?_) | ((first | refine aw1 ?_ | refine aw2 ?_ | refine aw3 ?_ | refine aw4 ?_ | refine aw5 ?_ | refine aw6 ?_ | refine aw7 ?_ | refine aw8 ?_); conv => whnf) | ((first | refine bT ?_ | refine bF ?_); conv => whnf) | (refine AWP.drawK av_ok 6 8 dk_WH_slices_Equal___impl_Entry_impl_Entry__6 fk_WH_slices_Equal___impl_Entry_impl_Entry__6 (by kernel_rfl) (by kernel_rfl) (by kernel_rfl) rfl ?_; conv => whnf) | (refine AIx.mapF ari (fun hlt => ?_); conv => whnf) | (refine AW.i64 ari ari ?_; conv => whnf) | (refine AFRd.eqs (neqEntry_at _ _) rfl rfl rfl rfl rfl ?_; conv => whnf) | (refine AOp.eqs (neqEntry_at _ _) rfl rfl rfl rfl rfl ?_; conv => whnf) | (exact rr) | (refine And.intro rfl ?_; conv => whnf) | (refine AB.mk (fun h => ?_) (fun h => ?_) <;> (conv => whnf)))
      all_goals first
        | (rw [ne_at (k := k) ari ari (by simp_all)]; done)
        | (refine ANext.mk ⟨k + 1, ⟨ari, step_eq hall fun h1 h2 => by simpa using h⟩, ari, ?_, SubO.nil⟩
           exact hds)
        | (have hkk : k = a.length := ari
           rw [eq_all hlen fun j h1 h2 => hall j (by omega) h1 h2])
theorem slEqPair_p (a b : List DPair) (ha : a.length ≤ 9223372036854775806) : PCall av 339 [.one (.sl (a.map DPair.ds)), .one (.sl (b.map DPair.ds))] (rB (decide (a = b))) := by
  refine pcall_of av_ok Tryz.func339 rfl Tryz.call339 Tryz.ntmps339 (congrArg Array.toList Tryz.results339) fun S => ?_; conv => whnf
  repeat' (first | (refine aw0 ?_) | ((first | refine aw1 ?_ | refine aw2 ?_ | refine aw3 ?_ | refine aw4 ?_ | refine aw5 ?_ | refine aw6 ?_ | refine aw7 ?_ | refine aw8 ?_); conv => whnf) | ((first | refine bT ?_ | refine bF ?_); conv => whnf) | (exact rr) | (refine And.intro rfl ?_; conv => whnf) | (refine AB.mk (fun h => ?_) (fun h => ?_) <;> (conv => whnf)))
  · rw [ne_len (by simp only [bne_iff_ne, ne_eq, decide_eq_true_eq, decide_eq_false_iff_not, List.length_map, bne_eq_false_iff_eq] at *; omega)]
  · have hlen : a.length = b.length := (by simp only [bne_iff_ne, ne_eq, decide_eq_true_eq, decide_eq_false_iff_not, List.length_map, bne_eq_false_iff_eq] at *; omega)
    clear h
    refine AWP.loopS (fun k : Nat => k ≤ a.length ∧ ∀ (j : Nat) (hj : j < k) (h1 : j < a.length) (h2 : j < b.length), a[j] = b[j]) [4, 5, 13, 14, 15, 16, 17, 18, 19, 20, 21, 22, 23, 24, 25] (fun k => [(13, vI .i64 (k : Int))]) (fun _ => []) (fun k => a.length - k) 0 ⟨by omega, by omega⟩ ?_ SubO.nil (fun k hR => ?_) <;> (conv => whnf)
    · exact whd
    · obtain ⟨hk, hall⟩ := hR
      repeat' (first | (refine aw0 ?_) | ((first | refine aw1 ?_ | refine aw2 ?_ | refine aw3 ?_ | refine aw4 ?_ | refine aw5 ?_ | refine aw6 ?_ | refine aw7 ?_ | refine aw8 ?_); conv => whnf) | ((first | refine bT ?_ | refine bF ?_); conv => whnf) | (refine AWP.drawK av_ok 6 8 dk_WH_slices_Equal___impl_Pair_impl_Pair__6 fk_WH_slices_Equal___impl_Pair_impl_Pair__6 (by kernel_rfl) (by kernel_rfl) (by kernel_rfl) rfl ?_; conv => whnf) | (refine AIx.mapF ari (fun hlt => ?_); conv => whnf) | (refine AW.i64 ari ari ?_; conv => whnf) | (refine AFRd.eqs (neqPair_at _ _) rfl rfl rfl rfl rfl ?_; conv => whnf) | (refine AOp.eqs (neqPair_at _ _) rfl rfl rfl rfl rfl ?_; conv => whnf) | (exact rr) | (refine And.intro rfl ?_; conv => whnf) | (refine AB.mk (fun h => ?_) (fun h => ?_) <;> (conv => whnf)))
      all_goals first
        | (rw [ne_at (k := k) ari ari (by simp_all)]; done)
        | (refine ANext.mk ⟨k + 1, ⟨ari, step_eq hall fun h1 h2 => by simpa using h⟩, ari, ?_, SubO.nil⟩
           exact hds)
        | (have hkk : k = a.length := ari
           rw [eq_all hlen fun j h1 h2 => hall j (by omega) h1 h2])
theorem slEqJob_p (a b : List DJob) (ha : a.length ≤ 9223372036854775806) : PCall av 340 [.one (.sl (a.map DJob.ds)), .one (.sl (b.map DJob.ds))] (rB (decide (a = b))) := by
  refine pcall_of av_ok Tryz.func340 rfl Tryz.call340 Tryz.ntmps340 (congrArg Array.toList Tryz.results340) fun S => ?_; conv => whnf
  repeat' (first | (refine aw0 ?_) | ((first | refine aw1 ?_ | refine aw2 ?_ | refine aw3 ?_ | refine aw4 ?_ | refine aw5 ?_ | refine aw6 ?_ | refine aw7 ?_ | refine aw8 ?_); conv => whnf) | ((first | refine bT ?_ | refine bF ?_); conv => whnf) | (exact rr) | (refine And.intro rfl ?_; conv => whnf) | (refine AB.mk (fun h => ?_) (fun h => ?_) <;> (conv => whnf)))
  · rw [ne_len (by simp only [bne_iff_ne, ne_eq, decide_eq_true_eq, decide_eq_false_iff_not, List.length_map, bne_eq_false_iff_eq] at *; omega)]
  · have hlen : a.length = b.length := (by simp only [bne_iff_ne, ne_eq, decide_eq_true_eq, decide_eq_false_iff_not, List.length_map, bne_eq_false_iff_eq] at *; omega)
    clear h
    refine AWP.loopS (fun k : Nat => k ≤ a.length ∧ ∀ (j : Nat) (hj : j < k) (h1 : j < a.length) (h2 : j < b.length), a[j] = b[j]) [4, 5, 13, 14, 15, 16, 17, 18, 19, 20, 21, 22, 23, 24, 25] (fun k => [(13, vI .i64 (k : Int))]) (fun _ => []) (fun k => a.length - k) 0 ⟨by omega, by omega⟩ ?_ SubO.nil (fun k hR => ?_) <;> (conv => whnf)
    · exact whd
    · obtain ⟨hk, hall⟩ := hR
      repeat' (first | (refine aw0 ?_) | ((first | refine aw1 ?_ | refine aw2 ?_ | refine aw3 ?_ | refine aw4 ?_ | refine aw5 ?_ | refine aw6 ?_ | refine aw7 ?_ | refine aw8 ?_); conv => whnf) | ((first | refine bT ?_ | refine bF ?_); conv => whnf) | (refine AWP.drawK av_ok 6 8 dk_WH_slices_Equal___impl_Job_impl_Job__6 fk_WH_slices_Equal___impl_Job_impl_Job__6 (by kernel_rfl) (by kernel_rfl) (by kernel_rfl) rfl ?_; conv => whnf) | (refine AIx.mapF ari (fun hlt => ?_); conv => whnf) | (refine AW.i64 ari ari ?_; conv => whnf) | (refine AFRd.eqs (neqJob_at _ _) rfl rfl rfl rfl rfl ?_; conv => whnf) | (refine AOp.eqs (neqJob_at _ _) rfl rfl rfl rfl rfl ?_; conv => whnf) | (exact rr) | (refine And.intro rfl ?_; conv => whnf) | (refine AB.mk (fun h => ?_) (fun h => ?_) <;> (conv => whnf)))
      all_goals first
        | (rw [ne_at (k := k) ari ari (by simp_all)]; done)
        | (refine ANext.mk ⟨k + 1, ⟨ari, step_eq hall fun h1 h2 => by simpa using h⟩, ari, ?_, SubO.nil⟩
           exact hds)
        | (have hkk : k = a.length := ari
           rw [eq_all hlen fun j h1 h2 => hall j (by omega) h1 h2])
theorem slEqDue_p (a b : List DDue) (ha : a.length ≤ 9223372036854775806) : PCall av 357 [.one (.sl (a.map DDue.ds)), .one (.sl (b.map DDue.ds))] (rB (decide (a = b))) := by
  refine pcall_of av_ok Tryz.func357 rfl Tryz.call357 Tryz.ntmps357 (congrArg Array.toList Tryz.results357) fun S => ?_; conv => whnf
  repeat' (first | (refine aw0 ?_) | ((first | refine aw1 ?_ | refine aw2 ?_ | refine aw3 ?_ | refine aw4 ?_ | refine aw5 ?_ | refine aw6 ?_ | refine aw7 ?_ | refine aw8 ?_); conv => whnf) | ((first | refine bT ?_ | refine bF ?_); conv => whnf) | (exact rr) | (refine And.intro rfl ?_; conv => whnf) | (refine AB.mk (fun h => ?_) (fun h => ?_) <;> (conv => whnf)))
  · rw [ne_len (by simp only [bne_iff_ne, ne_eq, decide_eq_true_eq, decide_eq_false_iff_not, List.length_map, bne_eq_false_iff_eq] at *; omega)]
  · have hlen : a.length = b.length := (by simp only [bne_iff_ne, ne_eq, decide_eq_true_eq, decide_eq_false_iff_not, List.length_map, bne_eq_false_iff_eq] at *; omega)
    clear h
    refine AWP.loopS (fun k : Nat => k ≤ a.length ∧ ∀ (j : Nat) (hj : j < k) (h1 : j < a.length) (h2 : j < b.length), a[j] = b[j]) [4, 5, 13, 14, 15, 16, 17, 18, 19, 20, 21, 22, 23, 24, 25] (fun k => [(13, vI .i64 (k : Int))]) (fun _ => []) (fun k => a.length - k) 0 ⟨by omega, by omega⟩ ?_ SubO.nil (fun k hR => ?_) <;> (conv => whnf)
    · exact whd
    · obtain ⟨hk, hall⟩ := hR
      repeat' (first | (refine aw0 ?_) | ((first | refine aw1 ?_ | refine aw2 ?_ | refine aw3 ?_ | refine aw4 ?_ | refine aw5 ?_ | refine aw6 ?_ | refine aw7 ?_ | refine aw8 ?_); conv => whnf) | ((first | refine bT ?_ | refine bF ?_); conv => whnf) | (refine AWP.drawK av_ok 6 8 dk_WH_slices_Equal___impl_Due_impl_Due__6 fk_WH_slices_Equal___impl_Due_impl_Due__6 (by kernel_rfl) (by kernel_rfl) (by kernel_rfl) rfl ?_; conv => whnf) | (refine AIx.mapF ari (fun hlt => ?_); conv => whnf) | (refine AW.i64 ari ari ?_; conv => whnf) | (refine AFRd.eqs (neqDue_at _ _) rfl rfl rfl rfl rfl ?_; conv => whnf) | (refine AOp.eqs (neqDue_at _ _) rfl rfl rfl rfl rfl ?_; conv => whnf) | (exact rr) | (refine And.intro rfl ?_; conv => whnf) | (refine AB.mk (fun h => ?_) (fun h => ?_) <;> (conv => whnf)))
      all_goals first
        | (rw [ne_at (k := k) ari ari (by simp_all)]; done)
        | (refine ANext.mk ⟨k + 1, ⟨ari, step_eq hall fun h1 h2 => by simpa using h⟩, ari, ?_, SubO.nil⟩
           exact hds)
        | (have hkk : k = a.length := ari
           rw [eq_all hlen fun j h1 h2 => hall j (by omega) h1 h2])
theorem slEqInt_p (a b : List Int) (ha : a.length ≤ 9223372036854775806) : PCall av 362 [.one (.sl (a.map eI)), .one (.sl (b.map eI))] (rB (decide (a = b))) := by
  refine pcall_of av_ok Tryz.func362 rfl Tryz.call362 Tryz.ntmps362 (congrArg Array.toList Tryz.results362) fun S => ?_; conv => whnf
  repeat' (first | (refine aw0 ?_) | ((first | refine aw1 ?_ | refine aw2 ?_ | refine aw3 ?_ | refine aw4 ?_ | refine aw5 ?_ | refine aw6 ?_ | refine aw7 ?_ | refine aw8 ?_); conv => whnf) | ((first | refine bT ?_ | refine bF ?_); conv => whnf) | (exact rr) | (refine And.intro rfl ?_; conv => whnf) | (refine AB.mk (fun h => ?_) (fun h => ?_) <;> (conv => whnf)))
  · rw [ne_len (by simp only [bne_iff_ne, ne_eq, decide_eq_true_eq, decide_eq_false_iff_not, List.length_map, bne_eq_false_iff_eq] at *; omega)]
  · have hlen : a.length = b.length := (by simp only [bne_iff_ne, ne_eq, decide_eq_true_eq, decide_eq_false_iff_not, List.length_map, bne_eq_false_iff_eq] at *; omega)
    clear h
    refine AWP.loopS (fun k : Nat => k ≤ a.length ∧ ∀ (j : Nat) (hj : j < k) (h1 : j < a.length) (h2 : j < b.length), a[j] = b[j]) [4, 5, 13, 14, 15, 16, 17, 18, 19, 20, 21, 22, 23, 24, 25] (fun k => [(13, vI .i64 (k : Int))]) (fun _ => []) (fun k => a.length - k) 0 ⟨by omega, by omega⟩ ?_ SubO.nil (fun k hR => ?_) <;> (conv => whnf)
    · exact whd
    · obtain ⟨hk, hall⟩ := hR
      repeat' (first | (refine aw0 ?_) | ((first | refine aw1 ?_ | refine aw2 ?_ | refine aw3 ?_ | refine aw4 ?_ | refine aw5 ?_ | refine aw6 ?_ | refine aw7 ?_ | refine aw8 ?_); conv => whnf) | ((first | refine bT ?_ | refine bF ?_); conv => whnf) | (refine AWP.drawK av_ok 6 8 dk_WH_slices_Equal___int64_int64__6 fk_WH_slices_Equal___int64_int64__6 (by kernel_rfl) (by kernel_rfl) (by kernel_rfl) rfl ?_; conv => whnf) | (refine AIx.mapF ari (fun hlt => ?_); conv => whnf) | (refine AW.i64 ari ari ?_; conv => whnf) | (exact rr) | (refine And.intro rfl ?_; conv => whnf) | (refine AB.mk (fun h => ?_) (fun h => ?_) <;> (conv => whnf)))
      all_goals first
        | (rw [ne_at (k := k) ari ari (by simp_all)]; done)
        | (refine ANext.mk ⟨k + 1, ⟨ari, step_eq hall fun h1 h2 => by simpa using h⟩, ari, ?_, SubO.nil⟩
           exact hds)
        | (have hkk : k = a.length := ari
           rw [eq_all hlen fun j h1 h2 => hall j (by omega) h1 h2])
theorem sSameSeen_p (a b : List DMark) (ha : a.length ≤ 9223372036854775806) : PCall av 247 [.one (.sl (a.map DMark.ds)), .one (.sl (b.map DMark.ds))] (rB (decide (a = b))) := by
  refine pcall_of av_ok Tryz.func247 rfl Tryz.call247 Tryz.ntmps247 (congrArg Array.toList Tryz.results247) fun S => ?_; conv => whnf
  repeat' (first | (refine aw0 ?_) | ((first | refine aw1 ?_ | refine aw2 ?_ | refine aw3 ?_ | refine aw4 ?_ | refine aw5 ?_ | refine aw6 ?_ | refine aw7 ?_ | refine aw8 ?_); conv => whnf) | ((first | refine bT ?_ | refine bF ?_); conv => whnf) | (exact rr) | (refine And.intro rfl ?_; conv => whnf) | (refine AB.mk (fun h => ?_) (fun h => ?_) <;> (conv => whnf)))
  · rw [ne_len (by simp only [bne_iff_ne, ne_eq, decide_eq_true_eq, decide_eq_false_iff_not, List.length_map, bne_eq_false_iff_eq] at *; omega)]
  · have hlen : a.length = b.length := (by simp only [bne_iff_ne, ne_eq, decide_eq_true_eq, decide_eq_false_iff_not, List.length_map, bne_eq_false_iff_eq] at *; omega)
    clear h
    refine AWP.loopS (fun k : Nat => k ≤ a.length ∧ ∀ (j : Nat) (hj : j < k) (h1 : j < a.length) (h2 : j < b.length), a[j] = b[j]) [4, 5, 11, 12, 13, 14, 15, 16, 17, 18, 19, 20, 21, 22, 23, 24, 25] (fun k => [(5, vI .i64 (k : Int))]) (fun _ => []) (fun k => a.length - k) 0 ⟨by omega, by omega⟩ ?_ SubO.nil (fun k hR => ?_) <;> (conv => whnf)
    · exact whd
    · obtain ⟨hk, hall⟩ := hR
      repeat' (first | (refine aw0 ?_) | ((first | refine aw1 ?_ | refine aw2 ?_ | refine aw3 ?_ | refine aw4 ?_ | refine aw5 ?_ | refine aw6 ?_ | refine aw7 ?_ | refine aw8 ?_); conv => whnf) | ((first | refine bT ?_ | refine bF ?_); conv => whnf) | (refine AWP.drawK av_ok 6 8 dk_WH_spec_SameSeen_6 fk_WH_spec_SameSeen_6 (by kernel_rfl) (by kernel_rfl) (by kernel_rfl) rfl ?_; conv => whnf) | (refine AIx.mapF ari (fun hlt => ?_); conv => whnf) | (refine AW.i64 ari ari ?_; conv => whnf) | (refine AFRd.eqs (neqMark_at _ _) rfl rfl rfl rfl rfl ?_; conv => whnf) | (refine AOp.eqs (neqMark_at _ _) rfl rfl rfl rfl rfl ?_; conv => whnf) | (exact rr) | (refine And.intro rfl ?_; conv => whnf) | (refine AB.mk (fun h => ?_) (fun h => ?_) <;> (conv => whnf)))
      all_goals first
        | (rw [ne_at (k := k) ari ari (by simp_all)]; done)
        | (refine ANext.mk ⟨k + 1, ⟨ari, step_eq hall fun h1 h2 => by simpa using h⟩, ari, ?_, SubO.nil⟩
           exact hds)
        | (have hkk : k = a.length := ari
           rw [eq_all hlen fun j h1 h2 => hall j (by omega) h1 h2])
theorem iSameSeen_p (a b : List DMark) (ha : a.length ≤ 9223372036854775806) : PCall av 277 [.one (.sl (a.map DMark.ds)), .one (.sl (b.map DMark.ds))] (rB (decide (a = b))) := by
  refine pcall_of av_ok Tryz.func277 rfl Tryz.call277 Tryz.ntmps277 (congrArg Array.toList Tryz.results277) fun S => ?_; conv => whnf
  repeat' (first | (refine aw0 ?_) | ((first | refine aw1 ?_ | refine aw2 ?_ | refine aw3 ?_ | refine aw4 ?_ | refine aw5 ?_ | refine aw6 ?_ | refine aw7 ?_ | refine aw8 ?_); conv => whnf) | ((first | refine bT ?_ | refine bF ?_); conv => whnf) | (refine ACall.pure (slEqMark_p a b ha) rfl ?_; conv => whnf) | (refine AFCall.mk ⟨_, _, slEqMark_p a b ha, .inl rfl, ?_⟩; conv => whnf) | (exact rr) | (refine And.intro rfl ?_; conv => whnf) | (refine AB.mk (fun h => ?_) (fun h => ?_) <;> (conv => whnf)))
theorem iSameRow_p (a b : List Int) (ha : a.length ≤ 9223372036854775806) : PCall av 333 [.one (dIs a), .one (dIs b)] (rB (decide (a = b))) := by
  refine pcall_of av_ok Tryz.func333 rfl Tryz.call333 Tryz.ntmps333 (congrArg Array.toList Tryz.results333) fun S => ?_; conv => whnf
  repeat' (first | (refine aw0 ?_) | ((first | refine aw1 ?_ | refine aw2 ?_ | refine aw3 ?_ | refine aw4 ?_ | refine aw5 ?_ | refine aw6 ?_ | refine aw7 ?_ | refine aw8 ?_); conv => whnf) | ((first | refine bT ?_ | refine bF ?_); conv => whnf) | (refine ACall.pure (slEqInt_p a b ha) rfl ?_; conv => whnf) | (refine AFCall.mk ⟨_, _, slEqInt_p a b ha, .inl rfl, ?_⟩; conv => whnf) | (exact rr) | (refine And.intro rfl ?_; conv => whnf) | (refine AB.mk (fun h => ?_) (fun h => ?_) <;> (conv => whnf)))
theorem isameWrite_p (x y : DWrite) (hx : x.row.length ≤ 9223372036854775806) : PCall av 335 [.agg x.ds, .agg y.ds] (rB (decide (x = y))) := by
  obtain ⟨a, r⟩ := x
  obtain ⟨b, q⟩ := y
  refine pcall_of av_ok Tryz.func335 rfl Tryz.call335 Tryz.ntmps335 (congrArg Array.toList Tryz.results335) fun S => ?_; conv => whnf
  repeat' (first | (refine aw0 ?_) | ((first | refine aw1 ?_ | refine aw2 ?_ | refine aw3 ?_ | refine aw4 ?_ | refine aw5 ?_ | refine aw6 ?_ | refine aw7 ?_ | refine aw8 ?_); conv => whnf) | ((first | refine bT ?_ | refine bF ?_); conv => whnf) | (refine ACall.pure (iSameRow_p r q hx) rfl ?_; conv => whnf) | (refine AFCall.mk ⟨_, _, iSameRow_p r q hx, .inl rfl, ?_⟩; conv => whnf) | (exact rr) | (refine And.intro rfl ?_; conv => whnf) | (refine AB.mk (fun h => ?_) (fun h => ?_) <;> (conv => whnf)))
  all_goals
    refine congrArg (fun b => AP.val (AP1.one (dB b))) ?_
    simp_all [DWrite.mk.injEq]
theorem slEqRows_p (a b : List (List Int)) (ha : a.length ≤ 9223372036854775806) (hr : ∀ y ∈ a, y.length ≤ 9223372036854775806) : PCall av 332 [.one (.sl (a.map eIIw)), .one (.sl (b.map eIIw)), .one (.pv (.func (.func 333) #[] #[]))] (rB (decide (a = b))) := by
  refine pcall_of av_ok Tryz.func332 rfl Tryz.call332 Tryz.ntmps332 (congrArg Array.toList Tryz.results332) fun S => ?_; conv => whnf
  repeat' (first | (refine aw0 ?_) | ((first | refine aw1 ?_ | refine aw2 ?_ | refine aw3 ?_ | refine aw4 ?_ | refine aw5 ?_ | refine aw6 ?_ | refine aw7 ?_ | refine aw8 ?_); conv => whnf) | ((first | refine bT ?_ | refine bF ?_); conv => whnf) | (exact rr) | (refine And.intro rfl ?_; conv => whnf) | (refine AB.mk (fun h => ?_) (fun h => ?_) <;> (conv => whnf)))
  · rw [ne_len (by simp only [bne_iff_ne, ne_eq, decide_eq_true_eq, decide_eq_false_iff_not, List.length_map, bne_eq_false_iff_eq] at *; omega)]
  · have hlen : a.length = b.length := (by simp only [bne_iff_ne, ne_eq, decide_eq_true_eq, decide_eq_false_iff_not, List.length_map, bne_eq_false_iff_eq] at *; omega)
    clear h
    refine AWP.loopS (fun k : Nat => k ≤ a.length ∧ ∀ (j : Nat) (hj : j < k) (h1 : j < a.length) (h2 : j < b.length), a[j] = b[j]) [6, 7, 8, 9, 17, 18, 19, 20, 21, 22, 23, 24, 25, 26, 27, 28, 29, 30, 31] (fun k => [(17, vI .i64 (k : Int))]) (fun _ => []) (fun k => a.length - k) 0 ⟨by omega, by omega⟩ ?_ SubO.nil (fun k hR => ?_) <;> (conv => whnf)
    · exact whd
    · obtain ⟨hk, hall⟩ := hR
      repeat' (first | (refine aw0 ?_) | ((first | refine aw1 ?_ | refine aw2 ?_ | refine aw3 ?_ | refine aw4 ?_ | refine aw5 ?_ | refine aw6 ?_ | refine aw7 ?_ | refine aw8 ?_); conv => whnf) | ((first | refine bT ?_ | refine bF ?_); conv => whnf) | (refine AIx.mapF ari (fun hlt => ?_); conv => whnf) | (refine AW.i64 ari ari ?_; conv => whnf) | (refine ACall.pure (iSameRow_p _ _ (hr _ (List.getElem_mem ari))) rfl ?_; conv => whnf) | (refine AFCall.mk ⟨_, _, iSameRow_p _ _ (hr _ (List.getElem_mem ari)), .inl rfl, ?_⟩; conv => whnf) | (exact rr) | (refine And.intro rfl ?_; conv => whnf) | (refine AB.mk (fun h => ?_) (fun h => ?_) <;> (conv => whnf)))
      all_goals first
        | (rw [ne_at (k := k) ari ari (by simp_all)]; done)
        | (refine ANext.mk ⟨k + 1, ⟨ari, step_eq hall fun h1 h2 => by simpa using h⟩, ari, ?_, SubO.nil⟩
           exact hds)
        | (have hkk : k = a.length := ari
           rw [eq_all hlen fun j h1 h2 => hall j (by omega) h1 h2])
theorem slEqWrites_p (a b : List (DWrite)) (ha : a.length ≤ 9223372036854775806) (hr : ∀ y ∈ a, y.row.length ≤ 9223372036854775806) : PCall av 334 [.one (.sl (a.map DWrite.ds)), .one (.sl (b.map DWrite.ds)), .one (.pv (.func (.func 335) #[] #[]))] (rB (decide (a = b))) := by
  refine pcall_of av_ok Tryz.func334 rfl Tryz.call334 Tryz.ntmps334 (congrArg Array.toList Tryz.results334) fun S => ?_; conv => whnf
  repeat' (first | (refine aw0 ?_) | ((first | refine aw1 ?_ | refine aw2 ?_ | refine aw3 ?_ | refine aw4 ?_ | refine aw5 ?_ | refine aw6 ?_ | refine aw7 ?_ | refine aw8 ?_); conv => whnf) | ((first | refine bT ?_ | refine bF ?_); conv => whnf) | (exact rr) | (refine And.intro rfl ?_; conv => whnf) | (refine AB.mk (fun h => ?_) (fun h => ?_) <;> (conv => whnf)))
  · rw [ne_len (by simp only [bne_iff_ne, ne_eq, decide_eq_true_eq, decide_eq_false_iff_not, List.length_map, bne_eq_false_iff_eq] at *; omega)]
  · have hlen : a.length = b.length := (by simp only [bne_iff_ne, ne_eq, decide_eq_true_eq, decide_eq_false_iff_not, List.length_map, bne_eq_false_iff_eq] at *; omega)
    clear h
    refine AWP.loopS (fun k : Nat => k ≤ a.length ∧ ∀ (j : Nat) (hj : j < k) (h1 : j < a.length) (h2 : j < b.length), a[j] = b[j]) [6, 7, 8, 9, 17, 18, 19, 20, 21, 22, 23, 24, 25, 26, 27, 28, 29, 30, 31] (fun k => [(17, vI .i64 (k : Int))]) (fun _ => []) (fun k => a.length - k) 0 ⟨by omega, by omega⟩ ?_ SubO.nil (fun k hR => ?_) <;> (conv => whnf)
    · exact whd
    · obtain ⟨hk, hall⟩ := hR
      repeat' (first | (refine aw0 ?_) | ((first | refine aw1 ?_ | refine aw2 ?_ | refine aw3 ?_ | refine aw4 ?_ | refine aw5 ?_ | refine aw6 ?_ | refine aw7 ?_ | refine aw8 ?_); conv => whnf) | ((first | refine bT ?_ | refine bF ?_); conv => whnf) | (refine AIx.mapF ari (fun hlt => ?_); conv => whnf) | (refine AW.i64 ari ari ?_; conv => whnf) | (refine ACall.pure (isameWrite_p _ _ (hr _ (List.getElem_mem ari))) rfl ?_; conv => whnf) | (refine AFCall.mk ⟨_, _, isameWrite_p _ _ (hr _ (List.getElem_mem ari)), .inl rfl, ?_⟩; conv => whnf) | (exact rr) | (refine And.intro rfl ?_; conv => whnf) | (refine AB.mk (fun h => ?_) (fun h => ?_) <;> (conv => whnf)))
      all_goals first
        | (rw [ne_at (k := k) ari ari (by simp_all)]; done)
        | (refine ANext.mk ⟨k + 1, ⟨ari, step_eq hall fun h1 h2 => by simpa using h⟩, ari, ?_, SubO.nil⟩
           exact hds)
        | (have hkk : k = a.length := ari
           rw [eq_all hlen fun j h1 h2 => hall j (by omega) h1 h2])
end Go.Proofs.YtmgcnmdbhahhlaaGreat
