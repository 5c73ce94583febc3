/- Joined by join.py: AvRA AvRB AvRC AvRD AvRE AvRF AvRG AvRH -/
import Derived.Test.YtlhanpkfnhnegaaDoorAvJ6
import Derived.Test.YtlhanpkfnhnegaaDoorFree
import Derived.Test.YtlhanpkfnhnegaaDoorMarkII
import Derived.Test.YtlhanpkfnhnegaaDoorGrowO
import Derived.Test.YtlhanpkfnhnegaaDoorDec
set_option linter.unusedVariables false
set_option linter.unusedSimpArgs false
set_option maxRecDepth 100000
/- Reports read: numerals of at most nine digits, both sides. -/
namespace Go.Proofs.YtlhanpkfnhnegaaDoor
open Go.RowKit

def numR (w : List UInt8) : Int × Bool := if digB w 9 then ((numV w : Int), true) else (0, false)
def pNB (y : Int × Bool) : AP := .tup [.one (dI y.1), .one (dB y.2)]
theorem numR_no {w : List UInt8} (h : digB w 9 = false) : AP.tup [.one (dI 0), .one (dB false)] = pNB (numR w) := by
  unfold numR; rw [h]; rfl
theorem numR_yes {w : List UInt8} {a : Int} (h : digB w 9 = true) (e : a = (numV w : Int)) : AP.tup [.one (dI a), .one (dB true)] = pNB (numR w) := by
  unfold numR; rw [h, e]; rfl
theorem digB_no {w : List UInt8} {m : Nat} (h : w ≠ [] → w.length ≤ m → (w.length ≤ 1 ∨ w.head? ≠ some 48) → w.all isDig = true → False) : digB w m = false := by
  rw [← Bool.not_eq_true, digB_iff]
  rintro ⟨a, b, c, d⟩
  exact h a b c d
set_option maxHeartbeats 1000000 in
theorem sl1Read_p (w : List UInt8) (hw : w.length ≤ 2000000) : PCall av 142 [pL w] (pNB (numR w)) := by
  refine pcall_of av_ok Tryd.func142 rfl Tryd.call142 Tryd.ntmps142 (congrArg Array.toList Tryd.results142) fun S => ?_; conv => whnf
  repeat' (first | (refine AWP.seq ?_) | (refine AWP.region av_ok ?_; conv => whnf) | (refine AWP.ret ?_; conv => whnf) | (refine AWP.skip ?_; conv => whnf) | (refine AWP.exit ?_; conv => whnf) | (refine AWP.block ?_; conv => whnf) | (refine AWP.cond ?_; conv => whnf) | (refine AB.tt ?_; conv => whnf) | (refine AB.ff ?_; conv => whnf) | (refine AB.ofT (by assumption) ?_; conv => whnf) | (refine AB.ofF (by assumption) ?_; conv => whnf) | (have h0 : 0 < w.length := (by simp only [sz_dL, decide_eq_true_eq, decide_eq_false_iff_not, beq_iff_eq, beq_eq_false_iff_ne, List.length_map, Bool.not_eq_true', Bool.not_eq_false', ne_eq] at *; omega); refine ⟨0, w[0]'h0, rfl, sget h0, ?_⟩; conv => whnf) | (exact trivial) | (refine And.intro rfl ?_; conv => whnf) | (refine AB.mk (fun h => ?_) (fun h => ?_) <;> (conv => whnf)) | (with_reducible_and_instances rfl) | (exact (rfl : AP.tup _ = AP.tup _)))
  · have h1 : w.length = 0 := (by simp only [sz_dL, decide_eq_true_eq, decide_eq_false_iff_not, beq_iff_eq, beq_eq_false_iff_ne, List.length_map, Bool.not_eq_true', Bool.not_eq_false', ne_eq] at *; omega)
    rw [List.length_eq_zero_iff.1 h1]
    exact numR_no rfl
  · have h1 : 9 < w.length := (by simp only [sz_dL, decide_eq_true_eq, decide_eq_false_iff_not, beq_iff_eq, beq_eq_false_iff_ne, List.length_map, Bool.not_eq_true', Bool.not_eq_false', ne_eq] at *; omega)
    exact numR_no (digB_no fun _ h2 _ _ => by omega)
  · have h1 : 1 < w.length := (by simp only [sz_dL, decide_eq_true_eq, decide_eq_false_iff_not, beq_iff_eq, beq_eq_false_iff_ne, List.length_map, Bool.not_eq_true', Bool.not_eq_false', ne_eq] at *; omega)
    rename_i h2
    have h3 : w[0] = 48 := by
      apply UInt8.toNat_inj.1
      have h3 : (w[0].toNat : Int) = 48 := by simpa using h2
      show w[0].toNat = 48
      omega
    refine numR_no (digB_no fun _ _ h4 _ => ?_)
    rcases h4 with h4 | h4
    · omega
    · exact h4 (by rw [List.head?_eq_getElem?, List.getElem?_eq_getElem h0, h3])
  · have h1 : 1 ≤ w.length ∧ w.length ≤ 9 := (by simp only [sz_dL, decide_eq_true_eq, decide_eq_false_iff_not, beq_iff_eq, beq_eq_false_iff_ne, List.length_map, Bool.not_eq_true', Bool.not_eq_false', ne_eq] at *; omega)
    have h5 : w.length ≤ 1 := (by simp only [sz_dL, decide_eq_true_eq, decide_eq_false_iff_not, beq_iff_eq, beq_eq_false_iff_ne, List.length_map, Bool.not_eq_true', Bool.not_eq_false', ne_eq] at *; omega)
    have hlead : w.length ≤ 1 ∨ w.head? ≠ some 48 := .inl h5
    clear h
    refine AWP.loopS (fun k : Nat => k ≤ w.length ∧ (w.take k).all isDig = true) [2, 3, 4, 5, 24, 25, 26, 27, 28, 29, 30, 31, 32, 33, 34, 35, 36, 37, 38, 39, 40, 41, 42, 43, 44, 45, 46, 47] (fun k => [(4, vI .i64 (numV (w.take k) : Int)), (5, vI .i64 (k : Int))]) (fun k => []) (fun k => w.length - k) 0 ⟨by omega, rfl⟩ ?_ SubO.nil (fun k hR => ?_) <;> (conv => whnf)
    · repeat' (first | exact trivial | (refine And.intro rfl ?_; conv => whnf))
    · obtain ⟨hk, hall⟩ := hR
      have hb := numV_take (by omega) hall
      have no : ∀ (hk : k < w.length), isDig w[k] = false → digB w 9 = false := fun hk h => digB_no fun _ _ _ h0 => by
        have := (List.all_eq_true.1 h0) _ (List.getElem_mem hk)
        rw [h] at this; cases this
      have no' := Lib.hid no
      clear no
      have hall' := Lib.hid hall
      clear hall
      have hlead' := Lib.hid hlead
      clear hlead
      repeat' (first | (refine AWP.seq ?_) | (refine AWP.region av_ok ?_; conv => whnf) | (refine AWP.ret ?_; conv => whnf) | (refine AWP.skip ?_; conv => whnf) | (refine AWP.exit ?_; conv => whnf) | (refine AWP.block ?_; conv => whnf) | (refine AWP.cond ?_; conv => whnf) | (refine AB.tt ?_; conv => whnf) | (refine AB.ff ?_; conv => whnf) | (refine AB.ofT (by assumption) ?_; conv => whnf) | (refine AB.ofF (by assumption) ?_; conv => whnf) | (have hlt : k < w.length := (by simp only [sz_dL, decide_eq_true_eq, decide_eq_false_iff_not, beq_iff_eq, beq_eq_false_iff_ne, List.length_map, Bool.not_eq_true', Bool.not_eq_false', ne_eq] at *; omega); refine ⟨k, w[k]'hlt, rfl, sget hlt, ?_⟩; conv => whnf) | (refine AW.u8 (by simp only [sz_dL, decide_eq_true_eq, decide_eq_false_iff_not, beq_iff_eq, beq_eq_false_iff_ne, List.length_map, Bool.not_eq_true', Bool.not_eq_false', ne_eq] at *; omega) (by simp only [sz_dL, decide_eq_true_eq, decide_eq_false_iff_not, beq_iff_eq, beq_eq_false_iff_ne, List.length_map, Bool.not_eq_true', Bool.not_eq_false', ne_eq] at *; omega) ?_; conv => whnf) | (refine AW.i64 (by simp only [sz_dL, decide_eq_true_eq, decide_eq_false_iff_not, beq_iff_eq, beq_eq_false_iff_ne, List.length_map, Bool.not_eq_true', Bool.not_eq_false', ne_eq] at *; omega) (by simp only [sz_dL, decide_eq_true_eq, decide_eq_false_iff_not, beq_iff_eq, beq_eq_false_iff_ne, List.length_map, Bool.not_eq_true', Bool.not_eq_false', ne_eq] at *; omega) ?_; conv => whnf) | (exact trivial) | (refine And.intro rfl ?_; conv => whnf) | (refine AB.mk (fun h => ?_) (fun h => ?_) <;> (conv => whnf)) | (with_reducible_and_instances rfl) | (exact (rfl : AP.tup _ = AP.tup _)))
      all_goals try simp only [sz_dL, decide_eq_true_eq, decide_eq_false_iff_not, beq_iff_eq, beq_eq_false_iff_ne, ne_eq] at *
      · refine numR_no (no'.out hlt ?_)
        rw [← Bool.not_eq_true, isDig_iff]; omega
      · refine numR_no (no'.out hlt ?_)
        rw [← Bool.not_eq_true, isDig_iff]; omega
      · have e : (numV (w.take k) : Int) * 10 + ((w[k].toNat : Int) - 48) = (numV (w.take (k + 1)) : Int) := by rw [all_snoc_num hlt]; omega
        refine ANext.mk ⟨k + 1, ⟨hlt, all_take hlt hall'.out (isDig_iff.2 (by omega))⟩, by omega, ?_, SubO.nil⟩
        (conv => whnf); repeat' (first | exact trivial | (refine ⟨rfl, ?_⟩; conv => whnf) | (refine And.intro (congrArg (vI .i64) e) ?_; conv => whnf))
      · have hkl : k = w.length := by omega
        subst hkl
        have hall := hall'.out
        rw [List.take_length] at hall
        rw [List.take_length]
        exact numR_yes (digB_iff.2 ⟨List.length_pos_iff.1 (by omega), by omega, hlead'.out, hall⟩) rfl
  · have h1 : 1 ≤ w.length ∧ w.length ≤ 9 := (by simp only [sz_dL, decide_eq_true_eq, decide_eq_false_iff_not, beq_iff_eq, beq_eq_false_iff_ne, List.length_map, Bool.not_eq_true', Bool.not_eq_false', ne_eq] at *; omega)
    have hlead : w.length ≤ 1 ∨ w.head? ≠ some 48 := .inr (by
      rw [List.head?_eq_getElem?, List.getElem?_eq_getElem h0]
      intro e
      injection e with e
      rw [e] at h
      simp at h)
    clear h
    refine AWP.loopS (fun k : Nat => k ≤ w.length ∧ (w.take k).all isDig = true) [2, 3, 4, 5, 24, 25, 26, 27, 28, 29, 30, 31, 32, 33, 34, 35, 36, 37, 38, 39, 40, 41, 42, 43, 44, 45, 46, 47] (fun k => [(4, vI .i64 (numV (w.take k) : Int)), (5, vI .i64 (k : Int))]) (fun k => []) (fun k => w.length - k) 0 ⟨by omega, rfl⟩ ?_ SubO.nil (fun k hR => ?_) <;> (conv => whnf)
    · repeat' (first | exact trivial | (refine And.intro rfl ?_; conv => whnf))
    · obtain ⟨hk, hall⟩ := hR
      have hb := numV_take (by omega) hall
      have no : ∀ (hk : k < w.length), isDig w[k] = false → digB w 9 = false := fun hk h => digB_no fun _ _ _ h0 => by
        have := (List.all_eq_true.1 h0) _ (List.getElem_mem hk)
        rw [h] at this; cases this
      have no' := Lib.hid no
      clear no
      have hall' := Lib.hid hall
      clear hall
      have hlead' := Lib.hid hlead
      clear hlead
      repeat' (first | (refine AWP.seq ?_) | (refine AWP.region av_ok ?_; conv => whnf) | (refine AWP.ret ?_; conv => whnf) | (refine AWP.skip ?_; conv => whnf) | (refine AWP.exit ?_; conv => whnf) | (refine AWP.block ?_; conv => whnf) | (refine AWP.cond ?_; conv => whnf) | (refine AB.tt ?_; conv => whnf) | (refine AB.ff ?_; conv => whnf) | (refine AB.ofT (by assumption) ?_; conv => whnf) | (refine AB.ofF (by assumption) ?_; conv => whnf) | (have hlt : k < w.length := (by simp only [sz_dL, decide_eq_true_eq, decide_eq_false_iff_not, beq_iff_eq, beq_eq_false_iff_ne, List.length_map, Bool.not_eq_true', Bool.not_eq_false', ne_eq] at *; omega); refine ⟨k, w[k]'hlt, rfl, sget hlt, ?_⟩; conv => whnf) | (refine AW.u8 (by simp only [sz_dL, decide_eq_true_eq, decide_eq_false_iff_not, beq_iff_eq, beq_eq_false_iff_ne, List.length_map, Bool.not_eq_true', Bool.not_eq_false', ne_eq] at *; omega) (by simp only [sz_dL, decide_eq_true_eq, decide_eq_false_iff_not, beq_iff_eq, beq_eq_false_iff_ne, List.length_map, Bool.not_eq_true', Bool.not_eq_false', ne_eq] at *; omega) ?_; conv => whnf) | (refine AW.i64 (by simp only [sz_dL, decide_eq_true_eq, decide_eq_false_iff_not, beq_iff_eq, beq_eq_false_iff_ne, List.length_map, Bool.not_eq_true', Bool.not_eq_false', ne_eq] at *; omega) (by simp only [sz_dL, decide_eq_true_eq, decide_eq_false_iff_not, beq_iff_eq, beq_eq_false_iff_ne, List.length_map, Bool.not_eq_true', Bool.not_eq_false', ne_eq] at *; omega) ?_; conv => whnf) | (exact trivial) | (refine And.intro rfl ?_; conv => whnf) | (refine AB.mk (fun h => ?_) (fun h => ?_) <;> (conv => whnf)) | (with_reducible_and_instances rfl) | (exact (rfl : AP.tup _ = AP.tup _)))
      all_goals try simp only [sz_dL, decide_eq_true_eq, decide_eq_false_iff_not, beq_iff_eq, beq_eq_false_iff_ne, ne_eq] at *
      · refine numR_no (no'.out hlt ?_)
        rw [← Bool.not_eq_true, isDig_iff]; omega
      · refine numR_no (no'.out hlt ?_)
        rw [← Bool.not_eq_true, isDig_iff]; omega
      · have e : (numV (w.take k) : Int) * 10 + ((w[k].toNat : Int) - 48) = (numV (w.take (k + 1)) : Int) := by rw [all_snoc_num hlt]; omega
        refine ANext.mk ⟨k + 1, ⟨hlt, all_take hlt hall'.out (isDig_iff.2 (by omega))⟩, by omega, ?_, SubO.nil⟩
        (conv => whnf); repeat' (first | exact trivial | (refine ⟨rfl, ?_⟩; conv => whnf) | (refine And.intro (congrArg (vI .i64) e) ?_; conv => whnf))
      · have hkl : k = w.length := by omega
        subst hkl
        have hall := hall'.out
        rw [List.take_length] at hall
        rw [List.take_length]
        exact numR_yes (digB_iff.2 ⟨List.length_pos_iff.1 (by omega), by omega, hlead'.out, hall⟩) rfl
end Go.Proofs.YtlhanpkfnhnegaaDoor
/- Reports read: the numbers of a line, the program's side. -/
namespace Go.Proofs.YtlhanpkfnhnegaaDoor
open Go.RowKit

def numsOk (ws : List (List UInt8)) : Bool := ws.all fun w => digB w 9
def numsV (ws : List (List UInt8)) : List Int := ws.map fun w => (numV w : Int)
theorem digB_le {w : List UInt8} {m n : Nat} (h : m ≤ n) (hd : digB w m = true) : digB w n = true := by
  obtain ⟨a, b, c, d⟩ := digB_iff.1 hd
  exact digB_iff.2 ⟨a, by omega, c, d⟩
theorem numV_9 {w : List UInt8} (hd : digB w 9 = true) : (numV w : Int) < 1000000000 := by
  obtain ⟨a, b, c, d⟩ := digB_iff.1 hd
  have h1 := numV_lt _ d
  have h2 : 10 ^ w.length ≤ 10 ^ 9 := Nat.pow_le_pow_right (by omega) b
  omega
theorem numerals_yes (ws : List (List UInt8)) (hl : ws.length ≤ 1000000) (hw : ∀ w ∈ ws, w.length ≤ 2000000) (hok : numsOk ws = true) : MCall av 100 [.one (.d (dSs ws))] [] [(9, .row 2 1 ((numsV ws).map eI))] [] (.tup [.one (.own 9), .one (.d (dB true))]) := by
  refine mcall_of av_ok Tryd.func100 rfl Tryd.call100 Tryd.ntmps100 (congrArg Array.toList Tryd.results100) rfl fun S pv => ?_; conv => whnf
  repeat' (first | (refine AWP.seq ?_) | (refine AWP.region av_ok ?_; conv => whnf) | (refine AWP.ret ?_; conv => whnf) | (refine AWP.skip ?_; conv => whnf) | (refine AWP.exit ?_; conv => whnf) | (refine AWP.block ?_; conv => whnf) | (refine AWP.cond ?_; conv => whnf) | (refine AB.tt ?_; conv => whnf) | (refine AB.ff ?_; conv => whnf) | (refine AB.ofT (by assumption) ?_; conv => whnf) | (refine AB.ofF (by assumption) ?_; conv => whnf) | (exact trivial) | (refine And.intro rfl ?_; conv => whnf) | (refine AB.mk (fun h => ?_) (fun h => ?_) <;> (conv => whnf)) | (with_reducible_and_instances rfl) | (exact (rfl : AP.tup _ = AP.tup _)))
  refine AWP.loopS (fun k : Nat => k ≤ ws.length ∧ (ws.take k).all (fun w => digB w 9) = true) (9 :: [2, 3, 4, 6, 7, 8, 12, 13, 14, 15, 16, 17, 18, 19, 20, 21, 22, 23, 24, 25, 26, 27, 28]) (fun k => [(4, .one (.own 9)), (12, vI .i64 (k : Int))]) (fun k => [(9999, .frame (pinsOf []) pv), (9, .row 2 1 ((numsV (ws.take k)).map eI))]) (fun k => ws.length - k) 0 ⟨by omega, rfl⟩ ?_ (SubO.cons rfl (SubO.cons rfl SubO.nil)) (fun k hR => ?_) <;> (conv => whnf)
  · repeat' (first | exact trivial | (refine And.intro rfl ?_; conv => whnf))
  · obtain ⟨hk, hall⟩ := hR
    by_cases hlt : k < ws.length
    · have h1 : decide ((k : Int) < ((ws.map eS).length : Int)) = true := by simp [hlt]
      have hwl := hw ws[k] (List.getElem_mem hlt)
      have hnl : ((numsV (ws.take k)).map eI).length = k := by simp [numsV]; omega
      cases hd : digB ws[k] 9 with
      | false =>
        have h2 := idigits_p ws[k] 9 hwl (by omega)
        rw [hd] at h2
        have h3 : digB ws[k] 9 = true := List.all_eq_true.1 hok _ (List.getElem_mem hlt)
        rw [hd] at h3
        cases h3
      | true =>
        have h2 := idigits_p ws[k] 9 hwl (by omega)
        rw [hd] at h2
        have h3 := parseInt_p ws[k] (digB_le (by omega) hd)
        have h4 := numV_9 hd
        repeat' (first | (refine AWP.seq ?_) | (refine AWP.region av_ok ?_; conv => whnf) | (refine AWP.ret ?_; conv => whnf) | (refine AWP.skip ?_; conv => whnf) | (refine AWP.exit ?_; conv => whnf) | (refine AWP.block ?_; conv => whnf) | (refine AWP.cond ?_; conv => whnf) | (refine AB.tt ?_; conv => whnf) | (refine AB.ff ?_; conv => whnf) | (refine AB.ofT (by assumption) ?_; conv => whnf) | (refine AB.ofF (by assumption) ?_; conv => whnf) | (refine AIx.map hlt ?_; conv => whnf) | (refine ACall.pure h2 rfl ?_; conv => whnf) | (refine ACall.pure h3 rfl ?_; conv => whnf) | (refine all_len (by simp [eI]) ?_; conv => whnf) | (refine sz_app (by rw [hnl]; simp only [List.length_cons, List.length_nil]; omega) ?_; conv => whnf) | (refine AW.i64 (by omega) (by omega) ?_; conv => whnf) | (exact trivial) | (refine And.intro rfl ?_; conv => whnf) | (refine AB.mk (fun h => ?_) (fun h => ?_) <;> (conv => whnf)) | (with_reducible_and_instances rfl) | (exact (rfl : AP.tup _ = AP.tup _)))
        have hrow : (numsV (ws.take k)).map eI ++ [[dI (numV ws[k] : Int)]] = (numsV (ws.take (k + 1))).map eI := by
          unfold numsV
          rw [← List.take_append_getElem hlt, List.map_append, List.map_append]
          rfl
        refine ANext.mk ⟨k + 1, ⟨hlt, all_take hlt hall hd⟩, by omega, ?_, SubO.cons rfl (SubO.cons (congrArg some (congrArg (AO.row 2 1) hrow)) SubO.nil)⟩
        (conv => whnf); repeat' (first | exact trivial | (refine ⟨rfl, ?_⟩; conv => whnf))
    · have hkl : k = ws.length := by omega
      subst hkl
      have h1 : decide ((ws.length : Int) < ((ws.map eS).length : Int)) = false := by simp
      rw [List.take_length]
      repeat' (first | (refine AWP.seq ?_) | (refine AWP.region av_ok ?_; conv => whnf) | (refine AWP.ret ?_; conv => whnf) | (refine AWP.skip ?_; conv => whnf) | (refine AWP.exit ?_; conv => whnf) | (refine AWP.block ?_; conv => whnf) | (refine AWP.cond ?_; conv => whnf) | (refine AB.tt ?_; conv => whnf) | (refine AB.ff ?_; conv => whnf) | (refine AB.ofT (by assumption) ?_; conv => whnf) | (refine AB.ofF (by assumption) ?_; conv => whnf) | (exact trivial) | (refine And.intro rfl ?_; conv => whnf) | (refine AB.mk (fun h => ?_) (fun h => ?_) <;> (conv => whnf)) | (with_reducible_and_instances rfl) | (exact (rfl : AP.tup _ = AP.tup _)))
theorem numerals_no (ws : List (List UInt8)) (hl : ws.length ≤ 1000000) (hw : ∀ w ∈ ws, w.length ≤ 2000000) (hok : numsOk ws = false) : MCall av 100 [.one (.d (dSs ws))] [] [] [] (.tup [.one .nil, .one (.d (dB false))]) := by
  refine mcall_of av_ok Tryd.func100 rfl Tryd.call100 Tryd.ntmps100 (congrArg Array.toList Tryd.results100) rfl fun S pv => ?_; conv => whnf
  repeat' (first | (refine AWP.seq ?_) | (refine AWP.region av_ok ?_; conv => whnf) | (refine AWP.ret ?_; conv => whnf) | (refine AWP.skip ?_; conv => whnf) | (refine AWP.exit ?_; conv => whnf) | (refine AWP.block ?_; conv => whnf) | (refine AWP.cond ?_; conv => whnf) | (refine AB.tt ?_; conv => whnf) | (refine AB.ff ?_; conv => whnf) | (refine AB.ofT (by assumption) ?_; conv => whnf) | (refine AB.ofF (by assumption) ?_; conv => whnf) | (exact trivial) | (refine And.intro rfl ?_; conv => whnf) | (refine AB.mk (fun h => ?_) (fun h => ?_) <;> (conv => whnf)) | (with_reducible_and_instances rfl) | (exact (rfl : AP.tup _ = AP.tup _)))
  refine AWP.loopS (fun k : Nat => k ≤ ws.length ∧ (ws.take k).all (fun w => digB w 9) = true) (9 :: [2, 3, 4, 6, 7, 8, 12, 13, 14, 15, 16, 17, 18, 19, 20, 21, 22, 23, 24, 25, 26, 27, 28]) (fun k => [(4, .one (.own 9)), (12, vI .i64 (k : Int))]) (fun k => [(9999, .frame (pinsOf []) pv), (9, .row 2 1 ((numsV (ws.take k)).map eI))]) (fun k => ws.length - k) 0 ⟨by omega, rfl⟩ ?_ (SubO.cons rfl (SubO.cons rfl SubO.nil)) (fun k hR => ?_) <;> (conv => whnf)
  · repeat' (first | exact trivial | (refine And.intro rfl ?_; conv => whnf))
  · obtain ⟨hk, hall⟩ := hR
    by_cases hlt : k < ws.length
    · have h1 : decide ((k : Int) < ((ws.map eS).length : Int)) = true := by simp [hlt]
      have hwl := hw ws[k] (List.getElem_mem hlt)
      have hnl : ((numsV (ws.take k)).map eI).length = k := by simp [numsV]; omega
      cases hd : digB ws[k] 9 with
      | false =>
        have h2 := idigits_p ws[k] 9 hwl (by omega)
        rw [hd] at h2
        repeat' (first | (refine AWP.seq ?_) | (refine AWP.region av_ok ?_; conv => whnf) | (refine AWP.ret ?_; conv => whnf) | (refine AWP.skip ?_; conv => whnf) | (refine AWP.exit ?_; conv => whnf) | (refine AWP.block ?_; conv => whnf) | (refine AWP.cond ?_; conv => whnf) | (refine AB.tt ?_; conv => whnf) | (refine AB.ff ?_; conv => whnf) | (refine AB.ofT (by assumption) ?_; conv => whnf) | (refine AB.ofF (by assumption) ?_; conv => whnf) | (refine AIx.map hlt ?_; conv => whnf) | (refine ACall.pure h2 rfl ?_; conv => whnf) | (exact trivial) | (refine And.intro rfl ?_; conv => whnf) | (refine AB.mk (fun h => ?_) (fun h => ?_) <;> (conv => whnf)) | (with_reducible_and_instances rfl) | (exact (rfl : AP.tup _ = AP.tup _)))
      | true =>
        have h2 := idigits_p ws[k] 9 hwl (by omega)
        rw [hd] at h2
        have h3 := parseInt_p ws[k] (digB_le (by omega) hd)
        have h4 := numV_9 hd
        repeat' (first | (refine AWP.seq ?_) | (refine AWP.region av_ok ?_; conv => whnf) | (refine AWP.ret ?_; conv => whnf) | (refine AWP.skip ?_; conv => whnf) | (refine AWP.exit ?_; conv => whnf) | (refine AWP.block ?_; conv => whnf) | (refine AWP.cond ?_; conv => whnf) | (refine AB.tt ?_; conv => whnf) | (refine AB.ff ?_; conv => whnf) | (refine AB.ofT (by assumption) ?_; conv => whnf) | (refine AB.ofF (by assumption) ?_; conv => whnf) | (refine AIx.map hlt ?_; conv => whnf) | (refine ACall.pure h2 rfl ?_; conv => whnf) | (refine ACall.pure h3 rfl ?_; conv => whnf) | (refine all_len (by simp [eI]) ?_; conv => whnf) | (refine sz_app (by rw [hnl]; simp only [List.length_cons, List.length_nil]; omega) ?_; conv => whnf) | (refine AW.i64 (by omega) (by omega) ?_; conv => whnf) | (exact trivial) | (refine And.intro rfl ?_; conv => whnf) | (refine AB.mk (fun h => ?_) (fun h => ?_) <;> (conv => whnf)) | (with_reducible_and_instances rfl) | (exact (rfl : AP.tup _ = AP.tup _)))
        have hrow : (numsV (ws.take k)).map eI ++ [[dI (numV ws[k] : Int)]] = (numsV (ws.take (k + 1))).map eI := by
          unfold numsV
          rw [← List.take_append_getElem hlt, List.map_append, List.map_append]
          rfl
        refine ANext.mk ⟨k + 1, ⟨hlt, all_take hlt hall hd⟩, by omega, ?_, SubO.cons rfl (SubO.cons (congrArg some (congrArg (AO.row 2 1) hrow)) SubO.nil)⟩
        (conv => whnf); repeat' (first | exact trivial | (refine ⟨rfl, ?_⟩; conv => whnf))
    · have hkl : k = ws.length := by omega
      subst hkl
      have h1 : decide ((ws.length : Int) < ((ws.map eS).length : Int)) = false := by simp
      rw [List.take_length] at hall
      have h3 : numsOk ws = true := hall
      rw [hok] at h3
      cases h3
end Go.Proofs.YtlhanpkfnhnegaaDoor
/- Reports read: a line, the reference's side. -/
namespace Go.Proofs.YtlhanpkfnhnegaaDoor
open Go.RowKit

def namesL : List (List UInt8) := nodesL ++ [[110, 101, 116]]
def sizesL : List Int := [5, 7, 4, 4, 3, 3, 11]
def downL : List UInt8 := [100, 111, 119, 110]
theorem namesL_len : namesL.length = 7 := rfl
theorem sizesL_len : sizesL.length = 7 := rfl
/-- The numbers of line i; false where it has not its form. -/
def rowOf (i : Nat) (ws : List (List UInt8)) : List Int × Bool :=
  if ws.headD [] ≠ namesL.getD i [] then ([], false)
  else if ws.length = 2 ∧ ws.getD 1 [] = downL ∧ i < 4 then ([], true)
  else if (ws.length : Int) ≠ sizesL.getD i 0 + 1 then ([], false)
  else if numsOk ws.tail then (numsV ws.tail, true) else ([], false)
def pRow (y : List Int × Bool) : AP := .tup [.one (dIs y.1), .one (dB y.2)]
theorem sl33Names_p : PCall av 140 [] (.val (.one (dSs namesL))) := by
  refine pcall_of av_ok Tryd.func140 rfl Tryd.call140 Tryd.ntmps140 (congrArg Array.toList Tryd.results140) fun S => ?_; conv => whnf
  repeat' (first | (refine AWP.seq ?_) | (refine AWP.region av_ok ?_; conv => whnf) | (refine AWP.ret ?_; conv => whnf) | (refine AWP.skip ?_; conv => whnf) | (refine AWP.exit ?_; conv => whnf) | (refine AWP.block ?_; conv => whnf) | (refine AWP.cond ?_; conv => whnf) | (refine AB.tt ?_; conv => whnf) | (refine AB.ff ?_; conv => whnf) | (refine AB.ofT (by assumption) ?_; conv => whnf) | (refine AB.ofF (by assumption) ?_; conv => whnf) | (exact trivial) | (refine And.intro rfl ?_; conv => whnf) | (refine AB.mk (fun h => ?_) (fun h => ?_) <;> (conv => whnf)) | (with_reducible_and_instances rfl) | (exact (rfl : AP.tup _ = AP.tup _)))
  rfl
theorem sl33Many_p : PCall av 141 [] (.val (.one (.sl (sizesL.map eI)))) := by
  refine pcall_of av_ok Tryd.func141 rfl Tryd.call141 Tryd.ntmps141 (congrArg Array.toList Tryd.results141) fun S => ?_; conv => whnf
  repeat' (first | (refine AWP.seq ?_) | (refine AWP.region av_ok ?_; conv => whnf) | (refine AWP.ret ?_; conv => whnf) | (refine AWP.skip ?_; conv => whnf) | (refine AWP.exit ?_; conv => whnf) | (refine AWP.block ?_; conv => whnf) | (refine AWP.cond ?_; conv => whnf) | (refine AB.tt ?_; conv => whnf) | (refine AB.ff ?_; conv => whnf) | (refine AB.ofT (by assumption) ?_; conv => whnf) | (refine AB.ofF (by assumption) ?_; conv => whnf) | (exact trivial) | (refine And.intro rfl ?_; conv => whnf) | (refine AB.mk (fun h => ?_) (fun h => ?_) <;> (conv => whnf)) | (with_reducible_and_instances rfl) | (exact (rfl : AP.tup _ = AP.tup _)))
  rfl
theorem rowOf_word {i : Nat} {ws : List (List UInt8)} (h : ws.headD [] ≠ namesL.getD i []) : rowOf i ws = ([], false) := by unfold rowOf; rw [if_pos h]
theorem rowOf_down {i : Nat} {ws : List (List UInt8)} (h : ws.headD [] = namesL.getD i []) (h2 : ws.length = 2 ∧ ws.getD 1 [] = downL ∧ i < 4) : rowOf i ws = ([], true) := by
  unfold rowOf; rw [if_neg (fun h' => h' h), if_pos h2]
theorem rowOf_many {i : Nat} {ws : List (List UInt8)} (h : ws.headD [] = namesL.getD i []) (h2 : ¬ (ws.length = 2 ∧ ws.getD 1 [] = downL ∧ i < 4)) (h3 : (ws.length : Int) ≠ sizesL.getD i 0 + 1) : rowOf i ws = ([], false) := by
  unfold rowOf; rw [if_neg (fun h' => h' h), if_neg h2, if_pos h3]
theorem rowOf_nums {i : Nat} {ws : List (List UInt8)} (h : ws.headD [] = namesL.getD i []) (h2 : ¬ (ws.length = 2 ∧ ws.getD 1 [] = downL ∧ i < 4)) (h3 : (ws.length : Int) = sizesL.getD i 0 + 1) : rowOf i ws = if numsOk ws.tail then (numsV ws.tail, true) else ([], false) := by
  unfold rowOf; rw [if_neg (fun h' => h' h), if_neg h2, if_neg (fun h' => h' h3)]
theorem sizes_at {i : Nat} (hi : i < 7) : 3 ≤ sizesL.getD i 0 ∧ sizesL.getD i 0 ≤ 11 := by
  have : i = 0 ∨ i = 1 ∨ i = 2 ∨ i = 3 ∨ i = 4 ∨ i = 5 ∨ i = 6 := by omega
  rcases this with rfl | rfl | rfl | rfl | rfl | rfl | rfl <;> decide
theorem words_cnt (c : UInt8) : ∀ l : List UInt8, (wordsL c l).length ≤ l.length + 1
  | [] => by simp [wordsL]
  | x :: r => by
    have ih := words_cnt c r
    obtain ⟨w, ws, e⟩ := wordsL_split (c := c) (s := r)
    rw [e] at ih
    by_cases hx : x = c
    · simp [wordsL, hx, e] at ih ⊢; omega
    · simp [wordsL, hx, e] at ih ⊢; omega
set_option maxHeartbeats 2000000 in
theorem sl33Numbers_p (i : Nat) (hi : i < 7) (l : List UInt8) (hl : l.length ≤ 2000000) : PCall av 96 [pL l, pI i] (pRow (rowOf i (wordsL 32 l))) := by
  have sp := sl1Split_p l 32 hl
  obtain ⟨w0, r, hw⟩ := wordsL_split (c := 32) (s := l)
  have hlen := words_len (c := 32) (l := l)
  have hcnt := words_cnt 32 l
  rw [hw] at hcnt
  rw [hw] at sp hlen ⊢
  have hrl : ∀ w ∈ r, w.length ≤ 2000000 := fun w hw => Nat.le_trans (hlen w (by simp [hw])) hl
  have hin : i < namesL.length := hi
  have his : i < sizesL.length := hi
  have hnm : namesL.getD i [] = namesL[i] := by rw [List.getD_eq_getElem?_getD, List.getElem?_eq_getElem hin]; rfl
  have hsz : sizesL.getD i 0 = sizesL[i] := by rw [List.getD_eq_getElem?_getD, List.getElem?_eq_getElem his]; rfl
  have hsb := sizes_at hi
  rw [hsz] at hsb
  have hx0 : (((w0 :: r).map eS))[0]? = some (eS w0) := rfl
  refine pcall_of av_ok Tryd.func96 rfl Tryd.call96 Tryd.ntmps96 (congrArg Array.toList Tryd.results96) fun S => ?_; conv => whnf
  repeat' (first | (refine AWP.seq ?_) | (refine AWP.region av_ok ?_; conv => whnf) | (refine AWP.ret ?_; conv => whnf) | (refine AWP.skip ?_; conv => whnf) | (refine AWP.exit ?_; conv => whnf) | (refine AWP.block ?_; conv => whnf) | (refine AWP.cond ?_; conv => whnf) | (refine AB.tt ?_; conv => whnf) | (refine AB.ff ?_; conv => whnf) | (refine AB.ofT (by assumption) ?_; conv => whnf) | (refine AB.ofF (by assumption) ?_; conv => whnf) | (refine ACall.pure sp rfl ?_; conv => whnf) | (refine And.intro rfl ?_; conv => whnf))
  refine' AWP.draw av_ok 7 [[], [0], [0, 1], [], [], [4, 3], [3, 4, 5], [5, 4, 3, 6, 1, 0, 2]] [(_, _), (_, _), (_, _), (_, _), (_, _), (_, _), (_, _)] ?hD ?hok ?hl ?hf ?hno ?ht
  case hD => kernel_rfl
  case hok => kernel_rfl
  case hl => rfl
  case hf =>
    conv => whnf
    repeat' (first | (refine ⟨rfl, rfl⟩) | exact trivial | (refine AIx.at 0 _ rfl hx0 ?_; conv => whnf) | (refine AIx.map hin ?_; conv => whnf) | (refine AFCall.mk ⟨_, _, sl33Names_p, .inl rfl, ?_⟩; conv => whnf) | (refine And.intro ?_ ?_ <;> conv => whnf))
  case hno => rfl
  case ht =>
    conv => whnf
    by_cases c1 : w0 = namesL[i]
    · have hb : (!((⟨w0.toArray⟩ : ByteArray).toList == (⟨namesL[i].toArray⟩ : ByteArray).toList)) = false := by rw [str_dec, decide_eq_true c1]; rfl
      have c1' : (w0 :: r).headD [] = namesL.getD i [] := by rw [hnm]; exact c1
      have hcase : r = [] ∨ (∃ v, r = [v]) ∨ 2 ≤ r.length := by
        rcases r with _ | ⟨v, _ | ⟨u, t⟩⟩
        · exact .inl rfl
        · exact .inr (.inl ⟨v, rfl⟩)
        · exact .inr (.inr (by simp))
      rcases hcase with rfl | ⟨v, rfl⟩ | h2
      · have hne : ((([w0].map eS).length : Int) != sizesL[i] + 1) = true := by simp; omega
        rw [rowOf_many c1' (by simp) (by rw [hsz]; simp; omega)]
        repeat' (first | (refine AWP.seq ?_) | (refine AWP.region av_ok ?_; conv => whnf) | (refine AWP.ret ?_; conv => whnf) | (refine AWP.skip ?_; conv => whnf) | (refine AWP.exit ?_; conv => whnf) | (refine AWP.block ?_; conv => whnf) | (refine AWP.cond ?_; conv => whnf) | (refine AB.tt ?_; conv => whnf) | (refine AB.ff ?_; conv => whnf) | (refine AB.ofT (by assumption) ?_; conv => whnf) | (refine AB.ofF (by assumption) ?_; conv => whnf) | (refine AB.ofF (by decide) ?_; conv => whnf) | (refine AIx.map his ?_; conv => whnf) | (refine ACall.pure sl33Many_p rfl ?_; conv => whnf) | (refine AW.i64 (by omega) (by omega) ?_; conv => whnf) | (exact trivial) | (refine And.intro rfl ?_; conv => whnf) | (refine AB.mk (fun h => ?_) (fun h => ?_) <;> (conv => whnf)) | (with_reducible_and_instances rfl) | (exact (rfl : AP.tup _ = AP.tup _)))
      · have hne : ((([w0, v].map eS).length : Int) != sizesL[i] + 1) = true := by simp; omega
        have hx1 : (([w0, v].map eS))[1]? = some (eS v) := rfl
        by_cases c2 : v = downL
        · have hv : ((⟨v.toArray⟩ : ByteArray).toList == (⟨#[100, 111, 119, 110]⟩ : ByteArray).toList) = true := by
            have := str_dec v downL
            rw [decide_eq_true c2] at this
            exact this
          by_cases c3 : i < 4
          · have hi4 : decide ((i : Int) < 4) = true := by simp; omega
            rw [rowOf_down c1' ⟨rfl, c2, c3⟩]
            repeat' (first | (refine AWP.seq ?_) | (refine AWP.region av_ok ?_; conv => whnf) | (refine AWP.ret ?_; conv => whnf) | (refine AWP.skip ?_; conv => whnf) | (refine AWP.exit ?_; conv => whnf) | (refine AWP.block ?_; conv => whnf) | (refine AWP.cond ?_; conv => whnf) | (refine AB.tt ?_; conv => whnf) | (refine AB.ff ?_; conv => whnf) | (refine AB.ofT (by assumption) ?_; conv => whnf) | (refine AB.ofF (by assumption) ?_; conv => whnf) | (refine AB.ofT (by decide) ?_; conv => whnf) | (refine AIx.at 1 _ rfl hx1 ?_; conv => whnf) | (refine AIx.map his ?_; conv => whnf) | (refine ACall.pure sl33Many_p rfl ?_; conv => whnf) | (refine AW.i64 (by omega) (by omega) ?_; conv => whnf) | (exact trivial) | (refine And.intro rfl ?_; conv => whnf) | (refine AB.mk (fun h => ?_) (fun h => ?_) <;> (conv => whnf)) | (with_reducible_and_instances rfl) | (exact (rfl : AP.tup _ = AP.tup _)))
          · have hi4 : decide ((i : Int) < 4) = false := by simp; omega
            rw [rowOf_many c1' (fun h => c3 h.2.2) (by rw [hsz]; simp; omega)]
            repeat' (first | (refine AWP.seq ?_) | (refine AWP.region av_ok ?_; conv => whnf) | (refine AWP.ret ?_; conv => whnf) | (refine AWP.skip ?_; conv => whnf) | (refine AWP.exit ?_; conv => whnf) | (refine AWP.block ?_; conv => whnf) | (refine AWP.cond ?_; conv => whnf) | (refine AB.tt ?_; conv => whnf) | (refine AB.ff ?_; conv => whnf) | (refine AB.ofT (by assumption) ?_; conv => whnf) | (refine AB.ofF (by assumption) ?_; conv => whnf) | (refine AB.ofT (by decide) ?_; conv => whnf) | (refine AIx.at 1 _ rfl hx1 ?_; conv => whnf) | (refine AIx.map his ?_; conv => whnf) | (refine ACall.pure sl33Many_p rfl ?_; conv => whnf) | (refine AW.i64 (by omega) (by omega) ?_; conv => whnf) | (exact trivial) | (refine And.intro rfl ?_; conv => whnf) | (refine AB.mk (fun h => ?_) (fun h => ?_) <;> (conv => whnf)) | (with_reducible_and_instances rfl) | (exact (rfl : AP.tup _ = AP.tup _)))
        · have hv : ((⟨v.toArray⟩ : ByteArray).toList == (⟨#[100, 111, 119, 110]⟩ : ByteArray).toList) = false := by
            have := str_dec v downL
            rw [decide_eq_false c2] at this
            exact this
          rw [rowOf_many c1' (fun h => c2 h.2.1) (by rw [hsz]; simp; omega)]
          repeat' (first | (refine AWP.seq ?_) | (refine AWP.region av_ok ?_; conv => whnf) | (refine AWP.ret ?_; conv => whnf) | (refine AWP.skip ?_; conv => whnf) | (refine AWP.exit ?_; conv => whnf) | (refine AWP.block ?_; conv => whnf) | (refine AWP.cond ?_; conv => whnf) | (refine AB.tt ?_; conv => whnf) | (refine AB.ff ?_; conv => whnf) | (refine AB.ofT (by assumption) ?_; conv => whnf) | (refine AB.ofF (by assumption) ?_; conv => whnf) | (refine AB.ofT (by decide) ?_; conv => whnf) | (refine AIx.at 1 _ rfl hx1 ?_; conv => whnf) | (refine AIx.map his ?_; conv => whnf) | (refine ACall.pure sl33Many_p rfl ?_; conv => whnf) | (refine AW.i64 (by omega) (by omega) ?_; conv => whnf) | (exact trivial) | (refine And.intro rfl ?_; conv => whnf) | (refine AB.mk (fun h => ?_) (fun h => ?_) <;> (conv => whnf)) | (with_reducible_and_instances rfl) | (exact (rfl : AP.tup _ = AP.tup _)))
      · have h20 : ((((w0 :: r).map eS).length : Int) == 2) = false := by simp; omega
        have hnd : ¬ ((w0 :: r).length = 2 ∧ (w0 :: r).getD 1 [] = downL ∧ i < 4) := fun h => by simp at h; omega
        by_cases c4 : ((w0 :: r).length : Int) = sizesL[i] + 1
        · have hne : ((((w0 :: r).map eS).length : Int) != sizesL[i] + 1) = false := by
            rw [List.length_map, c4]; simp
          rw [rowOf_nums c1' hnd (by rw [hsz]; exact c4)]
          repeat' (first | (refine AWP.seq ?_) | (refine AWP.region av_ok ?_; conv => whnf) | (refine AWP.ret ?_; conv => whnf) | (refine AWP.skip ?_; conv => whnf) | (refine AWP.exit ?_; conv => whnf) | (refine AWP.block ?_; conv => whnf) | (refine AWP.cond ?_; conv => whnf) | (refine AB.tt ?_; conv => whnf) | (refine AB.ff ?_; conv => whnf) | (refine AB.ofT (by assumption) ?_; conv => whnf) | (refine AB.ofF (by assumption) ?_; conv => whnf) | (refine AIx.map his ?_; conv => whnf) | (refine ACall.pure sl33Many_p rfl ?_; conv => whnf) | (refine AW.i64 (by omega) (by omega) ?_; conv => whnf) | (refine And.intro rfl ?_; conv => whnf))
          have htl : (w0 :: r).tail = r := rfl
          have hr12 : r.length ≤ 12 := by simp at c4; omega
          rw [htl]
          refine AWP.loopS (fun m : Nat => m ≤ r.length ∧ (r.take m).all (fun w => digB w 9) = true) (45 :: [4, 5, 7, 8, 9, 10, 46, 47, 48, 49, 50, 51, 52, 53, 54, 55, 56, 57, 58, 59, 60, 61, 62, 63, 64, 65, 66, 67, 68, 69, 70]) (fun m => [(7, .one (.own 45)), (8, vI .i64 ((m + 1 : Nat) : Int))]) (fun m => [(45, .row 2 1 ((numsV (r.take m)).map eI))]) (fun m => r.length - m) 0 ⟨by omega, rfl⟩ ?_ (SubO.cons rfl SubO.nil) (fun m hR => ?_) <;> (conv => whnf)
          · repeat' (first | exact trivial | (refine And.intro rfl ?_; conv => whnf))
          · obtain ⟨hm, hall⟩ := hR
            by_cases hlt : m < r.length
            · have h1 : decide (((m + 1 : Nat) : Int) < (((w0 :: r).map eS).length : Int)) = true := by simp; omega
              have hxm : ((w0 :: r).map eS)[m + 1]? = some (eS r[m]) := by simp [hlt]
              have rd := sl1Read_p r[m] (hrl _ (List.getElem_mem hlt))
              have hnl : ((numsV (r.take m)).map eI).length = m := by simp [numsV]; omega
              cases hd : digB r[m] 9 with
              | false =>
                have e : numR r[m] = (0, false) := by unfold numR; rw [hd]; rfl
                have hno : numsOk r = false := by
                  cases h : numsOk r with
                  | false => rfl
                  | true =>
                    have := List.all_eq_true.1 h _ (List.getElem_mem hlt)
                    rw [hd] at this
                    cases this
                unfold pNB at rd
                rw [e] at rd
                rw [hno]
                repeat' (first | (refine AWP.seq ?_) | (refine AWP.region av_ok ?_; conv => whnf) | (refine AWP.ret ?_; conv => whnf) | (refine AWP.skip ?_; conv => whnf) | (refine AWP.exit ?_; conv => whnf) | (refine AWP.block ?_; conv => whnf) | (refine AWP.cond ?_; conv => whnf) | (refine AB.tt ?_; conv => whnf) | (refine AB.ff ?_; conv => whnf) | (refine AB.ofT (by assumption) ?_; conv => whnf) | (refine AB.ofF (by assumption) ?_; conv => whnf) | (refine AIx.at (m + 1) _ rfl hxm ?_; conv => whnf) | (refine ACall.pure rd rfl ?_; conv => whnf) | (exact trivial) | (refine And.intro rfl ?_; conv => whnf) | (refine AB.mk (fun h => ?_) (fun h => ?_) <;> (conv => whnf)) | (with_reducible_and_instances rfl) | (exact (rfl : AP.tup _ = AP.tup _)))
              | true =>
                have e : numR r[m] = ((numV r[m] : Int), true) := by unfold numR; rw [hd]; rfl
                have h4 := numV_9 hd
                have hneg : decide ((numV r[m] : Int) < 0) = false := by simp
                have hrow : (numsV (r.take m)).map eI ++ [[dI (numV r[m] : Int)]] = (numsV (r.take (m + 1))).map eI := by
                  unfold numsV
                  rw [← List.take_append_getElem hlt, List.map_append, List.map_append]
                  rfl
                unfold pNB at rd
                rw [e] at rd
                repeat' (first | (refine AWP.seq ?_) | (refine AWP.region av_ok ?_; conv => whnf) | (refine AWP.ret ?_; conv => whnf) | (refine AWP.skip ?_; conv => whnf) | (refine AWP.exit ?_; conv => whnf) | (refine AWP.block ?_; conv => whnf) | (refine AWP.cond ?_; conv => whnf) | (refine AB.tt ?_; conv => whnf) | (refine AB.ff ?_; conv => whnf) | (refine AB.ofT (by assumption) ?_; conv => whnf) | (refine AB.ofF (by assumption) ?_; conv => whnf) | (refine AIx.at (m + 1) _ rfl hxm ?_; conv => whnf) | (refine ACall.pure rd rfl ?_; conv => whnf) | (refine all_len (by simp [eI]) ?_; conv => whnf) | (refine sz_app (by rw [hnl]; simp only [List.length_cons, List.length_nil]; omega) ?_; conv => whnf) | (refine AW.i64 (by omega) (by omega) ?_; conv => whnf) | (exact trivial) | (refine And.intro rfl ?_; conv => whnf) | (refine AB.mk (fun h => ?_) (fun h => ?_) <;> (conv => whnf)) | (with_reducible_and_instances rfl) | (exact (rfl : AP.tup _ = AP.tup _)))
                refine ANext.mk ⟨m + 1, ⟨hlt, all_take hlt hall hd⟩, by omega, ?_, SubO.cons (congrArg some (congrArg (AO.row 2 1) hrow)) SubO.nil⟩
                (conv => whnf); repeat' (first | exact trivial | (refine ⟨rfl, ?_⟩; conv => whnf))
            · have hml : m = r.length := by omega
              subst hml
              have h1 : decide (((r.length + 1 : Nat) : Int) < (((w0 :: r).map eS).length : Int)) = false := by simp
              rw [List.take_length] at hall ⊢
              have hyes : numsOk r = true := hall
              rw [hyes]
              repeat' (first | (refine AWP.seq ?_) | (refine AWP.region av_ok ?_; conv => whnf) | (refine AWP.ret ?_; conv => whnf) | (refine AWP.skip ?_; conv => whnf) | (refine AWP.exit ?_; conv => whnf) | (refine AWP.block ?_; conv => whnf) | (refine AWP.cond ?_; conv => whnf) | (refine AB.tt ?_; conv => whnf) | (refine AB.ff ?_; conv => whnf) | (refine AB.ofT (by assumption) ?_; conv => whnf) | (refine AB.ofF (by assumption) ?_; conv => whnf) | (exact trivial) | (refine And.intro rfl ?_; conv => whnf) | (refine AB.mk (fun h => ?_) (fun h => ?_) <;> (conv => whnf)) | (with_reducible_and_instances rfl) | (exact (rfl : AP.tup _ = AP.tup _)))
        · have hne : ((((w0 :: r).map eS).length : Int) != sizesL[i] + 1) = true := by
            rw [List.length_map]; simpa using c4
          rw [rowOf_many c1' hnd (by rw [hsz]; exact c4)]
          repeat' (first | (refine AWP.seq ?_) | (refine AWP.region av_ok ?_; conv => whnf) | (refine AWP.ret ?_; conv => whnf) | (refine AWP.skip ?_; conv => whnf) | (refine AWP.exit ?_; conv => whnf) | (refine AWP.block ?_; conv => whnf) | (refine AWP.cond ?_; conv => whnf) | (refine AB.tt ?_; conv => whnf) | (refine AB.ff ?_; conv => whnf) | (refine AB.ofT (by assumption) ?_; conv => whnf) | (refine AB.ofF (by assumption) ?_; conv => whnf) | (refine AIx.map his ?_; conv => whnf) | (refine ACall.pure sl33Many_p rfl ?_; conv => whnf) | (refine AW.i64 (by omega) (by omega) ?_; conv => whnf) | (exact trivial) | (refine And.intro rfl ?_; conv => whnf) | (refine AB.mk (fun h => ?_) (fun h => ?_) <;> (conv => whnf)) | (with_reducible_and_instances rfl) | (exact (rfl : AP.tup _ = AP.tup _)))
    · have hb : (!((⟨w0.toArray⟩ : ByteArray).toList == (⟨namesL[i].toArray⟩ : ByteArray).toList)) = true := by rw [str_dec, decide_eq_false c1]; rfl
      rw [rowOf_word (by rw [hnm]; exact c1)]
      repeat' (first | (refine AWP.seq ?_) | (refine AWP.region av_ok ?_; conv => whnf) | (refine AWP.ret ?_; conv => whnf) | (refine AWP.skip ?_; conv => whnf) | (refine AWP.exit ?_; conv => whnf) | (refine AWP.block ?_; conv => whnf) | (refine AWP.cond ?_; conv => whnf) | (refine AB.tt ?_; conv => whnf) | (refine AB.ff ?_; conv => whnf) | (refine AB.ofT (by assumption) ?_; conv => whnf) | (refine AB.ofF (by assumption) ?_; conv => whnf) | (exact trivial) | (refine And.intro rfl ?_; conv => whnf) | (refine AB.mk (fun h => ?_) (fun h => ?_) <;> (conv => whnf)) | (with_reducible_and_instances rfl) | (exact (rfl : AP.tup _ = AP.tup _)))
end Go.Proofs.YtlhanpkfnhnegaaDoor
/- Reports read: the reference. -/
namespace Go.Proofs.YtlhanpkfnhnegaaDoor
open Go.RowKit

/-- The rows of the lines, from line k on. -/
def repAt (ps : List (List UInt8)) (k : Nat) : List (List Int) := (List.range k).map fun i => (rowOf i (wordsL 32 (ps.getD i []))).1
def repOk (ps : List (List UInt8)) (k : Nat) : Bool := (List.range k).all fun i => (rowOf i (wordsL 32 (ps.getD i []))).2
def repGood (l : List UInt8) : Bool := decide (l.length ≤ 1000) && decide ((wordsL 10 l).length = 8) && decide ((wordsL 10 l).getD 7 [] = []) && repOk (wordsL 10 l) 7
def reportL (l : List UInt8) : List (List Int) × Bool := if repGood l then (repAt (wordsL 10 l) 7, true) else ([], false)
theorem repAt_succ (ps : List (List UInt8)) (k : Nat) : repAt ps (k + 1) = repAt ps k ++ [(rowOf k (wordsL 32 (ps.getD k []))).1] := by simp [repAt, List.range_succ]
theorem repOk_succ (ps : List (List UInt8)) (k : Nat) : repOk ps (k + 1) = (repOk ps k && (rowOf k (wordsL 32 (ps.getD k []))).2) := by simp [repOk, List.range_succ]
theorem repAt_len (ps : List (List UInt8)) (k : Nat) : (repAt ps k).length = k := by simp [repAt]
theorem repOk_not {ps : List (List UInt8)} {k n : Nat} (hk : k < n) (h : (rowOf k (wordsL 32 (ps.getD k []))).2 = false) : repOk ps n = false := by
  cases e : repOk ps n with
  | false => rfl
  | true =>
    have := List.all_eq_true.1 e k (List.mem_range.2 hk)
    rw [h] at this
    cases this
abbrev eII (l : List Int) : List AD := [dIs l]
def pRep (y : List (List Int) × Bool) : AP := .tup [.one (.sl (y.1.map eII)), .one (dB y.2)]
theorem reportL_no {l : List UInt8} (h : ¬ (l.length ≤ 1000 ∧ (wordsL 10 l).length = 8 ∧ (wordsL 10 l).getD 7 [] = [] ∧ repOk (wordsL 10 l) 7 = true)) : reportL l = ([], false) := by
  have : repGood l = false := by
    rw [← Bool.not_eq_true]
    intro hg
    simp only [repGood, Bool.and_eq_true, decide_eq_true_eq] at hg
    exact h ⟨hg.1.1.1, hg.1.1.2, hg.1.2, hg.2⟩
  unfold reportL
  rw [this]; rfl
theorem reportL_yes {l : List UInt8} (h : l.length ≤ 1000 ∧ (wordsL 10 l).length = 8 ∧ (wordsL 10 l).getD 7 [] = [] ∧ repOk (wordsL 10 l) 7 = true) : reportL l = (repAt (wordsL 10 l) 7, true) := by
  have : repGood l = true := by
    simp only [repGood, Bool.and_eq_true, decide_eq_true_eq]
    exact ⟨⟨⟨h.1, h.2.1⟩, h.2.2.1⟩, h.2.2.2⟩
  unfold reportL
  rw [this]; rfl
theorem neStr0 {a : List UInt8} : (!((⟨a.toArray⟩ : ByteArray).toList == (⟨#[]⟩ : ByteArray).toList)) = !a.isEmpty := by
  cases a <;> simp
set_option maxHeartbeats 2000000 in
theorem sReportRead_p (l : List UInt8) (hl : l.length ≤ 2000000) : PCall av 37 [pL l] (pRep (reportL l)) := by
  by_cases hlong : 1000 < l.length
  · have hlt : decide (((⟨l.toArray⟩ : ByteArray).size : Int) > 1000) = true := by rw [sz_dL]; simp; omega
    rw [reportL_no (fun h => by omega)]
    unfold pRep
    refine pcall_of av_ok Tryd.func37 rfl Tryd.call37 Tryd.ntmps37 (congrArg Array.toList Tryd.results37) fun S => ?_; conv => whnf
    repeat' (first | (refine AWP.seq ?_) | (refine AWP.region av_ok ?_; conv => whnf) | (refine AWP.ret ?_; conv => whnf) | (refine AWP.skip ?_; conv => whnf) | (refine AWP.exit ?_; conv => whnf) | (refine AWP.block ?_; conv => whnf) | (refine AWP.cond ?_; conv => whnf) | (refine AB.tt ?_; conv => whnf) | (refine AB.ff ?_; conv => whnf) | (refine AB.ofT (by assumption) ?_; conv => whnf) | (refine AB.ofF (by assumption) ?_; conv => whnf) | (exact trivial) | (refine And.intro rfl ?_; conv => whnf) | (refine AB.mk (fun h => ?_) (fun h => ?_) <;> (conv => whnf)) | (with_reducible_and_instances rfl) | (exact (rfl : AP.tup _ = AP.tup _)))
  · have hlt : decide (((⟨l.toArray⟩ : ByteArray).size : Int) > 1000) = false := by rw [sz_dL]; simp; omega
    have sp := sl1Split_p l 10 hl
    have hwl := words_len (c := 10) (l := l)
    have hrn := fun h => reportL_no (l := l) h
    have hry := fun h => reportL_yes (l := l) h
    generalize reportL l = y at hrn hry
    generalize wordsL 10 l = ps at *
    by_cases h8 : ps.length = 8
    · have hb8 : (((ps.map eS).length : Int) != 8) = false := by rw [List.length_map, h8]; rfl
      have h7l : 7 < ps.length := by omega
      have hx7 : (ps.map eS)[7]? = some (eS ps[7]) := by simp [h7l]
      have hd7 : ps.getD 7 [] = ps[7] := by rw [List.getD_eq_getElem?_getD, List.getElem?_eq_getElem h7l]; rfl
      by_cases h0 : ps[7] = []
      · have hne : (!((⟨ps[7].toArray⟩ : ByteArray).toList == (⟨#[]⟩ : ByteArray).toList)) = false := by rw [neStr0, h0]; rfl
        unfold pRep
        refine pcall_of av_ok Tryd.func37 rfl Tryd.call37 Tryd.ntmps37 (congrArg Array.toList Tryd.results37) fun S => ?_; conv => whnf
        repeat' (first | (refine AWP.seq ?_) | (refine AWP.region av_ok ?_; conv => whnf) | (refine AWP.ret ?_; conv => whnf) | (refine AWP.skip ?_; conv => whnf) | (refine AWP.exit ?_; conv => whnf) | (refine AWP.block ?_; conv => whnf) | (refine AWP.cond ?_; conv => whnf) | (refine AB.tt ?_; conv => whnf) | (refine AB.ff ?_; conv => whnf) | (refine AB.ofT (by assumption) ?_; conv => whnf) | (refine AB.ofF (by assumption) ?_; conv => whnf) | (refine ACall.pure sp rfl ?_; conv => whnf) | (refine AIx.at 7 _ rfl hx7 ?_; conv => whnf) | (refine And.intro rfl ?_; conv => whnf))
        refine AWP.loopS (fun k : Nat => k ≤ 7 ∧ repOk ps k = true) (25 :: [2, 3, 5, 6, 7, 8, 26, 27, 28, 29, 30, 31, 32, 33, 34, 35, 36, 37, 38, 39, 40, 41, 42, 43, 44, 45]) (fun k => [(5, .one (.own 25)), (6, vI .i64 (k : Int))]) (fun k => [(25, .row 42 1 ((repAt ps k).map eII))]) (fun k => 7 - k) 0 ⟨by omega, rfl⟩ ?_ (SubO.cons rfl SubO.nil) (fun k hR => ?_) <;> (conv => whnf)
        · repeat' (first | exact trivial | (refine And.intro rfl ?_; conv => whnf))
        · obtain ⟨hk, hall⟩ := hR
          by_cases hk7 : k < 7
          · have h1 : decide ((k : Int) < 7) = true := by simp; omega
            have hkl : k < ps.length := by omega
            have hdk : ps.getD k [] = ps[k] := by rw [List.getD_eq_getElem?_getD, List.getElem?_eq_getElem hkl]; rfl
            have np := sl33Numbers_p k hk7 ps[k] (Nat.le_trans (hwl _ (List.getElem_mem hkl)) hl)
            have hrow := repAt_succ ps k
            have hoks := repOk_succ ps k
            have hno := repOk_not (ps := ps) (k := k) (n := 7) hk7
            rw [hdk] at hrow hoks hno
            have hrl : ((repAt ps k).map eII).length = k := by rw [List.length_map, repAt_len]
            unfold pRow at np
            cases hq : (rowOf k (wordsL 32 ps[k])).2 with
            | false =>
              rw [hq] at np
              rw [hrn (fun h => by rw [hno hq] at h; simp at h)]
              repeat' (first | (refine AWP.seq ?_) | (refine AWP.region av_ok ?_; conv => whnf) | (refine AWP.ret ?_; conv => whnf) | (refine AWP.skip ?_; conv => whnf) | (refine AWP.exit ?_; conv => whnf) | (refine AWP.block ?_; conv => whnf) | (refine AWP.cond ?_; conv => whnf) | (refine AB.tt ?_; conv => whnf) | (refine AB.ff ?_; conv => whnf) | (refine AB.ofT (by assumption) ?_; conv => whnf) | (refine AB.ofF (by assumption) ?_; conv => whnf) | (refine AIx.map hkl ?_; conv => whnf) | (refine ACall.pure np rfl ?_; conv => whnf) | (exact trivial) | (refine And.intro rfl ?_; conv => whnf) | (refine AB.mk (fun h => ?_) (fun h => ?_) <;> (conv => whnf)) | (with_reducible_and_instances rfl) | (exact (rfl : AP.tup _ = AP.tup _)))
            | true =>
              rw [hq] at np
              have hrow2 : (repAt ps k).map eII ++ [eII (rowOf k (wordsL 32 ps[k])).1] = (repAt ps (k + 1)).map eII := by rw [hrow, List.map_append]; rfl
              repeat' (first | (refine AWP.seq ?_) | (refine AWP.region av_ok ?_; conv => whnf) | (refine AWP.ret ?_; conv => whnf) | (refine AWP.skip ?_; conv => whnf) | (refine AWP.exit ?_; conv => whnf) | (refine AWP.block ?_; conv => whnf) | (refine AWP.cond ?_; conv => whnf) | (refine AB.tt ?_; conv => whnf) | (refine AB.ff ?_; conv => whnf) | (refine AB.ofT (by assumption) ?_; conv => whnf) | (refine AB.ofF (by assumption) ?_; conv => whnf) | (refine AIx.map hkl ?_; conv => whnf) | (refine ACall.pure np rfl ?_; conv => whnf) | (refine all_len (by simp [eII]) ?_; conv => whnf) | (refine sz_app (by rw [hrl]; simp only [List.length_cons, List.length_nil]; omega) ?_; conv => whnf) | (refine AW.i64 (by omega) (by omega) ?_; conv => whnf) | (exact trivial) | (refine And.intro rfl ?_; conv => whnf) | (refine AB.mk (fun h => ?_) (fun h => ?_) <;> (conv => whnf)) | (with_reducible_and_instances rfl) | (exact (rfl : AP.tup _ = AP.tup _)))
              refine ANext.mk ⟨k + 1, ⟨hk7, by rw [hoks, hall, hq]; rfl⟩, by omega, ?_, SubO.cons (congrArg some (congrArg (AO.row 42 1) hrow2)) SubO.nil⟩
              (conv => whnf); repeat' (first | exact trivial | (refine ⟨rfl, ?_⟩; conv => whnf))
          · have e7 : k = 7 := by omega
            subst e7
            have h1 : decide (((7 : Nat) : Int) < 7) = false := by simp
            rw [hry ⟨by omega, h8, by rw [hd7]; exact h0, hall⟩]
            repeat' (first | (refine AWP.seq ?_) | (refine AWP.region av_ok ?_; conv => whnf) | (refine AWP.ret ?_; conv => whnf) | (refine AWP.skip ?_; conv => whnf) | (refine AWP.exit ?_; conv => whnf) | (refine AWP.block ?_; conv => whnf) | (refine AWP.cond ?_; conv => whnf) | (refine AB.tt ?_; conv => whnf) | (refine AB.ff ?_; conv => whnf) | (refine AB.ofT (by assumption) ?_; conv => whnf) | (refine AB.ofF (by assumption) ?_; conv => whnf) | (exact trivial) | (refine And.intro rfl ?_; conv => whnf) | (refine AB.mk (fun h => ?_) (fun h => ?_) <;> (conv => whnf)) | (with_reducible_and_instances rfl) | (exact (rfl : AP.tup _ = AP.tup _)))
      · have hne : (!((⟨ps[7].toArray⟩ : ByteArray).toList == (⟨#[]⟩ : ByteArray).toList)) = true := by
          rw [neStr0]
          cases hp : ps[7] with
          | nil => exact absurd hp h0
          | cons a r => rfl
        rw [hrn (fun h => h0 (by rw [← hd7]; exact h.2.2.1))]
        unfold pRep
        refine pcall_of av_ok Tryd.func37 rfl Tryd.call37 Tryd.ntmps37 (congrArg Array.toList Tryd.results37) fun S => ?_; conv => whnf
        repeat' (first | (refine AWP.seq ?_) | (refine AWP.region av_ok ?_; conv => whnf) | (refine AWP.ret ?_; conv => whnf) | (refine AWP.skip ?_; conv => whnf) | (refine AWP.exit ?_; conv => whnf) | (refine AWP.block ?_; conv => whnf) | (refine AWP.cond ?_; conv => whnf) | (refine AB.tt ?_; conv => whnf) | (refine AB.ff ?_; conv => whnf) | (refine AB.ofT (by assumption) ?_; conv => whnf) | (refine AB.ofF (by assumption) ?_; conv => whnf) | (refine ACall.pure sp rfl ?_; conv => whnf) | (refine AIx.at 7 _ rfl hx7 ?_; conv => whnf) | (exact trivial) | (refine And.intro rfl ?_; conv => whnf) | (refine AB.mk (fun h => ?_) (fun h => ?_) <;> (conv => whnf)) | (with_reducible_and_instances rfl) | (exact (rfl : AP.tup _ = AP.tup _)))
    · have hb8 : (((ps.map eS).length : Int) != 8) = true := by rw [List.length_map]; simp; omega
      rw [hrn (fun h => h8 h.2.1)]
      unfold pRep
      refine pcall_of av_ok Tryd.func37 rfl Tryd.call37 Tryd.ntmps37 (congrArg Array.toList Tryd.results37) fun S => ?_; conv => whnf
      repeat' (first | (refine AWP.seq ?_) | (refine AWP.region av_ok ?_; conv => whnf) | (refine AWP.ret ?_; conv => whnf) | (refine AWP.skip ?_; conv => whnf) | (refine AWP.exit ?_; conv => whnf) | (refine AWP.block ?_; conv => whnf) | (refine AWP.cond ?_; conv => whnf) | (refine AB.tt ?_; conv => whnf) | (refine AB.ff ?_; conv => whnf) | (refine AB.ofT (by assumption) ?_; conv => whnf) | (refine AB.ofF (by assumption) ?_; conv => whnf) | (refine ACall.pure sp rfl ?_; conv => whnf) | (exact trivial) | (refine And.intro rfl ?_; conv => whnf) | (refine AB.mk (fun h => ?_) (fun h => ?_) <;> (conv => whnf)) | (with_reducible_and_instances rfl) | (exact (rfl : AP.tup _ = AP.tup _)))
end Go.Proofs.YtlhanpkfnhnegaaDoor
/- Reports read: strings.Split; the words of the lines; the numbers in new memory. -/
namespace Go.Proofs.YtlhanpkfnhnegaaDoor
open Go.ChangeShapes Go.WideShapes Go.RowKit

abbrev mkS (w : List UInt8) : ByteArray := ⟨w.toArray⟩
theorem split_words (c : UInt8) : ∀ (ws : List (List UInt8)) (w : List UInt8), (∀ v ∈ w :: ws, c ∉ v) → Lib.countB (mkS (joinL c (w :: ws))) (mkS [c]) = ws.length ∧ Lib.splitB (mkS [c]) 0 ws.length (mkS (joinL c (w :: ws))) = (w :: ws).map mkS
  | [], w, h => by
    have hi : Lib.indexB (mkS (joinL c [w])) (mkS [c]) = -1 := index_miss (h w (by simp))
    exact ⟨Lib.countB_miss _ _ hi, rfl⟩
  | v :: r, w, h => by
    have hi : Lib.indexB (mkS (joinL c (w :: v :: r))) (mkS [c]) = (w.length : Int) := index_hit (h w (by simp))
    obtain ⟨h1, h2⟩ := split_words c r v fun x hx => h x (by simp only [List.mem_cons] at hx ⊢; exact .inr hx)
    have hsz : (mkS [c]).size = 1 := rfl
    have e1 : (mkS (joinL c (w :: v :: r))).extract (w.length + 1) (mkS (joinL c (w :: v :: r))).size = mkS (joinL c (v :: r)) := by
      rw [extract_dL, sz_dL, List.take_length]
      show mkS ((w ++ c :: joinL c (v :: r)).drop (w.length + 1)) = _
      congr 2
      rw [show w ++ c :: joinL c (v :: r) = (w ++ [c]) ++ joinL c (v :: r) by simp]
      exact List.drop_left' (by simp)
    have e2 : (mkS (joinL c (w :: v :: r))).extract 0 (w.length + 0) = mkS w := by
      rw [extract_dL]
      show mkS (((w ++ c :: joinL c (v :: r)).take (w.length + 0)).drop 0) = _
      simp
    refine ⟨?_, ?_⟩
    · rw [Lib.countB_hit _ _ _ (by rw [hsz]; exact Nat.le_refl 1) hi, hsz, e1, h1, List.length_cons]; omega
    · rw [List.length_cons, Lib.splitB_hit _ _ _ _ _ hi, hsz, e1, e2, h2]; rfl
theorem split_calls (c : UInt8) (l : List UInt8) (hl : l.length ≤ 2000000) (W : World) (m : Int) (hm : W.cell? ⟨0, 0, none⟩ = some (.int .i64 m)) :
    Calls Tryd.prog 97 #[.string ⟨l.toArray⟩, .string ⟨#[c]⟩] W fun e w' => e = .returned (.slice (some ⟨W.heap.size, 0, none⟩) (wordsL c l).length (wordsL c l).length) ∧ w' = W.alloc (.cells (strVals (wordsL c l)).toArray 9) := by
  obtain ⟨w, ws, e⟩ := wordsL_split (c := c) (s := l)
  have hj : joinL c (w :: ws) = l := by rw [← e, join_words]
  obtain ⟨h1, h2⟩ := split_words c ws w (by rw [← e]; exact words_no)
  rw [hj] at h1 h2
  have := Tryd.strings_Split (mkS l) (mkS [c]) m W (by rw [sz_dL]; omega) hm (Nat.le_refl 1)
  rw [h1, h2] at this
  rw [e]
  refine this.mono ?_
  rintro e2 w' ⟨rfl, rfl⟩
  refine ⟨rfl, ?_⟩
  rw [List.map_map]
  rfl
/-- A call of a plain contract, from any world behind a good one; what it hands back lies in the good one's memory or in its own. -/
theorem PCall.free {E : AEnv} {f : FuncId} {args : List AP1} {res : AP} (hc : PCall E f args res) {w1 w : World} (hW : E.W w1) (hb : Below w1.heap.size w1 w) (us : List Value) (hl : us.length = args.length)
    (hr : ∀ (i : Nat) p u, args[i]? = some p → us[i]? = some u → RelP1 (fun b => b < w1.heap.size) w p u) :
    Calls E.P f us.toArray w fun e w' => ∃ v Z', e = .returned v ∧ Below w.heap.size w w' ∧ (∀ b, Z' b → b < w1.heap.size ∨ (w.heap.size ≤ b ∧ b < w'.heap.size)) ∧ RelP Z' w' res v := by
  refine (hc.run (fun b => b < w1.heap.size) w us (fun _ h => Nat.lt_of_lt_of_le h hb.size) ⟨w1, hW, hb, fun b h => h⟩ hl hr).mono ?_
  rintro e w' ⟨v, Z', rfl, hbl, hz, hz2, hv⟩
  exact ⟨v, Z', rfl, hbl, hz2, hv⟩
theorem flat_len1 : ∀ us : List (List Value), (∀ u ∈ us, u.length = 1) → us.flatten.length = us.length
  | [], _ => rfl
  | u :: r, h => by
    rw [List.flatten_cons, List.length_append, flat_len1 r (fun x hx => h x (by simp [hx])), h u (by simp), List.length_cons]
    omega
theorem inodeWords_m : MCall av 132 [] [] [(1, .row 9 1 (nodesL.map eS))] [] (.val (.one (.own 1))) := by
  refine mcall_of av_ok Tryd.func132 rfl Tryd.call132 Tryd.ntmps132 (congrArg Array.toList Tryd.results132) rfl fun S pv => ?_; conv => whnf
  repeat' (first | (refine AWP.seq ?_) | (refine AWP.region av_ok ?_; conv => whnf) | (refine AWP.ret ?_; conv => whnf) | (refine AWP.skip ?_; conv => whnf) | (refine AWP.exit ?_; conv => whnf) | (refine AWP.block ?_; conv => whnf) | (refine AWP.cond ?_; conv => whnf) | (refine AB.tt ?_; conv => whnf) | (refine AB.ff ?_; conv => whnf) | (refine AB.ofT (by assumption) ?_; conv => whnf) | (refine AB.ofF (by assumption) ?_; conv => whnf) | (exact trivial) | (refine And.intro rfl ?_; conv => whnf) | (refine AB.mk (fun h => ?_) (fun h => ?_) <;> (conv => whnf)) | (with_reducible_and_instances rfl) | (exact (rfl : AP.tup _ = AP.tup _)))
theorem ilineWords_p : PCall av 98 [] (.val (.one (dSs namesL))) := by
  refine pcall_of av_ok Tryd.func98 rfl Tryd.call98 Tryd.ntmps98 (congrArg Array.toList Tryd.results98) fun S => ?_; conv => whnf
  repeat' (first | (refine AWP.seq ?_) | (refine AWP.region av_ok ?_; conv => whnf) | (refine AWP.ret ?_; conv => whnf) | (refine AWP.skip ?_; conv => whnf) | (refine AWP.exit ?_; conv => whnf) | (refine AWP.block ?_; conv => whnf) | (refine AWP.cond ?_; conv => whnf) | (refine AB.tt ?_; conv => whnf) | (refine AB.ff ?_; conv => whnf) | (refine AB.ofT (by assumption) ?_; conv => whnf) | (refine AB.ofF (by assumption) ?_; conv => whnf) | (refine ACall.meth inodeWords_m [(1, 901)] rfl rfl ?_; conv => whnf) | (refine all_len (by simp [eS]) ?_; conv => whnf) | (refine sz_app (by simp [nodesL]) ?_; conv => whnf) | (exact trivial) | (refine And.intro rfl ?_; conv => whnf) | (refine AB.mk (fun h => ?_) (fun h => ?_) <;> (conv => whnf)) | (with_reducible_and_instances rfl) | (exact (rfl : AP.tup _ = AP.tup _)))
  rfl
theorem ilineWords_calls {w1 w : World} (hW : TabR w1) (hb : Below w1.heap.size w1 w) : Calls Tryd.prog 98 #[] w fun e w' => ∃ A cap, e = .returned (.slice A 7 cap) ∧ Row w' A (strVals namesL) ∧ (∀ a, A = some a → a.block < w1.heap.size ∨ (w.heap.size ≤ a.block ∧ a.block < w'.heap.size)) ∧ Below w.heap.size w w' := by
  refine (ilineWords_p.free hW hb [] rfl fun i p u h1 _ => by simp at h1).mono ?_
  rintro e w' ⟨v, Z', rfl, hbl, hz, hv⟩
  have hv : RelD Z' w' (.sl (namesL.map fun x => [AD.pv (Value.string ⟨x.toArray⟩)])) v := hv
  obtain ⟨A, cap, s, us, e1, _, _, h3, h4, h5, h6, _⟩ := relD_sl hv
  obtain ⟨A2, cap2, e2, _, _, hrow⟩ := relD_row hv (fun b hZ => by rcases hz b hZ with h | h; have h1 := hbl.size; have h2 := hb.size; omega; exact h.2)
  rw [e1] at e2
  injection e2 with e2 _ e3
  subst e2 e3
  refine ⟨A, cap, by rw [e1]; rfl, hrow, fun a ha => ?_, hbl⟩
  subst ha
  rcases h6 with h6 | ⟨b, off, hA, hZ, _⟩
  · exfalso
    have hs : s = 1 := (h4 [AD.pv (Value.string ⟨nodesL[0].toArray⟩)] (by simp [namesL, nodesL])).symm
    rw [hs] at h5
    have h7 := flat_len1 us h5
    rw [h6, h3] at h7
    simp [namesL, nodesL] at h7
  · injection hA with hA
    subst hA
    exact hz b hZ
end Go.Proofs.YtlhanpkfnhnegaaDoor
/- Reports read: the numbers of a line in new memory. -/
namespace Go.Proofs.YtlhanpkfnhnegaaDoor
open Go.ChangeShapes Go.WideShapes Go.RowKit

theorem arg_strs {w : World} {A : Option Addr} {n c : Nat} {ws : List (List UInt8)} (hr : Row w A (strVals ws)) (hn : n = ws.length) (h1 : n ≤ c) (h2 : c ≤ maxLen) : RelD (fun b => b < w.heap.size) w (dSs ws) (.slice A n c) := by
  subst hn
  have hall : Rep.str.all w (strVals ws) (ws.map mkS) [] := by
    have := strs_all w (ws.map mkS)
    rw [List.map_map] at this
    exact this
  have hl : (ws.map mkS).length = ws.length := by simp
  have hrd : (Rep.sl Rep.str).rd w [.slice A ws.length c] (ws.map mkS) _ := ⟨A, c, strVals ws, [], by rw [hl], by rw [hl]; exact h1, h2, hr, hall, rfl⟩
  have h := Enc.cell (f := fun l => .sl (l.map fun b => [.pv (.string b)])) (Enc.sl Enc.str) hrd
  have e : dSs ws = .sl ((ws.map mkS).map fun b => [.pv (.string b)]) := by
    rw [List.map_map]; rfl
  rw [e]
  exact h
theorem nums_wf {ws : List (List UInt8)} (h : numsOk ws = true) : ∀ x ∈ numsV ws, (Lit.int .i64 x).wf = true := by
  intro x hx
  obtain ⟨w, hw, rfl⟩ := List.mem_map.1 hx
  have := numV_9 (List.all_eq_true.1 h w hw)
  exact i64_wf (by omega) (by omega)
theorem inumeralsOf_calls (ws : List (List UInt8)) (hl : ws.length ≤ 1000000) (hwl : ∀ w ∈ ws, w.length ≤ 2000000) (A : Option Addr) (n c : Nat) {w1 w : World} (hW : TabR w1) (hb : Below w1.heap.size w1 w) (hr : Row w A (strVals ws)) (hn : n = ws.length) (h1 : n ≤ c) (h2 : c ≤ maxLen) :
    Calls Tryd.prog 100 #[.slice A n c] w fun e w' => Below w.heap.size w w' ∧ ((numsOk ws = true ∧ ∃ A' cap F, e = .returned (.tuple #[.slice A' (numsV ws).length cap, .bool true]) ∧ Res RepRow w.heap.size w' [.slice A' (numsV ws).length cap] (numsV ws) F) ∨
      (numsOk ws = false ∧ e = .returned (.tuple #[.slice none 0 0, .bool false]))) := by
  have ha := arg_strs hr hn h1 h2
  have harg : ∀ (i : Nat) x u, [AA.one (.d (dSs ws))][i]? = some x → [Value.slice A n c][i]? = some u → RelV (fun b => b < w.heap.size) w (fun _ => undef) x.v u := by
    intro i x u h1 h2
    cases i with
    | zero =>
      simp at h1 h2
      subst h1 h2
      exact .one _ _ (show RelD _ _ (dSs ws) _ from ha)
    | succ i => simp at h1
  cases hok : numsOk ws with
  | true =>
    refine ((numerals_yes ws hl hwl hok).free hW hb [.slice A n c] rfl harg).mono ?_
    rintro e w' ⟨v, Z', ρ', rfl, hbl, hws, hv⟩
    obtain ⟨x, z, rfl, hx, hz⟩ := relV_tup2 hv
    have ez : z = .bool true := relV_pv hz
    subst ez
    obtain ⟨A', cap, F, hA, hres⟩ := row_new (id := 9) hws rfl (nums_wf hok)
    have ex : x = ρ' 9 := by
      cases hx with
      | one _ _ h => exact h.1
    rw [hA] at ex
    subst ex
    exact ⟨hbl, .inl ⟨rfl, A', cap, F, rfl, hres⟩⟩
  | false =>
    refine ((numerals_no ws hl hwl hok).free hW hb [.slice A n c] rfl harg).mono ?_
    rintro e w' ⟨v, Z', ρ', rfl, hbl, hws, hv⟩
    obtain ⟨x, z, rfl, hx, hz⟩ := relV_tup2 hv
    have ez : z = .bool false := relV_pv hz
    subst ez
    have ex : x = .slice none 0 0 := by
      cases hx with
      | one _ _ h => exact h
    subst ex
    exact ⟨hbl, .inr ⟨rfl, rfl⟩⟩
/-- The words behind the first, against the one word. -/
theorem equal_calls (xs : List (List UInt8)) (y : List UInt8) (b1 o1 n c b2 d : Nat) (w : World) (hn : n = xs.length) (hl : xs.length ≤ 1000000) (hr : ∀ j u, (strVals xs)[j]? = some u → w.cell? ⟨b1, o1 + j, none⟩ = some u) (h2 : w.cell? ⟨b2, 0, none⟩ = some (.string (mkS y))) :
    Calls Tryd.prog 99 #[.slice (some ⟨b1, o1, none⟩) n c, .slice (some ⟨b2, 0, none⟩) 1 d] w fun e w' => e = .returned (.bool (decide (xs = [y]))) ∧ ∃ q, w' = w.drewN q := by
  subst hn
  have := Tryd.slices_Equal_string b1 o1 xs.length c b2 0 1 d (xs.map mkS) [mkS y] w (by simp) (by simp) (by omega) (by omega) (fun j hj => by
    have hj' : j < xs.length := by simpa using hj
    refine hr j _ ?_
    simp [strVals, hj', List.getD_eq_getElem?_getD]) (fun j hj => by
    have : j = 0 := by simp at hj; omega
    subst this
    exact h2)
  refine this.mono ?_
  rintro e w' ⟨rfl, hq⟩
  refine ⟨?_, hq⟩
  have e : (List.take xs.length (xs.map mkS) = List.take 1 [mkS y]) ↔ xs = [y] := by
    rw [List.take_of_length_le (by simp)]
    constructor
    · intro h
      have h : xs.map mkS = [mkS y] := h
      match xs, h with
      | [x], h =>
        injection h with h _
        have : x.toArray = y.toArray := congrArg ByteArray.data h
        have := congrArg Array.toList this
        simp at this
        rw [this]
    · rintro rfl; rfl
  rw [decide_eq_decide.2 e]
end Go.Proofs.YtlhanpkfnhnegaaDoor
/- Reports read by the program. -/
namespace Go.Proofs.YtlhanpkfnhnegaaDoor
open Go.ChangeShapes Go.WideShapes Go.RowKit

def OutSlQ {α : Type} (R : Rep α) (y : List α × Bool) (w : World) (e : Ending) (w' : World) : Prop :=
  ∃ A cap F, e = .returned (.tuple #[.slice A y.1.length cap, .bool y.2]) ∧ R.sl.rd w' [.slice A y.1.length cap] y.1 F ∧ Fresh w.heap.size w' F ∧ Below w.heap.size w w'
theorem OutSlQ.nil {α : Type} {R : Rep α} {y : List α × Bool} {x : Bool} {w w' : World} (hb : Below w.heap.size w w') (h : y = ([], x)) : OutSlQ R y w (.returned (.tuple #[.slice none 0 0, .bool x])) w' := by
  subst h
  exact ⟨none, 0, [], rfl, ⟨none, 0, [], [], rfl, Nat.le_refl _, Nat.zero_le _, fun j hj => absurd hj (Nat.not_lt_zero _), ⟨rfl, rfl⟩, rfl⟩, Fresh.nil _ _, hb⟩
theorem OutSlQ.of {α : Type} {R : Rep α} {y : List α × Bool} {l : List α} {x : Bool} {B : Nat} {w w' : World} {t : TypeId} {A : Option Addr} {n c : Nat} (hB : w.heap.size ≤ B) (hg : Grow R t B w' (.slice A n c) n l) (hb : Below w.heap.size w w') (h : y = (l, x)) : OutSlQ R y w (.returned (.tuple #[.slice A n c, .bool x])) w' := by
  subst h
  obtain ⟨hn, xs, F, ho, ha, hf, hd⟩ := hg
  subst hn
  obtain ⟨A', c', hv, hrd, hbl⟩ := Rep.sl_own ho ha rfl
  injection hv with e1 _ e2
  subst e1 e2
  refine ⟨A, c, _, rfl, hrd, ⟨?_, fun b hb => ?_⟩, hb⟩
  · rw [List.nodup_append]
    refine ⟨?_, hf.1, fun a ha b hb e => ?_⟩
    · unfold headOf
      split
      · simp
      · split <;> simp
    · subst e
      exact hd a hb (hbl a ha).1
  · rcases List.mem_append.1 hb with hb | hb
    · obtain ⟨h1, h2⟩ := hbl b hb
      refine ⟨Nat.le_trans hB h2, ?_⟩
      rcases ho.2 with ⟨hv2, _⟩ | ⟨g, cap2, cur, hv2, _, hg, _⟩
      · injection hv2 with e1
        subst e1
        simp [headOf] at hb
      · injection hv2 with e1 _ _
        subst e1
        unfold headOf at hb
        split at hb
        · cases hb
        · simp at hb
          subst hb
          exact ⟨cur, _, hg⟩
    · exact ⟨Nat.le_trans hB (hf.2 b hb).1, (hf.2 b hb).2⟩
theorem Row.cell0 {w : World} {b o : Nat} {xs : List Value} (h : Row w (some ⟨b, o, none⟩) xs) {i : Nat} {u : Value} (hu : xs[i]? = some u) : w.cell? ⟨b, o + i, none⟩ = some u := by
  obtain ⟨b', off, e, _, hc⟩ := h i (List.getElem?_eq_some_iff.1 hu).1
  injection e with e
  injection e with e1 e2
  subst e1 e2
  exact hc i u hu
theorem strVals_at {l : List (List UInt8)} {i : Nat} (h : i < l.length) : (strVals l)[i]? = some (.string ⟨l[i].toArray⟩) := by simp [strVals, h]
theorem Row.tail0 {w : World} {b o : Nat} {x : Value} {xs : List Value} (h : Row w (some ⟨b, o, none⟩) (x :: xs)) : Row w (some ⟨b, o + 1, none⟩) xs := by
  intro j hj
  obtain ⟨b', off, e, hl, hc⟩ := h (j + 1) (by simpa using hj)
  injection e with e
  injection e with e1 e2
  subst e1 e2
  exact ⟨b, o + 1, rfl, hl, fun i u hu => by rw [show o + 1 + i = o + (i + 1) by omega]; exact hc (i + 1) u (by simpa using hu)⟩
theorem split_calls' (c : UInt8) (l : List UInt8) (hl : l.length ≤ 2000000) (W : World) (m : Int) (hm : W.cell? ⟨0, 0, none⟩ = some (.int .i64 m)) :
    Calls Tryd.prog 97 #[.string ⟨l.toArray⟩, .string ⟨#[c]⟩] W fun e w' => e = .returned (.slice (some ⟨W.heap.size, 0, none⟩) (wordsL c l).length (wordsL c l).length) ∧ Row w' (some ⟨W.heap.size, 0, none⟩) (strVals (wordsL c l)) ∧ Below W.heap.size W w' ∧ w'.heap.size = W.heap.size + 1 := by
  refine (split_calls c l hl W m hm).mono ?_
  rintro e w' ⟨rfl, rfl⟩
  have h := row_one (w := W) (strVals (wordsL c l)).toArray 9
  exact ⟨rfl, h, Below.alloc (Below.refl _ _) (Nat.le_refl _) _, by simp⟩
theorem nilRow_rd (w : World) : RepRow.rd w [.slice none 0 0] [] [] := ⟨none, 0, [], [], rfl, Nat.le_refl _, Nat.zero_le _, fun j hj => absurd hj (Nat.not_lt_zero _), ⟨rfl, rfl⟩, rfl⟩
theorem infoRow : (Tryd.prog.info? 42).map (fun i => (i.zero, i.size, i.bytes)) = some (some (.slice none 0 0), 1, 24) := by kernel_rfl
set_option maxHeartbeats 4000000 in
theorem iReportRead_calls (l : List UInt8) (hl : l.length ≤ 2000000) (w : World) (hW : TabR w) : Calls Tryd.prog 38 #[.string ⟨l.toArray⟩] w (OutSlQ RepRow (reportL l) w) := by
  have hz : (⟨l.toArray⟩ : ByteArray).size = l.length := by simp [ByteArray.size]
  have hwl := words_len (c := 10) (l := l)
  have hrn := fun h => reportL_no (l := l) h
  have hry := fun h => reportL_yes (l := l) h
  generalize reportL l = y at hrn hry
  have sc := fun W m hm => split_calls' 10 l hl W m hm
  generalize wordsL 10 l = ps at *
  go_enter Tryd.func38, Tryd.ntmps38
  go_wp2_with fail
  obtain ⟨_, m, hm⟩ := hW.below (w' := w.alloc (.cells #[.int .i64 5, .int .i64 7, .int .i64 4, .int .i64 4, .int .i64 3, .int .i64 3, .int .i64 11] 3)) (by repeat (first | with_reducible exact Below.refl _ _ | with_reducible assumption | (with_reducible refine Below.drew ?_) | (with_reducible refine Below.alloc ?_ (by first | with_reducible exact Nat.le_refl _ | omega | (simp; done) | (simp; omega) | (simp [World.setCell]; omega) | (simp [World.setCell]; done)) _) | (with_reducible refine Below.setCell ?_ (by first | with_reducible exact Nat.le_refl _ | omega | (simp; done) | (simp; omega) | (simp [World.setCell]; omega) | (simp [World.setCell]; done)) _)))
  refine (sc _ m hm).mono ?_
  rintro e W1 ⟨rfl, hrowL, hb1, hs1⟩
  have hS := (row_one (w := w) #[.int .i64 5, .int .i64 7, .int .i64 4, .int .i64 4, .int .i64 3, .int .i64 3, .int .i64 11] 3).below hb1
  have hbl : (w.alloc (.cells #[.int .i64 5, .int .i64 7, .int .i64 4, .int .i64 4, .int .i64 3, .int .i64 3, .int .i64 11] 3)).heap.size = w.heap.size + 1 := by simp
  have hbw : Below w.heap.size w W1 := Below.trans (b := w.alloc _) (by repeat (first | with_reducible exact Below.refl _ _ | with_reducible assumption | (with_reducible refine Below.drew ?_) | (with_reducible refine Below.alloc ?_ (by first | with_reducible exact Nat.le_refl _ | omega | (simp; done) | (simp; omega) | (simp [World.setCell]; omega) | (simp [World.setCell]; done)) _) | (with_reducible refine Below.setCell ?_ (by first | with_reducible exact Nat.le_refl _ | omega | (simp; done) | (simp; omega) | (simp [World.setCell]; omega) | (simp [World.setCell]; done)) _))) (hb1.mono (by rw [hbl]; omega))
  rw [hbl] at hrowL hs1 ⊢
  clear sc hb1 hm m
  by_cases hlong : 1000 < l.length
  · have hR := hrn (fun h => by omega)
    clear hrowL hS
    go_wp2
    go_ret2
    first | exact OutSlQ.nil hbw hR | exact OutSlQ.nil hbw rfl
  · by_cases h8 : ps.length = 8
    · have h7l : 7 < ps.length := by omega
      have hd7 : ps.getD 7 [] = ps[7] := by rw [List.getD_eq_getElem?_getD, List.getElem?_eq_getElem h7l]; rfl
      have c7 := hrowL.cell0 (strVals_at h7l)
      rw [Nat.zero_add] at c7
      generalize hr7 : (⟨ps[7].toArray⟩ : ByteArray) = r7 at c7
      have hE : r7.toList.isEmpty = ps[7].isEmpty := by rw [← hr7]; simp
      rw [h8]
      by_cases h0 : ps[7] = []
      · have hE2 : r7.toList.isEmpty = true := by rw [hE, h0]; rfl
        clear hE hz
        have hz1 := hbw.size
        go_wp2_with fail
        have hbx : Below w.heap.size w (W1.alloc (.cells #[] 42)) := (by repeat (first | with_reducible exact Below.refl _ _ | with_reducible assumption | (with_reducible refine Below.drew ?_) | (with_reducible refine Below.alloc ?_ (by first | with_reducible exact Nat.le_refl _ | omega | (simp; done) | (simp; omega) | (simp [World.setCell]; omega) | (simp [World.setCell]; done)) _) | (with_reducible refine Below.setCell ?_ (by first | with_reducible exact Nat.le_refl _ | omega | (simp; done) | (simp; omega) | (simp [World.setCell]; omega) | (simp [World.setCell]; done)) _)))
        refine (ilineWords_calls hW hbx).mono ?_
        rintro e W2 ⟨A35, c35, rfl, hrowN, hA35, hb2⟩
        have hs2 : (W1.alloc (.cells #[] 42)).heap.size = w.heap.size + 1 + 1 + 1 := by simp [hs1]
        have hg0 : Grow RepRow 42 (w.heap.size + 1 + 1) W2 (.slice (some ⟨w.heap.size + 1 + 1, 0, none⟩) 0 0) 0 [] := by
          have h := (Grow.empty (B := w.heap.size + 1 + 1) RepRow 42 W1 (by omega)).below hb2
          rw [hs1] at h
          exact h
        have hb12 : Below (w.heap.size + 1 + 1) W1 W2 := Below.trans (b := W1.alloc (.cells #[] 42)) (by repeat (first | with_reducible exact Below.refl _ _ | with_reducible assumption | (with_reducible refine Below.drew ?_) | (with_reducible refine Below.alloc ?_ (by first | with_reducible exact Nat.le_refl _ | omega | (simp; done) | (simp; omega) | (simp [World.setCell]; omega) | (simp [World.setCell]; done)) _) | (with_reducible refine Below.setCell ?_ (by first | with_reducible exact Nat.le_refl _ | omega | (simp; done) | (simp; omega) | (simp [World.setCell]; omega) | (simp [World.setCell]; done)) _))) (hb2.mono (by omega))
        have hs3 := hb2.size
        rw [hs2] at hs3
        have hsplit := fun (k : Nat) (hk : k < 7) (W : World) m hm => split_calls' 32 (ps[k]'(by omega)) (Nat.le_trans (hwl _ (List.getElem_mem (by omega))) hl) W m hm
        obtain ⟨b35, off35, rfl, hb35, _⟩ := hrowN 0 (by decide)
        have hne35 : b35 ≠ w.heap.size + 1 + 1 := by
          rcases hA35 _ rfl with h | ⟨h, _⟩
          · have h : b35 < w.heap.size := h
            omega
          · have h : (W1.alloc (.cells #[] 42)).heap.size ≤ b35 := h
            rw [hs2] at h
            omega
        clear hA35 hE2 c7 hr7 hd7 hbx
        go_wp2_with fail
        go_loopw [6, 37] (fun out i wr => ∃ (k : Nat) (A' : Option Addr) (c' : Nat), k ≤ 7 ∧ repOk ps k = true ∧ i = .int .i64 k ∧ out = .slice A' k c' ∧ Grow RepRow 42 (w.heap.size + 1 + 1) wr (.slice A' k c') k (repAt ps k) ∧ Below (w.heap.size + 1 + 1) W1 wr ∧ Row wr (some ⟨b35, off35, none⟩) (strVals namesL) ∧ (∀ g, (Value.slice A' k c').ownBlock = some g → g = w.heap.size + 1 + 1 ∨ W2.heap.size ≤ g) ∧ W2.heap.size ≤ wr.heap.size) (fun _ i _ => 7 - (intOf i).toNat)
        case atStart =>
          refine ⟨0, _, _, by omega, rfl, rfl, rfl, hg0, hb12, hrowN, fun g hg => ?_, Nat.le_refl _⟩
          injection hg with hg
          exact .inl hg.symm
        case round =>
          obtain ⟨k, A', c', hk, hok, rfl, rfl, hg, hbr, hrn2, hown, hs4⟩ := hrel
          have hbwr : Below w.heap.size w wr := hbw.trans (hbr.mono (by omega))
          by_cases hk7 : k < 7
          · have hpl : k < ps.length := by omega
            have hin : k < namesL.length := hk7
            have his : k < sizesL.length := hk7
            have hnm : namesL.getD k [] = namesL[k] := by rw [List.getD_eq_getElem?_getD, List.getElem?_eq_getElem hin]; rfl
            have hsz : sizesL.getD k 0 = sizesL[k] := by rw [List.getD_eq_getElem?_getD, List.getElem?_eq_getElem his]; rfl
            have hsb := sizes_at hk7
            rw [hsz] at hsb
            have hdk : ps.getD k [] = ps[k] := by rw [List.getD_eq_getElem?_getD, List.getElem?_eq_getElem hpl]; rfl
            have hat := repAt_succ ps k
            have hoks := repOk_succ ps k
            have hno := repOk_not (ps := ps) (k := k) (n := 7) hk7
            rw [hdk] at hat hoks hno
            have hbr1 : Below W1.heap.size W1 wr := hbr.mono (by omega)
            have cL := (hrowL.below hbr1).cell0 (strVals_at hpl)
            have cN := hrn2.cell0 (strVals_at hin)
            have cS := (hS.below hbr1).cell0 (show (sizesL.map (Value.int .i64))[k]? = some (.int .i64 sizesL[k]) by simp [his])
            rw [Nat.zero_add] at cL cS
            obtain ⟨w0, r, hw⟩ := wordsL_split (c := 32) (s := ps[k])
            have hlen := words_len (c := 32) (l := ps[k])
            have hcnt := words_cnt 32 ps[k]
            have hpsl := Nat.le_trans (hwl _ (List.getElem_mem hpl)) hl
            have sc := hsplit k hk7
            rw [hw] at hlen hcnt sc hat hoks hno
            obtain ⟨_, m, hm⟩ := hW.below hbwr
            go_wp2_with fail
            refine (sc _ m hm).mono ?_
            rintro e W3 ⟨rfl, hrowW, hb3, hs5⟩
            generalize hbn : (⟨namesL[k].toArray⟩ : ByteArray) = bn at *
            have hbe := str_dec w0 namesL[k]
            rw [hbn] at hbe
            have cW := hrowW.cell0 (strVals_at (l := w0 :: r) (i := 0) (by simp))
            have cW : W3.cell? ⟨wr.heap.size, 0, none⟩ = some (.string ⟨w0.toArray⟩) := cW
            generalize hbw0 : (⟨w0.toArray⟩ : ByteArray) = bw at *
            have hb13 : Below w.heap.size w W3 := hbwr.trans (hb3.mono hbwr.size)
            by_cases c1 : w0 = namesL[k]
            · have hbb : bw = bn := by rw [← hbw0, ← hbn, c1]
              subst hbb
              have c1' : (w0 :: r).headD [] = namesL.getD k [] := by rw [hnm]; exact c1
              -- ROUND
              rcases r with _ | ⟨v, t⟩
              · have hrowR : Row W3 (some ⟨wr.heap.size, 0, none⟩) (strVals []) := fun j hj => by simp [strVals] at hj
                have hrwl : ∀ u ∈ ([] : List (List UInt8)), u.length ≤ 2000000 := fun u hu => by cases hu
                have hr1000 : ([] : List (List UInt8)).length ≤ 1000 := by simp
                by_cases k4 : k < 4
                · have k4a : (k : Int) < 4 := by omega
                  go_wp2_with fail
                  refine (equal_calls [] downL _ _ _ _ _ _ _ rfl (by simp) (fun j u hu => by simp [strVals] at hu) (by
                    have := (row_one (w := W3) #[.string (mkS downL)] 9).cell0 (i := 0) rfl
                    rw [hs5] at this
                    exact this)).mono ?_
                  rintro e W4 ⟨rfl, q4, hW4⟩
                  have hb4 : Below W3.heap.size W3 W4 := by
                    rw [hW4]
                    exact (Below.alloc (Below.refl _ _) (Nat.le_refl _) _).trans ((below_drewN' _ q4).mono (by simp))
                  clear hW4
                  have hdn : decide (([] : List (List UInt8)) = [downL]) = false := rfl
                  rw [hdn]
                  go_wp2_with fail
                  refine (inumeralsOf_calls [] (by omega) hrwl _ _ _ hW (hb13.trans (hb4.mono hb13.size)) (hrowR.below hb4) (by simp) (by simp) (by unfold maxLen; have h10 := hr1000; simp only [List.length_cons, List.length_nil] at h10; simp <;> omega)).mono ?_
                  rintro e W5 ⟨hb5, h⟩
                  have hbw5 : Below wr.heap.size wr W5 := hb3.trans ((hb4.trans (hb5.mono hb4.size)).mono hb3.size)
                  have hb15 : Below w.heap.size w W5 := hbwr.trans (hbw5.mono hbwr.size)
                  have cS5 : W5.cell? ⟨w.heap.size, k, none⟩ = some (.int .i64 sizesL[k]) := by
                    have := (hS.below (hbr1.trans (hbw5.mono hbr1.size))).cell0 (show (sizesL.map (Value.int .i64))[k]? = some (.int .i64 sizesL[k]) by simp [his])
                    rw [Nat.zero_add] at this
                    exact this
                  have hszc := (hb4).size
                  rcases h with ⟨hok9, A6, cap6, F6, rfl, hres⟩ | ⟨hok9, rfl⟩
                  · by_cases c4 : ((w0 :: []).length : Int) = sizesL[k] + 1
                    · have hrow : rowOf k (w0 :: []) = (numsV [], true) := by
                        rw [rowOf_nums c1' (fun h => by simp at h) (by rw [hsz]; exact c4)]
                        show (if numsOk [] = true then (numsV [], true) else ([], false)) = _
                        rw [if_pos hok9]
                      have h9 : ((numsV []).length : Int) = sizesL[k] := by simp [numsV] at c4 ⊢; omega
                      clear hb5
                      have hszW := hbw5.size
                      have hcur : ∀ X, Below wr.heap.size wr (W5.alloc X) := fun X => hbw5.trans (Below.alloc (Below.refl _ _) hszW _)
                      clear hbe hrowW hrowR cL cN cS cW sc hsplit
                      go_wp2_with (at_builtin; go_must (refine wpList_growO (R := RepRow) rfl _ _ 62 rfl wr 42 (w.heap.size + 1 + 1) (w.heap.size + 1 + 1) Tryd.underlying62 infoRow rfl (by decide) _ k (repAt ps k) rfl hg (hcur _) _ 1 _ _ [numsV []] F6 rfl rfl (row_one _ _) (Rep.all_one_elem (Rep.below_all hres.rd (Below.alloc (Below.refl _ _) (Nat.le_refl _) _))) ((hres.fresh.mono (by omega)).below (Below.alloc (Below.refl _ _) (Nat.le_refl _) _)) (fun b hb => .inr (by have := (hres.fresh.2 b hb).1; omega)) (Nat.le_refl _) (by omega) (by omega) (by decide) ?_); intro A2 c2 w2 hg2 hb2' hgr2 hown2)
                      have hg3 : Grow RepRow 42 (w.heap.size + 1 + 1) w2 (.slice A2 (k + 1) c2) (k + 1) (repAt ps (k + 1)) := by rw [hat, hrow]; exact hg2
                      have hbr' : Below (w.heap.size + 1 + 1) W1 w2 := hbr.trans (Below.trans ((hcur _).mono (by omega)) hb2')
                      have hrow35 : Row w2 (some ⟨b35, off35, none⟩) (strVals namesL) := Row.grown (hrn2.below (hcur _)) hgr2 (fun e => by rcases hown b35 e.symm with h | h; exact hne35 h; omega)
                      have hs6 := hgr2.size
                      have hs7 : (W5.alloc (Obj.cells #[] 0)).heap.size = W5.heap.size + 1 := by simp
                      have hown' : ∀ g, (Value.slice A2 (k + 1) c2).ownBlock = some g → g = w.heap.size + 1 + 1 ∨ W2.heap.size ≤ g := fun g hgo => by
                        rcases hown2 with h | h
                        · rw [h] at hgo; exact hown g hgo
                        · rw [h] at hgo
                          injection hgo with hgo
                          simp at hgo
                          omega
                      have hs8 : W2.heap.size ≤ w2.heap.size := by
                        simp at hs6
                        omega
                      have hok' : repOk ps (k + 1) = true := by rw [hoks, hok, hrow]; rfl
                      clear hg hg2 hb2' hgr2 hown2 hown hrn2 hbr
                      exact ⟨⟨k + 1, A2, c2, by omega, hok', by go_num, rfl, hg3, hbr', hrow35, hown', hs8⟩, by simp [intOf]; omega⟩
                    · have hrow : rowOf k (w0 :: []) = ([], false) := rowOf_many c1' (fun h => by simp at h) (by rw [hsz]; exact c4)
                      have h9 : ¬ ((numsV []).length : Int) = sizesL[k] := by simp [numsV] at c4 ⊢; omega
                      have h9b : (((numsV []).length : Int) == sizesL[k]) = false := by simpa using h9
                      clear hb5
                      have hR := hrn (fun h => by rw [hno (by rw [hrow])] at h; simp at h)
                      clear hbe hrowW hrowR cL cN cW sc hsplit hg hbr hrn2 hown
                      go_wp2
                      go_ret2
                      first | exact OutSlQ.nil hb15 hR | exact OutSlQ.nil hb15 rfl
                  · have hrow : rowOf k (w0 :: []) = ([], false) := by
                      by_cases c4 : ((w0 :: []).length : Int) = sizesL[k] + 1
                      · rw [rowOf_nums c1' (fun h => by simp at h) (by rw [hsz]; exact c4)]
                        show (if numsOk [] = true then (numsV [], true) else ([], false)) = _
                        rw [hok9]; rfl
                      · exact rowOf_many c1' (fun h => by simp at h) (by rw [hsz]; exact c4)
                    clear hb5
                    have hR := hrn (fun h => by rw [hno (by rw [hrow])] at h; simp at h)
                    clear hbe hrowW hrowR cL cN cW sc hsplit hg hbr hrn2 hown
                    go_wp2
                    go_ret2
                    first | exact OutSlQ.nil hb15 hR | exact OutSlQ.nil hb15 rfl
                · have k4a : ¬ (k : Int) < 4 := by omega
                  have hb4 : Below W3.heap.size W3 W3 := Below.refl _ _
                  go_wp2_with fail
                  refine (inumeralsOf_calls [] (by omega) hrwl _ _ _ hW (hb13.trans (hb4.mono hb13.size)) (hrowR.below hb4) (by simp) (by simp) (by unfold maxLen; have h10 := hr1000; simp only [List.length_cons, List.length_nil] at h10; simp <;> omega)).mono ?_
                  rintro e W5 ⟨hb5, h⟩
                  have hbw5 : Below wr.heap.size wr W5 := hb3.trans ((hb4.trans (hb5.mono hb4.size)).mono hb3.size)
                  have hb15 : Below w.heap.size w W5 := hbwr.trans (hbw5.mono hbwr.size)
                  have cS5 : W5.cell? ⟨w.heap.size, k, none⟩ = some (.int .i64 sizesL[k]) := by
                    have := (hS.below (hbr1.trans (hbw5.mono hbr1.size))).cell0 (show (sizesL.map (Value.int .i64))[k]? = some (.int .i64 sizesL[k]) by simp [his])
                    rw [Nat.zero_add] at this
                    exact this
                  have hszc := (hb4).size
                  rcases h with ⟨hok9, A6, cap6, F6, rfl, hres⟩ | ⟨hok9, rfl⟩
                  · by_cases c4 : ((w0 :: []).length : Int) = sizesL[k] + 1
                    · have hrow : rowOf k (w0 :: []) = (numsV [], true) := by
                        rw [rowOf_nums c1' (fun h => k4 h.2.2) (by rw [hsz]; exact c4)]
                        show (if numsOk [] = true then (numsV [], true) else ([], false)) = _
                        rw [if_pos hok9]
                      have h9 : ((numsV []).length : Int) = sizesL[k] := by simp [numsV] at c4 ⊢; omega
                      clear hb5
                      have hszW := hbw5.size
                      have hcur : ∀ X, Below wr.heap.size wr (W5.alloc X) := fun X => hbw5.trans (Below.alloc (Below.refl _ _) hszW _)
                      clear hbe hrowW hrowR cL cN cS cW sc hsplit
                      go_wp2_with (at_builtin; go_must (refine wpList_growO (R := RepRow) rfl _ _ 62 rfl wr 42 (w.heap.size + 1 + 1) (w.heap.size + 1 + 1) Tryd.underlying62 infoRow rfl (by decide) _ k (repAt ps k) rfl hg (hcur _) _ 1 _ _ [numsV []] F6 rfl rfl (row_one _ _) (Rep.all_one_elem (Rep.below_all hres.rd (Below.alloc (Below.refl _ _) (Nat.le_refl _) _))) ((hres.fresh.mono (by omega)).below (Below.alloc (Below.refl _ _) (Nat.le_refl _) _)) (fun b hb => .inr (by have := (hres.fresh.2 b hb).1; omega)) (Nat.le_refl _) (by omega) (by omega) (by decide) ?_); intro A2 c2 w2 hg2 hb2' hgr2 hown2)
                      have hg3 : Grow RepRow 42 (w.heap.size + 1 + 1) w2 (.slice A2 (k + 1) c2) (k + 1) (repAt ps (k + 1)) := by rw [hat, hrow]; exact hg2
                      have hbr' : Below (w.heap.size + 1 + 1) W1 w2 := hbr.trans (Below.trans ((hcur _).mono (by omega)) hb2')
                      have hrow35 : Row w2 (some ⟨b35, off35, none⟩) (strVals namesL) := Row.grown (hrn2.below (hcur _)) hgr2 (fun e => by rcases hown b35 e.symm with h | h; exact hne35 h; omega)
                      have hs6 := hgr2.size
                      have hs7 : (W5.alloc (Obj.cells #[] 0)).heap.size = W5.heap.size + 1 := by simp
                      have hown' : ∀ g, (Value.slice A2 (k + 1) c2).ownBlock = some g → g = w.heap.size + 1 + 1 ∨ W2.heap.size ≤ g := fun g hgo => by
                        rcases hown2 with h | h
                        · rw [h] at hgo; exact hown g hgo
                        · rw [h] at hgo
                          injection hgo with hgo
                          simp at hgo
                          omega
                      have hs8 : W2.heap.size ≤ w2.heap.size := by
                        simp at hs6
                        omega
                      have hok' : repOk ps (k + 1) = true := by rw [hoks, hok, hrow]; rfl
                      clear hg hg2 hb2' hgr2 hown2 hown hrn2 hbr
                      exact ⟨⟨k + 1, A2, c2, by omega, hok', by go_num, rfl, hg3, hbr', hrow35, hown', hs8⟩, by simp [intOf]; omega⟩
                    · have hrow : rowOf k (w0 :: []) = ([], false) := rowOf_many c1' (fun h => k4 h.2.2) (by rw [hsz]; exact c4)
                      have h9 : ¬ ((numsV []).length : Int) = sizesL[k] := by simp [numsV] at c4 ⊢; omega
                      have h9b : (((numsV []).length : Int) == sizesL[k]) = false := by simpa using h9
                      clear hb5
                      have hR := hrn (fun h => by rw [hno (by rw [hrow])] at h; simp at h)
                      clear hbe hrowW hrowR cL cN cW sc hsplit hg hbr hrn2 hown
                      go_wp2
                      go_ret2
                      first | exact OutSlQ.nil hb15 hR | exact OutSlQ.nil hb15 rfl
                  · have hrow : rowOf k (w0 :: []) = ([], false) := by
                      by_cases c4 : ((w0 :: []).length : Int) = sizesL[k] + 1
                      · rw [rowOf_nums c1' (fun h => k4 h.2.2) (by rw [hsz]; exact c4)]
                        show (if numsOk [] = true then (numsV [], true) else ([], false)) = _
                        rw [hok9]; rfl
                      · exact rowOf_many c1' (fun h => k4 h.2.2) (by rw [hsz]; exact c4)
                    clear hb5
                    have hR := hrn (fun h => by rw [hno (by rw [hrow])] at h; simp at h)
                    clear hbe hrowW hrowR cL cN cW sc hsplit hg hbr hrn2 hown
                    go_wp2
                    go_ret2
                    first | exact OutSlQ.nil hb15 hR | exact OutSlQ.nil hb15 rfl
              · have hrowR := Row.tail0 (x := .string ⟨w0.toArray⟩) (xs := strVals (v :: t)) hrowW
                rw [Nat.zero_add] at hrowR
                have hrow3 := hrowR
                have hrwl : ∀ u ∈ (v :: t), u.length ≤ 2000000 := fun u hu => Nat.le_trans (hlen u (List.mem_cons_of_mem _ hu)) hpsl
                have hr1000 : ((v :: t) : List (List UInt8)).length ≤ 1000 := by
                  simp only [List.length_cons] at hcnt ⊢
                  have := hwl _ (List.getElem_mem hpl)
                  simp <;> omega
                by_cases k4 : k < 4
                · have k4a : (k : Int) < 4 := by omega
                  go_wp2_with fail
                  refine (equal_calls (v :: t) downL _ _ _ _ _ _ _ (by simp) (by omega) (fun j u hu => (hrow3.below (Below.alloc (Below.refl _ _) (Nat.le_refl _) _)).cell0 hu) (by
                    have := (row_one (w := W3) #[.string (mkS downL)] 9).cell0 (i := 0) rfl
                    rw [hs5] at this
                    exact this)).mono ?_
                  rintro e W4 ⟨rfl, q4, hW4⟩
                  have hb4 : Below W3.heap.size W3 W4 := by
                    rw [hW4]
                    exact (Below.alloc (Below.refl _ _) (Nat.le_refl _) _).trans ((below_drewN' _ q4).mono (by simp))
                  clear hW4
                  by_cases hdown : (v :: t) = [downL]
                  · have hdn : decide ((v :: t) = [downL]) = true := decide_eq_true hdown
                    rw [hdn]
                    have hrow : rowOf k (w0 :: (v :: t)) = ([], true) := rowOf_down c1' ⟨by rw [hdown]; rfl, by rw [hdown]; rfl, k4⟩
                    have hbw4 : Below wr.heap.size wr W4 := hb3.trans (hb4.mono hb3.size)
                    have hszW := hbw4.size
                    have hcur : ∀ X, Below wr.heap.size wr (W4.alloc X) := fun X => hbw4.trans (Below.alloc (Below.refl _ _) hszW _)
                    clear hbe hrowW hrowR cL cN cS cW sc hsplit
                    go_wp2_with (at_builtin; go_must (refine wpList_growO (R := RepRow) rfl _ _ 62 rfl wr 42 (w.heap.size + 1 + 1) (w.heap.size + 1 + 1) Tryd.underlying62 infoRow rfl (by decide) _ k (repAt ps k) rfl hg (hcur _) _ 1 _ _ [[]] [] rfl rfl (row_one _ _) (Rep.all_one_elem (nilRow_rd _)) (Fresh.nil _ _) (fun b hb => by cases hb) (Nat.le_refl _) (by omega) (by omega) (by decide) ?_); intro A2 c2 w2 hg2 hb2' hgr2 hown2)
                    have hg3 : Grow RepRow 42 (w.heap.size + 1 + 1) w2 (.slice A2 (k + 1) c2) (k + 1) (repAt ps (k + 1)) := by rw [hat, hrow]; exact hg2
                    have hbr' : Below (w.heap.size + 1 + 1) W1 w2 := hbr.trans (Below.trans ((hcur _).mono (by omega)) hb2')
                    have hrow35 : Row w2 (some ⟨b35, off35, none⟩) (strVals namesL) := Row.grown (hrn2.below (hcur _)) hgr2 (fun e => by rcases hown b35 e.symm with h | h; exact hne35 h; omega)
                    have hs6 := hgr2.size
                    have hs7 : (W4.alloc (Obj.cells #[] 0)).heap.size = W4.heap.size + 1 := by simp
                    have hown' : ∀ g, (Value.slice A2 (k + 1) c2).ownBlock = some g → g = w.heap.size + 1 + 1 ∨ W2.heap.size ≤ g := fun g hgo => by
                      rcases hown2 with h | h
                      · rw [h] at hgo; exact hown g hgo
                      · rw [h] at hgo
                        injection hgo with hgo
                        simp at hgo
                        omega
                    have hs8 : W2.heap.size ≤ w2.heap.size := by
                      simp at hs6
                      omega
                    have hok' : repOk ps (k + 1) = true := by rw [hoks, hok, hrow]; rfl
                    clear hg hg2 hb2' hgr2 hown2 hown hrn2 hbr
                    exact ⟨⟨k + 1, A2, c2, by omega, hok', by go_num, rfl, hg3, hbr', hrow35, hown', hs8⟩, by simp [intOf]; omega⟩
                  · have hdn : decide ((v :: t) = [downL]) = false := decide_eq_false hdown
                    rw [hdn]
                    have hnd : ¬ ((w0 :: (v :: t)).length = 2 ∧ (w0 :: (v :: t)).getD 1 [] = downL ∧ k < 4) := fun h => hdown (by
                      have h1 : t = [] := by have := h.1; simp at this; exact this
                      have h2 : v = downL := h.2.1
                      rw [h1, h2])
                    go_wp2_with fail
                    refine (inumeralsOf_calls (v :: t) (by omega) hrwl _ _ _ hW (hb13.trans (hb4.mono hb13.size)) (hrowR.below hb4) (by simp) (by simp) (by unfold maxLen; have h10 := hr1000; simp only [List.length_cons, List.length_nil] at h10; simp <;> omega)).mono ?_
                    rintro e W5 ⟨hb5, h⟩
                    have hbw5 : Below wr.heap.size wr W5 := hb3.trans ((hb4.trans (hb5.mono hb4.size)).mono hb3.size)
                    have hb15 : Below w.heap.size w W5 := hbwr.trans (hbw5.mono hbwr.size)
                    have cS5 : W5.cell? ⟨w.heap.size, k, none⟩ = some (.int .i64 sizesL[k]) := by
                      have := (hS.below (hbr1.trans (hbw5.mono hbr1.size))).cell0 (show (sizesL.map (Value.int .i64))[k]? = some (.int .i64 sizesL[k]) by simp [his])
                      rw [Nat.zero_add] at this
                      exact this
                    have hszc := (hb4).size
                    rcases h with ⟨hok9, A6, cap6, F6, rfl, hres⟩ | ⟨hok9, rfl⟩
                    · by_cases c4 : ((w0 :: (v :: t)).length : Int) = sizesL[k] + 1
                      · have hrow : rowOf k (w0 :: (v :: t)) = (numsV (v :: t), true) := by
                          rw [rowOf_nums c1' hnd (by rw [hsz]; exact c4)]
                          show (if numsOk (v :: t) = true then (numsV (v :: t), true) else ([], false)) = _
                          rw [if_pos hok9]
                        have h9 : ((numsV (v :: t)).length : Int) = sizesL[k] := by simp [numsV] at c4 ⊢; omega
                        clear hb5
                        have hszW := hbw5.size
                        have hcur : ∀ X, Below wr.heap.size wr (W5.alloc X) := fun X => hbw5.trans (Below.alloc (Below.refl _ _) hszW _)
                        clear hbe hrowW hrowR cL cN cS cW sc hsplit
                        go_wp2_with (at_builtin; go_must (refine wpList_growO (R := RepRow) rfl _ _ 62 rfl wr 42 (w.heap.size + 1 + 1) (w.heap.size + 1 + 1) Tryd.underlying62 infoRow rfl (by decide) _ k (repAt ps k) rfl hg (hcur _) _ 1 _ _ [numsV (v :: t)] F6 rfl rfl (row_one _ _) (Rep.all_one_elem (Rep.below_all hres.rd (Below.alloc (Below.refl _ _) (Nat.le_refl _) _))) ((hres.fresh.mono (by omega)).below (Below.alloc (Below.refl _ _) (Nat.le_refl _) _)) (fun b hb => .inr (by have := (hres.fresh.2 b hb).1; omega)) (Nat.le_refl _) (by omega) (by omega) (by decide) ?_); intro A2 c2 w2 hg2 hb2' hgr2 hown2)
                        have hg3 : Grow RepRow 42 (w.heap.size + 1 + 1) w2 (.slice A2 (k + 1) c2) (k + 1) (repAt ps (k + 1)) := by rw [hat, hrow]; exact hg2
                        have hbr' : Below (w.heap.size + 1 + 1) W1 w2 := hbr.trans (Below.trans ((hcur _).mono (by omega)) hb2')
                        have hrow35 : Row w2 (some ⟨b35, off35, none⟩) (strVals namesL) := Row.grown (hrn2.below (hcur _)) hgr2 (fun e => by rcases hown b35 e.symm with h | h; exact hne35 h; omega)
                        have hs6 := hgr2.size
                        have hs7 : (W5.alloc (Obj.cells #[] 0)).heap.size = W5.heap.size + 1 := by simp
                        have hown' : ∀ g, (Value.slice A2 (k + 1) c2).ownBlock = some g → g = w.heap.size + 1 + 1 ∨ W2.heap.size ≤ g := fun g hgo => by
                          rcases hown2 with h | h
                          · rw [h] at hgo; exact hown g hgo
                          · rw [h] at hgo
                            injection hgo with hgo
                            simp at hgo
                            omega
                        have hs8 : W2.heap.size ≤ w2.heap.size := by
                          simp at hs6
                          omega
                        have hok' : repOk ps (k + 1) = true := by rw [hoks, hok, hrow]; rfl
                        clear hg hg2 hb2' hgr2 hown2 hown hrn2 hbr
                        exact ⟨⟨k + 1, A2, c2, by omega, hok', by go_num, rfl, hg3, hbr', hrow35, hown', hs8⟩, by simp [intOf]; omega⟩
                      · have hrow : rowOf k (w0 :: (v :: t)) = ([], false) := rowOf_many c1' hnd (by rw [hsz]; exact c4)
                        have h9 : ¬ ((numsV (v :: t)).length : Int) = sizesL[k] := by simp [numsV] at c4 ⊢; omega
                        have h9b : (((numsV (v :: t)).length : Int) == sizesL[k]) = false := by simpa using h9
                        clear hb5
                        have hR := hrn (fun h => by rw [hno (by rw [hrow])] at h; simp at h)
                        clear hbe hrowW hrowR cL cN cW sc hsplit hg hbr hrn2 hown
                        go_wp2
                        go_ret2
                        first | exact OutSlQ.nil hb15 hR | exact OutSlQ.nil hb15 rfl
                    · have hrow : rowOf k (w0 :: (v :: t)) = ([], false) := by
                        by_cases c4 : ((w0 :: (v :: t)).length : Int) = sizesL[k] + 1
                        · rw [rowOf_nums c1' hnd (by rw [hsz]; exact c4)]
                          show (if numsOk (v :: t) = true then (numsV (v :: t), true) else ([], false)) = _
                          rw [hok9]; rfl
                        · exact rowOf_many c1' hnd (by rw [hsz]; exact c4)
                      clear hb5
                      have hR := hrn (fun h => by rw [hno (by rw [hrow])] at h; simp at h)
                      clear hbe hrowW hrowR cL cN cW sc hsplit hg hbr hrn2 hown
                      go_wp2
                      go_ret2
                      first | exact OutSlQ.nil hb15 hR | exact OutSlQ.nil hb15 rfl
                · have k4a : ¬ (k : Int) < 4 := by omega
                  have hb4 : Below W3.heap.size W3 W3 := Below.refl _ _
                  go_wp2_with fail
                  refine (inumeralsOf_calls (v :: t) (by omega) hrwl _ _ _ hW (hb13.trans (hb4.mono hb13.size)) (hrowR.below hb4) (by simp) (by simp) (by unfold maxLen; have h10 := hr1000; simp only [List.length_cons, List.length_nil] at h10; simp <;> omega)).mono ?_
                  rintro e W5 ⟨hb5, h⟩
                  have hbw5 : Below wr.heap.size wr W5 := hb3.trans ((hb4.trans (hb5.mono hb4.size)).mono hb3.size)
                  have hb15 : Below w.heap.size w W5 := hbwr.trans (hbw5.mono hbwr.size)
                  have cS5 : W5.cell? ⟨w.heap.size, k, none⟩ = some (.int .i64 sizesL[k]) := by
                    have := (hS.below (hbr1.trans (hbw5.mono hbr1.size))).cell0 (show (sizesL.map (Value.int .i64))[k]? = some (.int .i64 sizesL[k]) by simp [his])
                    rw [Nat.zero_add] at this
                    exact this
                  have hszc := (hb4).size
                  rcases h with ⟨hok9, A6, cap6, F6, rfl, hres⟩ | ⟨hok9, rfl⟩
                  · by_cases c4 : ((w0 :: (v :: t)).length : Int) = sizesL[k] + 1
                    · have hrow : rowOf k (w0 :: (v :: t)) = (numsV (v :: t), true) := by
                        rw [rowOf_nums c1' (fun h => k4 h.2.2) (by rw [hsz]; exact c4)]
                        show (if numsOk (v :: t) = true then (numsV (v :: t), true) else ([], false)) = _
                        rw [if_pos hok9]
                      have h9 : ((numsV (v :: t)).length : Int) = sizesL[k] := by simp [numsV] at c4 ⊢; omega
                      clear hb5
                      have hszW := hbw5.size
                      have hcur : ∀ X, Below wr.heap.size wr (W5.alloc X) := fun X => hbw5.trans (Below.alloc (Below.refl _ _) hszW _)
                      clear hbe hrowW hrowR cL cN cS cW sc hsplit
                      go_wp2_with (at_builtin; go_must (refine wpList_growO (R := RepRow) rfl _ _ 62 rfl wr 42 (w.heap.size + 1 + 1) (w.heap.size + 1 + 1) Tryd.underlying62 infoRow rfl (by decide) _ k (repAt ps k) rfl hg (hcur _) _ 1 _ _ [numsV (v :: t)] F6 rfl rfl (row_one _ _) (Rep.all_one_elem (Rep.below_all hres.rd (Below.alloc (Below.refl _ _) (Nat.le_refl _) _))) ((hres.fresh.mono (by omega)).below (Below.alloc (Below.refl _ _) (Nat.le_refl _) _)) (fun b hb => .inr (by have := (hres.fresh.2 b hb).1; omega)) (Nat.le_refl _) (by omega) (by omega) (by decide) ?_); intro A2 c2 w2 hg2 hb2' hgr2 hown2)
                      have hg3 : Grow RepRow 42 (w.heap.size + 1 + 1) w2 (.slice A2 (k + 1) c2) (k + 1) (repAt ps (k + 1)) := by rw [hat, hrow]; exact hg2
                      have hbr' : Below (w.heap.size + 1 + 1) W1 w2 := hbr.trans (Below.trans ((hcur _).mono (by omega)) hb2')
                      have hrow35 : Row w2 (some ⟨b35, off35, none⟩) (strVals namesL) := Row.grown (hrn2.below (hcur _)) hgr2 (fun e => by rcases hown b35 e.symm with h | h; exact hne35 h; omega)
                      have hs6 := hgr2.size
                      have hs7 : (W5.alloc (Obj.cells #[] 0)).heap.size = W5.heap.size + 1 := by simp
                      have hown' : ∀ g, (Value.slice A2 (k + 1) c2).ownBlock = some g → g = w.heap.size + 1 + 1 ∨ W2.heap.size ≤ g := fun g hgo => by
                        rcases hown2 with h | h
                        · rw [h] at hgo; exact hown g hgo
                        · rw [h] at hgo
                          injection hgo with hgo
                          simp at hgo
                          omega
                      have hs8 : W2.heap.size ≤ w2.heap.size := by
                        simp at hs6
                        omega
                      have hok' : repOk ps (k + 1) = true := by rw [hoks, hok, hrow]; rfl
                      clear hg hg2 hb2' hgr2 hown2 hown hrn2 hbr
                      exact ⟨⟨k + 1, A2, c2, by omega, hok', by go_num, rfl, hg3, hbr', hrow35, hown', hs8⟩, by simp [intOf]; omega⟩
                    · have hrow : rowOf k (w0 :: (v :: t)) = ([], false) := rowOf_many c1' (fun h => k4 h.2.2) (by rw [hsz]; exact c4)
                      have h9 : ¬ ((numsV (v :: t)).length : Int) = sizesL[k] := by simp [numsV] at c4 ⊢; omega
                      have h9b : (((numsV (v :: t)).length : Int) == sizesL[k]) = false := by simpa using h9
                      clear hb5
                      have hR := hrn (fun h => by rw [hno (by rw [hrow])] at h; simp at h)
                      clear hbe hrowW hrowR cL cN cW sc hsplit hg hbr hrn2 hown
                      go_wp2
                      go_ret2
                      first | exact OutSlQ.nil hb15 hR | exact OutSlQ.nil hb15 rfl
                  · have hrow : rowOf k (w0 :: (v :: t)) = ([], false) := by
                      by_cases c4 : ((w0 :: (v :: t)).length : Int) = sizesL[k] + 1
                      · rw [rowOf_nums c1' (fun h => k4 h.2.2) (by rw [hsz]; exact c4)]
                        show (if numsOk (v :: t) = true then (numsV (v :: t), true) else ([], false)) = _
                        rw [hok9]; rfl
                      · exact rowOf_many c1' (fun h => k4 h.2.2) (by rw [hsz]; exact c4)
                    clear hb5
                    have hR := hrn (fun h => by rw [hno (by rw [hrow])] at h; simp at h)
                    clear hbe hrowW hrowR cL cN cW sc hsplit hg hbr hrn2 hown
                    go_wp2
                    go_ret2
                    first | exact OutSlQ.nil hb15 hR | exact OutSlQ.nil hb15 rfl
              -- ENDROUND
            · rw [decide_eq_false c1] at hbe
              have hR := hrn (fun h => by rw [hno (by rw [rowOf_word (by rw [hnm]; exact c1)])] at h; simp at h)
              clear hg hbr hrn2 hown hS hrowL hsplit hrowN hg0 hb12 hb2 hrowW cL cN cS sc hbr1
              go_wp2
              go_ret2
              first | exact OutSlQ.nil hb13 hR | exact OutSlQ.nil hb13 rfl
          · have e7 : k = 7 := by omega
            subst e7
            have hR := hry ⟨by omega, h8, by rw [List.getD_eq_getElem?_getD, List.getElem?_eq_getElem h7l]; exact h0, hok⟩
            have H := OutSlQ.of (B := w.heap.size + 1 + 1) (by omega) hg hbwr hR
            clear hg hbr hrn2 hown hS hrowL hsplit hrowN hg0 hb12 hb2
            go_wp2
            go_ret2
            exact H
      · have hE2 : r7.toList.isEmpty = false := by rw [hE]; simpa using h0
        have hR := hrn (fun h => h0 (by rw [← hd7]; exact h.2.2.1))
        clear hrowL hS hE
        go_wp2
        go_ret2
        first | exact OutSlQ.nil hbw hR | exact OutSlQ.nil hbw rfl
    · have hR := hrn (fun h => h8 h.2.1)
      have h8a : ¬ (ps.length : Int) = 8 := by omega
      have h8b : ((ps.length : Int) != 8) = true := by simp; omega
      clear hrowL hS
      go_wp2
      go_ret2
      first | exact OutSlQ.nil hbw hR | exact OutSlQ.nil hbw rfl
end Go.Proofs.YtlhanpkfnhnegaaDoor
/- ReportRead: the law's walk. -/
namespace Go.Proofs.YtlhanpkfnhnegaaDoor
open Go.ChangeShapes Go.WideShapes Go.RowKit

theorem rowOf_small (i : Nat) (hi : i < 7) (ws : List (List UInt8)) : (rowOf i ws).1.length ≤ 11 ∧ ∀ n ∈ (rowOf i ws).1, (Lit.int .i64 n).wf = true := by
  have hs := sizes_at hi
  unfold rowOf
  split
  · simp
  · split
    · simp
    · split
      · simp
      · rename_i h3
        split
        · rename_i h4
          refine ⟨?_, nums_wf h4⟩
          have h3 : (ws.length : Int) = sizesL.getD i 0 + 1 := by simpa using h3
          simp [numsV]
          omega
        · simp
theorem report_small (l : List UInt8) : (reportL l).1.length ≤ 7 ∧ ∀ x ∈ (reportL l).1, x.length ≤ 11 ∧ ∀ n ∈ x, (Lit.int .i64 n).wf = true := by
  unfold reportL
  split
  · refine ⟨by rw [repAt_len]; exact Nat.le_refl _, fun x hx => ?_⟩
    obtain ⟨i, hi, rfl⟩ := List.mem_map.1 hx
    exact rowOf_small i (List.mem_range.1 hi) _
  · simp
theorem cntR_le : ∀ (l : List (List Int)), (∀ x ∈ l, x.length ≤ 11) → cntL cntR l ≤ 11 * (l.length : Int)
  | [], _ => by simp [cntL]
  | x :: r, h => by
    have h1 := cntR_le r fun y hy => h y (by simp [hy])
    have h2 := h x (by simp)
    simp only [cntL, cntR, cntI, List.length_cons]
    omega
theorem sReportRead_calls (l : List UInt8) (hl : l.length ≤ 2000000) {w1 w : World} (hW : TabR w1) (hb : Below w1.heap.size w1 w) : Calls Tryd.prog 37 #[.string ⟨l.toArray⟩] w fun e w' =>
    ∃ A cap F, e = .returned (.tuple #[.slice A (reportL l).1.length cap, .bool (reportL l).2]) ∧ (Rep.sl RepRow).rd w' [.slice A (reportL l).1.length cap] (reportL l).1 F ∧ Below w.heap.size w w' := by
  have sp := sReportRead_p l hl
  have hwf := fun x hx => ((report_small l).2 x hx).2
  generalize reportL l = y at sp hwf
  have := sp.run (fun b => b < w.heap.size) w [.string ⟨l.toArray⟩] (fun _ h => h) ⟨w1, hW, hb, fun b h => Nat.lt_of_lt_of_le h hb.size⟩ rfl fun i p u h1 h2 => by
    cases i with
    | zero =>
      simp at h1 h2
      subst h1 h2
      exact (show RelD _ _ (dL l) _ from .pv _ rfl)
    | succ i => simp at h1
  refine this.mono ?_
  rintro e w' ⟨v, Z', rfl, hbl, hz, hz2, us, rfl, hul, hr⟩
  match us, hul, hr with
  | [], hul, _ => simp at hul
  | [a], hul, _ => simp at hul
  | a :: b :: c :: r, hul, _ => simp at hul
  | [a, b], hul, hr =>
    have h1 : RelD Z' w' (.sl (y.1.map eII)) a := hr 0 _ a rfl rfl
    have h2 : b = .bool y.2 := relD_pl rfl (show RelD Z' w' (dB y.2) b from hr 1 _ b rfl rfl)
    subst h2
    obtain ⟨A, cap, F, rfl, hrd⟩ := Dec.row (Dec.sl Dec.int) (fun b hb => by rcases hz2 b hb with h | h; exact Nat.lt_of_lt_of_le h hbl.size; exact h.2) hwf h1
    exact ⟨A, cap, F, rfl, hrd, hbl⟩
set_option maxHeartbeats 4000000 in
theorem lawReportRead_calls (l : List UInt8) (w : World) (hW : TabR w) : Calls Tryd.prog 9 #[.string ⟨l.toArray⟩] w fun e w' => e = .returned (.bool true) ∧ Below w.heap.size w w' := by
  have hz : (⟨l.toArray⟩ : ByteArray).size = l.length := by simp [ByteArray.size]
  by_cases hlong : 1048576 < l.length
  · go_enter Tryd.func9, Tryd.ntmps9
    go_wp2
    go_ret
    exact ⟨rfl, (by repeat (first | with_reducible exact Below.refl _ _ | with_reducible assumption | (with_reducible refine Below.drew ?_) | (with_reducible refine Below.alloc ?_ (by first | with_reducible exact Nat.le_refl _ | omega | (simp; done) | (simp; omega) | (simp [World.setCell]; omega) | (simp [World.setCell]; done)) _) | (with_reducible refine Below.setCell ?_ (by first | with_reducible exact Nat.le_refl _ | omega | (simp; done) | (simp; omega) | (simp [World.setCell]; omega) | (simp [World.setCell]; done)) _)))⟩
  · have hl : l.length ≤ 2000000 := by omega
    have hcnt : cntL cntR (reportL l).1 ≤ 1000000000 := by
      have h1 := report_small l
      have h2 := cntR_le (reportL l).1 fun x hx => (h1.2 x hx).1
      omega
    have hcnn := cntL_nonneg cntR_nonneg (reportL l).1
    have sc := fun w' (hb : Below w.heap.size w w') => sReportRead_calls l hl hW hb
    have ic := fun w' (hw : TabR w') => iReportRead_calls l hl w' hw
    generalize reportL l = y at hcnt hcnn sc ic
    obtain ⟨g, x⟩ := y
    unfold OutSlQ at ic
    simp only at hcnt hcnn sc ic
    go_enter Tryd.func9, Tryd.ntmps9
    go_wp2_with fail
    refine (sc _ (by repeat (first | with_reducible exact Below.refl _ _ | with_reducible assumption | (with_reducible refine Below.drew ?_) | (with_reducible refine Below.alloc ?_ (by first | with_reducible exact Nat.le_refl _ | omega | (simp; done) | (simp; omega) | (simp [World.setCell]; omega) | (simp [World.setCell]; done)) _) | (with_reducible refine Below.setCell ?_ (by first | with_reducible exact Nat.le_refl _ | omega | (simp; done) | (simp; omega) | (simp [World.setCell]; omega) | (simp [World.setCell]; done)) _)))).mono ?_; rintro e W1 ⟨A1, c1, F1, rfl, h1, hb1⟩
    go_wp2_with fail
    refine (ic _ (hW.below hb1)).mono ?_; rintro e W2 ⟨A2, c2, F2, rfl, h2, hf2, hb2⟩
    have hb := hb1.trans (hb2.mono hb1.size)
    have hW2 := hW.below hb
    have h1' := Rep.below_all h1 hb2
    have hlt1 := Rep.lt _ h1
    have hxx : (x != x) = false := by simp
    clear h1 sc
    go_wp2_with fail
    refine (leqInt64SS_same g A2 A1 c2 c1 F2 F1 _ h2 h1').mono ?_; rintro e W3 ⟨rfl, hb3⟩
    have hr2 : Res (Rep.sl RepRow) W1.heap.size W3 [.slice A2 g.length c2] g F2 := (Res.mk h2 hf2).below hb3
    have h1'' := Rep.below_all h1' hb3
    have hbb := hb.trans (hb3.mono hb.size)
    clear h2 hf2 h1' hb hb3 hb2
    go_wp2_with fail
    refine (lmarkInt64SS_calls g A2 _ c2 F2 W1.heap.size _ 1 hr2 (by omega) (by omega)).mono ?_; rintro e W4 ⟨rfl, hr4, ht4⟩
    have h14 := ht4.rd h1'' (fun g hg hg' => by have := hlt1 g hg; have := (hr2.fresh.2 g hg').1; omega)
    have hbd := hbb.trans (ht4.below hbb.size (fun g hg => Nat.le_trans hb1.size (hr2.fresh.2 g hg).1))
    clear hr2 h1'' ht4 hbb
    go_wp2_with fail
    refine (lheldInt64SS_calls g A2 _ c2 F2 _ 1 hr4.rd (by omega) (by omega)).mono ?_; rintro e W5 ⟨rfl, hb5⟩
    have h15 := Rep.below_all h14 hb5
    have hr5 := hr4.below hb5
    have hbe := hbd.trans (hb5.mono hbd.size)
    clear h14 hr4 hbd hb5
    go_wp2_with fail
    refine (ic _ (hW.below hbe)).mono ?_; rintro e W6 ⟨A6, c6, F6, rfl, h6, hf6, hb6⟩
    have h16 := Rep.below_all h15 hb6
    have hr6 := hr5.below hb6
    have hbf := hbe.trans (hb6.mono hbe.size)
    clear h15 hr5 hb6 hbe hf6 ic
    go_wp2_with fail
    refine (leqInt64SS_same g A6 A1 c6 c1 F6 F1 _ h6 h16).mono ?_; rintro e W7 ⟨rfl, hb7⟩
    have hr7 := hr6.below hb7
    have hbg := hbf.trans (hb7.mono hbf.size)
    clear h6 h16 hr6 hb7 hbf
    go_wp2_with fail
    refine (lheldInt64SS_calls g A2 _ c2 F2 _ 1 hr7.rd (by omega) (by omega)).mono ?_; rintro e W8 ⟨rfl, hb8⟩
    have hbh := hbg.trans (hb8.mono hbg.size)
    clear hr7 hb8 hbg hb1 hlt1
    go_wp2_with fail
    go_ret
    exact ⟨rfl, hbh⟩
end Go.Proofs.YtlhanpkfnhnegaaDoor
