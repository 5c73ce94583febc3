/- The reference's words and numbers. -/
import Derived.Test.YtlhanpkfnhnegaaDoorAvW6
set_option linter.unusedVariables false
set_option linter.unusedSimpArgs false
set_option maxRecDepth 100000
namespace Go.Proofs.YtlhanpkfnhnegaaDoor
open Go.RowKit

theorem extract_dL (l : List UInt8) (a b : Nat) : (⟨l.toArray⟩ : ByteArray).extract a b = ⟨((l.take b).drop a).toArray⟩ := by
  rw [Lib.extract_eq]
  simp only [List.toList_toArray]
  rw [List.drop_take]
theorem take_drop_cons {l : List UInt8} {f i : Nat} (hf : f ≤ i) (hi : i < l.length) : l.drop f = (l.take i).drop f ++ l[i] :: l.drop (i + 1) := by
  conv => lhs; rw [← List.take_append_drop i l]
  rw [List.drop_append_of_le_length (by rw [List.length_take]; omega), List.drop_eq_getElem_cons hi]
theorem AW.u8 {n : Int} {K : Int → Prop} (h0 : 0 ≤ n) (h1 : n ≤ 255) (h : K n) : AW .u8 n K := ⟨n, by rw [IntKind.wrap_u8]; omega, h⟩
def numN (w : List UInt8) : Int := match numOf w with
  | some n => n
  | none => -1
def atN (l : List (List UInt8)) (i : Nat) : Int := match l[i]? with
  | some w => numN w
  | none => -1
theorem sl1Split_p (l : List UInt8) (c : UInt8) (hl : l.length ≤ 2000000) : PCall av 92 [pL l, .one (.pv (.int .u8 c.toNat))] (.val (.one (dSs (wordsL c l)))) := by
  refine pcall_of av_ok Tryd.func92 rfl Tryd.call92 Tryd.ntmps92 (congrArg Array.toList Tryd.results92) fun S => ?_; conv => whnf
  repeat' (first | (refine AWP.seq ?_) | (refine AWP.region av_ok ?_; conv => whnf) | (refine AWP.ret ?_; conv => whnf) | (refine AWP.skip ?_; conv => whnf) | (refine AWP.exit ?_; conv => whnf) | (refine AWP.block ?_; conv => whnf) | (refine AWP.cond ?_; conv => whnf) | (refine AB.tt ?_; conv => whnf) | (refine AB.ff ?_; conv => whnf) | (refine AB.ofT (by assumption) ?_; conv => whnf) | (refine AB.ofF (by assumption) ?_; conv => whnf) | (exact trivial) | (refine And.intro rfl ?_; conv => whnf) | (refine AB.mk (fun h => ?_) (fun h => ?_) <;> (conv => whnf)))
  refine AWP.loopS (fun s : Nat × Nat × List (List UInt8) => s.1 ≤ l.length + 1 ∧ s.2.2.length ≤ s.1 ∧ (s.1 ≤ l.length → s.2.1 ≤ s.1 ∧ c ∉ (l.take s.1).drop s.2.1 ∧ s.2.2 ++ wordsL c (l.drop s.2.1) = wordsL c l) ∧ (l.length < s.1 → s.2.2 = wordsL c l)) (8 :: [5, 6, 7, 9, 10, 11, 12, 13, 14, 15, 16, 17, 18, 19, 20, 21, 22, 23, 24, 25, 26, 27, 28, 29, 30, 31, 32, 33, 34]) (fun s => [(5, .one (.own 8)), (6, vI .i64 (s.2.1 : Int)), (7, vI .i64 (s.1 : Int))]) (fun s => [(8, .row 9 1 (s.2.2.map eS))]) (fun s => l.length + 1 - s.1) (0, 0, []) ⟨by simp, by simp, fun _ => ⟨by simp, by simp, by simp⟩, fun h => by simp at h⟩ ?_ (SubO.cons rfl SubO.nil) (fun s hR => ?_) <;> (conv => whnf)
  · repeat' (first | exact trivial | (refine And.intro rfl ?_; conv => whnf))
  · obtain ⟨i, f, d⟩ := s
    obtain ⟨hi, hd, h1, h2⟩ := hR
    simp only at hi hd h1 h2
    have h2' := Lib.hid h2
    have h1' := Lib.hid h1
    clear h1 h2
    repeat' (first | (refine AWP.seq ?_) | (refine AWP.region av_ok ?_; conv => whnf) | (refine AWP.ret ?_; conv => whnf) | (refine AWP.skip ?_; conv => whnf) | (refine AWP.exit ?_; conv => whnf) | (refine AWP.block ?_; conv => whnf) | (refine AWP.cond ?_; conv => whnf) | (refine AB.tt ?_; conv => whnf) | (refine AB.ff ?_; conv => whnf) | (refine AB.ofT (by assumption) ?_; conv => whnf) | (refine AB.ofF (by assumption) ?_; conv => whnf) | (have hlt : i < l.length := (by simp only [sz_dL, decide_eq_true_eq, decide_eq_false_iff_not, beq_iff_eq, beq_eq_false_iff_ne, List.length_map, Bool.not_eq_true', Bool.not_eq_false', ne_eq] at *; omega); refine ⟨i, l[i]'hlt, rfl, sget hlt, ?_⟩; conv => whnf) | (have hle : f ≤ i ∧ i ≤ l.length := (by have := h1'.out; have hi2 : i ≤ l.length := (by simp only [sz_dL, decide_eq_true_eq, decide_eq_false_iff_not, beq_iff_eq, beq_eq_false_iff_ne, List.length_map, Bool.not_eq_true', Bool.not_eq_false', ne_eq] at *; omega); exact ⟨(this hi2).1, hi2⟩); refine ⟨f, i, rfl, rfl, hle.1, (by rw [sz_dL]; exact hle.2), ?_⟩; conv => whnf) | (refine AW.i64 (by simp only [sz_dL, decide_eq_true_eq, decide_eq_false_iff_not, beq_iff_eq, beq_eq_false_iff_ne, List.length_map, Bool.not_eq_true', Bool.not_eq_false', ne_eq] at *; omega) (by simp only [sz_dL, decide_eq_true_eq, decide_eq_false_iff_not, beq_iff_eq, beq_eq_false_iff_ne, List.length_map, Bool.not_eq_true', Bool.not_eq_false', ne_eq] at *; omega) ?_; conv => whnf) | (refine all_len (by simp [eS]) ?_; conv => whnf) | (refine sz_app (by simp only [List.length_map, List.length_cons, List.length_nil]; omega) ?_; conv => whnf) | (exact trivial) | (refine And.intro rfl ?_; conv => whnf) | (refine AB.mk (fun h => ?_) (fun h => ?_) <;> (conv => whnf)))
    all_goals try simp only [sz_dL, decide_eq_true_eq, decide_eq_false_iff_not, beq_iff_eq, beq_eq_false_iff_ne, ne_eq] at *
    · have hie : i = l.length := by omega
      obtain ⟨a1, a2, a3⟩ := h1'.out (by omega)
      have hrow : d.map eS ++ [[AD.pv (.string ((⟨l.toArray⟩ : ByteArray).extract f i))]] = (d ++ [(l.take i).drop f]).map eS := by rw [extract_dL]; simp [eS]
      refine ANext.mk ⟨(i + 1, i + 1, d ++ [(l.take i).drop f]), ⟨by simp only; omega, by simp; omega, fun h => by simp only at h; omega, fun _ => ?_⟩, by simp only; omega, ?_, SubO.cons (congrArg some (congrArg (AO.row 9 1) hrow)) SubO.nil⟩
      · rw [← a3]
        subst hie
        rw [List.take_length] at a2 ⊢
        rw [words_one a2]
      · (conv => whnf); repeat' (first | exact trivial | (refine ⟨rfl, ?_⟩; conv => whnf))
    · have hc : l[i] = c := UInt8.toNat_inj.1 (by omega)
      obtain ⟨a1, a2, a3⟩ := h1'.out (by omega)
      have hrow : d.map eS ++ [[AD.pv (.string ((⟨l.toArray⟩ : ByteArray).extract f i))]] = (d ++ [(l.take i).drop f]).map eS := by rw [extract_dL]; simp [eS]
      have hw : wordsL c (l.drop f) = (l.take i).drop f :: wordsL c (l.drop (i + 1)) := by
        rw [take_drop_cons a1 hlt, hc, words_cat a2]
      refine ANext.mk ⟨(i + 1, i + 1, d ++ [(l.take i).drop f]), ⟨by simp only; omega, by simp; omega, fun _ => ⟨Nat.le_refl _, ?_, ?_⟩, fun h => by simp only at h; omega⟩, by simp only; omega, ?_, SubO.cons (congrArg some (congrArg (AO.row 9 1) hrow)) SubO.nil⟩
      · rw [List.drop_eq_nil_of_le (by simp <;> omega)]; simp
      · rw [← a3, hw]; simp
      · (conv => whnf); repeat' (first | exact trivial | (refine ⟨rfl, ?_⟩; conv => whnf))
    · have hc : l[i] ≠ c := fun e => h (by rw [e])
      obtain ⟨a1, a2, a3⟩ := h1'.out (by omega)
      refine ANext.mk ⟨(i + 1, f, d), ⟨by simp only; omega, by simp only; omega, fun _ => ⟨by simp only; omega, ?_, a3⟩, fun h => by simp only at h; omega⟩, by simp only; omega, ?_, SubO.cons rfl SubO.nil⟩
      · simp only
        rw [← List.take_append_getElem hlt, List.drop_append_of_le_length (by rw [List.length_take]; omega)]
        simp only [List.mem_append, List.mem_singleton, not_or]
        exact ⟨a2, fun e => hc e.symm⟩
      · (conv => whnf); repeat' (first | exact trivial | (refine ⟨rfl, ?_⟩; conv => whnf))
    · rw [h2'.out (by omega)]
theorem all_snoc_num {w : List UInt8} {k : Nat} (hk : k < w.length) : numV (w.take (k + 1)) = 10 * numV (w.take k) + (w[k].toNat - 48) := by
  rw [← List.take_append_getElem hk, numV_snoc]
theorem numV_take {w : List UInt8} {k : Nat} (hk : k ≤ 10) (h : (w.take k).all isDig = true) : numV (w.take k) < 10000000000 := by
  have h1 := numV_lt _ h
  have h2 : (w.take k).length ≤ 10 := by rw [List.length_take]; omega
  exact Nat.lt_of_lt_of_le h1 (Nat.pow_le_pow_right (by omega) h2)
theorem rI_is {a b : Int} (h : a = b) : AP.val (AP1.one (dI a)) = rI b := by rw [h]
theorem numN_no {w : List UInt8} (h : numOf w = none) : numN w = -1 := by unfold numN; rw [h]
theorem numN_yes {w : List UInt8} {n : Nat} (h : numOf w = some n) : numN w = n := by unfold numN; rw [h]
theorem numOf_not {w : List UInt8} (h : ∀ n, w = Lib.decDigits n → n ≤ 1000000000 → False) : numOf w = none := by
  cases e : numOf w with
  | none => rfl
  | some n => exact (h n (numOf_iff.1 e).1 (numOf_iff.1 e).2).elim
theorem itoa_nat (n : Nat) : Lib.itoa (n : Int) = Lib.decDigits n := by
  unfold Lib.itoa
  rw [if_neg (by omega)]; rfl
theorem sl32Number_p (w : List UInt8) (hw : w.length ≤ 2000000) : PCall av 103 [pL w] (rI (numN w)) := by
  refine pcall_of av_ok Tryd.func103 rfl Tryd.call103 Tryd.ntmps103 (congrArg Array.toList Tryd.results103) fun S => ?_; conv => whnf
  repeat' (first | (refine AWP.seq ?_) | (refine AWP.region av_ok ?_; conv => whnf) | (refine AWP.ret ?_; conv => whnf) | (refine AWP.skip ?_; conv => whnf) | (refine AWP.exit ?_; conv => whnf) | (refine AWP.block ?_; conv => whnf) | (refine AWP.cond ?_; conv => whnf) | (refine AB.tt ?_; conv => whnf) | (refine AB.ff ?_; conv => whnf) | (refine AB.ofT (by assumption) ?_; conv => whnf) | (refine AB.ofF (by assumption) ?_; conv => whnf) | (exact trivial) | (refine And.intro rfl ?_; conv => whnf) | (refine AB.mk (fun h => ?_) (fun h => ?_) <;> (conv => whnf)))
  · have h1 : w.length = 0 := (by simp only [sz_dL, decide_eq_true_eq, decide_eq_false_iff_not, beq_iff_eq, beq_eq_false_iff_ne, List.length_map, Bool.not_eq_true', Bool.not_eq_false', ne_eq] at *; omega)
    refine rI_is (numN_no (numOf_bad ?_)).symm
    rw [List.length_eq_zero_iff.1 h1]; rfl
  · have h1 : 10 < w.length := (by simp only [sz_dL, decide_eq_true_eq, decide_eq_false_iff_not, beq_iff_eq, beq_eq_false_iff_ne, List.length_map, Bool.not_eq_true', Bool.not_eq_false', ne_eq] at *; omega)
    refine rI_is (numN_no (numOf_bad ?_)).symm
    rw [← Bool.not_eq_true, digB_iff]
    rintro ⟨_, h2, _⟩
    omega
  · have h1 : 1 ≤ w.length ∧ w.length ≤ 10 := (by simp only [sz_dL, decide_eq_true_eq, decide_eq_false_iff_not, beq_iff_eq, beq_eq_false_iff_ne, List.length_map, Bool.not_eq_true', Bool.not_eq_false', ne_eq] at *; omega)
    clear h
    refine AWP.loopS (fun k : Nat => k ≤ w.length ∧ (w.take k).all isDig = true) [2, 3, 4, 13, 14, 15, 16, 17, 18, 19, 20, 21, 22, 23, 24, 25, 26, 27, 28, 29, 30, 31, 32, 33, 34, 35, 36] (fun k => [(3, vI .i64 (numV (w.take k) : Int)), (4, vI .i64 (k : Int))]) (fun k => []) (fun k => w.length - k) 0 ⟨by omega, rfl⟩ ?_ SubO.nil (fun k hR => ?_) <;> (conv => whnf)
    · repeat' (first | exact trivial | (refine And.intro rfl ?_; conv => whnf))
    · obtain ⟨hk, hall⟩ := hR
      have hb := numV_take (by omega) hall
      have no : ∀ (hk : k < w.length), isDig w[k] = false → numN w = -1 := fun hk h => by
        refine numN_no (numOf_bad ?_)
        rw [← Bool.not_eq_true]
        intro h0
        have := (List.all_eq_true.1 (digB_iff.1 h0).2.2.2) _ (List.getElem_mem hk)
        rw [h] at this; cases this
      have no' := Lib.hid no
      clear no
      have hall' := Lib.hid hall
      clear hall
      repeat' (first | (refine AWP.seq ?_) | (refine AWP.region av_ok ?_; conv => whnf) | (refine AWP.ret ?_; conv => whnf) | (refine AWP.skip ?_; conv => whnf) | (refine AWP.exit ?_; conv => whnf) | (refine AWP.block ?_; conv => whnf) | (refine AWP.cond ?_; conv => whnf) | (refine AB.tt ?_; conv => whnf) | (refine AB.ff ?_; conv => whnf) | (refine AB.ofT (by assumption) ?_; conv => whnf) | (refine AB.ofF (by assumption) ?_; conv => whnf) | (have hlt : k < w.length := (by simp only [sz_dL, decide_eq_true_eq, decide_eq_false_iff_not, beq_iff_eq, beq_eq_false_iff_ne, List.length_map, Bool.not_eq_true', Bool.not_eq_false', ne_eq] at *; omega); refine ⟨k, w[k]'hlt, rfl, sget hlt, ?_⟩; conv => whnf) | (refine ACall.pure (sl1Int_p (numV (w.take k)) (by omega)) rfl ?_; conv => whnf) | (refine AW.u8 (by simp only [sz_dL, decide_eq_true_eq, decide_eq_false_iff_not, beq_iff_eq, beq_eq_false_iff_ne, List.length_map, Bool.not_eq_true', Bool.not_eq_false', ne_eq] at *; omega) (by simp only [sz_dL, decide_eq_true_eq, decide_eq_false_iff_not, beq_iff_eq, beq_eq_false_iff_ne, List.length_map, Bool.not_eq_true', Bool.not_eq_false', ne_eq] at *; omega) ?_; conv => whnf) | (refine AW.i64 (by simp only [sz_dL, decide_eq_true_eq, decide_eq_false_iff_not, beq_iff_eq, beq_eq_false_iff_ne, List.length_map, Bool.not_eq_true', Bool.not_eq_false', ne_eq] at *; omega) (by simp only [sz_dL, decide_eq_true_eq, decide_eq_false_iff_not, beq_iff_eq, beq_eq_false_iff_ne, List.length_map, Bool.not_eq_true', Bool.not_eq_false', ne_eq] at *; omega) ?_; conv => whnf) | (exact trivial) | (refine And.intro rfl ?_; conv => whnf) | (refine AB.mk (fun h => ?_) (fun h => ?_) <;> (conv => whnf)))
      all_goals try simp only [sz_dL, decide_eq_true_eq, decide_eq_false_iff_not, beq_iff_eq, beq_eq_false_iff_ne, ne_eq] at *
      · refine rI_is (no'.out hlt ?_).symm
        rw [← Bool.not_eq_true, isDig_iff]; omega
      · refine rI_is (no'.out hlt ?_).symm
        rw [← Bool.not_eq_true, isDig_iff]; omega
      · have e : 10 * (numV (w.take k) : Int) + ((w[k].toNat : Int) - 48) = (numV (w.take (k + 1)) : Int) := by rw [all_snoc_num hlt]; omega
        refine ANext.mk ⟨k + 1, ⟨hlt, all_take hlt hall'.out (isDig_iff.2 (by omega))⟩, by omega, ?_, SubO.nil⟩
        (conv => whnf); repeat' (first | exact trivial | (refine ⟨rfl, ?_⟩; conv => whnf) | (refine And.intro (congrArg (vI .i64) e) ?_; conv => whnf))
      · have hkl : k = w.length := by omega
        subst hkl
        rw [List.take_length] at h
        refine rI_is (numN_no (numOf_not fun n h3 h4 => ?_)).symm
        have := (decDigits_facts n).2.1
        rw [← h3] at this
        omega
      · have hkl : k = w.length := by omega
        subst hkl
        rename_i _ h5 _
        rw [List.take_length, itoa_nat, str_dec] at h5
        refine rI_is (numN_no (numOf_not fun n h3 h4 => ?_)).symm
        have := (decDigits_facts n).2.1
        rw [← h3] at this
        rw [this, ← h3] at h5
        simp at h5
      · have hkl : k = w.length := by omega
        subst hkl
        rename_i _ h5 _
        rw [List.take_length] at h
        rw [List.take_length, itoa_nat, str_dec] at h5
        have h6 : Lib.decDigits (numV w) = w := by simpa using h5
        rw [List.take_length]
        exact rI_is (numN_yes (numOf_iff.2 ⟨h6.symm, by omega⟩)).symm
theorem sl32At_p (l : List (List UInt8)) (i : Nat) (hl : ∀ w ∈ l, w.length ≤ 2000000) : PCall av 93 [.one (dSs l), pI i] (rI (atN l i)) := by
  refine pcall_of av_ok Tryd.func93 rfl Tryd.call93 Tryd.ntmps93 (congrArg Array.toList Tryd.results93) fun S => ?_; conv => whnf
  repeat' (first | (refine AWP.seq ?_) | (refine AWP.region av_ok ?_; conv => whnf) | (refine AWP.ret ?_; conv => whnf) | (refine AWP.skip ?_; conv => whnf) | (refine AWP.exit ?_; conv => whnf) | (refine AWP.block ?_; conv => whnf) | (refine AWP.cond ?_; conv => whnf) | (refine AB.tt ?_; conv => whnf) | (refine AB.ff ?_; conv => whnf) | (refine AB.ofT (by assumption) ?_; conv => whnf) | (refine AB.ofF (by assumption) ?_; conv => whnf) | (refine AIx.mapF (by simp only [decide_eq_true_eq, decide_eq_false_iff_not, List.length_map, Bool.not_eq_true', Bool.not_eq_false'] at *; omega) (fun hlt => ?_); conv => whnf) | (refine ACall.pure (sl32Number_p l[i] (hl _ (List.getElem_mem hlt))) rfl ?_; conv => whnf) | (exact trivial) | (refine And.intro rfl ?_; conv => whnf) | (refine AB.mk (fun h => ?_) (fun h => ?_) <;> (conv => whnf)))
  · have : l.length ≤ i := (by simp only [decide_eq_true_eq, decide_eq_false_iff_not, List.length_map, Bool.not_eq_true', Bool.not_eq_false'] at *; omega)
    unfold atN
    rw [List.getElem?_eq_none this]
  · unfold atN
    rw [List.getElem?_eq_getElem hlt]
end Go.Proofs.YtlhanpkfnhnegaaDoor
