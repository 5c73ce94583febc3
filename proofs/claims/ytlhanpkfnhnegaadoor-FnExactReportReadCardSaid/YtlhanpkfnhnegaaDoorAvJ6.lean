/- Joined by join.py: AvW6 AvW7 AvW8 AvW9 AvWA -/
import Derived.Test.YtlhanpkfnhnegaaDoorAvJ5
set_option linter.unusedVariables false
set_option linter.unusedSimpArgs false
set_option maxRecDepth 100000
/- TextOp of the program. -/
namespace Go.Proofs.YtlhanpkfnhnegaaDoor
open Go.RowKit

def Sc.start (l : List UInt8) : Sc := ⟨wordsL 32 l, false, 0⟩
theorem start_ok {l : List UInt8} (hl : l.length ≤ 2000000) : (Sc.start l).ok := ⟨words_no, by rw [Sc.start, join_words]; exact hl⟩
theorem words_isEmpty (c : UInt8) (l : List UInt8) : (wordsL c l).isEmpty = false := by
  obtain ⟨w, ws, e⟩ := wordsL_split (c := c) (s := l)
  rw [e]; rfl
abbrev startO (l : List UInt8) : AO := .cells 118 [.d (dL l), .d (dB false), .d (dB false), .d (dI 0)]
theorem start_o (l : List UInt8) : (Sc.start l).o = startO l := by
  simp only [Sc.o, Sc.start, join_words, words_isEmpty]
abbrev DOp.dz (o : DOp) : List AD := [dI o.kind, dI o.a, dI o.b, dI o.c, dI o.d]
def Sc.over (s : Sc) : Bool := s.ws.isEmpty && !s.bad
abbrev opZ : DOp := ⟨0, 0, 0, 0, 0⟩
noncomputable def iTextOpL (l : List UInt8) : DOp × Bool := if (scOp (.start l)).2.over && opOk (scOp (.start l)).1 then ((scOp (.start l)).1, true) else (opZ, false)
theorem op_start (l : List UInt8) (hl : l.length ≤ 2000000) : MCall av 94 [.one (.ref 1000 0 0 0)] [(1000, startO l)] [(1000, (scOp (.start l)).2.o)] [1000] (.val (.agg (scOp (.start l)).1.cs)) := by
  have := op_m (.start l) (start_ok hl)
  rw [start_o] at this
  exact this
theorem iTextOp_p (l : List UInt8) (hl : l.length ≤ 2000000) : PCall av 35 [pL l] (.tup [.agg (iTextOpL l).1.dz, .one (dB (iTextOpL l).2)]) := by
  have om := op_start l hl
  have vm := over_m (scOp (.start l)).2
  have hov : (scOp (.start l)).2.over = ((scOp (.start l)).2.ws.isEmpty && !(scOp (.start l)).2.bad) := rfl
  rw [← hov] at vm
  obtain ⟨o, t, e⟩ : ∃ o t, scOp (.start l) = (o, t) := ⟨_, _, rfl⟩
  unfold iTextOpL
  rw [e] at om vm ⊢
  simp only at om vm ⊢
  clear hov e
  cases h1 : t.over with
  | false =>
    have h1' : (!t.over) = true := by rw [h1]; rfl
    simp only [Bool.false_and, Bool.false_eq_true, if_false]
    refine pcall_of av_ok Tryd.func35 rfl Tryd.call35 Tryd.ntmps35 (congrArg Array.toList Tryd.results35) fun S => ?_; conv => whnf
    repeat' (first | (refine AWP.seq ?_) | (refine AWP.region av_ok ?_; conv => whnf) | (refine AWP.ret ?_; conv => whnf) | (refine AWP.skip ?_; conv => whnf) | (refine AWP.exit ?_; conv => whnf) | (refine AWP.block ?_; conv => whnf) | (refine AWP.cond ?_; conv => whnf) | (refine AB.tt ?_; conv => whnf) | (refine AB.ff ?_; conv => whnf) | (refine AB.ofT (by assumption) ?_; conv => whnf) | (refine AB.ofF (by assumption) ?_; conv => whnf) | (refine ACall.upd om 8 rfl rfl rfl ?_; conv => whnf) | (refine ACall.upd vm 8 rfl rfl rfl ?_; conv => whnf) | (exact trivial) | (refine And.intro rfl ?_; conv => whnf) | (refine AB.mk (fun h => ?_) (fun h => ?_) <;> (conv => whnf)) | (with_reducible_and_instances rfl) | (exact (rfl : AP.tup _ = AP.tup _)))
  | true =>
    have h1' : (!t.over) = false := by rw [h1]; rfl
    cases h2 : opOk o with
    | false =>
      have h2' : (!opOk o) = true := by rw [h2]; rfl
      simp only [Bool.and_false, Bool.false_eq_true, if_false]
      refine pcall_of av_ok Tryd.func35 rfl Tryd.call35 Tryd.ntmps35 (congrArg Array.toList Tryd.results35) fun S => ?_; conv => whnf
      repeat' (first | (refine AWP.seq ?_) | (refine AWP.region av_ok ?_; conv => whnf) | (refine AWP.ret ?_; conv => whnf) | (refine AWP.skip ?_; conv => whnf) | (refine AWP.exit ?_; conv => whnf) | (refine AWP.block ?_; conv => whnf) | (refine AWP.cond ?_; conv => whnf) | (refine AB.tt ?_; conv => whnf) | (refine AB.ff ?_; conv => whnf) | (refine AB.ofT (by assumption) ?_; conv => whnf) | (refine AB.ofF (by assumption) ?_; conv => whnf) | (refine ACall.upd om 8 rfl rfl rfl ?_; conv => whnf) | (refine ACall.upd vm 8 rfl rfl rfl ?_; conv => whnf) | (refine ACall.pure (iOpOk_p o) rfl ?_; conv => whnf) | (exact trivial) | (refine And.intro rfl ?_; conv => whnf) | (refine AB.mk (fun h => ?_) (fun h => ?_) <;> (conv => whnf)) | (with_reducible_and_instances rfl) | (exact (rfl : AP.tup _ = AP.tup _)))
    | true =>
      have h2' : (!opOk o) = false := by rw [h2]; rfl
      simp only [Bool.and_self, if_true]
      refine pcall_of av_ok Tryd.func35 rfl Tryd.call35 Tryd.ntmps35 (congrArg Array.toList Tryd.results35) fun S => ?_; conv => whnf
      repeat' (first | (refine AWP.seq ?_) | (refine AWP.region av_ok ?_; conv => whnf) | (refine AWP.ret ?_; conv => whnf) | (refine AWP.skip ?_; conv => whnf) | (refine AWP.exit ?_; conv => whnf) | (refine AWP.block ?_; conv => whnf) | (refine AWP.cond ?_; conv => whnf) | (refine AB.tt ?_; conv => whnf) | (refine AB.ff ?_; conv => whnf) | (refine AB.ofT (by assumption) ?_; conv => whnf) | (refine AB.ofF (by assumption) ?_; conv => whnf) | (refine ACall.upd om 8 rfl rfl rfl ?_; conv => whnf) | (refine ACall.upd vm 8 rfl rfl rfl ?_; conv => whnf) | (refine ACall.pure (iOpOk_p o) rfl ?_; conv => whnf) | (exact trivial) | (refine And.intro rfl ?_; conv => whnf) | (refine AB.mk (fun h => ?_) (fun h => ?_) <;> (conv => whnf)) | (with_reducible_and_instances rfl) | (exact (rfl : AP.tup _ = AP.tup _)))
end Go.Proofs.YtlhanpkfnhnegaaDoor
/- The reference's words and numbers. -/
namespace Go.Proofs.YtlhanpkfnhnegaaDoor
open Go.RowKit

theorem extract_dL (l : List UInt8) (a b : Nat) : (⟨l.toArray⟩ : ByteArray).extract a b = ⟨((l.take b).drop a).toArray⟩ := by
  rw [Lib.extract_eq]
  simp only [List.toList_toArray]
  rw [List.drop_take]
theorem take_drop_cons {l : List UInt8} {f i : Nat} (hf : f ≤ i) (hi : i < l.length) : l.drop f = (l.take i).drop f ++ l[i] :: l.drop (i + 1) := by
  conv => lhs; rw [← List.take_append_drop i l]
  rw [List.drop_append_of_le_length (by rw [List.length_take]; omega), List.drop_eq_getElem_cons hi]
theorem AW.u8 {n : Int} {K : Int → Prop} (h0 : 0 ≤ n) (h1 : n ≤ 255) (h : K n) : AW .u8 n K := ⟨n, by rw [IntKind.wrap_u8]; omega, h⟩
def numN (w : List UInt8) : Int := match numOf w with
  | some n => n
  | none => -1
def atN (l : List (List UInt8)) (i : Nat) : Int := match l[i]? with
  | some w => numN w
  | none => -1
theorem sl1Split_p (l : List UInt8) (c : UInt8) (hl : l.length ≤ 2000000) : PCall av 92 [pL l, .one (.pv (.int .u8 c.toNat))] (.val (.one (dSs (wordsL c l)))) := by
  refine pcall_of av_ok Tryd.func92 rfl Tryd.call92 Tryd.ntmps92 (congrArg Array.toList Tryd.results92) fun S => ?_; conv => whnf
  repeat' (first | (refine AWP.seq ?_) | (refine AWP.region av_ok ?_; conv => whnf) | (refine AWP.ret ?_; conv => whnf) | (refine AWP.skip ?_; conv => whnf) | (refine AWP.exit ?_; conv => whnf) | (refine AWP.block ?_; conv => whnf) | (refine AWP.cond ?_; conv => whnf) | (refine AB.tt ?_; conv => whnf) | (refine AB.ff ?_; conv => whnf) | (refine AB.ofT (by assumption) ?_; conv => whnf) | (refine AB.ofF (by assumption) ?_; conv => whnf) | (exact trivial) | (refine And.intro rfl ?_; conv => whnf) | (refine AB.mk (fun h => ?_) (fun h => ?_) <;> (conv => whnf)) | (with_reducible_and_instances rfl) | (exact (rfl : AP.tup _ = AP.tup _)))
  refine AWP.loopS (fun s : Nat × Nat × List (List UInt8) => s.1 ≤ l.length + 1 ∧ s.2.2.length ≤ s.1 ∧ (s.1 ≤ l.length → s.2.1 ≤ s.1 ∧ c ∉ (l.take s.1).drop s.2.1 ∧ s.2.2 ++ wordsL c (l.drop s.2.1) = wordsL c l) ∧ (l.length < s.1 → s.2.2 = wordsL c l)) (8 :: [5, 6, 7, 9, 10, 11, 12, 13, 14, 15, 16, 17, 18, 19, 20, 21, 22, 23, 24, 25, 26, 27, 28, 29, 30, 31, 32, 33, 34]) (fun s => [(5, .one (.own 8)), (6, vI .i64 (s.2.1 : Int)), (7, vI .i64 (s.1 : Int))]) (fun s => [(8, .row 9 1 (s.2.2.map eS))]) (fun s => l.length + 1 - s.1) (0, 0, []) ⟨by simp, by simp, fun _ => ⟨by simp, by simp, by simp⟩, fun h => by simp at h⟩ ?_ (SubO.cons rfl SubO.nil) (fun s hR => ?_) <;> (conv => whnf)
  · repeat' (first | exact trivial | (refine And.intro rfl ?_; conv => whnf))
  · obtain ⟨i, f, d⟩ := s
    obtain ⟨hi, hd, h1, h2⟩ := hR
    simp only at hi hd h1 h2
    have h2' := Lib.hid h2
    have h1' := Lib.hid h1
    clear h1 h2
    repeat' (first | (refine AWP.seq ?_) | (refine AWP.region av_ok ?_; conv => whnf) | (refine AWP.ret ?_; conv => whnf) | (refine AWP.skip ?_; conv => whnf) | (refine AWP.exit ?_; conv => whnf) | (refine AWP.block ?_; conv => whnf) | (refine AWP.cond ?_; conv => whnf) | (refine AB.tt ?_; conv => whnf) | (refine AB.ff ?_; conv => whnf) | (refine AB.ofT (by assumption) ?_; conv => whnf) | (refine AB.ofF (by assumption) ?_; conv => whnf) | (have hlt : i < l.length := (by simp only [sz_dL, decide_eq_true_eq, decide_eq_false_iff_not, beq_iff_eq, beq_eq_false_iff_ne, List.length_map, Bool.not_eq_true', Bool.not_eq_false', ne_eq] at *; omega); refine ⟨i, l[i]'hlt, rfl, sget hlt, ?_⟩; conv => whnf) | (have hle : f ≤ i ∧ i ≤ l.length := (by have := h1'.out; have hi2 : i ≤ l.length := (by simp only [sz_dL, decide_eq_true_eq, decide_eq_false_iff_not, beq_iff_eq, beq_eq_false_iff_ne, List.length_map, Bool.not_eq_true', Bool.not_eq_false', ne_eq] at *; omega); exact ⟨(this hi2).1, hi2⟩); refine ⟨f, i, rfl, rfl, hle.1, (by rw [sz_dL]; exact hle.2), ?_⟩; conv => whnf) | (refine AW.i64 (by simp only [sz_dL, decide_eq_true_eq, decide_eq_false_iff_not, beq_iff_eq, beq_eq_false_iff_ne, List.length_map, Bool.not_eq_true', Bool.not_eq_false', ne_eq] at *; omega) (by simp only [sz_dL, decide_eq_true_eq, decide_eq_false_iff_not, beq_iff_eq, beq_eq_false_iff_ne, List.length_map, Bool.not_eq_true', Bool.not_eq_false', ne_eq] at *; omega) ?_; conv => whnf) | (refine all_len (by simp [eS]) ?_; conv => whnf) | (refine sz_app (by simp only [List.length_map, List.length_cons, List.length_nil]; omega) ?_; conv => whnf) | (exact trivial) | (refine And.intro rfl ?_; conv => whnf) | (refine AB.mk (fun h => ?_) (fun h => ?_) <;> (conv => whnf)) | (with_reducible_and_instances rfl) | (exact (rfl : AP.tup _ = AP.tup _)))
    all_goals try simp only [sz_dL, decide_eq_true_eq, decide_eq_false_iff_not, beq_iff_eq, beq_eq_false_iff_ne, ne_eq] at *
    · have hie : i = l.length := by omega
      obtain ⟨a1, a2, a3⟩ := h1'.out (by omega)
      have hrow : d.map eS ++ [[AD.pv (.string ((⟨l.toArray⟩ : ByteArray).extract f i))]] = (d ++ [(l.take i).drop f]).map eS := by rw [extract_dL]; simp [eS]
      refine ANext.mk ⟨(i + 1, i + 1, d ++ [(l.take i).drop f]), ⟨by simp only; omega, by simp; omega, fun h => by simp only at h; omega, fun _ => ?_⟩, by simp only; omega, ?_, SubO.cons (congrArg some (congrArg (AO.row 9 1) hrow)) SubO.nil⟩
      · rw [← a3]
        subst hie
        rw [List.take_length] at a2 ⊢
        rw [words_one a2]
      · (conv => whnf); repeat' (first | exact trivial | (refine ⟨rfl, ?_⟩; conv => whnf))
    · have hc : l[i] = c := UInt8.toNat_inj.1 (by omega)
      obtain ⟨a1, a2, a3⟩ := h1'.out (by omega)
      have hrow : d.map eS ++ [[AD.pv (.string ((⟨l.toArray⟩ : ByteArray).extract f i))]] = (d ++ [(l.take i).drop f]).map eS := by rw [extract_dL]; simp [eS]
      have hw : wordsL c (l.drop f) = (l.take i).drop f :: wordsL c (l.drop (i + 1)) := by
        rw [take_drop_cons a1 hlt, hc, words_cat a2]
      refine ANext.mk ⟨(i + 1, i + 1, d ++ [(l.take i).drop f]), ⟨by simp only; omega, by simp; omega, fun _ => ⟨Nat.le_refl _, ?_, ?_⟩, fun h => by simp only at h; omega⟩, by simp only; omega, ?_, SubO.cons (congrArg some (congrArg (AO.row 9 1) hrow)) SubO.nil⟩
      · rw [List.drop_eq_nil_of_le (by simp <;> omega)]; simp
      · rw [← a3, hw]; simp
      · (conv => whnf); repeat' (first | exact trivial | (refine ⟨rfl, ?_⟩; conv => whnf))
    · have hc : l[i] ≠ c := fun e => h (by rw [e])
      obtain ⟨a1, a2, a3⟩ := h1'.out (by omega)
      refine ANext.mk ⟨(i + 1, f, d), ⟨by simp only; omega, by simp only; omega, fun _ => ⟨by simp only; omega, ?_, a3⟩, fun h => by simp only at h; omega⟩, by simp only; omega, ?_, SubO.cons rfl SubO.nil⟩
      · simp only
        rw [← List.take_append_getElem hlt, List.drop_append_of_le_length (by rw [List.length_take]; omega)]
        simp only [List.mem_append, List.mem_singleton, not_or]
        exact ⟨a2, fun e => hc e.symm⟩
      · (conv => whnf); repeat' (first | exact trivial | (refine ⟨rfl, ?_⟩; conv => whnf))
    · rw [h2'.out (by omega)]
theorem all_snoc_num {w : List UInt8} {k : Nat} (hk : k < w.length) : numV (w.take (k + 1)) = 10 * numV (w.take k) + (w[k].toNat - 48) := by
  rw [← List.take_append_getElem hk, numV_snoc]
theorem numV_take {w : List UInt8} {k : Nat} (hk : k ≤ 10) (h : (w.take k).all isDig = true) : numV (w.take k) < 10000000000 := by
  have h1 := numV_lt _ h
  have h2 : (w.take k).length ≤ 10 := by rw [List.length_take]; omega
  exact Nat.lt_of_lt_of_le h1 (Nat.pow_le_pow_right (by omega) h2)
theorem rI_is {a b : Int} (h : a = b) : AP.val (AP1.one (dI a)) = rI b := by rw [h]
theorem numN_no {w : List UInt8} (h : numOf w = none) : numN w = -1 := by unfold numN; rw [h]
theorem numN_yes {w : List UInt8} {n : Nat} (h : numOf w = some n) : numN w = n := by unfold numN; rw [h]
theorem numOf_not {w : List UInt8} (h : ∀ n, w = Lib.decDigits n → n ≤ 1000000000 → False) : numOf w = none := by
  cases e : numOf w with
  | none => rfl
  | some n => exact (h n (numOf_iff.1 e).1 (numOf_iff.1 e).2).elim
theorem itoa_nat (n : Nat) : Lib.itoa (n : Int) = Lib.decDigits n := by
  unfold Lib.itoa
  rw [if_neg (by omega)]; rfl
theorem sl32Number_p (w : List UInt8) (hw : w.length ≤ 2000000) : PCall av 103 [pL w] (rI (numN w)) := by
  refine pcall_of av_ok Tryd.func103 rfl Tryd.call103 Tryd.ntmps103 (congrArg Array.toList Tryd.results103) fun S => ?_; conv => whnf
  repeat' (first | (refine AWP.seq ?_) | (refine AWP.region av_ok ?_; conv => whnf) | (refine AWP.ret ?_; conv => whnf) | (refine AWP.skip ?_; conv => whnf) | (refine AWP.exit ?_; conv => whnf) | (refine AWP.block ?_; conv => whnf) | (refine AWP.cond ?_; conv => whnf) | (refine AB.tt ?_; conv => whnf) | (refine AB.ff ?_; conv => whnf) | (refine AB.ofT (by assumption) ?_; conv => whnf) | (refine AB.ofF (by assumption) ?_; conv => whnf) | (exact trivial) | (refine And.intro rfl ?_; conv => whnf) | (refine AB.mk (fun h => ?_) (fun h => ?_) <;> (conv => whnf)) | (with_reducible_and_instances rfl) | (exact (rfl : AP.tup _ = AP.tup _)))
  · have h1 : w.length = 0 := (by simp only [sz_dL, decide_eq_true_eq, decide_eq_false_iff_not, beq_iff_eq, beq_eq_false_iff_ne, List.length_map, Bool.not_eq_true', Bool.not_eq_false', ne_eq] at *; omega)
    refine rI_is (numN_no (numOf_bad ?_)).symm
    rw [List.length_eq_zero_iff.1 h1]; rfl
  · have h1 : 10 < w.length := (by simp only [sz_dL, decide_eq_true_eq, decide_eq_false_iff_not, beq_iff_eq, beq_eq_false_iff_ne, List.length_map, Bool.not_eq_true', Bool.not_eq_false', ne_eq] at *; omega)
    refine rI_is (numN_no (numOf_bad ?_)).symm
    rw [← Bool.not_eq_true, digB_iff]
    rintro ⟨_, h2, _⟩
    omega
  · have h1 : 1 ≤ w.length ∧ w.length ≤ 10 := (by simp only [sz_dL, decide_eq_true_eq, decide_eq_false_iff_not, beq_iff_eq, beq_eq_false_iff_ne, List.length_map, Bool.not_eq_true', Bool.not_eq_false', ne_eq] at *; omega)
    clear h
    refine AWP.loopS (fun k : Nat => k ≤ w.length ∧ (w.take k).all isDig = true) [2, 3, 4, 13, 14, 15, 16, 17, 18, 19, 20, 21, 22, 23, 24, 25, 26, 27, 28, 29, 30, 31, 32, 33, 34, 35, 36] (fun k => [(3, vI .i64 (numV (w.take k) : Int)), (4, vI .i64 (k : Int))]) (fun k => []) (fun k => w.length - k) 0 ⟨by omega, rfl⟩ ?_ SubO.nil (fun k hR => ?_) <;> (conv => whnf)
    · repeat' (first | exact trivial | (refine And.intro rfl ?_; conv => whnf))
    · obtain ⟨hk, hall⟩ := hR
      have hb := numV_take (by omega) hall
      have no : ∀ (hk : k < w.length), isDig w[k] = false → numN w = -1 := fun hk h => by
        refine numN_no (numOf_bad ?_)
        rw [← Bool.not_eq_true]
        intro h0
        have := (List.all_eq_true.1 (digB_iff.1 h0).2.2.2) _ (List.getElem_mem hk)
        rw [h] at this; cases this
      have no' := Lib.hid no
      clear no
      have hall' := Lib.hid hall
      clear hall
      repeat' (first | (refine AWP.seq ?_) | (refine AWP.region av_ok ?_; conv => whnf) | (refine AWP.ret ?_; conv => whnf) | (refine AWP.skip ?_; conv => whnf) | (refine AWP.exit ?_; conv => whnf) | (refine AWP.block ?_; conv => whnf) | (refine AWP.cond ?_; conv => whnf) | (refine AB.tt ?_; conv => whnf) | (refine AB.ff ?_; conv => whnf) | (refine AB.ofT (by assumption) ?_; conv => whnf) | (refine AB.ofF (by assumption) ?_; conv => whnf) | (have hlt : k < w.length := (by simp only [sz_dL, decide_eq_true_eq, decide_eq_false_iff_not, beq_iff_eq, beq_eq_false_iff_ne, List.length_map, Bool.not_eq_true', Bool.not_eq_false', ne_eq] at *; omega); refine ⟨k, w[k]'hlt, rfl, sget hlt, ?_⟩; conv => whnf) | (refine ACall.pure (sl1Int_p (numV (w.take k)) (by omega)) rfl ?_; conv => whnf) | (refine AW.u8 (by simp only [sz_dL, decide_eq_true_eq, decide_eq_false_iff_not, beq_iff_eq, beq_eq_false_iff_ne, List.length_map, Bool.not_eq_true', Bool.not_eq_false', ne_eq] at *; omega) (by simp only [sz_dL, decide_eq_true_eq, decide_eq_false_iff_not, beq_iff_eq, beq_eq_false_iff_ne, List.length_map, Bool.not_eq_true', Bool.not_eq_false', ne_eq] at *; omega) ?_; conv => whnf) | (refine AW.i64 (by simp only [sz_dL, decide_eq_true_eq, decide_eq_false_iff_not, beq_iff_eq, beq_eq_false_iff_ne, List.length_map, Bool.not_eq_true', Bool.not_eq_false', ne_eq] at *; omega) (by simp only [sz_dL, decide_eq_true_eq, decide_eq_false_iff_not, beq_iff_eq, beq_eq_false_iff_ne, List.length_map, Bool.not_eq_true', Bool.not_eq_false', ne_eq] at *; omega) ?_; conv => whnf) | (exact trivial) | (refine And.intro rfl ?_; conv => whnf) | (refine AB.mk (fun h => ?_) (fun h => ?_) <;> (conv => whnf)) | (with_reducible_and_instances rfl) | (exact (rfl : AP.tup _ = AP.tup _)))
      all_goals try simp only [sz_dL, decide_eq_true_eq, decide_eq_false_iff_not, beq_iff_eq, beq_eq_false_iff_ne, ne_eq] at *
      · refine rI_is (no'.out hlt ?_).symm
        rw [← Bool.not_eq_true, isDig_iff]; omega
      · refine rI_is (no'.out hlt ?_).symm
        rw [← Bool.not_eq_true, isDig_iff]; omega
      · have e : 10 * (numV (w.take k) : Int) + ((w[k].toNat : Int) - 48) = (numV (w.take (k + 1)) : Int) := by rw [all_snoc_num hlt]; omega
        refine ANext.mk ⟨k + 1, ⟨hlt, all_take hlt hall'.out (isDig_iff.2 (by omega))⟩, by omega, ?_, SubO.nil⟩
        (conv => whnf); repeat' (first | exact trivial | (refine ⟨rfl, ?_⟩; conv => whnf) | (refine And.intro (congrArg (vI .i64) e) ?_; conv => whnf))
      · have hkl : k = w.length := by omega
        subst hkl
        rw [List.take_length] at h
        refine rI_is (numN_no (numOf_not fun n h3 h4 => ?_)).symm
        have := (decDigits_facts n).2.1
        rw [← h3] at this
        omega
      · have hkl : k = w.length := by omega
        subst hkl
        rename_i _ h5 _
        rw [List.take_length, itoa_nat, str_dec] at h5
        refine rI_is (numN_no (numOf_not fun n h3 h4 => ?_)).symm
        have := (decDigits_facts n).2.1
        rw [← h3] at this
        rw [this, ← h3] at h5
        simp at h5
      · have hkl : k = w.length := by omega
        subst hkl
        rename_i _ h5 _
        rw [List.take_length] at h
        rw [List.take_length, itoa_nat, str_dec] at h5
        have h6 : Lib.decDigits (numV w) = w := by simpa using h5
        rw [List.take_length]
        exact rI_is (numN_yes (numOf_iff.2 ⟨h6.symm, by omega⟩)).symm
theorem sl32At_p (l : List (List UInt8)) (i : Nat) (hl : ∀ w ∈ l, w.length ≤ 2000000) : PCall av 93 [.one (dSs l), pI i] (rI (atN l i)) := by
  refine pcall_of av_ok Tryd.func93 rfl Tryd.call93 Tryd.ntmps93 (congrArg Array.toList Tryd.results93) fun S => ?_; conv => whnf
  repeat' (first | (refine AWP.seq ?_) | (refine AWP.region av_ok ?_; conv => whnf) | (refine AWP.ret ?_; conv => whnf) | (refine AWP.skip ?_; conv => whnf) | (refine AWP.exit ?_; conv => whnf) | (refine AWP.block ?_; conv => whnf) | (refine AWP.cond ?_; conv => whnf) | (refine AB.tt ?_; conv => whnf) | (refine AB.ff ?_; conv => whnf) | (refine AB.ofT (by assumption) ?_; conv => whnf) | (refine AB.ofF (by assumption) ?_; conv => whnf) | (refine AIx.mapF (by simp only [decide_eq_true_eq, decide_eq_false_iff_not, List.length_map, Bool.not_eq_true', Bool.not_eq_false'] at *; omega) (fun hlt => ?_); conv => whnf) | (refine ACall.pure (sl32Number_p l[i] (hl _ (List.getElem_mem hlt))) rfl ?_; conv => whnf) | (exact trivial) | (refine And.intro rfl ?_; conv => whnf) | (refine AB.mk (fun h => ?_) (fun h => ?_) <;> (conv => whnf)) | (with_reducible_and_instances rfl) | (exact (rfl : AP.tup _ = AP.tup _)))
  · have : l.length ≤ i := (by simp only [decide_eq_true_eq, decide_eq_false_iff_not, List.length_map, Bool.not_eq_true', Bool.not_eq_false'] at *; omega)
    unfold atN
    rw [List.getElem?_eq_none this]
  · unfold atN
    rw [List.getElem?_eq_getElem hlt]
end Go.Proofs.YtlhanpkfnhnegaaDoor
/- TextOp of the reference. -/
namespace Go.Proofs.YtlhanpkfnhnegaaDoor
open Go.RowKit

/-- The n-th number of an operation's words. -/
def wNum (ws : List (List UInt8)) (n j : Nat) : Int := if j < n then atN ws (j + 1) else 0
def sOpOf (ws : List (List UInt8)) : DOp := ⟨opKind (ws.headD []), wNum ws (opManyN (opKind (ws.headD []))) 0, wNum ws (opManyN (opKind (ws.headD []))) 1, wNum ws (opManyN (opKind (ws.headD []))) 2, wNum ws (opManyN (opKind (ws.headD []))) 3⟩
def sTextOpL (l : List UInt8) : DOp × Bool := if 60 < l.length then (opZ, false) else if opKind ((wordsL 32 l).headD []) = 0 then (opZ, false) else if opTextL (sOpOf (wordsL 32 l)) = l then (sOpOf (wordsL 32 l), true) else (opZ, false)
theorem words_len {c : UInt8} {l : List UInt8} : ∀ w ∈ wordsL c l, w.length ≤ l.length := by
  have key : ∀ (ws : List (List UInt8)) (w : List UInt8), w ∈ ws → w.length ≤ (joinL c ws).length := by
    intro ws
    induction ws with
    | nil => intro w h; cases h
    | cons v ws ih =>
      intro w h
      rcases List.mem_cons.1 h with rfl | h
      · exact joinL_head
      · exact Nat.le_trans (ih w h) joinL_tail
  intro w h
  have := key _ w h
  rwa [join_words] at this
def kBelow (w : List UInt8) (k : Nat) : Int := if opKind w < k then opKind w else 0
theorem kBelow_hit {w : List UInt8} {k : Nat} (hk : 1 ≤ k ∧ k ≤ 5) (h : opWordL k = w) : (k : Int) = kBelow w (k + 1) := by
  unfold kBelow
  rw [(opKind_word (by omega)).2 h, if_pos (by omega)]
theorem kBelow_miss {w : List UInt8} {k : Nat} (hk : 1 ≤ k ∧ k ≤ 5) (h : opWordL k ≠ w) : kBelow w k = kBelow w (k + 1) := by
  unfold kBelow
  have : opKind w ≠ k := fun e => h ((opKind_word (by omega)).1 e)
  by_cases h2 : opKind w < k
  · rw [if_pos h2, if_pos (by omega)]
  · rw [if_neg h2, if_neg (by omega)]
theorem kBelow_end (w : List UInt8) : kBelow w 6 = opKind w := by
  have := opKind_range w
  unfold kBelow
  split <;> omega
theorem kBelow_one (w : List UInt8) : kBelow w 1 = 0 := by
  have := opKind_range w
  unfold kBelow
  split <;> omega
/-- The row of numbers behind n of them. -/
def wRow (ws : List (List UInt8)) (n : Nat) : List (List AD) := [wNum ws n 0, wNum ws n 1, wNum ws n 2, wNum ws n 3].map eI
theorem wRow_set {ws : List (List UInt8)} {n : Nat} (h : n < 4) : (wRow ws n).set n [dI (atN ws (n + 1))] = wRow ws (n + 1) := by
  have : n = 0 ∨ n = 1 ∨ n = 2 ∨ n = 3 := by omega
  rcases this with rfl | rfl | rfl | rfl <;> simp [wRow, wNum, eI]
theorem wRow_get {ws : List (List UInt8)} {n j : Nat} (h : j < 4) : ∃ x, (wRow ws n)[j]? = some [dI x] := by
  have : j = 0 ∨ j = 1 ∨ j = 2 ∨ j = 3 := by omega
  rcases this with rfl | rfl | rfl | rfl <;> exact ⟨_, rfl⟩
theorem sOpWord_p (x : Int) : PCall av 64 [pI x] (rL (opWordL x)) := PCall.plain av_ok Tryd.call64 rfl rfl fun w _ => sOpWord_calls x w
theorem sl32OpMany_p (x : Int) (h : 1 ≤ x ∧ x ≤ 5) : PCall av 65 [pI x] (rI (opManyN x)) := PCall.plain av_ok Tryd.call65 rfl rfl fun w _ => sl32OpMany_calls x w h
theorem sTextOp_p (l : List UInt8) (hl : l.length ≤ 2000000) : PCall av 34 [pL l] (.tup [.agg (sTextOpL l).1.dz, .one (dB (sTextOpL l).2)]) := by
  have sp := sl1Split_p l 32 hl
  have hwl : ∀ w ∈ wordsL 32 l, w.length ≤ 2000000 := fun w h => Nat.le_trans (words_len w h) hl
  obtain ⟨w0, r, hw⟩ := wordsL_split (c := 32) (s := l)
  rw [hw] at sp hwl
  by_cases h60 : 60 < l.length
  · have e : sTextOpL l = (opZ, false) := by unfold sTextOpL; rw [if_pos h60]
    have hlt : decide (((⟨l.toArray⟩ : ByteArray).size : Int) > 60) = true := by rw [sz_dL]; simp; omega
    rw [e]
    refine pcall_of av_ok Tryd.func34 rfl Tryd.call34 Tryd.ntmps34 (congrArg Array.toList Tryd.results34) fun S => ?_; conv => whnf
    repeat' (first | (refine AWP.seq ?_) | (refine AWP.region av_ok ?_; conv => whnf) | (refine AWP.ret ?_; conv => whnf) | (refine AWP.skip ?_; conv => whnf) | (refine AWP.exit ?_; conv => whnf) | (refine AWP.block ?_; conv => whnf) | (refine AWP.cond ?_; conv => whnf) | (refine AB.tt ?_; conv => whnf) | (refine AB.ff ?_; conv => whnf) | (refine AB.ofT (by assumption) ?_; conv => whnf) | (refine AB.ofF (by assumption) ?_; conv => whnf) | (exact trivial) | (refine And.intro rfl ?_; conv => whnf) | (refine AB.mk (fun h => ?_) (fun h => ?_) <;> (conv => whnf)) | (with_reducible_and_instances rfl) | (exact (rfl : AP.tup _ = AP.tup _)))
  · have hlt : decide (((⟨l.toArray⟩ : ByteArray).size : Int) > 60) = false := by rw [sz_dL]; simp; omega
    have e0 : sTextOpL l = if opKind w0 = 0 then (opZ, false) else if opTextL (sOpOf (w0 :: r)) = l then (sOpOf (w0 :: r), true) else (opZ, false) := by unfold sTextOpL; rw [if_neg h60, hw]; rfl
    refine pcall_of av_ok Tryd.func34 rfl Tryd.call34 Tryd.ntmps34 (congrArg Array.toList Tryd.results34) fun S => ?_; conv => whnf
    repeat' (first | (refine AWP.seq ?_) | (refine AWP.region av_ok ?_; conv => whnf) | (refine AWP.ret ?_; conv => whnf) | (refine AWP.skip ?_; conv => whnf) | (refine AWP.exit ?_; conv => whnf) | (refine AWP.block ?_; conv => whnf) | (refine AWP.cond ?_; conv => whnf) | (refine AB.tt ?_; conv => whnf) | (refine AB.ff ?_; conv => whnf) | (refine AB.ofT (by assumption) ?_; conv => whnf) | (refine AB.ofF (by assumption) ?_; conv => whnf) | (refine ACall.pure sp rfl ?_; conv => whnf) | (exact trivial) | (refine And.intro rfl ?_; conv => whnf) | (refine AB.mk (fun h => ?_) (fun h => ?_) <;> (conv => whnf)) | (with_reducible_and_instances rfl) | (exact (rfl : AP.tup _ = AP.tup _)))
    refine AWP.loopS (fun k : Nat => 1 ≤ k ∧ k ≤ 6) [6, 16, 17, 18, 19, 20, 21, 22, 23, 24, 25, 26, 27] (fun k => [(6, vI .i64 (k : Int))]) (fun k => [(2, .cells 25 [.d (dI 0), .d (dI 0), .d (dI 0), .d (dI 0), .d (dI 0)]), (5, .cells 25 [.d (dI (kBelow w0 k)), .d (dI 0), .d (dI 0), .d (dI 0), .d (dI 0)])]) (fun k => 6 - k) 1 ⟨by omega, by omega⟩ ?_ (SubO.cons rfl (SubO.cons ?_ SubO.nil)) (fun k hR => ?_) <;> (try conv => whnf)
    · repeat' (first | exact trivial | (refine And.intro rfl ?_; conv => whnf))
    · rw [kBelow_one]; rfl
    · obtain ⟨hk1, hk6⟩ := hR
      repeat' (first | (refine AWP.seq ?_) | (refine AWP.region av_ok ?_; conv => whnf) | (refine AWP.ret ?_; conv => whnf) | (refine AWP.skip ?_; conv => whnf) | (refine AWP.exit ?_; conv => whnf) | (refine AWP.block ?_; conv => whnf) | (refine AWP.cond ?_; conv => whnf) | (refine AB.tt ?_; conv => whnf) | (refine AB.ff ?_; conv => whnf) | (refine AB.ofT (by assumption) ?_; conv => whnf) | (refine AB.ofF (by assumption) ?_; conv => whnf) | (refine AW.i64 (by simp only [decide_eq_true_eq, decide_eq_false_iff_not, List.length_map, Bool.not_eq_true', Bool.not_eq_false'] at *; omega) (by simp only [decide_eq_true_eq, decide_eq_false_iff_not, List.length_map, Bool.not_eq_true', Bool.not_eq_false'] at *; omega) ?_; conv => whnf) | (exact trivial) | (refine And.intro rfl ?_; conv => whnf) | (refine AB.mk (fun h => ?_) (fun h => ?_) <;> (conv => whnf)) | (with_reducible_and_instances rfl) | (exact (rfl : AP.tup _ = AP.tup _)))
      · have hk5 : k ≤ 5 := (by simp only [decide_eq_true_eq, decide_eq_false_iff_not, List.length_map, Bool.not_eq_true', Bool.not_eq_false'] at *; omega)
        refine' AWP.draw av_ok 5 [[], [0], [], [2], [2, 3], [3, 2, 4, 0, 1]] [(_, _), (_, _), (_, _), (_, _), (_, _)] ?hD ?hok ?hl ?hf ?hno ?ht
        case hD => kernel_rfl
        case hok => kernel_rfl
        case hl => rfl
        case hf =>
          conv => whnf
          repeat' (first | (refine ⟨rfl, rfl⟩) | exact trivial | (refine AFCall.mk ⟨_, _, sOpWord_p k, .inl rfl, ?_⟩; conv => whnf) | (refine AIx.at 0 _ rfl rfl ?_; conv => whnf) | (refine And.intro ?_ ?_ <;> conv => whnf))
        case hno => rfl
        case ht =>
          conv => whnf
          repeat' (first | (refine AWP.seq ?_) | (refine AWP.region av_ok ?_; conv => whnf) | (refine AWP.ret ?_; conv => whnf) | (refine AWP.skip ?_; conv => whnf) | (refine AWP.exit ?_; conv => whnf) | (refine AWP.block ?_; conv => whnf) | (refine AWP.cond ?_; conv => whnf) | (refine AB.tt ?_; conv => whnf) | (refine AB.ff ?_; conv => whnf) | (refine AB.ofT (by assumption) ?_; conv => whnf) | (refine AB.ofF (by assumption) ?_; conv => whnf) | (refine AW.i64 (by simp only [decide_eq_true_eq, decide_eq_false_iff_not, List.length_map, Bool.not_eq_true', Bool.not_eq_false'] at *; omega) (by simp only [decide_eq_true_eq, decide_eq_false_iff_not, List.length_map, Bool.not_eq_true', Bool.not_eq_false'] at *; omega) ?_; conv => whnf) | (exact trivial) | (refine And.intro rfl ?_; conv => whnf) | (refine AB.mk (fun h => ?_) (fun h => ?_) <;> (conv => whnf)) | (with_reducible_and_instances rfl) | (exact (rfl : AP.tup _ = AP.tup _)))
          · have heq : opWordL k = w0 := by rw [str_dec] at h; simpa using h
            refine ANext.mk ⟨k + 1, ⟨by omega, by omega⟩, by omega, ?_, SubO.cons rfl (SubO.cons (congrArg (fun x : Int => some (AO.cells 25 [.d (dI x), .d (dI 0), .d (dI 0), .d (dI 0), .d (dI 0)])) (kBelow_hit ⟨hk1, hk5⟩ heq)) SubO.nil)⟩
            (conv => whnf); repeat' (first | exact trivial | (refine ⟨rfl, ?_⟩; conv => whnf))
          · have hne : opWordL k ≠ w0 := by rw [str_dec] at h; simpa using h
            refine ANext.mk ⟨k + 1, ⟨by omega, by omega⟩, by omega, ?_, SubO.cons rfl (SubO.cons (congrArg (fun x : Int => some (AO.cells 25 [.d (dI x), .d (dI 0), .d (dI 0), .d (dI 0), .d (dI 0)])) (kBelow_miss ⟨hk1, hk5⟩ hne)) SubO.nil)⟩
            (conv => whnf); repeat' (first | exact trivial | (refine ⟨rfl, ?_⟩; conv => whnf))
      · have hk : k = 6 := (by simp only [decide_eq_true_eq, decide_eq_false_iff_not, List.length_map, Bool.not_eq_true', Bool.not_eq_false'] at *; omega)
        subst hk
        rw [kBelow_end] at h
        rw [e0, if_pos (by simpa using h)]
      · have hk : k = 6 := (by simp only [decide_eq_true_eq, decide_eq_false_iff_not, List.length_map, Bool.not_eq_true', Bool.not_eq_false'] at *; omega)
        subst hk
        rw [kBelow_end] at *
        have hz : opKind w0 ≠ 0 := by simpa using h
        clear h
        have hr := opKind_range w0
        have hm4 := opManyN_le (opKind w0)
        rw [e0, if_neg hz]
        refine ⟨4, rfl, rfl, by decide, by decide, ?_⟩
        conv => whnf
        repeat' (first | (refine AWP.seq ?_) | (refine AWP.region av_ok ?_; conv => whnf) | (refine AWP.ret ?_; conv => whnf) | (refine AWP.skip ?_; conv => whnf) | (refine AWP.exit ?_; conv => whnf) | (refine AWP.block ?_; conv => whnf) | (refine AWP.cond ?_; conv => whnf) | (refine AB.tt ?_; conv => whnf) | (refine AB.ff ?_; conv => whnf) | (refine AB.ofT (by assumption) ?_; conv => whnf) | (refine AB.ofF (by assumption) ?_; conv => whnf) | (exact trivial) | (refine And.intro rfl ?_; conv => whnf) | (refine AB.mk (fun h => ?_) (fun h => ?_) <;> (conv => whnf)) | (with_reducible_and_instances rfl) | (exact (rfl : AP.tup _ = AP.tup _)))
        refine AWP.loopS (fun n : Nat => n ≤ opManyN (opKind w0)) ([8, 33, 34, 35, 36, 37, 38, 39, 40, 41, 42, 43, 44, 45, 46]) (fun n => [(8, vI .i64 (n : Int))]) (fun n => [(2, .cells 25 [.d (dI 0), .d (dI 0), .d (dI 0), .d (dI 0), .d (dI 0)]), (5, .cells 25 [.d (dI (opKind w0)), .d (dI 0), .d (dI 0), .d (dI 0), .d (dI 0)]), (32, .row 2 1 (wRow (w0 :: r) n))]) (fun n => opManyN (opKind w0) - n) 0 (by omega) ?_ (SubO.cons rfl (SubO.cons rfl (SubO.cons rfl SubO.nil))) (fun n hn => ?_) <;> (conv => whnf)
        · repeat' (first | exact trivial | (refine And.intro rfl ?_; conv => whnf))
        · obtain ⟨x, hx⟩ : ∃ x, n < 4 → (wRow (w0 :: r) n)[n]? = some [dI x] := by
            by_cases h4 : n < 4
            · obtain ⟨x, hx⟩ := wRow_get (ws := w0 :: r) (n := n) (j := n) h4
              exact ⟨x, fun _ => hx⟩
            · exact ⟨0, fun h => absurd h h4⟩
          repeat' (first | (refine AWP.seq ?_) | (refine AWP.region av_ok ?_; conv => whnf) | (refine AWP.ret ?_; conv => whnf) | (refine AWP.skip ?_; conv => whnf) | (refine AWP.exit ?_; conv => whnf) | (refine AWP.block ?_; conv => whnf) | (refine AWP.cond ?_; conv => whnf) | (refine AB.tt ?_; conv => whnf) | (refine AB.ff ?_; conv => whnf) | (refine AB.ofT (by assumption) ?_; conv => whnf) | (refine AB.ofF (by assumption) ?_; conv => whnf) | (refine ACall.pure (sl32OpMany_p (opKind w0) (by omega)) rfl ?_; conv => whnf) | (refine ACall.pure (sl32At_p (w0 :: r) (n + 1) hwl) rfl ?_; conv => whnf) | (refine AIx.at n _ rfl (hx (by simp only [decide_eq_true_eq, decide_eq_false_iff_not, List.length_map, Bool.not_eq_true', Bool.not_eq_false'] at *; omega)) ?_; conv => whnf) | (refine AW.i64 (by simp only [decide_eq_true_eq, decide_eq_false_iff_not, List.length_map, Bool.not_eq_true', Bool.not_eq_false'] at *; omega) (by simp only [decide_eq_true_eq, decide_eq_false_iff_not, List.length_map, Bool.not_eq_true', Bool.not_eq_false'] at *; omega) ?_; conv => whnf) | (exact trivial) | (refine And.intro rfl ?_; conv => whnf) | (refine AB.mk (fun h => ?_) (fun h => ?_) <;> (conv => whnf)) | (with_reducible_and_instances rfl) | (exact (rfl : AP.tup _ = AP.tup _)))
          · have hlt : n < opManyN (opKind w0) := (by simp only [decide_eq_true_eq, decide_eq_false_iff_not, List.length_map, Bool.not_eq_true', Bool.not_eq_false'] at *; omega)
            refine ANext.mk ⟨n + 1, by omega, by omega, ?_, SubO.cons rfl (SubO.cons rfl (SubO.cons (congrArg some (congrArg (AO.row 2 1) (wRow_set (by omega)))) SubO.nil))⟩
            (conv => whnf); repeat' (first | exact trivial | (refine ⟨rfl, ?_⟩; conv => whnf))
          · have hn2 : n = opManyN (opKind w0) := (by simp only [decide_eq_true_eq, decide_eq_false_iff_not, List.length_map, Bool.not_eq_true', Bool.not_eq_false'] at *; omega)
            clear h hx
            subst hn2
            by_cases ht : opTextL (sOpOf (w0 :: r)) = l
            · have ht' : (!((⟨(opTextL (sOpOf (w0 :: r))).toArray⟩ : ByteArray).toList == (⟨l.toArray⟩ : ByteArray).toList)) = false := by rw [str_dec, decide_eq_true ht]; rfl
              rw [if_pos ht]
              repeat' (first | (refine AWP.seq ?_) | (refine AWP.region av_ok ?_; conv => whnf) | (refine AWP.ret ?_; conv => whnf) | (refine AWP.skip ?_; conv => whnf) | (refine AWP.exit ?_; conv => whnf) | (refine AWP.block ?_; conv => whnf) | (refine AWP.cond ?_; conv => whnf) | (refine AB.tt ?_; conv => whnf) | (refine AB.ff ?_; conv => whnf) | (refine AB.ofT (by assumption) ?_; conv => whnf) | (refine AB.ofF (by assumption) ?_; conv => whnf) | (refine AIx.at 0 _ rfl rfl ?_; conv => whnf) | (refine AIx.at 1 _ rfl rfl ?_; conv => whnf) | (refine AIx.at 2 _ rfl rfl ?_; conv => whnf) | (refine AIx.at 3 _ rfl rfl ?_; conv => whnf) | (refine ACall.pure (sOpText_p (sOpOf (w0 :: r))) rfl ?_; conv => whnf) | (exact trivial) | (refine And.intro rfl ?_; conv => whnf) | (refine AB.mk (fun h => ?_) (fun h => ?_) <;> (conv => whnf)) | (with_reducible_and_instances rfl) | (exact (rfl : AP.tup _ = AP.tup _)))
            · have ht' : (!((⟨(opTextL (sOpOf (w0 :: r))).toArray⟩ : ByteArray).toList == (⟨l.toArray⟩ : ByteArray).toList)) = true := by rw [str_dec, decide_eq_false ht]; rfl
              rw [if_neg ht]
              repeat' (first | (refine AWP.seq ?_) | (refine AWP.region av_ok ?_; conv => whnf) | (refine AWP.ret ?_; conv => whnf) | (refine AWP.skip ?_; conv => whnf) | (refine AWP.exit ?_; conv => whnf) | (refine AWP.block ?_; conv => whnf) | (refine AWP.cond ?_; conv => whnf) | (refine AB.tt ?_; conv => whnf) | (refine AB.ff ?_; conv => whnf) | (refine AB.ofT (by assumption) ?_; conv => whnf) | (refine AB.ofF (by assumption) ?_; conv => whnf) | (refine AIx.at 0 _ rfl rfl ?_; conv => whnf) | (refine AIx.at 1 _ rfl rfl ?_; conv => whnf) | (refine AIx.at 2 _ rfl rfl ?_; conv => whnf) | (refine AIx.at 3 _ rfl rfl ?_; conv => whnf) | (refine ACall.pure (sOpText_p (sOpOf (w0 :: r))) rfl ?_; conv => whnf) | (exact trivial) | (refine And.intro rfl ?_; conv => whnf) | (refine AB.mk (fun h => ?_) (fun h => ?_) <;> (conv => whnf)) | (with_reducible_and_instances rfl) | (exact (rfl : AP.tup _ = AP.tup _)))
end Go.Proofs.YtlhanpkfnhnegaaDoor
/- The plain law of TextOp: what the scanner reads is what the reference reads. -/
namespace Go.Proofs.YtlhanpkfnhnegaaDoor
open Go.RowKit

/-! The scanner's numbers. -/
theorem scNum_ws (s : Sc) : (scNum s).2.ws = s.ws.tail := by
  rw [scNum_eq]
  obtain ⟨ws, b, a⟩ := s
  unfold scNum0 Sc.next Sc.cur
  cases ws <;> (split <;> rfl)
theorem scNum_good {s : Sc} {w : List UInt8} {r : List (List UInt8)} {v : Nat} (hw : s.ws = w :: r) (h : numOf w = some v) : (scNum s).1 = v ∧ (scNum s).2.bad = s.bad := by
  obtain ⟨ws, b, a⟩ := s
  simp only at hw
  subst hw
  rw [scNum_eq]
  unfold numOf at h
  split at h
  · rename_i hc
    injection h with h
    subst h
    rw [Bool.and_eq_true, decide_eq_true_eq] at hc
    have : ¬ ((numV w : Int) > 1000000000) := by omega
    simp only [scNum0, Sc.cur, Sc.next, List.headD_cons, hc.1, if_true, true_and]
    simp [this]
  · cases h
theorem scNum_bad {s : Sc} (h : (scNum s).2.bad = false) : s.bad = false ∧ ∃ w r v, s.ws = w :: r ∧ numOf w = some v := by
  obtain ⟨ws, b, a⟩ := s
  rw [scNum_eq] at h
  unfold scNum0 at h
  split at h
  · rename_i hd
    cases ws with
    | nil => exact absurd hd (by simp [Sc.cur, digB])
    | cons w r =>
      have h' : (b || decide ((numV w : Int) > 1000000000)) = false := h
      have hd : digB w 10 = true := hd
      rw [Bool.or_eq_false_iff, decide_eq_false_iff_not] at h'
      obtain ⟨hb, h2⟩ := h'
      refine ⟨hb, w, r, numV w, rfl, ?_⟩
      rw [numOf_good hd, if_pos (by omega)]
  · cases h
theorem scAt_ws (s : Sc) : ∀ n, (scAt s n).ws = s.ws.drop n
  | 0 => rfl
  | n + 1 => by rw [← scAt_succ, scNum_ws, scAt_ws s n, List.tail_drop]
/-- The words from j on begin with numerals. -/
def GoodN (ws : List (List UInt8)) (n : Nat) : Prop := ∀ j, j < n → ∃ w v, ws[j]? = some w ∧ numOf w = some v
theorem drop_cons_of {α : Type} {l : List α} {j : Nat} {x : α} (h : l[j]? = some x) : l.drop j = x :: l.drop (j + 1) := by
  obtain ⟨hj, rfl⟩ := List.getElem?_eq_some_iff.1 h
  exact List.drop_eq_getElem_cons hj
theorem scAt_good (s : Sc) : ∀ n, GoodN s.ws n → (scAt s n).bad = s.bad
  | 0, _ => rfl
  | n + 1, h => by
    obtain ⟨w, v, hw, hv⟩ := h n (by omega)
    have ih := scAt_good s n fun j hj => h j (by omega)
    rw [← scAt_succ, (scNum_good (by rw [scAt_ws, drop_cons_of hw]) hv).2, ih]
theorem scAt_bad (s : Sc) : ∀ n, (scAt s n).bad = false → s.bad = false ∧ GoodN s.ws n
  | 0, h => ⟨h, fun j hj => by omega⟩
  | n + 1, h => by
    rw [← scAt_succ] at h
    obtain ⟨h1, w, r, v, hw, hv⟩ := scNum_bad h
    obtain ⟨h2, h3⟩ := scAt_bad s n h1
    refine ⟨h2, fun j hj => ?_⟩
    by_cases e : j < n
    · exact h3 j e
    · have : j = n := by omega
      subst this
      rw [scAt_ws] at hw
      have h4 := congrArg List.head? hw
      rw [List.head?_drop] at h4
      exact ⟨w, v, by simpa using h4, hv⟩
theorem nAt_good {s : Sc} {j : Nat} {w : List UInt8} {v : Nat} (hw : s.ws[j]? = some w) (h : numOf w = some v) : nAt s j = v := by
  unfold nAt
  exact (scNum_good (by rw [scAt_ws, drop_cons_of hw]) h).1

/-! The text of an operation, by its words. -/
theorem dig_ne_32 {b : UInt8} (h : isDig b = true) : b ≠ 32 := by
  rintro rfl
  exact absurd h (by decide)
theorem no32_dec (n : Nat) : (32 : UInt8) ∉ Lib.decDigits n := fun h => dig_ne_32 (List.all_eq_true.1 (decDigits_facts n).1 _ h) rfl
theorem no32_itoa {x : Int} (h : 0 ≤ x) : (32 : UInt8) ∉ Lib.itoa x := by
  obtain ⟨n, rfl⟩ := Int.eq_ofNat_of_zero_le h
  rw [itoa_nat]; exact no32_dec n
theorem no32_opWord (k : Int) : (32 : UInt8) ∉ opWordL k := by
  unfold opWordL
  repeat' split
  all_goals decide
theorem join_spaced (w : List UInt8) (l : List Int) : joinL 32 (w :: l.map Lib.itoa) = w ++ spacedB l := by
  induction l generalizing w with
  | nil => simp [joinL, spacedB]
  | cons x r ih => rw [List.map_cons, joinL, ih]; simp [spacedB]
theorem opTextL_join {o : DOp} (h : opOk o = true) : opTextL o = joinL 32 (opWordL o.kind :: (opArgs o).map Lib.itoa) := by
  rw [join_spaced]; unfold opTextL; rw [if_pos h]
theorem opArgs_mem {o : DOp} (h : opOk o = true) : ∀ x ∈ opArgs o, 0 ≤ x ∧ x ≤ 1000000 := by
  intro x hx
  have hb := opOk_bounds h
  have := List.mem_of_mem_take hx
  simp only [List.mem_cons, List.not_mem_nil, or_false] at this
  rcases this with rfl | rfl | rfl | rfl
  · exact hb.2.1
  · exact hb.2.2.1
  · exact hb.2.2.2.1
  · exact hb.2.2.2.2
theorem opTextL_words {o : DOp} (h : opOk o = true) : wordsL 32 (opTextL o) = opWordL o.kind :: (opArgs o).map Lib.itoa := by
  rw [opTextL_join h]
  refine words_join (by simp) fun w hw => ?_
  rcases List.mem_cons.1 hw with rfl | hw
  · exact no32_opWord _
  · obtain ⟨x, hx, rfl⟩ := List.mem_map.1 hw
    exact no32_itoa (opArgs_mem h x hx).1
theorem opArgs_len' (o : DOp) : (opArgs o).length = opManyN o.kind := (opArgs_len o).1
theorem opArgs_get (o : DOp) {j : Nat} (h : j < opManyN o.kind) : (opArgs o)[j]? = [o.a, o.b, o.c, o.d][j]? := by
  unfold opArgs
  rw [List.getElem?_take, if_pos h]
theorem numOf_itoa {x : Int} (h : 0 ≤ x ∧ x ≤ 1000000) : numOf (Lib.itoa x) = some x.toNat := by
  obtain ⟨n, rfl⟩ := Int.eq_ofNat_of_zero_le h.1
  rw [itoa_nat]
  simpa using numOf_dec (n := n) (by omega)
theorem opTextL_len60 {o : DOp} (h : opOk o = true) : (opTextL o).length ≤ 60 := by
  unfold opTextL
  rw [if_pos h]
  have h1 : (opWordL o.kind).length ≤ 5 := by unfold opWordL; repeat' split
                                              all_goals decide
  have h2 : ∀ l : List Int, (∀ x ∈ l, 0 ≤ x ∧ x ≤ 1000000) → (spacedB l).length ≤ 8 * l.length := by
    intro l hl
    induction l with
    | nil => simp [spacedB]
    | cons x r ih =>
      have h3 := ih fun y hy => hl y (by simp [hy])
      have h4 := hl x (by simp)
      have h5 : (Lib.itoa x).length ≤ 7 := by
        obtain ⟨n, rfl⟩ := Int.eq_ofNat_of_zero_le h4.1
        rw [itoa_nat]
        exact decDigits_len (by omega) (by omega)
      simp only [spacedB, List.flatMap_cons, List.length_append, List.length_cons] at h3 ⊢
      omega
  have h6 := h2 (opArgs o) (opArgs_mem h)
  rw [opArgs_len'] at h6
  have := opManyN_le o.kind
  rw [List.length_append]; omega
theorem joinL_nil {c : UInt8} {w : List UInt8} {r : List (List UInt8)} (hw : w ≠ []) : joinL c (w :: r) ≠ [] := by
  cases r <;> simp [joinL, hw]
theorem opWordL_ne {k : Int} (h : 1 ≤ k ∧ k ≤ 5) : opWordL k ≠ [] := by
  rcases op_cases h with rfl | rfl | rfl | rfl | rfl <;> decide

/-- What is read of a text, as one says it: the operation whose text it is. -/
theorem scOp_start {l w0 : List UInt8} {r : List (List UInt8)} (hw : wordsL 32 l = w0 :: r) (hk : opKind w0 ≠ 0) :
    ∃ a, scOp (.start l) = (⟨opKind w0, numIf ⟨r, false, a⟩ (opManyN (opKind w0)) 0, numIf ⟨r, false, a⟩ (opManyN (opKind w0)) 1, numIf ⟨r, false, a⟩ (opManyN (opKind w0)) 2, numIf ⟨r, false, a⟩ (opManyN (opKind w0)) 3⟩, scAt ⟨r, false, a⟩ (opManyN (opKind w0))) := by
  have e : Sc.start l = ⟨w0 :: r, false, 0⟩ := by unfold Sc.start; rw [hw]
  rw [e]
  unfold scOp
  exact ⟨_, by rw [if_neg (show ¬ opKind (Sc.cur ⟨w0 :: r, false, 0⟩) = 0 from hk)]; rfl⟩
theorem scOp_none {l w0 : List UInt8} {r : List (List UInt8)} (hw : wordsL 32 l = w0 :: r) (hk : opKind w0 = 0) : (scOp (.start l)).2.over = false := by
  have e : Sc.start l = ⟨w0 :: r, false, 0⟩ := by unfold Sc.start; rw [hw]
  rw [e]
  unfold scOp
  rw [if_pos (show opKind (Sc.cur ⟨w0 :: r, false, 0⟩) = 0 from hk)]
  simp [Sc.over]
theorem numIf_good {s : Sc} {n j : Nat} (h : GoodN s.ws n) : numIf s n j = if j < n then (match s.ws[j]? with | some w => numN w | none => -1) else 0 := by
  unfold numIf
  split
  · rename_i hj
    obtain ⟨w, v, hw, hv⟩ := h j hj
    rw [nAt_good hw hv, hw]
    simp only [numN_yes hv]
  · rfl
theorem wNum_cons (w0 : List UInt8) (r : List (List UInt8)) (n j : Nat) : wNum (w0 :: r) n j = if j < n then (match r[j]? with | some w => numN w | none => -1) else 0 := by
  unfold wNum atN
  simp only [List.getElem?_cons_succ]
  all_goals rfl
theorem good_of_text {o : DOp} (h : opOk o = true) : GoodN ((opArgs o).map Lib.itoa) (opManyN o.kind) := by
  intro j hj
  rw [← opArgs_len'] at hj
  refine ⟨Lib.itoa (opArgs o)[j], ((opArgs o)[j]).toNat, by simp [hj], numOf_itoa (opArgs_mem h _ (List.getElem_mem hj))⟩
/-- Where the words are numerals, as many as the kind wants, both read the same operation, and its text is the words. -/
theorem text_of_good {w0 : List UInt8} {r : List (List UInt8)} (hk : opKind w0 ≠ 0) (hg : GoodN r (opManyN (opKind w0))) (hl : r.length = opManyN (opKind w0)) (hok : opOk (sOpOf (w0 :: r)) = true) : opTextL (sOpOf (w0 :: r)) = joinL 32 (w0 :: r) := by
  have hr := opKind_range w0
  rw [opTextL_join hok]
  have h1 : opWordL (opKind w0) = w0 := (opKind_word (by omega)).1 rfl
  have h2 : (opArgs (sOpOf (w0 :: r))).map Lib.itoa = r := by
    apply List.ext_getElem?
    intro j
    rw [List.getElem?_map]
    by_cases hj : j < opManyN (opKind w0)
    · have h3 : (opArgs (sOpOf (w0 :: r)))[j]? = some (wNum (w0 :: r) (opManyN (opKind w0)) j) := by
        rw [opArgs_get _ (show j < opManyN (sOpOf (w0 :: r)).kind from hj)]
        have h4 := opManyN_le (opKind w0)
        have : j = 0 ∨ j = 1 ∨ j = 2 ∨ j = 3 := by omega
        rcases this with rfl | rfl | rfl | rfl <;> rfl
      obtain ⟨w, v, hw, hv⟩ := hg j hj
      rw [h3, wNum_cons, if_pos hj, hw]
      simp only [numN_yes hv, Option.map_some, itoa_nat]
      rw [(numOf_iff.1 hv).1]
    · have h4 : (opArgs (sOpOf (w0 :: r))).length = opManyN (opKind w0) := opArgs_len' _
      rw [List.getElem?_eq_none (by omega), List.getElem?_eq_none (by omega)]; rfl
  rw [h2]
  show joinL 32 (opWordL (opKind w0) :: r) = _
  rw [h1]
theorem textOp_eq (l : List UInt8) : iTextOpL l = sTextOpL l := by
  obtain ⟨w0, r, hw⟩ := wordsL_split (c := 32) (s := l)
  have hj : joinL 32 (w0 :: r) = l := by rw [← hw, join_words]
  by_cases hk : opKind w0 = 0
  · have h1 : iTextOpL l = (opZ, false) := by unfold iTextOpL; rw [scOp_none hw hk]; rfl
    have h2 : sTextOpL l = (opZ, false) := by
      unfold sTextOpL; rw [hw]
      show (if 60 < l.length then (opZ, false) else if opKind w0 = 0 then (opZ, false) else if opTextL (sOpOf (w0 :: r)) = l then (sOpOf (w0 :: r), true) else (opZ, false)) = _
      rw [if_pos hk]; split <;> rfl
    rw [h1, h2]
  · obtain ⟨a, hs⟩ := scOp_start hw hk
    have h0 : sTextOpL l = if 60 < l.length then (opZ, false) else if opTextL (sOpOf (w0 :: r)) = l then (sOpOf (w0 :: r), true) else (opZ, false) := by
      unfold sTextOpL; rw [hw]
      show (if 60 < l.length then (opZ, false) else if opKind w0 = 0 then (opZ, false) else if opTextL (sOpOf (w0 :: r)) = l then (sOpOf (w0 :: r), true) else (opZ, false)) = _
      rw [if_neg hk]
    have hi0 : iTextOpL l = if (scAt ⟨r, false, a⟩ (opManyN (opKind w0))).over && opOk (scOp (.start l)).1 then ((scOp (.start l)).1, true) else (opZ, false) := by
      unfold iTextOpL; rw [hs]
    by_cases hg : GoodN r (opManyN (opKind w0))
    · have ho : (scOp (.start l)).1 = sOpOf (w0 :: r) := by
        rw [hs]
        simp only [sOpOf, List.headD_cons, numIf_good (s := ⟨r, false, a⟩) hg, wNum_cons]
      have hb : (scAt ⟨r, false, a⟩ (opManyN (opKind w0))).bad = false := scAt_good _ _ hg
      rw [hi0, ho, h0]
      by_cases hov : (scAt ⟨r, false, a⟩ (opManyN (opKind w0))).over = true
      · have hlen : r.length = opManyN (opKind w0) := by
          have h1 : r.drop (opManyN (opKind w0)) = [] := by
            have := hov
            simp only [Sc.over, Bool.and_eq_true, List.isEmpty_iff, scAt_ws] at this
            exact this.1
          have h2 : r.length ≤ opManyN (opKind w0) := List.drop_eq_nil_iff.1 h1
          rcases Nat.lt_or_ge r.length (opManyN (opKind w0)) with h3 | h3
          · obtain ⟨w, v, hw', _⟩ := hg r.length h3
            rw [List.getElem?_eq_none (Nat.le_refl _)] at hw'; cases hw'
          · omega
        rw [hov]
        by_cases hok : opOk (sOpOf (w0 :: r)) = true
        · have ht := text_of_good hk hg hlen hok
          have hlen2 := opTextL_len60 hok
          rw [ht, hj] at hlen2
          rw [hok, ht, hj, if_neg (show ¬ 60 < l.length by omega)]; simp
        · have hok' : opOk (sOpOf (w0 :: r)) = false := by simpa using hok
          have ht : opTextL (sOpOf (w0 :: r)) = [] := by unfold opTextL; rw [if_neg hok]
          have hr := opKind_range w0
          have hne : [] ≠ l := by
            rw [← hj]
            refine fun e => joinL_nil ?_ e.symm
            rw [← (opKind_word (w := w0) (j := opKind w0) (by omega)).1 rfl]
            exact opWordL_ne (by omega)
          rw [hok', ht, if_neg hne]; simp
      · have hov' : (scAt ⟨r, false, a⟩ (opManyN (opKind w0))).over = false := by simpa using hov
        rw [hov']
        have hne : opTextL (sOpOf (w0 :: r)) ≠ l := by
          intro ht
          by_cases hok : opOk (sOpOf (w0 :: r)) = true
          · have h1 := opTextL_words hok
            rw [ht, hw] at h1
            injection h1 with _ h1
            have h2 : r.length = opManyN (opKind w0) := by
              have := congrArg List.length h1
              rw [List.length_map, opArgs_len'] at this
              exact this
            apply hov
            simp only [Sc.over, scAt_ws, hb, Bool.not_false, Bool.and_true, List.isEmpty_iff]
            exact List.drop_eq_nil_of_le (Nat.le_of_eq h2)
          · have hr := opKind_range w0
            have ht2 : opTextL (sOpOf (w0 :: r)) = [] := by unfold opTextL; rw [if_neg hok]
            rw [ht2, ← hj] at ht
            refine joinL_nil ?_ ht.symm
            rw [← (opKind_word (w := w0) (j := opKind w0) (by omega)).1 rfl]
            exact opWordL_ne (by omega)
        rw [if_neg hne]; simp
    · have hov : (scAt ⟨r, false, a⟩ (opManyN (opKind w0))).over = false := by
        cases hb : (scAt ⟨r, false, a⟩ (opManyN (opKind w0))).bad with
        | true => unfold Sc.over; rw [hb]; simp
        | false => exact absurd (scAt_bad _ _ hb).2 hg
      rw [hi0, hov, h0]
      have hne : opTextL (sOpOf (w0 :: r)) ≠ l := by
        intro ht
        by_cases hok : opOk (sOpOf (w0 :: r)) = true
        · have h1 := opTextL_words hok
          rw [ht, hw] at h1
          injection h1 with _ h1
          apply hg
          rw [h1]
          exact good_of_text hok
        · have hr := opKind_range w0
          have ht2 : opTextL (sOpOf (w0 :: r)) = [] := by unfold opTextL; rw [if_neg hok]
          rw [ht2, ← hj] at ht
          refine joinL_nil ?_ ht.symm
          rw [← (opKind_word (w := w0) (j := opKind w0) (by omega)).1 rfl]
          exact opWordL_ne (by omega)
      rw [if_neg hne]; simp
end Go.Proofs.YtlhanpkfnhnegaaDoor
/- The law of TextOp. -/
namespace Go.Proofs.YtlhanpkfnhnegaaDoor
open Go.RowKit

theorem bne_no {α : Type} [BEq α] [ReflBEq α] (a : α) : (a != a) = false := by simp [bne]
theorem eqOp_p (o : DOp) : PCall av 36 [.agg o.dz, .agg o.dz] (rB true) := by
  refine pcall_of av_ok Tryd.func36 rfl Tryd.call36 Tryd.ntmps36 (congrArg Array.toList Tryd.results36) fun S => ?_; conv => whnf
  repeat' (first | (refine AWP.seq ?_) | (refine AWP.region av_ok ?_; conv => whnf) | (refine AWP.ret ?_; conv => whnf) | (refine AWP.skip ?_; conv => whnf) | (refine AWP.exit ?_; conv => whnf) | (refine AWP.block ?_; conv => whnf) | (refine AWP.cond ?_; conv => whnf) | (refine AB.tt ?_; conv => whnf) | (refine AB.ff ?_; conv => whnf) | (refine AB.ofT (by assumption) ?_; conv => whnf) | (refine AB.ofF (by assumption) ?_; conv => whnf) | (refine AB.ofF (bne_no _) ?_; conv => whnf) | (exact trivial) | (refine And.intro rfl ?_; conv => whnf) | (refine AB.mk (fun h => ?_) (fun h => ?_) <;> (conv => whnf)) | (with_reducible_and_instances rfl) | (exact (rfl : AP.tup _ = AP.tup _)))
theorem lawTextOp_p (l : List UInt8) : PCall av 8 [pL l] (rB true) := by
  by_cases h : 1048576 < l.length
  · have hlt : decide (((⟨l.toArray⟩ : ByteArray).size : Int) > 1048576) = true := by rw [sz_dL]; simp; omega
    refine pcall_of av_ok Tryd.func8 rfl Tryd.call8 Tryd.ntmps8 (congrArg Array.toList Tryd.results8) fun S => ?_; conv => whnf
    repeat' (first | (refine AWP.seq ?_) | (refine AWP.region av_ok ?_; conv => whnf) | (refine AWP.ret ?_; conv => whnf) | (refine AWP.skip ?_; conv => whnf) | (refine AWP.exit ?_; conv => whnf) | (refine AWP.block ?_; conv => whnf) | (refine AWP.cond ?_; conv => whnf) | (refine AB.tt ?_; conv => whnf) | (refine AB.ff ?_; conv => whnf) | (refine AB.ofT (by assumption) ?_; conv => whnf) | (refine AB.ofF (by assumption) ?_; conv => whnf) | (exact trivial) | (refine And.intro rfl ?_; conv => whnf) | (refine AB.mk (fun h => ?_) (fun h => ?_) <;> (conv => whnf)) | (with_reducible_and_instances rfl) | (exact (rfl : AP.tup _ = AP.tup _)))
  · have hlt : decide (((⟨l.toArray⟩ : ByteArray).size : Int) > 1048576) = false := by rw [sz_dL]; simp; omega
    have ip := iTextOp_p l (by omega)
    have sp := sTextOp_p l (by omega)
    rw [textOp_eq] at ip
    generalize sTextOpL l = x at ip sp
    obtain ⟨o, b⟩ := x
    have hb : (!(b == b)) = false := by simp
    refine pcall_of av_ok Tryd.func8 rfl Tryd.call8 Tryd.ntmps8 (congrArg Array.toList Tryd.results8) fun S => ?_; conv => whnf
    repeat' (first | (refine AWP.seq ?_) | (refine AWP.region av_ok ?_; conv => whnf) | (refine AWP.ret ?_; conv => whnf) | (refine AWP.skip ?_; conv => whnf) | (refine AWP.exit ?_; conv => whnf) | (refine AWP.block ?_; conv => whnf) | (refine AWP.cond ?_; conv => whnf) | (refine AB.tt ?_; conv => whnf) | (refine AB.ff ?_; conv => whnf) | (refine AB.ofT (by assumption) ?_; conv => whnf) | (refine AB.ofF (by assumption) ?_; conv => whnf) | (refine ACall.pure sp rfl ?_; conv => whnf) | (refine ACall.pure ip rfl ?_; conv => whnf) | (refine ACall.pure (eqOp_p o) rfl ?_; conv => whnf) | (exact trivial) | (refine And.intro rfl ?_; conv => whnf) | (refine AB.mk (fun h => ?_) (fun h => ?_) <;> (conv => whnf)) | (with_reducible_and_instances rfl) | (exact (rfl : AP.tup _ = AP.tup _)))
end Go.Proofs.YtlhanpkfnhnegaaDoor
