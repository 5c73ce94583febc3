/- Words of a text, numerals: plain lists of bytes, no program. -/
import Derived.Lib.ItoaNum
import Derived.Lib.IndexMore
import Derived.Lib.ParseIntB
set_option linter.unusedVariables false
set_option linter.unusedSimpArgs false
set_option maxRecDepth 100000
namespace Go.Proofs.YtlhanpkfnhnegaaDoor

/-- The parts of a text between the bytes c. -/
def wordsL (c : UInt8) : List UInt8 → List (List UInt8)
  | [] => [[]]
  | x :: r => if x = c then [] :: wordsL c r else (x :: (wordsL c r).headD []) :: (wordsL c r).tail
def joinL (c : UInt8) : List (List UInt8) → List UInt8
  | [] => []
  | [w] => w
  | w :: v :: ws => w ++ c :: joinL c (v :: ws)
theorem wordsL_ne (c : UInt8) : ∀ s, wordsL c s ≠ []
  | [] => by simp [wordsL]
  | x :: r => by unfold wordsL; split <;> simp
theorem wordsL_split {c : UInt8} {s : List UInt8} : ∃ w ws, wordsL c s = w :: ws := by
  cases h : wordsL c s with
  | nil => exact absurd h (wordsL_ne c s)
  | cons w ws => exact ⟨w, ws, rfl⟩
theorem join_words (c : UInt8) : ∀ s, joinL c (wordsL c s) = s
  | [] => rfl
  | x :: r => by
    obtain ⟨w, ws, e⟩ := wordsL_split (c := c) (s := r)
    have ih := join_words c r
    rw [e] at ih
    unfold wordsL
    split
    · rename_i h; rw [e, joinL, ih, h]; rfl
    · rw [e]
      simp only [List.headD_cons, List.tail_cons]
      cases ws with
      | nil => simp only [joinL] at ih ⊢; rw [ih]
      | cons v ws => simp only [joinL, List.cons_append] at ih ⊢; rw [ih]
theorem words_no {c : UInt8} : ∀ {s : List UInt8}, ∀ w ∈ wordsL c s, c ∉ w
  | [], w, h => by simp [wordsL] at h; subst h; simp
  | x :: r, w, h => by
    obtain ⟨v, ws, e⟩ := wordsL_split (c := c) (s := r)
    have ih := words_no (c := c) (s := r)
    unfold wordsL at h
    rw [e] at ih h
    split at h
    · rcases List.mem_cons.1 h with rfl | h
      · simp
      · exact ih w h
    · rename_i hx
      simp only [List.headD_cons, List.tail_cons] at h
      rcases List.mem_cons.1 h with rfl | h
      · intro hm
        rcases List.mem_cons.1 hm with hm | hm
        · exact hx hm.symm
        · exact ih v (by simp) hm
      · exact ih w (by simp [h])
theorem words_cat {c : UInt8} : ∀ {w r : List UInt8}, c ∉ w → wordsL c (w ++ c :: r) = w :: wordsL c r
  | [], r, _ => by simp [wordsL]
  | x :: w, r, h => by
    have hx : ¬ x = c := fun e => h (by simp [e])
    have hw : c ∉ w := fun e => h (by simp [e])
    rw [List.cons_append, wordsL, if_neg hx, words_cat hw]
    rfl
theorem words_one {c : UInt8} : ∀ {w : List UInt8}, c ∉ w → wordsL c w = [w]
  | [], _ => rfl
  | x :: w, h => by
    have hx : ¬ x = c := fun e => h (by simp [e])
    have hw : c ∉ w := fun e => h (by simp [e])
    rw [wordsL, if_neg hx, words_one hw]
    rfl
theorem words_join {c : UInt8} : ∀ {ws : List (List UInt8)}, ws ≠ [] → (∀ w ∈ ws, c ∉ w) → wordsL c (joinL c ws) = ws
  | [], h, _ => absurd rfl h
  | [w], _, h => words_one (h w (by simp))
  | w :: v :: ws, _, h => by
    rw [joinL, words_cat (h w (by simp)), words_join (by simp) fun x hx => h x (by simp [hx])]

theorem isPre_one (c x : UInt8) (r : List UInt8) : [c].isPrefixOf (x :: r) = decide (x = c) := by
  simp only [List.isPrefixOf, Bool.and_true]
  by_cases h : x = c
  · subst h; simp
  · have : ¬ c = x := fun e => h e.symm
    simp [h, this]
theorem index_miss {c : UInt8} : ∀ {w : List UInt8}, c ∉ w → Lib.index w [c] = -1
  | [], _ => rfl
  | x :: w, h => by
    have hx : ¬ x = c := fun e => h (by simp [e])
    have hw : c ∉ w := fun e => h (by simp [e])
    rw [Lib.index, isPre_one]
    simp [hx, index_miss hw]
theorem index_hit {c : UInt8} : ∀ {w r : List UInt8}, c ∉ w → Lib.index (w ++ c :: r) [c] = w.length
  | [], r, _ => by rw [List.nil_append, Lib.index, isPre_one]; simp
  | x :: w, r, h => by
    have hx : ¬ x = c := fun e => h (by simp [e])
    have hw : c ∉ w := fun e => h (by simp [e])
    have ih := index_hit (r := r) hw
    rw [List.cons_append, Lib.index, isPre_one, ih]
    have : ¬ ((w.length : Int) == -1) = true := by simp <;> omega
    simp [hx, this] <;> omega
theorem cut_one {c : UInt8} {w : List UInt8} (h : c ∉ w) : Lib.cut w [c] = (w, [], false) := by
  unfold Lib.cut
  rw [index_miss h]; rfl
theorem cut_cat {c : UInt8} {w r : List UInt8} (h : c ∉ w) : Lib.cut (w ++ c :: r) [c] = (w, r, true) := by
  unfold Lib.cut
  rw [index_hit h, if_pos (by omega)]
  simp
/-- What Cut does at the words. -/
theorem cut_words {c : UInt8} {w : List UInt8} {ws : List (List UInt8)} (h : c ∉ w) : Lib.cut (joinL c (w :: ws)) [c] = (w, joinL c ws, !ws.isEmpty) := by
  cases ws with
  | nil => exact cut_one h
  | cons v ws => exact cut_cat h

/-! Numerals. -/
def isDig (b : UInt8) : Bool := decide (48 ≤ b) && decide (b ≤ 57)
def numV (w : List UInt8) : Nat := w.foldl (fun n b => 10 * n + (b.toNat - 48)) 0
/-- A numeral of at most so many digits, no leading zero. -/
def digB (w : List UInt8) (most : Nat) : Bool := decide (1 ≤ w.length) && decide (w.length ≤ most) && (decide (w.length ≤ 1) || decide (w.head? ≠ some 48)) && w.all isDig
theorem isDig_iff {b : UInt8} : isDig b = true ↔ 48 ≤ b.toNat ∧ b.toNat ≤ 57 := by
  simp [isDig, UInt8.le_iff_toNat_le]
theorem numV_snoc (w : List UInt8) (b : UInt8) : numV (w ++ [b]) = 10 * numV w + (b.toNat - 48) := by simp [numV]
theorem snoc_ind {α : Type} {P : List α → Prop} (h0 : P []) (h1 : ∀ w b, P w → P (w ++ [b])) (w : List α) : P w := by
  have : ∀ n, ∀ w : List α, w.length = n → P w := by
    intro n
    induction n with
    | zero => intro w h; rw [List.eq_nil_of_length_eq_zero h]; exact h0
    | succ n ih =>
      intro w h
      have hne : w ≠ [] := by rintro rfl; simp at h
      rw [← List.dropLast_concat_getLast hne]
      exact h1 _ _ (ih _ (by simp [h]))
  exact this _ w rfl
theorem numV_lt : ∀ (w : List UInt8), w.all isDig = true → numV w < 10 ^ w.length :=
  snoc_ind (fun _ => by decide) fun w b ih h => by
    rw [List.all_append, Bool.and_eq_true] at h
    have h1 := ih h.1
    have h2 := isDig_iff.1 (by simpa using h.2)
    rw [numV_snoc, List.length_append, List.length_singleton, Nat.pow_succ]
    omega
theorem numV_pos : ∀ (w : List UInt8), w.all isDig = true → w ≠ [] → w.head? ≠ some 48 → 1 ≤ numV w :=
  snoc_ind (fun _ h => absurd rfl h) fun w b ih h _ hh => by
    rw [List.all_append, Bool.and_eq_true] at h
    have h2 := isDig_iff.1 (by simpa using h.2)
    rw [numV_snoc]
    by_cases hw : w = []
    · subst hw
      have : b ≠ 48 := by simpa using hh
      have : b.toNat ≠ 48 := fun e => this (UInt8.toNat_inj.1 e)
      omega
    · have h3 : w.head? ≠ some 48 := by
        intro e; apply hh
        cases w with
        | nil => exact absurd rfl hw
        | cons x r => simpa using e
      have := ih h.1 hw h3
      omega
theorem ofNat_dig {b : UInt8} (h : 48 ≤ b.toNat) : UInt8.ofNat (48 + (b.toNat - 48)) = b := by
  rw [show 48 + (b.toNat - 48) = b.toNat by omega]; simp
/-- A numeral is what its number is written as. -/
theorem dec_numV : ∀ (w : List UInt8), w.all isDig = true → w ≠ [] → (w.length ≤ 1 ∨ w.head? ≠ some 48) → Lib.decDigits (numV w) = w :=
  snoc_ind (fun _ h => absurd rfl h) fun w b ih h _ hh => by
    rw [List.all_append, Bool.and_eq_true] at h
    have h2 := isDig_iff.1 (by simpa using h.2)
    rw [numV_snoc]
    by_cases hw : w = []
    · subst hw
      have e : numV [] = 0 := rfl
      rw [e, Nat.mul_zero, Nat.zero_add, Lib.decDigits, dif_pos (by omega), ofNat_dig h2.1]; rfl
    · have hl : 1 ≤ w.length := List.length_pos_iff.2 hw
      have h3 : w.head? ≠ some 48 := by
        rcases hh with hh | hh
        · rw [List.length_append, List.length_singleton] at hh; omega
        · intro e; apply hh
          cases w with
          | nil => exact absurd rfl hw
          | cons x r => simpa using e
      have h4 := numV_pos w h.1 hw h3
      have h5 := ih h.1 hw (.inr h3)
      rw [Lib.decDigits, dif_neg (by omega), show (10 * numV w + (b.toNat - 48)) / 10 = numV w by omega, show (10 * numV w + (b.toNat - 48)) % 10 = b.toNat - 48 by omega, h5, ofNat_dig h2.1]
theorem dig_ofNat {d : Nat} (h : d < 10) : (UInt8.ofNat (48 + d)).toNat = 48 + d := by
  rw [UInt8.toNat_ofNat']; omega
theorem decDigits_facts : ∀ u : Nat, (Lib.decDigits u).all isDig = true ∧ numV (Lib.decDigits u) = u ∧ Lib.decDigits u ≠ [] ∧ ((Lib.decDigits u).length ≤ 1 ∨ (Lib.decDigits u).head? ≠ some 48) ∧ (1 ≤ u → (Lib.decDigits u).head? ≠ some 48) := by
  intro u
  induction u using Nat.strongRecOn with
  | _ u ih =>
    by_cases h : u < 10
    · rw [Lib.decDigits, dif_pos h]
      refine ⟨?_, ?_, by simp, .inl (by simp), fun h1 => ?_⟩
      · simp only [List.all_cons, List.all_nil, Bool.and_true]; rw [isDig_iff, dig_ofNat h]; omega
      · simp only [numV, List.foldl_cons, List.foldl_nil, dig_ofNat h]; omega
      · simp only [List.head?_cons]
        intro e
        injection e with e
        have := congrArg UInt8.toNat e
        rw [dig_ofNat h] at this
        simp at this
        omega
    · obtain ⟨h1, h2, h3, h4, h5⟩ := ih (u / 10) (by omega)
      have hd : u % 10 < 10 := by omega
      have hh : (Lib.decDigits (u / 10)).head? ≠ some 48 := h5 (by omega)
      have hh2 : (Lib.decDigits (u / 10) ++ [UInt8.ofNat (48 + u % 10)]).head? ≠ some 48 := by
        cases e : Lib.decDigits (u / 10) with
        | nil => exact absurd e h3
        | cons x r => rw [e] at hh; simpa using hh
      rw [Lib.decDigits, dif_neg h]
      refine ⟨?_, ?_, by simp, .inr hh2, fun _ => hh2⟩
      · rw [List.all_append, h1]; simp only [List.all_cons, List.all_nil, Bool.and_true, Bool.true_and]; rw [isDig_iff, dig_ofNat hd]; omega
      · rw [numV_snoc, h2, dig_ofNat hd]; omega
theorem decDigits_len {k : Nat} : ∀ {u : Nat}, 1 ≤ k → u < 10 ^ k → (Lib.decDigits u).length ≤ k := by
  induction k with
  | zero => intro u h; omega
  | succ k ih =>
    intro u _ h
    rw [Lib.decDigits]
    split
    · simp
    · rename_i h10
      rw [List.length_append, List.length_singleton]
      rcases Nat.eq_zero_or_pos k with hk | hk
      · subst hk; simp at h; omega
      · have := ih (u := u / 10) hk (by rw [Nat.pow_succ] at h; omega)
        omega
/-- The number, from 0 to a thousand millions, that a word spells. -/
def numOf (w : List UInt8) : Option Nat := if digB w 10 && decide (numV w ≤ 1000000000) then some (numV w) else none
theorem digB_iff {w : List UInt8} {m : Nat} : digB w m = true ↔ w ≠ [] ∧ w.length ≤ m ∧ (w.length ≤ 1 ∨ w.head? ≠ some 48) ∧ w.all isDig = true := by
  simp only [digB, Bool.and_eq_true, Bool.or_eq_true, decide_eq_true_eq, ← List.length_pos_iff]
  constructor
  · rintro ⟨⟨⟨a, b⟩, c⟩, d⟩; exact ⟨a, b, c, d⟩
  · rintro ⟨a, b, c, d⟩; exact ⟨⟨⟨a, b⟩, c⟩, d⟩
theorem numOf_iff {w : List UInt8} {n : Nat} : numOf w = some n ↔ w = Lib.decDigits n ∧ n ≤ 1000000000 := by
  unfold numOf
  constructor
  · intro h
    split at h
    · rename_i hc
      injection h with h
      subst h
      rw [Bool.and_eq_true, decide_eq_true_eq, digB_iff] at hc
      obtain ⟨⟨h1, _, h3, h4⟩, h5⟩ := hc
      exact ⟨(dec_numV w h4 h1 h3).symm, h5⟩
    · cases h
  · rintro ⟨rfl, h⟩
    obtain ⟨h1, h2, h3, h4, _⟩ := decDigits_facts n
    have hl := decDigits_len (k := 10) (u := n) (by omega) (by omega)
    rw [if_pos, h2]
    rw [Bool.and_eq_true, decide_eq_true_eq, digB_iff]
    exact ⟨⟨h3, hl, h4, h1⟩, by rw [h2]; exact h⟩
theorem numOf_dec {n : Nat} (h : n ≤ 1000000000) : numOf (Lib.decDigits n) = some n := numOf_iff.2 ⟨rfl, h⟩
theorem numOf_bad {w : List UInt8} (h : digB w 10 = false) : numOf w = none := by unfold numOf; rw [h]; rfl
theorem numOf_good {w : List UInt8} (h : digB w 10 = true) : numOf w = if numV w ≤ 1000000000 then some (numV w) else none := by
  unfold numOf; rw [h]; by_cases h2 : numV w ≤ 1000000000 <;> simp [h2]
theorem numV_small {w : List UInt8} {k : Nat} (h : digB w k = true) : numV w < 10 ^ k := by
  obtain ⟨_, h2, _, h4⟩ := digB_iff.1 h
  exact Nat.lt_of_lt_of_le (numV_lt w h4) (Nat.pow_le_pow_right (by omega) h2)
theorem parseM_dig (M : Nat) : ∀ (w : List UInt8) (acc : Nat), w.all isDig = true → (acc + 1) * 10 ^ w.length ≤ 1000000000000 → 1000000000000 ≤ M → Lib.parseUintM M acc w = .ok (w.foldl (fun n b => 10 * n + (b.toNat - 48)) acc)
  | [], acc, _, _, _ => rfl
  | b :: r, acc, h, hb, hM => by
    rw [List.all_cons, Bool.and_eq_true] at h
    have hd := isDig_iff.1 h.1
    have hp : 1 ≤ 10 ^ r.length := Nat.one_le_pow _ _ (by omega)
    have hb' : (acc + 1) * 10 * 10 ^ r.length ≤ 1000000000000 := by
      rw [List.length_cons, Nat.pow_succ, Nat.mul_comm (10 ^ r.length) 10, ← Nat.mul_assoc] at hb; exact hb
    have h1 : (acc + 1) * 10 ≤ 1000000000000 := Nat.le_trans (Nat.le_mul_of_pos_right _ hp) hb'
    have h2 : (acc * 10 + (b.toNat - 48) + 1) * 10 ^ r.length ≤ 1000000000000 := Nat.le_trans (Nat.mul_le_mul_right _ (by omega)) hb'
    rw [Lib.parseUintM, if_pos hd, if_neg (by omega), if_neg (by omega), parseM_dig M r _ h.2 h2 hM, List.foldl_cons, Nat.mul_comm acc 10]
theorem parseInt_dig {w : List UInt8} (h : digB w 10 = true) : Lib.parseIntB 64 w = .ok (numV w : Int) := by
  obtain ⟨h1, h2, _, h4⟩ := digB_iff.1 h
  have hlt := numV_small h
  cases w with
  | nil => exact absurd rfl h1
  | cons c r =>
    have hc : isDig c = true := by rw [List.all_cons, Bool.and_eq_true] at h4; exact h4.1
    have hd := isDig_iff.1 hc
    have hp : Lib.parseUintB 64 (c :: r) = .ok (numV (c :: r)) := by
      unfold Lib.parseUintB
      rw [if_neg (by simp)]
      refine parseM_dig _ _ 0 h4 ?_ (by decide)
      have : 10 ^ (c :: r).length ≤ 10 ^ 10 := Nat.pow_le_pow_right (by omega) h2
      omega
    unfold Lib.parseIntB
    simp only
    rw [if_neg (by omega), hp]
    simp only
    have h45 : ¬ c.toNat = 45 := by omega
    have h63 : ¬ (2 ^ (64 - 1) ≤ numV (c :: r)) := by omega
    simp [h45]
    omega
end Go.Proofs.YtlhanpkfnhnegaaDoor
