/- Books and acknowledgements, and what of a log is compared: both sides. -/
import Derived.Test.YthmckpghadfeeaaGreatWB1
set_option linter.unusedVariables false
set_option linter.unusedSimpArgs false
set_option maxRecDepth 100000
namespace Go.Proofs.YthmckpghadfeeaaGreat
open Go.ChangeShapes Go.WideShapes Go.RowKit
def dk_WB7_spec_l12Owes_7 : List (List Nat) := [[], [0], [], [2, 0, 1], [1, 0, 2, 3], [], [], [6, 5], [5, 6, 7], [7, 6, 5, 8], [8, 5, 6, 7, 9, 3, 2, 0, 1, 4]]
def fk_WB7_spec_l12Owes_7 : List (List Nat) := [[0, 0, 2, 0, 0, 2, 2, 2, 2, 2], [1, 0, 2, 0, 0, 2, 2, 2, 2, 2], [2, 2, 0, 0, 0, 2, 2, 2, 2, 2], [1, 1, 1, 0, 0, 2, 2, 2, 2, 2], [1, 1, 1, 1, 0, 2, 2, 2, 2, 2], [2, 2, 2, 2, 2, 0, 2, 0, 0, 0], [2, 2, 2, 2, 2, 2, 0, 0, 0, 0], [2, 2, 2, 2, 2, 1, 1, 0, 0, 0], [2, 2, 2, 2, 2, 1, 1, 1, 0, 0], [2, 2, 2, 2, 2, 1, 1, 1, 1, 0]]

def entry0 : DEntry := ⟨0, 0, 0, 0, ⟨0, 0, 0, 0, 0⟩⟩
theorem book_parts {b : DBook} (h : bookOk b = true) : (0 ≤ b.base ∧ b.base ≤ 2000) ∧ tOk b.time = true ∧ b.entries.length ≤ 20 ∧ entriesOk b.entries = true := by
  simp only [bookOk, Bool.and_eq_true, betweenB, decide_eq_true_eq] at h
  obtain ⟨⟨⟨⟨⟨h1, h2⟩, _⟩, h4⟩, h5⟩, _⟩ := h
  exact ⟨h1, h2, h4, h5⟩
theorem book_entry {b : DBook} (h : bookOk b = true) {k : Nat} (hk : k < b.entries.length) : entryOk b.entries[k] = true := by
  have h5 := (book_parts h).2.2.2
  simp only [entriesOk, Bool.and_eq_true] at h5
  exact all_get h5.1.2 hk
theorem book_first {b : DBook} (h : bookOk b = true) {e : DEntry} {r : List DEntry} (he : b.entries = e :: r) : e.index = b.base + 1 := by
  simp only [bookOk, Bool.and_eq_true] at h
  have h6 := h.2
  rw [he] at h6
  simp only [Bool.and_eq_true, beq_iff_eq] at h6
  exact h6.1
theorem head_at {l : List DEntry} (hk : 0 < l.length) : ∃ r, l = l[0] :: r := by
  cases l with
  | nil => simp at hk
  | cons e r => exact ⟨r, rfl⟩
theorem book_index {b : DBook} (h : bookOk b = true) : ∀ (k : Nat) (hk : k < b.entries.length), b.entries[k].index = b.base + 1 + k := by
  intro k
  induction k with
  | zero =>
    intro hk
    obtain ⟨r, hr⟩ := head_at hk
    have := book_first h hr
    omega
  | succ k ih =>
    intro hk
    have h5 := (book_parts h).2.2.2
    simp only [entriesOk, Bool.and_eq_true] at h5
    have := adjB_get h5.2 hk
    simp only [nextE, Bool.and_eq_true, beq_iff_eq] at this
    have := ih (by omega)
    omega
theorem book_last {b : DBook} (h : bookOk b = true) : b.base ≤ lastB b ∧ lastB b ≤ 2000 := by
  have h1 := (book_parts h).1
  refine ⟨by unfold lastB; omega, ?_⟩
  rcases Nat.eq_zero_or_pos b.entries.length with h0 | h0
  · unfold lastB; omega
  · have h2 := book_index h (b.entries.length - 1) (by omega)
    have h3 := entry_bounds (book_entry h (k := b.entries.length - 1) (by omega))
    have h4 := h3.2.2
    simp only [betweenB, Bool.and_eq_true, decide_eq_true_eq] at h4
    unfold lastB
    omega
theorem take_of {l : List DEntry} : ∀ {c m : Int}, (∀ (k : Nat) (hk : k < l.length), l[k].index = c + k) → l.filter (fun e => decide (e.index < m)) = l.take (m - c).toNat := by
  induction l with
  | nil => intro c m _; simp
  | cons e r ih =>
    intro c m h
    have h0 := h 0 (by simp)
    have hr := ih (c := c + 1) (m := m) fun k hk => by
      have := h (k + 1) (by simpa using hk)
      simp only [List.getElem_cons_succ] at this
      omega
    simp only [List.getElem_cons_zero] at h0
    by_cases hm : e.index < m
    · rw [List.filter_cons_of_pos (by simpa using hm), hr]
      have : (m - c).toNat = (m - (c + 1)).toNat + 1 := by omega
      rw [this, List.take_succ_cons]
    · rw [List.filter_cons_of_neg (by simpa using hm), hr]
      have e1 : (m - c).toNat = 0 := by omega
      have e2 : (m - (c + 1)).toNat = 0 := by omega
      rw [e1, e2]; simp
def partL (b : DBook) (lo hi : Int) : List DEntry := b.entries.filter fun e => betweenB e.index lo hi
theorem filter_congr' {l : List DEntry} {p q : DEntry → Bool} (h : ∀ e ∈ l, p e = q e) : l.filter p = l.filter q := by
  induction l with
  | nil => rfl
  | cons e r ih =>
    have h0 := h e (by simp)
    have hr := ih fun x hx => h x (List.mem_cons_of_mem _ hx)
    cases hp : p e with
    | true => rw [List.filter_cons_of_pos hp, List.filter_cons_of_pos (by rw [← h0, hp]), hr]
    | false => rw [List.filter_cons_of_neg (by simp [hp]), List.filter_cons_of_neg (by simp [← h0, hp]), hr]
theorem part_to {b : DBook} (h : bookOk b = true) (i : Int) : partL b (b.base + 1) i = entTo b i := by
  have h1 : partL b (b.base + 1) i = b.entries.filter fun e => decide (e.index < i + 1) := filter_congr' fun e he => by
    obtain ⟨k, hk, rfl⟩ := List.getElem_of_mem he
    have := book_index h k hk
    rw [Bool.eq_iff_iff]
    simp [betweenB]
    omega
  rw [h1, take_of (c := b.base + 1) (book_index h)]
  unfold entTo
  congr 1
  omega
theorem part_after {b : DBook} (h : bookOk b = true) (d : Int) : partL b (d + 1) 2000 = entAfter b d := filter_congr' fun e he => by
  obtain ⟨k, hk, rfl⟩ := List.getElem_of_mem he
  have h3 := (entry_bounds (book_entry h hk)).2.2
  rw [Bool.eq_iff_iff]
  simp [betweenB] at h3 ⊢
  omega
theorem ilastOf_p (b : DBook) (h : bookOk b = true) : PCall av 193 [.agg b.ds] (.val (pI (lastB b))) := by
  have hp := book_parts h
  have hq := book_last h
  refine pcall_of av_ok Tryz.func193 rfl Tryz.call193 Tryz.ntmps193 (congrArg Array.toList Tryz.results193) fun S => ?_; conv => whnf
  repeat' (first | (refine AWP.seq ?_) | ((first | refine AWP.region av_ok ?_ | refine AWP.ret ?_ | refine AWP.skip ?_ | refine AWP.exit ?_ | refine AWP.block ?_ | refine AWP.cond ?_ | refine AB.tt ?_ | refine AB.ff ?_); conv => whnf) | ((first | refine AB.ofT (by assumption) ?_ | refine AB.ofF (by assumption) ?_); conv => whnf) | (refine AW.i64 (by simp only [decide_eq_true_eq, decide_eq_false_iff_not, List.length_map, Bool.not_eq_true', Bool.not_eq_false'] at *; omega) (by simp only [decide_eq_true_eq, decide_eq_false_iff_not, List.length_map, Bool.not_eq_true', Bool.not_eq_false'] at *; omega) ?_; conv => whnf) | (exact trivial) | (refine And.intro rfl ?_; conv => whnf) | (refine AB.mk (fun h => ?_) (fun h => ?_) <;> (conv => whnf)) | (with_reducible_and_instances rfl) | (exact (rfl : AP.tup _ = AP.tup _)))
  all_goals simp [lastB]
theorem sl8Last_p (b : DBook) (h : bookOk b = true) : PCall av 159 [.agg b.ds] (.val (pI (lastB b))) := by
  have hp := book_parts h
  have hq := book_last h
  refine pcall_of av_ok Tryz.func159 rfl Tryz.call159 Tryz.ntmps159 (congrArg Array.toList Tryz.results159) fun S => ?_; conv => whnf
  repeat' (first | (refine AWP.seq ?_) | ((first | refine AWP.region av_ok ?_ | refine AWP.ret ?_ | refine AWP.skip ?_ | refine AWP.exit ?_ | refine AWP.block ?_ | refine AWP.cond ?_ | refine AB.tt ?_ | refine AB.ff ?_); conv => whnf) | ((first | refine AB.ofT (by assumption) ?_ | refine AB.ofF (by assumption) ?_); conv => whnf) | (refine AW.i64 (by simp only [decide_eq_true_eq, decide_eq_false_iff_not, List.length_map, Bool.not_eq_true', Bool.not_eq_false'] at *; omega) (by simp only [decide_eq_true_eq, decide_eq_false_iff_not, List.length_map, Bool.not_eq_true', Bool.not_eq_false'] at *; omega) ?_; conv => whnf) | (exact trivial) | (refine And.intro rfl ?_; conv => whnf) | (refine AB.mk (fun h => ?_) (fun h => ?_) <;> (conv => whnf)) | (with_reducible_and_instances rfl) | (exact (rfl : AP.tup _ = AP.tup _)))
  all_goals simp [lastB]
def timeAt (b : DBook) (i : Int) : Int := (b.entries.getD (i - b.base - 1).toNat entry0).time
theorem sl8TimeAt_p (b : DBook) (i : Int) (h : bookOk b = true) (h1 : b.base + 1 ≤ i) (h2 : i ≤ lastB b) : PCall av 217 [.agg b.ds, .one (dI i)] (.val (pI (timeAt b i))) := by
  have hp := book_parts h
  have hq := book_last h
  obtain ⟨k, hk⟩ : ∃ k : Nat, i - b.base - 1 = k := ⟨(i - b.base - 1).toNat, by omega⟩
  have hkl : k < b.entries.length := by unfold lastB at h2; omega
  refine pcall_of av_ok Tryz.func217 rfl Tryz.call217 Tryz.ntmps217 (congrArg Array.toList Tryz.results217) fun S => ?_; conv => whnf
  repeat' (first | (refine AWP.seq ?_) | ((first | refine AWP.region av_ok ?_ | refine AWP.ret ?_ | refine AWP.skip ?_ | refine AWP.exit ?_ | refine AWP.block ?_ | refine AWP.cond ?_ | refine AB.tt ?_ | refine AB.ff ?_); conv => whnf) | ((first | refine AB.ofT (by assumption) ?_ | refine AB.ofF (by assumption) ?_); conv => whnf) | (refine AW.i64 (by omega) (by omega) ?_; conv => whnf) | (refine AIx.at k (DEntry.ds (b.entries[k]'hkl)) hk (by simp [hkl]) ?_; conv => whnf) | (exact trivial) | (refine And.intro rfl ?_; conv => whnf) | (refine AB.mk (fun h => ?_) (fun h => ?_) <;> (conv => whnf)) | (with_reducible_and_instances rfl) | (exact (rfl : AP.tup _ = AP.tup _)))
  · exfalso; simp at h; omega
  · have e : (i - b.base - 1).toNat = k := by omega
    simp only [timeAt, e, List.getD_eq_getElem?_getD, List.getElem?_eq_getElem hkl, Option.getD_some]
theorem iAckOf_p (e : DEntry) : PCall av 243 [.agg e.ds] (.val (.agg (ackOf e).ds)) := by
  refine pcall_of av_ok Tryz.func243 rfl Tryz.call243 Tryz.ntmps243 (congrArg Array.toList Tryz.results243) fun S => ?_; conv => whnf
  repeat' (first | (refine AWP.seq ?_) | ((first | refine AWP.region av_ok ?_ | refine AWP.ret ?_ | refine AWP.skip ?_ | refine AWP.exit ?_ | refine AWP.block ?_ | refine AWP.cond ?_ | refine AB.tt ?_ | refine AB.ff ?_); conv => whnf) | ((first | refine AB.ofT (by assumption) ?_ | refine AB.ofF (by assumption) ?_); conv => whnf) | (refine ACall.pure (iEntryOk_p e) rfl ?_; conv => whnf) | (refine AFCall.mk ⟨_, _, iEntryOk_p e, .inl rfl, ?_⟩; conv => whnf) | (exact trivial) | (refine And.intro rfl ?_; conv => whnf) | (refine AB.mk (fun h => ?_) (fun h => ?_) <;> (conv => whnf)) | (with_reducible_and_instances rfl) | (exact (rfl : AP.tup _ = AP.tup _)))
  all_goals
    simp_all [ackOf, DAck.ds]
theorem sAckOf_p (e : DEntry) : PCall av 216 [.agg e.ds] (.val (.agg (ackOf e).ds)) := by
  refine pcall_of av_ok Tryz.func216 rfl Tryz.call216 Tryz.ntmps216 (congrArg Array.toList Tryz.results216) fun S => ?_; conv => whnf
  repeat' (first | (refine AWP.seq ?_) | ((first | refine AWP.region av_ok ?_ | refine AWP.ret ?_ | refine AWP.skip ?_ | refine AWP.exit ?_ | refine AWP.block ?_ | refine AWP.cond ?_ | refine AB.tt ?_ | refine AB.ff ?_); conv => whnf) | ((first | refine AB.ofT (by assumption) ?_ | refine AB.ofF (by assumption) ?_); conv => whnf) | (refine ACall.pure (sEntryOk_p e) rfl ?_; conv => whnf) | (refine AFCall.mk ⟨_, _, sEntryOk_p e, .inl rfl, ?_⟩; conv => whnf) | (exact trivial) | (refine And.intro rfl ?_; conv => whnf) | (refine AB.mk (fun h => ?_) (fun h => ?_) <;> (conv => whnf)) | (with_reducible_and_instances rfl) | (exact (rfl : AP.tup _ = AP.tup _)))
  all_goals
    simp_all [ackOf, DAck.ds]
theorem filt_yes {l : List DEntry} {p : DEntry → Bool} {k : Nat} (hk : k < l.length) (h : p l[k] = true) : (l.take (k + 1)).filter p = (l.take k).filter p ++ [l[k]] := by
  rw [List.take_succ_eq_append_getElem hk, List.filter_append, List.filter_cons_of_pos h, List.filter_nil]
theorem filt_no {l : List DEntry} {p : DEntry → Bool} {k : Nat} (hk : k < l.length) (h : p l[k] = false) : (l.take (k + 1)).filter p = (l.take k).filter p := by
  rw [List.take_succ_eq_append_getElem hk, List.filter_append, List.filter_cons_of_neg (by simp [h]), List.filter_nil, List.append_nil]
theorem filt_len {l : List DEntry} {p : DEntry → Bool} {k : Nat} : ((l.take k).filter p).length ≤ l.length := Nat.le_trans (List.length_filter_le ..) (by simp; omega)
theorem sl12Part_p (b : DBook) (lo hi : Int) (h20 : b.entries.length ≤ 20) : PCall av 215 [.agg b.ds, .one (dI lo), .one (dI hi)] (.val (.one (.sl ((partL b lo hi).map DEntry.ds)))) := by
  refine pcall_of av_ok Tryz.func215 rfl Tryz.call215 Tryz.ntmps215 (congrArg Array.toList Tryz.results215) fun S => ?_; conv => whnf
  repeat' (first | (refine AWP.seq ?_) | ((first | refine AWP.region av_ok ?_ | refine AWP.ret ?_ | refine AWP.skip ?_ | refine AWP.exit ?_ | refine AWP.block ?_ | refine AWP.cond ?_ | refine AB.tt ?_ | refine AB.ff ?_); conv => whnf) | ((first | refine AB.ofT (by assumption) ?_ | refine AB.ofF (by assumption) ?_); conv => whnf) | (exact trivial) | (refine And.intro rfl ?_; conv => whnf) | (refine AB.mk (fun h => ?_) (fun h => ?_) <;> (conv => whnf)) | (with_reducible_and_instances rfl) | (exact (rfl : AP.tup _ = AP.tup _)))
  refine AWP.loopS (fun k : Nat => k ≤ b.entries.length) (9 :: [7, 8, 10, 11, 12, 13, 14, 15, 16, 17, 18, 19, 20, 21, 22, 23, 24, 25, 26, 27, 28, 29, 30, 31, 32, 33]) (fun k => [(7, .one (.own 9)), (8, vI .i64 (k : Int))]) (fun k => [(9, .row 259 9 (((b.entries.take k).filter fun e => betweenB e.index lo hi).map DEntry.ds)), (3, .cells 78 (b.ds.map .d))]) (fun k => b.entries.length - k) 0 (by omega) ?_ (SubO.cons rfl (SubO.cons rfl SubO.nil)) (fun k hk => ?_) <;> (conv => whnf)
  · repeat' (first | exact trivial | (refine ⟨rfl, ?_⟩; conv => whnf))
  · have hfl : ((b.entries.take k).filter fun e => betweenB e.index lo hi).length ≤ b.entries.length := filt_len
    repeat' (first | (refine AWP.seq ?_) | ((first | refine AWP.region av_ok ?_ | refine AWP.ret ?_ | refine AWP.skip ?_ | refine AWP.exit ?_ | refine AWP.block ?_ | refine AWP.cond ?_ | refine AB.tt ?_ | refine AB.ff ?_); conv => whnf) | ((first | refine AB.ofT (by assumption) ?_ | refine AB.ofF (by assumption) ?_); conv => whnf) | (refine AIx.mapF (by simp only [decide_eq_true_eq, decide_eq_false_iff_not, List.length_map, Bool.not_eq_true', Bool.not_eq_false'] at *; omega) (fun hlt => ?_); conv => whnf) | (refine AW.i64 (by simp only [decide_eq_true_eq, decide_eq_false_iff_not, List.length_map, Bool.not_eq_true', Bool.not_eq_false'] at *; omega) (by simp only [decide_eq_true_eq, decide_eq_false_iff_not, List.length_map, Bool.not_eq_true', Bool.not_eq_false'] at *; omega) ?_; conv => whnf) | (refine ACall.pure (sl1In_p _ _ _) rfl ?_; conv => whnf) | (refine AFCall.mk ⟨_, _, sl1In_p _ _ _, .inl rfl, ?_⟩; conv => whnf) | (refine all_lenW (fun x hx => by obtain ⟨y, _, rfl⟩ := List.mem_map.1 hx; rfl) ?_; conv => whnf) | (refine sz_appW (by simp only [List.length_map, List.length_nil, List.length_append, List.length_cons] <;> omega) ?_; conv => whnf) | (exact trivial) | (refine And.intro rfl ?_; conv => whnf) | (refine AB.mk (fun h => ?_) (fun h => ?_) <;> (conv => whnf)) | (with_reducible_and_instances rfl) | (exact (rfl : AP.tup _ = AP.tup _)))
    all_goals first
      | (refine ANext.mk ⟨k + 1, (by simp only [decide_eq_true_eq, decide_eq_false_iff_not, List.length_map, Bool.not_eq_true', Bool.not_eq_false'] at *; omega), (by simp only [decide_eq_true_eq, decide_eq_false_iff_not, List.length_map, Bool.not_eq_true', Bool.not_eq_false'] at *; omega), ?_, SubO.cons (congrArg some (congrArg (AO.row 259 9) (by rw [filt_yes (by simp only [decide_eq_true_eq, decide_eq_false_iff_not, List.length_map, Bool.not_eq_true', Bool.not_eq_false'] at *; omega) (by assumption)]; simp only [List.map_append, List.map_cons, List.map_nil]; rfl))) (SubO.cons rfl SubO.nil)⟩
         (conv => whnf); repeat' (first | exact trivial | (refine ⟨rfl, ?_⟩; conv => whnf)))
      | (refine ANext.mk ⟨k + 1, (by simp only [decide_eq_true_eq, decide_eq_false_iff_not, List.length_map, Bool.not_eq_true', Bool.not_eq_false'] at *; omega), (by simp only [decide_eq_true_eq, decide_eq_false_iff_not, List.length_map, Bool.not_eq_true', Bool.not_eq_false'] at *; omega), ?_, SubO.cons (congrArg some (congrArg (AO.row 259 9) (by rw [filt_no (by simp only [decide_eq_true_eq, decide_eq_false_iff_not, List.length_map, Bool.not_eq_true', Bool.not_eq_false'] at *; omega) (by assumption)]))) (SubO.cons rfl SubO.nil)⟩
         (conv => whnf); repeat' (first | exact trivial | (refine ⟨rfl, ?_⟩; conv => whnf)))
      | (have hkk : k = b.entries.length := (by simp only [decide_eq_true_eq, decide_eq_false_iff_not, List.length_map, Bool.not_eq_true', Bool.not_eq_false'] at *; omega)
         subst hkk
         simp only [List.take_length, partL])
theorem ack_no {P : List DEntry} {l : List DAck} (hl : P.length = l.length) {k : Nat} (hk : k < P.length) (h : (l[k]'(by omega) != ackOf P[k]) = true) : decide (l = P.map ackOf) = false := decide_eq_false fun e => by
  subst e
  simp at h
theorem ack_yes {P : List DEntry} {l : List DAck} (hl : P.length = l.length) (h : ∀ (j : Nat) (h1 : j < P.length), l[j]'(by omega) = ackOf P[j]) : decide (l = P.map ackOf) = true := decide_eq_true (List.ext_getElem (by simp [hl]) fun j h1 h2 => by
  simp at h2
  rw [h j h2]; simp)
theorem step_ack {P : List DEntry} {l : List DAck} {k : Nat} {hl : P.length = l.length} (h : ∀ (j : Nat) (hj : j < k) (h1 : j < P.length), l[j]'(by omega) = ackOf P[j]) {h1 : k < P.length} (hk : l[k]'(by omega) = ackOf P[k]) : ∀ (j : Nat) (hj : j < k + 1) (h1 : j < P.length), l[j]'(by omega) = ackOf P[j] := fun j hj h1 => by
  rcases Nat.lt_succ_iff_lt_or_eq.1 hj with h2 | h2
  · exact h j h2 h1
  · subst h2; exact hk
theorem sl12Owes_p (n : DLogNode) (hb : bookOk n.book = true) (hd : n.book.base ≤ n.durable ∧ n.durable ≤ lastB n.book) (ho : n.owe.length ≤ 9223372036854775806) : PCall av 160 [.agg n.ds] (rB (decide (n.owe = (entAfter n.book n.durable).map ackOf))) := by
  have hp := book_parts hb
  have hq := book_last hb
  have h20 := hp.2.2.1
  rw [← part_after hb]
  have hlen : (partL n.book (n.durable + 1) 2000).length ≤ 20 := Nat.le_trans (List.length_filter_le ..) h20
  refine pcall_of av_ok Tryz.func160 rfl Tryz.call160 Tryz.ntmps160 (congrArg Array.toList Tryz.results160) fun S => ?_; conv => whnf
  repeat' (first | (refine AWP.seq ?_) | ((first | refine AWP.region av_ok ?_ | refine AWP.ret ?_ | refine AWP.skip ?_ | refine AWP.exit ?_ | refine AWP.block ?_ | refine AWP.cond ?_ | refine AB.tt ?_ | refine AB.ff ?_); conv => whnf) | ((first | refine AB.ofT (by assumption) ?_ | refine AB.ofF (by assumption) ?_); conv => whnf) | (refine AW.i64 (by omega) (by omega) ?_; conv => whnf) | (refine ACall.pure (sl12Part_p n.book _ _ h20) rfl ?_; conv => whnf) | (refine AFCall.mk ⟨_, _, sl12Part_p n.book _ _ h20, .inl rfl, ?_⟩; conv => whnf) | (exact trivial) | (refine And.intro rfl ?_; conv => whnf) | (refine AB.mk (fun h => ?_) (fun h => ?_) <;> (conv => whnf)) | (with_reducible_and_instances rfl) | (exact (rfl : AP.tup _ = AP.tup _)))
  · have hne : (partL n.book (n.durable + 1) 2000).length ≠ n.owe.length := (by simp only [bne_iff_ne, ne_eq, decide_eq_true_eq, decide_eq_false_iff_not, List.length_map, bne_eq_false_iff_eq] at *; omega)
    rw [decide_eq_false fun e => hne (by rw [e, List.length_map])]
  · have hln : (partL n.book (n.durable + 1) 2000).length = n.owe.length := (by simp only [bne_iff_ne, ne_eq, decide_eq_true_eq, decide_eq_false_iff_not, List.length_map, bne_eq_false_iff_eq] at *; omega)
    clear h
    refine AWP.loopS (fun k : Nat => k ≤ (partL n.book (n.durable + 1) 2000).length ∧ ∀ (j : Nat) (hj : j < k) (h1 : j < (partL n.book (n.durable + 1) 2000).length), n.owe[j]'(by omega) = ackOf (partL n.book (n.durable + 1) 2000)[j]) [2, 4, 17, 18, 19, 20, 21, 22, 23, 24, 25, 26, 27, 28, 29, 30, 31, 32, 33] (fun k => [(4, vI .i64 (k : Int))]) (fun _ => [(1, .cells 81 (n.ds.map .d))]) (fun k => (partL n.book (n.durable + 1) 2000).length - k) 0 ⟨by omega, by omega⟩ ?_ (SubO.cons rfl SubO.nil) (fun k hR => ?_) <;> (conv => whnf)
    · repeat' (first | exact trivial | (refine ⟨rfl, ?_⟩; conv => whnf))
    · obtain ⟨hk, hall⟩ := hR
      repeat' (first | (refine AWP.seq ?_) | ((first | refine AWP.region av_ok ?_ | refine AWP.ret ?_ | refine AWP.skip ?_ | refine AWP.exit ?_ | refine AWP.block ?_ | refine AWP.cond ?_ | refine AB.tt ?_ | refine AB.ff ?_); conv => whnf) | ((first | refine AB.ofT (by assumption) ?_ | refine AB.ofF (by assumption) ?_); conv => whnf) | (refine AWP.drawK av_ok 7 10 dk_WB7_spec_l12Owes_7 fk_WB7_spec_l12Owes_7 (by kernel_rfl) (by kernel_rfl) (by kernel_rfl) rfl ?_; conv => whnf) | (refine AIx.mapF (by simp only [decide_eq_true_eq, decide_eq_false_iff_not, List.length_map, Bool.not_eq_true', Bool.not_eq_false'] at *; omega) (fun hlt => ?_); conv => whnf) | (refine AIx.mapF (l := n.owe) (by clear hall; simp only [List.length_map, decide_eq_true_eq] at *; omega) (fun hlt => ?_); conv => whnf) | (refine AW.i64 (by simp only [decide_eq_true_eq, decide_eq_false_iff_not, List.length_map, Bool.not_eq_true', Bool.not_eq_false'] at *; omega) (by simp only [decide_eq_true_eq, decide_eq_false_iff_not, List.length_map, Bool.not_eq_true', Bool.not_eq_false'] at *; omega) ?_; conv => whnf) | (refine ACall.pure (sAckOf_p _) rfl ?_; conv => whnf) | (refine AFCall.mk ⟨_, _, sAckOf_p _, .inl rfl, ?_⟩; conv => whnf) | (refine AOp.eqs (neqAck_at _ _) rfl rfl rfl rfl rfl ?_; conv => whnf) | (exact trivial) | (refine And.intro rfl ?_; conv => whnf) | (refine AB.mk (fun h => ?_) (fun h => ?_) <;> (conv => whnf)) | (with_reducible_and_instances rfl) | (exact (rfl : AP.tup _ = AP.tup _)))
      all_goals first
        | (rw [ack_no hln (k := k) (by simp only [decide_eq_true_eq, decide_eq_false_iff_not, List.length_map, Bool.not_eq_true', Bool.not_eq_false'] at *; omega) (by first | (simpa using h) | (exfalso; assumption))]; done)
        | (refine ANext.mk ⟨k + 1, ⟨(by simp only [decide_eq_true_eq, decide_eq_false_iff_not, List.length_map, Bool.not_eq_true', Bool.not_eq_false'] at *; omega), step_ack (hl := hln) (h1 := (by simp only [decide_eq_true_eq, decide_eq_false_iff_not, List.length_map, Bool.not_eq_true', Bool.not_eq_false'] at *; omega)) hall (by simpa using h)⟩, (by simp only [decide_eq_true_eq, decide_eq_false_iff_not, List.length_map, Bool.not_eq_true', Bool.not_eq_false'] at *; omega), ?_, SubO.cons rfl SubO.nil⟩
           (conv => whnf); repeat' (first | exact trivial | (refine ⟨rfl, ?_⟩; conv => whnf)))
        | (have hkk : k = (partL n.book (n.durable + 1) 2000).length := (by simp only [decide_eq_true_eq, decide_eq_false_iff_not, List.length_map, Bool.not_eq_true', Bool.not_eq_false'] at *; omega)
           rw [ack_yes hln fun j h1 => hall j (by omega) h1])
theorem head_eq {a b : DHead} : a = b ↔ (a.num = b.num ∧ a.base = b.base ∧ a.time = b.time ∧ a.seen = b.seen) := by
  cases a; cases b; simp [DHead.mk.injEq]
theorem isameHead_p (a b : DHead) (ha : a.seen.length ≤ 9223372036854775806) : PCall av 198 [.agg a.ds, .agg b.ds] (rB (decide (a = b))) := by
  refine pcall_of av_ok Tryz.func198 rfl Tryz.call198 Tryz.ntmps198 (congrArg Array.toList Tryz.results198) fun S => ?_; conv => whnf
  repeat' (first | (refine AWP.seq ?_) | ((first | refine AWP.region av_ok ?_ | refine AWP.ret ?_ | refine AWP.skip ?_ | refine AWP.exit ?_ | refine AWP.block ?_ | refine AWP.cond ?_ | refine AB.tt ?_ | refine AB.ff ?_); conv => whnf) | ((first | refine AB.ofT (by assumption) ?_ | refine AB.ofF (by assumption) ?_); conv => whnf) | (refine ACall.pure (iSameSeen_p a.seen b.seen ha) rfl ?_; conv => whnf) | (refine AFCall.mk ⟨_, _, iSameSeen_p a.seen b.seen ha, .inl rfl, ?_⟩; conv => whnf) | (exact trivial) | (refine And.intro rfl ?_; conv => whnf) | (refine AB.mk (fun h => ?_) (fun h => ?_) <;> (conv => whnf)) | (with_reducible_and_instances rfl) | (exact (rfl : AP.tup _ = AP.tup _)))
  all_goals
    refine rB_of ?_
    rw [Bool.eq_iff_iff]
    simp only [decide_eq_true_iff, head_eq]
    simp_all
theorem sl12SameHead_p (a b : DHead) (ha : a.seen.length ≤ 9223372036854775806) : PCall av 161 [.agg a.ds, .agg b.ds] (rB (decide (a = b))) := by
  refine pcall_of av_ok Tryz.func161 rfl Tryz.call161 Tryz.ntmps161 (congrArg Array.toList Tryz.results161) fun S => ?_; conv => whnf
  repeat' (first | (refine AWP.seq ?_) | ((first | refine AWP.region av_ok ?_ | refine AWP.ret ?_ | refine AWP.skip ?_ | refine AWP.exit ?_ | refine AWP.block ?_ | refine AWP.cond ?_ | refine AB.tt ?_ | refine AB.ff ?_); conv => whnf) | ((first | refine AB.ofT (by assumption) ?_ | refine AB.ofF (by assumption) ?_); conv => whnf) | (refine ACall.pure (sSameSeen_p a.seen b.seen ha) rfl ?_; conv => whnf) | (refine AFCall.mk ⟨_, _, sSameSeen_p a.seen b.seen ha, .inl rfl, ?_⟩; conv => whnf) | (exact trivial) | (refine And.intro rfl ?_; conv => whnf) | (refine AB.mk (fun h => ?_) (fun h => ?_) <;> (conv => whnf)) | (with_reducible_and_instances rfl) | (exact (rfl : AP.tup _ = AP.tup _)))
  all_goals
    refine rB_of ?_
    rw [Bool.eq_iff_iff]
    simp only [decide_eq_true_iff, head_eq]
    simp_all
theorem book_eq {a b : DBook} : a = b ↔ (a.base = b.base ∧ a.time = b.time ∧ a.entries = b.entries) := by
  cases a; cases b; simp [DBook.mk.injEq]
theorem iSameBook_p (a b : DBook) (ha : a.entries.length ≤ 9223372036854775806) : PCall av 199 [.agg a.ds, .agg b.ds] (rB (decide (a = b))) := by
  refine pcall_of av_ok Tryz.func199 rfl Tryz.call199 Tryz.ntmps199 (congrArg Array.toList Tryz.results199) fun S => ?_; conv => whnf
  repeat' (first | (refine AWP.seq ?_) | ((first | refine AWP.region av_ok ?_ | refine AWP.ret ?_ | refine AWP.skip ?_ | refine AWP.exit ?_ | refine AWP.block ?_ | refine AWP.cond ?_ | refine AB.tt ?_ | refine AB.ff ?_); conv => whnf) | ((first | refine AB.ofT (by assumption) ?_ | refine AB.ofF (by assumption) ?_); conv => whnf) | (refine ACall.pure (slEqEntry_p a.entries b.entries ha) rfl ?_; conv => whnf) | (refine AFCall.mk ⟨_, _, slEqEntry_p a.entries b.entries ha, .inl rfl, ?_⟩; conv => whnf) | (exact trivial) | (refine And.intro rfl ?_; conv => whnf) | (refine AB.mk (fun h => ?_) (fun h => ?_) <;> (conv => whnf)) | (with_reducible_and_instances rfl) | (exact (rfl : AP.tup _ = AP.tup _)))
  all_goals
    refine rB_of ?_
    rw [Bool.eq_iff_iff]
    simp only [decide_eq_true_iff, book_eq]
    simp_all
theorem sl22HeadZero_p (a : DHead) : PCall av 164 [.agg a.ds] (rB (decide (a = head0))) := by
  refine pcall_of av_ok Tryz.func164 rfl Tryz.call164 Tryz.ntmps164 (congrArg Array.toList Tryz.results164) fun S => ?_; conv => whnf
  repeat' (first | (refine AWP.seq ?_) | ((first | refine AWP.region av_ok ?_ | refine AWP.ret ?_ | refine AWP.skip ?_ | refine AWP.exit ?_ | refine AWP.block ?_ | refine AWP.cond ?_ | refine AB.tt ?_ | refine AB.ff ?_); conv => whnf) | ((first | refine AB.ofT (by assumption) ?_ | refine AB.ofF (by assumption) ?_); conv => whnf) | (exact trivial) | (refine And.intro rfl ?_; conv => whnf) | (refine AB.mk (fun h => ?_) (fun h => ?_) <;> (conv => whnf)) | (with_reducible_and_instances rfl) | (exact (rfl : AP.tup _ = AP.tup _)))
  all_goals
    refine rB_of ?_
    rw [Bool.eq_iff_iff]
    simp only [decide_eq_true_iff, head_eq]
    simp_all [head0]
theorem disk_eq {a b : DDisk} : a = b ↔ (a.kept = b.kept ∧ a.wait = b.wait) := by
  cases a; cases b; simp [DDisk.mk.injEq]
theorem isameDisk_p (a b : DDisk) (h1 : a.kept.length ≤ 9223372036854775806) (h2 : ∀ y ∈ a.kept, y.length ≤ 9223372036854775806) (h3 : a.wait.length ≤ 9223372036854775806) (h4 : ∀ y ∈ a.wait, y.row.length ≤ 9223372036854775806) : PCall av 197 [.agg a.ds, .agg b.ds] (rB (decide (a = b))) := by
  refine pcall_of av_ok Tryz.func197 rfl Tryz.call197 Tryz.ntmps197 (congrArg Array.toList Tryz.results197) fun S => ?_; conv => whnf
  repeat' (first | (refine AWP.seq ?_) | ((first | refine AWP.region av_ok ?_ | refine AWP.ret ?_ | refine AWP.skip ?_ | refine AWP.exit ?_ | refine AWP.block ?_ | refine AWP.cond ?_ | refine AB.tt ?_ | refine AB.ff ?_); conv => whnf) | ((first | refine AB.ofT (by assumption) ?_ | refine AB.ofF (by assumption) ?_); conv => whnf) | (refine ACall.pure (slEqRows_p a.kept b.kept h1 h2) rfl ?_; conv => whnf) | (refine AFCall.mk ⟨_, _, slEqRows_p a.kept b.kept h1 h2, .inl rfl, ?_⟩; conv => whnf) | (refine ACall.pure (slEqWrites_p a.wait b.wait h3 h4) rfl ?_; conv => whnf) | (refine AFCall.mk ⟨_, _, slEqWrites_p a.wait b.wait h3 h4, .inl rfl, ?_⟩; conv => whnf) | (exact trivial) | (refine And.intro rfl ?_; conv => whnf) | (refine AB.mk (fun h => ?_) (fun h => ?_) <;> (conv => whnf)) | (with_reducible_and_instances rfl) | (exact (rfl : AP.tup _ = AP.tup _)))
  all_goals
    refine rB_of ?_
    rw [Bool.eq_iff_iff]
    simp only [decide_eq_true_iff, disk_eq]
    simp_all
end Go.Proofs.YthmckpghadfeeaaGreat
