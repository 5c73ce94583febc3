/- Marks: the plain law. -/
import Derived.Test.YthmckpghadfeeaaGreatWA3
set_option linter.unusedVariables false
set_option linter.unusedSimpArgs false
set_option maxRecDepth 100000
namespace Go.Proofs.YthmckpghadfeeaaGreat
open Go.ChangeShapes Go.WideShapes Go.RowKit

def SortedM (s : List DMark) : Prop := s.Pairwise fun x y => x.client < y.client
theorem adj_sorted : ∀ {s : List DMark}, adjB markLt s = true → SortedM s
  | [], _ => List.Pairwise.nil
  | [x], _ => List.pairwise_singleton _ _
  | x :: y :: r, h => by
    simp only [adjB, Bool.and_eq_true] at h
    have ih := adj_sorted (s := y :: r) h.2
    have hxy : x.client < y.client := by simpa [markLt] using h.1
    refine List.pairwise_cons.2 ⟨fun z hz => ?_, ih⟩
    rcases List.mem_cons.1 hz with rfl | hz
    · exact hxy
    · have := (List.pairwise_cons.1 ih).1 z hz
      omega
theorem sorted_adj : ∀ {s : List DMark}, SortedM s → adjB markLt s = true
  | [], _ => rfl
  | [x], _ => rfl
  | x :: y :: r, h => by
    have h1 := List.pairwise_cons.1 h
    simp only [adjB, Bool.and_eq_true]
    exact ⟨by simpa [markLt] using h1.1 y (by simp), sorted_adj h1.2⟩
theorem seen_sorted {s : List DMark} (h : seenOk s = true) : SortedM s := by
  simp only [seenOk, Bool.and_eq_true] at h
  exact adj_sorted h.1.2
theorem seen_mark {s : List DMark} (h : seenOk s = true) {m : DMark} (hm : m ∈ s) : markOk m = true := by
  simp only [seenOk, Bool.and_eq_true] at h
  exact List.all_eq_true.1 h.1.1 m hm
theorem filt_gt {s : List DMark} {c : Int} (h : ∀ m ∈ s, c ≤ m.client) : s.filter (fun x => decide (x.client < c)) = [] := by
  rw [List.filter_eq_nil_iff]
  intro m hm
  have := h m hm
  simp; omega
theorem find_gt {s : List DMark} {c : Int} (h : ∀ m ∈ s, c < m.client) : s.find? (fun x => x.client == c) = none := by
  rw [List.find?_eq_none]
  intro m hm
  have := h m hm
  simp; omega
theorem filt_succ {c : Int} : ∀ {s : List DMark}, SortedM s → s.filter (fun x => decide (x.client < c + 1)) = s.filter (fun x => decide (x.client < c)) ++ (s.find? fun x => x.client == c).toList
  | [], _ => rfl
  | x :: r, h => by
    obtain ⟨h1, h2⟩ := List.pairwise_cons.1 h
    have ih := filt_succ (c := c) h2
    rcases Int.lt_trichotomy x.client c with hx | hx | hx
    · have e1 : decide (x.client < c + 1) = true := by simp; omega
      have e2 : decide (x.client < c) = true := by simp; omega
      have e3 : (x.client == c) = false := by simp; omega
      simp only [List.filter_cons, e1, e2, if_true, List.find?_cons, e3, ih, List.cons_append]
    · have e1 : decide (x.client < c + 1) = true := by simp; omega
      have e2 : decide (x.client < c) = false := by simp; omega
      have e3 : (x.client == c) = true := by simp; omega
      simp only [List.filter_cons, e1, e2, if_true, List.find?_cons, e3]
      rw [filt_gt (fun m hm => by have := h1 m hm; omega), filt_gt (fun m hm => by have := h1 m hm; omega)]
      rfl
    · have e1 : decide (x.client < c + 1) = false := by simp; omega
      have e2 : decide (x.client < c) = false := by simp; omega
      have e3 : (x.client == c) = false := by simp; omega
      simp only [List.filter_cons, e1, e2, List.find?_cons, e3, ih]
      rfl
theorem filt_all {s : List DMark} (h : seenOk s = true) : s.filter (fun x => decide (x.client < 6)) = s := by
  rw [List.filter_eq_self]
  intro m hm
  have := seen_mark h hm
  simp only [markOk, betweenB, Bool.and_eq_true, decide_eq_true_eq] at this
  simp; omega
theorem filt_none {s : List DMark} (h : seenOk s = true) : s.filter (fun x => decide (x.client < 2)) = [] := filt_gt fun m hm => by
  have := seen_mark h hm
  simp only [markOk, betweenB, Bool.and_eq_true, decide_eq_true_eq] at this
  omega
theorem put_sorted {s : List DMark} (h : SortedM s) (m : DMark) : SortedM (putMark s m) := by
  unfold putMark SortedM
  rw [List.pairwise_append]
  refine ⟨h.sublist List.filter_sublist, List.pairwise_cons.2 ⟨fun z hz => ?_, h.sublist List.filter_sublist⟩, fun a ha b hb => ?_⟩
  · have := (List.mem_filter.1 hz).2
    simpa using this
  · have h1 := (List.mem_filter.1 ha).2
    simp only [decide_eq_true_eq] at h1
    rcases List.mem_cons.1 hb with rfl | hb
    · exact h1
    · have := (List.mem_filter.1 hb).2
      simp only [decide_eq_true_eq] at this
      omega
theorem put_mem {s : List DMark} {m x : DMark} (h : x ∈ putMark s m) : x = m ∨ x ∈ s := by
  unfold putMark at h
  rcases List.mem_append.1 h with h | h
  · exact .inr (List.mem_filter.1 h).1
  · rcases List.mem_cons.1 h with h | h
    · exact .inl h
    · exact .inr (List.mem_filter.1 h).1
theorem find_filt {α : Type} (p q : α → Bool) : ∀ l : List α, (l.filter p).find? q = l.find? fun a => p a && q a
  | [] => rfl
  | x :: r => by
    rw [List.filter_cons, List.find?_cons]
    cases hp : p x with
    | true =>
      simp only [if_true, List.find?_cons, Bool.true_and]
      cases q x with
      | true => rfl
      | false => exact find_filt p q r
    | false =>
      simp only [Bool.false_and]
      exact find_filt p q r
theorem put_find (s : List DMark) (m : DMark) (d : Int) : (putMark s m).find? (fun x => x.client == d) = if d = m.client then some m else s.find? (fun x => x.client == d) := by
  unfold putMark
  rw [List.find?_append, List.find?_cons, find_filt, find_filt]
  by_cases hd : d = m.client
  · subst hd
    have e : s.find? (fun a => decide (a.client < m.client) && a.client == m.client) = none := by
      rw [List.find?_eq_none]
      intro x _
      simp; omega
    rw [e]
    simp
  · have e0 : (m.client == d) = false := by simp; omega
    rw [if_neg hd, e0]
    rcases Int.lt_or_gt_of_ne hd with h | h
    · have e1 : (fun a : DMark => decide (a.client < m.client) && a.client == d) = fun a => a.client == d := by
        funext a
        by_cases ha : a.client = d
        · simp [ha, h]
        · simp [ha]
      have e2 : s.find? (fun a => decide (m.client < a.client) && a.client == d) = none := by
        rw [List.find?_eq_none]
        intro x _
        simp; omega
      rw [e1]
      simp only [e2]
      simp
    · have e1 : (fun a : DMark => decide (m.client < a.client) && a.client == d) = fun a => a.client == d := by
        funext a
        by_cases ha : a.client = d
        · simp [ha]; omega
        · simp [ha]
      have e2 : s.find? (fun a => decide (a.client < m.client) && a.client == d) = none := by
        rw [List.find?_eq_none]
        intro x _
        simp; omega
      rw [e1, e2]
      simp
/-- The greatest index. -/
theorem last_foldl (x0 : Int) : ∀ s : List DMark, (∀ m ∈ s, m.index ≤ s.foldl (fun x m => if m.index > x then m.index else x) x0) ∧ x0 ≤ s.foldl (fun x m => if m.index > x then m.index else x) x0 ∧ (s.foldl (fun x m => if m.index > x then m.index else x) x0 = x0 ∨ ∃ m ∈ s, m.index = s.foldl (fun x m => if m.index > x then m.index else x) x0)
  | [] => ⟨by simp, by simp, .inl rfl⟩
  | y :: r => by
    obtain ⟨h1, h2, h3⟩ := last_foldl (if y.index > x0 then y.index else x0) r
    simp only [List.foldl_cons]
    have hy : y.index ≤ (if y.index > x0 then y.index else x0) ∧ x0 ≤ (if y.index > x0 then y.index else x0) := by split <;> omega
    refine ⟨fun m hm => ?_, by omega, ?_⟩
    · rcases List.mem_cons.1 hm with rfl | hm
      · omega
      · exact h1 m hm
    · rcases h3 with h3 | ⟨m, hm, h3⟩
      · by_cases hc : y.index > x0
        · rw [if_pos hc] at h3 ⊢
          exact .inr ⟨y, by simp, h3.symm⟩
        · rw [if_neg hc] at h3 ⊢
          exact .inl h3
      · exact .inr ⟨m, by simp [hm], h3⟩
theorem last_ge {s : List DMark} {m : DMark} (h : m ∈ s) : m.index ≤ lastSeenL s := (last_foldl 0 s).1 m h
theorem last_nonneg (s : List DMark) : 0 ≤ lastSeenL s := (last_foldl 0 s).2.1
theorem last_is {s : List DMark} {x : Int} (h1 : ∀ m ∈ s, m.index ≤ x) (h2 : ∃ m ∈ s, m.index = x) (h0 : 0 ≤ x) : lastSeenL s = x := by
  obtain ⟨m, hm, e⟩ := h2
  have h3 := last_ge hm
  rcases (last_foldl 0 s).2.2 with h | ⟨y, hy, h⟩
  · have h : lastSeenL s = 0 := h
    omega
  · have h : y.index = lastSeenL s := h
    have := h1 y hy
    omega
theorem last_put {s : List DMark} {m : DMark} (h : lastSeenL s < m.index) : lastSeenL (putMark s m) = m.index := by
  have h0 := last_nonneg s
  refine last_is (fun x hx => ?_) ⟨m, by simp [putMark], rfl⟩ (by omega)
  rcases put_mem hx with rfl | hx
  · exact Int.le_refl _
  · have := last_ge hx
    omega
theorem entry_mark {e : DEntry} (h : entryOk e = true) : markOk e.mark = true := by
  simp only [entryOk, Bool.and_eq_true] at h
  simp only [markOk, DEntry.mark, Bool.and_eq_true]
  exact ⟨⟨h.1.1.2, h.1.2⟩, h.1.1.1.1⟩
theorem pair_at {s : List DMark} {R : DMark → DMark → Prop} (h : s.Pairwise R) {i j : Nat} (hi : i < j) (hj : j < s.length) : R (s[i]'(by omega)) s[j] := List.pairwise_iff_getElem.1 h i j (by omega) hj hi
theorem apart_pair : ∀ {s : List DMark}, apartAll markEq s = true → s.Pairwise fun x y => x.index ≠ y.index
  | [], _ => List.Pairwise.nil
  | x :: r, h => by
    simp only [apartAll, Bool.and_eq_true] at h
    refine List.pairwise_cons.2 ⟨fun y hy => ?_, apart_pair h.2⟩
    have := List.all_eq_true.1 h.1 y hy
    simpa [markEq] using this
theorem pair_apart : ∀ {s : List DMark}, (s.Pairwise fun x y => x.index ≠ y.index) → apartAll markEq s = true
  | [], _ => rfl
  | x :: r, h => by
    obtain ⟨h1, h2⟩ := List.pairwise_cons.1 h
    simp only [apartAll, Bool.and_eq_true]
    refine ⟨List.all_eq_true.2 fun y hy => ?_, pair_apart h2⟩
    have := h1 y hy
    simpa [markEq] using this
theorem put_seen {s : List DMark} {m : DMark} (h : seenOk s = true) (hm : markOk m = true) (hl : lastSeenL s < m.index) : seenOk (putMark s m) = true := by
  have hs := seen_sorted h
  have hx : ∀ x ∈ s, x.index ≠ m.index := fun x hx => by have := last_ge hx; omega
  have hp : s.Pairwise fun x y => x.index ≠ y.index := by
    simp only [seenOk, Bool.and_eq_true] at h
    exact apart_pair h.2
  simp only [seenOk, Bool.and_eq_true]
  refine ⟨⟨List.all_eq_true.2 fun x hx => ?_, sorted_adj (put_sorted hs m)⟩, pair_apart ?_⟩
  · rcases put_mem hx with rfl | hx
    · exact hm
    · exact seen_mark h hx
  · unfold putMark
    rw [List.pairwise_append]
    refine ⟨hp.sublist List.filter_sublist, List.pairwise_cons.2 ⟨fun z hz => (hx z (List.mem_filter.1 hz).1).symm, hp.sublist List.filter_sublist⟩, fun a ha b hb => ?_⟩
    have h1 := List.mem_filter.1 ha
    simp only [decide_eq_true_eq] at h1
    rcases List.mem_cons.1 hb with rfl | hb
    · exact hx a h1.1
    · have h2 := List.mem_filter.1 hb
      simp only [decide_eq_true_eq] at h2
      obtain ⟨i, hi, rfl⟩ := List.getElem_of_mem h1.1
      obtain ⟨j, hj, rfl⟩ := List.getElem_of_mem h2.1
      rcases Nat.lt_trichotomy i j with hij | hij | hij
      · exact pair_at hp hij hj
      · subst hij; omega
      · exact (pair_at hp hij hi).symm
theorem marked_seen {s s' : List DMark} {e : DEntry} (h : seenOk s = true) (hm : markedO s e = some s') : seenOk s' = true ∧ lastSeenL s' = e.index := by
  unfold markedO at hm
  split at hm
  · rename_i hc
    simp only [Bool.and_eq_true, decide_eq_true_eq] at hc
    injection hm with hm
    subst hm
    exact ⟨put_seen h (entry_mark hc.1.1) hc.2, last_put hc.2⟩
  · cases hm
theorem fold_append (s : List DMark) : ∀ (a b : List DEntry), seenFold s (a ++ b) = (seenFold s a).bind fun s' => seenFold s' b
  | [], b => rfl
  | e :: a, b => by
    simp only [List.cons_append, seenFold]
    cases markedO s e with
    | none => rfl
    | some s' => exact fold_append s' a b
theorem fold_seen : ∀ {l : List DEntry} {s s' : List DMark}, seenOk s = true → seenFold s l = some s' → seenOk s' = true
  | [], s, s', h, hf => by simp only [seenFold, Option.some.injEq] at hf; subst hf; exact h
  | e :: r, s, s', h, hf => by
    simp only [seenFold] at hf
    cases hm : markedO s e with
    | none => rw [hm] at hf; cases hf
    | some s1 => rw [hm] at hf; exact fold_seen (marked_seen h hm).1 hf
theorem fold_snoc {s c : List DMark} {l : List DEntry} {k : Nat} (hk : k < l.length) (h : seenFold s (l.take k) = some c) : seenFold s (l.take (k + 1)) = markedO c l[k] := by
  rw [List.take_succ_eq_append_getElem hk, fold_append, h]
  simp only [Option.bind_some, seenFold]
  cases markedO c l[k] <;> rfl
theorem fold_none {s c : List DMark} {l : List DEntry} {k : Nat} (hk : k < l.length) (h : seenFold s (l.take k) = some c) (hn : markedO c l[k] = none) : seenFold s l = none := by
  have e : l = l.take (k + 1) ++ l.drop (k + 1) := (List.take_append_drop _ _).symm
  rw [e, fold_append, fold_snoc hk h, hn]
  rfl
/-- What a map of marks holds. -/
def DMark.v (m : DMark) : Value := .agg #[.int .i64 m.client, .int .i64 m.seq, .int .i64 m.index]
def marksF (s : List DMark) (c : Int) : Option Value := (s.find? fun m => m.client == c).map DMark.v
theorem marksF_nil : marksF [] = fun _ => none := rfl
theorem marksF_put (s : List DMark) (m : DMark) : updF (updF (marksF s) m.client none) m.client (some m.v) = marksF (putMark s m) := by
  funext d
  unfold updF marksF
  rw [put_find]
  by_cases h : d = m.client
  · simp [h]
  · simp [h]
theorem marksF_snoc {s : List DMark} (h : SortedM s) {k : Nat} (hk : k < s.length) : updF (marksF (s.take k)) s[k].client (some s[k].v) = marksF (s.take (k + 1)) := by
  funext d
  unfold updF marksF
  rw [List.take_succ_eq_append_getElem hk, List.find?_append]
  by_cases hd : d = s[k].client
  · have : (s.take k).find? (fun m => m.client == d) = none := by
      rw [List.find?_eq_none]
      intro m hm
      obtain ⟨i, hi, rfl⟩ := List.getElem_of_mem hm
      simp at hi
      have := pair_at h (i := i) (j := k) (by omega) hk
      simp only [List.getElem_take]
      simp; omega
    rw [this]
    simp [hd]
  · have e : (s[k].client == d) = false := by simp; omega
    simp [hd, e]
theorem marksF_get (s : List DMark) (c : Int) : (marksF s c).getD (DMark.v ⟨0, 0, 0⟩) = (markOfL s c).v := by
  unfold marksF markOfL
  cases s.find? fun m => m.client == c <;> rfl
/-- What the reference's loop of Marked builds. -/
def stepM (x : DMark) (p : List DMark × Bool) (m : DMark) : List DMark × Bool :=
  let q := if (!p.2 && decide (m.client ≥ x.client)) = true then (p.1 ++ [x], true) else p
  if (m.client != x.client) = true then (q.1 ++ [m], q.2) else q
theorem stepM_after (x : DMark) : ∀ (r : List DMark) (out : List DMark), (∀ m ∈ r, x.client < m.client) → r.foldl (stepM x) (out, true) = (out ++ r, true)
  | [], out, _ => by simp
  | m :: r, out, h => by
    have hm := h m (by simp)
    have e : (m.client != x.client) = true := by simp; omega
    rw [List.foldl_cons]
    have : stepM x (out, true) m = (out ++ [m], true) := by simp [stepM, e]
    rw [this, stepM_after x r _ fun y hy => h y (by simp [hy])]
    simp
theorem stepM_all (x : DMark) : ∀ (s : List DMark) (out : List DMark), SortedM s → (let p := s.foldl (stepM x) (out, false); if p.2 then p.1 else p.1 ++ [x]) = out ++ putMark s x
  | [], out, _ => by simp [putMark]
  | m :: r, out, h => by
    obtain ⟨h1, h2⟩ := List.pairwise_cons.1 h
    rw [List.foldl_cons]
    rcases Int.lt_trichotomy m.client x.client with hx | hx | hx
    · have e : stepM x (out, false) m = (out ++ [m], false) := by
        have e1 : (m.client != x.client) = true := by simp; omega
        have e2 : decide (m.client ≥ x.client) = false := by simp; omega
        simp [stepM, e1, e2]
      rw [e]
      have := stepM_all x r (out ++ [m]) h2
      simp only at this ⊢
      rw [this]
      have e1 : decide (m.client < x.client) = true := by simp; omega
      have e2 : decide (x.client < m.client) = false := by simp; omega
      simp [putMark, List.filter_cons, e1, e2]
    · have e : stepM x (out, false) m = (out ++ [x], true) := by
        have e1 : (m.client != x.client) = false := by simp; omega
        have e2 : decide (m.client ≥ x.client) = true := by simp; omega
        simp [stepM, e1, e2]
      rw [e, stepM_after x r _ fun y hy => by have := h1 y hy; omega]
      have e1 : decide (m.client < x.client) = false := by simp; omega
      have e2 : decide (x.client < m.client) = false := by simp; omega
      have e3 := filt_gt (s := r) (c := x.client) fun y hy => by have := h1 y hy; omega
      have e4 : r.filter (fun y => decide (x.client < y.client)) = r := List.filter_eq_self.2 fun y hy => by have := h1 y hy; simp; omega
      simp [putMark, List.filter_cons, e1, e2, e3, e4]
    · have e : stepM x (out, false) m = (out ++ [x] ++ [m], true) := by
        have e1 : (m.client != x.client) = true := by simp; omega
        have e2 : decide (m.client ≥ x.client) = true := by simp; omega
        simp [stepM, e1, e2]
      rw [e, stepM_after x r _ fun y hy => by have := h1 y hy; omega]
      have e1 : decide (m.client < x.client) = false := by simp; omega
      have e2 : decide (x.client < m.client) = true := by simp; omega
      have e3 := filt_gt (s := r) (c := x.client) fun y hy => by have := h1 y hy; omega
      have e4 : r.filter (fun y => decide (x.client < y.client)) = r := List.filter_eq_self.2 fun y hy => by have := h1 y hy; simp; omega
      simp [putMark, List.filter_cons, e1, e2, e3, e4]
end Go.Proofs.YthmckpghadfeeaaGreat
