/- The next head of a log, by the program; logs compared. -/
import Derived.Test.YthmckpghadfeeaaGreatWB8
set_option linter.unusedVariables false
set_option linter.unusedSimpArgs false
set_option maxRecDepth 100000
namespace Go.Proofs.YthmckpghadfeeaaGreat
open Go.ChangeShapes Go.WideShapes Go.RowKit
def dk_WB9_impl_EntryAt_1 : List (List Nat) := [[], [0], [0, 1], [1, 0, 2], [2, 0, 1, 3], [2, 0, 1, 3], [3, 1, 0, 2, 5], [5, 2, 0, 1, 3, 6], [2, 0, 1, 3], [3, 1, 0, 2, 8], [8, 9, 6, 5, 7, 3, 1, 0, 2, 4], [4, 2, 0, 1, 3, 7, 5, 6, 9, 8, 10], [10, 8, 9, 6, 5, 7, 4, 11, 2, 0, 1, 3]]
def fk_WB9_impl_EntryAt_1 : List (List Nat) := [[0, 0, 0, 0, 0, 0, 0, 0, 0, 0], [1, 0, 0, 0, 0, 0, 0, 0, 0, 0], [1, 1, 0, 0, 0, 0, 0, 0, 0, 0], [1, 1, 1, 0, 0, 0, 0, 0, 0, 0], [1, 1, 1, 1, 0, 2, 2, 2, 2, 2], [1, 1, 1, 1, 2, 0, 0, 0, 2, 2], [1, 1, 1, 1, 2, 1, 0, 0, 2, 2], [1, 1, 1, 1, 2, 1, 1, 0, 2, 2], [1, 1, 1, 1, 2, 2, 2, 2, 0, 0], [1, 1, 1, 1, 2, 2, 2, 2, 1, 0]]
def dk_WB9_impl_seenUpTo_1 : List (List Nat) := [[], [0], [], [2], [], [], [5], [5, 6, 4], [4, 6, 5, 7, 2, 3], [3, 2, 7, 5, 6, 4, 8, 0, 1], [1, 0, 8, 4, 6, 5, 7, 2, 3, 9], [1, 0, 8, 4, 6, 5, 7, 2, 3, 9], [11, 9, 3, 2, 7, 5, 6, 4, 8, 0, 1, 10], [10, 12, 9, 3, 2, 7, 5, 6, 4, 8, 0, 1, 11]]
def fk_WB9_impl_seenUpTo_1 : List (List Nat) := [[0, 0, 2, 2, 2, 2, 2, 2, 2, 0, 0, 0], [1, 0, 2, 2, 2, 2, 2, 2, 2, 0, 0, 0], [2, 2, 0, 0, 2, 2, 2, 2, 0, 0, 0, 0], [2, 2, 1, 0, 2, 2, 2, 2, 0, 0, 0, 0], [2, 2, 2, 2, 0, 2, 2, 0, 0, 0, 0, 0], [2, 2, 2, 2, 2, 0, 0, 0, 0, 0, 0, 0], [2, 2, 2, 2, 2, 1, 0, 0, 0, 0, 0, 0], [2, 2, 2, 2, 1, 1, 1, 0, 0, 0, 0, 0], [2, 2, 1, 1, 1, 1, 1, 1, 0, 0, 0, 0], [1, 1, 1, 1, 1, 1, 1, 1, 1, 0, 0, 0], [1, 1, 1, 1, 1, 1, 1, 1, 1, 1, 0, 2], [1, 1, 1, 1, 1, 1, 1, 1, 1, 1, 2, 0]]
def dk_WB9_impl_LogOk_4 : List (List Nat) := [[], [0], [0, 1], [1, 0, 2], [1, 0, 2], [2, 0, 1, 4], [4, 5, 2, 0, 1, 3], [3, 1, 0, 2, 5, 4, 6], [6, 4, 5, 3, 7, 1, 0, 2], [2, 0, 1, 7, 3, 5, 4, 6, 8], [8, 6, 4, 5, 3, 7, 1, 0, 2, 9], [9, 2, 0, 1, 7, 3, 5, 4, 6, 8, 10], [8, 6, 4, 5, 3, 7, 1, 0, 2, 9], [9, 2, 0, 1, 7, 3, 5, 4, 6, 8, 12], [12, 8, 6, 4, 5, 3, 7, 1, 0, 2, 9, 13], [8, 6, 4, 5, 3, 7, 1, 0, 2, 9], [9, 2, 0, 1, 7, 3, 5, 4, 6, 8, 15], [15, 8, 6, 4, 5, 3, 7, 1, 0, 2, 9, 16], [16, 15, 17, 13, 12, 14, 10, 8, 6, 4, 5, 3, 7, 1, 0, 2, 9, 11], [11, 9, 2, 0, 1, 7, 3, 5, 4, 6, 8, 10, 14, 12, 13, 17, 15, 16, 18], [18, 16, 15, 17, 13, 12, 14, 10, 11, 19, 8, 6, 4, 5, 3, 7, 1, 0, 2, 9]]
def fk_WB9_impl_LogOk_4 : List (List Nat) := [[0, 0, 0, 0, 0, 0, 0, 0, 0, 0, 0, 0, 0, 0, 0, 0, 0, 0], [1, 0, 0, 0, 0, 0, 0, 0, 0, 0, 0, 0, 0, 0, 0, 0, 0, 0], [1, 1, 0, 0, 0, 0, 0, 0, 0, 0, 0, 0, 0, 0, 0, 0, 0, 0], [1, 1, 1, 0, 2, 2, 0, 0, 0, 0, 0, 0, 0, 0, 0, 0, 0, 0], [1, 1, 1, 2, 0, 0, 0, 0, 0, 0, 0, 0, 0, 0, 0, 0, 0, 0], [1, 1, 1, 2, 1, 0, 0, 0, 0, 0, 0, 0, 0, 0, 0, 0, 0, 0], [1, 1, 1, 1, 1, 1, 0, 0, 0, 0, 0, 0, 0, 0, 0, 0, 0, 0], [1, 1, 1, 1, 1, 1, 1, 0, 0, 0, 0, 0, 0, 0, 0, 0, 0, 0], [1, 1, 1, 1, 1, 1, 1, 1, 0, 0, 0, 0, 0, 0, 0, 0, 0, 0], [1, 1, 1, 1, 1, 1, 1, 1, 1, 0, 0, 0, 0, 0, 0, 0, 0, 0], [1, 1, 1, 1, 1, 1, 1, 1, 1, 1, 0, 0, 2, 2, 2, 2, 2, 2], [1, 1, 1, 1, 1, 1, 1, 1, 1, 1, 1, 0, 2, 2, 2, 2, 2, 2], [1, 1, 1, 1, 1, 1, 1, 1, 1, 1, 2, 2, 0, 0, 0, 2, 2, 2], [1, 1, 1, 1, 1, 1, 1, 1, 1, 1, 2, 2, 1, 0, 0, 2, 2, 2], [1, 1, 1, 1, 1, 1, 1, 1, 1, 1, 2, 2, 1, 1, 0, 2, 2, 2], [1, 1, 1, 1, 1, 1, 1, 1, 1, 1, 2, 2, 2, 2, 2, 0, 0, 0], [1, 1, 1, 1, 1, 1, 1, 1, 1, 1, 2, 2, 2, 2, 2, 1, 0, 0], [1, 1, 1, 1, 1, 1, 1, 1, 1, 1, 2, 2, 2, 2, 2, 1, 1, 0]]
def dk_WB9_impl_LogOk_6 : List (List Nat) := [[], [0], [0, 1], [1, 0, 2], [2, 0, 1, 3], [1, 0, 2], [2, 0, 1, 5], [1, 0, 2], [2, 0, 1, 7], [7, 8, 5, 1, 0, 2, 6], [6, 5, 8, 7, 9, 3, 1, 0, 2, 4], [4, 3, 9, 7, 8, 5, 6, 10, 1, 0, 2], [2, 0, 1, 10, 6, 5, 8, 7, 9, 3, 4, 11]]
def fk_WB9_impl_LogOk_6 : List (List Nat) := [[0, 0, 0, 0, 0, 0, 0, 0, 0, 0], [1, 0, 0, 0, 0, 0, 0, 0, 0, 0], [1, 1, 0, 0, 0, 0, 0, 0, 0, 0], [1, 1, 1, 0, 0, 2, 2, 2, 2, 2], [1, 1, 1, 1, 0, 2, 2, 2, 2, 2], [1, 1, 1, 2, 2, 0, 0, 2, 2, 0], [1, 1, 1, 2, 2, 1, 0, 2, 2, 0], [1, 1, 1, 2, 2, 2, 2, 0, 0, 0], [1, 1, 1, 2, 2, 2, 2, 1, 0, 0], [1, 1, 1, 2, 2, 1, 1, 1, 1, 0]]

theorem fold_prefix {s c : List DMark} {l : List DEntry} (h : seenFold s l = some c) (k : Nat) : ∃ c', seenFold s (l.take k) = some c' := by
  rw [← List.take_append_drop k l, fold_append] at h
  cases hk : seenFold s (l.take k) with
  | none => rw [hk] at h; cases h
  | some c' => exact ⟨c', rfl⟩
theorem fold_last {s c : List DMark} {l : List DEntry} {k : Nat} (hk : k < l.length) (h : seenFold s (l.take (k + 1)) = some c) : lastSeenL c = l[k].index := by
  obtain ⟨c0, h0⟩ := fold_prefix h k
  rw [List.take_take, Nat.min_eq_left (by omega)] at h0
  rw [fold_snoc hk h0] at h
  unfold markedO at h
  split at h
  · rename_i hc
    injection h with h
    subst h
    simp only [Bool.and_eq_true, decide_eq_true_eq] at hc
    exact last_put2 (by omega)
  · cases h
theorem over_yes {s : List DMark} {l : List DEntry} (hs : seenOk s = true) (h : (seenOver s l).2 = true) : l.length ≤ 2000 ∧ ∃ c, seenFold s l = some c := by
  unfold seenOver at h
  simp only [hs, Bool.not_true, Bool.false_eq_true, if_false] at h
  split at h
  · cases h
  · rename_i hl
    refine ⟨by omega, ?_⟩
    cases hf : seenFold s l with
    | none => rw [hf] at h; cases h
    | some c => exact ⟨c, rfl⟩
theorem next_headOk {n : DLogNode} (hb : bookOk n.book = true) (hh : headOk n.head = true) (hbb : n.book.base = n.head.base) (hso : (seenOver n.head.seen n.book.entries).2 = true) (h1 : n.head.base + 1 ≤ n.nxt.base) (h2 : n.nxt.base ≤ lastB n.book) : headOk (nextHead n) = true := by
  have hq := head_bounds hh
  have hl := book_last hb
  obtain ⟨hlen, c, hc⟩ := over_yes hq.2.2 hso
  obtain ⟨k, hk⟩ : ∃ k : Nat, n.nxt.base = n.book.base + 1 + k := ⟨(n.nxt.base - n.book.base - 1).toNat, by omega⟩
  have hkl : k < n.book.entries.length := by unfold lastB at h2; omega
  obtain ⟨c', hc'⟩ := fold_prefix hc (k + 1)
  have e1 : (n.nxt.base - n.book.base).toNat = k + 1 := by omega
  have e2 : (n.nxt.base - n.book.base - 1).toNat = k := by omega
  have hov : seenOver n.head.seen (entTo n.book n.nxt.base) = (c', true) := by
    unfold entTo
    rw [e1]
    exact over_some hq.2.2 (by simp; omega) hc'
  have hlast := fold_last hkl hc'
  have hidx := book_index hb k hkl
  have hent := book_entry hb hkl
  have ht : tOk n.book.entries[k].time = true := by
    simp only [entryOk, Bool.and_eq_true] at hent
    simpa [tOk] using hent.1.1.1.2
  have hnum : n.head.num ≤ n.head.base := by
    simp only [headOk, Bool.and_eq_true, betweenB, decide_eq_true_eq] at hh
    omega
  have eH : nextHead n = ⟨n.head.num + 1, n.nxt.base, n.book.entries[k].time, c'⟩ := by
    simp only [nextHead, hov, e2, List.getD_eq_getElem?_getD, List.getElem?_eq_getElem hkl, Option.getD_some]
  have hcs := fold_seen hq.2.2 hc'
  rw [eH]
  simp only [headOk, Bool.and_eq_true, betweenB, decide_eq_true_eq, Bool.or_eq_true, beq_iff_eq]
  exact ⟨⟨⟨⟨⟨⟨by omega, by omega⟩, by omega, by omega⟩, ht⟩, .inl (by omega)⟩, hcs⟩, by omega⟩
def entAt (b : DBook) (i : Int) : DEntry := b.entries.getD (i - b.base - 1).toNat entry0
theorem bt_in {x lo hi : Int} (h1 : lo ≤ x) (h2 : x ≤ hi) : betweenB x lo hi = true := by simp [betweenB, h1, h2]
theorem iEntryAt_p (b : DBook) (i : Int) (hb : bookOk b = true) (h1 : b.base + 1 ≤ i) (h2 : i ≤ lastB b) : PCall av 240 [.agg b.ds, .one (dI i)] (.tup [.agg (entAt b i).ds, .one (dB true)]) := by
  have hp := book_parts hb
  have hq := book_last hb
  have hbt : (!betweenB i (b.base + 1) (lastB b)) = false := by rw [bt_in h1 h2]; rfl
  have hbn : (!bookOk b) = false := by rw [hb]; rfl
  obtain ⟨k, hk⟩ : ∃ k : Nat, i - b.base - 1 = k := ⟨(i - b.base - 1).toNat, by omega⟩
  have hkl : k < b.entries.length := by unfold lastB at h2; omega
  refine pcall_of av_ok Tryz.func240 rfl Tryz.call240 Tryz.ntmps240 (congrArg Array.toList Tryz.results240) fun S => ?_; conv => whnf
  repeat' (first | (refine AWP.seq ?_) | ((first | refine AWP.region av_ok ?_ | refine AWP.ret ?_ | refine AWP.skip ?_ | refine AWP.exit ?_ | refine AWP.block ?_ | refine AWP.cond ?_ | refine AB.tt ?_ | refine AB.ff ?_); conv => whnf) | ((first | refine AB.ofT (by assumption) ?_ | refine AB.ofF (by assumption) ?_); conv => whnf) | (refine AWP.drawK av_ok 1 10 dk_WB9_impl_EntryAt_1 fk_WB9_impl_EntryAt_1 (by kernel_rfl) (by kernel_rfl) (by kernel_rfl) rfl ?_; conv => whnf) | (refine AW.i64 (by omega) (by omega) ?_; conv => whnf) | (refine AIx.at k (DEntry.ds (b.entries[k]'hkl)) hk (by simp [hkl]) ?_; conv => whnf) | (refine ACall.pure (iBookOk_p b) rfl ?_; conv => whnf) | (refine AFCall.mk ⟨_, _, iBookOk_p b, .inl rfl, ?_⟩; conv => whnf) | (refine ACall.pure (ilastOf_p b hb) rfl ?_; conv => whnf) | (refine AFCall.mk ⟨_, _, ilastOf_p b hb, .inl rfl, ?_⟩; conv => whnf) | (refine ACall.pure (ibetween_p _ _ _) rfl ?_; conv => whnf) | (refine AFCall.mk ⟨_, _, ibetween_p _ _ _, .inl rfl, ?_⟩; conv => whnf) | (exact trivial) | (refine And.intro rfl ?_; conv => whnf) | (refine AB.mk (fun h => ?_) (fun h => ?_) <;> (conv => whnf)) | (with_reducible_and_instances rfl) | (exact (rfl : AP.tup _ = AP.tup _)))
  have e : entAt b i = b.entries[k]'hkl := by
    have e2 : (i - b.base - 1).toNat = k := by omega
    simp only [entAt, e2, List.getD_eq_getElem?_getD, List.getElem?_eq_getElem hkl, Option.getD_some]
  rw [e]; rfl
theorem iseenUpTo_p (h : DHead) (b : DBook) (i : Int) (hs : h.seen.length ≤ 9223372036854775806) (h0 : (0 ≤ b.base ∧ b.base ≤ 2000) ∧ b.entries.length ≤ 20) (h1 : b.base ≤ i) (h2 : i ≤ lastB b) : PCall av 241 [.agg h.ds, .agg b.ds, .one (dI i)] (pSeen (seenOver h.seen (entTo b i))) := by
  obtain ⟨k, hk⟩ : ∃ k : Nat, i - b.base = k := ⟨(i - b.base).toNat, by omega⟩
  have hkl : k ≤ b.entries.length := by unfold lastB at h2; omega
  have hlb : lastB b ≤ 3000 := by unfold lastB; omega
  have hx : List.drop 0 (List.take k (b.entries.map DEntry.ds)) = (entTo b i).map DEntry.ds := by
    have e2 : (i - b.base).toNat = k := by omega
    simp only [List.drop_zero, entTo, e2, List.map_take]
  refine pcall_of av_ok Tryz.func241 rfl Tryz.call241 Tryz.ntmps241 (congrArg Array.toList Tryz.results241) fun S => ?_; conv => whnf
  repeat' (first | (refine AWP.seq ?_) | ((first | refine AWP.region av_ok ?_ | refine AWP.ret ?_ | refine AWP.skip ?_ | refine AWP.exit ?_ | refine AWP.block ?_ | refine AWP.cond ?_ | refine AB.tt ?_ | refine AB.ff ?_); conv => whnf) | ((first | refine AB.ofT (by assumption) ?_ | refine AB.ofF (by assumption) ?_); conv => whnf) | (refine AWP.drawK av_ok 1 12 dk_WB9_impl_seenUpTo_1 fk_WB9_impl_seenUpTo_1 (by kernel_rfl) (by kernel_rfl) (by kernel_rfl) rfl ?_; conv => whnf) | (refine AW.i64 (by omega) (by omega) ?_; conv => whnf) | (refine ⟨0, k, rfl, hk, Nat.zero_le _, (by simpa using hkl), ?_⟩; conv => whnf) | (refine all_lenW (fun x hx => by obtain ⟨y, _, rfl⟩ := List.mem_map.1 hx; rfl) ?_; conv => whnf; rw [hx]) | (refine ACall.pure (iSeenOver_p h.seen (entTo b i) hs) rfl ?_; conv => whnf) | (refine AFCall.mk ⟨_, _, iSeenOver_p h.seen (entTo b i) hs, .inl rfl, ?_⟩; conv => whnf) | (exact trivial) | (refine And.intro rfl ?_; conv => whnf) | (refine AB.mk (fun h => ?_) (fun h => ?_) <;> (conv => whnf)) | (with_reducible_and_instances rfl) | (exact (rfl : AP.tup _ = AP.tup _)))
theorem nextOk_no {n : DLogNode} (hm : (!n.more) = false) (hb : bookOk n.book = true) (hh : headOk n.head = true) (hbb : n.book.base = n.head.base) (hd : n.book.base ≤ n.durable ∧ n.durable ≤ lastB n.book) (hso : (seenOver n.head.seen n.book.entries).2 = true)
    (h : headOk n.nxt = false ∨ n.nxt.num ≠ n.head.num + 1 ∨ n.nxt.base ≤ n.head.base ∨ n.durable < n.nxt.base) : nextOkB n = false := by
  rw [nextOk_in hm, ← Bool.not_eq_true]
  simp only [Bool.and_eq_true, betweenB, decide_eq_true_eq]
  rintro ⟨⟨h1, h2⟩, h3⟩
  rcases h with h | h | h | h
  · have := next_headOk hb hh hbb hso h1 (by omega)
    rw [← h3, h] at this
    cases this
  · exact h (congrArg DHead.num h3)
  · omega
  · omega
theorem nextOk_yes {n : DLogNode} (hm : (!n.more) = false) (h1 : n.nxt.num = n.head.num + 1) (h2 : ¬ n.nxt.base ≤ n.head.base) (h3 : ¬ n.nxt.base > n.durable) : nextOkB n = ((n.nxt.time == (entAt n.book n.nxt.base).time) && decide (n.nxt.seen = (seenOver n.head.seen (entTo n.book n.nxt.base)).1)) := by
  have hbt : betweenB n.nxt.base (n.head.base + 1) n.durable = true := bt_in (by omega) (by omega)
  rw [nextOk_in hm, hbt, Bool.true_and, Bool.eq_iff_iff]
  simp only [decide_eq_true_eq, Bool.and_eq_true, beq_iff_eq, head_eq, nextHead, entAt, entry0, h1, true_and]
set_option maxHeartbeats 1000000 in
theorem inextOk_p (n : DLogNode) (hb : bookOk n.book = true) (hh : headOk n.head = true) (hbb : n.book.base = n.head.base) (hd : n.book.base ≤ n.durable ∧ n.durable ≤ lastB n.book) (hso : (seenOver n.head.seen n.book.entries).2 = true) (hhs : n.head.seen.length ≤ 9223372036854775806) (hx : n.nxt.seen.length ≤ 9223372036854775806) : PCall av 194 [.agg n.ds] (rB (nextOkB n)) := by
  have hq := head_bounds hh
  have hp := book_parts hb
  have hl := book_last hb
  refine pcall_of av_ok Tryz.func194 rfl Tryz.call194 Tryz.ntmps194 (congrArg Array.toList Tryz.results194) fun S => ?_; conv => whnf
  repeat' (first | (refine AWP.seq ?_) | ((first | refine AWP.region av_ok ?_ | refine AWP.ret ?_ | refine AWP.skip ?_ | refine AWP.exit ?_ | refine AWP.block ?_ | refine AWP.cond ?_ | refine AB.tt ?_ | refine AB.ff ?_); conv => whnf) | ((first | refine AB.ofT (by assumption) ?_ | refine AB.ofF (by assumption) ?_); conv => whnf) | (refine AW.i64 (by omega) (by omega) ?_; conv => whnf) | (refine ACall.pure (isameHead_p n.nxt head0 hx) rfl ?_; conv => whnf) | (refine AFCall.mk ⟨_, _, isameHead_p n.nxt head0 hx, .inl rfl, ?_⟩; conv => whnf) | (refine ACall.pure (iHeadOk_p n.nxt hx) rfl ?_; conv => whnf) | (refine AFCall.mk ⟨_, _, iHeadOk_p n.nxt hx, .inl rfl, ?_⟩; conv => whnf) | (exact trivial) | (refine And.intro rfl ?_; conv => whnf) | (refine AB.mk (fun h => ?_) (fun h => ?_) <;> (conv => whnf)) | (with_reducible_and_instances rfl) | (exact (rfl : AP.tup _ = AP.tup _)))
  · exact congrArg rB (nextOk_down h)
  all_goals first
    | (rw [nextOk_no (by assumption) hb hh hbb hd hso (.inl (by simpa using h))]; done)
    | (rw [nextOk_no (by assumption) hb hh hbb hd hso (.inr (.inl (by simpa using h)))]; done)
    | (rw [nextOk_no (by assumption) hb hh hbb hd hso (.inr (.inr (.inl (by simpa using h))))]; done)
    | (rw [nextOk_no (by assumption) hb hh hbb hd hso (.inr (.inr (.inr (by simpa using h))))]; done)
    | skip
  have hm : (!n.more) = false := by assumption
  have g1 : n.nxt.num = n.head.num + 1 := by
    have : (n.nxt.num != n.head.num + 1) = false := by assumption
    simpa using this
  have g2 : ¬ n.nxt.base ≤ n.head.base := by
    have : decide (n.nxt.base ≤ n.head.base) = false := by assumption
    simpa using this
  have g3 : ¬ n.nxt.base > n.durable := by simpa using h
  repeat' (first | (refine AWP.seq ?_) | ((first | refine AWP.region av_ok ?_ | refine AWP.ret ?_ | refine AWP.skip ?_ | refine AWP.exit ?_ | refine AWP.block ?_ | refine AWP.cond ?_ | refine AB.tt ?_ | refine AB.ff ?_); conv => whnf) | ((first | refine AB.ofT (by assumption) ?_ | refine AB.ofF (by assumption) ?_); conv => whnf) | (refine ACall.pure (iEntryAt_p n.book n.nxt.base hb (by omega) (by omega)) rfl ?_; conv => whnf) | (refine AFCall.mk ⟨_, _, iEntryAt_p n.book n.nxt.base hb (by omega) (by omega), .inl rfl, ?_⟩; conv => whnf) | (refine ACall.pure (iseenUpTo_p n.head n.book n.nxt.base hhs ⟨hp.1, hp.2.2.1⟩ (by omega) (by omega)) rfl ?_; conv => whnf) | (refine AFCall.mk ⟨_, _, iseenUpTo_p n.head n.book n.nxt.base hhs ⟨hp.1, hp.2.2.1⟩ (by omega) (by omega), .inl rfl, ?_⟩; conv => whnf) | (refine ACall.pure (iSameSeen_p n.nxt.seen (seenOver n.head.seen (entTo n.book n.nxt.base)).1 hx) rfl ?_; conv => whnf) | (refine AFCall.mk ⟨_, _, iSameSeen_p n.nxt.seen (seenOver n.head.seen (entTo n.book n.nxt.base)).1 hx, .inl rfl, ?_⟩; conv => whnf) | (exact trivial) | (refine And.intro rfl ?_; conv => whnf) | (refine AB.mk (fun h => ?_) (fun h => ?_) <;> (conv => whnf)) | (with_reducible_and_instances rfl) | (exact (rfl : AP.tup _ = AP.tup _)))
  all_goals
    refine rB_of ?_
    rw [nextOk_yes hm g1 g2 g3]
    simp_all
theorem two_eq {a b : DTwo} : a = b ↔ (a.a = b.a ∧ a.b = b.b) := by
  cases a; cases b; simp [DTwo.mk.injEq]
theorem log_eq {a b : DLogNode} : a = b ↔ (a.two.a = b.two.a ∧ a.two.b = b.two.b ∧ a.head = b.head ∧ a.nxt = b.nxt ∧ a.more = b.more ∧ a.book = b.book ∧ a.seen = b.seen ∧ a.durable = b.durable ∧ a.owe = b.owe) := by
  cases a; cases b
  simp [DLogNode.mk.injEq, two_eq, and_assoc]
/-- What of a log's rows and lists is not too long. -/
structure LogSmall (n : DLogNode) : Prop where
  a1 : n.two.a.kept.length ≤ 9223372036854775806
  a2 : ∀ y ∈ n.two.a.kept, y.length ≤ 9223372036854775806
  a3 : n.two.a.wait.length ≤ 9223372036854775806
  a4 : ∀ y ∈ n.two.a.wait, y.row.length ≤ 9223372036854775806
  b1 : n.two.b.kept.length ≤ 9223372036854775806
  b2 : ∀ y ∈ n.two.b.kept, y.length ≤ 9223372036854775806
  b3 : n.two.b.wait.length ≤ 9223372036854775806
  b4 : ∀ y ∈ n.two.b.wait, y.row.length ≤ 9223372036854775806
  head : n.head.seen.length ≤ 9223372036854775806
  nxt : n.nxt.seen.length ≤ 9223372036854775806
  book : n.book.entries.length ≤ 9223372036854775806
  seen : n.seen.length ≤ 9223372036854775806
  owe : n.owe.length ≤ 9223372036854775806
set_option maxHeartbeats 1000000 in
theorem iSameLog_p (a b : DLogNode) (hs : LogSmall a) : PCall av 133 [.agg a.ds, .agg b.ds] (rB (decide (a = b))) := by
  refine pcall_of av_ok Tryz.func133 rfl Tryz.call133 Tryz.ntmps133 (congrArg Array.toList Tryz.results133) fun S => ?_; conv => whnf
  repeat' (first | (refine AWP.seq ?_) | ((first | refine AWP.region av_ok ?_ | refine AWP.ret ?_ | refine AWP.skip ?_ | refine AWP.exit ?_ | refine AWP.block ?_ | refine AWP.cond ?_ | refine AB.tt ?_ | refine AB.ff ?_); conv => whnf) | ((first | refine AB.ofT (by assumption) ?_ | refine AB.ofF (by assumption) ?_); conv => whnf) | (refine ACall.pure (isameDisk_p a.two.a b.two.a hs.a1 hs.a2 hs.a3 hs.a4) rfl ?_; conv => whnf) | (refine AFCall.mk ⟨_, _, isameDisk_p a.two.a b.two.a hs.a1 hs.a2 hs.a3 hs.a4, .inl rfl, ?_⟩; conv => whnf) | (refine ACall.pure (isameDisk_p a.two.b b.two.b hs.b1 hs.b2 hs.b3 hs.b4) rfl ?_; conv => whnf) | (refine AFCall.mk ⟨_, _, isameDisk_p a.two.b b.two.b hs.b1 hs.b2 hs.b3 hs.b4, .inl rfl, ?_⟩; conv => whnf) | (refine ACall.pure (isameHead_p a.head b.head hs.head) rfl ?_; conv => whnf) | (refine AFCall.mk ⟨_, _, isameHead_p a.head b.head hs.head, .inl rfl, ?_⟩; conv => whnf) | (refine ACall.pure (isameHead_p a.nxt b.nxt hs.nxt) rfl ?_; conv => whnf) | (refine AFCall.mk ⟨_, _, isameHead_p a.nxt b.nxt hs.nxt, .inl rfl, ?_⟩; conv => whnf) | (refine ACall.pure (iSameBook_p a.book b.book hs.book) rfl ?_; conv => whnf) | (refine AFCall.mk ⟨_, _, iSameBook_p a.book b.book hs.book, .inl rfl, ?_⟩; conv => whnf) | (refine ACall.pure (iSameSeen_p a.seen b.seen hs.seen) rfl ?_; conv => whnf) | (refine AFCall.mk ⟨_, _, iSameSeen_p a.seen b.seen hs.seen, .inl rfl, ?_⟩; conv => whnf) | (refine ACall.pure (slEqAck_p a.owe b.owe hs.owe) rfl ?_; conv => whnf) | (refine AFCall.mk ⟨_, _, slEqAck_p a.owe b.owe hs.owe, .inl rfl, ?_⟩; conv => whnf) | (exact trivial) | (refine And.intro rfl ?_; conv => whnf) | (refine AB.mk (fun h => ?_) (fun h => ?_) <;> (conv => whnf)) | (with_reducible_and_instances rfl) | (exact (rfl : AP.tup _ = AP.tup _)))
  all_goals
    refine rB_of ?_
    rw [Bool.eq_iff_iff]
    simp only [decide_eq_true_iff, log_eq]
    simp_all
/-- What the program owes: shown in its own text. -/
def OwedP : Prop := ∀ (b : DBook) (d : Int), bookOk b = true → b.base ≤ d → d ≤ lastB b → PCall av 196 [.agg b.ds, .one (dI d)] (.val (.one (.sl (((entAfter b d).map ackOf).map DAck.ds))))
set_option maxHeartbeats 1000000 in
theorem iLogOk_p (how : OwedP) (n : DLogNode) (hs : LogSmall n) : PCall av 131 [.agg n.ds] (rB (logOk n)) := by
  refine pcall_of av_ok Tryz.func131 rfl Tryz.call131 Tryz.ntmps131 (congrArg Array.toList Tryz.results131) fun S => ?_; conv => whnf
  repeat' (first | (refine AWP.seq ?_) | ((first | refine AWP.region av_ok ?_ | refine AWP.ret ?_ | refine AWP.skip ?_ | refine AWP.exit ?_ | refine AWP.block ?_ | refine AWP.cond ?_ | refine AB.tt ?_ | refine AB.ff ?_); conv => whnf) | ((first | refine AB.ofT (by assumption) ?_ | refine AB.ofF (by assumption) ?_); conv => whnf) | (refine ACall.pure (iKeptOk_p n.two) rfl ?_; conv => whnf) | (refine AFCall.mk ⟨_, _, iKeptOk_p n.two, .inl rfl, ?_⟩; conv => whnf) | (refine ACall.pure (iHeadOk_p n.head hs.head) rfl ?_; conv => whnf) | (refine AFCall.mk ⟨_, _, iHeadOk_p n.head hs.head, .inl rfl, ?_⟩; conv => whnf) | (refine ACall.pure (iBookOk_p n.book) rfl ?_; conv => whnf) | (refine AFCall.mk ⟨_, _, iBookOk_p n.book, .inl rfl, ?_⟩; conv => whnf) | (refine ACall.pure (iSeenOver_p n.head.seen n.book.entries hs.head) rfl ?_; conv => whnf) | (refine AFCall.mk ⟨_, _, iSeenOver_p n.head.seen n.book.entries hs.head, .inl rfl, ?_⟩; conv => whnf) | (exact trivial) | (refine And.intro rfl ?_; conv => whnf) | (refine AB.mk (fun h => ?_) (fun h => ?_) <;> (conv => whnf)) | (with_reducible_and_instances rfl) | (exact (rfl : AP.tup _ = AP.tup _)))
  all_goals first
    | (have hno : logP1 n = false := by simp_all [logP1]
       rw [logOk_1 hno]; done)
    | skip
  have h1 : logP1 n = true := by simp_all [logP1]
  obtain ⟨hk, hh, hb, hbb, htt⟩ := log_p1 h1
  have hq := head_bounds hh
  have hp := book_parts hb
  have hl := book_last hb
  have hsv : (seenOver n.head.seen n.book.entries).1.length ≤ 9223372036854775806 := Nat.le_trans (over_small hq.2.2) (by decide)
  repeat' (first | (refine AWP.seq ?_) | ((first | refine AWP.region av_ok ?_ | refine AWP.ret ?_ | refine AWP.skip ?_ | refine AWP.exit ?_ | refine AWP.block ?_ | refine AWP.cond ?_ | refine AB.tt ?_ | refine AB.ff ?_); conv => whnf) | ((first | refine AB.ofT (by assumption) ?_ | refine AB.ofF (by assumption) ?_); conv => whnf) | (refine AWP.drawK av_ok 4 18 dk_WB9_impl_LogOk_4 fk_WB9_impl_LogOk_4 (by kernel_rfl) (by kernel_rfl) (by kernel_rfl) rfl ?_; conv => whnf) | (refine ACall.pure (iSameSeen_p (seenOver n.head.seen n.book.entries).1 n.seen hsv) rfl ?_; conv => whnf) | (refine AFCall.mk ⟨_, _, iSameSeen_p (seenOver n.head.seen n.book.entries).1 n.seen hsv, .inl rfl, ?_⟩; conv => whnf) | (refine ACall.pure (ilastOf_p n.book hb) rfl ?_; conv => whnf) | (refine AFCall.mk ⟨_, _, ilastOf_p n.book hb, .inl rfl, ?_⟩; conv => whnf) | (refine ACall.pure (ibetween_p _ _ _) rfl ?_; conv => whnf) | (refine AFCall.mk ⟨_, _, ibetween_p _ _ _, .inl rfl, ?_⟩; conv => whnf) | (exact trivial) | (refine And.intro rfl ?_; conv => whnf) | (refine AB.mk (fun h => ?_) (fun h => ?_) <;> (conv => whnf)) | (with_reducible_and_instances rfl) | (exact (rfl : AP.tup _ = AP.tup _)))
  all_goals first
    | (rw [logOk_2 (p2_a h)]; done)
    | (rw [logOk_2 (p2_b h)]; done)
    | (rw [logOk_2 (p2_c h)]; done)
    | skip
  have h2 : logP2 n = true := p2_y (by assumption) (by assumption) (by assumption)
  have hd := dur_of h
  have hso : (seenOver n.head.seen n.book.entries).2 = true := by
    have : (!(seenOver n.head.seen n.book.entries).snd) = false := by assumption
    rwa [Bool.not_eq_false'] at this
  repeat' (first | (refine AWP.seq ?_) | ((first | refine AWP.region av_ok ?_ | refine AWP.ret ?_ | refine AWP.skip ?_ | refine AWP.exit ?_ | refine AWP.block ?_ | refine AWP.cond ?_ | refine AB.tt ?_ | refine AB.ff ?_); conv => whnf) | ((first | refine AB.ofT (by assumption) ?_ | refine AB.ofF (by assumption) ?_); conv => whnf) | (refine AWP.drawK av_ok 6 10 dk_WB9_impl_LogOk_6 fk_WB9_impl_LogOk_6 (by kernel_rfl) (by kernel_rfl) (by kernel_rfl) rfl ?_; conv => whnf) | (refine ACall.pure (inextOk_p n hb hh hbb hd hso hs.head hs.nxt) rfl ?_; conv => whnf) | (refine AFCall.mk ⟨_, _, inextOk_p n hb hh hbb hd hso hs.head hs.nxt, .inl rfl, ?_⟩; conv => whnf) | (refine ACall.pure (how n.book n.durable hb hd.1 hd.2) rfl ?_; conv => whnf) | (refine AFCall.mk ⟨_, _, how n.book n.durable hb hd.1 hd.2, .inl rfl, ?_⟩; conv => whnf) | (refine ACall.pure (slEqAck_p n.owe ((entAfter n.book n.durable).map ackOf) hs.owe) rfl ?_; conv => whnf) | (refine AFCall.mk ⟨_, _, slEqAck_p n.owe ((entAfter n.book n.durable).map ackOf) hs.owe, .inl rfl, ?_⟩; conv => whnf) | (exact trivial) | (refine And.intro rfl ?_; conv => whnf) | (refine AB.mk (fun h => ?_) (fun h => ?_) <;> (conv => whnf)) | (with_reducible_and_instances rfl) | (exact (rfl : AP.tup _ = AP.tup _)))
  all_goals
    refine rB_of ?_
    simp only [logOk_eq, h1, h2, Bool.true_and]
    simp_all
end Go.Proofs.YthmckpghadfeeaaGreat
