/- Joined: WA3 WM WA4 WA5 WA6 WA7 -/
import Derived.Test.YtmgcnmdbhahhlaaGreatJ06
import Derived.Test.YtmgcnmdbhahhlaaGreatWH
set_option linter.unusedVariables false
set_option linter.unusedSimpArgs false
set_option maxRecDepth 100000
namespace Go.Proofs.YtmgcnmdbhahhlaaGreat
open Go.ChangeShapes Go.WideShapes Go.RowKit
def dk_WA3_impl_SeenOk_7 : List (List Nat) := unqs [0, 1, 129, 12354, 12354, 1318979, 4328796549, 486506500228, 35461415067975, 12354, 2629699, 10503828301457425098, 222553301630898950601]
def fk_WA3_impl_SeenOk_7 : List (List Nat) := unps 11 [0, 1, 4, 158125, 157531, 157612, 157828, 158557, 160744, 19669, 39352]

theorem i64_wfW {n : Int} (h1 : -9223372036854775808 ≤ n) (h2 : n ≤ 9223372036854775807) : (Lit.int .i64 n).wf = true := by
  simp [Lit.wf, IntKind.min, IntKind.max, IntKind.signed, IntKind.bits]
  omega
theorem wf_of_bt {n lo hi : Int} (h : (!betweenB n lo hi) = false) (h1 : -9223372036854775808 ≤ lo) (h2 : hi ≤ 9223372036854775807) : (Lit.int .i64 n).wf = true := by
  have : betweenB n lo hi = true := by simpa using h
  simp only [betweenB, Bool.and_eq_true, decide_eq_true_eq] at this
  exact i64_wfW (by omega) (by omega)
theorem zeroBool (w : World) : (zeroValue 4).run Tryz.prog w = .ok (.bool false) w := by kernel_rfl
/-- A set of numbers that the call has made. -/
def usedF (l : List Int) (x : Int) : Option Value := if x ∈ l then some (.bool true) else none
theorem usedF_nil : usedF [] = fun _ => none := by funext x; simp [usedF]
theorem usedF_snoc (l : List Int) (n : Int) : updF (usedF l) n (some (.bool true)) = usedF (l ++ [n]) := by
  funext x
  unfold updF usedF
  by_cases h : x = n
  · simp [h]
  · simp [h]
theorem usedF_get (l : List Int) (n : Int) : (usedF l n).getD (.bool false) = .bool (decide (n ∈ l)) := by
  unfold usedF
  by_cases h : n ∈ l <;> simp [h]
section
variable {S : Base} {o : Oper} {st : ASt} {K : ASt → Prop}
theorem AOp.makeSet {t : TypeId} {d : Tmp} (ho : o.op = .makeMap t none) (hd : o.dst = some d) (hk : aNew st d (mapO Tryz.prog 2 0 (usedF [])) fun st => aDst st (some d) (.one (.own d)) K) : AOp av S o st K :=
  AOp.makeMap 2 ho hd (by rw [usedF_nil] at hk; exact hk)
theorem AOp.lookSet {x i : Operand} {id : Nat} {n : Int} {N : Nat} {l : List Int} (ho : o.op = .lookup 338 x i false) (hx : aEv st x fun v => v = .one (.own id)) (hi : aEv st i fun v => v = vI .i64 n) (hob : aOb st.ob id fun o => o = mapO Tryz.prog 2 N (usedF l)) (hn : (Lit.int .i64 n).wf = true)
    (hK : aDst st o.dst (vB (decide (n ∈ l))) K) : AOp av S o st K :=
  AOp.look (E := av) ho Tryz.underlying338 Tryz.underlying2 zeroBool hx hi hob hn (vB (decide (n ∈ l))) (fun Z w ρ => by rw [usedF_get]; exact relV_of_pv rfl) hK
theorem AFRd.lookSet {K : AV → Prop} {x i : Operand} {id : Nat} {n : Int} {N : Nat} {l : List Int} (ho : o.op = .lookup 338 x i false) (hx : aEv st x fun v => v = .one (.own id)) (hi : aEv st i fun v => v = vI .i64 n) (hob : aOb st.ob id fun o => o = mapO Tryz.prog 2 N (usedF l)) (hn : (Lit.int .i64 n).wf = true)
    (hK : K (vB (decide (n ∈ l)))) : AFRd av o st K :=
  AFRd.look (E := av) ho Tryz.underlying338 Tryz.underlying2 zeroBool hx hi hob hn (vB (decide (n ∈ l))) (fun Z w ρ => by rw [usedF_get]; exact relV_of_pv rfl) hK
theorem AOp.putSet {x i : Operand} {id : Nat} {n : Int} {N : Nat} {l : List Int} (ho : o.op = .mapUpdate 338 x i (.const (.bool true))) (hN : N < 9223372036854775807) (hx : aEv st x fun v => v = .one (.own id)) (hi : aEv st i fun v => v = vI .i64 n) (hob : aOb st.ob id fun o => o = mapO Tryz.prog 2 N (usedF l)) (hn : (Lit.int .i64 n).wf = true)
    (hK : aSetO id (mapO Tryz.prog 2 (N + 1) (usedF (l ++ [n]))) st.ob fun ob => aDst ⟨st.tm, ob⟩ o.dst (.one .und) K) : AOp av S o st K := by
  refine AOp.mapPut (E := av) (u := .bool true) ho Tryz.underlying338 Tryz.underlying2 hN hx hi hob hn (show ∀ Z w ρ y, RelV Z w ρ (vB true) y → y = .bool true from fun Z w ρ y h => relV_pv h) ?_
  rw [usedF_snoc]
  exact hK
end
theorem take_idx {s : List DMark} {k : Nat} (hlt : k < s.length) : ((s.take k).map (·.index)) ++ [s[k].index] = (s.take (k + 1)).map (·.index) := (take_snocW (fun m : DMark => m.index) hlt).symm
theorem seenOk_chain {s : List DMark} {k : Nat} (hk : k < s.length) (h : chainAt markOk markLt s k hk = false) : seenOk s = false := by
  have := chain_no hk h
  simp only [seenOk, this, Bool.false_and]
theorem seenOk_dup {s : List DMark} {j k : Nat} (hj : j < k) (hk : k < s.length) (h : (s[j]'(by omega)).index = s[k].index) : seenOk s = false := by
  have := apartAll_no (R := markEq) hj hk (by simp [markEq, h])
  simp only [seenOk, this, Bool.and_false]
theorem seenOk_used {s : List DMark} {k : Nat} (hk : k < s.length) (h : decide (s[k].index ∈ (s.take k).map (·.index)) = true) : seenOk s = false := by
  obtain ⟨m, hm, e⟩ := List.mem_map.1 (of_decide_eq_true h)
  obtain ⟨j, hj, rfl⟩ := List.getElem_of_mem hm
  simp at hj e
  exact seenOk_dup (j := j) (by omega) hk e
theorem seenOk_yes {s : List DMark} (h : ∀ (j : Nat) (hl : j < s.length), chainAt markOk markLt s j hl = true) (hd : ∀ (i j : Nat) (hi : i < j) (hl : j < s.length), (s[i]'(by omega)).index ≠ s[j].index) : seenOk s = true := by
  have h1 := chain_yes h
  have h2 := apartAll_yes (R := markEq) (l := s) fun i j hi hl => by simpa [markEq] using hd i j hi hl
  simp only [seenOk, h1, h2, Bool.and_self]
theorem used_no {s : List DMark} {k : Nat} (hk : k < s.length) (h : decide (s[k].index ∈ (s.take k).map (·.index)) = false) {i : Nat} (hi : i < k) : (s[i]'(by omega)).index ≠ s[k].index := by
  have := of_decide_eq_false h
  intro e
  refine this (List.mem_map.2 ⟨s[i], ?_, e⟩)
  rw [List.mem_take_iff_getElem]
  exact ⟨i, by omega, rfl⟩
theorem step_dup {s : List DMark} {k : Nat} (hlt : k < s.length) (hd : ∀ (i j : Nat) (hi : i < j) (hj : j < k) (hl : j < s.length), (s[i]'(by omega)).index ≠ s[j].index) (h : ∀ (i : Nat) (hi : i < k), (s[i]'(by omega)).index ≠ s[k].index) : ∀ (i j : Nat) (hi : i < j) (hj : j < k + 1) (hl : j < s.length), (s[i]'(by omega)).index ≠ s[j].index := by
  intro i j hi hj hl
  by_cases hjk : j = k
  · subst hjk; exact h i hi
  · exact hd i j hi (by omega) hl
theorem seen_le4 {s : List DMark} (h : seenOk s = true) : s.length ≤ 4 := by
  simp only [seenOk, Bool.and_eq_true] at h
  obtain ⟨⟨h1, h2⟩, _⟩ := h
  have key : ∀ (j : Nat) (hj : j < s.length), (2 : Int) + j ≤ s[j].client := by
    intro j
    induction j with
    | zero =>
      intro hj
      have := all_get h1 hj
      simp only [markOk, betweenB, Bool.and_eq_true, decide_eq_true_eq] at this
      omega
    | succ j ih =>
      intro hj
      have := adjB_get h2 hj
      simp only [markLt, decide_eq_true_eq] at this
      have := ih (by omega)
      omega
  rcases Nat.lt_or_ge 4 s.length with hl | hl
  · have h5 := key 4 hl
    have := all_get h1 hl
    simp only [markOk, betweenB, Bool.and_eq_true, decide_eq_true_eq] at this
    omega
  · exact hl
set_option maxHeartbeats 2000000 in
theorem iSeenOk_p (s : List DMark) (hs : s.length ≤ 9223372036854775806) : PCall av 322 [.one (.sl (s.map DMark.ds))] (rB (seenOk s)) := by
  refine pcall_of av_ok Tryz.func322 rfl Tryz.call322 Tryz.ntmps322 (congrArg Array.toList Tryz.results322) fun S => ?_; conv => whnf
  repeat' (first | (refine aw0 ?_) | ((first | refine aw1 ?_ | refine aw2 ?_ | refine aw3 ?_ | refine aw4 ?_ | refine aw5 ?_ | refine aw6 ?_ | refine aw7 ?_ | refine aw8 ?_); conv => whnf) | ((first | refine bT ?_ | refine bF ?_); conv => whnf) | (refine AOp.makeSet rfl rfl ?_; conv => whnf) | (exact rr) | (refine And.intro rfl ?_; conv => whnf) | (refine AB.mk (fun h => ?_) (fun h => ?_) <;> (conv => whnf)))
  refine AWP.loopS (fun k : Nat => k ≤ s.length ∧ (∀ (j : Nat) (hj : j < k) (hl : j < s.length), chainAt markOk markLt s j hl = true) ∧ ∀ (i j : Nat) (hi : i < j) (hj : j < k) (hl : j < s.length), (s[i]'(by omega)).index ≠ s[j].index) [2, 4, 5, 9, 10, 11, 12, 13, 14, 15, 16, 17, 18, 19, 20, 21, 22, 23, 24, 25, 26, 27, 28, 29, 30, 31, 32, 33, 34, 35, 36, 37, 38, 39, 40, 41, 42, 43, 44, 45, 46, 47, 48, 49, 50, 51, 52] (fun k => [(9, vI .i64 (k : Int))]) (fun k => [(6, mapO Tryz.prog 2 k (usedF ((s.take k).map (·.index))))]) (fun k => s.length - k) 0 ⟨by omega, by omega, by omega⟩ ?_ (SubO.cons rfl SubO.nil) (fun k hR => ?_) <;> (conv => whnf)
  · exact whd
  · obtain ⟨hk, hall, hdup⟩ := hR
    repeat' (first | (refine aw0 ?_) | ((first | refine aw1 ?_ | refine aw2 ?_ | refine aw3 ?_ | refine aw4 ?_ | refine aw5 ?_ | refine aw6 ?_ | refine aw7 ?_ | refine aw8 ?_); conv => whnf) | ((first | refine bT ?_ | refine bF ?_); conv => whnf) | (refine AWP.drawK av_ok 7 11 dk_WA3_impl_SeenOk_7 fk_WA3_impl_SeenOk_7 (by kernel_rfl) (by kernel_rfl) (by kernel_rfl) rfl ?_; conv => whnf) | (refine AIx.mapF ari (fun hlt => ?_); conv => whnf) | (refine AIx.mapP ari ari (fun hpv => ?_); conv => whnf) | (refine AW.i64 (n := _ - _) ari ari ?_; conv => whnf) | (refine AW.i64 ari ari ?_; conv => whnf) | (refine ACall.pure (iAskerOk_p _) rfl ?_; conv => whnf) | (refine AFCall.mk ⟨_, _, iAskerOk_p _, .inl rfl, ?_⟩; conv => whnf) | (refine ACall.pure (iseqOk_p _) rfl ?_; conv => whnf) | (refine AFCall.mk ⟨_, _, iseqOk_p _, .inl rfl, ?_⟩; conv => whnf) | (refine ACall.pure (iindexOk_p _) rfl ?_; conv => whnf) | (refine AFCall.mk ⟨_, _, iindexOk_p _, .inl rfl, ?_⟩; conv => whnf) | (refine AOp.lookSet (id := 6) (N := k) rfl rfl rfl rfl (wf_of_bt (by assumption) (by decide) (by decide)) ?_; conv => whnf) | (refine AOp.putSet (id := 6) (N := k) rfl (by omega) rfl rfl rfl (wf_of_bt (by assumption) (by decide) (by decide)) ?_; conv => whnf) | (exact rr) | (refine And.intro rfl ?_; conv => whnf) | (refine AB.mk (fun h => ?_) (fun h => ?_) <;> (conv => whnf)))
    all_goals first
      | (rw [seenOk_chain hlt (by first | (refine chainAt_P _ ?_; simp_all [markOk]; done) | (rw [chainAt_pos _ ari]; simp_all [markOk, markLt]; done) | (rw [chainAt_zero _ ari]; simp_all [markOk]; done))]; done)
      | (rw [seenOk_used hlt (by assumption)]; done)
      | (refine ANext.mk ⟨k + 1, ⟨hlt, step_chain hall hlt (by first | (refine chainAt_P _ ?_; simp_all [markOk]; done) | (rw [chainAt_pos _ ari]; simp_all [markOk, markLt]; done) | (rw [chainAt_zero _ ari]; simp_all [markOk]; done)), step_dup hlt hdup fun i hi => used_no hlt (by assumption) hi⟩, by omega, ?_, SubO.cons (congrArg some (congrArg (fun l => mapO Tryz.prog 2 (k + 1) (usedF l)) (take_idx hlt))) SubO.nil⟩
         exact hds)
      | (refine rB_of ?_
         have hkk : k = s.length := ari
         rw [seenOk_yes (fun j hl => hall j (by omega) hl) (fun i j hi hl => hdup i j hi (by omega) hl)])
end Go.Proofs.YtmgcnmdbhahhlaaGreat
namespace Go.Proofs.YtmgcnmdbhahhlaaGreat
open Go.ChangeShapes Go.WideShapes Go.RowKit

def SortedM (s : List DMark) : Prop := s.Pairwise fun x y => x.client < y.client
theorem adj_sorted : ∀ {s : List DMark}, adjB markLt s = true → SortedM s
  | [], _ => List.Pairwise.nil
  | [x], _ => List.pairwise_singleton _ _
  | x :: y :: r, h => by
    simp only [adjB, Bool.and_eq_true] at h
    have ih := adj_sorted (s := y :: r) h.2
    have hxy : x.client < y.client := by simpa [markLt] using h.1
    refine List.pairwise_cons.2 ⟨fun z hz => ?_, ih⟩
    rcases List.mem_cons.1 hz with rfl | hz
    · exact hxy
    · have := (List.pairwise_cons.1 ih).1 z hz
      omega
theorem sorted_adj : ∀ {s : List DMark}, SortedM s → adjB markLt s = true
  | [], _ => rfl
  | [x], _ => rfl
  | x :: y :: r, h => by
    have h1 := List.pairwise_cons.1 h
    simp only [adjB, Bool.and_eq_true]
    exact ⟨by simpa [markLt] using h1.1 y (by simp), sorted_adj h1.2⟩
theorem seen_sorted {s : List DMark} (h : seenOk s = true) : SortedM s := by
  simp only [seenOk, Bool.and_eq_true] at h
  exact adj_sorted h.1.2
theorem seen_mark {s : List DMark} (h : seenOk s = true) {m : DMark} (hm : m ∈ s) : markOk m = true := by
  simp only [seenOk, Bool.and_eq_true] at h
  exact List.all_eq_true.1 h.1.1 m hm
theorem filt_gt {s : List DMark} {c : Int} (h : ∀ m ∈ s, c ≤ m.client) : s.filter (fun x => decide (x.client < c)) = [] := by
  rw [List.filter_eq_nil_iff]
  intro m hm
  have := h m hm
  simp; omega
theorem find_gt {s : List DMark} {c : Int} (h : ∀ m ∈ s, c < m.client) : s.find? (fun x => x.client == c) = none := by
  rw [List.find?_eq_none]
  intro m hm
  have := h m hm
  simp; omega
theorem filt_succ {c : Int} : ∀ {s : List DMark}, SortedM s → s.filter (fun x => decide (x.client < c + 1)) = s.filter (fun x => decide (x.client < c)) ++ (s.find? fun x => x.client == c).toList
  | [], _ => rfl
  | x :: r, h => by
    obtain ⟨h1, h2⟩ := List.pairwise_cons.1 h
    have ih := filt_succ (c := c) h2
    rcases Int.lt_trichotomy x.client c with hx | hx | hx
    · have e1 : decide (x.client < c + 1) = true := by simp; omega
      have e2 : decide (x.client < c) = true := by simp; omega
      have e3 : (x.client == c) = false := by simp; omega
      simp only [List.filter_cons, e1, e2, if_true, List.find?_cons, e3, ih, List.cons_append]
    · have e1 : decide (x.client < c + 1) = true := by simp; omega
      have e2 : decide (x.client < c) = false := by simp; omega
      have e3 : (x.client == c) = true := by simp; omega
      simp only [List.filter_cons, e1, e2, if_true, List.find?_cons, e3]
      rw [filt_gt (fun m hm => by have := h1 m hm; omega), filt_gt (fun m hm => by have := h1 m hm; omega)]
      rfl
    · have e1 : decide (x.client < c + 1) = false := by simp; omega
      have e2 : decide (x.client < c) = false := by simp; omega
      have e3 : (x.client == c) = false := by simp; omega
      simp only [List.filter_cons, e1, e2, List.find?_cons, e3, ih]
      rfl
theorem filt_all {s : List DMark} (h : seenOk s = true) : s.filter (fun x => decide (x.client < 6)) = s := by
  rw [List.filter_eq_self]
  intro m hm
  have := seen_mark h hm
  simp only [markOk, betweenB, Bool.and_eq_true, decide_eq_true_eq] at this
  simp; omega
theorem filt_none {s : List DMark} (h : seenOk s = true) : s.filter (fun x => decide (x.client < 2)) = [] := filt_gt fun m hm => by
  have := seen_mark h hm
  simp only [markOk, betweenB, Bool.and_eq_true, decide_eq_true_eq] at this
  omega
theorem put_sorted {s : List DMark} (h : SortedM s) (m : DMark) : SortedM (putMark s m) := by
  unfold putMark SortedM
  rw [List.pairwise_append]
  refine ⟨h.sublist List.filter_sublist, List.pairwise_cons.2 ⟨fun z hz => ?_, h.sublist List.filter_sublist⟩, fun a ha b hb => ?_⟩
  · have := (List.mem_filter.1 hz).2
    simpa using this
  · have h1 := (List.mem_filter.1 ha).2
    simp only [decide_eq_true_eq] at h1
    rcases List.mem_cons.1 hb with rfl | hb
    · exact h1
    · have := (List.mem_filter.1 hb).2
      simp only [decide_eq_true_eq] at this
      omega
theorem put_mem {s : List DMark} {m x : DMark} (h : x ∈ putMark s m) : x = m ∨ x ∈ s := by
  unfold putMark at h
  rcases List.mem_append.1 h with h | h
  · exact .inr (List.mem_filter.1 h).1
  · rcases List.mem_cons.1 h with h | h
    · exact .inl h
    · exact .inr (List.mem_filter.1 h).1
theorem find_filt {α : Type} (p q : α → Bool) : ∀ l : List α, (l.filter p).find? q = l.find? fun a => p a && q a
  | [] => rfl
  | x :: r => by
    rw [List.filter_cons, List.find?_cons]
    cases hp : p x with
    | true =>
      simp only [if_true, List.find?_cons, Bool.true_and]
      cases q x with
      | true => rfl
      | false => exact find_filt p q r
    | false =>
      simp only [Bool.false_and]
      exact find_filt p q r
theorem put_find (s : List DMark) (m : DMark) (d : Int) : (putMark s m).find? (fun x => x.client == d) = if d = m.client then some m else s.find? (fun x => x.client == d) := by
  unfold putMark
  rw [List.find?_append, List.find?_cons, find_filt, find_filt]
  by_cases hd : d = m.client
  · subst hd
    have e : s.find? (fun a => decide (a.client < m.client) && a.client == m.client) = none := by
      rw [List.find?_eq_none]
      intro x _
      simp; omega
    rw [e]
    simp
  · have e0 : (m.client == d) = false := by simp; omega
    rw [if_neg hd, e0]
    rcases Int.lt_or_gt_of_ne hd with h | h
    · have e1 : (fun a : DMark => decide (a.client < m.client) && a.client == d) = fun a => a.client == d := by
        funext a
        by_cases ha : a.client = d
        · simp [ha, h]
        · simp [ha]
      have e2 : s.find? (fun a => decide (m.client < a.client) && a.client == d) = none := by
        rw [List.find?_eq_none]
        intro x _
        simp; omega
      rw [e1]
      simp only [e2]
      simp
    · have e1 : (fun a : DMark => decide (m.client < a.client) && a.client == d) = fun a => a.client == d := by
        funext a
        by_cases ha : a.client = d
        · simp [ha]; omega
        · simp [ha]
      have e2 : s.find? (fun a => decide (a.client < m.client) && a.client == d) = none := by
        rw [List.find?_eq_none]
        intro x _
        simp; omega
      rw [e1, e2]
      simp
/-- The greatest index. -/
theorem last_foldl (x0 : Int) : ∀ s : List DMark, (∀ m ∈ s, m.index ≤ s.foldl (fun x m => if m.index > x then m.index else x) x0) ∧ x0 ≤ s.foldl (fun x m => if m.index > x then m.index else x) x0 ∧ (s.foldl (fun x m => if m.index > x then m.index else x) x0 = x0 ∨ ∃ m ∈ s, m.index = s.foldl (fun x m => if m.index > x then m.index else x) x0)
  | [] => ⟨by simp, by simp, .inl rfl⟩
  | y :: r => by
    obtain ⟨h1, h2, h3⟩ := last_foldl (if y.index > x0 then y.index else x0) r
    simp only [List.foldl_cons]
    have hy : y.index ≤ (if y.index > x0 then y.index else x0) ∧ x0 ≤ (if y.index > x0 then y.index else x0) := by split <;> omega
    refine ⟨fun m hm => ?_, by omega, ?_⟩
    · rcases List.mem_cons.1 hm with rfl | hm
      · omega
      · exact h1 m hm
    · rcases h3 with h3 | ⟨m, hm, h3⟩
      · by_cases hc : y.index > x0
        · rw [if_pos hc] at h3 ⊢
          exact .inr ⟨y, by simp, h3.symm⟩
        · rw [if_neg hc] at h3 ⊢
          exact .inl h3
      · exact .inr ⟨m, by simp [hm], h3⟩
theorem last_ge {s : List DMark} {m : DMark} (h : m ∈ s) : m.index ≤ lastSeenL s := (last_foldl 0 s).1 m h
theorem last_nonneg (s : List DMark) : 0 ≤ lastSeenL s := (last_foldl 0 s).2.1
theorem last_is {s : List DMark} {x : Int} (h1 : ∀ m ∈ s, m.index ≤ x) (h2 : ∃ m ∈ s, m.index = x) (h0 : 0 ≤ x) : lastSeenL s = x := by
  obtain ⟨m, hm, e⟩ := h2
  have h3 := last_ge hm
  rcases (last_foldl 0 s).2.2 with h | ⟨y, hy, h⟩
  · have h : lastSeenL s = 0 := h
    omega
  · have h : y.index = lastSeenL s := h
    have := h1 y hy
    omega
theorem last_put {s : List DMark} {m : DMark} (h : lastSeenL s < m.index) : lastSeenL (putMark s m) = m.index := by
  have h0 := last_nonneg s
  refine last_is (fun x hx => ?_) ⟨m, by simp [putMark], rfl⟩ (by omega)
  rcases put_mem hx with rfl | hx
  · exact Int.le_refl _
  · have := last_ge hx
    omega
theorem entry_mark {e : DEntry} (h : entryOk e = true) : markOk e.mark = true := by
  simp only [entryOk, Bool.and_eq_true] at h
  simp only [markOk, DEntry.mark, Bool.and_eq_true]
  exact ⟨⟨h.1.1.2, h.1.2⟩, h.1.1.1.1⟩
theorem pair_at {s : List DMark} {R : DMark → DMark → Prop} (h : s.Pairwise R) {i j : Nat} (hi : i < j) (hj : j < s.length) : R (s[i]'(by omega)) s[j] := List.pairwise_iff_getElem.1 h i j (by omega) hj hi
theorem apart_pair : ∀ {s : List DMark}, apartAll markEq s = true → s.Pairwise fun x y => x.index ≠ y.index
  | [], _ => List.Pairwise.nil
  | x :: r, h => by
    simp only [apartAll, Bool.and_eq_true] at h
    refine List.pairwise_cons.2 ⟨fun y hy => ?_, apart_pair h.2⟩
    have := List.all_eq_true.1 h.1 y hy
    simpa [markEq] using this
theorem pair_apart : ∀ {s : List DMark}, (s.Pairwise fun x y => x.index ≠ y.index) → apartAll markEq s = true
  | [], _ => rfl
  | x :: r, h => by
    obtain ⟨h1, h2⟩ := List.pairwise_cons.1 h
    simp only [apartAll, Bool.and_eq_true]
    refine ⟨List.all_eq_true.2 fun y hy => ?_, pair_apart h2⟩
    have := h1 y hy
    simpa [markEq] using this
theorem put_seen {s : List DMark} {m : DMark} (h : seenOk s = true) (hm : markOk m = true) (hl : lastSeenL s < m.index) : seenOk (putMark s m) = true := by
  have hs := seen_sorted h
  have hx : ∀ x ∈ s, x.index ≠ m.index := fun x hx => by have := last_ge hx; omega
  have hp : s.Pairwise fun x y => x.index ≠ y.index := by
    simp only [seenOk, Bool.and_eq_true] at h
    exact apart_pair h.2
  simp only [seenOk, Bool.and_eq_true]
  refine ⟨⟨List.all_eq_true.2 fun x hx => ?_, sorted_adj (put_sorted hs m)⟩, pair_apart ?_⟩
  · rcases put_mem hx with rfl | hx
    · exact hm
    · exact seen_mark h hx
  · unfold putMark
    rw [List.pairwise_append]
    refine ⟨hp.sublist List.filter_sublist, List.pairwise_cons.2 ⟨fun z hz => (hx z (List.mem_filter.1 hz).1).symm, hp.sublist List.filter_sublist⟩, fun a ha b hb => ?_⟩
    have h1 := List.mem_filter.1 ha
    simp only [decide_eq_true_eq] at h1
    rcases List.mem_cons.1 hb with rfl | hb
    · exact hx a h1.1
    · have h2 := List.mem_filter.1 hb
      simp only [decide_eq_true_eq] at h2
      obtain ⟨i, hi, rfl⟩ := List.getElem_of_mem h1.1
      obtain ⟨j, hj, rfl⟩ := List.getElem_of_mem h2.1
      rcases Nat.lt_trichotomy i j with hij | hij | hij
      · exact pair_at hp hij hj
      · subst hij; omega
      · exact (pair_at hp hij hi).symm
theorem marked_seen {s s' : List DMark} {e : DEntry} (h : seenOk s = true) (hm : markedO s e = some s') : seenOk s' = true ∧ lastSeenL s' = e.index := by
  unfold markedO at hm
  split at hm
  · rename_i hc
    simp only [Bool.and_eq_true, decide_eq_true_eq] at hc
    injection hm with hm
    subst hm
    exact ⟨put_seen h (entry_mark hc.1.1) hc.2, last_put hc.2⟩
  · cases hm
theorem fold_append (s : List DMark) : ∀ (a b : List DEntry), seenFold s (a ++ b) = (seenFold s a).bind fun s' => seenFold s' b
  | [], b => rfl
  | e :: a, b => by
    simp only [List.cons_append, seenFold]
    cases markedO s e with
    | none => rfl
    | some s' => exact fold_append s' a b
theorem fold_seen : ∀ {l : List DEntry} {s s' : List DMark}, seenOk s = true → seenFold s l = some s' → seenOk s' = true
  | [], s, s', h, hf => by simp only [seenFold, Option.some.injEq] at hf; subst hf; exact h
  | e :: r, s, s', h, hf => by
    simp only [seenFold] at hf
    cases hm : markedO s e with
    | none => rw [hm] at hf; cases hf
    | some s1 => rw [hm] at hf; exact fold_seen (marked_seen h hm).1 hf
theorem fold_snoc {s c : List DMark} {l : List DEntry} {k : Nat} (hk : k < l.length) (h : seenFold s (l.take k) = some c) : seenFold s (l.take (k + 1)) = markedO c l[k] := by
  rw [List.take_succ_eq_append_getElem hk, fold_append, h]
  simp only [Option.bind_some, seenFold]
  cases markedO c l[k] <;> rfl
theorem fold_none {s c : List DMark} {l : List DEntry} {k : Nat} (hk : k < l.length) (h : seenFold s (l.take k) = some c) (hn : markedO c l[k] = none) : seenFold s l = none := by
  have e : l = l.take (k + 1) ++ l.drop (k + 1) := (List.take_append_drop _ _).symm
  rw [e, fold_append, fold_snoc hk h, hn]
  rfl
/-- What a map of marks holds. -/
def DMark.v (m : DMark) : Value := .agg #[.int .i64 m.client, .int .i64 m.seq, .int .i64 m.index]
def marksF (s : List DMark) (c : Int) : Option Value := (s.find? fun m => m.client == c).map DMark.v
theorem marksF_nil : marksF [] = fun _ => none := rfl
theorem marksF_put (s : List DMark) (m : DMark) : updF (updF (marksF s) m.client none) m.client (some m.v) = marksF (putMark s m) := by
  funext d
  unfold updF marksF
  rw [put_find]
  by_cases h : d = m.client
  · simp [h]
  · simp [h]
theorem marksF_snoc {s : List DMark} (h : SortedM s) {k : Nat} (hk : k < s.length) : updF (marksF (s.take k)) s[k].client (some s[k].v) = marksF (s.take (k + 1)) := by
  funext d
  unfold updF marksF
  rw [List.take_succ_eq_append_getElem hk, List.find?_append]
  by_cases hd : d = s[k].client
  · have : (s.take k).find? (fun m => m.client == d) = none := by
      rw [List.find?_eq_none]
      intro m hm
      obtain ⟨i, hi, rfl⟩ := List.getElem_of_mem hm
      simp at hi
      have := pair_at h (i := i) (j := k) (by omega) hk
      simp only [List.getElem_take]
      simp; omega
    rw [this]
    simp [hd]
  · have e : (s[k].client == d) = false := by simp; omega
    simp [hd, e]
theorem marksF_get (s : List DMark) (c : Int) : (marksF s c).getD (DMark.v ⟨0, 0, 0⟩) = (markOfL s c).v := by
  unfold marksF markOfL
  cases s.find? fun m => m.client == c <;> rfl
/-- What the reference's loop of Marked builds. -/
def stepM (x : DMark) (p : List DMark × Bool) (m : DMark) : List DMark × Bool :=
  let q := if (!p.2 && decide (m.client ≥ x.client)) = true then (p.1 ++ [x], true) else p
  if (m.client != x.client) = true then (q.1 ++ [m], q.2) else q
theorem stepM_after (x : DMark) : ∀ (r : List DMark) (out : List DMark), (∀ m ∈ r, x.client < m.client) → r.foldl (stepM x) (out, true) = (out ++ r, true)
  | [], out, _ => by simp
  | m :: r, out, h => by
    have hm := h m (by simp)
    have e : (m.client != x.client) = true := by simp; omega
    rw [List.foldl_cons]
    have : stepM x (out, true) m = (out ++ [m], true) := by simp [stepM, e]
    rw [this, stepM_after x r _ fun y hy => h y (by simp [hy])]
    simp
theorem stepM_all (x : DMark) : ∀ (s : List DMark) (out : List DMark), SortedM s → (let p := s.foldl (stepM x) (out, false); if p.2 then p.1 else p.1 ++ [x]) = out ++ putMark s x
  | [], out, _ => by simp [putMark]
  | m :: r, out, h => by
    obtain ⟨h1, h2⟩ := List.pairwise_cons.1 h
    rw [List.foldl_cons]
    rcases Int.lt_trichotomy m.client x.client with hx | hx | hx
    · have e : stepM x (out, false) m = (out ++ [m], false) := by
        have e1 : (m.client != x.client) = true := by simp; omega
        have e2 : decide (m.client ≥ x.client) = false := by simp; omega
        simp [stepM, e1, e2]
      rw [e]
      have := stepM_all x r (out ++ [m]) h2
      simp only at this ⊢
      rw [this]
      have e1 : decide (m.client < x.client) = true := by simp; omega
      have e2 : decide (x.client < m.client) = false := by simp; omega
      simp [putMark, List.filter_cons, e1, e2]
    · have e : stepM x (out, false) m = (out ++ [x], true) := by
        have e1 : (m.client != x.client) = false := by simp; omega
        have e2 : decide (m.client ≥ x.client) = true := by simp; omega
        simp [stepM, e1, e2]
      rw [e, stepM_after x r _ fun y hy => by have := h1 y hy; omega]
      have e1 : decide (m.client < x.client) = false := by simp; omega
      have e2 : decide (x.client < m.client) = false := by simp; omega
      have e3 := filt_gt (s := r) (c := x.client) fun y hy => by have := h1 y hy; omega
      have e4 : r.filter (fun y => decide (x.client < y.client)) = r := List.filter_eq_self.2 fun y hy => by have := h1 y hy; simp; omega
      simp [putMark, List.filter_cons, e1, e2, e3, e4]
    · have e : stepM x (out, false) m = (out ++ [x] ++ [m], true) := by
        have e1 : (m.client != x.client) = true := by simp; omega
        have e2 : decide (m.client ≥ x.client) = true := by simp; omega
        simp [stepM, e1, e2]
      rw [e, stepM_after x r _ fun y hy => by have := h1 y hy; omega]
      have e1 : decide (m.client < x.client) = false := by simp; omega
      have e2 : decide (x.client < m.client) = true := by simp; omega
      have e3 := filt_gt (s := r) (c := x.client) fun y hy => by have := h1 y hy; omega
      have e4 : r.filter (fun y => decide (x.client < y.client)) = r := List.filter_eq_self.2 fun y hy => by have := h1 y hy; simp; omega
      simp [putMark, List.filter_cons, e1, e2, e3, e4]
end Go.Proofs.YtmgcnmdbhahhlaaGreat
namespace Go.Proofs.YtmgcnmdbhahhlaaGreat
open Go.ChangeShapes Go.WideShapes Go.RowKit
def dk_WA4_spec_SeenOk_6 : List (List Nat) := unqs [0, 0, 66, 12417, 1052803, 84680772, 6509830341, 486455906566, 35601001230663, 35601001230663, 164122109978632714, 12864558999848899017, 895947530576690971275, 62214096053295717315148, 4288581010608110333633229, 156574859254327662432785166, 20081510041707290985360540040, 1356899553734770709485945406352, 1356899553734770709485945406352, 5923587830982514145972845142377555, 421636442773735343416726771234563090, 28292897532666114236322210354999399636, 1898537750402680611027230854233737200789, 127034656468995985865646476997610663392534, 5967707348221782891828072951731102390494551, 565648852092902157227629397357442590340833809, 37490373280641151012592431874597664098943063513, 2502485539529844412531286436639603921451199530074, 166087567271022160503618616904197948703796800878171, 11010347230074533307146158530030619788898519968978588, 11010347230074533307146158530030619788898519968978588, 752932131912260334039555932757799679532369757563885277, 2985930297697201441291086890838327699612987223161923557407, 210234572940368821915163135926733937005219597242913295542046, 13850072915254038234349307345913535094213956629436102207735777, 11010347230074533307146158530030619788898519968978588, 11010347230074533307146158530030619788898519968978588, 55850134146714105670323314832250725408165360095006668645, 3784436152620604361418416164180035334021156397949328402212, 248381376265470252552496479654363036654114445380177772796262, 980691698394957500613724600803745561927647133727159787676620151127169319, 51994894724060614221224959313175579963534257980652146624656993052187031651, 2970293386999070557595757949505285772116318429614249986723245519214184089309]
def fk_WA4_spec_SeenOk_6 : List (List Nat) := unps 40 [6, 2, 4, 13, 40, 121, 364, 1093, 42646, 16402, 29524, 88573, 265720, 797161, 2391484, 7174453, 21523360, 839411059, 322850407, 581130733, 1743392200, 5230176601, 15690529804, 47071589413, 141214768240, 423644304721, 1270932914164, 3812798742493, 11438396227480, 12109315358203368727, 12107805489901341301, 12108011381033435950, 12108560424052355014, 12110413444241206855, 12115972504807762378, 350186500504315507, 150060320108316679, 250123410306316093, 700407316197313456, 2051259033870305545]
def dk_WA4_spec_SeenOk_11 : List (List Nat) := unqs [0, 0, 66, 12417, 1052803, 0, 0, 391, 33222, 2384328, 90925286754906505]
def fk_WA4_spec_SeenOk_11 : List (List Nat) := unps 10 [58812, 58808, 58810, 58819, 58846, 1700, 728, 1214, 3401, 9962]

theorem sz_appW {a b c : Nat} {Q : Prop} (h : (a + b) * c ≤ 140737488355328) (q : Q) : (a + b) * c ≤ 140737488355328 ∧ Q := ⟨h, q⟩
theorem all_lenW {xs : List (List AD)} {s : Nat} {Q : Prop} (h : ∀ x ∈ xs, x.length = s) (q : Q) : (∀ x ∈ xs, x.length = s) ∧ Q := ⟨h, q⟩
theorem sl1Max_p (a b : Int) : PCall av 351 [pI a, pI b] (rI (if b > a then b else a)) := by
  refine pcall_of av_ok Tryz.func351 rfl Tryz.call351 Tryz.ntmps351 (congrArg Array.toList Tryz.results351) fun S => ?_; conv => whnf
  repeat' (first | (refine aw0 ?_) | ((first | refine aw1 ?_ | refine aw2 ?_ | refine aw3 ?_ | refine aw4 ?_ | refine aw5 ?_ | refine aw6 ?_ | refine aw7 ?_ | refine aw8 ?_); conv => whnf) | ((first | refine bT ?_ | refine bF ?_); conv => whnf) | (exact rr) | (refine And.intro rfl ?_; conv => whnf) | (refine AB.mk (fun h => ?_) (fun h => ?_) <;> (conv => whnf)))
  all_goals
    simp only [decide_eq_true_eq, decide_eq_false_iff_not] at *
    first
      | (rw [if_neg (by omega)]; done)
      | (by_cases h2 : b > a
         · rw [if_pos h2]
         · rw [if_neg h2]; have : a = b := by omega
           rw [this])
theorem sl9Copy_p (s : List DMark) (h : s.length ≤ 1000000) : PCall av 303 [.one (.sl (s.map DMark.ds))] (.val (.one (.sl (s.map DMark.ds)))) := by
  refine pcall_of av_ok Tryz.func303 rfl Tryz.call303 Tryz.ntmps303 (congrArg Array.toList Tryz.results303) fun S => ?_; conv => whnf
  repeat' (first | (refine aw0 ?_) | ((first | refine aw1 ?_ | refine aw2 ?_ | refine aw3 ?_ | refine aw4 ?_ | refine aw5 ?_ | refine aw6 ?_ | refine aw7 ?_ | refine aw8 ?_); conv => whnf) | ((first | refine bT ?_ | refine bF ?_); conv => whnf) | (refine all_lenW (fun x hx => by obtain ⟨y, _, rfl⟩ := List.mem_map.1 hx; rfl) ?_; conv => whnf) | (refine sz_appW (by simp only [List.length_map, List.length_nil, List.length_append, List.length_cons] <;> omega) ?_; conv => whnf) | (exact rr) | (refine And.intro rfl ?_; conv => whnf) | (refine AB.mk (fun h => ?_) (fun h => ?_) <;> (conv => whnf)))
  all_goals rfl
theorem icopySeen_p (s : List DMark) (h : s.length ≤ 1000000) : PCall av 325 [.one (.sl (s.map DMark.ds))] (.val (.one (.sl (s.map DMark.ds)))) := by
  refine pcall_of av_ok Tryz.func325 rfl Tryz.call325 Tryz.ntmps325 (congrArg Array.toList Tryz.results325) fun S => ?_; conv => whnf
  repeat' (first | (refine aw0 ?_) | ((first | refine aw1 ?_ | refine aw2 ?_ | refine aw3 ?_ | refine aw4 ?_ | refine aw5 ?_ | refine aw6 ?_ | refine aw7 ?_ | refine aw8 ?_); conv => whnf) | ((first | refine bT ?_ | refine bF ?_); conv => whnf) | (refine all_lenW (fun x hx => by obtain ⟨y, _, rfl⟩ := List.mem_map.1 hx; rfl) ?_; conv => whnf) | (refine sz_appW (by simp only [List.length_map, List.length_nil, List.length_append, List.length_cons] <;> omega) ?_; conv => whnf) | (exact rr) | (refine And.intro rfl ?_; conv => whnf) | (refine AB.mk (fun h => ?_) (fun h => ?_) <;> (conv => whnf)))
  all_goals rfl
theorem seenOk_len {s : List DMark} (h : ¬ s.length ≤ 4) : seenOk s = false := by
  cases hs : seenOk s with
  | false => rfl
  | true => exact absurd (seen_le4 hs) h
set_option maxHeartbeats 2000000 in
theorem sSeenOk_p (s : List DMark) : PCall av 301 [.one (.sl (s.map DMark.ds))] (rB (seenOk s)) := by
  refine pcall_of av_ok Tryz.func301 rfl Tryz.call301 Tryz.ntmps301 (congrArg Array.toList Tryz.results301) fun S => ?_; conv => whnf
  repeat' (first | (refine aw0 ?_) | ((first | refine aw1 ?_ | refine aw2 ?_ | refine aw3 ?_ | refine aw4 ?_ | refine aw5 ?_ | refine aw6 ?_ | refine aw7 ?_ | refine aw8 ?_); conv => whnf) | ((first | refine bT ?_ | refine bF ?_); conv => whnf) | (exact rr) | (refine And.intro rfl ?_; conv => whnf) | (refine AB.mk (fun h => ?_) (fun h => ?_) <;> (conv => whnf)))
  · rw [seenOk_len ari]
  · have h4 : s.length ≤ 4 := ari
    clear h
    refine AWP.loopS (fun k : Nat => k ≤ s.length ∧ (∀ (j : Nat) (hj : j < k) (hl : j < s.length), chainAt markOk markLt s j hl = true) ∧ ∀ (i j : Nat) (hi : i < j) (hj : j < k) (hl : j < s.length), (s[i]'(by omega)).index ≠ s[j].index) [2, 3, 4, 8, 9, 10, 11, 12, 13, 14, 15, 16, 17, 18, 19, 20, 21, 22, 23, 24, 25, 26, 27, 28, 29, 30, 31, 32, 33, 34, 35, 36, 37, 38, 39, 40, 41, 42, 43, 44, 45, 46, 47, 48, 49, 50, 51, 52, 53, 54, 55, 56, 57, 58, 59, 60, 61, 62, 63, 64, 65, 66, 67, 68, 69, 70, 71, 72] (fun k => [(3, vI .i64 (k : Int))]) (fun k => []) (fun k => s.length - k) 0 ⟨by omega, by omega, by omega⟩ ?_ SubO.nil (fun k hR => ?_) <;> (conv => whnf)
    · exact whd
    · obtain ⟨hk, hall, hdup⟩ := hR
      repeat' (first | (refine aw0 ?_) | ((first | refine aw1 ?_ | refine aw2 ?_ | refine aw3 ?_ | refine aw4 ?_ | refine aw5 ?_ | refine aw6 ?_ | refine aw7 ?_ | refine aw8 ?_); conv => whnf) | ((first | refine bT ?_ | refine bF ?_); conv => whnf) | (refine AWP.drawK av_ok 6 40 dk_WA4_spec_SeenOk_6 fk_WA4_spec_SeenOk_6 (by kernel_rfl) (by kernel_rfl) (by kernel_rfl) rfl ?_; conv => whnf) | (refine AIx.mapF ari (fun hlt => ?_); conv => whnf) | (refine AIx.mapP ari ari (fun hpv => ?_); conv => whnf) | (refine AW.i64 (n := _ - _) ari ari ?_; conv => whnf) | (refine AW.i64 ari ari ?_; conv => whnf) | (refine ACall.pure (sAskerOk_p _) rfl ?_; conv => whnf) | (refine AFCall.mk ⟨_, _, sAskerOk_p _, .inl rfl, ?_⟩; conv => whnf) | (refine ACall.pure (sl7Seq_p _) rfl ?_; conv => whnf) | (refine AFCall.mk ⟨_, _, sl7Seq_p _, .inl rfl, ?_⟩; conv => whnf) | (refine ACall.pure (sl7Index_p _) rfl ?_; conv => whnf) | (refine AFCall.mk ⟨_, _, sl7Index_p _, .inl rfl, ?_⟩; conv => whnf) | (exact rr) | (refine And.intro rfl ?_; conv => whnf) | (refine AB.mk (fun h => ?_) (fun h => ?_) <;> (conv => whnf)))
      all_goals first
        | (rw [seenOk_chain hlt (by first | (refine chainAt_P _ ?_; simp_all [markOk]; done) | (rw [chainAt_pos _ ari]; simp_all [markOk, markLt]; done) | (rw [chainAt_zero _ ari]; simp_all [markOk]; done))]; done)
        | (refine rB_of ?_
           have hkk : k = s.length := ari
           rw [seenOk_yes (fun j hl => hall j (by omega) hl) (fun i j hi hl => hdup i j hi (by omega) hl)]; done)
        | skip
      all_goals
        have hch : chainAt markOk markLt s k hlt = true := (by first | (refine chainAt_P _ ?_; simp_all [markOk]; done) | (rw [chainAt_pos _ ari]; simp_all [markOk, markLt]; done) | (rw [chainAt_zero _ ari]; simp_all [markOk]; done))
        refine AWP.loopS (fun q : Nat => q ≤ k ∧ ∀ (i : Nat) (hi : i < q) (hik : i < k), (s[i]'(by omega)).index ≠ s[k].index) [2, 4, 57, 58, 59, 60, 61, 62, 63, 64, 65, 66, 67, 68, 69, 70, 71, 72] (fun q => [(4, vI .i64 (q : Int))]) (fun _ => []) (fun q => k - q) 0 ⟨by omega, by omega⟩ ?_ SubO.nil (fun q hQ => ?_) <;> (conv => whnf)
        · exact whd
        · obtain ⟨hq, hno⟩ := hQ
          repeat' (first | (refine aw0 ?_) | ((first | refine aw1 ?_ | refine aw2 ?_ | refine aw3 ?_ | refine aw4 ?_ | refine aw5 ?_ | refine aw6 ?_ | refine aw7 ?_ | refine aw8 ?_); conv => whnf) | ((first | refine bT ?_ | refine bF ?_); conv => whnf) | (refine AWP.drawK av_ok 11 10 dk_WA4_spec_SeenOk_11 fk_WA4_spec_SeenOk_11 (by kernel_rfl) (by kernel_rfl) (by kernel_rfl) rfl ?_; conv => whnf) | (refine AIx.mapF (k := q) ari (fun hqt => ?_); conv => whnf) | (refine AIx.mapF (k := k) ari (fun hlt => ?_); conv => whnf) | (refine AW.i64 ari ari ?_; conv => whnf) | (exact rr) | (refine And.intro rfl ?_; conv => whnf) | (refine AB.mk (fun h => ?_) (fun h => ?_) <;> (conv => whnf)))
          all_goals first
            | (rw [seenOk_dup (j := q) (k := k) ari ari (by simp_all)]; done)
            | (refine ANext.mk ⟨q + 1, ⟨ari, fun i hi hik => ?_⟩, ari, ?_, SubO.nil⟩
               · by_cases hiq : i = q
                 · subst hiq; intro e; simp [e] at h
                 · exact hno i (by omega) hik
               · exact hds)
            | (refine ANext.mk ⟨k + 1, ⟨ari, step_chain hall ari hch, step_dup ari hdup fun i hi => hno i ari hi⟩, ari, ?_, SubO.nil⟩
               exact hds)
theorem last_snoc {s : List DMark} {k : Nat} (hk : k < s.length) : lastSeenL (s.take (k + 1)) = (if s[k].index > lastSeenL (s.take k) then s[k].index else lastSeenL (s.take k)) := by
  unfold lastSeenL
  rw [List.take_succ_eq_append_getElem hk, List.foldl_append]
  rfl
theorem ilastSeen_p (s : List DMark) (hs : s.length ≤ 1000000) : PCall av 323 [.one (.sl (s.map DMark.ds))] (rI (lastSeenL s)) := by
  refine pcall_of av_ok Tryz.func323 rfl Tryz.call323 Tryz.ntmps323 (congrArg Array.toList Tryz.results323) fun S => ?_; conv => whnf
  repeat' (first | (refine aw0 ?_) | ((first | refine aw1 ?_ | refine aw2 ?_ | refine aw3 ?_ | refine aw4 ?_ | refine aw5 ?_ | refine aw6 ?_ | refine aw7 ?_ | refine aw8 ?_); conv => whnf) | ((first | refine bT ?_ | refine bF ?_); conv => whnf) | (exact rr) | (refine And.intro rfl ?_; conv => whnf) | (refine AB.mk (fun h => ?_) (fun h => ?_) <;> (conv => whnf)))
  refine AWP.loopS (fun p : Nat × Int => p.1 ≤ s.length ∧ p.2 = lastSeenL (s.take p.1)) [3, 5, 8, 9, 10, 11, 12, 13, 14, 15, 16] (fun p => [(3, vI .i64 p.2), (8, vI .i64 (p.1 : Int))]) (fun _ => []) (fun p => s.length - p.1) (0, 0) ⟨by simp, rfl⟩ ?_ SubO.nil (fun p hR => ?_) <;> (conv => whnf)
  · exact whd
  · obtain ⟨k, v⟩ := p
    obtain ⟨hk, hv⟩ := hR
    simp only at hk hv
    repeat' (first | (refine aw0 ?_) | ((first | refine aw1 ?_ | refine aw2 ?_ | refine aw3 ?_ | refine aw4 ?_ | refine aw5 ?_ | refine aw6 ?_ | refine aw7 ?_ | refine aw8 ?_); conv => whnf) | ((first | refine bT ?_ | refine bF ?_); conv => whnf) | (refine AIx.mapF ari (fun hlt => ?_); conv => whnf) | (refine AW.i64 ari ari ?_; conv => whnf) | (exact rr) | (refine And.intro rfl ?_; conv => whnf) | (refine AB.mk (fun h => ?_) (fun h => ?_) <;> (conv => whnf)))
    all_goals first
      | (refine ANext.mk ⟨(k + 1, if s[k].index > v then s[k].index else v), ⟨ari, by simp only [last_snoc (s := s) (k := k) ari, hv]⟩, by simp only; omega, ?_, SubO.nil⟩
         exact hds)
      | (have hkk : k = s.length := ari
         subst hkk
         rw [List.take_length] at hv
         rw [hv])
theorem sLastSeen_p (s : List DMark) (h : seenOk s = true) : PCall av 302 [.one (.sl (s.map DMark.ds))] (rI (lastSeenL s)) := by
  have h' : (!seenOk s) = false := by simp [h]
  have hl := seen_le4 h
  refine pcall_of av_ok Tryz.func302 rfl Tryz.call302 Tryz.ntmps302 (congrArg Array.toList Tryz.results302) fun S => ?_; conv => whnf
  repeat' (first | (refine aw0 ?_) | ((first | refine aw1 ?_ | refine aw2 ?_ | refine aw3 ?_ | refine aw4 ?_ | refine aw5 ?_ | refine aw6 ?_ | refine aw7 ?_ | refine aw8 ?_); conv => whnf) | ((first | refine bT ?_ | refine bF ?_); conv => whnf) | (refine ACall.pure (sSeenOk_p s) rfl ?_; conv => whnf) | (refine AFCall.mk ⟨_, _, sSeenOk_p s, .inl rfl, ?_⟩; conv => whnf) | (exact rr) | (refine And.intro rfl ?_; conv => whnf) | (refine AB.mk (fun h => ?_) (fun h => ?_) <;> (conv => whnf)))
  refine AWP.loopS (fun p : Nat × Int => p.1 ≤ s.length ∧ p.2 = lastSeenL (s.take p.1)) [3, 4, 9, 10, 11, 12, 13, 14, 15, 16, 17, 18, 19, 20, 21] (fun p => [(3, vI .i64 p.2), (4, vI .i64 (p.1 : Int))]) (fun _ => []) (fun p => s.length - p.1) (0, 0) ⟨by simp, rfl⟩ ?_ SubO.nil (fun p hR => ?_) <;> (conv => whnf)
  · exact whd
  · obtain ⟨k, v⟩ := p
    obtain ⟨hk, hv⟩ := hR
    simp only at hk hv
    repeat' (first | (refine aw0 ?_) | ((first | refine aw1 ?_ | refine aw2 ?_ | refine aw3 ?_ | refine aw4 ?_ | refine aw5 ?_ | refine aw6 ?_ | refine aw7 ?_ | refine aw8 ?_); conv => whnf) | ((first | refine bT ?_ | refine bF ?_); conv => whnf) | (refine AIx.mapF ari (fun hlt => ?_); conv => whnf) | (refine AW.i64 ari ari ?_; conv => whnf) | (refine ACall.pure (sl1Max_p _ _) rfl ?_; conv => whnf) | (refine AFCall.mk ⟨_, _, sl1Max_p _ _, .inl rfl, ?_⟩; conv => whnf) | (exact rr) | (refine And.intro rfl ?_; conv => whnf) | (refine AB.mk (fun h => ?_) (fun h => ?_) <;> (conv => whnf)))
    all_goals first
      | (refine ANext.mk ⟨(k + 1, if s[k].index > v then s[k].index else v), ⟨ari, by simp only [last_snoc (s := s) (k := k) ari, hv]⟩, by simp only; omega, ?_, SubO.nil⟩
         exact hds)
      | (have hkk : k = s.length := ari
         subst hkk
         rw [List.take_length] at hv
         rw [hv])
theorem mark_find {s : List DMark} {c : Int} {k : Nat} (hk : k < s.length) (hno : ∀ (j : Nat) (hj : j < k) (hl : j < s.length), s[j].client ≠ c) (h : s[k].client = c) : markOfL s c = s[k] := by
  unfold markOfL
  have e : s = s.take k ++ s[k] :: s.drop (k + 1) := by simp
  have h0 : (s.take k).find? (fun m => m.client == c) = none := by
    rw [List.find?_eq_none]
    intro m hm
    obtain ⟨i, hi, rfl⟩ := List.getElem_of_mem hm
    simp at hi
    have := hno i (by omega) (by omega)
    simpa using this
  have : s.find? (fun m => m.client == c) = some s[k] := by
    conv => lhs; rw [e]
    rw [List.find?_append, h0, List.find?_cons]
    simp [h]
  rw [this]; rfl
theorem mark_none {s : List DMark} {c : Int} (hno : ∀ (j : Nat) (hl : j < s.length), s[j].client ≠ c) : markOfL s c = ⟨0, 0, 0⟩ := by
  unfold markOfL
  have : s.find? (fun m => m.client == c) = none := by
    rw [List.find?_eq_none]
    intro m hm
    obtain ⟨i, hi, rfl⟩ := List.getElem_of_mem hm
    simpa using hno i hi
  rw [this]; rfl
theorem sMarkOf_p (s : List DMark) (c : Int) (h : seenOk s = true) : PCall av 373 [.one (.sl (s.map DMark.ds)), pI c] (.val (.agg (markOfL s c).ds)) := by
  have h' : (!seenOk s) = false := by simp [h]
  have hl := seen_le4 h
  refine pcall_of av_ok Tryz.func373 rfl Tryz.call373 Tryz.ntmps373 (congrArg Array.toList Tryz.results373) fun S => ?_; conv => whnf
  repeat' (first | (refine aw0 ?_) | ((first | refine aw1 ?_ | refine aw2 ?_ | refine aw3 ?_ | refine aw4 ?_ | refine aw5 ?_ | refine aw6 ?_ | refine aw7 ?_ | refine aw8 ?_); conv => whnf) | ((first | refine bT ?_ | refine bF ?_); conv => whnf) | (refine ACall.pure (sSeenOk_p s) rfl ?_; conv => whnf) | (refine AFCall.mk ⟨_, _, sSeenOk_p s, .inl rfl, ?_⟩; conv => whnf) | (exact rr) | (refine And.intro rfl ?_; conv => whnf) | (refine AB.mk (fun h => ?_) (fun h => ?_) <;> (conv => whnf)))
  refine AWP.loopS (fun k : Nat => k ≤ s.length ∧ ∀ (j : Nat) (hj : j < k) (hl : j < s.length), s[j].client ≠ c) [5, 10, 11, 12, 13, 14, 15, 16, 17, 18, 19, 20, 21, 22, 23, 24, 25, 26] (fun k => [(5, vI .i64 (k : Int))]) (fun _ => [(4, .cells 258 [.d (dI 0), .d (dI 0), .d (dI 0)])]) (fun k => s.length - k) 0 ⟨by omega, by omega⟩ ?_ (SubO.cons rfl SubO.nil) (fun k hR => ?_) <;> (conv => whnf)
  · exact whd
  · obtain ⟨hk, hno⟩ := hR
    repeat' (first | (refine aw0 ?_) | ((first | refine aw1 ?_ | refine aw2 ?_ | refine aw3 ?_ | refine aw4 ?_ | refine aw5 ?_ | refine aw6 ?_ | refine aw7 ?_ | refine aw8 ?_); conv => whnf) | ((first | refine bT ?_ | refine bF ?_); conv => whnf) | (refine AIx.mapF ari (fun hlt => ?_); conv => whnf) | (refine AW.i64 ari ari ?_; conv => whnf) | (exact rr) | (refine And.intro rfl ?_; conv => whnf) | (refine AB.mk (fun h => ?_) (fun h => ?_) <;> (conv => whnf)))
    all_goals first
      | (refine ANext.mk ⟨k + 1, ⟨ari, fun j hj hl => ?_⟩, by omega, ?_, SubO.cons rfl SubO.nil⟩
         · by_cases hjk : j = k
           · subst hjk; simp_all
           · exact hno j (by omega) hl
         · exact hds)
      | (rw [mark_find (k := k) hlt hno (by simp_all)]; rfl)
      | (have hkk : k = s.length := ari
         rw [mark_none fun j hl => hno j (by omega) hl]; rfl)
theorem sFreshIn_p (s : List DMark) (c q : Int) (h : seenOk s = true) (hc : betweenB c 2 5 = true) (hq : betweenB q 1 2000 = true) : PCall av 352 [.one (.sl (s.map DMark.ds)), pI c, pI q] (rB (decide ((markOfL s c).seq < q))) := by
  refine pcall_of av_ok Tryz.func352 rfl Tryz.call352 Tryz.ntmps352 (congrArg Array.toList Tryz.results352) fun S => ?_; conv => whnf
  repeat' (first | (refine aw0 ?_) | ((first | refine aw1 ?_ | refine aw2 ?_ | refine aw3 ?_ | refine aw4 ?_ | refine aw5 ?_ | refine aw6 ?_ | refine aw7 ?_ | refine aw8 ?_); conv => whnf) | ((first | refine bT ?_ | refine bF ?_); conv => whnf) | (refine ACall.pure (sSeenOk_p s) rfl ?_; conv => whnf) | (refine AFCall.mk ⟨_, _, sSeenOk_p s, .inl rfl, ?_⟩; conv => whnf) | (refine ACall.pure (sMarkOf_p s c h) rfl ?_; conv => whnf) | (refine AFCall.mk ⟨_, _, sMarkOf_p s c h, .inl rfl, ?_⟩; conv => whnf) | (refine ACall.pure (sAskerOk_p _) rfl ?_; conv => whnf) | (refine AFCall.mk ⟨_, _, sAskerOk_p _, .inl rfl, ?_⟩; conv => whnf) | (refine ACall.pure (sl7Seq_p _) rfl ?_; conv => whnf) | (refine AFCall.mk ⟨_, _, sl7Seq_p _, .inl rfl, ?_⟩; conv => whnf) | (exact rr) | (refine And.intro rfl ?_; conv => whnf) | (refine AB.mk (fun h => ?_) (fun h => ?_) <;> (conv => whnf)))
  all_goals first
    | rfl
    | simp_all
end Go.Proofs.YtmgcnmdbhahhlaaGreat
namespace Go.Proofs.YtmgcnmdbhahhlaaGreat
open Go.ChangeShapes Go.WideShapes Go.RowKit
def dk_WA5_spec_Marked_3 : List (List Nat) := unqs [0, 1, 129, 12354, 1056835, 1056835, 101453956, 1056835, 135008388, 1420639959016008, 182435787227795653, 4648010245964599818, 897119605921862652036, 61688236933047122166412, 4288656023430201321201933, 61688236933047122166412, 4893118933237515908555021, 1204593638896541768696351220816, 66237240043834182832914358670223]
def fk_WA5_spec_Marked_3 : List (List Nat) := unps 17 [0, 1, 4, 13, 19480, 17698, 17941, 2146, 4333, 9841, 29524, 88573, 265720, 115588417, 117182740, 13551745, 27900652]
def dk_WA5_spec_Marked_11 : List (List Nat) := unqs [0, 1, 129, 12354, 12354, 67637445, 6527127684, 485365133638, 12354, 2367555, 145826235435479689, 3477390870126285192]
def fk_WA5_spec_Marked_11 : List (List Nat) := unps 10 [0, 1, 4, 52663, 52555, 52609, 52852, 53581, 6547, 13108]
def dk_WA5_spec_Marked_14 : List (List Nat) := unqs [0, 0, 66, 12417, 1052803, 0, 6, 346852442566]
def fk_WA5_spec_Marked_14 : List (List Nat) := unps 7 [1950, 1946, 1948, 1957, 1984, 242, 485]

def pSeen (r : List DMark × Bool) : AP := .tup [.one (.sl (r.1.map DMark.ds)), .one (dB r.2)]
def markedL (s : List DMark) (e : DEntry) : List DMark × Bool := match markedO s e with | some o => (o, true) | none => (s, false)
theorem entry_bounds {e : DEntry} (h : entryOk e = true) : betweenB e.client 2 5 = true ∧ betweenB e.seq 1 2000 = true ∧ betweenB e.index 1 2000 = true := by
  simp only [entryOk, Bool.and_eq_true] at h
  exact ⟨h.1.1.2, h.1.2, h.1.1.1.1⟩
theorem stepM_len (x : DMark) : ∀ (s : List DMark) (p : List DMark × Bool), (s.foldl (stepM x) p).1.length ≤ p.1.length + 2 * s.length
  | [], p => by simp
  | m :: r, p => by
    have h1 := stepM_len x r (stepM x p m)
    have h2 : (stepM x p m).1.length ≤ p.1.length + 2 := by
      unfold stepM
      simp only
      split <;> split <;> simp
    simp only [List.foldl_cons, List.length_cons]
    omega
theorem stepM_snoc (x : DMark) {s : List DMark} {k : Nat} (hk : k < s.length) : (s.take (k + 1)).foldl (stepM x) ([], false) = stepM x ((s.take k).foldl (stepM x) ([], false)) s[k] := by
  rw [List.take_succ_eq_append_getElem hk, List.foldl_append]
  rfl
theorem stepM_1 {x m : DMark} {p : List DMark × Bool} (h1 : (!p.2 && decide (m.client ≥ x.client)) = true) (h2 : (m.client != x.client) = true) : stepM x p m = (p.1 ++ [x] ++ [m], true) := by simp only [stepM, h1, h2, if_true]
theorem stepM_2 {x m : DMark} {p : List DMark × Bool} (h1 : (!p.2 && decide (m.client ≥ x.client)) = true) (h2 : (m.client != x.client) = false) : stepM x p m = (p.1 ++ [x], true) := by simp only [stepM, h1, h2, if_true]; rfl
theorem stepM_3 {x m : DMark} {p : List DMark × Bool} (h1 : (!p.2 && decide (m.client ≥ x.client)) = false) (h2 : (m.client != x.client) = true) : stepM x p m = (p.1 ++ [m], p.2) := by simp only [stepM, h1, h2, if_true]; rfl
theorem stepM_4 {x m : DMark} {p : List DMark × Bool} (h1 : (!p.2 && decide (m.client ≥ x.client)) = false) (h2 : (m.client != x.client) = false) : stepM x p m = (p.1, p.2) := by simp only [stepM, h1, h2]; rfl
theorem markedO_no {s : List DMark} {e : DEntry} (h : (entryOk e && freshB s e && decide (lastSeenL s < e.index)) = false) : markedO s e = none := by simp [markedO, h]
theorem markedO_yes {s : List DMark} {e : DEntry} (h : (entryOk e && freshB s e && decide (lastSeenL s < e.index)) = true) : markedO s e = some (putMark s e.mark) := by simp only [markedO, h, if_true]
set_option maxHeartbeats 2000000 in
theorem sMarked_p (s : List DMark) (e : DEntry) (hseen : seenOk s = true) : PCall av 304 [.one (.sl (s.map DMark.ds)), .agg e.ds] (pSeen (markedL s e)) := by
  have h' : (!seenOk s) = false := by simp [hseen]
  have hl := seen_le4 hseen
  refine pcall_of av_ok Tryz.func304 rfl Tryz.call304 Tryz.ntmps304 (congrArg Array.toList Tryz.results304) fun S => ?_; conv => whnf
  repeat' (first | (refine aw0 ?_) | ((first | refine aw1 ?_ | refine aw2 ?_ | refine aw3 ?_ | refine aw4 ?_ | refine aw5 ?_ | refine aw6 ?_ | refine aw7 ?_ | refine aw8 ?_); conv => whnf) | ((first | refine bT ?_ | refine bF ?_); conv => whnf) | (refine AWP.drawK av_ok 3 17 dk_WA5_spec_Marked_3 fk_WA5_spec_Marked_3 (by kernel_rfl) (by kernel_rfl) (by kernel_rfl) rfl ?_; conv => whnf) | (refine ACall.pure (sSeenOk_p s) rfl ?_; conv => whnf) | (refine AFCall.mk ⟨_, _, sSeenOk_p s, .inl rfl, ?_⟩; conv => whnf) | (refine ACall.pure (sEntryOk_p e) rfl ?_; conv => whnf) | (refine AFCall.mk ⟨_, _, sEntryOk_p e, .inl rfl, ?_⟩; conv => whnf) | (refine ACall.pure (sFreshIn_p s e.client e.seq hseen (by simp_all [entryOk]) (by simp_all [entryOk])) rfl ?_; conv => whnf) | (refine AFCall.mk ⟨_, _, sFreshIn_p s e.client e.seq hseen (by simp_all [entryOk]) (by simp_all [entryOk]), .inl rfl, ?_⟩; conv => whnf) | (refine ACall.pure (sLastSeen_p s hseen) rfl ?_; conv => whnf) | (refine AFCall.mk ⟨_, _, sLastSeen_p s hseen, .inl rfl, ?_⟩; conv => whnf) | (refine ACall.pure (sl9Copy_p s (by omega)) rfl ?_; conv => whnf) | (refine AFCall.mk ⟨_, _, sl9Copy_p s (by omega), .inl rfl, ?_⟩; conv => whnf) | (exact rr) | (refine And.intro rfl ?_; conv => whnf) | (refine AB.mk (fun h => ?_) (fun h => ?_) <;> (conv => whnf)))
  all_goals first
    | (have hno : markedO s e = none := markedO_no (by first | (simp_all [freshB]; done) | (simp_all [freshB]; intros; omega))
       simp only [markedL, hno]; rfl)
    | skip
  have hyes : markedO s e = some (putMark s e.mark) := markedO_yes (by first | (simp_all [freshB]; done) | (simp_all [freshB]; omega))
  simp only [markedL, hyes]
  refine AWP.loopS (fun p : Nat × List DMark × Bool => p.1 ≤ s.length ∧ p.2 = (s.take p.1).foldl (stepM e.mark) ([], false)) (42 :: [7, 8, 9, 43, 44, 45, 46, 47, 48, 49, 50, 51, 52, 53, 54, 55, 56, 57, 58, 59, 60, 61, 62, 63, 64, 65, 66, 67, 68, 69, 70, 71, 72, 73, 74, 75, 76, 77, 78, 79]) (fun p => [(7, .one (.own 42)), (8, vB p.2.2), (9, vI .i64 (p.1 : Int))]) (fun p => [(42, .row 258 3 (p.2.1.map DMark.ds)), (6, .cells 258 (e.mark.ds.map .d)), (3, .cells 301 (e.ds.map .d))]) (fun p => s.length - p.1) (0, [], false) ⟨by simp, rfl⟩ ?_ (SubO.cons rfl (SubO.cons rfl (SubO.cons rfl SubO.nil))) (fun p hR => ?_) <;> (conv => whnf)
  · exact whd
  · obtain ⟨hk, hv⟩ := hR
    have hlen := stepM_len e.mark (s.take p.1) ([], false)
    rw [← hv] at hlen
    have htl : (s.take p.1).length ≤ 4 := by simp; omega
    simp only [List.length_nil] at hlen
    have hfin := stepM_all e.mark s [] (seen_sorted hseen)
    repeat' (first | (refine aw0 ?_) | ((first | refine aw1 ?_ | refine aw2 ?_ | refine aw3 ?_ | refine aw4 ?_ | refine aw5 ?_ | refine aw6 ?_ | refine aw7 ?_ | refine aw8 ?_); conv => whnf) | ((first | refine bT ?_ | refine bF ?_); conv => whnf) | (refine AWP.drawK av_ok 11 10 dk_WA5_spec_Marked_11 fk_WA5_spec_Marked_11 (by kernel_rfl) (by kernel_rfl) (by kernel_rfl) rfl ?_; conv => whnf) | (refine AWP.drawK av_ok 14 7 dk_WA5_spec_Marked_14 fk_WA5_spec_Marked_14 (by kernel_rfl) (by kernel_rfl) (by kernel_rfl) rfl ?_; conv => whnf) | (refine AIx.mapF ari (fun hlt => ?_); conv => whnf) | (refine AW.i64 ari ari ?_; conv => whnf) | (refine all_lenW (fun x hx => by obtain ⟨y, _, rfl⟩ := List.mem_map.1 hx; rfl) ?_; conv => whnf) | (refine sz_appW (by simp only [List.length_map, List.length_nil, List.length_append, List.length_cons] <;> omega) ?_; conv => whnf) | (exact rr) | (refine And.intro rfl ?_; conv => whnf) | (refine AB.mk (fun h => ?_) (fun h => ?_) <;> (conv => whnf)))
    all_goals first
      | (have he : stepM e.mark p.2 (s[p.1]'ari) = (p.2.1 ++ [e.mark] ++ [s[p.1]'ari], true) := (by first | exact stepM_1 (by clear hfin hlen hv; first | (simp_all [DEntry.mark]; done) | (simp_all [DEntry.mark]; omega)) (by clear hfin hlen hv; first | (simp_all [DEntry.mark]; done) | (simp_all [DEntry.mark]; omega)) | exact stepM_2 (by clear hfin hlen hv; first | (simp_all [DEntry.mark]; done) | (simp_all [DEntry.mark]; omega)) (by clear hfin hlen hv; first | (simp_all [DEntry.mark]; done) | (simp_all [DEntry.mark]; omega)) | exact stepM_3 (by clear hfin hlen hv; first | (simp_all [DEntry.mark]; done) | (simp_all [DEntry.mark]; omega)) (by clear hfin hlen hv; first | (simp_all [DEntry.mark]; done) | (simp_all [DEntry.mark]; omega)) | exact stepM_4 (by clear hfin hlen hv; first | (simp_all [DEntry.mark]; done) | (simp_all [DEntry.mark]; omega)) (by clear hfin hlen hv; first | (simp_all [DEntry.mark]; done) | (simp_all [DEntry.mark]; omega)))
         (refine ANext.mk ⟨(p.1 + 1, p.2.1 ++ [e.mark] ++ [s[p.1]'ari], true), ⟨ari, by simp only [stepM_snoc e.mark (s := s) (k := p.1) ari, ← hv, he]⟩, ari, ?_, SubO.cons (congrArg some (congrArg (AO.row 258 3) (by first | rfl | (simp only [List.map_append, List.map_cons, List.map_nil]; rfl)))) (SubO.cons rfl (SubO.cons rfl SubO.nil))⟩
          exact hds))
      | (have he : stepM e.mark p.2 (s[p.1]'ari) = (p.2.1 ++ [e.mark], true) := (by first | exact stepM_1 (by clear hfin hlen hv; first | (simp_all [DEntry.mark]; done) | (simp_all [DEntry.mark]; omega)) (by clear hfin hlen hv; first | (simp_all [DEntry.mark]; done) | (simp_all [DEntry.mark]; omega)) | exact stepM_2 (by clear hfin hlen hv; first | (simp_all [DEntry.mark]; done) | (simp_all [DEntry.mark]; omega)) (by clear hfin hlen hv; first | (simp_all [DEntry.mark]; done) | (simp_all [DEntry.mark]; omega)) | exact stepM_3 (by clear hfin hlen hv; first | (simp_all [DEntry.mark]; done) | (simp_all [DEntry.mark]; omega)) (by clear hfin hlen hv; first | (simp_all [DEntry.mark]; done) | (simp_all [DEntry.mark]; omega)) | exact stepM_4 (by clear hfin hlen hv; first | (simp_all [DEntry.mark]; done) | (simp_all [DEntry.mark]; omega)) (by clear hfin hlen hv; first | (simp_all [DEntry.mark]; done) | (simp_all [DEntry.mark]; omega)))
         (refine ANext.mk ⟨(p.1 + 1, p.2.1 ++ [e.mark], true), ⟨ari, by simp only [stepM_snoc e.mark (s := s) (k := p.1) ari, ← hv, he]⟩, ari, ?_, SubO.cons (congrArg some (congrArg (AO.row 258 3) (by first | rfl | (simp only [List.map_append, List.map_cons, List.map_nil]; rfl)))) (SubO.cons rfl (SubO.cons rfl SubO.nil))⟩
          exact hds))
      | (have he : stepM e.mark p.2 (s[p.1]'ari) = (p.2.1 ++ [s[p.1]'ari], p.2.2) := (by first | exact stepM_1 (by clear hfin hlen hv; first | (simp_all [DEntry.mark]; done) | (simp_all [DEntry.mark]; omega)) (by clear hfin hlen hv; first | (simp_all [DEntry.mark]; done) | (simp_all [DEntry.mark]; omega)) | exact stepM_2 (by clear hfin hlen hv; first | (simp_all [DEntry.mark]; done) | (simp_all [DEntry.mark]; omega)) (by clear hfin hlen hv; first | (simp_all [DEntry.mark]; done) | (simp_all [DEntry.mark]; omega)) | exact stepM_3 (by clear hfin hlen hv; first | (simp_all [DEntry.mark]; done) | (simp_all [DEntry.mark]; omega)) (by clear hfin hlen hv; first | (simp_all [DEntry.mark]; done) | (simp_all [DEntry.mark]; omega)) | exact stepM_4 (by clear hfin hlen hv; first | (simp_all [DEntry.mark]; done) | (simp_all [DEntry.mark]; omega)) (by clear hfin hlen hv; first | (simp_all [DEntry.mark]; done) | (simp_all [DEntry.mark]; omega)))
         (refine ANext.mk ⟨(p.1 + 1, p.2.1 ++ [s[p.1]'ari], p.2.2), ⟨ari, by simp only [stepM_snoc e.mark (s := s) (k := p.1) ari, ← hv, he]⟩, ari, ?_, SubO.cons (congrArg some (congrArg (AO.row 258 3) (by first | rfl | (simp only [List.map_append, List.map_cons, List.map_nil]; rfl)))) (SubO.cons rfl (SubO.cons rfl SubO.nil))⟩
          exact hds))
      | (have he : stepM e.mark p.2 (s[p.1]'ari) = (p.2.1, p.2.2) := (by first | exact stepM_1 (by clear hfin hlen hv; first | (simp_all [DEntry.mark]; done) | (simp_all [DEntry.mark]; omega)) (by clear hfin hlen hv; first | (simp_all [DEntry.mark]; done) | (simp_all [DEntry.mark]; omega)) | exact stepM_2 (by clear hfin hlen hv; first | (simp_all [DEntry.mark]; done) | (simp_all [DEntry.mark]; omega)) (by clear hfin hlen hv; first | (simp_all [DEntry.mark]; done) | (simp_all [DEntry.mark]; omega)) | exact stepM_3 (by clear hfin hlen hv; first | (simp_all [DEntry.mark]; done) | (simp_all [DEntry.mark]; omega)) (by clear hfin hlen hv; first | (simp_all [DEntry.mark]; done) | (simp_all [DEntry.mark]; omega)) | exact stepM_4 (by clear hfin hlen hv; first | (simp_all [DEntry.mark]; done) | (simp_all [DEntry.mark]; omega)) (by clear hfin hlen hv; first | (simp_all [DEntry.mark]; done) | (simp_all [DEntry.mark]; omega)))
         (refine ANext.mk ⟨(p.1 + 1, p.2.1, p.2.2), ⟨ari, by simp only [stepM_snoc e.mark (s := s) (k := p.1) ari, ← hv, he]⟩, ari, ?_, SubO.cons (congrArg some (congrArg (AO.row 258 3) (by first | rfl | (simp only [List.map_append, List.map_cons, List.map_nil]; rfl)))) (SubO.cons rfl (SubO.cons rfl SubO.nil))⟩
          exact hds))
      | (exfalso; clear hfin hlen hv; simp_all; done)
      | (exfalso; clear hfin hlen hv; simp_all; omega)
      | (have hkk : p.1 = s.length := ari
         rw [hkk, List.take_length] at hv
         rw [← hv] at hfin
         have hf : putMark s e.mark = p.2.1 ++ [e.mark] := by simp_all
         rw [hf]
         simp only [pSeen, List.map_append, List.map_cons, List.map_nil]
         rfl)
      | (have hkk : p.1 = s.length := ari
         rw [hkk, List.take_length] at hv
         rw [← hv] at hfin
         have hf : putMark s e.mark = p.2.1 := by simp_all
         rw [hf]
         rfl)
end Go.Proofs.YtmgcnmdbhahhlaaGreat
namespace Go.Proofs.YtmgcnmdbhahhlaaGreat
open Go.ChangeShapes Go.WideShapes Go.RowKit

theorem over_bad {s : List DMark} {l : List DEntry} (h : seenOk s = false) : seenOver s l = ([], false) := by simp [seenOver, h]
theorem over_len {s : List DMark} {l : List DEntry} (h : seenOk s = true) (hl : 2000 < l.length) : seenOver s l = (s, false) := by simp [seenOver, h, hl]
theorem over_none {s : List DMark} {l : List DEntry} (h : seenOk s = true) (hl : ¬ 2000 < l.length) (hf : seenFold s l = none) : seenOver s l = (s, false) := by simp [seenOver, h, hl, hf]
theorem over_some {s c : List DMark} {l : List DEntry} (h : seenOk s = true) (hl : ¬ 2000 < l.length) (hf : seenFold s l = some c) : seenOver s l = (c, true) := by simp [seenOver, h, hl, hf]
theorem marked_some {s c : List DMark} {e : DEntry} (h : markedO s e = some c) : markedL s e = (c, true) := by simp [markedL, h]
theorem marked_none {s : List DMark} {e : DEntry} (h : markedO s e = none) : markedL s e = (s, false) := by simp [markedL, h]
set_option maxHeartbeats 2000000 in
theorem sSeenOver_p (s : List DMark) (l : List DEntry) : PCall av 246 [.one (.sl (s.map DMark.ds)), .one (.sl (l.map DEntry.ds))] (pSeen (seenOver s l)) := by
  cases hseen : seenOk s with
  | false =>
    have h' : (!seenOk s) = true := by simp [hseen]
    rw [over_bad hseen]
    refine pcall_of av_ok Tryz.func246 rfl Tryz.call246 Tryz.ntmps246 (congrArg Array.toList Tryz.results246) fun S => ?_; conv => whnf
    repeat' (first | (refine aw0 ?_) | ((first | refine aw1 ?_ | refine aw2 ?_ | refine aw3 ?_ | refine aw4 ?_ | refine aw5 ?_ | refine aw6 ?_ | refine aw7 ?_ | refine aw8 ?_); conv => whnf) | ((first | refine bT ?_ | refine bF ?_); conv => whnf) | (refine ACall.pure (sSeenOk_p s) rfl ?_; conv => whnf) | (refine AFCall.mk ⟨_, _, sSeenOk_p s, .inl rfl, ?_⟩; conv => whnf) | (exact rr) | (refine And.intro rfl ?_; conv => whnf) | (refine AB.mk (fun h => ?_) (fun h => ?_) <;> (conv => whnf)))
    all_goals rfl
  | true =>
    have h' : (!seenOk s) = false := by simp [hseen]
    have hs4 := seen_le4 hseen
    refine pcall_of av_ok Tryz.func246 rfl Tryz.call246 Tryz.ntmps246 (congrArg Array.toList Tryz.results246) fun S => ?_; conv => whnf
    repeat' (first | (refine aw0 ?_) | ((first | refine aw1 ?_ | refine aw2 ?_ | refine aw3 ?_ | refine aw4 ?_ | refine aw5 ?_ | refine aw6 ?_ | refine aw7 ?_ | refine aw8 ?_); conv => whnf) | ((first | refine bT ?_ | refine bF ?_); conv => whnf) | (refine ACall.pure (sSeenOk_p s) rfl ?_; conv => whnf) | (refine AFCall.mk ⟨_, _, sSeenOk_p s, .inl rfl, ?_⟩; conv => whnf) | (refine ACall.pure (sl9Copy_p s (by omega)) rfl ?_; conv => whnf) | (refine AFCall.mk ⟨_, _, sl9Copy_p s (by omega), .inl rfl, ?_⟩; conv => whnf) | (exact rr) | (refine And.intro rfl ?_; conv => whnf) | (refine AB.mk (fun h => ?_) (fun h => ?_) <;> (conv => whnf)))
    · rw [over_len hseen ari]; rfl
    · have hl : ¬ 2000 < l.length := ari
      clear h
      refine AWP.loopS (fun p : Nat × List DMark => p.1 ≤ l.length ∧ seenFold s (l.take p.1) = some p.2) [4, 5, 6, 7, 8, 9, 21, 22, 23, 24, 25, 26, 27, 28, 29, 30, 31, 32, 33, 34, 35, 36, 37, 38, 39, 40] (fun p => [(6, .one (.d (.sl (p.2.map DMark.ds)))), (7, vI .i64 (p.1 : Int))]) (fun _ => []) (fun p => l.length - p.1) (0, s) ⟨by simp, rfl⟩ ?_ SubO.nil (fun p hR => ?_) <;> (conv => whnf)
      · exact whd
      · obtain ⟨hk, hf⟩ := hR
        have hcur := fold_seen hseen hf
        by_cases hlt : p.1 < l.length
        · have hlt' : decide ((p.1 : Int) < ((l.map DEntry.ds).length : Int)) = true := by simp; omega
          cases hm : markedO p.2 l[p.1] with
          | none =>
            have hmk := marked_none hm
            have hM := sMarked_p p.2 l[p.1] hcur
            rw [hmk] at hM
            repeat' (first | (refine aw0 ?_) | ((first | refine aw1 ?_ | refine aw2 ?_ | refine aw3 ?_ | refine aw4 ?_ | refine aw5 ?_ | refine aw6 ?_ | refine aw7 ?_ | refine aw8 ?_); conv => whnf) | ((first | refine bT ?_ | refine bF ?_); conv => whnf) | (refine AIx.mapF ari (fun hlt => ?_); conv => whnf) | (refine AW.i64 ari ari ?_; conv => whnf) | (refine ACall.pure (hM) rfl ?_; conv => whnf) | (refine AFCall.mk ⟨_, _, hM, .inl rfl, ?_⟩; conv => whnf) | (refine ACall.pure (sl9Copy_p s (by omega)) rfl ?_; conv => whnf) | (refine AFCall.mk ⟨_, _, sl9Copy_p s (by omega), .inl rfl, ?_⟩; conv => whnf) | (exact rr) | (refine And.intro rfl ?_; conv => whnf) | (refine AB.mk (fun h => ?_) (fun h => ?_) <;> (conv => whnf)))
            rw [over_none hseen hl (fold_none hlt hf hm)]; rfl
          | some c =>
            have hmk := marked_some hm
            have hM := sMarked_p p.2 l[p.1] hcur
            rw [hmk] at hM
            repeat' (first | (refine aw0 ?_) | ((first | refine aw1 ?_ | refine aw2 ?_ | refine aw3 ?_ | refine aw4 ?_ | refine aw5 ?_ | refine aw6 ?_ | refine aw7 ?_ | refine aw8 ?_); conv => whnf) | ((first | refine bT ?_ | refine bF ?_); conv => whnf) | (refine AIx.mapF ari (fun hlt => ?_); conv => whnf) | (refine AW.i64 ari ari ?_; conv => whnf) | (refine ACall.pure (hM) rfl ?_; conv => whnf) | (refine AFCall.mk ⟨_, _, hM, .inl rfl, ?_⟩; conv => whnf) | (refine ACall.pure (sl9Copy_p s (by omega)) rfl ?_; conv => whnf) | (refine AFCall.mk ⟨_, _, sl9Copy_p s (by omega), .inl rfl, ?_⟩; conv => whnf) | (exact rr) | (refine And.intro rfl ?_; conv => whnf) | (refine AB.mk (fun h => ?_) (fun h => ?_) <;> (conv => whnf)))
            refine ANext.mk ⟨(p.1 + 1, c), ⟨ari, by simp only [fold_snoc hlt hf, hm]⟩, ari, ?_, SubO.nil⟩
            exact hds
        · have hlt' : decide ((p.1 : Int) < ((l.map DEntry.ds).length : Int)) = false := by simp; omega
          repeat' (first | (refine aw0 ?_) | ((first | refine aw1 ?_ | refine aw2 ?_ | refine aw3 ?_ | refine aw4 ?_ | refine aw5 ?_ | refine aw6 ?_ | refine aw7 ?_ | refine aw8 ?_); conv => whnf) | ((first | refine bT ?_ | refine bF ?_); conv => whnf) | (exact rr) | (refine And.intro rfl ?_; conv => whnf) | (refine AB.mk (fun h => ?_) (fun h => ?_) <;> (conv => whnf)))
          have hkk : p.1 = l.length := by omega
          rw [hkk, List.take_length] at hf
          rw [over_some hseen hl hf]; rfl
theorem zeroMark (w : World) : (zeroValue 258).run Tryz.prog w = .ok (DMark.v ⟨0, 0, 0⟩) w := by kernel_rfl
theorem relV_mark (m : DMark) (Z : Nat → Prop) (w : World) (ρ : Nat → Value) : RelV Z w ρ (.agg (m.ds.map .d)) m.v := by
  have : m.v = .agg [.int .i64 m.client, .int .i64 m.seq, .int .i64 m.index].toArray := rfl
  rw [this]
  refine .agg _ _ rfl fun i c u hc hu => ?_
  match i, hc, hu with
  | 0, hc, hu => simp [DMark.ds] at hc hu; subst hc hu; exact RelD.pv _ rfl
  | 1, hc, hu => simp [DMark.ds] at hc hu; subst hc hu; exact RelD.pv _ rfl
  | 2, hc, hu => simp [DMark.ds] at hc hu; subst hc hu; exact RelD.pv _ rfl
  | i + 3, hc, hu => simp [DMark.ds] at hc
theorem mark_val (m : DMark) : ∀ (Z : Nat → Prop) (w : World) (ρ : Nat → Value) (y : Value), RelV Z w ρ (.agg (m.ds.map .d)) y → y = m.v := fun Z w ρ y h => relV_pvs rfl h
section
variable {S : Base} {o : Oper} {st : ASt} {K : ASt → Prop} {x i v : Operand} {id : Nat} {n : Int} {N : Nat} {s : List DMark}
theorem AOp.lookMark (ho : o.op = .lookup 355 x i false) (hx : aEv st x fun v => v = .one (.own id)) (hi : aEv st i fun v => v = vI .i64 n) (hob : aOb st.ob id fun o => o = mapO Tryz.prog 2 N (marksF s)) (hn : (Lit.int .i64 n).wf = true)
    (hK : aDst st o.dst (.agg ((markOfL s n).ds.map .d)) K) : AOp av S o st K :=
  AOp.look (E := av) ho Tryz.underlying355 Tryz.underlying2 zeroMark hx hi hob hn (.agg ((markOfL s n).ds.map .d)) (fun Z w ρ => by rw [marksF_get]; exact relV_mark ..) hK
theorem AOp.lookMarkOk (ho : o.op = .lookup 355 x i true) (hx : aEv st x fun v => v = .one (.own id)) (hi : aEv st i fun v => v = vI .i64 n) (hob : aOb st.ob id fun o => o = mapO Tryz.prog 2 N (marksF s)) (hn : (Lit.int .i64 n).wf = true)
    (hK : aDst st o.dst (.tup [.agg ((markOfL s n).ds.map .d), vB (s.find? fun m => m.client == n).isSome]) K) : AOp av S o st K :=
  AOp.look (E := av) ho Tryz.underlying355 Tryz.underlying2 zeroMark hx hi hob hn (.agg ((markOfL s n).ds.map .d)) (fun Z w ρ => by rw [marksF_get]; exact relV_mark ..) (show aDst st o.dst (.tup [.agg ((markOfL s n).ds.map .d), vB (marksF s n).isSome]) K from (by simp only [marksF, Option.isSome_map]; exact hK))
theorem AOp.putMark {f : Int → Option Value} (m : DMark) (ho : o.op = .mapUpdate 355 x i v) (hN : N < 9223372036854775807) (hx : aEv st x fun v => v = .one (.own id)) (hi : aEv st i fun v => v = vI .i64 m.client) (hob : aOb st.ob id fun o => o = mapO Tryz.prog 2 N f) (hn : (Lit.int .i64 m.client).wf = true)
    (hv : aEv st v fun v => v = .agg (m.ds.map .d)) {g : Int → Option Value} (hg : updF f m.client (some m.v) = g)
    (hK : aSetO id (mapO Tryz.prog 2 (N + 1) g) st.ob fun ob => aDst ⟨st.tm, ob⟩ o.dst (.one .und) K) : AOp av S o st K := by
  subst hg
  refine AOp.mapPut (E := av) (u := m.v) ho Tryz.underlying355 Tryz.underlying2 hN hx hi hob hn ?_ hK
  exact (aEv_cps (st := st) v).mono (fun x (h : x = .agg (m.ds.map .d)) => by subst h; exact mark_val m) hv
end
end Go.Proofs.YtmgcnmdbhahhlaaGreat
namespace Go.Proofs.YtmgcnmdbhahhlaaGreat
open Go.ChangeShapes Go.WideShapes Go.RowKit

theorem wf_client {s : List DMark} (h : seenOk s = true) {k : Nat} (hk : k < s.length) : (Lit.int .i64 s[k].client).wf = true := by
  have := seen_mark h (List.getElem_mem hk)
  simp only [markOk, betweenB, Bool.and_eq_true, decide_eq_true_eq] at this
  exact i64_wfW (by omega) (by omega)
theorem wf_asker {e : DEntry} (h : (!entryOk e) = false) : (Lit.int .i64 e.client).wf = true := by
  have := (entry_bounds (e := e) (by simpa using h)).1
  simp only [betweenB, Bool.and_eq_true, decide_eq_true_eq] at this
  exact i64_wfW (by omega) (by omega)
theorem marksF_put2 (s : List DMark) (e : DEntry) : updF (updF (marksF s) e.client none) e.mark.client (some e.mark.v) = marksF (putMark s e.mark) := marksF_put s e.mark
theorem marksF_zero : marksF [] = fun _ => none := rfl
theorem mo_no {s : List DMark} {e : DEntry} (h : entryOk e = false ∨ e.seq ≤ (markOfL s e.client).seq ∨ e.index ≤ lastSeenL s) : markedO s e = none := by
  refine markedO_no ?_
  rcases h with h | h | h
  · simp [h]
  · have : freshB s e = false := by simp [freshB]; omega
    simp [this]
  · have : decide (lastSeenL s < e.index) = false := by simp; omega
    simp [this]
theorem mo_yes {s : List DMark} {e : DEntry} (h : entryOk e = true) (h2 : ¬ e.seq ≤ (markOfL s e.client).seq) (h3 : ¬ e.index ≤ lastSeenL s) : markedO s e = some (putMark s e.mark) := by
  refine markedO_yes ?_
  have a : freshB s e = true := by simp [freshB]; omega
  have b : decide (lastSeenL s < e.index) = true := by simp; omega
  simp [h, a, b]
theorem last_put2 {s : List DMark} {e : DEntry} (h3 : ¬ e.index ≤ lastSeenL s) : lastSeenL (putMark s e.mark) = e.index := last_put (m := e.mark) (by simp [DEntry.mark]; omega)
set_option maxHeartbeats 4000000 in
theorem iSeenOver_p (s : List DMark) (l : List DEntry) (hs : s.length ≤ 9223372036854775806) : PCall av 276 [.one (.sl (s.map DMark.ds)), .one (.sl (l.map DEntry.ds))] (pSeen (seenOver s l)) := by
  cases hseen : seenOk s with
  | false =>
    have h' : (!seenOk s) = true := by simp [hseen]
    rw [over_bad hseen]
    refine pcall_of av_ok Tryz.func276 rfl Tryz.call276 Tryz.ntmps276 (congrArg Array.toList Tryz.results276) fun S => ?_; conv => whnf
    repeat' (first | (refine aw0 ?_) | ((first | refine aw1 ?_ | refine aw2 ?_ | refine aw3 ?_ | refine aw4 ?_ | refine aw5 ?_ | refine aw6 ?_ | refine aw7 ?_ | refine aw8 ?_); conv => whnf) | ((first | refine bT ?_ | refine bF ?_); conv => whnf) | (refine ACall.pure (iSeenOk_p s hs) rfl ?_; conv => whnf) | (refine AFCall.mk ⟨_, _, iSeenOk_p s hs, .inl rfl, ?_⟩; conv => whnf) | (exact rr) | (refine And.intro rfl ?_; conv => whnf) | (refine AB.mk (fun h => ?_) (fun h => ?_) <;> (conv => whnf)))
    all_goals rfl
  | true =>
    have h' : (!seenOk s) = false := by simp [hseen]
    have hs4 := seen_le4 hseen
    refine pcall_of av_ok Tryz.func276 rfl Tryz.call276 Tryz.ntmps276 (congrArg Array.toList Tryz.results276) fun S => ?_; conv => whnf
    repeat' (first | (refine aw0 ?_) | ((first | refine aw1 ?_ | refine aw2 ?_ | refine aw3 ?_ | refine aw4 ?_ | refine aw5 ?_ | refine aw6 ?_ | refine aw7 ?_ | refine aw8 ?_); conv => whnf) | ((first | refine bT ?_ | refine bF ?_); conv => whnf) | (refine ACall.pure (iSeenOk_p s hs) rfl ?_; conv => whnf) | (refine AFCall.mk ⟨_, _, iSeenOk_p s hs, .inl rfl, ?_⟩; conv => whnf) | (refine ACall.pure (icopySeen_p s (by omega)) rfl ?_; conv => whnf) | (refine AFCall.mk ⟨_, _, icopySeen_p s (by omega), .inl rfl, ?_⟩; conv => whnf) | (refine AOp.makeMap (E := av) 2 rfl rfl ?_; conv => whnf) | (exact rr) | (refine And.intro rfl ?_; conv => whnf) | (refine AB.mk (fun h => ?_) (fun h => ?_) <;> (conv => whnf)))
    · rw [over_len hseen ari]; rfl
    · have hl : ¬ 2000 < l.length := ari
      clear h
      refine AWP.loopS (fun k : Nat => k ≤ s.length) [8, 27, 28, 29, 30, 31, 32, 33, 34, 35] (fun k => [(27, vI .i64 (k : Int))]) (fun k => [(24, mapO Tryz.prog 2 k (marksF (s.take k)))]) (fun k => s.length - k) 0 (by omega) ?_ (SubO.cons rfl SubO.nil) (fun k hk => ?_) <;> (conv => whnf)
      · exact whd
      · repeat' (first | (refine aw0 ?_) | ((first | refine aw1 ?_ | refine aw2 ?_ | refine aw3 ?_ | refine aw4 ?_ | refine aw5 ?_ | refine aw6 ?_ | refine aw7 ?_ | refine aw8 ?_); conv => whnf) | ((first | refine bT ?_ | refine bF ?_); conv => whnf) | (refine AIx.mapF ari (fun hlt => ?_); conv => whnf) | (refine AW.i64 ari ari ?_; conv => whnf) | (refine AOp.putMark (id := 24) (N := k) (s[k]'ari) rfl (by omega) rfl rfl rfl (wf_client hseen ari) rfl (marksF_snoc (seen_sorted hseen) ari) ?_; conv => whnf) | (refine ACall.pure (ilastSeen_p s (by omega)) rfl ?_; conv => whnf) | (refine AFCall.mk ⟨_, _, ilastSeen_p s (by omega), .inl rfl, ?_⟩; conv => whnf) | (exact rr) | (refine And.intro rfl ?_; conv => whnf) | (refine AB.mk (fun h => ?_) (fun h => ?_) <;> (conv => whnf)))
        · refine ANext.mk ⟨k + 1, hlt, by omega, ?_, SubO.cons rfl SubO.nil⟩
          exact hds
        · have hkk : k = s.length := ari
          subst hkk
          rw [List.take_length]
          clear h hk
          refine AWP.loopS (fun p : Nat × List DMark × Int => p.1 ≤ l.length ∧ seenFold s (l.take p.1) = some p.2.1 ∧ p.2.2 = lastSeenL p.2.1) [4, 5, 9, 11, 40, 41, 42, 43, 44, 45, 46, 47, 48, 49, 50, 51, 52, 53, 54, 55, 56, 57, 58, 59, 60, 61, 62, 63, 64, 65, 66, 67, 68, 69, 70, 71, 72, 73, 74, 75, 76, 77, 78, 79, 80] (fun p => [(9, vI .i64 p.2.2), (40, vI .i64 (p.1 : Int))]) (fun p => [(24, mapO Tryz.prog 2 (s.length + p.1) (marksF p.2.1))]) (fun p => l.length - p.1) (0, s, lastSeenL s) ⟨by simp, rfl, rfl⟩ ?_ (SubO.cons rfl SubO.nil) (fun p hR => ?_) <;> (conv => whnf)
          · exact whd
          · obtain ⟨hk, hf, hla⟩ := hR
            have hcur := fold_seen hseen hf
            repeat' (first | (refine aw0 ?_) | ((first | refine aw1 ?_ | refine aw2 ?_ | refine aw3 ?_ | refine aw4 ?_ | refine aw5 ?_ | refine aw6 ?_ | refine aw7 ?_ | refine aw8 ?_); conv => whnf) | ((first | refine bT ?_ | refine bF ?_); conv => whnf) | (refine AIx.mapF ari (fun hlt => ?_); conv => whnf) | (refine AW.i64 ari ari ?_; conv => whnf) | (refine ACall.pure (iEntryOk_p _) rfl ?_; conv => whnf) | (refine AFCall.mk ⟨_, _, iEntryOk_p _, .inl rfl, ?_⟩; conv => whnf) | (refine ACall.pure (icopySeen_p s (by omega)) rfl ?_; conv => whnf) | (refine AFCall.mk ⟨_, _, icopySeen_p s (by omega), .inl rfl, ?_⟩; conv => whnf) | (refine AOp.lookMark (id := 24) (N := s.length + p.1) (s := p.2.1) rfl rfl rfl rfl (wf_asker (by assumption)) ?_; conv => whnf) | (refine AOp.mapDel (E := av) (id := 24) (N := s.length + p.1) (f := marksF p.2.1) rfl rfl Tryz.underlying355 Tryz.underlying2 rfl rfl rfl (wf_asker (by assumption)) ?_; conv => whnf) | (refine AOp.putMark (id := 24) (N := s.length + p.1) (DEntry.mark (l[p.1]'ari)) rfl (by omega) rfl rfl rfl (wf_asker (by assumption)) rfl (marksF_put2 _ _) ?_; conv => whnf) | (exact rr) | (refine And.intro rfl ?_; conv => whnf) | (refine AB.mk (fun h => ?_) (fun h => ?_) <;> (conv => whnf)))
            all_goals first
              | (rw [over_none hseen hl (fold_none ari hf (mo_no (.inl (by simpa using h))))]; rfl)
              | (rw [over_none hseen hl (fold_none ari hf (mo_no (.inr (.inl (by simpa using h)))))]; rfl)
              | (rw [over_none hseen hl (fold_none ari hf (mo_no (.inr (.inr (by rw [← hla]; simpa using h)))))]; rfl)
              | (have hm := mo_yes (s := p.2.1) (e := l[p.1]'ari) (by simp_all) (by simp_all) (by rw [← hla]; simp_all)
                 refine ANext.mk ⟨(p.1 + 1, putMark p.2.1 (l[p.1]'ari).mark, (l[p.1]'ari).index), ⟨ari, by simp only [fold_snoc (l := l) (k := p.1) ari hf, hm], (last_put2 (by rw [← hla]; simp_all)).symm⟩, ari, ?_, SubO.cons rfl SubO.nil⟩
                 exact hds)
              | skip
            have hkk : p.1 = l.length := ari
            rw [hkk, List.take_length] at hf
            rw [over_some hseen hl hf]
            have hlen := seen_le4 hcur
            refine AWP.loopS (fun c : Int => 2 ≤ c ∧ c ≤ 6) (81 :: [12, 13, 14, 15, 82, 83, 84, 85, 86, 87, 88, 89, 90, 91, 92, 93, 94, 95, 96]) (fun c => [(12, .one (.own 81)), (13, vI .i64 c)]) (fun c => [(81, .row 258 3 ((p.2.1.filter fun x => decide (x.client < c)).map DMark.ds)), (24, mapO Tryz.prog 2 (s.length + p.1) (marksF p.2.1))]) (fun c => (6 - c).toNat) 2 (by omega) ?_ (SubO.cons (congrArg some (congrArg (AO.row 258 3) (by simp only [filt_none hcur, List.map_nil]))) (SubO.cons rfl SubO.nil)) (fun c hc => ?_) <;> (conv => whnf)
            · exact whd
            · have hfl : (p.2.1.filter fun x => decide (x.client < c)).length ≤ 4 := Nat.le_trans (List.length_filter_le ..) hlen
              have hsu := filt_succ (c := c) (seen_sorted hcur)
              cases hfi : p.2.1.find? (fun x => x.client == c) with
              | none =>
                have hso : (p.2.1.find? (fun x => x.client == c)).isSome = false := by rw [hfi]; rfl
                rw [hfi] at hsu
                simp only [Option.toList_none, List.append_nil] at hsu
                repeat' (first | (refine aw0 ?_) | ((first | refine aw1 ?_ | refine aw2 ?_ | refine aw3 ?_ | refine aw4 ?_ | refine aw5 ?_ | refine aw6 ?_ | refine aw7 ?_ | refine aw8 ?_); conv => whnf) | ((first | refine bT ?_ | refine bF ?_); conv => whnf) | (refine AW.i64 ari ari ?_; conv => whnf) | (refine AOp.lookMarkOk (id := 24) (N := s.length + p.1) (s := p.2.1) rfl rfl rfl rfl (i64_wfW (by omega) (by omega)) ?_; conv => whnf) | (exact rr) | (refine And.intro rfl ?_; conv => whnf) | (refine AB.mk (fun h => ?_) (fun h => ?_) <;> (conv => whnf)))
                all_goals first
                  | (refine ANext.mk ⟨c + 1, ⟨ari, ari⟩, ari, ?_, SubO.cons (congrArg some (congrArg (AO.row 258 3) (by rw [hsu]))) (SubO.cons rfl SubO.nil)⟩
                     exact hds)
                  | (have h4 : c = 6 := ari
                     subst h4
                     have := filt_all hcur
                     simp only [pSeen, this])
              | some m =>
                have hso : (p.2.1.find? (fun x => x.client == c)).isSome = true := by rw [hfi]; rfl
                have hmo : markOfL p.2.1 c = m := by unfold markOfL; rw [hfi]; rfl
                rw [hfi] at hsu
                simp only [Option.toList_some] at hsu
                repeat' (first | (refine aw0 ?_) | ((first | refine aw1 ?_ | refine aw2 ?_ | refine aw3 ?_ | refine aw4 ?_ | refine aw5 ?_ | refine aw6 ?_ | refine aw7 ?_ | refine aw8 ?_); conv => whnf) | ((first | refine bT ?_ | refine bF ?_); conv => whnf) | (refine AW.i64 ari ari ?_; conv => whnf) | (refine AOp.lookMarkOk (id := 24) (N := s.length + p.1) (s := p.2.1) rfl rfl rfl rfl (i64_wfW (by omega) (by omega)) ?_; conv => whnf) | (refine all_lenW (fun x hx => by obtain ⟨y, _, rfl⟩ := List.mem_map.1 hx; rfl) ?_; conv => whnf) | (refine sz_appW (by simp only [List.length_map, List.length_nil, List.length_append, List.length_cons] <;> omega) ?_; conv => whnf) | (exact rr) | (refine And.intro rfl ?_; conv => whnf) | (refine AB.mk (fun h => ?_) (fun h => ?_) <;> (conv => whnf)))
                all_goals first
                  | (refine ANext.mk ⟨c + 1, ⟨ari, ari⟩, ari, ?_, SubO.cons (congrArg some (congrArg (AO.row 258 3) (by rw [hsu, hmo, List.map_append]; rfl))) (SubO.cons rfl SubO.nil)⟩
                     exact hds)
                  | (have h4 : c = 6 := ari
                     subst h4
                     have := filt_all hcur
                     simp only [pSeen, this])
end Go.Proofs.YtmgcnmdbhahhlaaGreat
