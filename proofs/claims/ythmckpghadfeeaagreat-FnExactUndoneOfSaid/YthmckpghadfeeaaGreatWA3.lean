/- Valid marks: both sides. -/
import Derived.Test.YthmckpghadfeeaaGreatWA2
set_option linter.unusedVariables false
set_option linter.unusedSimpArgs false
set_option maxRecDepth 100000
namespace Go.Proofs.YthmckpghadfeeaaGreat
open Go.ChangeShapes Go.WideShapes Go.RowKit
def dk_WA3_impl_SeenOk_7 : List (List Nat) := [[], [0], [0, 1], [1, 0, 2], [1, 0, 2], [2, 0, 1, 4], [4, 5, 2, 0, 1, 3], [3, 1, 0, 2, 5, 4, 6], [6, 4, 5, 2, 0, 1, 3, 7], [1, 0, 2], [2, 0, 1, 9], [9, 10, 7, 3, 1, 0, 2, 5, 4, 6, 8], [8, 6, 4, 5, 3, 7, 10, 9, 11, 1, 0, 2]]
def fk_WA3_impl_SeenOk_7 : List (List Nat) := [[0, 0, 0, 0, 0, 0, 0, 0, 0, 0, 0], [1, 0, 0, 0, 0, 0, 0, 0, 0, 0, 0], [1, 1, 0, 0, 0, 0, 0, 0, 0, 0, 0], [1, 1, 1, 0, 2, 2, 0, 0, 0, 2, 2], [1, 1, 1, 2, 0, 0, 0, 0, 0, 2, 2], [1, 1, 1, 2, 1, 0, 0, 0, 0, 2, 2], [1, 1, 1, 1, 1, 1, 0, 0, 0, 2, 2], [1, 1, 1, 1, 1, 1, 1, 0, 0, 2, 2], [1, 1, 1, 1, 1, 1, 1, 1, 0, 2, 2], [1, 1, 1, 2, 2, 2, 2, 2, 2, 0, 0], [1, 1, 1, 2, 2, 2, 2, 2, 2, 1, 0]]

theorem i64_wfW {n : Int} (h1 : -9223372036854775808 ≤ n) (h2 : n ≤ 9223372036854775807) : (Lit.int .i64 n).wf = true := by
  simp [Lit.wf, IntKind.min, IntKind.max, IntKind.signed, IntKind.bits]
  omega
theorem wf_of_bt {n lo hi : Int} (h : (!betweenB n lo hi) = false) (h1 : -9223372036854775808 ≤ lo) (h2 : hi ≤ 9223372036854775807) : (Lit.int .i64 n).wf = true := by
  have : betweenB n lo hi = true := by simpa using h
  simp only [betweenB, Bool.and_eq_true, decide_eq_true_eq] at this
  exact i64_wfW (by omega) (by omega)
theorem zeroBool (w : World) : (zeroValue 4).run Tryz.prog w = .ok (.bool false) w := by kernel_rfl
/-- A set of numbers that the call has made. -/
def usedF (l : List Int) (x : Int) : Option Value := if x ∈ l then some (.bool true) else none
theorem usedF_nil : usedF [] = fun _ => none := by funext x; simp [usedF]
theorem usedF_snoc (l : List Int) (n : Int) : updF (usedF l) n (some (.bool true)) = usedF (l ++ [n]) := by
  funext x
  unfold updF usedF
  by_cases h : x = n
  · simp [h]
  · simp [h]
theorem usedF_get (l : List Int) (n : Int) : (usedF l n).getD (.bool false) = .bool (decide (n ∈ l)) := by
  unfold usedF
  by_cases h : n ∈ l <;> simp [h]
section
variable {S : Base} {o : Oper} {st : ASt} {K : ASt → Prop}
theorem AOp.makeSet {t : TypeId} {d : Tmp} (ho : o.op = .makeMap t none) (hd : o.dst = some d) (hk : aNew st d (mapO Tryz.prog 2 0 (usedF [])) fun st => aDst st (some d) (.one (.own d)) K) : AOp av S o st K :=
  AOp.makeMap 2 ho hd (by rw [usedF_nil] at hk; exact hk)
theorem AOp.lookSet {x i : Operand} {id : Nat} {n : Int} {N : Nat} {l : List Int} (ho : o.op = .lookup 315 x i false) (hx : aEv st x fun v => v = .one (.own id)) (hi : aEv st i fun v => v = vI .i64 n) (hob : aOb st.ob id fun o => o = mapO Tryz.prog 2 N (usedF l)) (hn : (Lit.int .i64 n).wf = true)
    (hK : aDst st o.dst (vB (decide (n ∈ l))) K) : AOp av S o st K :=
  AOp.look (E := av) ho Tryz.underlying315 Tryz.underlying2 zeroBool hx hi hob hn (vB (decide (n ∈ l))) (fun Z w ρ => by rw [usedF_get]; exact relV_of_pv rfl) hK
theorem AFRd.lookSet {K : AV → Prop} {x i : Operand} {id : Nat} {n : Int} {N : Nat} {l : List Int} (ho : o.op = .lookup 315 x i false) (hx : aEv st x fun v => v = .one (.own id)) (hi : aEv st i fun v => v = vI .i64 n) (hob : aOb st.ob id fun o => o = mapO Tryz.prog 2 N (usedF l)) (hn : (Lit.int .i64 n).wf = true)
    (hK : K (vB (decide (n ∈ l)))) : AFRd av o st K :=
  AFRd.look (E := av) ho Tryz.underlying315 Tryz.underlying2 zeroBool hx hi hob hn (vB (decide (n ∈ l))) (fun Z w ρ => by rw [usedF_get]; exact relV_of_pv rfl) hK
theorem AOp.putSet {x i : Operand} {id : Nat} {n : Int} {N : Nat} {l : List Int} (ho : o.op = .mapUpdate 315 x i (.const (.bool true))) (hN : N < 9223372036854775807) (hx : aEv st x fun v => v = .one (.own id)) (hi : aEv st i fun v => v = vI .i64 n) (hob : aOb st.ob id fun o => o = mapO Tryz.prog 2 N (usedF l)) (hn : (Lit.int .i64 n).wf = true)
    (hK : aSetO id (mapO Tryz.prog 2 (N + 1) (usedF (l ++ [n]))) st.ob fun ob => aDst ⟨st.tm, ob⟩ o.dst (.one .und) K) : AOp av S o st K := by
  refine AOp.mapPut (E := av) (u := .bool true) ho Tryz.underlying315 Tryz.underlying2 hN hx hi hob hn (show ∀ Z w ρ y, RelV Z w ρ (vB true) y → y = .bool true from fun Z w ρ y h => relV_pv h) ?_
  rw [usedF_snoc]
  exact hK
end
theorem take_idx {s : List DMark} {k : Nat} (hlt : k < s.length) : ((s.take k).map (·.index)) ++ [s[k].index] = (s.take (k + 1)).map (·.index) := (take_snocW (fun m : DMark => m.index) hlt).symm
theorem seenOk_chain {s : List DMark} {k : Nat} (hk : k < s.length) (h : chainAt markOk markLt s k hk = false) : seenOk s = false := by
  have := chain_no hk h
  simp only [seenOk, this, Bool.false_and]
theorem seenOk_dup {s : List DMark} {j k : Nat} (hj : j < k) (hk : k < s.length) (h : (s[j]'(by omega)).index = s[k].index) : seenOk s = false := by
  have := apartAll_no (R := markEq) hj hk (by simp [markEq, h])
  simp only [seenOk, this, Bool.and_false]
theorem seenOk_used {s : List DMark} {k : Nat} (hk : k < s.length) (h : decide (s[k].index ∈ (s.take k).map (·.index)) = true) : seenOk s = false := by
  obtain ⟨m, hm, e⟩ := List.mem_map.1 (of_decide_eq_true h)
  obtain ⟨j, hj, rfl⟩ := List.getElem_of_mem hm
  simp at hj e
  exact seenOk_dup (j := j) (by omega) hk e
theorem seenOk_yes {s : List DMark} (h : ∀ (j : Nat) (hl : j < s.length), chainAt markOk markLt s j hl = true) (hd : ∀ (i j : Nat) (hi : i < j) (hl : j < s.length), (s[i]'(by omega)).index ≠ s[j].index) : seenOk s = true := by
  have h1 := chain_yes h
  have h2 := apartAll_yes (R := markEq) (l := s) fun i j hi hl => by simpa [markEq] using hd i j hi hl
  simp only [seenOk, h1, h2, Bool.and_self]
theorem used_no {s : List DMark} {k : Nat} (hk : k < s.length) (h : decide (s[k].index ∈ (s.take k).map (·.index)) = false) {i : Nat} (hi : i < k) : (s[i]'(by omega)).index ≠ s[k].index := by
  have := of_decide_eq_false h
  intro e
  refine this (List.mem_map.2 ⟨s[i], ?_, e⟩)
  rw [List.mem_take_iff_getElem]
  exact ⟨i, by omega, rfl⟩
theorem step_dup {s : List DMark} {k : Nat} (hlt : k < s.length) (hd : ∀ (i j : Nat) (hi : i < j) (hj : j < k) (hl : j < s.length), (s[i]'(by omega)).index ≠ s[j].index) (h : ∀ (i : Nat) (hi : i < k), (s[i]'(by omega)).index ≠ s[k].index) : ∀ (i j : Nat) (hi : i < j) (hj : j < k + 1) (hl : j < s.length), (s[i]'(by omega)).index ≠ s[j].index := by
  intro i j hi hj hl
  by_cases hjk : j = k
  · subst hjk; exact h i hi
  · exact hd i j hi (by omega) hl
theorem seen_le4 {s : List DMark} (h : seenOk s = true) : s.length ≤ 4 := by
  simp only [seenOk, Bool.and_eq_true] at h
  obtain ⟨⟨h1, h2⟩, _⟩ := h
  have key : ∀ (j : Nat) (hj : j < s.length), (2 : Int) + j ≤ s[j].client := by
    intro j
    induction j with
    | zero =>
      intro hj
      have := all_get h1 hj
      simp only [markOk, betweenB, Bool.and_eq_true, decide_eq_true_eq] at this
      omega
    | succ j ih =>
      intro hj
      have := adjB_get h2 hj
      simp only [markLt, decide_eq_true_eq] at this
      have := ih (by omega)
      omega
  rcases Nat.lt_or_ge 4 s.length with hl | hl
  · have h5 := key 4 hl
    have := all_get h1 hl
    simp only [markOk, betweenB, Bool.and_eq_true, decide_eq_true_eq] at this
    omega
  · exact hl
set_option maxHeartbeats 2000000 in
theorem iSeenOk_p (s : List DMark) (hs : s.length ≤ 9223372036854775806) : PCall av 234 [.one (.sl (s.map DMark.ds))] (rB (seenOk s)) := by
  refine pcall_of av_ok Tryz.func234 rfl Tryz.call234 Tryz.ntmps234 (congrArg Array.toList Tryz.results234) fun S => ?_; conv => whnf
  repeat' (first | (refine AWP.seq ?_) | ((first | refine AWP.region av_ok ?_ | refine AWP.ret ?_ | refine AWP.skip ?_ | refine AWP.exit ?_ | refine AWP.block ?_ | refine AWP.cond ?_ | refine AB.tt ?_ | refine AB.ff ?_); conv => whnf) | ((first | refine AB.ofT (by assumption) ?_ | refine AB.ofF (by assumption) ?_); conv => whnf) | (refine AOp.makeSet rfl rfl ?_; conv => whnf) | (exact trivial) | (refine And.intro rfl ?_; conv => whnf) | (refine AB.mk (fun h => ?_) (fun h => ?_) <;> (conv => whnf)) | (with_reducible_and_instances rfl) | (exact (rfl : AP.tup _ = AP.tup _)))
  refine AWP.loopS (fun k : Nat => k ≤ s.length ∧ (∀ (j : Nat) (hj : j < k) (hl : j < s.length), chainAt markOk markLt s j hl = true) ∧ ∀ (i j : Nat) (hi : i < j) (hj : j < k) (hl : j < s.length), (s[i]'(by omega)).index ≠ s[j].index) [2, 4, 5, 9, 10, 11, 12, 13, 14, 15, 16, 17, 18, 19, 20, 21, 22, 23, 24, 25, 26, 27, 28, 29, 30, 31, 32, 33, 34, 35, 36, 37, 38, 39, 40, 41, 42, 43, 44, 45, 46, 47, 48, 49, 50, 51, 52] (fun k => [(9, vI .i64 (k : Int))]) (fun k => [(6, mapO Tryz.prog 2 k (usedF ((s.take k).map (·.index))))]) (fun k => s.length - k) 0 ⟨by omega, by omega, by omega⟩ ?_ (SubO.cons rfl SubO.nil) (fun k hR => ?_) <;> (conv => whnf)
  · repeat' (first | exact trivial | (refine ⟨rfl, ?_⟩; conv => whnf))
  · obtain ⟨hk, hall, hdup⟩ := hR
    repeat' (first | (refine AWP.seq ?_) | ((first | refine AWP.region av_ok ?_ | refine AWP.ret ?_ | refine AWP.skip ?_ | refine AWP.exit ?_ | refine AWP.block ?_ | refine AWP.cond ?_ | refine AB.tt ?_ | refine AB.ff ?_); conv => whnf) | ((first | refine AB.ofT (by assumption) ?_ | refine AB.ofF (by assumption) ?_); conv => whnf) | (refine AWP.drawK av_ok 7 11 dk_WA3_impl_SeenOk_7 fk_WA3_impl_SeenOk_7 (by kernel_rfl) (by kernel_rfl) (by kernel_rfl) rfl ?_; conv => whnf) | (refine AIx.mapF (by simp only [decide_eq_true_eq, decide_eq_false_iff_not, List.length_map, Bool.not_eq_true', Bool.not_eq_false'] at *; omega) (fun hlt => ?_); conv => whnf) | (refine AIx.mapP (by simp only [decide_eq_true_eq, decide_eq_false_iff_not, List.length_map, Bool.not_eq_true', Bool.not_eq_false'] at *; omega) (by simp only [decide_eq_true_eq, decide_eq_false_iff_not, List.length_map, Bool.not_eq_true', Bool.not_eq_false'] at *; omega) (fun hpv => ?_); conv => whnf) | (refine AW.i64 (n := _ - _) (by simp only [decide_eq_true_eq, decide_eq_false_iff_not, List.length_map, Bool.not_eq_true', Bool.not_eq_false'] at *; omega) (by simp only [decide_eq_true_eq, decide_eq_false_iff_not, List.length_map, Bool.not_eq_true', Bool.not_eq_false'] at *; omega) ?_; conv => whnf) | (refine AW.i64 (by simp only [decide_eq_true_eq, decide_eq_false_iff_not, List.length_map, Bool.not_eq_true', Bool.not_eq_false'] at *; omega) (by simp only [decide_eq_true_eq, decide_eq_false_iff_not, List.length_map, Bool.not_eq_true', Bool.not_eq_false'] at *; omega) ?_; conv => whnf) | (refine ACall.pure (iAskerOk_p _) rfl ?_; conv => whnf) | (refine AFCall.mk ⟨_, _, iAskerOk_p _, .inl rfl, ?_⟩; conv => whnf) | (refine ACall.pure (iseqOk_p _) rfl ?_; conv => whnf) | (refine AFCall.mk ⟨_, _, iseqOk_p _, .inl rfl, ?_⟩; conv => whnf) | (refine ACall.pure (iindexOk_p _) rfl ?_; conv => whnf) | (refine AFCall.mk ⟨_, _, iindexOk_p _, .inl rfl, ?_⟩; conv => whnf) | (refine AOp.lookSet (id := 6) (N := k) rfl rfl rfl rfl (wf_of_bt (by assumption) (by decide) (by decide)) ?_; conv => whnf) | (refine AOp.putSet (id := 6) (N := k) rfl (by omega) rfl rfl rfl (wf_of_bt (by assumption) (by decide) (by decide)) ?_; conv => whnf) | (exact trivial) | (refine And.intro rfl ?_; conv => whnf) | (refine AB.mk (fun h => ?_) (fun h => ?_) <;> (conv => whnf)) | (with_reducible_and_instances rfl) | (exact (rfl : AP.tup _ = AP.tup _)))
    all_goals first
      | (rw [seenOk_chain hlt (by first | (refine chainAt_P _ ?_; simp_all [markOk]; done) | (rw [chainAt_pos _ (by simp only [decide_eq_true_eq, decide_eq_false_iff_not, List.length_map, Bool.not_eq_true', Bool.not_eq_false'] at *; omega)]; simp_all [markOk, markLt]; done) | (rw [chainAt_zero _ (by simp only [decide_eq_true_eq, decide_eq_false_iff_not, List.length_map, Bool.not_eq_true', Bool.not_eq_false'] at *; omega)]; simp_all [markOk]; done))]; done)
      | (rw [seenOk_used hlt (by assumption)]; done)
      | (refine ANext.mk ⟨k + 1, ⟨hlt, step_chain hall hlt (by first | (refine chainAt_P _ ?_; simp_all [markOk]; done) | (rw [chainAt_pos _ (by simp only [decide_eq_true_eq, decide_eq_false_iff_not, List.length_map, Bool.not_eq_true', Bool.not_eq_false'] at *; omega)]; simp_all [markOk, markLt]; done) | (rw [chainAt_zero _ (by simp only [decide_eq_true_eq, decide_eq_false_iff_not, List.length_map, Bool.not_eq_true', Bool.not_eq_false'] at *; omega)]; simp_all [markOk]; done)), step_dup hlt hdup fun i hi => used_no hlt (by assumption) hi⟩, by omega, ?_, SubO.cons (congrArg some (congrArg (fun l => mapO Tryz.prog 2 (k + 1) (usedF l)) (take_idx hlt))) SubO.nil⟩
         (conv => whnf); repeat' (first | exact trivial | (refine ⟨rfl, ?_⟩; conv => whnf)))
      | (refine rB_of ?_
         have hkk : k = s.length := (by simp only [decide_eq_true_eq, decide_eq_false_iff_not, List.length_map, Bool.not_eq_true', Bool.not_eq_false'] at *; omega)
         rw [seenOk_yes (fun j hl => hall j (by omega) hl) (fun i j hi hl => hdup i j hi (by omega) hl)])
end Go.Proofs.YthmckpghadfeeaaGreat
