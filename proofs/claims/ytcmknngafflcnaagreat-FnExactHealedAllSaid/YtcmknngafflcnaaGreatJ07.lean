/- J07 -/
import Derived.Test.YtcmknngafflcnaaGreatAwx
import Derived.Test.YtcmknngafflcnaaGreatJ06
import Derived.Test.YtcmknngafflcnaaGreatWH
set_option linter.unusedVariables false
set_option linter.unusedSimpArgs false
set_option maxRecDepth 100000
namespace Go.Proofs.YtcmknngafflcnaaGreat
open Go.ChangeShapes Go.WideShapes Go.RowKit
def ni : List (List Nat) := bA [0, 1, 129, 12354, 12354, 1318979, 4328796549, 486506500228, 35461415067975, 12354, 2629699, 10503828301457425098, 222553301630898950601]
def nB : List (List Nat) := bQ 11 [0, 1, 4, 158125, 157531, 157612, 157828, 158557, 160744, 19669, 39352]
theorem oI {n : Int} (h1 : -9223372036854775808 ≤ n) (h2 : n ≤ 9223372036854775807) : (Lit.int .i64 n).wf = true := by
  simp [Lit.wf, IntKind.min, IntKind.max, IntKind.signed, IntKind.bits]
  omega
theorem vT {n lo hi : Int} (h : (!aj n lo hi) = false) (h1 : -9223372036854775808 ≤ lo) (h2 : hi ≤ 9223372036854775807) : (Lit.int .i64 n).wf = true := by
  have : aj n lo hi = true := by simpa using h
  simp only [aj, Bool.and_eq_true, decide_eq_true_eq] at this
  exact oI (by omega) (by omega)
theorem Bs (w : World) : (zeroValue 4).run Tryz.prog w = .ok (.bool false) w := by kernel_rfl
def gh (l : List Int) (x : Int) : Option Value := if x ∈ l then some (.bool true) else none
theorem En : gh [] = fun _ => none := by funext x; simp [gh]
theorem CF (l : List Int) (n : Int) : mS (gh l) n (some (.bool true)) = gh (l ++ [n]) := by
  funext x
  unfold mS gh
  by_cases h : x = n
  · simp [h]
  · simp [h]
theorem xG (l : List Int) (n : Int) : (gh l n).getD (.bool false) = .bool (decide (n ∈ l)) := by
  unfold gh
  by_cases h : n ∈ l <;> simp [h]
section
variable {S : bt} {o : Oper} {st : ASt} {K : ASt → Prop}
theorem AOp.makeSet {t : TypeId} {d : Tmp} (ho : o.op = .makeMap t none) (hd : o.dst = some d) (hk : sT st d (eL Tryz.prog 2 0 (gh [])) fun st => co st (some d) (.one (.own d)) K) : AOp av S o st K :=
  AOp.makeMap 2 ho hd (by rw [En] at hk; exact hk)
theorem AOp.lookSet {x i : Operand} {id : Nat} {n : Int} {N : Nat} {l : List Int} (ho : o.op = .lookup 355 x i false) (hx : aEv st x fun v => v = .one (.own id)) (hi : aEv st i fun v => v = vI .i64 n) (hob : aOb st.ob id fun o => o = eL Tryz.prog 2 N (gh l)) (hn : (Lit.int .i64 n).wf = true)
    (hK : co st o.dst (vB (decide (n ∈ l))) K) : AOp av S o st K :=
  AOp.look (E := av) ho Tryz.underlying355 Tryz.underlying2 Bs hx hi hob hn (vB (decide (n ∈ l))) (fun Z w ρ => by rw [xG]; exact bG rfl) hK
theorem jl.lookSet {K : AV → Prop} {x i : Operand} {id : Nat} {n : Int} {N : Nat} {l : List Int} (ho : o.op = .lookup 355 x i false) (hx : aEv st x fun v => v = .one (.own id)) (hi : aEv st i fun v => v = vI .i64 n) (hob : aOb st.ob id fun o => o = eL Tryz.prog 2 N (gh l)) (hn : (Lit.int .i64 n).wf = true)
    (hK : K (vB (decide (n ∈ l)))) : jl av o st K :=
  jl.look (E := av) ho Tryz.underlying355 Tryz.underlying2 Bs hx hi hob hn (vB (decide (n ∈ l))) (fun Z w ρ => by rw [xG]; exact bG rfl) hK
theorem AOp.putSet {x i : Operand} {id : Nat} {n : Int} {N : Nat} {l : List Int} (ho : o.op = .mapUpdate 355 x i (.const (.bool true))) (hN : N < 9223372036854775807) (hx : aEv st x fun v => v = .one (.own id)) (hi : aEv st i fun v => v = vI .i64 n) (hob : aOb st.ob id fun o => o = eL Tryz.prog 2 N (gh l)) (hn : (Lit.int .i64 n).wf = true)
    (hK : dX id (eL Tryz.prog 2 (N + 1) (gh (l ++ [n]))) st.ob fun ob => co ⟨st.tm, ob⟩ o.dst (.one .und) K) : AOp av S o st K := by
  refine AOp.mapPut (E := av) (u := .bool true) ho Tryz.underlying355 Tryz.underlying2 hN hx hi hob hn (show ∀ Z w ρ y, bM Z w ρ (vB true) y → y = .bool true from fun Z w ρ y h => bu h) ?_
  rw [CF]
  exact hK
end
theorem Fy {s : List DMark} {k : Nat} (hlt : k < s.length) : ((s.take k).map (·.index)) ++ [s[k].index] = (s.take (k + 1)).map (·.index) := (cu (fun m : DMark => m.index) hlt).symm
theorem ra {s : List DMark} {k : Nat} (hk : k < s.length) (h : bp ct fk s k hk = false) : bw s = false := by
  have := jC hk h
  simp only [bw, this, Bool.false_and]
theorem vr {s : List DMark} {j k : Nat} (hj : j < k) (hk : k < s.length) (h : (s[j]'(by omega)).index = s[k].index) : bw s = false := by
  have := m8 (R := lg) hj hk (by simp [lg, h])
  simp only [bw, this, Bool.and_false]
theorem AY {s : List DMark} {k : Nat} (hk : k < s.length) (h : decide (s[k].index ∈ (s.take k).map (·.index)) = true) : bw s = false := by
  obtain ⟨m, hm, e⟩ := List.mem_map.1 (of_decide_eq_true h)
  obtain ⟨j, hj, rfl⟩ := List.getElem_of_mem hm
  simp at hj e
  exact vr (j := j) (by omega) hk e
theorem vt {s : List DMark} (h : ∀ (j : Nat) (hl : j < s.length), bp ct fk s j hl = true) (hd : ∀ (i j : Nat) (hi : i < j) (hl : j < s.length), (s[i]'(by omega)).index ≠ s[j].index) : bw s = true := by
  have h1 := wC h
  have h2 := kv (R := lg) (l := s) fun i j hi hl => by simpa [lg] using hd i j hi hl
  simp only [bw, h1, h2, Bool.and_self]
theorem GO {s : List DMark} {k : Nat} (hk : k < s.length) (h : decide (s[k].index ∈ (s.take k).map (·.index)) = false) {i : Nat} (hi : i < k) : (s[i]'(by omega)).index ≠ s[k].index := by
  have := of_decide_eq_false h
  intro e
  refine this (List.mem_map.2 ⟨s[i], ?_, e⟩)
  rw [List.mem_take_iff_getElem]
  exact ⟨i, by omega, rfl⟩
theorem A7 {s : List DMark} {k : Nat} (hlt : k < s.length) (hd : ∀ (i j : Nat) (hi : i < j) (hj : j < k) (hl : j < s.length), (s[i]'(by omega)).index ≠ s[j].index) (h : ∀ (i : Nat) (hi : i < k), (s[i]'(by omega)).index ≠ s[k].index) : ∀ (i j : Nat) (hi : i < j) (hj : j < k + 1) (hl : j < s.length), (s[i]'(by omega)).index ≠ s[j].index := by
  intro i j hi hj hl
  by_cases hjk : j = k
  · subst hjk; exact h i hi
  · exact hd i j hi (by omega) hl
theorem d9 {s : List DMark} (h : bw s = true) : s.length ≤ 4 := by
  simp only [bw, Bool.and_eq_true] at h
  obtain ⟨⟨h1, h2⟩, _⟩ := h
  have key : ∀ (j : Nat) (hj : j < s.length), (2 : Int) + j ≤ s[j].client := by
    intro j
    induction j with
    | zero =>
      intro hj
      have := ox h1 hj
      simp only [ct, aj, Bool.and_eq_true, decide_eq_true_eq] at this
      omega
    | succ j ih =>
      intro hj
      have := m4 h2 hj
      simp only [fk, decide_eq_true_eq] at this
      have := ih (by omega)
      omega
  rcases Nat.lt_or_ge 4 s.length with hl | hl
  · have h5 := key 4 hl
    have := ox h1 hl
    simp only [ct, aj, Bool.and_eq_true, decide_eq_true_eq] at this
    omega
  · exact hl
set_option maxHeartbeats 2000000 in
theorem ir (s : List DMark) (hs : s.length ≤ 9223372036854775806) : ak av 326 [.one (.sl (s.map DMark.ds))] (rB (bw s)) := by
  refine ac ah Tryz.func326 rfl Tryz.call326 Tryz.ntmps326 (congrArg Array.toList Tryz.results326) fun S => ?_; conv => whnf
  repeat' (first | (refine aw0 ?_) | (refine awx ?_; conv => whnf) | fail | (refine AOp.makeSet rfl rfl ?_; conv => whnf) | (exact rr) | (refine And.intro rfl ?_; conv => whnf) | (refine AB.mk (fun h => ?_) (fun h => ?_) <;> (conv => whnf)))
  refine AWP.loopS (fun k : Nat => k ≤ s.length ∧ (∀ (j : Nat) (hj : j < k) (hl : j < s.length), bp ct fk s j hl = true) ∧ ∀ (i j : Nat) (hi : i < j) (hj : j < k) (hl : j < s.length), (s[i]'(by omega)).index ≠ s[j].index) [2, 4, 5, 9, 10, 11, 12, 13, 14, 15, 16, 17, 18, 19, 20, 21, 22, 23, 24, 25, 26, 27, 28, 29, 30, 31, 32, 33, 34, 35, 36, 37, 38, 39, 40, 41, 42, 43, 44, 45, 46, 47, 48, 49, 50, 51, 52] (fun k => [(9, vI .i64 (k : Int))]) (fun k => [(6, eL Tryz.prog 2 k (gh ((s.take k).map (·.index))))]) (fun k => s.length - k) 0 ⟨by omega, by omega, by omega⟩ ?_ (ai.cons rfl ai.nil) (fun k hR => ?_) <;> (conv => whnf)
  · exact whd
  · obtain ⟨hk, hall, hdup⟩ := hR
    repeat' (first | (refine aw0 ?_) | (refine awx ?_; conv => whnf) | fail | (refine AWP.drawK ah 7 11 ni nB (by kernel_rfl) (by kernel_rfl) (by kernel_rfl) rfl ?_; conv => whnf) | (refine AIx.mapF ari (fun hlt => ?_); conv => whnf) | (refine AIx.mapP ari ari (fun hpv => ?_); conv => whnf) | (refine AW.i64 (n := _ - _) ari ari ?_; conv => whnf) | (refine AW.i64 ari ari ?_; conv => whnf) | (refine aa.pure (kW _) rfl ?_; conv => whnf) | (refine ae.mk ⟨_, _, kW _, .inl rfl, ?_⟩; conv => whnf) | (refine aa.pure (qS _) rfl ?_; conv => whnf) | (refine ae.mk ⟨_, _, qS _, .inl rfl, ?_⟩; conv => whnf) | (refine aa.pure (kZ _) rfl ?_; conv => whnf) | (refine ae.mk ⟨_, _, kZ _, .inl rfl, ?_⟩; conv => whnf) | (refine AOp.lookSet (id := 6) (N := k) rfl rfl rfl rfl (vT (by assumption) (by decide) (by decide)) ?_; conv => whnf) | (refine AOp.putSet (id := 6) (N := k) rfl (by omega) rfl rfl rfl (vT (by assumption) (by decide) (by decide)) ?_; conv => whnf) | (exact rr) | (refine And.intro rfl ?_; conv => whnf) | (refine AB.mk (fun h => ?_) (fun h => ?_) <;> (conv => whnf)))
    all_goals first
      | (rw [ra hlt (by first | (refine aX _ ?_; simp_all [ct]; done) | (rw [aH _ ari]; simp_all [ct, fk]; done) | (rw [aJ _ ari]; simp_all [ct]; done))]; done)
      | (rw [AY hlt (by assumption)]; done)
      | (refine aF.mk ⟨k + 1, ⟨hlt, cK hall hlt (by first | (refine aX _ ?_; simp_all [ct]; done) | (rw [aH _ ari]; simp_all [ct, fk]; done) | (rw [aJ _ ari]; simp_all [ct]; done)), A7 hlt hdup fun i hi => GO hlt (by assumption) hi⟩, by omega, ?_, ai.cons (congrArg some (congrArg (fun l => eL Tryz.prog 2 (k + 1) (gh l)) (Fy hlt))) ai.nil⟩
         exact hds)
      | (refine aT ?_
         have hkk : k = s.length := ari
         rw [vt (fun j hl => hall j (by omega) hl) (fun i j hi hl => hdup i j hi (by omega) hl)])
end Go.Proofs.YtcmknngafflcnaaGreat
namespace Go.Proofs.YtcmknngafflcnaaGreat
open Go.ChangeShapes Go.WideShapes Go.RowKit
def hH (s : List DMark) : Prop := s.Pairwise fun x y => x.client < y.client
theorem tW : ∀ {s : List DMark}, ib fk s = true → hH s
  | [], _ => List.Pairwise.nil
  | [x], _ => List.pairwise_singleton _ _
  | x :: y :: r, h => by
    simp only [ib, Bool.and_eq_true] at h
    have ih := tW (s := y :: r) h.2
    have hxy : x.client < y.client := by simpa [fk] using h.1
    refine List.pairwise_cons.2 ⟨fun z hz => ?_, ih⟩
    rcases List.mem_cons.1 hz with rfl | hz
    · exact hxy
    · have := (List.pairwise_cons.1 ih).1 z hz
      omega
theorem vJ : ∀ {s : List DMark}, hH s → ib fk s = true
  | [], _ => rfl
  | [x], _ => rfl
  | x :: y :: r, h => by
    have h1 := List.pairwise_cons.1 h
    simp only [ib, Bool.and_eq_true]
    exact ⟨by simpa [fk] using h1.1 y (by simp), vJ h1.2⟩
theorem jh {s : List DMark} (h : bw s = true) : hH s := by
  simp only [bw, Bool.and_eq_true] at h
  exact tW h.1.2
theorem o3 {s : List DMark} (h : bw s = true) {m : DMark} (hm : m ∈ s) : ct m = true := by
  simp only [bw, Bool.and_eq_true] at h
  exact List.all_eq_true.1 h.1.1 m hm
theorem qA {s : List DMark} {c : Int} (h : ∀ m ∈ s, c ≤ m.client) : s.filter (fun x => decide (x.client < c)) = [] := by
  rw [List.filter_eq_nil_iff]
  intro m hm
  have := h m hm
  simp; omega
theorem wM {c : Int} : ∀ {s : List DMark}, hH s → s.filter (fun x => decide (x.client < c + 1)) = s.filter (fun x => decide (x.client < c)) ++ (s.find? fun x => x.client == c).toList
  | [], _ => rfl
  | x :: r, h => by
    obtain ⟨h1, h2⟩ := List.pairwise_cons.1 h
    have ih := wM (c := c) h2
    rcases Int.lt_trichotomy x.client c with hx | hx | hx
    · have e1 : decide (x.client < c + 1) = true := by simp; omega
      have e2 : decide (x.client < c) = true := by simp; omega
      have e3 : (x.client == c) = false := by simp; omega
      simp only [List.filter_cons, e1, e2, if_true, List.find?_cons, e3, ih, List.cons_append]
    · have e1 : decide (x.client < c + 1) = true := by simp; omega
      have e2 : decide (x.client < c) = false := by simp; omega
      have e3 : (x.client == c) = true := by simp; omega
      simp only [List.filter_cons, e1, e2, if_true, List.find?_cons, e3]
      rw [qA (fun m hm => by have := h1 m hm; omega), qA (fun m hm => by have := h1 m hm; omega)]
      rfl
    · have e1 : decide (x.client < c + 1) = false := by simp; omega
      have e2 : decide (x.client < c) = false := by simp; omega
      have e3 : (x.client == c) = false := by simp; omega
      simp only [List.filter_cons, e1, e2, List.find?_cons, e3, ih]
      rfl
theorem zG {s : List DMark} (h : bw s = true) : s.filter (fun x => decide (x.client < 6)) = s := by
  rw [List.filter_eq_self]
  intro m hm
  have := o3 h hm
  simp only [ct, aj, Bool.and_eq_true, decide_eq_true_eq] at this
  simp; omega
theorem DM {s : List DMark} (h : bw s = true) : s.filter (fun x => decide (x.client < 2)) = [] := qA fun m hm => by
  have := o3 h hm
  simp only [ct, aj, Bool.and_eq_true, decide_eq_true_eq] at this
  omega
theorem Cw {s : List DMark} (h : hH s) (m : DMark) : hH (putMark s m) := by
  unfold putMark hH
  rw [List.pairwise_append]
  refine ⟨h.sublist List.filter_sublist, List.pairwise_cons.2 ⟨fun z hz => ?_, h.sublist List.filter_sublist⟩, fun a ha b hb => ?_⟩
  · have := (List.mem_filter.1 hz).2
    simpa using this
  · have h1 := (List.mem_filter.1 ha).2
    simp only [decide_eq_true_eq] at h1
    rcases List.mem_cons.1 hb with rfl | hb
    · exact h1
    · have := (List.mem_filter.1 hb).2
      simp only [decide_eq_true_eq] at this
      omega
theorem C6 {s : List DMark} {m x : DMark} (h : x ∈ putMark s m) : x = m ∨ x ∈ s := by
  unfold putMark at h
  rcases List.mem_append.1 h with h | h
  · exact .inr (List.mem_filter.1 h).1
  · rcases List.mem_cons.1 h with h | h
    · exact .inl h
    · exact .inr (List.mem_filter.1 h).1
theorem oD {α : Type} (p q : α → Bool) : ∀ l : List α, (l.filter p).find? q = l.find? fun a => p a && q a
  | [] => rfl
  | x :: r => by
    rw [List.filter_cons, List.find?_cons]
    cases hp : p x with
    | true =>
      simp only [if_true, List.find?_cons, Bool.true_and]
      cases q x with
      | true => rfl
      | false => exact oD p q r
    | false =>
      simp only [Bool.false_and]
      exact oD p q r
theorem Fg (s : List DMark) (m : DMark) (d : Int) : (putMark s m).find? (fun x => x.client == d) = if d = m.client then some m else s.find? (fun x => x.client == d) := by
  unfold putMark
  rw [List.find?_append, List.find?_cons, oD, oD]
  by_cases hd : d = m.client
  · subst hd
    have e : s.find? (fun a => decide (a.client < m.client) && a.client == m.client) = none := by
      rw [List.find?_eq_none]
      intro x _
      simp; omega
    rw [e]
    simp
  · have e0 : (m.client == d) = false := by simp; omega
    rw [if_neg hd, e0]
    rcases Int.lt_or_gt_of_ne hd with h | h
    · have e1 : (fun a : DMark => decide (a.client < m.client) && a.client == d) = fun a => a.client == d := by
        funext a
        by_cases ha : a.client = d
        · simp [ha, h]
        · simp [ha]
      have e2 : s.find? (fun a => decide (m.client < a.client) && a.client == d) = none := by
        rw [List.find?_eq_none]
        intro x _
        simp; omega
      rw [e1]
      simp only [e2]
      simp
    · have e1 : (fun a : DMark => decide (m.client < a.client) && a.client == d) = fun a => a.client == d := by
        funext a
        by_cases ha : a.client = d
        · simp [ha]; omega
        · simp [ha]
      have e2 : s.find? (fun a => decide (a.client < m.client) && a.client == d) = none := by
        rw [List.find?_eq_none]
        intro x _
        simp; omega
      rw [e1, e2]
      simp
theorem lc (x0 : Int) : ∀ s : List DMark, (∀ m ∈ s, m.index ≤ s.foldl (fun x m => if m.index > x then m.index else x) x0) ∧ x0 ≤ s.foldl (fun x m => if m.index > x then m.index else x) x0 ∧ (s.foldl (fun x m => if m.index > x then m.index else x) x0 = x0 ∨ ∃ m ∈ s, m.index = s.foldl (fun x m => if m.index > x then m.index else x) x0)
  | [] => ⟨by simp, by simp, .inl rfl⟩
  | y :: r => by
    obtain ⟨h1, h2, h3⟩ := lc (if y.index > x0 then y.index else x0) r
    simp only [List.foldl_cons]
    have hy : y.index ≤ (if y.index > x0 then y.index else x0) ∧ x0 ≤ (if y.index > x0 then y.index else x0) := by split <;> omega
    refine ⟨fun m hm => ?_, by omega, ?_⟩
    · rcases List.mem_cons.1 hm with rfl | hm
      · omega
      · exact h1 m hm
    · rcases h3 with h3 | ⟨m, hm, h3⟩
      · by_cases hc : y.index > x0
        · rw [if_pos hc] at h3 ⊢
          exact .inr ⟨y, by simp, h3.symm⟩
        · rw [if_neg hc] at h3 ⊢
          exact .inl h3
      · exact .inr ⟨m, by simp [hm], h3⟩
theorem yp {s : List DMark} {m : DMark} (h : m ∈ s) : m.index ≤ bi s := (lc 0 s).1 m h
theorem z5 (s : List DMark) : 0 ≤ bi s := (lc 0 s).2.1
theorem Gi {s : List DMark} {x : Int} (h1 : ∀ m ∈ s, m.index ≤ x) (h2 : ∃ m ∈ s, m.index = x) (h0 : 0 ≤ x) : bi s = x := by
  obtain ⟨m, hm, e⟩ := h2
  have h3 := yp hm
  rcases (lc 0 s).2.2 with h | ⟨y, hy, h⟩
  · have h : bi s = 0 := h
    omega
  · have h : y.index = bi s := h
    have := h1 y hy
    omega
theorem z6 {s : List DMark} {m : DMark} (h : bi s < m.index) : bi (putMark s m) = m.index := by
  have h0 := z5 s
  refine Gi (fun x hx => ?_) ⟨m, by simp [putMark], rfl⟩ (by omega)
  rcases C6 hx with rfl | hx
  · exact Int.le_refl _
  · have := yp hx
    omega
theorem B6 {e : DEntry} (h : bW e = true) : ct e.mark = true := by
  simp only [bW, Bool.and_eq_true] at h
  simp only [ct, DEntry.mark, Bool.and_eq_true]
  exact ⟨⟨h.1.1.2, h.1.2⟩, h.1.1.1.1⟩
theorem yL {s : List DMark} {R : DMark → DMark → Prop} (h : s.Pairwise R) {i j : Nat} (hi : i < j) (hj : j < s.length) : R (s[i]'(by omega)) s[j] := List.pairwise_iff_getElem.1 h i j (by omega) hj hi
theorem tX : ∀ {s : List DMark}, cC lg s = true → s.Pairwise fun x y => x.index ≠ y.index
  | [], _ => List.Pairwise.nil
  | x :: r, h => by
    simp only [cC, Bool.and_eq_true] at h
    refine List.pairwise_cons.2 ⟨fun y hy => ?_, tX h.2⟩
    have := List.all_eq_true.1 h.1 y hy
    simpa [lg] using this
theorem uZ : ∀ {s : List DMark}, (s.Pairwise fun x y => x.index ≠ y.index) → cC lg s = true
  | [], _ => rfl
  | x :: r, h => by
    obtain ⟨h1, h2⟩ := List.pairwise_cons.1 h
    simp only [cC, Bool.and_eq_true]
    refine ⟨List.all_eq_true.2 fun y hy => ?_, uZ h2⟩
    have := h1 y hy
    simpa [lg] using this
theorem Fh {s : List DMark} {m : DMark} (h : bw s = true) (hm : ct m = true) (hl : bi s < m.index) : bw (putMark s m) = true := by
  have hs := jh h
  have hx : ∀ x ∈ s, x.index ≠ m.index := fun x hx => by have := yp hx; omega
  have hp : s.Pairwise fun x y => x.index ≠ y.index := by
    simp only [bw, Bool.and_eq_true] at h
    exact tX h.2
  simp only [bw, Bool.and_eq_true]
  refine ⟨⟨List.all_eq_true.2 fun x hx => ?_, vJ (Cw hs m)⟩, uZ ?_⟩
  · rcases C6 hx with rfl | hx
    · exact hm
    · exact o3 h hx
  · unfold putMark
    rw [List.pairwise_append]
    refine ⟨hp.sublist List.filter_sublist, List.pairwise_cons.2 ⟨fun z hz => (hx z (List.mem_filter.1 hz).1).symm, hp.sublist List.filter_sublist⟩, fun a ha b hb => ?_⟩
    have h1 := List.mem_filter.1 ha
    simp only [decide_eq_true_eq] at h1
    rcases List.mem_cons.1 hb with rfl | hb
    · exact hx a h1.1
    · have h2 := List.mem_filter.1 hb
      simp only [decide_eq_true_eq] at h2
      obtain ⟨i, hi, rfl⟩ := List.getElem_of_mem h1.1
      obtain ⟨j, hj, rfl⟩ := List.getElem_of_mem h2.1
      rcases Nat.lt_trichotomy i j with hij | hij | hij
      · exact yL hp hij hj
      · subst hij; omega
      · exact (yL hp hij hi).symm
theorem An {s s' : List DMark} {e : DEntry} (h : bw s = true) (hm : cy s e = some s') : bw s' = true ∧ bi s' = e.index := by
  unfold cy at hm
  split at hm
  · rename_i hc
    simp only [Bool.and_eq_true, decide_eq_true_eq] at hc
    injection hm with hm
    subst hm
    exact ⟨Fh h (B6 hc.1.1) hc.2, z6 hc.2⟩
  · cases hm
theorem iT (s : List DMark) : ∀ (a b : List DEntry), bL s (a ++ b) = (bL s a).bind fun s' => bL s' b
  | [], b => rfl
  | e :: a, b => by
    simp only [List.cons_append, bL]
    cases cy s e with
    | none => rfl
    | some s' => exact iT s' a b
theorem jT : ∀ {l : List DEntry} {s s' : List DMark}, bw s = true → bL s l = some s' → bw s' = true
  | [], s, s', h, hf => by simp only [bL, Option.some.injEq] at hf; subst hf; exact h
  | e :: r, s, s', h, hf => by
    simp only [bL] at hf
    cases hm : cy s e with
    | none => rw [hm] at hf; cases hf
    | some s1 => rw [hm] at hf; exact jT (An h hm).1 hf
theorem oG {s c : List DMark} {l : List DEntry} {k : Nat} (hk : k < l.length) (h : bL s (l.take k) = some c) : bL s (l.take (k + 1)) = cy c l[k] := by
  rw [List.take_succ_eq_append_getElem hk, iT, h]
  simp only [Option.bind_some, bL]
  cases cy c l[k] <;> rfl
theorem oF {s c : List DMark} {l : List DEntry} {k : Nat} (hk : k < l.length) (h : bL s (l.take k) = some c) (hn : cy c l[k] = none) : bL s l = none := by
  have e : l = l.take (k + 1) ++ l.drop (k + 1) := (List.take_append_drop _ _).symm
  rw [e, iT, oG hk h, hn]
  rfl
def DMark.v (m : DMark) : Value := .agg #[.int .i64 m.client, .int .i64 m.seq, .int .i64 m.index]
def em (s : List DMark) (c : Int) : Option Value := (s.find? fun m => m.client == c).map DMark.v
theorem Cm (s : List DMark) (m : DMark) : mS (mS (em s) m.client none) m.client (some m.v) = em (putMark s m) := by
  funext d
  unfold mS em
  rw [Fg]
  by_cases h : d = m.client
  · simp [h]
  · simp [h]
theorem Aq {s : List DMark} (h : hH s) {k : Nat} (hk : k < s.length) : mS (em (s.take k)) s[k].client (some s[k].v) = em (s.take (k + 1)) := by
  funext d
  unfold mS em
  rw [List.take_succ_eq_append_getElem hk, List.find?_append]
  by_cases hd : d = s[k].client
  · have : (s.take k).find? (fun m => m.client == d) = none := by
      rw [List.find?_eq_none]
      intro m hm
      obtain ⟨i, hi, rfl⟩ := List.getElem_of_mem hm
      simp at hi
      have := yL h (i := i) (j := k) (by omega) hk
      simp only [List.getElem_take]
      simp; omega
    rw [this]
    simp [hd]
  · have e : (s[k].client == d) = false := by simp; omega
    simp [hd, e]
theorem uN (s : List DMark) (c : Int) : (em s c).getD (DMark.v ⟨0, 0, 0⟩) = (da s c).v := by
  unfold em da
  cases s.find? fun m => m.client == c <;> rfl
def dc (x : DMark) (p : List DMark × Bool) (m : DMark) : List DMark × Bool :=
  let q := if (!p.2 && decide (m.client ≥ x.client)) = true then (p.1 ++ [x], true) else p
  if (m.client != x.client) = true then (q.1 ++ [m], q.2) else q
theorem oe (x : DMark) : ∀ (r : List DMark) (out : List DMark), (∀ m ∈ r, x.client < m.client) → r.foldl (dc x) (out, true) = (out ++ r, true)
  | [], out, _ => by simp
  | m :: r, out, h => by
    have hm := h m (by simp)
    have e : (m.client != x.client) = true := by simp; omega
    rw [List.foldl_cons]
    have : dc x (out, true) m = (out ++ [m], true) := by simp [dc, e]
    rw [this, oe x r _ fun y hy => h y (by simp [hy])]
    simp
theorem xz (x : DMark) : ∀ (s : List DMark) (out : List DMark), hH s → (let p := s.foldl (dc x) (out, false); if p.2 then p.1 else p.1 ++ [x]) = out ++ putMark s x
  | [], out, _ => by simp [putMark]
  | m :: r, out, h => by
    obtain ⟨h1, h2⟩ := List.pairwise_cons.1 h
    rw [List.foldl_cons]
    rcases Int.lt_trichotomy m.client x.client with hx | hx | hx
    · have e : dc x (out, false) m = (out ++ [m], false) := by
        have e1 : (m.client != x.client) = true := by simp; omega
        have e2 : decide (m.client ≥ x.client) = false := by simp; omega
        simp [dc, e1, e2]
      rw [e]
      have := xz x r (out ++ [m]) h2
      simp only at this ⊢
      rw [this]
      have e1 : decide (m.client < x.client) = true := by simp; omega
      have e2 : decide (x.client < m.client) = false := by simp; omega
      simp [putMark, List.filter_cons, e1, e2]
    · have e : dc x (out, false) m = (out ++ [x], true) := by
        have e1 : (m.client != x.client) = false := by simp; omega
        have e2 : decide (m.client ≥ x.client) = true := by simp; omega
        simp [dc, e1, e2]
      rw [e, oe x r _ fun y hy => by have := h1 y hy; omega]
      have e1 : decide (m.client < x.client) = false := by simp; omega
      have e2 : decide (x.client < m.client) = false := by simp; omega
      have e3 := qA (s := r) (c := x.client) fun y hy => by have := h1 y hy; omega
      have e4 : r.filter (fun y => decide (x.client < y.client)) = r := List.filter_eq_self.2 fun y hy => by have := h1 y hy; simp; omega
      simp [putMark, List.filter_cons, e1, e2, e3, e4]
    · have e : dc x (out, false) m = (out ++ [x] ++ [m], true) := by
        have e1 : (m.client != x.client) = true := by simp; omega
        have e2 : decide (m.client ≥ x.client) = true := by simp; omega
        simp [dc, e1, e2]
      rw [e, oe x r _ fun y hy => by have := h1 y hy; omega]
      have e1 : decide (m.client < x.client) = false := by simp; omega
      have e2 : decide (x.client < m.client) = true := by simp; omega
      have e3 := qA (s := r) (c := x.client) fun y hy => by have := h1 y hy; omega
      have e4 : r.filter (fun y => decide (x.client < y.client)) = r := List.filter_eq_self.2 fun y hy => by have := h1 y hy; simp; omega
      simp [putMark, List.filter_cons, e1, e2, e3, e4]
end Go.Proofs.YtcmknngafflcnaaGreat
namespace Go.Proofs.YtcmknngafflcnaaGreat
open Go.ChangeShapes Go.WideShapes Go.RowKit
def nj : List (List Nat) := bA [0, 0, 66, 12417, 1052803, 84680772, 6509830341, 486455906566, 35601001230663, 35601001230663, 164122109978632714, 12864558999848899017, 895947530576690971275, 62214096053295717315148, 4288581010608110333633229, 156574859254327662432785166, 20081510041707290985360540040, 1356899553734770709485945406352, 1356899553734770709485945406352, 5923587830982514145972845142377555, 421636442773735343416726771234563090, 28292897532666114236322210354999399636, 1898537750402680611027230854233737200789, 127034656468995985865646476997610663392534, 5967707348221782891828072951731102390494551, 565648852092902157227629397357442590340833809, 37490373280641151012592431874597664098943063513, 2502485539529844412531286436639603921451199530074, 166087567271022160503618616904197948703796800878171, 11010347230074533307146158530030619788898519968978588, 11010347230074533307146158530030619788898519968978588, 752932131912260334039555932757799679532369757563885277, 2985930297697201441291086890838327699612987223161923557407, 210234572940368821915163135926733937005219597242913295542046, 13850072915254038234349307345913535094213956629436102207735777, 11010347230074533307146158530030619788898519968978588, 11010347230074533307146158530030619788898519968978588, 55850134146714105670323314832250725408165360095006668645, 3784436152620604361418416164180035334021156397949328402212, 248381376265470252552496479654363036654114445380177772796262, 980691698394957500613724600803745561927647133727159787676620151127169319, 51994894724060614221224959313175579963534257980652146624656993052187031651, 2970293386999070557595757949505285772116318429614249986723245519214184089309]
def nC : List (List Nat) := bQ 40 [6, 2, 4, 13, 40, 121, 364, 1093, 42646, 16402, 29524, 88573, 265720, 797161, 2391484, 7174453, 21523360, 839411059, 322850407, 581130733, 1743392200, 5230176601, 15690529804, 47071589413, 141214768240, 423644304721, 1270932914164, 3812798742493, 11438396227480, 12109315358203368727, 12107805489901341301, 12108011381033435950, 12108560424052355014, 12110413444241206855, 12115972504807762378, 350186500504315507, 150060320108316679, 250123410306316093, 700407316197313456, 2051259033870305545]
def lV : List (List Nat) := bA [0, 0, 66, 12417, 1052803, 0, 0, 391, 33222, 2384328, 90925286754906505]
def ms : List (List Nat) := bQ 10 [58812, 58808, 58810, 58819, 58846, 1700, 728, 1214, 3401, 9962]
theorem bx {a b c : Nat} {Q : Prop} (h : (a + b) * c ≤ 140737488355328) (q : Q) : (a + b) * c ≤ 140737488355328 ∧ Q := ⟨h, q⟩
theorem br {xs : List (List AD)} {s : Nat} {Q : Prop} (h : ∀ x ∈ xs, x.length = s) (q : Q) : (∀ x ∈ xs, x.length = s) ∧ Q := ⟨h, q⟩
theorem rc (a b : Int) : ak av 53 [pI a, pI b] (rI (if b > a then b else a)) := by
  refine ac ah Tryz.func53 rfl Tryz.call53 Tryz.ntmps53 (congrArg Array.toList Tryz.results53) fun S => ?_; conv => whnf
  repeat' (first | (refine aw0 ?_) | (refine awx ?_; conv => whnf) | fail | (exact rr) | (refine And.intro rfl ?_; conv => whnf) | (refine AB.mk (fun h => ?_) (fun h => ?_) <;> (conv => whnf)))
  all_goals
    simp only [decide_eq_true_eq, decide_eq_false_iff_not] at *
    first
      | (rw [if_neg (by omega)]; done)
      | (by_cases h2 : b > a
         · rw [if_pos h2]
         · rw [if_neg h2]; have : a = b := by omega
           rw [this])
theorem fD (s : List DMark) (h : s.length ≤ 1000000) : ak av 267 [.one (.sl (s.map DMark.ds))] (.val (.one (.sl (s.map DMark.ds)))) := by
  refine ac ah Tryz.func267 rfl Tryz.call267 Tryz.ntmps267 (congrArg Array.toList Tryz.results267) fun S => ?_; conv => whnf
  repeat' (first | (refine aw0 ?_) | (refine awx ?_; conv => whnf) | fail | (refine br (fun x hx => by obtain ⟨y, _, rfl⟩ := List.mem_map.1 hx; rfl) ?_; conv => whnf) | (refine bx (by simp only [List.length_map, List.length_nil, List.length_append, List.length_cons] <;> omega) ?_; conv => whnf) | (exact rr) | (refine And.intro rfl ?_; conv => whnf) | (refine AB.mk (fun h => ?_) (fun h => ?_) <;> (conv => whnf)))
  all_goals rfl
theorem i4 (s : List DMark) (h : s.length ≤ 1000000) : ak av 252 [.one (.sl (s.map DMark.ds))] (.val (.one (.sl (s.map DMark.ds)))) := by
  refine ac ah Tryz.func252 rfl Tryz.call252 Tryz.ntmps252 (congrArg Array.toList Tryz.results252) fun S => ?_; conv => whnf
  repeat' (first | (refine aw0 ?_) | (refine awx ?_; conv => whnf) | fail | (refine br (fun x hx => by obtain ⟨y, _, rfl⟩ := List.mem_map.1 hx; rfl) ?_; conv => whnf) | (refine bx (by simp only [List.length_map, List.length_nil, List.length_append, List.length_cons] <;> omega) ?_; conv => whnf) | (exact rr) | (refine And.intro rfl ?_; conv => whnf) | (refine AB.mk (fun h => ?_) (fun h => ?_) <;> (conv => whnf)))
  all_goals rfl
theorem Cy {s : List DMark} (h : ¬ s.length ≤ 4) : bw s = false := by
  cases hs : bw s with
  | false => rfl
  | true => exact absurd (d9 hs) h
set_option maxHeartbeats 2000000 in
theorem cH (s : List DMark) : ak av 264 [.one (.sl (s.map DMark.ds))] (rB (bw s)) := by
  refine ac ah Tryz.func264 rfl Tryz.call264 Tryz.ntmps264 (congrArg Array.toList Tryz.results264) fun S => ?_; conv => whnf
  repeat' (first | (refine aw0 ?_) | (refine awx ?_; conv => whnf) | fail | (exact rr) | (refine And.intro rfl ?_; conv => whnf) | (refine AB.mk (fun h => ?_) (fun h => ?_) <;> (conv => whnf)))
  · rw [Cy ari]
  · have h4 : s.length ≤ 4 := ari
    clear h
    refine AWP.loopS (fun k : Nat => k ≤ s.length ∧ (∀ (j : Nat) (hj : j < k) (hl : j < s.length), bp ct fk s j hl = true) ∧ ∀ (i j : Nat) (hi : i < j) (hj : j < k) (hl : j < s.length), (s[i]'(by omega)).index ≠ s[j].index) [2, 3, 4, 8, 9, 10, 11, 12, 13, 14, 15, 16, 17, 18, 19, 20, 21, 22, 23, 24, 25, 26, 27, 28, 29, 30, 31, 32, 33, 34, 35, 36, 37, 38, 39, 40, 41, 42, 43, 44, 45, 46, 47, 48, 49, 50, 51, 52, 53, 54, 55, 56, 57, 58, 59, 60, 61, 62, 63, 64, 65, 66, 67, 68, 69, 70, 71, 72] (fun k => [(3, vI .i64 (k : Int))]) (fun k => []) (fun k => s.length - k) 0 ⟨by omega, by omega, by omega⟩ ?_ ai.nil (fun k hR => ?_) <;> (conv => whnf)
    · exact whd
    · obtain ⟨hk, hall, hdup⟩ := hR
      repeat' (first | (refine aw0 ?_) | (refine awx ?_; conv => whnf) | fail | (refine AWP.drawK ah 6 40 nj nC (by kernel_rfl) (by kernel_rfl) (by kernel_rfl) rfl ?_; conv => whnf) | (refine AIx.mapF ari (fun hlt => ?_); conv => whnf) | (refine AIx.mapP ari ari (fun hpv => ?_); conv => whnf) | (refine AW.i64 (n := _ - _) ari ari ?_; conv => whnf) | (refine AW.i64 ari ari ?_; conv => whnf) | (refine aa.pure (gB _) rfl ?_; conv => whnf) | (refine ae.mk ⟨_, _, gB _, .inl rfl, ?_⟩; conv => whnf) | (refine aa.pure (ke _) rfl ?_; conv => whnf) | (refine ae.mk ⟨_, _, ke _, .inl rfl, ?_⟩; conv => whnf) | (refine aa.pure (lq _) rfl ?_; conv => whnf) | (refine ae.mk ⟨_, _, lq _, .inl rfl, ?_⟩; conv => whnf) | (exact rr) | (refine And.intro rfl ?_; conv => whnf) | (refine AB.mk (fun h => ?_) (fun h => ?_) <;> (conv => whnf)))
      all_goals first
        | (rw [ra hlt (by first | (refine aX _ ?_; simp_all [ct]; done) | (rw [aH _ ari]; simp_all [ct, fk]; done) | (rw [aJ _ ari]; simp_all [ct]; done))]; done)
        | (refine aT ?_
           have hkk : k = s.length := ari
           rw [vt (fun j hl => hall j (by omega) hl) (fun i j hi hl => hdup i j hi (by omega) hl)]; done)
        | skip
      all_goals
        have hch : bp ct fk s k hlt = true := (by first | (refine aX _ ?_; simp_all [ct]; done) | (rw [aH _ ari]; simp_all [ct, fk]; done) | (rw [aJ _ ari]; simp_all [ct]; done))
        refine AWP.loopS (fun q : Nat => q ≤ k ∧ ∀ (i : Nat) (hi : i < q) (hik : i < k), (s[i]'(by omega)).index ≠ s[k].index) [2, 4, 57, 58, 59, 60, 61, 62, 63, 64, 65, 66, 67, 68, 69, 70, 71, 72] (fun q => [(4, vI .i64 (q : Int))]) (fun _ => []) (fun q => k - q) 0 ⟨by omega, by omega⟩ ?_ ai.nil (fun q hQ => ?_) <;> (conv => whnf)
        · exact whd
        · obtain ⟨hq, hno⟩ := hQ
          repeat' (first | (refine aw0 ?_) | (refine awx ?_; conv => whnf) | fail | (refine AWP.drawK ah 11 10 lV ms (by kernel_rfl) (by kernel_rfl) (by kernel_rfl) rfl ?_; conv => whnf) | (refine AIx.mapF (k := q) ari (fun hqt => ?_); conv => whnf) | (refine AIx.mapF (k := k) ari (fun hlt => ?_); conv => whnf) | (refine AW.i64 ari ari ?_; conv => whnf) | (exact rr) | (refine And.intro rfl ?_; conv => whnf) | (refine AB.mk (fun h => ?_) (fun h => ?_) <;> (conv => whnf)))
          all_goals first
            | (rw [vr (j := q) (k := k) ari ari (by simp_all)]; done)
            | (refine aF.mk ⟨q + 1, ⟨ari, fun i hi hik => ?_⟩, ari, ?_, ai.nil⟩
               · by_cases hiq : i = q
                 · subst hiq; intro e; simp [e] at h
                 · exact hno i (by omega) hik
               · exact hds)
            | (refine aF.mk ⟨k + 1, ⟨ari, cK hall ari hch, A7 ari hdup fun i hi => hno i ari hi⟩, ari, ?_, ai.nil⟩
               exact hds)
theorem w3 {s : List DMark} {k : Nat} (hk : k < s.length) : bi (s.take (k + 1)) = (if s[k].index > bi (s.take k) then s[k].index else bi (s.take k)) := by
  unfold bi
  rw [List.take_succ_eq_append_getElem hk, List.foldl_append]
  rfl
theorem i5 (s : List DMark) (hs : s.length ≤ 1000000) : ak av 327 [.one (.sl (s.map DMark.ds))] (rI (bi s)) := by
  refine ac ah Tryz.func327 rfl Tryz.call327 Tryz.ntmps327 (congrArg Array.toList Tryz.results327) fun S => ?_; conv => whnf
  repeat' (first | (refine aw0 ?_) | (refine awx ?_; conv => whnf) | fail | (exact rr) | (refine And.intro rfl ?_; conv => whnf) | (refine AB.mk (fun h => ?_) (fun h => ?_) <;> (conv => whnf)))
  refine AWP.loopS (fun p : Nat × Int => p.1 ≤ s.length ∧ p.2 = bi (s.take p.1)) [3, 5, 8, 9, 10, 11, 12, 13, 14, 15, 16] (fun p => [(3, vI .i64 p.2), (8, vI .i64 (p.1 : Int))]) (fun _ => []) (fun p => s.length - p.1) (0, 0) ⟨by simp, rfl⟩ ?_ ai.nil (fun p hR => ?_) <;> (conv => whnf)
  · exact whd
  · obtain ⟨k, v⟩ := p
    obtain ⟨hk, hv⟩ := hR
    simp only at hk hv
    repeat' (first | (refine aw0 ?_) | (refine awx ?_; conv => whnf) | fail | (refine AIx.mapF ari (fun hlt => ?_); conv => whnf) | (refine AW.i64 ari ari ?_; conv => whnf) | (exact rr) | (refine And.intro rfl ?_; conv => whnf) | (refine AB.mk (fun h => ?_) (fun h => ?_) <;> (conv => whnf)))
    all_goals first
      | (refine aF.mk ⟨(k + 1, if s[k].index > v then s[k].index else v), ⟨ari, by simp only [w3 (s := s) (k := k) ari, hv]⟩, by simp only; omega, ?_, ai.nil⟩
         exact hds)
      | (have hkk : k = s.length := ari
         subst hkk
         rw [List.take_length] at hv
         rw [hv])
theorem je (s : List DMark) (h : bw s = true) : ak av 265 [.one (.sl (s.map DMark.ds))] (rI (bi s)) := by
  have h' : (!bw s) = false := by simp [h]
  have hl := d9 h
  refine ac ah Tryz.func265 rfl Tryz.call265 Tryz.ntmps265 (congrArg Array.toList Tryz.results265) fun S => ?_; conv => whnf
  repeat' (first | (refine aw0 ?_) | (refine awx ?_; conv => whnf) | fail | (refine aa.pure (cH s) rfl ?_; conv => whnf) | (refine ae.mk ⟨_, _, cH s, .inl rfl, ?_⟩; conv => whnf) | (exact rr) | (refine And.intro rfl ?_; conv => whnf) | (refine AB.mk (fun h => ?_) (fun h => ?_) <;> (conv => whnf)))
  refine AWP.loopS (fun p : Nat × Int => p.1 ≤ s.length ∧ p.2 = bi (s.take p.1)) [3, 4, 9, 10, 11, 12, 13, 14, 15, 16, 17, 18, 19, 20, 21] (fun p => [(3, vI .i64 p.2), (4, vI .i64 (p.1 : Int))]) (fun _ => []) (fun p => s.length - p.1) (0, 0) ⟨by simp, rfl⟩ ?_ ai.nil (fun p hR => ?_) <;> (conv => whnf)
  · exact whd
  · obtain ⟨k, v⟩ := p
    obtain ⟨hk, hv⟩ := hR
    simp only at hk hv
    repeat' (first | (refine aw0 ?_) | (refine awx ?_; conv => whnf) | fail | (refine AIx.mapF ari (fun hlt => ?_); conv => whnf) | (refine AW.i64 ari ari ?_; conv => whnf) | (refine aa.pure (rc _ _) rfl ?_; conv => whnf) | (refine ae.mk ⟨_, _, rc _ _, .inl rfl, ?_⟩; conv => whnf) | (exact rr) | (refine And.intro rfl ?_; conv => whnf) | (refine AB.mk (fun h => ?_) (fun h => ?_) <;> (conv => whnf)))
    all_goals first
      | (refine aF.mk ⟨(k + 1, if s[k].index > v then s[k].index else v), ⟨ari, by simp only [w3 (s := s) (k := k) ari, hv]⟩, by simp only; omega, ?_, ai.nil⟩
         exact hds)
      | (have hkk : k = s.length := ari
         subst hkk
         rw [List.take_length] at hv
         rw [hv])
theorem DT {s : List DMark} {c : Int} {k : Nat} (hk : k < s.length) (hno : ∀ (j : Nat) (hj : j < k) (hl : j < s.length), s[j].client ≠ c) (h : s[k].client = c) : da s c = s[k] := by
  unfold da
  have e : s = s.take k ++ s[k] :: s.drop (k + 1) := by simp
  have h0 : (s.take k).find? (fun m => m.client == c) = none := by
    rw [List.find?_eq_none]
    intro m hm
    obtain ⟨i, hi, rfl⟩ := List.getElem_of_mem hm
    simp at hi
    have := hno i (by omega) (by omega)
    simpa using this
  have : s.find? (fun m => m.client == c) = some s[k] := by
    conv => lhs; rw [e]
    rw [List.find?_append, h0, List.find?_cons]
    simp [h]
  rw [this]; rfl
theorem DU {s : List DMark} {c : Int} (hno : ∀ (j : Nat) (hl : j < s.length), s[j].client ≠ c) : da s c = ⟨0, 0, 0⟩ := by
  unfold da
  have : s.find? (fun m => m.client == c) = none := by
    rw [List.find?_eq_none]
    intro m hm
    obtain ⟨i, hi, rfl⟩ := List.getElem_of_mem hm
    simpa using hno i hi
  rw [this]; rfl
theorem xi (s : List DMark) (c : Int) (h : bw s = true) : ak av 345 [.one (.sl (s.map DMark.ds)), pI c] (.val (.agg (da s c).ds)) := by
  have h' : (!bw s) = false := by simp [h]
  have hl := d9 h
  refine ac ah Tryz.func345 rfl Tryz.call345 Tryz.ntmps345 (congrArg Array.toList Tryz.results345) fun S => ?_; conv => whnf
  repeat' (first | (refine aw0 ?_) | (refine awx ?_; conv => whnf) | fail | (refine aa.pure (cH s) rfl ?_; conv => whnf) | (refine ae.mk ⟨_, _, cH s, .inl rfl, ?_⟩; conv => whnf) | (exact rr) | (refine And.intro rfl ?_; conv => whnf) | (refine AB.mk (fun h => ?_) (fun h => ?_) <;> (conv => whnf)))
  refine AWP.loopS (fun k : Nat => k ≤ s.length ∧ ∀ (j : Nat) (hj : j < k) (hl : j < s.length), s[j].client ≠ c) [5, 10, 11, 12, 13, 14, 15, 16, 17, 18, 19, 20, 21, 22, 23, 24, 25, 26] (fun k => [(5, vI .i64 (k : Int))]) (fun _ => [(4, .cells 231 [.d (dI 0), .d (dI 0), .d (dI 0)])]) (fun k => s.length - k) 0 ⟨by omega, by omega⟩ ?_ (ai.cons rfl ai.nil) (fun k hR => ?_) <;> (conv => whnf)
  · exact whd
  · obtain ⟨hk, hno⟩ := hR
    repeat' (first | (refine aw0 ?_) | (refine awx ?_; conv => whnf) | fail | (refine AIx.mapF ari (fun hlt => ?_); conv => whnf) | (refine AW.i64 ari ari ?_; conv => whnf) | (exact rr) | (refine And.intro rfl ?_; conv => whnf) | (refine AB.mk (fun h => ?_) (fun h => ?_) <;> (conv => whnf)))
    all_goals first
      | (refine aF.mk ⟨k + 1, ⟨ari, fun j hj hl => ?_⟩, by omega, ?_, ai.cons rfl ai.nil⟩
         · by_cases hjk : j = k
           · subst hjk; simp_all
           · exact hno j (by omega) hl
         · exact hds)
      | (rw [DT (k := k) hlt hno (by simp_all)]; rfl)
      | (have hkk : k = s.length := ari
         rw [DU fun j hl => hno j (by omega) hl]; rfl)
theorem vk (s : List DMark) (c q : Int) (h : bw s = true) (hc : aj c 2 5 = true) (hq : aj q 1 2000 = true) : ak av 315 [.one (.sl (s.map DMark.ds)), pI c, pI q] (rB (decide ((da s c).seq < q))) := by
  refine ac ah Tryz.func315 rfl Tryz.call315 Tryz.ntmps315 (congrArg Array.toList Tryz.results315) fun S => ?_; conv => whnf
  repeat' (first | (refine aw0 ?_) | (refine awx ?_; conv => whnf) | fail | (refine aa.pure (cH s) rfl ?_; conv => whnf) | (refine ae.mk ⟨_, _, cH s, .inl rfl, ?_⟩; conv => whnf) | (refine aa.pure (xi s c h) rfl ?_; conv => whnf) | (refine ae.mk ⟨_, _, xi s c h, .inl rfl, ?_⟩; conv => whnf) | (refine aa.pure (gB _) rfl ?_; conv => whnf) | (refine ae.mk ⟨_, _, gB _, .inl rfl, ?_⟩; conv => whnf) | (refine aa.pure (ke _) rfl ?_; conv => whnf) | (refine ae.mk ⟨_, _, ke _, .inl rfl, ?_⟩; conv => whnf) | (exact rr) | (refine And.intro rfl ?_; conv => whnf) | (refine AB.mk (fun h => ?_) (fun h => ?_) <;> (conv => whnf)))
  all_goals first
    | rfl
    | simp_all
end Go.Proofs.YtcmknngafflcnaaGreat
namespace Go.Proofs.YtcmknngafflcnaaGreat
open Go.ChangeShapes Go.WideShapes Go.RowKit
def nk : List (List Nat) := bA [0, 1, 129, 12354, 1056835, 1056835, 101453956, 1056835, 135008388, 1420639959016008, 182435787227795653, 4648010245964599818, 897119605921862652036, 61688236933047122166412, 4288656023430201321201933, 61688236933047122166412, 4893118933237515908555021, 1204593638896541768696351220816, 66237240043834182832914358670223]
def nD : List (List Nat) := bQ 17 [0, 1, 4, 13, 19480, 17698, 17941, 2146, 4333, 9841, 29524, 88573, 265720, 115588417, 117182740, 13551745, 27900652]
def lW : List (List Nat) := bA [0, 1, 129, 12354, 12354, 67637445, 6527127684, 485365133638, 12354, 2367555, 145826235435479689, 3477390870126285192]
def mt : List (List Nat) := bQ 10 [0, 1, 4, 52663, 52555, 52609, 52852, 53581, 6547, 13108]
def lX : List (List Nat) := bA [0, 0, 66, 12417, 1052803, 0, 6, 346852442566]
def mu : List (List Nat) := bQ 7 [1950, 1946, 1948, 1957, 1984, 242, 485]
def uY (r : List DMark × Bool) : AP := .tup [.one (.sl (r.1.map DMark.ds)), .one (dB r.2)]
def lh (s : List DMark) (e : DEntry) : List DMark × Bool := match cy s e with | some o => (o, true) | none => (s, false)
theorem ig {e : DEntry} (h : bW e = true) : aj e.client 2 5 = true ∧ aj e.seq 1 2000 = true ∧ aj e.index 1 2000 = true := by
  simp only [bW, Bool.and_eq_true] at h
  exact ⟨h.1.1.2, h.1.2, h.1.1.1.1⟩
theorem xA (x : DMark) : ∀ (s : List DMark) (p : List DMark × Bool), (s.foldl (dc x) p).1.length ≤ p.1.length + 2 * s.length
  | [], p => by simp
  | m :: r, p => by
    have h1 := xA x r (dc x p m)
    have h2 : (dc x p m).1.length ≤ p.1.length + 2 := by
      unfold dc
      simp only
      split <;> split <;> simp
    simp only [List.foldl_cons, List.length_cons]
    omega
theorem lw (x : DMark) {s : List DMark} {k : Nat} (hk : k < s.length) : (s.take (k + 1)).foldl (dc x) ([], false) = dc x ((s.take k).foldl (dc x) ([], false)) s[k] := by
  rw [List.take_succ_eq_append_getElem hk, List.foldl_append]
  rfl
theorem te {x m : DMark} {p : List DMark × Bool} (h1 : (!p.2 && decide (m.client ≥ x.client)) = true) (h2 : (m.client != x.client) = true) : dc x p m = (p.1 ++ [x] ++ [m], true) := by simp only [dc, h1, h2, if_true]
theorem tf {x m : DMark} {p : List DMark × Bool} (h1 : (!p.2 && decide (m.client ≥ x.client)) = true) (h2 : (m.client != x.client) = false) : dc x p m = (p.1 ++ [x], true) := by simp only [dc, h1, h2, if_true]; rfl
theorem tg {x m : DMark} {p : List DMark × Bool} (h1 : (!p.2 && decide (m.client ≥ x.client)) = false) (h2 : (m.client != x.client) = true) : dc x p m = (p.1 ++ [m], p.2) := by simp only [dc, h1, h2, if_true]; rfl
theorem th {x m : DMark} {p : List DMark × Bool} (h1 : (!p.2 && decide (m.client ≥ x.client)) = false) (h2 : (m.client != x.client) = false) : dc x p m = (p.1, p.2) := by simp only [dc, h1, h2]; rfl
theorem uM {s : List DMark} {e : DEntry} (h : (bW e && iI s e && decide (bi s < e.index)) = false) : cy s e = none := by simp [cy, h]
theorem ss {s : List DMark} {e : DEntry} (h : (bW e && iI s e && decide (bi s < e.index)) = true) : cy s e = some (putMark s e.mark) := by simp only [cy, h, if_true]
set_option maxHeartbeats 2000000 in
theorem xj (s : List DMark) (e : DEntry) (hseen : bw s = true) : ak av 268 [.one (.sl (s.map DMark.ds)), .agg e.ds] (uY (lh s e)) := by
  have h' : (!bw s) = false := by simp [hseen]
  have hl := d9 hseen
  refine ac ah Tryz.func268 rfl Tryz.call268 Tryz.ntmps268 (congrArg Array.toList Tryz.results268) fun S => ?_; conv => whnf
  repeat' (first | (refine aw0 ?_) | (refine awx ?_; conv => whnf) | fail | (refine AWP.drawK ah 3 17 nk nD (by kernel_rfl) (by kernel_rfl) (by kernel_rfl) rfl ?_; conv => whnf) | (refine aa.pure (cH s) rfl ?_; conv => whnf) | (refine ae.mk ⟨_, _, cH s, .inl rfl, ?_⟩; conv => whnf) | (refine aa.pure (gD e) rfl ?_; conv => whnf) | (refine ae.mk ⟨_, _, gD e, .inl rfl, ?_⟩; conv => whnf) | (refine aa.pure (vk s e.client e.seq hseen (by simp_all [bW]) (by simp_all [bW])) rfl ?_; conv => whnf) | (refine ae.mk ⟨_, _, vk s e.client e.seq hseen (by simp_all [bW]) (by simp_all [bW]), .inl rfl, ?_⟩; conv => whnf) | (refine aa.pure (je s hseen) rfl ?_; conv => whnf) | (refine ae.mk ⟨_, _, je s hseen, .inl rfl, ?_⟩; conv => whnf) | (refine aa.pure (fD s (by omega)) rfl ?_; conv => whnf) | (refine ae.mk ⟨_, _, fD s (by omega), .inl rfl, ?_⟩; conv => whnf) | (exact rr) | (refine And.intro rfl ?_; conv => whnf) | (refine AB.mk (fun h => ?_) (fun h => ?_) <;> (conv => whnf)))
  all_goals first
    | (have hno : cy s e = none := uM (by first | (simp_all [iI]; done) | (simp_all [iI]; intros; omega))
       simp only [lh, hno]; rfl)
    | skip
  have hyes : cy s e = some (putMark s e.mark) := ss (by first | (simp_all [iI]; done) | (simp_all [iI]; omega))
  simp only [lh, hyes]
  refine AWP.loopS (fun p : Nat × List DMark × Bool => p.1 ≤ s.length ∧ p.2 = (s.take p.1).foldl (dc e.mark) ([], false)) (42 :: [7, 8, 9, 43, 44, 45, 46, 47, 48, 49, 50, 51, 52, 53, 54, 55, 56, 57, 58, 59, 60, 61, 62, 63, 64, 65, 66, 67, 68, 69, 70, 71, 72, 73, 74, 75, 76, 77, 78, 79]) (fun p => [(7, .one (.own 42)), (8, vB p.2.2), (9, vI .i64 (p.1 : Int))]) (fun p => [(42, .row 231 3 (p.2.1.map DMark.ds)), (6, .cells 231 (e.mark.ds.map .d)), (3, .cells 291 (e.ds.map .d))]) (fun p => s.length - p.1) (0, [], false) ⟨by simp, rfl⟩ ?_ (ai.cons rfl (ai.cons rfl (ai.cons rfl ai.nil))) (fun p hR => ?_) <;> (conv => whnf)
  · exact whd
  · obtain ⟨hk, hv⟩ := hR
    have hlen := xA e.mark (s.take p.1) ([], false)
    rw [← hv] at hlen
    have htl : (s.take p.1).length ≤ 4 := by simp; omega
    simp only [List.length_nil] at hlen
    have hfin := xz e.mark s [] (jh hseen)
    repeat' (first | (refine aw0 ?_) | (refine awx ?_; conv => whnf) | fail | (refine AWP.drawK ah 11 10 lW mt (by kernel_rfl) (by kernel_rfl) (by kernel_rfl) rfl ?_; conv => whnf) | (refine AWP.drawK ah 14 7 lX mu (by kernel_rfl) (by kernel_rfl) (by kernel_rfl) rfl ?_; conv => whnf) | (refine AIx.mapF ari (fun hlt => ?_); conv => whnf) | (refine AW.i64 ari ari ?_; conv => whnf) | (refine br (fun x hx => by obtain ⟨y, _, rfl⟩ := List.mem_map.1 hx; rfl) ?_; conv => whnf) | (refine bx (by simp only [List.length_map, List.length_nil, List.length_append, List.length_cons] <;> omega) ?_; conv => whnf) | (exact rr) | (refine And.intro rfl ?_; conv => whnf) | (refine AB.mk (fun h => ?_) (fun h => ?_) <;> (conv => whnf)))
    all_goals first
      | (have he : dc e.mark p.2 (s[p.1]'ari) = (p.2.1 ++ [e.mark] ++ [s[p.1]'ari], true) := (by first | exact te (by clear hfin hlen hv; first | (simp_all [DEntry.mark]; done) | (simp_all [DEntry.mark]; omega)) (by clear hfin hlen hv; first | (simp_all [DEntry.mark]; done) | (simp_all [DEntry.mark]; omega)) | exact tf (by clear hfin hlen hv; first | (simp_all [DEntry.mark]; done) | (simp_all [DEntry.mark]; omega)) (by clear hfin hlen hv; first | (simp_all [DEntry.mark]; done) | (simp_all [DEntry.mark]; omega)) | exact tg (by clear hfin hlen hv; first | (simp_all [DEntry.mark]; done) | (simp_all [DEntry.mark]; omega)) (by clear hfin hlen hv; first | (simp_all [DEntry.mark]; done) | (simp_all [DEntry.mark]; omega)) | exact th (by clear hfin hlen hv; first | (simp_all [DEntry.mark]; done) | (simp_all [DEntry.mark]; omega)) (by clear hfin hlen hv; first | (simp_all [DEntry.mark]; done) | (simp_all [DEntry.mark]; omega)))
         (refine aF.mk ⟨(p.1 + 1, p.2.1 ++ [e.mark] ++ [s[p.1]'ari], true), ⟨ari, by simp only [lw e.mark (s := s) (k := p.1) ari, ← hv, he]⟩, ari, ?_, ai.cons (congrArg some (congrArg (AO.row 231 3) (by first | rfl | (simp only [List.map_append, List.map_cons, List.map_nil]; rfl)))) (ai.cons rfl (ai.cons rfl ai.nil))⟩
          exact hds))
      | (have he : dc e.mark p.2 (s[p.1]'ari) = (p.2.1 ++ [e.mark], true) := (by first | exact te (by clear hfin hlen hv; first | (simp_all [DEntry.mark]; done) | (simp_all [DEntry.mark]; omega)) (by clear hfin hlen hv; first | (simp_all [DEntry.mark]; done) | (simp_all [DEntry.mark]; omega)) | exact tf (by clear hfin hlen hv; first | (simp_all [DEntry.mark]; done) | (simp_all [DEntry.mark]; omega)) (by clear hfin hlen hv; first | (simp_all [DEntry.mark]; done) | (simp_all [DEntry.mark]; omega)) | exact tg (by clear hfin hlen hv; first | (simp_all [DEntry.mark]; done) | (simp_all [DEntry.mark]; omega)) (by clear hfin hlen hv; first | (simp_all [DEntry.mark]; done) | (simp_all [DEntry.mark]; omega)) | exact th (by clear hfin hlen hv; first | (simp_all [DEntry.mark]; done) | (simp_all [DEntry.mark]; omega)) (by clear hfin hlen hv; first | (simp_all [DEntry.mark]; done) | (simp_all [DEntry.mark]; omega)))
         (refine aF.mk ⟨(p.1 + 1, p.2.1 ++ [e.mark], true), ⟨ari, by simp only [lw e.mark (s := s) (k := p.1) ari, ← hv, he]⟩, ari, ?_, ai.cons (congrArg some (congrArg (AO.row 231 3) (by first | rfl | (simp only [List.map_append, List.map_cons, List.map_nil]; rfl)))) (ai.cons rfl (ai.cons rfl ai.nil))⟩
          exact hds))
      | (have he : dc e.mark p.2 (s[p.1]'ari) = (p.2.1 ++ [s[p.1]'ari], p.2.2) := (by first | exact te (by clear hfin hlen hv; first | (simp_all [DEntry.mark]; done) | (simp_all [DEntry.mark]; omega)) (by clear hfin hlen hv; first | (simp_all [DEntry.mark]; done) | (simp_all [DEntry.mark]; omega)) | exact tf (by clear hfin hlen hv; first | (simp_all [DEntry.mark]; done) | (simp_all [DEntry.mark]; omega)) (by clear hfin hlen hv; first | (simp_all [DEntry.mark]; done) | (simp_all [DEntry.mark]; omega)) | exact tg (by clear hfin hlen hv; first | (simp_all [DEntry.mark]; done) | (simp_all [DEntry.mark]; omega)) (by clear hfin hlen hv; first | (simp_all [DEntry.mark]; done) | (simp_all [DEntry.mark]; omega)) | exact th (by clear hfin hlen hv; first | (simp_all [DEntry.mark]; done) | (simp_all [DEntry.mark]; omega)) (by clear hfin hlen hv; first | (simp_all [DEntry.mark]; done) | (simp_all [DEntry.mark]; omega)))
         (refine aF.mk ⟨(p.1 + 1, p.2.1 ++ [s[p.1]'ari], p.2.2), ⟨ari, by simp only [lw e.mark (s := s) (k := p.1) ari, ← hv, he]⟩, ari, ?_, ai.cons (congrArg some (congrArg (AO.row 231 3) (by first | rfl | (simp only [List.map_append, List.map_cons, List.map_nil]; rfl)))) (ai.cons rfl (ai.cons rfl ai.nil))⟩
          exact hds))
      | (have he : dc e.mark p.2 (s[p.1]'ari) = (p.2.1, p.2.2) := (by first | exact te (by clear hfin hlen hv; first | (simp_all [DEntry.mark]; done) | (simp_all [DEntry.mark]; omega)) (by clear hfin hlen hv; first | (simp_all [DEntry.mark]; done) | (simp_all [DEntry.mark]; omega)) | exact tf (by clear hfin hlen hv; first | (simp_all [DEntry.mark]; done) | (simp_all [DEntry.mark]; omega)) (by clear hfin hlen hv; first | (simp_all [DEntry.mark]; done) | (simp_all [DEntry.mark]; omega)) | exact tg (by clear hfin hlen hv; first | (simp_all [DEntry.mark]; done) | (simp_all [DEntry.mark]; omega)) (by clear hfin hlen hv; first | (simp_all [DEntry.mark]; done) | (simp_all [DEntry.mark]; omega)) | exact th (by clear hfin hlen hv; first | (simp_all [DEntry.mark]; done) | (simp_all [DEntry.mark]; omega)) (by clear hfin hlen hv; first | (simp_all [DEntry.mark]; done) | (simp_all [DEntry.mark]; omega)))
         (refine aF.mk ⟨(p.1 + 1, p.2.1, p.2.2), ⟨ari, by simp only [lw e.mark (s := s) (k := p.1) ari, ← hv, he]⟩, ari, ?_, ai.cons (congrArg some (congrArg (AO.row 231 3) (by first | rfl | (simp only [List.map_append, List.map_cons, List.map_nil]; rfl)))) (ai.cons rfl (ai.cons rfl ai.nil))⟩
          exact hds))
      | (exfalso; clear hfin hlen hv; simp_all; done)
      | (exfalso; clear hfin hlen hv; simp_all; omega)
      | (have hkk : p.1 = s.length := ari
         rw [hkk, List.take_length] at hv
         rw [← hv] at hfin
         have hf : putMark s e.mark = p.2.1 ++ [e.mark] := by simp_all
         rw [hf]
         simp only [uY, List.map_append, List.map_cons, List.map_nil]
         rfl)
      | (have hkk : p.1 = s.length := ari
         rw [hkk, List.take_length] at hv
         rw [← hv] at hfin
         have hf : putMark s e.mark = p.2.1 := by simp_all
         rw [hf]
         rfl)
end Go.Proofs.YtcmknngafflcnaaGreat
namespace Go.Proofs.YtcmknngafflcnaaGreat
open Go.ChangeShapes Go.WideShapes Go.RowKit
theorem AA {s : List DMark} {l : List DEntry} (h : bw s = false) : aW s l = ([], false) := by simp [aW, h]
theorem AE {s : List DMark} {l : List DEntry} (h : bw s = true) (hl : 2000 < l.length) : aW s l = (s, false) := by simp [aW, h, hl]
theorem oV {s : List DMark} {l : List DEntry} (h : bw s = true) (hl : ¬ 2000 < l.length) (hf : bL s l = none) : aW s l = (s, false) := by simp [aW, h, hl, hf]
theorem rH {s c : List DMark} {l : List DEntry} (h : bw s = true) (hl : ¬ 2000 < l.length) (hf : bL s l = some c) : aW s l = (c, true) := by simp [aW, h, hl, hf]
theorem Ao {s c : List DMark} {e : DEntry} (h : cy s e = some c) : lh s e = (c, true) := by simp [lh, h]
theorem Am {s : List DMark} {e : DEntry} (h : cy s e = none) : lh s e = (s, false) := by simp [lh, h]
set_option maxHeartbeats 2000000 in
theorem jg (s : List DMark) (l : List DEntry) : ak av 212 [.one (.sl (s.map DMark.ds)), .one (.sl (l.map DEntry.ds))] (uY (aW s l)) := by
  cases hseen : bw s with
  | false =>
    have h' : (!bw s) = true := by simp [hseen]
    rw [AA hseen]
    refine ac ah Tryz.func212 rfl Tryz.call212 Tryz.ntmps212 (congrArg Array.toList Tryz.results212) fun S => ?_; conv => whnf
    repeat' (first | (refine aw0 ?_) | (refine awx ?_; conv => whnf) | fail | (refine aa.pure (cH s) rfl ?_; conv => whnf) | (refine ae.mk ⟨_, _, cH s, .inl rfl, ?_⟩; conv => whnf) | (exact rr) | (refine And.intro rfl ?_; conv => whnf) | (refine AB.mk (fun h => ?_) (fun h => ?_) <;> (conv => whnf)))
    all_goals rfl
  | true =>
    have h' : (!bw s) = false := by simp [hseen]
    have hs4 := d9 hseen
    refine ac ah Tryz.func212 rfl Tryz.call212 Tryz.ntmps212 (congrArg Array.toList Tryz.results212) fun S => ?_; conv => whnf
    repeat' (first | (refine aw0 ?_) | (refine awx ?_; conv => whnf) | fail | (refine aa.pure (cH s) rfl ?_; conv => whnf) | (refine ae.mk ⟨_, _, cH s, .inl rfl, ?_⟩; conv => whnf) | (refine aa.pure (fD s (by omega)) rfl ?_; conv => whnf) | (refine ae.mk ⟨_, _, fD s (by omega), .inl rfl, ?_⟩; conv => whnf) | (exact rr) | (refine And.intro rfl ?_; conv => whnf) | (refine AB.mk (fun h => ?_) (fun h => ?_) <;> (conv => whnf)))
    · rw [AE hseen ari]; rfl
    · have hl : ¬ 2000 < l.length := ari
      clear h
      refine AWP.loopS (fun p : Nat × List DMark => p.1 ≤ l.length ∧ bL s (l.take p.1) = some p.2) [4, 5, 6, 7, 8, 9, 21, 22, 23, 24, 25, 26, 27, 28, 29, 30, 31, 32, 33, 34, 35, 36, 37, 38, 39, 40] (fun p => [(6, .one (.d (.sl (p.2.map DMark.ds)))), (7, vI .i64 (p.1 : Int))]) (fun _ => []) (fun p => l.length - p.1) (0, s) ⟨by simp, rfl⟩ ?_ ai.nil (fun p hR => ?_) <;> (conv => whnf)
      · exact whd
      · obtain ⟨hk, hf⟩ := hR
        have hcur := jT hseen hf
        by_cases hlt : p.1 < l.length
        · have hlt' : decide ((p.1 : Int) < ((l.map DEntry.ds).length : Int)) = true := by simp; omega
          cases hm : cy p.2 l[p.1] with
          | none =>
            have hmk := Am hm
            have hM := xj p.2 l[p.1] hcur
            rw [hmk] at hM
            repeat' (first | (refine aw0 ?_) | (refine awx ?_; conv => whnf) | fail | (refine AIx.mapF ari (fun hlt => ?_); conv => whnf) | (refine AW.i64 ari ari ?_; conv => whnf) | (refine aa.pure (hM) rfl ?_; conv => whnf) | (refine ae.mk ⟨_, _, hM, .inl rfl, ?_⟩; conv => whnf) | (refine aa.pure (fD s (by omega)) rfl ?_; conv => whnf) | (refine ae.mk ⟨_, _, fD s (by omega), .inl rfl, ?_⟩; conv => whnf) | (exact rr) | (refine And.intro rfl ?_; conv => whnf) | (refine AB.mk (fun h => ?_) (fun h => ?_) <;> (conv => whnf)))
            rw [oV hseen hl (oF hlt hf hm)]; rfl
          | some c =>
            have hmk := Ao hm
            have hM := xj p.2 l[p.1] hcur
            rw [hmk] at hM
            repeat' (first | (refine aw0 ?_) | (refine awx ?_; conv => whnf) | fail | (refine AIx.mapF ari (fun hlt => ?_); conv => whnf) | (refine AW.i64 ari ari ?_; conv => whnf) | (refine aa.pure (hM) rfl ?_; conv => whnf) | (refine ae.mk ⟨_, _, hM, .inl rfl, ?_⟩; conv => whnf) | (refine aa.pure (fD s (by omega)) rfl ?_; conv => whnf) | (refine ae.mk ⟨_, _, fD s (by omega), .inl rfl, ?_⟩; conv => whnf) | (exact rr) | (refine And.intro rfl ?_; conv => whnf) | (refine AB.mk (fun h => ?_) (fun h => ?_) <;> (conv => whnf)))
            refine aF.mk ⟨(p.1 + 1, c), ⟨ari, by simp only [oG hlt hf, hm]⟩, ari, ?_, ai.nil⟩
            exact hds
        · have hlt' : decide ((p.1 : Int) < ((l.map DEntry.ds).length : Int)) = false := by simp; omega
          repeat' (first | (refine aw0 ?_) | (refine awx ?_; conv => whnf) | fail | (exact rr) | (refine And.intro rfl ?_; conv => whnf) | (refine AB.mk (fun h => ?_) (fun h => ?_) <;> (conv => whnf)))
          have hkk : p.1 = l.length := by omega
          rw [hkk, List.take_length] at hf
          rw [rH hseen hl hf]; rfl
theorem Bt (w : World) : (zeroValue 231).run Tryz.prog w = .ok (DMark.v ⟨0, 0, 0⟩) w := by kernel_rfl
theorem xd (m : DMark) (Z : Nat → Prop) (w : World) (ρ : Nat → Value) : bM Z w ρ (.agg (m.ds.map .d)) m.v := by
  have : m.v = .agg [.int .i64 m.client, .int .i64 m.seq, .int .i64 m.index].toArray := rfl
  rw [this]
  refine .agg _ _ rfl fun i c u hc hu => ?_
  match i, hc, hu with
  | 0, hc, hu => simp [DMark.ds] at hc hu; subst hc hu; exact bC.pv _ rfl
  | 1, hc, hu => simp [DMark.ds] at hc hu; subst hc hu; exact bC.pv _ rfl
  | 2, hc, hu => simp [DMark.ds] at hc hu; subst hc hu; exact bC.pv _ rfl
  | i + 3, hc, hu => simp [DMark.ds] at hc
theorem E6 (m : DMark) : ∀ (Z : Nat → Prop) (w : World) (ρ : Nat → Value) (y : Value), bM Z w ρ (.agg (m.ds.map .d)) y → y = m.v := fun Z w ρ y h => q5 rfl h
section
variable {S : bt} {o : Oper} {st : ASt} {K : ASt → Prop} {x i v : Operand} {id : Nat} {n : Int} {N : Nat} {s : List DMark}
theorem AOp.lookMark (ho : o.op = .lookup 344 x i false) (hx : aEv st x fun v => v = .one (.own id)) (hi : aEv st i fun v => v = vI .i64 n) (hob : aOb st.ob id fun o => o = eL Tryz.prog 2 N (em s)) (hn : (Lit.int .i64 n).wf = true)
    (hK : co st o.dst (.agg ((da s n).ds.map .d)) K) : AOp av S o st K :=
  AOp.look (E := av) ho Tryz.underlying344 Tryz.underlying2 Bt hx hi hob hn (.agg ((da s n).ds.map .d)) (fun Z w ρ => by rw [uN]; exact xd ..) hK
theorem AOp.lookMarkOk (ho : o.op = .lookup 344 x i true) (hx : aEv st x fun v => v = .one (.own id)) (hi : aEv st i fun v => v = vI .i64 n) (hob : aOb st.ob id fun o => o = eL Tryz.prog 2 N (em s)) (hn : (Lit.int .i64 n).wf = true)
    (hK : co st o.dst (.tup [.agg ((da s n).ds.map .d), vB (s.find? fun m => m.client == n).isSome]) K) : AOp av S o st K :=
  AOp.look (E := av) ho Tryz.underlying344 Tryz.underlying2 Bt hx hi hob hn (.agg ((da s n).ds.map .d)) (fun Z w ρ => by rw [uN]; exact xd ..) (show co st o.dst (.tup [.agg ((da s n).ds.map .d), vB (em s n).isSome]) K from (by simp only [em, Option.isSome_map]; exact hK))
theorem AOp.putMark {f : Int → Option Value} (m : DMark) (ho : o.op = .mapUpdate 344 x i v) (hN : N < 9223372036854775807) (hx : aEv st x fun v => v = .one (.own id)) (hi : aEv st i fun v => v = vI .i64 m.client) (hob : aOb st.ob id fun o => o = eL Tryz.prog 2 N f) (hn : (Lit.int .i64 m.client).wf = true)
    (hv : aEv st v fun v => v = .agg (m.ds.map .d)) {g : Int → Option Value} (hg : mS f m.client (some m.v) = g)
    (hK : dX id (eL Tryz.prog 2 (N + 1) g) st.ob fun ob => co ⟨st.tm, ob⟩ o.dst (.one .und) K) : AOp av S o st K := by
  subst hg
  refine AOp.mapPut (E := av) (u := m.v) ho Tryz.underlying344 Tryz.underlying2 hN hx hi hob hn ?_ hK
  exact (bV (st := st) v).mono (fun x (h : x = .agg (m.ds.map .d)) => by subst h; exact E6 m) hv
end
end Go.Proofs.YtcmknngafflcnaaGreat
namespace Go.Proofs.YtcmknngafflcnaaGreat
open Go.ChangeShapes Go.WideShapes Go.RowKit
theorem Eo {s : List DMark} (h : bw s = true) {k : Nat} (hk : k < s.length) : (Lit.int .i64 s[k].client).wf = true := by
  have := o3 h (List.getElem_mem hk)
  simp only [ct, aj, Bool.and_eq_true, decide_eq_true_eq] at this
  exact oI (by omega) (by omega)
theorem vQ {e : DEntry} (h : (!bW e) = false) : (Lit.int .i64 e.client).wf = true := by
  have := (ig (e := e) (by simpa using h)).1
  simp only [aj, Bool.and_eq_true, decide_eq_true_eq] at this
  exact oI (by omega) (by omega)
theorem Ap (s : List DMark) (e : DEntry) : mS (mS (em s) e.client none) e.mark.client (some e.mark.v) = em (putMark s e.mark) := Cm s e.mark
theorem E7 {s : List DMark} {e : DEntry} (h : bW e = false ∨ e.seq ≤ (da s e.client).seq ∨ e.index ≤ bi s) : cy s e = none := by
  refine uM ?_
  rcases h with h | h | h
  · simp [h]
  · have : iI s e = false := by simp [iI]; omega
    simp [this]
  · have : decide (bi s < e.index) = false := by simp; omega
    simp [this]
theorem HO {s : List DMark} {e : DEntry} (h : bW e = true) (h2 : ¬ e.seq ≤ (da s e.client).seq) (h3 : ¬ e.index ≤ bi s) : cy s e = some (putMark s e.mark) := by
  refine ss ?_
  have a : iI s e = true := by simp [iI]; omega
  have b : decide (bi s < e.index) = true := by simp; omega
  simp [h, a, b]
theorem wZ {s : List DMark} {e : DEntry} (h3 : ¬ e.index ≤ bi s) : bi (putMark s e.mark) = e.index := z6 (m := e.mark) (by simp [DEntry.mark]; omega)
set_option maxHeartbeats 4000000 in
theorem i3 (s : List DMark) (l : List DEntry) (hs : s.length ≤ 9223372036854775806) : ak av 293 [.one (.sl (s.map DMark.ds)), .one (.sl (l.map DEntry.ds))] (uY (aW s l)) := by
  cases hseen : bw s with
  | false =>
    have h' : (!bw s) = true := by simp [hseen]
    rw [AA hseen]
    refine ac ah Tryz.func293 rfl Tryz.call293 Tryz.ntmps293 (congrArg Array.toList Tryz.results293) fun S => ?_; conv => whnf
    repeat' (first | (refine aw0 ?_) | (refine awx ?_; conv => whnf) | fail | (refine aa.pure (ir s hs) rfl ?_; conv => whnf) | (refine ae.mk ⟨_, _, ir s hs, .inl rfl, ?_⟩; conv => whnf) | (exact rr) | (refine And.intro rfl ?_; conv => whnf) | (refine AB.mk (fun h => ?_) (fun h => ?_) <;> (conv => whnf)))
    all_goals rfl
  | true =>
    have h' : (!bw s) = false := by simp [hseen]
    have hs4 := d9 hseen
    refine ac ah Tryz.func293 rfl Tryz.call293 Tryz.ntmps293 (congrArg Array.toList Tryz.results293) fun S => ?_; conv => whnf
    repeat' (first | (refine aw0 ?_) | (refine awx ?_; conv => whnf) | fail | (refine aa.pure (ir s hs) rfl ?_; conv => whnf) | (refine ae.mk ⟨_, _, ir s hs, .inl rfl, ?_⟩; conv => whnf) | (refine aa.pure (i4 s (by omega)) rfl ?_; conv => whnf) | (refine ae.mk ⟨_, _, i4 s (by omega), .inl rfl, ?_⟩; conv => whnf) | (refine AOp.makeMap (E := av) 2 rfl rfl ?_; conv => whnf) | (exact rr) | (refine And.intro rfl ?_; conv => whnf) | (refine AB.mk (fun h => ?_) (fun h => ?_) <;> (conv => whnf)))
    · rw [AE hseen ari]; rfl
    · have hl : ¬ 2000 < l.length := ari
      clear h
      refine AWP.loopS (fun k : Nat => k ≤ s.length) [8, 27, 28, 29, 30, 31, 32, 33, 34, 35] (fun k => [(27, vI .i64 (k : Int))]) (fun k => [(24, eL Tryz.prog 2 k (em (s.take k)))]) (fun k => s.length - k) 0 (by omega) ?_ (ai.cons rfl ai.nil) (fun k hk => ?_) <;> (conv => whnf)
      · exact whd
      · repeat' (first | (refine aw0 ?_) | (refine awx ?_; conv => whnf) | fail | (refine AIx.mapF ari (fun hlt => ?_); conv => whnf) | (refine AW.i64 ari ari ?_; conv => whnf) | (refine AOp.putMark (id := 24) (N := k) (s[k]'ari) rfl (by omega) rfl rfl rfl (Eo hseen ari) rfl (Aq (jh hseen) ari) ?_; conv => whnf) | (refine aa.pure (i5 s (by omega)) rfl ?_; conv => whnf) | (refine ae.mk ⟨_, _, i5 s (by omega), .inl rfl, ?_⟩; conv => whnf) | (exact rr) | (refine And.intro rfl ?_; conv => whnf) | (refine AB.mk (fun h => ?_) (fun h => ?_) <;> (conv => whnf)))
        · refine aF.mk ⟨k + 1, hlt, by omega, ?_, ai.cons rfl ai.nil⟩
          exact hds
        · have hkk : k = s.length := ari
          subst hkk
          rw [List.take_length]
          clear h hk
          refine AWP.loopS (fun p : Nat × List DMark × Int => p.1 ≤ l.length ∧ bL s (l.take p.1) = some p.2.1 ∧ p.2.2 = bi p.2.1) [4, 5, 9, 11, 40, 41, 42, 43, 44, 45, 46, 47, 48, 49, 50, 51, 52, 53, 54, 55, 56, 57, 58, 59, 60, 61, 62, 63, 64, 65, 66, 67, 68, 69, 70, 71, 72, 73, 74, 75, 76, 77, 78, 79, 80] (fun p => [(9, vI .i64 p.2.2), (40, vI .i64 (p.1 : Int))]) (fun p => [(24, eL Tryz.prog 2 (s.length + p.1) (em p.2.1))]) (fun p => l.length - p.1) (0, s, bi s) ⟨by simp, rfl, rfl⟩ ?_ (ai.cons rfl ai.nil) (fun p hR => ?_) <;> (conv => whnf)
          · exact whd
          · obtain ⟨hk, hf, hla⟩ := hR
            have hcur := jT hseen hf
            repeat' (first | (refine aw0 ?_) | (refine awx ?_; conv => whnf) | fail | (refine AIx.mapF ari (fun hlt => ?_); conv => whnf) | (refine AW.i64 ari ari ?_; conv => whnf) | (refine aa.pure (gt _) rfl ?_; conv => whnf) | (refine ae.mk ⟨_, _, gt _, .inl rfl, ?_⟩; conv => whnf) | (refine aa.pure (i4 s (by omega)) rfl ?_; conv => whnf) | (refine ae.mk ⟨_, _, i4 s (by omega), .inl rfl, ?_⟩; conv => whnf) | (refine AOp.lookMark (id := 24) (N := s.length + p.1) (s := p.2.1) rfl rfl rfl rfl (vQ (by assumption)) ?_; conv => whnf) | (refine AOp.mapDel (E := av) (id := 24) (N := s.length + p.1) (f := em p.2.1) rfl rfl Tryz.underlying344 Tryz.underlying2 rfl rfl rfl (vQ (by assumption)) ?_; conv => whnf) | (refine AOp.putMark (id := 24) (N := s.length + p.1) (DEntry.mark (l[p.1]'ari)) rfl (by omega) rfl rfl rfl (vQ (by assumption)) rfl (Ap _ _) ?_; conv => whnf) | (exact rr) | (refine And.intro rfl ?_; conv => whnf) | (refine AB.mk (fun h => ?_) (fun h => ?_) <;> (conv => whnf)))
            all_goals first
              | (rw [oV hseen hl (oF ari hf (E7 (.inl (by simpa using h))))]; rfl)
              | (rw [oV hseen hl (oF ari hf (E7 (.inr (.inl (by simpa using h)))))]; rfl)
              | (rw [oV hseen hl (oF ari hf (E7 (.inr (.inr (by rw [← hla]; simpa using h)))))]; rfl)
              | (have hm := HO (s := p.2.1) (e := l[p.1]'ari) (by simp_all) (by simp_all) (by rw [← hla]; simp_all)
                 refine aF.mk ⟨(p.1 + 1, putMark p.2.1 (l[p.1]'ari).mark, (l[p.1]'ari).index), ⟨ari, by simp only [oG (l := l) (k := p.1) ari hf, hm], (wZ (by rw [← hla]; simp_all)).symm⟩, ari, ?_, ai.cons rfl ai.nil⟩
                 exact hds)
              | skip
            have hkk : p.1 = l.length := ari
            rw [hkk, List.take_length] at hf
            rw [rH hseen hl hf]
            have hlen := d9 hcur
            refine AWP.loopS (fun c : Int => 2 ≤ c ∧ c ≤ 6) (81 :: [12, 13, 14, 15, 82, 83, 84, 85, 86, 87, 88, 89, 90, 91, 92, 93, 94, 95, 96]) (fun c => [(12, .one (.own 81)), (13, vI .i64 c)]) (fun c => [(81, .row 231 3 ((p.2.1.filter fun x => decide (x.client < c)).map DMark.ds)), (24, eL Tryz.prog 2 (s.length + p.1) (em p.2.1))]) (fun c => (6 - c).toNat) 2 (by omega) ?_ (ai.cons (congrArg some (congrArg (AO.row 231 3) (by simp only [DM hcur, List.map_nil]))) (ai.cons rfl ai.nil)) (fun c hc => ?_) <;> (conv => whnf)
            · exact whd
            · have hfl : (p.2.1.filter fun x => decide (x.client < c)).length ≤ 4 := Nat.le_trans (List.length_filter_le ..) hlen
              have hsu := wM (c := c) (jh hcur)
              cases hfi : p.2.1.find? (fun x => x.client == c) with
              | none =>
                have hso : (p.2.1.find? (fun x => x.client == c)).isSome = false := by rw [hfi]; rfl
                rw [hfi] at hsu
                simp only [Option.toList_none, List.append_nil] at hsu
                repeat' (first | (refine aw0 ?_) | (refine awx ?_; conv => whnf) | fail | (refine AW.i64 ari ari ?_; conv => whnf) | (refine AOp.lookMarkOk (id := 24) (N := s.length + p.1) (s := p.2.1) rfl rfl rfl rfl (oI (by omega) (by omega)) ?_; conv => whnf) | (exact rr) | (refine And.intro rfl ?_; conv => whnf) | (refine AB.mk (fun h => ?_) (fun h => ?_) <;> (conv => whnf)))
                all_goals first
                  | (refine aF.mk ⟨c + 1, ⟨ari, ari⟩, ari, ?_, ai.cons (congrArg some (congrArg (AO.row 231 3) (by rw [hsu]))) (ai.cons rfl ai.nil)⟩
                     exact hds)
                  | (have h4 : c = 6 := ari
                     subst h4
                     have := zG hcur
                     simp only [uY, this])
              | some m =>
                have hso : (p.2.1.find? (fun x => x.client == c)).isSome = true := by rw [hfi]; rfl
                have hmo : da p.2.1 c = m := by unfold da; rw [hfi]; rfl
                rw [hfi] at hsu
                simp only [Option.toList_some] at hsu
                repeat' (first | (refine aw0 ?_) | (refine awx ?_; conv => whnf) | fail | (refine AW.i64 ari ari ?_; conv => whnf) | (refine AOp.lookMarkOk (id := 24) (N := s.length + p.1) (s := p.2.1) rfl rfl rfl rfl (oI (by omega) (by omega)) ?_; conv => whnf) | (refine br (fun x hx => by obtain ⟨y, _, rfl⟩ := List.mem_map.1 hx; rfl) ?_; conv => whnf) | (refine bx (by simp only [List.length_map, List.length_nil, List.length_append, List.length_cons] <;> omega) ?_; conv => whnf) | (exact rr) | (refine And.intro rfl ?_; conv => whnf) | (refine AB.mk (fun h => ?_) (fun h => ?_) <;> (conv => whnf)))
                all_goals first
                  | (refine aF.mk ⟨c + 1, ⟨ari, ari⟩, ari, ?_, ai.cons (congrArg some (congrArg (AO.row 231 3) (by rw [hsu, hmo, List.map_append]; rfl))) (ai.cons rfl ai.nil)⟩
                     exact hds)
                  | (have h4 : c = 6 := ari
                     subst h4
                     have := zG hcur
                     simp only [uY, this])
end Go.Proofs.YtcmknngafflcnaaGreat
