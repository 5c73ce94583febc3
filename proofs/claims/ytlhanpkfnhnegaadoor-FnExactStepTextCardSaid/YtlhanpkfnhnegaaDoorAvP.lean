/- Regions that draw their order: the rule for code. -/
import Derived.Test.YtlhanpkfnhnegaaDoorAvO
set_option linter.unusedVariables false
set_option linter.unusedSimpArgs false
set_option maxRecDepth 100000
namespace Go.Proofs.YtlhanpkfnhnegaaDoor
open Go.RowKit

def cntU (lf : Nat → Bool) : Nat → Nat
  | 0 => 0
  | n + 1 => cntU lf n + (if lf n then 0 else 1)
theorem cntU_lt {lf : Nat → Bool} {i : Nat} (hi : lf i = false) : ∀ {n : Nat}, cntU (fun j => lf j || Nat.beq j i) n ≤ cntU lf n ∧ (i < n → cntU (fun j => lf j || Nat.beq j i) n < cntU lf n)
  | 0 => ⟨Nat.le_refl _, fun h => absurd h (Nat.not_lt_zero _)⟩
  | n + 1 => by
    obtain ⟨h1, h2⟩ := cntU_lt hi (n := n)
    simp only [cntU]
    by_cases hin : n = i
    · subst hin
      have : Nat.beq n n = true := Nat.beq_refl n
      simp only [hi, this, Bool.or_true, if_true]
      exact ⟨by simp; omega, fun _ => by simp; omega⟩
    · have : Nat.beq n i = false := by
        cases h : Nat.beq n i with
        | false => rfl
        | true => exact absurd (Nat.eq_of_beq_eq_true h) hin
      simp only [this, Bool.or_false]
      exact ⟨by omega, fun h => by have := h2 (by omega); omega⟩
theorem cntU_ge {lf : Nat → Bool} {m : Nat} (h : ∀ j, m ≤ j → lf j = false) : ∀ {n : Nat}, n - m ≤ cntU lf n
  | 0 => by simp
  | n + 1 => by
    have ih := cntU_ge h (n := n)
    simp only [cntU]
    by_cases hn : m ≤ n
    · rw [h n hn]; simp; omega
    · omega
theorem cntU_zero {lf : Nat → Bool} : ∀ {n : Nat}, cntU lf n = 0 → ∀ j, j < n → lf j = true
  | 0, _, j, hj => absurd hj (Nat.not_lt_zero _)
  | n + 1, h, j, hj => by
    simp only [cntU] at h
    by_cases hjn : j = n
    · subst hjn
      cases hl : lf j with
      | true => rfl
      | false => rw [hl] at h; simp at h
    · exact cntU_zero (n := n) (by omega) j (by omega)

section
variable {E : AEnv} {S : Base} {ops : Array Oper} {n0 : Nat} {st0 : ASt} {R : List (AV × Option AO)} {K : ASt → Prop} {Q : Exit → Act → World → Prop}

theorem aftersOf_some {ops : List Oper} {i : Nat} {o : Oper} (h : ops[i]? = some o) : aftersOf ops i = o.after.toList.map (·.on) := by simp [aftersOf, h]

theorem fmCongr {α β : Type} {f g : α → Option β} : ∀ {l : List α}, (∀ j ∈ l, f j = g j) → l.filterMap f = l.filterMap g
  | [], _ => rfl
  | x :: r, h => by
    rw [List.filterMap_cons, List.filterMap_cons, h x (by simp), fmCongr fun j hj => h j (by simp [hj])]
theorem stS_congr {ops : List Oper} {R : List (AV × Option AO)} {n0 : Nat} {st0 : ASt} {l1 l2 : Nat → Bool} (h : ∀ j, j < n0 → l1 j = l2 j) : stS ops R n0 st0 l1 = stS ops R n0 st0 l2 := by
  have e1 : (List.range n0).filterMap (upS ops R l1) = (List.range n0).filterMap (upS ops R l2) := fmCongr fun j hj => by simp [upS, h j (List.mem_range.1 hj)]
  have e2 : (List.range n0).filterMap (obF ops R l1) = (List.range n0).filterMap (obF ops R l2) := fmCongr fun j hj => by simp [obF, h j (List.mem_range.1 hj)]
  simp only [stS, e1, e2]
/-- What the region's text alone bears. -/
structure DText (ops : List Oper) (D : List (List Nat)) (n0 : Nat) : Prop where
  hD : depsOf [] ops = D
  le : n0 ≤ ops.length
  nd : ((List.range n0).map (dAt ops)).Nodup
  edge : ∀ i o, ops[i]? = some o → ∀ e ∈ o.after.toList, Region.binds .any e = true ∧ e.on < i
  dst : ∀ i o, i < n0 → ops[i]? = some o → o.dst = some (dAt ops i)
  tail : ∀ i, n0 ≤ i → i < ops.length → ∀ j, j < i → inD D j i = true

theorem drawOK_text {ops : List Oper} {D : List (List Nat)} {n0 : Nat} (hD : depsOf [] ops = D) (h : drawOK ops D n0 = true) : DText ops D n0 := by
  simp only [drawOK, Bool.and_eq_true, List.all_eq_true] at h
  obtain ⟨⟨h1, h2⟩, h3⟩ := h
  have key : ∀ i o, ops[i]? = some o → _ := fun i o ho => by
    have hlt := (List.getElem?_eq_some_iff.1 ho).1
    have := h3 i (List.mem_range.2 hlt)
    rw [ho] at this
    simp only [Bool.and_eq_true, List.all_eq_true] at this
    exact this
  refine ⟨hD, Nat.le_of_ble_eq_true h1, nodupB_ok h2, fun i o ho e he => ?_, fun i o hi ho => ?_, fun i hi hlt j hj => ?_⟩
  · have := (key i o ho).1 e he
    exact ⟨this.1, Nat.le_of_ble_eq_true this.2⟩
  · have := (key i o ho).2
    rw [if_pos hi] at this
    obtain ⟨d, hd⟩ := Option.isSome_iff_exists.1 this
    rw [hd]
    simp [dAt, ho, hd]
  · have := (key i ops[i] (List.getElem?_eq_getElem hlt)).2
    rw [if_neg (by omega), List.all_eq_true] at this
    exact this j (List.mem_range.2 hj)

theorem deps_listed {ops : List Oper} {D : List (List Nat)} {n0 : Nat} (T : DText ops D n0) {lf : Nat → Bool} (hc : ∀ j, lf j = true → ∀ e ∈ aftersOf ops j, lf e = true) {i : Nat} (hi : ∀ e ∈ aftersOf ops i, lf e = true) {j : Nat} (hj : inD D j i = true) : lf j = true := by
  have := depsOf_closed ops (fun j => lf j = true) hc ops [] (fun k => by simp) (fun j hj => absurd hj (Nat.not_lt_zero _)) i hi j
  rw [T.hD] at this
  refine this ?_
  simpa [inD] using hj

def lfOf (listed : Array Bool) (j : Nat) : Bool := listed.getD j false
theorem lfOf_set {listed : Array Bool} {i : Nat} (hi : i < listed.size) : lfOf (listed.setIfInBounds i true) = fun j => lfOf listed j || Nat.beq j i := by
  funext j
  simp only [lfOf, Array.getD_eq_getD_getElem?, Array.getElem?_setIfInBounds]
  by_cases h : i = j
  · subst h
    simp [hi, Nat.beq_refl]
  · have : Nat.beq j i = false := by
      cases h' : Nat.beq j i with
      | false => rfl
      | true => exact absurd (Nat.eq_of_beq_eq_true h').symm h
    simp [h, this]
theorem ready_lf {D : List (List Nat)} (T : DText ops.toList D n0) {listed : Array Bool} (hs : listed.size = ops.size) {i : Nat} :
    i ∈ Region.ready .any ops listed ↔ i < ops.size ∧ lfOf listed i = false ∧ ∀ e ∈ aftersOf ops.toList i, lfOf listed e = true := by
  rw [mem_ready]
  constructor
  · rintro ⟨h1, o, ho, h2⟩
    have hlt := (Array.getElem?_eq_some_iff.1 ho).1
    refine ⟨hlt, ?_, fun e he => ?_⟩
    · simp only [lfOf, Array.getD_eq_getD_getElem?] at h1 ⊢
      rw [Array.getElem?_eq_getElem (by omega)] at h1 ⊢
      simpa using h1
    · rw [aftersOf_some (by simpa using ho)] at he
      obtain ⟨e', he', rfl⟩ := List.mem_map.1 he
      exact h2 e' (by simpa using he') (T.edge i o (by simpa using ho) e' he').1
  · rintro ⟨hlt, h1, h2⟩
    refine ⟨?_, ops[i], Array.getElem?_eq_getElem hlt, fun e he _ => ?_⟩
    · simp only [lfOf, Array.getD_eq_getD_getElem?] at h1 ⊢
      rw [Array.getElem?_eq_getElem (by omega)] at h1 ⊢
      simpa using h1
    · refine h2 _ ?_
      rw [aftersOf_some (o := ops[i]) (by simp [hlt])]
      exact List.mem_map.2 ⟨e, by simpa using he, rfl⟩

/-- The rest, each behind all before it. -/
theorem draw_tail (he : E.Ok) {D : List (List Nat)} (T : DText ops.toList D n0) (hQ : ∀ a w, (∃ st', SimX E.W S st' a w ∧ K st') → Q .normal a w) :
    ∀ (fuel m : Nat) (listed : Array Bool) (st : ASt) (a : Act) (w : World), listed.size = ops.size → n0 ≤ m → (∀ j, j < ops.size → lfOf listed j = decide (j < m)) → ops.size - m ≤ fuel → SimX E.W S st a w → arun E S ops.toList (ops.toList.drop m) st K → wpAny E.P .any ops Q fuel listed a w := by
  intro fuel
  induction fuel with
  | zero =>
    intro m listed st a w hs hm hl hf h hk
    rw [List.drop_eq_nil_of_le (by simp; omega)] at hk
    refine ⟨?_, hQ a w ⟨st, h, hk⟩⟩
    rw [List.eq_nil_iff_forall_not_mem]
    intro i hi
    obtain ⟨h1, h2, _⟩ := (ready_lf T hs).1 hi
    rw [hl i h1] at h2
    simp at h2
    omega
  | succ fuel ih =>
    intro m listed st a w hs hm hl hf h hk
    have hready : ∀ i, i ∈ Region.ready .any ops listed ↔ i = m ∧ m < ops.size := by
      intro i
      rw [ready_lf T hs]
      constructor
      · rintro ⟨h1, h2, h3⟩
        rw [hl i h1] at h2
        simp at h2
        have hc : ∀ j, lfOf listed j = true → ∀ e ∈ aftersOf ops.toList j, lfOf listed e = true := by
          intro j hj e hej
          by_cases hjs : j < ops.size
          · rw [hl j hjs] at hj
            rw [aftersOf_some (o := ops[j]) (by simp [hjs])] at hej
            obtain ⟨e', he', rfl⟩ := List.mem_map.1 hej
            have := (T.edge j ops[j] (by simp [hjs]) e' he').2
            rw [hl _ (by omega)]
            simp at hj ⊢
            omega
          · simp [lfOf, Array.getD_eq_getD_getElem?, Array.getElem?_eq_none (show listed.size ≤ j by omega)] at hj
        refine ⟨?_, by omega⟩
        apply Nat.le_antisymm _ h2
        apply Nat.le_of_not_lt
        intro hlt
        have := deps_listed T hc h3 (T.tail i (by omega) (by simpa using h1) m hlt)
        rw [hl m (by omega)] at this
        simp at this
      · rintro ⟨rfl, h1⟩
        refine ⟨h1, by rw [hl i h1]; simp, fun e hej => ?_⟩
        rw [aftersOf_some (o := ops[i]) (by simp [h1])] at hej
        obtain ⟨e', he', rfl⟩ := List.mem_map.1 hej
        have := (T.edge i ops[i] (by simp [h1]) e' he').2
        rw [hl _ (by omega)]
        simpa using this
    refine ⟨fun hnil => ?_, fun i hi => ?_⟩
    · have : ops.size ≤ m := by
        apply Nat.le_of_not_lt
        intro hlt
        have := (hready m).2 ⟨rfl, hlt⟩
        rw [hnil] at this
        cases this
      rw [List.drop_eq_nil_of_le (by simpa using this)] at hk
      exact hQ a w ⟨st, h, hk⟩
    · obtain ⟨rfl, hlt⟩ := (hready i).1 hi
      rw [List.drop_eq_getElem_cons (by simpa using hlt)] at hk
      unfold wpOp
      rw [Array.getElem?_eq_getElem hlt]
      have next : ∀ st' a' w', SimX E.W S st' a' w' → arun E S ops.toList (ops.toList.drop (i + 1)) st' K → wpAny E.P .any ops Q fuel (listed.setIfInBounds i true) a' w' := by
        intro st' a' w' h' hk'
        refine ih (i + 1) _ st' a' w' (by simpa using hs) (by omega) (fun j hj => ?_) (by omega) h' hk'
        rw [lfOf_set (by omega)]
        simp only []
        rw [hl j hj]
        by_cases hji : j = i
        · subst hji; simp [Nat.beq_refl]
        · have : Nat.beq j i = false := by
            cases h' : Nat.beq j i with
            | false => rfl
            | true => exact absurd (Nat.eq_of_beq_eq_true h') hji
          simp [this]
          omega
      obtain ⟨Z, ρ, h⟩ := h
      simp only [Array.getElem_toList] at hk
      rcases aGuard_get h hk with ⟨hw, st', hs', hk⟩ | ⟨hw, st', hs', hk⟩
      · simp only [Array.toArray_toList] at hw
        simp only [hw, if_true]
        refine .inl (Oper.wp_mono (fun a' w' h' => ?_) (aop_sound he hs' hk Q))
        obtain ⟨st2, h2, hk2⟩ := h'
        exact next st2 a' w' h2 hk2
      · simp only [Array.toArray_toList] at hw
        simp only [hw, Bool.false_eq_true, if_false]
        have := hs'.put ops[i].dst (x := .one .und) (v := undef) (.one _ _ (show RelC Z w ρ .und undef from rfl))
        exact next _ _ w ⟨Z, ρ, this⟩ (aDst_put hk)

/-- The free ones, in any order. -/
theorem draw_head (he : E.Ok) {D : List (List Nat)} (T : DText ops.toList D n0) (F : DFacts E S ops.toList D R n0 st0) (hQ : ∀ a w, (∃ st', SimX E.W S st' a w ∧ K st') → Q .normal a w)
    (ht : aAfter (ops.toList.take n0) R st0 fun st => arun E S ops.toList (ops.toList.drop n0) st K) :
    ∀ (fuel : Nat) (listed : Array Bool) (a : Act) (w : World), listed.size = ops.size → (∀ j, n0 ≤ j → lfOf listed j = false) → (∀ j, lfOf listed j = true → ∀ e ∈ aftersOf ops.toList j, lfOf listed e = true) → cntU (lfOf listed) ops.size ≤ fuel →
      SimX E.W S (stS ops.toList R n0 st0 (lfOf listed)) a w → wpAny E.P .any ops Q fuel listed a w := by
  intro fuel
  have hle : n0 ≤ ops.toList.length := T.le
  have hle' : n0 ≤ ops.size := by simpa using hle
  induction fuel with
  | zero =>
    intro listed a w hs htl hc hf h
    have hall := cntU_zero (Nat.le_zero.1 hf)
    have hn0 : ops.size ≤ n0 := by
      apply Nat.le_of_not_lt
      intro hlt
      have h1 := hall n0 hlt
      rw [htl n0 (Nat.le_refl _)] at h1
      cases h1
    refine ⟨?_, hQ a w ⟨_, h, ?_⟩⟩
    · rw [List.eq_nil_iff_forall_not_mem]
      intro i hi
      obtain ⟨h1, h2, _⟩ := (ready_lf T hs).1 hi
      rw [hall i h1] at h2
      cases h2
    · have := aAfter_get hle ht
      rw [List.drop_eq_nil_of_le (by simpa using hn0)] at this
      have e : stS ops.toList R n0 st0 (lfOf listed) = stS ops.toList R n0 st0 fun _ => true := stS_congr fun j hj => by rw [hall j (by omega)]
      rw [e]
      exact this
  | succ fuel ih =>
    intro listed a w hs htl hc hf h
    by_cases hall : ∀ j, j < n0 → lfOf listed j = true
    · have e : stS ops.toList R n0 st0 (lfOf listed) = stS ops.toList R n0 st0 fun _ => true := stS_congr fun j hj => by rw [hall j hj]
      rw [e] at h
      have h2 := cntU_ge htl (n := ops.size)
      refine draw_tail he T hQ (fuel + 1) n0 listed _ a w hs (Nat.le_refl _) (fun j hj => ?_) (by omega) h (aAfter_get hle ht)
      by_cases hj0 : j < n0
      · rw [hall j hj0]; simp [hj0]
      · rw [htl j (by omega)]; simp [hj0]
    · refine ⟨fun hnil => ?_, fun i hi => ?_⟩
      · exfalso
        apply hall
        intro j
        induction j using Nat.strongRecOn with
        | ind j ihj =>
          intro hj
          cases hlj : lfOf listed j with
          | true => rfl
          | false =>
            have : j ∈ Region.ready .any ops listed := (ready_lf T hs).2 ⟨by omega, hlj, fun e hej => by
              have hjs : j < ops.size := by omega
              rw [aftersOf_some (o := ops[j]) (by simp [hjs])] at hej
              obtain ⟨e', he', rfl⟩ := List.mem_map.1 hej
              have := (T.edge j ops[j] (by simp [hjs]) e' he').2
              exact ihj _ this (by omega)⟩
            rw [hnil] at this
            cases this
      · obtain ⟨hlt, hli, haf⟩ := (ready_lf T hs).1 hi
        have hi0 : i < n0 := by
          apply Nat.lt_of_not_le
          intro hge
          apply hall
          intro j hj
          exact deps_listed T hc haf (T.tail i hge (by simpa using hlt) j (by omega))
        have hDl : ∀ j, inD D j i = true → lfOf listed j = true := fun j hj => deps_listed T hc haf hj
        have hAl : ∀ j, j < n0 → inD D i j = true → lfOf listed j = false := fun j _ hj => by
          cases hlj : lfOf listed j with
          | false => rfl
          | true =>
            have := deps_listed T hc (hc j hlj) hj
            rw [hli] at this
            cases this
        have hget : ops.toList[i]? = some ops[i] := by simp [hlt]
        have hlen := hs
        have step := draw_step (Kont := wpAny E.P .any ops Q fuel (listed.setIfInBounds i true)) (Q := Q) F hi0 hget hli hDl hAl h fun a' w' h' => by
          have e := lfOf_set (listed := listed) (i := i) (by omega)
          refine ih _ a' w' (by simpa using hs) (fun j hj => ?_) (fun j hj e' hej => ?_) ?_ ?_
          · rw [e]
            simp only [htl j hj, Bool.false_or]
            cases hb : Nat.beq j i with
            | false => rfl
            | true => have := Nat.eq_of_beq_eq_true hb; omega
          · rw [e] at hj ⊢
            simp only [Bool.or_eq_true] at hj ⊢
            rcases hj with hj | hj
            · exact .inl (hc j hj e' hej)
            · rw [Nat.eq_of_beq_eq_true hj] at hej
              exact .inl (haf e' hej)
          · rw [e]
            have := (cntU_lt hli (n := ops.size)).2 hlt
            omega
          · rw [e]
            exact h'
        simp only [Array.toArray_toList] at step
        unfold wpOp
        rw [Array.getElem?_eq_getElem hlt]
        simp only
        split
        · rename_i hw; exact .inl (step.1 hw)
        · rename_i hw; exact step.2 (by simpa using hw)

theorem facts_of (he : E.Ok) {D : List (List Nat)} {ops : List Oper} (T : DText ops D n0) (hl : lenB ops n0 st0.tm.length = true) (hf : aFacts E D (ops.take n0) R st0 (ops.take n0) R 0) (hno : noB ops D R n0 st0 = true) : DFacts E S ops D R n0 st0 := by
  simp only [lenB, List.all_eq_true] at hl
  simp only [noB, List.all_eq_true] at hno
  have hno' : ∀ i, i < n0 → ∀ o, oAt R i = some o → _ := fun i hi o ho => by
    have := hno i (List.mem_range.2 hi)
    rw [ho] at this
    simp only [Bool.and_eq_true, List.all_eq_true] at this
    exact this
  refine ⟨T.le, T.nd, T.dst, fun j hj => Nat.le_of_ble_eq_true (hl j (List.mem_range.2 hj)), fun j hj hne => ?_, fun i hi hne => ?_, fun i j hi hj hne hd hji => ?_, fun i o hi ho => ?_⟩
  · obtain ⟨o, ho⟩ := Option.ne_none_iff_exists'.1 hne
    have := (hno' j hj o ho).1.1.1
    simpa using this
  · obtain ⟨o, ho⟩ := Option.ne_none_iff_exists'.1 hne
    have := hno' i hi o ho
    exact ⟨this.1.1.2, this.1.2⟩
  · obtain ⟨o, ho⟩ := Option.ne_none_iff_exists'.1 hne
    have := (hno' i hi o ho).2 j (List.mem_range.2 hj)
    simp only [hd, Bool.false_or, Bool.or_eq_true, Bool.and_eq_true] at this
    rcases this with this | ⟨h1, h2⟩
    · exact absurd (Nat.eq_of_beq_eq_true this) hji
    · refine ⟨h1, fun o' ho' => ?_⟩
      rw [ho'] at h2
      exact h2
  · have ho' : (ops.take n0)[i]? = some o := by simp [List.getElem?_take, hi, ho]
    obtain ⟨r, hr, hfact⟩ := aFacts_get hf i o ho'
    rw [Nat.zero_add] at hfact
    have hv : vAt R i = r.1 := by simp [vAt, List.getD, hr]
    have hoo : oAt R i = r.2 := by simp [oAt, List.getD, hr]
    have free : (aFrom D (ops.take n0) R i st0 fun P => afree E o P fun v oo => v = r.1 ∧ oo = r.2) → FreeOut E S o (stP ops D R n0 st0 i) (vAt R i) (oAt R i) := fun h => by
      rw [hv, hoo]
      exact freeOut_of he (aFrom_get T.le h)
    unfold aFact at hfact
    cases hg : o.guard with
    | none =>
      rw [hg] at hfact
      exact free hfact
    | some gw =>
      obtain ⟨g, want⟩ := gw
      rw [hg] at hfact
      obtain ⟨h1, h2, h3⟩ := hfact
      obtain ⟨rg, hrg, h3⟩ := aNth_get h3
      have hgn : g < n0 := by
        have h4 : g < (ops.take n0).length := Nat.le_of_ble_eq_true h2
        simp at h4
        omega
      refine ⟨hgn, h1, ?_⟩
      have hvg : vAt R g = rg.1 := by simp [vAt, List.getD, hrg]
      split at h3
      · rename_i p hp
        refine ⟨p, by rw [hvg, hp], ?_⟩
        cases p with
        | true =>
          have h := h3.t rfl
          cases want with
          | true => exact .inl ⟨rfl, free h⟩
          | false => exact .inr ⟨by simp, by rw [hv, show r = (.one .und, none) from h], by rw [hoo, show r = (.one .und, none) from h]⟩
        | false =>
          have h := h3.f rfl
          cases want with
          | false => exact .inl ⟨rfl, free h⟩
          | true => exact .inr ⟨by simp, by rw [hv, show r = (.one .und, none) from h], by rw [hoo, show r = (.one .und, none) from h]⟩
      · exact h3.elim

theorem AWP.draw (he : E.Ok) {K : Exit → ASt → Prop} {id : Nat} {st : ASt} (n0 : Nat) (D : List (List Nat)) (R : List (AV × Option AO)) (hD : depsOf [] ops.toList = D) (hok : drawOK ops.toList D n0 = true) (hl : lenB ops.toList n0 st.tm.length = true)
    (hf : aFacts E D (ops.toList.take n0) R st (ops.toList.take n0) R 0) (hno : noB ops.toList D R n0 st = true)
    (ht : aAfter (ops.toList.take n0) R st fun st => arun E S ops.toList (ops.toList.drop n0) st (K .normal)) : AWP E S (.region id ops true) K st := by
  have T := drawOK_text hD hok
  refine ⟨fun a w hs => wp_region_any he.mixed ?_⟩
  have hg : w.grownBy { w with drawn := w.drawn + 1 } none := ⟨rfl, rfl, rfl, Nat.le_refl _, fun b hb _ => rfl⟩
  refine draw_head (Q := fun e a' w' => ∃ st', SimX E.W S st' a' w' ∧ K e st') he T (facts_of he T hl hf hno) (fun a w h => h) ht ops.size (Array.replicate ops.size false) a _ (by simp) (fun j _ => ?_) (fun j hj => ?_) ?_ ?_
  · simp [lfOf, Array.getD_eq_getD_getElem?, Array.getElem?_replicate]
    split <;> rfl
  · exfalso
    simp [lfOf, Array.getD_eq_getD_getElem?, Array.getElem?_replicate] at hj
    split at hj <;> simp at hj
  · have : ∀ (lf : Nat → Bool) n, cntU lf n ≤ n := fun lf n => by
      induction n with
      | zero => exact Nat.le_refl _
      | succ n ih => simp only [cntU]; split <;> omega
    exact this _ _
  · obtain ⟨Z, ρ, hs⟩ := hs
    have e : stS ops.toList R n0 st (lfOf (Array.replicate ops.size false)) = st := by
      have e1 : ∀ j, lfOf (Array.replicate ops.size false) j = false := fun j => by
        simp [lfOf, Array.getD_eq_getD_getElem?, Array.getElem?_replicate]
        split <;> rfl
      have e2 : (List.range n0).filterMap (upS ops.toList R (lfOf (Array.replicate ops.size false))) = [] := by
        rw [List.filterMap_eq_nil_iff]; intro j _; simp [upS, e1]
      have e3 : (List.range n0).filterMap (obF ops.toList R (lfOf (Array.replicate ops.size false))) = [] := by
        rw [List.filterMap_eq_nil_iff]; intro j _; simp [obF, e1]
      simp [stS, e2, e3, setsL]
    rw [e]
    exact ⟨Z, ρ, hs.grow hg (fun _ h => h) fun _ h => .inl h⟩
end
end Go.Proofs.YtlhanpkfnhnegaaDoor
