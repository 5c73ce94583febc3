/- A drawn region in which one store into an own object may come before some of the other operations. -/
import Derived.Test.YthmckpghadfeeaaGreatAvVE
set_option linter.unusedVariables false
set_option linter.unusedSimpArgs false
set_option maxRecDepth 100000
namespace Go.Proofs.YthmckpghadfeeaaGreat
open Go.RowKit

theorem aSetO_mk {i : Nat} {o : AO} : ∀ {l : List (Nat × AO)} {K : List (Nat × AO) → Prop}, K (oset l i o) → aSetO i o l K
  | [], _, h => h
  | (k, x) :: r, K, h => by
    simp only [aSetO]
    unfold oset at h
    cases e : Nat.beq k i with
    | true => rw [if_pos (Nat.eq_of_beq_eq_true e)] at h; exact h
    | false => rw [if_neg (Nat.ne_of_beq_eq_false e)] at h; exact aSetO_mk (l := r) (K := fun r' => K ((k, x) :: r')) h
theorem aTm_mk {K : AV → Prop} : ∀ {l : List AV} {n : Nat} {x : AV}, l[n]? = some x → K x → aTm l n K
  | [], n, x, h, _ => by simp at h
  | y :: r, 0, x, h, hk => by simp at h; subst h; exact hk
  | y :: r, n + 1, x, h, hk => aTm_mk (l := r) (n := n) (by simpa using h) hk
theorem aStore_lift {E : AEnv} {tm : List AV} {ob : List (Nat × AO)} {t : TypeId} {c k s off : Nat} {vv : AV} {o0 o1 : AO} (hob : oget ob c = some o0) (h : aStore E ⟨[], [(c, o0)]⟩ t (.one (.ref c k s off)) vv fun st => st = ⟨[], [(c, o1)]⟩) :
    aStore E ⟨tm, ob⟩ t (.one (.ref c k s off)) vv fun st => st = ⟨tm, oset ob c o1⟩ := by
  have fin : ∀ X : AO, (aSetO c X [(c, o0)] fun ob => (⟨[], ob⟩ : ASt) = ⟨[], [(c, o1)]⟩) → aSetO c X ob fun ob' => (⟨tm, ob'⟩ : ASt) = ⟨tm, oset ob c o1⟩ := fun X hX => by
    have h1 := aSetO_get hX
    simp only [oset, if_true, ASt.mk.injEq, List.cons.injEq, Prod.mk.injEq, true_and, and_true] at h1
    subst h1
    exact aSetO_mk rfl
  unfold aStore at h ⊢
  refine (aTI_cps E.T t).mono (fun i h => (aCells_cps vv).mono (fun vs h => ?_) h) h
  cases hl : aLenIs vs i.size with
  | false => rw [hl] at h; exact h
  | true =>
    rw [hl] at h
    obtain ⟨o, ho, hk⟩ := aOb_get (l := [(c, o0)]) (i := c) h
    have : o = o0 := by simp only [oget, if_true, Option.some.injEq] at ho; exact ho.symm
    subst this
    refine aOb_mk hob ?_
    cases o with
    | cells u cs =>
      cases k with
      | zero => exact (aSplice_cps cs off vs).mono (fun cs' h => fin _ h) hk
      | succ k => exact hk
    | row e s' xs =>
      cases hs : Nat.beq s s' with
      | false => simp only [hs] at hk
      | true =>
        simp only [hs] at hk ⊢
        obtain ⟨k', x, e1, e2, hk⟩ := hk.h
        exact ⟨⟨k', x, e1, e2, (aMapD_cps x).mono (fun x h => (aSplice_cps x off vs).mono (fun x' h => (aToD_cps x').mono (fun x' h => fin _ h) h) h) hk⟩⟩
    | frame vs us => exact hk
    | any Q => exact hk

structure DTextF (ops : List Oper) (D : List (List Nat)) (m : Nat) : Prop where
  hD : depsOf [] ops = D
  lt : m < ops.length
  nd : ((List.range m).map (dAt ops)).Nodup
  edge : ∀ i o, ops[i]? = some o → ∀ x ∈ aftB o, x < i
  dst : ∀ i o, i < m → ops[i]? = some o → o.dst = some (dAt ops i)
  tail : ∀ i, m < i → i < ops.length → ∀ j, j < i → inD D j i = true
def drawOKF (ops : List Oper) (D : List (List Nat)) (m : Nat) : Bool :=
  Nat.blt m ops.length && nodupB ((List.range m).map (dAt ops)) &&
  (List.range ops.length).all fun i => match ops[i]? with
    | some o => ((aftB o).all fun x => Nat.blt x i) && (if i < m then o.dst.isSome else (if i = m then true else (List.range i).all fun j => inD D j i))
    | none => true
theorem drawOKF_text {ops : List Oper} {D : List (List Nat)} {m : Nat} (hD : depsOf [] ops = D) (h : drawOKF ops D m = true) : DTextF ops D m := by
  simp only [drawOKF, Bool.and_eq_true, List.all_eq_true] at h
  obtain ⟨⟨h1, h2⟩, h3⟩ := h
  have key : ∀ i o, ops[i]? = some o → _ := fun i o ho => by
    have hlt := (List.getElem?_eq_some_iff.1 ho).1
    have := h3 i (List.mem_range.2 hlt)
    rw [ho] at this
    simp only [Bool.and_eq_true, List.all_eq_true] at this
    exact this
  refine ⟨hD, Nat.le_of_ble_eq_true h1, nodupB_ok h2, fun i o ho e he => ?_, fun i o hi ho => ?_, fun i hi hlt j hj => ?_⟩
  · exact Nat.le_of_ble_eq_true ((key i o ho).1 e he)
  · have := (key i o ho).2
    rw [if_pos hi] at this
    obtain ⟨d, hd⟩ := Option.isSome_iff_exists.1 this
    rw [hd]
    simp [dAt, ho, hd]
  · have := (key i ops[i] (List.getElem?_eq_getElem hlt)).2
    rw [if_neg (by omega), if_neg (by omega), List.all_eq_true] at this
    exact this j (List.mem_range.2 hj)
theorem deps_listedF {ops : List Oper} {D : List (List Nat)} {m : Nat} (T : DTextF ops D m) {lf : Nat → Bool} (hc : ∀ j, lf j = true → ∀ e ∈ aftersOf ops j, lf e = true) {i : Nat} (hi : ∀ e ∈ aftersOf ops i, lf e = true) {j : Nat} (hj : inD D j i = true) : lf j = true := by
  have := depsOf_closed ops (fun j => lf j = true) hc ops [] (fun k => by simp) (fun j hj => absurd hj (Nat.not_lt_zero _)) i hi j
  rw [T.hD] at this
  refine this ?_
  simpa [inD] using hj
section
variable {E : AEnv} {S : Base} {ops : List Oper} {D : List (List Nat)} {R : List (AV × Option AO)} {n0 : Nat} {st0 st : ASt}
theorem DTextF.le {ops : List Oper} {D : List (List Nat)} {m : Nat} (T : DTextF ops D m) : m ≤ ops.length := Nat.le_of_lt T.lt
theorem base_ofF {D : List (List Nat)} {ops : List Oper} (T : DTextF ops D n0) (hl : lenB ops n0 st0.tm.length = true) (hno : noB ops D R n0 st0 = true) : DBase ops D R n0 st0 := by
  simp only [lenB, List.all_eq_true] at hl
  simp only [noB, List.all_eq_true] at hno
  have hno' : ∀ i, i < n0 → ∀ o, oAt R i = some o → _ := fun i hi o ho => by
    have := hno i (List.mem_range.2 hi)
    rw [ho] at this
    simp only [Bool.and_eq_true, List.all_eq_true] at this
    exact this
  refine ⟨T.le, T.nd, T.dst, fun j hj => Nat.le_of_ble_eq_true (hl j (List.mem_range.2 hj)), fun j hj hne => ?_, fun i hi hne => ?_, fun i j hi hj hne hd hji => ?_⟩
  · obtain ⟨o, ho⟩ := Option.ne_none_iff_exists'.1 hne
    have := (hno' j hj o ho).1.1.1
    simpa using this
  · obtain ⟨o, ho⟩ := Option.ne_none_iff_exists'.1 hne
    have := hno' i hi o ho
    exact ⟨this.1.1.2, this.1.2⟩
  · obtain ⟨o, ho⟩ := Option.ne_none_iff_exists'.1 hne
    have := (hno' i hi o ho).2 j (List.mem_range.2 hj)
    simp only [hd, Bool.false_or, Bool.or_eq_true, Bool.and_eq_true] at this
    rcases this with this | ⟨h1, h2⟩
    · exact absurd (Nat.eq_of_beq_eq_true this) hji
    · refine ⟨h1, fun o' ho' => ?_⟩
      rw [ho'] at h2
      exact h2
theorem out_ofF (he : E.Ok) {D : List (List Nat)} {ops : List Oper} (T : DTextF ops D n0) {i : Nat} {o : Oper} (hi : i < n0) {r : AV × Option AO} (hr : R[i]? = some r) (hfact : aFact E D (ops.take n0) R st0 i o r) : DOut E S D R n0 (stP ops D R n0 st0 i) i o := by
  have hv : vAt R i = r.1 := by simp [vAt, List.getD, hr]
  have hoo : oAt R i = r.2 := by simp [oAt, List.getD, hr]
  have free : (aFrom D (ops.take n0) R i st0 fun P => afree E o P fun v oo => v = r.1 ∧ oo = r.2) → FreeOut E S o (stP ops D R n0 st0 i) (vAt R i) (oAt R i) := fun h => by
    rw [hv, hoo]
    exact freeOut_of he (aFrom_get T.le h)
  unfold DOut
  unfold aFact at hfact
  cases hg : o.guard with
  | none =>
    rw [hg] at hfact
    exact free hfact
  | some gw =>
    obtain ⟨g, want⟩ := gw
    rw [hg] at hfact
    obtain ⟨h1, h2, h3⟩ := hfact
    obtain ⟨rg, hrg, h3⟩ := aNth_get h3
    have hgn : g < n0 := by
      have h4 : g < (ops.take n0).length := Nat.le_of_ble_eq_true h2
      simp at h4
      omega
    refine ⟨hgn, h1, ?_⟩
    have hvg : vAt R g = rg.1 := by simp [vAt, List.getD, hrg]
    split at h3
    · rename_i p hp
      refine .inl ⟨p, by rw [hvg, hp], ?_⟩
      cases p with
      | true =>
        have h := h3.t rfl
        cases want with
        | true => exact .inl ⟨rfl, free h⟩
        | false => exact .inr ⟨by simp, by rw [hv, show r = (.one .und, none) from h], by rw [hoo, show r = (.one .und, none) from h]⟩
      | false =>
        have h := h3.f rfl
        cases want with
        | false => exact .inl ⟨rfl, free h⟩
        | true => exact .inr ⟨by simp, by rw [hv, show r = (.one .und, none) from h], by rw [hoo, show r = (.one .und, none) from h]⟩
    · exact h3.elim
theorem inD_ltF (T : DTextF ops D n0) {i j : Nat} (hi : i < ops.length) (h : inD D j i = true) : j < i := by
  have := deps_listedF T (lf := fun j => decide (j < i)) (fun k hk e he => ?_) (i := i) (fun e he => ?_) h
  · simpa using this
  · have hki : k < i := by simpa using hk
    rw [aftersOf_some (List.getElem?_eq_getElem (by omega : k < ops.length))] at he
    have := T.edge k _ (List.getElem?_eq_getElem (by omega)) _ he
    simp; omega
  · rw [aftersOf_some (List.getElem?_eq_getElem hi)] at he
    have := T.edge i _ (List.getElem?_eq_getElem hi) _ he
    simpa using this
theorem DOut.keepF (T : DTextF ops D n0) {R : List (AV × Option AO)} {i k : Nat} {o : Oper} {x : AV × Option AO} (hi : i < k) (hil : i < ops.length) (h : DOut E S D R n0 (stP ops D R n0 st i) i o) : DOut E S D (R.set k x) n0 (stP ops D (R.set k x) n0 st i) i o := by
  have hlt : ∀ j, inD D j i = true → j ≠ k := fun j hj e => by have := inD_ltF T hil hj; omega
  have e : stP ops D (R.set k x) n0 st i = stP ops D R n0 st i := stP_same fun j hj => ⟨vAt_set (hlt j hj), oAt_set (hlt j hj)⟩
  have e1 : vAt (R.set k x) i = vAt R i := vAt_set (by omega)
  have e2 : oAt (R.set k x) i = oAt R i := oAt_set (by omega)
  unfold DOut at h ⊢
  rw [e, e1, e2]
  cases hg : o.guard with
  | none => rw [hg] at h; exact h
  | some gw =>
    obtain ⟨g, want⟩ := gw
    rw [hg] at h
    obtain ⟨h1, h2, h3⟩ := h
    refine ⟨h1, h2, ?_⟩
    rw [vAt_set (hlt g h2)]
    exact h3
theorem drawK_getF (he : E.Ok) (T : DTextF ops D n0) {K : List (AV × Option AO) → Prop} : ∀ (rest : List Oper) (i : Nat) (R : List (AV × Option AO)), (∀ k, (ops.take n0)[i + k]? = rest[k]?) → R.length = n0 →
    (∀ j o, j < i → ops[j]? = some o → DOut E S D R n0 (stP ops D R n0 st j) j o) → aDrawK E (ops.take n0) st rest ((List.range' i rest.length).map fun i => (List.range n0).map (flP D i)) i R K → ∃ RA, K RA ∧ ∀ j o, j < n0 → ops[j]? = some o → DOut E S D RA n0 (stP ops D RA n0 st j) j o
  | [], i, R, hr, hl, hf, h => by
    refine ⟨R, h, fun j o hj ho => hf j o ?_ ho⟩
    have := hr 0
    simp only [Nat.add_zero, List.getElem?_nil] at this
    have h2 := List.getElem?_eq_none_iff.1 this
    have := T.le
    simp at h2
    omega
  | o :: rest, i, R, hr, hl, hf, h => by
    have h0 := hr 0
    simp only [Nat.add_zero, List.getElem?_cons_zero] at h0
    have hi : i < n0 := by
      have := (List.getElem?_eq_some_iff.1 h0).1
      simp at this
      omega
    have hio : ops[i]? = some o := by
      rw [List.getElem?_take, if_pos hi] at h0
      exact h0
    have hil : i < ops.length := (List.getElem?_eq_some_iff.1 hio).1
    have hr' : ∀ k, (ops.take n0)[i + 1 + k]? = rest[k]? := fun k => by
      have := hr (k + 1)
      rw [show i + 1 + k = i + (k + 1) by omega]
      simpa using this
    have next : ∀ x : AV × Option AO, aDrawK E (ops.take n0) st rest ((List.range' (i + 1) rest.length).map fun i => (List.range n0).map (flP D i)) (i + 1) (R.set i x) K → DOut E S D (R.set i x) n0 (stP ops D (R.set i x) n0 st i) i o → ∃ RA, K RA ∧ ∀ j o, j < n0 → ops[j]? = some o → DOut E S D RA n0 (stP ops D RA n0 st j) j o := fun x hk hd =>
      drawK_getF he T rest (i + 1) (R.set i x) hr' (by simpa using hl) (fun j o' hj ho' => by
        rcases Nat.lt_succ_iff_lt_or_eq.1 hj with hj | hj
        · exact (hf j o' hj ho').keepF T hj (by omega)
        · subst hj
          rw [hio] at ho'
          injection ho' with ho'
          subst ho'
          exact hd) hk
    have eP : ∀ x : AV × Option AO, stP ops D (R.set i x) n0 st i = stP ops D R n0 st i := fun x => stP_same fun j hj => by
      have := inD_ltF T hil hj
      exact ⟨vAt_set (by omega), oAt_set (by omega)⟩
    have free : (aFromL ((List.range n0).map (flP D i)) (ops.take n0) R st fun P => afree E o P fun v oo => aSetN R i (v, oo) fun R => aDrawK E (ops.take n0) st rest ((List.range' (i + 1) rest.length).map fun i => (List.range n0).map (flP D i)) (i + 1) R K) → ∃ x : AV × Option AO, FreeOut E S o (stP ops D R n0 st i) x.1 x.2 ∧ aDrawK E (ops.take n0) st rest ((List.range' (i + 1) rest.length).map fun i => (List.range n0).map (flP D i)) (i + 1) (R.set i x) K := fun h => by
      have hlen : (ops.take n0).length = n0 := by have := T.le; simp; omega
      have h1 := aFrom_get T.le (aFromL_from (by rw [hlen]; exact h))
      obtain ⟨v, oo, h2, h3⟩ := afree_out he h1
      exact ⟨(v, oo), h2, aSetN_get h3⟩
    rw [List.length_cons, List.range'_succ, List.map_cons] at h
    unfold aDrawK at h
    cases hg : o.guard with
    | none =>
      rw [hg] at h
      obtain ⟨x, hx, hk⟩ := free h
      refine next x hk ?_
      unfold DOut
      rw [hg, eP, vAt_at (by omega), oAt_at (by omega)]
      exact hx
    | some gw =>
      obtain ⟨g, want⟩ := gw
      rw [hg] at h
      obtain ⟨f, hf1, h3⟩ := aNth_get h
      have hf0 : f = flP D i g := by
        rw [List.getElem?_map] at hf1
        obtain ⟨g', hg', rfl⟩ := Option.map_eq_some_iff.1 hf1
        have := List.getElem?_eq_some_iff.1 hg'
        obtain ⟨_, e⟩ := this
        simp at e
        rw [e]
      split at h3
      case h_2 => exact h3.elim
      have h1 : inD D g i = true := flP_one_iff hf0.symm
      obtain ⟨rg, hrg, h3⟩ := aNth_get h3
      have hgi := inD_ltF T hil h1
      have hvg : ∀ x : AV × Option AO, vAt (R.set i x) g = rg.1 := fun x => by
        rw [vAt_set (by omega)]
        unfold vAt
        rw [List.getD_eq_getElem?_getD, hrg]; rfl
      split at h3
      · rename_i p hp
        have run : (p = want) → (aFromL ((List.range n0).map (flP D i)) (ops.take n0) R st fun P => afree E o P fun v oo => aSetN R i (v, oo) fun R => aDrawK E (ops.take n0) st rest ((List.range' (i + 1) rest.length).map fun i => (List.range n0).map (flP D i)) (i + 1) R K) → ∃ RA, K RA ∧ ∀ j o, j < n0 → ops[j]? = some o → DOut E S D RA n0 (stP ops D RA n0 st j) j o := fun e h => by
          obtain ⟨x, hx, hk⟩ := free h
          refine next x hk ?_
          unfold DOut
          rw [hg, eP, vAt_at (by omega), oAt_at (by omega)]
          exact ⟨by omega, h1, .inl ⟨p, by rw [hvg, hp], .inl ⟨e, hx⟩⟩⟩
        have skip : (p ≠ want) → (aSetN R i (.one .und, none) fun R => aDrawK E (ops.take n0) st rest ((List.range' (i + 1) rest.length).map fun i => (List.range n0).map (flP D i)) (i + 1) R K) → ∃ RA, K RA ∧ ∀ j o, j < n0 → ops[j]? = some o → DOut E S D RA n0 (stP ops D RA n0 st j) j o := fun e h => by
          refine next (.one .und, none) (aSetN_get h) ?_
          unfold DOut
          rw [hg, eP, vAt_at (by omega), oAt_at (by omega)]
          exact ⟨by omega, h1, .inl ⟨p, by rw [hvg, hp], .inr ⟨e, rfl, rfl⟩⟩⟩
        cases p with
        | true =>
          have h := h3.t rfl
          cases want with
          | true => exact run rfl h
          | false => exact skip (by simp) h
        | false =>
          have h := h3.f rfl
          cases want with
          | true => exact skip (by simp) h
          | false => exact run rfl h
      · rename_i hp
        refine next (.one .und, none) (aSetN_get h3) ?_
        unfold DOut
        rw [hg, eP, vAt_at (by omega), oAt_at (by omega)]
        exact ⟨by omega, h1, .inr ⟨by rw [hvg, hp], rfl, rfl⟩⟩
      · exact h3.elim
end

/-- A store that may come before some of the free operations: what holds before it, what holds behind. -/
structure Flt (E : AEnv) (S : Base) (ops : List Oper) (D : List (List Nat)) (m : Nat) (R0 R1 : List (AV × Option AO)) (st0 st1 : ASt) : Prop where
  F0 : DFacts E S ops D R0 m st0
  B1 : DBase ops D R1 m st1
  out1 : ∀ i o, i < m → inD D i m = false → ops[i]? = some o → DOut E S D R1 m (stP ops D R1 m st1 i) i o
  step : ∀ o, ops[m]? = some o → o.guard = none ∧ ∀ l : Nat → Bool, (∀ j, inD D j m = true → l j = true) → ∀ a w, SimX E.W S (stS ops R0 m st0 l) a w → ∀ Q, Oper.wp E.P o a w (fun a' w' => SimX E.W S (stS ops R1 m st1 l) a' w') Q

section
variable {E : AEnv} {S : Base} {ops : Array Oper} {n0 : Nat} {st0 st1 : ASt} {R0 R1 : List (AV × Option AO)} {K : ASt → Prop} {Q : Exit → Act → World → Prop}
theorem ready_lfF {listed : Array Bool} (hs : listed.size = ops.size) {i : Nat} :
    i ∈ Region.ready .any ops listed ↔ i < ops.size ∧ lfOf listed i = false ∧ ∀ e ∈ aftersOf ops.toList i, lfOf listed e = true := by
  rw [mem_ready]
  constructor
  · rintro ⟨h1, o, ho, h2⟩
    have hlt := (Array.getElem?_eq_some_iff.1 ho).1
    refine ⟨hlt, ?_, fun e he => ?_⟩
    · simp only [lfOf, Array.getD_eq_getD_getElem?] at h1 ⊢
      rw [Array.getElem?_eq_getElem (by omega)] at h1 ⊢
      simpa using h1
    · rw [aftersOf_some (by simpa using ho)] at he
      obtain ⟨e', he', rfl⟩ := List.mem_map.1 he
      obtain ⟨hm, hb⟩ := List.mem_filter.1 he'
      exact h2 e' (by simpa using hm) hb
  · rintro ⟨hlt, h1, h2⟩
    refine ⟨?_, ops[i], Array.getElem?_eq_getElem hlt, fun e he hb => ?_⟩
    · simp only [lfOf, Array.getD_eq_getD_getElem?] at h1 ⊢
      rw [Array.getElem?_eq_getElem (by omega)] at h1 ⊢
      simpa using h1
    · refine h2 _ ?_
      rw [aftersOf_some (o := ops[i]) (by simp [hlt])]
      exact List.mem_map.2 ⟨e, List.mem_filter.2 ⟨by simpa using he, hb⟩, rfl⟩
theorem draw_tailF (he : E.Ok) {D : List (List Nat)} (T : DTextF ops.toList D n0) (hQ : ∀ a w, (∃ st', SimX E.W S st' a w ∧ K st') → Q .normal a w) :
    ∀ (fuel m : Nat) (listed : Array Bool) (st : ASt) (a : Act) (w : World), listed.size = ops.size → n0 < m → (∀ j, j < ops.size → lfOf listed j = decide (j < m)) → ops.size - m ≤ fuel → SimX E.W S st a w → arun E S ops.toList (ops.toList.drop m) st K → wpAny E.P .any ops Q fuel listed a w := by
  intro fuel
  induction fuel with
  | zero =>
    intro m listed st a w hs hm hl hf h hk
    rw [List.drop_eq_nil_of_le (by simp; omega)] at hk
    refine ⟨?_, hQ a w ⟨st, h, hk⟩⟩
    rw [List.eq_nil_iff_forall_not_mem]
    intro i hi
    obtain ⟨h1, h2, _⟩ := (ready_lfF hs).1 hi
    rw [hl i h1] at h2
    simp at h2
    omega
  | succ fuel ih =>
    intro m listed st a w hs hm hl hf h hk
    have hready : ∀ i, i ∈ Region.ready .any ops listed ↔ i = m ∧ m < ops.size := by
      intro i
      rw [ready_lfF hs]
      constructor
      · rintro ⟨h1, h2, h3⟩
        rw [hl i h1] at h2
        simp at h2
        have hc : ∀ j, lfOf listed j = true → ∀ e ∈ aftersOf ops.toList j, lfOf listed e = true := by
          intro j hj e hej
          by_cases hjs : j < ops.size
          · rw [hl j hjs] at hj
            rw [aftersOf_some (o := ops[j]) (by simp [hjs])] at hej
            have := T.edge j ops[j] (by simp [hjs]) _ hej
            rw [hl _ (by omega)]
            simp at hj ⊢
            omega
          · simp [lfOf, Array.getD_eq_getD_getElem?, Array.getElem?_eq_none (show listed.size ≤ j by omega)] at hj
        refine ⟨?_, by omega⟩
        apply Nat.le_antisymm _ h2
        apply Nat.le_of_not_lt
        intro hlt
        have := deps_listedF T hc h3 (T.tail i (by omega) (by simpa using h1) m hlt)
        rw [hl m (by omega)] at this
        simp at this
      · rintro ⟨rfl, h1⟩
        refine ⟨h1, by rw [hl i h1]; simp, fun e hej => ?_⟩
        rw [aftersOf_some (o := ops[i]) (by simp [h1])] at hej
        have := T.edge i ops[i] (by simp [h1]) _ hej
        rw [hl _ (by omega)]
        simpa using this
    refine ⟨fun hnil => ?_, fun i hi => ?_⟩
    · have : ops.size ≤ m := by
        apply Nat.le_of_not_lt
        intro hlt
        have := (hready m).2 ⟨rfl, hlt⟩
        rw [hnil] at this
        cases this
      rw [List.drop_eq_nil_of_le (by simpa using this)] at hk
      exact hQ a w ⟨st, h, hk⟩
    · obtain ⟨rfl, hlt⟩ := (hready i).1 hi
      rw [List.drop_eq_getElem_cons (by simpa using hlt)] at hk
      unfold wpOp
      rw [Array.getElem?_eq_getElem hlt]
      have next : ∀ st' a' w', SimX E.W S st' a' w' → arun E S ops.toList (ops.toList.drop (i + 1)) st' K → wpAny E.P .any ops Q fuel (listed.setIfInBounds i true) a' w' := by
        intro st' a' w' h' hk'
        refine ih (i + 1) _ st' a' w' (by simpa using hs) (by omega) (fun j hj => ?_) (by omega) h' hk'
        rw [lfOf_set (by omega)]
        simp only []
        rw [hl j hj]
        by_cases hji : j = i
        · subst hji; simp [Nat.beq_refl]
        · have : Nat.beq j i = false := by
            cases h' : Nat.beq j i with
            | false => rfl
            | true => exact absurd (Nat.eq_of_beq_eq_true h') hji
          simp [this]
          omega
      obtain ⟨Z, ρ, h⟩ := h
      simp only [Array.getElem_toList] at hk
      rcases aGuard_get h hk with ⟨hw, st', hs', hk⟩ | ⟨hw, st', hs', hk⟩
      · simp only [Array.toArray_toList] at hw
        simp only [hw, if_true]
        refine .inl (Oper.wp_mono (fun a' w' h' => ?_) (aop_sound he hs' hk Q))
        obtain ⟨st2, h2, hk2⟩ := h'
        exact next st2 a' w' h2 hk2
      · simp only [Array.toArray_toList] at hw
        simp only [hw, Bool.false_eq_true, if_false]
        have := hs'.put ops[i].dst (x := .one .und) (v := undef) (.one _ _ (show RelC Z w ρ .und undef from rfl))
        exact next _ _ w ⟨Z, ρ, this⟩ (aDst_put hk)
theorem draw_headF (he : E.Ok) {D : List (List Nat)} {m : Nat} (T : DTextF ops.toList D m) (F : Flt E S ops.toList D m R0 R1 st0 st1) (hQ : ∀ a w, (∃ st', SimX E.W S st' a w ∧ K st') → Q .normal a w)
    (ht : aAfter (ops.toList.take m) R1 st1 fun st => arun E S ops.toList (ops.toList.drop (m + 1)) st K) :
    ∀ (fuel : Nat) (listed : Array Bool) (a : Act) (w : World), listed.size = ops.size → (∀ j, m < j → lfOf listed j = false) → (∀ j, lfOf listed j = true → ∀ e ∈ aftersOf ops.toList j, lfOf listed e = true) → cntU (lfOf listed) ops.size ≤ fuel →
      (lfOf listed m = false → SimX E.W S (stS ops.toList R0 m st0 (lfOf listed)) a w) → (lfOf listed m = true → SimX E.W S (stS ops.toList R1 m st1 (lfOf listed)) a w) → wpAny E.P .any ops Q fuel listed a w := by
  intro fuel
  have hle : m ≤ ops.toList.length := T.le
  have hlt0 : m < ops.toList.length := T.lt
  have hle' : m < ops.size := by simpa using hlt0
  induction fuel with
  | zero =>
    intro listed a w hs htl hc hf h0 h1
    have hall := cntU_zero (Nat.le_zero.1 hf)
    have h := h1 (hall m hle')
    have hn0 : ops.size ≤ m + 1 := by
      apply Nat.le_of_not_lt
      intro hlt
      have h1 := hall (m + 1) hlt
      rw [htl (m + 1) (by omega)] at h1
      cases h1
    refine ⟨?_, hQ a w ⟨_, h, ?_⟩⟩
    · rw [List.eq_nil_iff_forall_not_mem]
      intro i hi
      obtain ⟨h1, h2, _⟩ := (ready_lfF hs).1 hi
      rw [hall i h1] at h2
      cases h2
    · have := aAfter_get hle ht
      rw [List.drop_eq_nil_of_le (by simpa using hn0)] at this
      have e : stS ops.toList R1 m st1 (lfOf listed) = stS ops.toList R1 m st1 fun _ => true := stS_congr fun j hj => by rw [hall j (by omega)]
      rw [e]
      exact this
  | succ fuel ih =>
    intro listed a w hs htl hc hf h0 h1
    by_cases hall : ∀ j, j < m + 1 → lfOf listed j = true
    · have h := h1 (hall m (by omega))
      have e : stS ops.toList R1 m st1 (lfOf listed) = stS ops.toList R1 m st1 fun _ => true := stS_congr fun j hj => by rw [hall j (by omega)]
      rw [e] at h
      have h2 := cntU_ge (m := m + 1) (fun j hj => htl j (by omega)) (n := ops.size)
      refine draw_tailF he T hQ (fuel + 1) (m + 1) listed _ a w hs (by omega) (fun j hj => ?_) (by omega) h (aAfter_get hle ht)
      by_cases hj0 : j < m + 1
      · rw [hall j hj0]; simp [hj0]
      · rw [htl j (by omega)]; simp [hj0]
    · refine ⟨fun hnil => ?_, fun i hi => ?_⟩
      · exfalso
        apply hall
        intro j
        induction j using Nat.strongRecOn with
        | ind j ihj =>
          intro hj
          cases hlj : lfOf listed j with
          | true => rfl
          | false =>
            have : j ∈ Region.ready .any ops listed := (ready_lfF hs).2 ⟨by omega, hlj, fun e hej => by
              have hjs : j < ops.size := by omega
              rw [aftersOf_some (o := ops[j]) (by simp [hjs])] at hej
              have := T.edge j ops[j] (by simp [hjs]) _ hej
              exact ihj _ this (by omega)⟩
            rw [hnil] at this
            cases this
      · obtain ⟨hlt, hli, haf⟩ := (ready_lfF hs).1 hi
        have hi0 : i ≤ m := by
          apply Nat.le_of_not_lt
          intro hge
          apply hall
          intro j hj
          exact deps_listedF T hc haf (T.tail i hge (by simpa using hlt) j (by omega))
        have hDl : ∀ j, inD D j i = true → lfOf listed j = true := fun j hj => deps_listedF T hc haf hj
        have hAl : ∀ j, j < m → inD D i j = true → lfOf listed j = false := fun j _ hj => by
          cases hlj : lfOf listed j with
          | false => rfl
          | true =>
            have := deps_listedF T hc (hc j hlj) hj
            rw [hli] at this
            cases this
        have hget : ops.toList[i]? = some ops[i] := by simp [hlt]
        have elf := lfOf_set (listed := listed) (i := i) (by omega)
        have next : ∀ a' w', (lfOf listed m = false → i ≠ m → SimX E.W S (stS ops.toList R0 m st0 fun j => lfOf listed j || Nat.beq j i) a' w') → (lfOf listed m = true ∨ i = m → SimX E.W S (stS ops.toList R1 m st1 fun j => lfOf listed j || Nat.beq j i) a' w') → wpAny E.P .any ops Q fuel (listed.setIfInBounds i true) a' w' := fun a' w' h0' h1' => by
          have bim : Nat.beq m i = true ↔ i = m := ⟨fun e => (Nat.eq_of_beq_eq_true e).symm, fun e => by rw [e]; exact Nat.beq_refl m⟩
          refine ih _ a' w' (by simpa using hs) (fun j hj => ?_) (fun j hj e' hej => ?_) ?_ (fun hm => ?_) (fun hm => ?_)
          · rw [elf]
            simp only [htl j hj, Bool.false_or]
            cases hb : Nat.beq j i with
            | false => rfl
            | true => have := Nat.eq_of_beq_eq_true hb; omega
          · rw [elf] at hj ⊢
            simp only [Bool.or_eq_true] at hj ⊢
            rcases hj with hj | hj
            · exact .inl (hc j hj e' hej)
            · rw [Nat.eq_of_beq_eq_true hj] at hej
              exact .inl (haf e' hej)
          · rw [elf]
            have := (cntU_lt hli (n := ops.size)).2 hlt
            omega
          · rw [elf] at hm ⊢
            simp only [Bool.or_eq_false_iff] at hm
            exact h0' hm.1 (fun e => by rw [bim.2 e] at hm; exact absurd hm.2 (by simp))
          · rw [elf] at hm ⊢
            simp only [Bool.or_eq_true] at hm
            exact h1' (hm.imp_right bim.1)
        by_cases him : i = m
        · subst him
          obtain ⟨hgu, hst⟩ := F.step ops[i] hget
          unfold wpOp
          rw [Array.getElem?_eq_getElem hlt]
          simp only
          have hw : Region.wanted ops[i] (yielded ops a.tmps) = true := by simp [Region.wanted, hgu]
          rw [if_pos hw]
          refine .inl (Oper.wp_mono (fun a' w' h' => ?_) (hst (lfOf listed) hDl a w (h0 hli) Q))
          refine next a' w' (fun _ hne => absurd rfl hne) fun _ => ?_
          have e : stS ops.toList R1 i st1 (fun j => lfOf listed j || Nat.beq j i) = stS ops.toList R1 i st1 (lfOf listed) := stS_congr fun j hj => by
            have : Nat.beq j i = false := by
              cases hb : Nat.beq j i with
              | false => rfl
              | true => have := Nat.eq_of_beq_eq_true hb; omega
            rw [this, Bool.or_false]
          rw [e]
          exact h'
        · have hi1 : i < m := by omega
          cases hlm : lfOf listed m with
          | false =>
            have step := draw_step (Kont := wpAny E.P .any ops Q fuel (listed.setIfInBounds i true)) (Q := Q) F.F0 hi1 hget hli hDl hAl (h0 hlm) fun a' w' h' => next a' w' (fun _ _ => h') fun hm => by
              rcases hm with hm | hm
              · rw [hlm] at hm; cases hm
              · exact absurd hm him
            simp only [Array.toArray_toList] at step
            unfold wpOp
            rw [Array.getElem?_eq_getElem hlt]
            simp only
            split
            · rename_i hw; exact .inl (step.1 hw)
            · rename_i hw; exact step.2 (by simpa using hw)
          | true =>
            have hnm : inD D i m = false := by
              cases hx : inD D i m with
              | false => rfl
              | true =>
                have := deps_listedF T hc (hc m hlm) hx
                rw [hli] at this
                cases this
            have step := draw_stepP (Kont := wpAny E.P .any ops Q fuel (listed.setIfInBounds i true)) (Q := Q) F.B1 hi1 hget hli hDl hAl (stP_sub (D := D) F.B1.nd F.B1.len F.B1.ob hli (fun j _ h => hDl j h) hAl) (F.out1 i _ hi1 hnm hget) (h1 hlm) fun a' w' h' => next a' w' (fun hm => by rw [hlm] at hm; cases hm) fun _ => h'
            simp only [Array.toArray_toList] at step
            unfold wpOp
            rw [Array.getElem?_eq_getElem hlt]
            simp only
            split
            · rename_i hw; exact .inl (step.1 hw)
            · rename_i hw; exact step.2 (by simpa using hw)
theorem AWP.drawFlt (he : E.Ok) {K : Exit → ASt → Prop} {id m : Nat} {D : List (List Nat)} (T : DTextF ops.toList D m) (F : Flt E S ops.toList D m R0 R1 st0 st1)
    (ht : aAfter (ops.toList.take m) R1 st1 fun st => arun E S ops.toList (ops.toList.drop (m + 1)) st (K .normal)) : AWP E S (.region id ops true) K st0 := by
  refine ⟨fun a w hs => wp_region_any he.mixed ?_⟩
  have hg : w.grownBy { w with drawn := w.drawn + 1 } none := ⟨rfl, rfl, rfl, Nat.le_refl _, fun b hb _ => rfl⟩
  have e1 : ∀ j, lfOf (Array.replicate ops.size false) j = false := fun j => by
    simp [lfOf, Array.getD_eq_getD_getElem?, Array.getElem?_replicate]
    split <;> rfl
  refine draw_headF (Q := fun e a' w' => ∃ st', SimX E.W S st' a' w' ∧ K e st') he T F (fun a w h => h) ht ops.size (Array.replicate ops.size false) a _ (by simp) (fun j _ => e1 j) (fun j hj => ?_) ?_ (fun _ => ?_) (fun hm => ?_)
  · rw [e1] at hj; cases hj
  · have : ∀ (lf : Nat → Bool) n, cntU lf n ≤ n := fun lf n => by
      induction n with
      | zero => exact Nat.le_refl _
      | succ n ih => simp only [cntU]; split <;> omega
    exact this _ _
  · obtain ⟨Z, ρ, hs⟩ := hs
    have e : stS ops.toList R0 m st0 (lfOf (Array.replicate ops.size false)) = st0 := by
      have e2 : (List.range m).filterMap (upS ops.toList R0 (lfOf (Array.replicate ops.size false))) = [] := by
        rw [List.filterMap_eq_nil_iff]; intro j _; simp [upS, e1]
      have e3 : (List.range m).filterMap (obF ops.toList R0 (lfOf (Array.replicate ops.size false))) = [] := by
        rw [List.filterMap_eq_nil_iff]; intro j _; simp [obF, e1]
      simp [stS, e2, e3, setsL]
    rw [e]
    exact ⟨Z, ρ, hs.grow hg (fun _ h => h) fun _ h => .inl h⟩
  · rw [e1] at hm; cases hm
end

def aFactsL (E : AEnv) (D : List (List Nat)) (pre : List Oper) (R : List (AV × Option AO)) (st : ASt) (m : Nat) : List Oper → List (AV × Option AO) → Nat → Prop
  | [], [], _ => True
  | o :: ops, r :: rs, i => (match inD D i m with
    | true => True
    | false => aFact E D pre R st i o r) ∧ aFactsL E D pre R st m ops rs (i + 1)
  | _, _, _ => False
theorem aFactsL_get {E : AEnv} {D : List (List Nat)} {pre : List Oper} {R : List (AV × Option AO)} {st : ASt} {m : Nat} : ∀ {ops : List Oper} {rs : List (AV × Option AO)} {i : Nat}, aFactsL E D pre R st m ops rs i → ∀ k o, ops[k]? = some o → inD D (i + k) m = false → ∃ r, rs[k]? = some r ∧ aFact E D pre R st (i + k) o r
  | [], _, _, _, k, o, h, _ => by simp at h
  | o' :: ops, [], _, h, k, o, _, _ => h.elim
  | o' :: ops, r :: rs, i, h, k, o, ho, hn => by
    cases k with
    | zero =>
      simp at ho
      subst ho
      have h1 := h.1
      rw [show i + 0 = i from rfl] at hn
      rw [hn] at h1
      exact ⟨r, rfl, h1⟩
    | succ k =>
      obtain ⟨r', h1, h2⟩ := aFactsL_get h.2 k o (by simpa using ho) (by rwa [show i + 1 + k = i + (k + 1) by omega])
      exact ⟨r', by simpa using h1, by rwa [show i + (k + 1) = i + 1 + k by omega]⟩
section
variable {E : AEnv} {S : Base} {ops : List Oper} {D : List (List Nat)} {R0 R1 : List (AV × Option AO)} {m : Nat} {st0 st1 : ASt}
theorem stS_tm (hv : ∀ j, j < m → vAt R1 j = vAt R0 j) (ht : st1.tm = st0.tm) (l : Nat → Bool) : (stS ops R1 m st1 l).tm = (stS ops R0 m st0 l).tm := by
  have e : (List.range m).filterMap (upS ops R1 l) = (List.range m).filterMap (upS ops R0 l) := fmCongr fun j hj => by simp only [upS, hv j (List.mem_range.1 hj)]
  show setsL st1.tm ((List.range m).filterMap (upS ops R1 l)) = setsL st0.tm ((List.range m).filterMap (upS ops R0 l))
  rw [e, ht]
theorem flt_of (he : E.Ok) (T : DTextF ops D m) (F0 : DFacts E S ops D R0 m st0) (B1 : DBase ops D R1 m st1) {t : TypeId} {jx jv dx dv c k s off : Nat} {o0 o1 : AO}
    (hop : ∃ o, ops[m]? = some o ∧ o.op = .store t (.tmp dx) (.tmp dv) ∧ o.dst = none ∧ o.guard = none) (hdx : dAt ops jx = dx) (hdv : dAt ops jv = dv) (hjx : inD D jx m = true) (hjv : inD D jv m = true)
    (hv : ∀ j, j < m → vAt R1 j = vAt R0 j) (ht : st1.tm = st0.tm) (hvx : vAt R0 jx = .one (.ref c k s off)) (hst : aStore E ⟨[], [(c, o0)]⟩ t (.one (.ref c k s off)) (vAt R0 jv) fun st => st = ⟨[], [(c, o1)]⟩)
    (hget : ∀ l : Nat → Bool, (∀ j, inD D j m = true → l j = true) → oget (stS ops R0 m st0 l).ob c = some o0)
    (hsub : ∀ l : Nat → Bool, (∀ j, inD D j m = true → l j = true) → SubO (oset (stS ops R0 m st0 l).ob c o1) (stS ops R1 m st1 l).ob)
    (hl : R1.length = m) (hf : aFactsL E D (ops.take m) R1 st1 m (ops.take m) R1 0) : Flt E S ops D m R0 R1 st0 st1 := by
  refine ⟨F0, B1, fun i o hi hn ho => ?_, fun o ho => ?_⟩
  · obtain ⟨r, hr, hfact⟩ := aFactsL_get hf i o (by rw [List.getElem?_take, if_pos hi]; exact ho) (by rwa [Nat.zero_add])
    rw [Nat.zero_add] at hfact
    exact out_ofF he T hi hr hfact
  · obtain ⟨o', ho', hstore, hdst, hgu⟩ := hop
    rw [ho] at ho'
    injection ho' with ho'
    subst ho'
    refine ⟨hgu, fun l hlD a w hs Q => ?_⟩
    obtain ⟨Z, ρ, hs⟩ := hs
    have hjx' : jx < m := inD_ltF T T.lt hjx
    have hjv' : jv < m := inD_ltF T T.lt hjv
    have g := good_store (K := fun st => st = ⟨(stS ops R0 m st0 l).tm, oset (stS ops R0 m st0 l).ob c o1⟩) he hs hstore (by
      refine aTm_mk (x := vAt R0 jx) (by rw [← hdx]; exact stS_at F0.nd hjx' (hlD jx hjx) (F0.len jx hjx')) ?_
      refine aTm_mk (x := vAt R0 jv) (by rw [← hdv]; exact stS_at F0.nd hjv' (hlD jv hjv) (F0.len jv hjv')) ?_
      rw [hvx, hdst]
      exact aStore_lift (hget l hlD) hst)
    refine Oper.wp_mono (fun a' w' h' => ?_) (g Q)
    obtain ⟨st', h1, h2⟩ := h'
    subst h2
    refine h1.sub ?_ (hsub l hlD)
    rw [stS_tm hv ht]
    exact SubL.of_get rfl fun s x y hx hy => by
      rw [hx] at hy
      injection hy with hy
      rw [hy]
      exact .refl _
/-- The object is there before. -/
theorem flt_old (he : E.Ok) (T : DTextF ops D m) (F0 : DFacts E S ops D R0 m st0) (hlm : lenB ops m st0.tm.length = true) {t : TypeId} {jx jv dx dv c k s off : Nat} {o0 o1 : AO}
    (hop : ∃ o, ops[m]? = some o ∧ o.op = .store t (.tmp dx) (.tmp dv) ∧ o.dst = none ∧ o.guard = none) (hdx : dAt ops jx = dx) (hdv : dAt ops jv = dv) (hjx : inD D jx m = true) (hjv : inD D jv m = true)
    (hvx : vAt R0 jx = .one (.ref c k s off)) (hc : oget st0.ob c = some o0) (hst : aStore E ⟨[], [(c, o0)]⟩ t (.one (.ref c k s off)) (vAt R0 jv) fun st => st = ⟨[], [(c, o1)]⟩)
    (hno : noB ops D R0 m ⟨st0.tm, oset st0.ob c o1⟩ = true)
    (hl : R0.length = m) (hf : aFactsL E D (ops.take m) R0 ⟨st0.tm, oset st0.ob c o1⟩ m (ops.take m) R0 0) : Flt E S ops D m R0 R0 st0 ⟨st0.tm, oset st0.ob c o1⟩ := by
  have hfar : ∀ j, j < m → oAt R0 j ≠ none → c ≠ dAt ops j := fun j hj hne e => by
    have := F0.ob j hj hne
    rw [← e, hc] at this
    cases this
  refine flt_of he T F0 (base_ofF T hlm hno) hop hdx hdv hjx hjv (fun _ _ => rfl) rfl hvx hst (fun l _ => ?_) (fun l _ id o ho => ?_) hl hf
  · rw [stS_ob F0.nd]
    exact .inr ⟨fun j hj _ e => by
      cases ho2 : oAt R0 j with
      | none => rfl
      | some o2 => exact absurd e.symm (hfar j hj (by rw [ho2]; simp)), hc⟩
  · rw [stS_ob F0.nd] at ho
    rw [oget_oset]
    rcases ho with ⟨j, hj, hlj, e, h⟩ | ⟨h, hb⟩
    · rw [if_neg (fun e' => hfar j hj (by rw [h]; simp) (by rw [e, e'])), stS_ob F0.nd]
      exact .inl ⟨j, hj, hlj, e, h⟩
    · have hb : oget (oset st0.ob c o1) id = some o := hb
      rw [oget_oset] at hb
      by_cases hci : c = id
      · rw [if_pos hci] at hb ⊢
        exact hb
      · rw [if_neg hci] at hb ⊢
        rw [stS_ob F0.nd]
        exact .inr ⟨h, hb⟩
/-- The object is made by a free operation that the store waits for. -/
theorem flt_new (he : E.Ok) (T : DTextF ops D m) (F0 : DFacts E S ops D R0 m st0) (hlm : lenB ops m st0.tm.length = true) {t : TypeId} {jx jv j0 dx dv c k s off : Nat} {o0 o1 : AO}
    (hop : ∃ o, ops[m]? = some o ∧ o.op = .store t (.tmp dx) (.tmp dv) ∧ o.dst = none ∧ o.guard = none) (hdx : dAt ops jx = dx) (hdv : dAt ops jv = dv) (hjx : inD D jx m = true) (hjv : inD D jv m = true)
    (hj0 : inD D j0 m = true) (hd0 : dAt ops j0 = c) (ho0 : oAt R0 j0 = some o0)
    (hvx : vAt R0 jx = .one (.ref c k s off)) (hst : aStore E ⟨[], [(c, o0)]⟩ t (.one (.ref c k s off)) (vAt R0 jv) fun st => st = ⟨[], [(c, o1)]⟩)
    (hno : noB ops D (R0.set j0 (vAt R0 j0, some o1)) m st0 = true)
    (hl : R0.length = m) (hf : aFactsL E D (ops.take m) (R0.set j0 (vAt R0 j0, some o1)) st0 m (ops.take m) (R0.set j0 (vAt R0 j0, some o1)) 0) : Flt E S ops D m R0 (R0.set j0 (vAt R0 j0, some o1)) st0 st0 := by
  have hj0' : j0 < m := inD_ltF T T.lt hj0
  have hv : ∀ j, j < m → vAt (R0.set j0 (vAt R0 j0, some o1)) j = vAt R0 j := fun j hj => by
    by_cases e : j = j0
    · subst e; exact vAt_at (by omega)
    · exact vAt_set e
  refine flt_of he T F0 (base_ofF T hlm hno) hop hdx hdv hjx hjv hv rfl hvx hst (fun l hlD => ?_) (fun l hlD id o ho => ?_) (by simpa using hl) hf
  · rw [stS_ob F0.nd]
    exact .inl ⟨j0, hj0', hlD j0 hj0, hd0, ho0⟩
  · rw [stS_ob F0.nd] at ho
    rw [oget_oset]
    rcases ho with ⟨j, hj, hlj, e, h⟩ | ⟨h, hb⟩
    · by_cases hjj : j = j0
      · subst hjj
        rw [oAt_at (by omega)] at h
        rw [if_pos (by rw [← hd0, e])]
        exact h
      · rw [oAt_set hjj] at h
        rw [if_neg (fun e' => hjj (d_inj F0.nd hj hj0' (by rw [e, hd0, e']))), stS_ob F0.nd]
        exact .inl ⟨j, hj, hlj, e, h⟩
    · have hne : c ≠ id := fun e => by
        have := h j0 hj0' (hlD j0 hj0) (by rw [hd0, e])
        rw [oAt_at (by omega)] at this
        cases this
      rw [if_neg hne, stS_ob F0.nd]
      refine .inr ⟨fun j hj hlj e => ?_, hb⟩
      have := h j hj hlj e
      by_cases hjj : j = j0
      · subst hjj
        exact absurd (by rw [← hd0, e]) hne
      · rwa [oAt_set hjj] at this
end
section
variable {E : AEnv} {S : Base} {ops : Array Oper}
theorem drawS_head (he : E.Ok) {st : ASt} {m : Nat} {D FL : List (List Nat)} {K : List (AV × Option AO) → Prop} (hD : depsOf [] ops.toList = D) (hok : drawOKF ops.toList D m = true) (hfl : ((List.range m).map fun i => (List.range m).map (flP D i)) = FL)
    (h : aDrawK E (ops.toList.take m) st (ops.toList.take m) FL 0 (List.replicate m (.one .dead, none)) K) : ∃ R, K R ∧ ∀ j o, j < m → ops.toList[j]? = some o → DOut E S D R m (stP ops.toList D R m st j) j o := by
  have T := drawOKF_text hD hok
  have hlen : (ops.toList.take m).length = m := by have := T.le; simp at *; omega
  subst hfl
  have e : ((List.range m).map fun i => (List.range m).map (flP D i)) = ((List.range' 0 (ops.toList.take m).length).map fun i => (List.range m).map (flP D i)) := by rw [hlen, ← List.range_eq_range']
  rw [e] at h
  exact drawK_getF (S := S) he T (ops.toList.take m) 0 (List.replicate m (.one .dead, none)) (fun k => by simp) (by simp) (fun j o hj => absurd hj (Nat.not_lt_zero _)) h
theorem AWP.drawSO (he : E.Ok) {K : Exit → ASt → Prop} (id : Nat) {tm : List AV} {ob : List (Nat × AO)} (m : Nat) (D FL : List (List Nat)) (jx jv : Nat) {t : TypeId} {dx dv : Nat} (hD : depsOf [] ops.toList = D) (hok : drawOKF ops.toList D m = true) (hfl : ((List.range m).map fun i => (List.range m).map (flP D i)) = FL) (hl : lenB ops.toList m tm.length = true)
    (hop : ∃ o, ops.toList[m]? = some o ∧ o.op = .store t (.tmp dx) (.tmp dv) ∧ o.dst = none ∧ o.guard = none) (hdx : dAt ops.toList jx = dx) (hdv : dAt ops.toList jv = dv) (hjx : inD D jx m = true) (hjv : inD D jv m = true)
    (h : aDrawK E (ops.toList.take m) ⟨tm, ob⟩ (ops.toList.take m) FL 0 (List.replicate m (.one .dead, none)) fun R => ∃ c k s off o0 o1, vAt R jx = .one (.ref c k s off) ∧ oget ob c = some o0 ∧ R.length = m ∧ noB ops.toList D R m ⟨tm, ob⟩ = true ∧
      (aStore E ⟨[], [(c, o0)]⟩ t (.one (.ref c k s off)) (vAt R jv) fun st => st = ⟨[], [(c, o1)]⟩) ∧ aSetO c o1 ob fun ob => noB ops.toList D R m ⟨tm, ob⟩ = true ∧ aFactsL E D (ops.toList.take m) R ⟨tm, ob⟩ m (ops.toList.take m) R 0 ∧
      aAfter (ops.toList.take m) R ⟨tm, ob⟩ fun st => arun E S ops.toList (ops.toList.drop (m + 1)) st (K .normal)) : AWP E S (.region id ops true) K ⟨tm, ob⟩ := by
  have T := drawOKF_text hD hok
  obtain ⟨R, ⟨c, k, s, off, o0, o1, hvx, hc, hlR, hno, hst, h1⟩, hf⟩ := drawS_head (S := S) he hD hok hfl h
  obtain ⟨hno1, hfL, ht⟩ := aSetO_get h1
  exact AWP.drawFlt he T (flt_old he T ⟨base_ofF T hl hno, hf⟩ hl hop hdx hdv hjx hjv hvx hc hst hno1 hlR hfL) ht
theorem AWP.drawSN (he : E.Ok) {K : Exit → ASt → Prop} (id : Nat) {tm : List AV} {ob : List (Nat × AO)} (m : Nat) (D FL : List (List Nat)) (jx jv j0 : Nat) {t : TypeId} {dx dv : Nat} (hD : depsOf [] ops.toList = D) (hok : drawOKF ops.toList D m = true) (hfl : ((List.range m).map fun i => (List.range m).map (flP D i)) = FL) (hl : lenB ops.toList m tm.length = true)
    (hop : ∃ o, ops.toList[m]? = some o ∧ o.op = .store t (.tmp dx) (.tmp dv) ∧ o.dst = none ∧ o.guard = none) (hdx : dAt ops.toList jx = dx) (hdv : dAt ops.toList jv = dv) (hjx : inD D jx m = true) (hjv : inD D jv m = true) (hj0 : inD D j0 m = true)
    (h : aDrawK E (ops.toList.take m) ⟨tm, ob⟩ (ops.toList.take m) FL 0 (List.replicate m (.one .dead, none)) fun R => ∃ c k s off o0 o1, vAt R jx = .one (.ref c k s off) ∧ oAt R j0 = some o0 ∧ dAt ops.toList j0 = c ∧ R.length = m ∧ noB ops.toList D R m ⟨tm, ob⟩ = true ∧
      (aStore E ⟨[], [(c, o0)]⟩ t (.one (.ref c k s off)) (vAt R jv) fun st => st = ⟨[], [(c, o1)]⟩) ∧ aSetN R j0 (vAt R j0, some o1) fun R => noB ops.toList D R m ⟨tm, ob⟩ = true ∧ aFactsL E D (ops.toList.take m) R ⟨tm, ob⟩ m (ops.toList.take m) R 0 ∧
      aAfter (ops.toList.take m) R ⟨tm, ob⟩ fun st => arun E S ops.toList (ops.toList.drop (m + 1)) st (K .normal)) : AWP E S (.region id ops true) K ⟨tm, ob⟩ := by
  have T := drawOKF_text hD hok
  obtain ⟨R, ⟨c, k, s, off, o0, o1, hvx, ho0, hd0, hlR, hno, hst, h1⟩, hf⟩ := drawS_head (S := S) he hD hok hfl h
  obtain ⟨hno1, hfL, ht⟩ := aSetN_get h1
  exact AWP.drawFlt he T (flt_new he T ⟨base_ofF T hl hno, hf⟩ hl hop hdx hdv hjx hjv hj0 hd0 ho0 hvx hst hno1 hlR hfL) ht
end
end Go.Proofs.YthmckpghadfeeaaGreat
