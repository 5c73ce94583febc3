/- A drawn region whose free operations are run in the order of the text, each from what it needs alone: splits may stand anywhere. -/
import Derived.Test.YthmckpghadfeeaaGreatAvVF
set_option linter.unusedVariables false
set_option linter.unusedSimpArgs false
set_option maxRecDepth 100000
namespace Go.Proofs.YthmckpghadfeeaaGreat
open Go.RowKit

def aSetN {α : Type} : List α → Nat → α → (List α → Prop) → Prop
  | [], _, _, K => K []
  | _ :: r, 0, x, K => K (x :: r)
  | y :: r, i + 1, x, K => aSetN r i x fun r' => K (y :: r')
theorem aSetN_get {α : Type} : ∀ {l : List α} {i : Nat} {x : α} {K : List α → Prop}, aSetN l i x K → K (l.set i x)
  | [], _, _, _, h => h
  | _ :: _, 0, _, _, h => h
  | y :: r, i + 1, x, K, h => aSetN_get (l := r) (K := fun r' => K (y :: r')) h
/-- Slots and objects by flags that are written out. -/
theorem aPutL_of {v : AV} {P Q : List AV → Prop} (h : ∀ l, P l → Q l) : ∀ {l : List AV} {n : Nat}, aPutL l n v P → aPutL l n v Q
  | [], _, hp => hp.elim
  | _ :: r, 0, hp => h _ hp
  | x :: r, n + 1, hp => aPutL_of (P := fun r' => P (x :: r')) (Q := fun r' => Q (x :: r')) (fun l => h _) (l := r) (n := n) hp
def aMkL : List Nat → List Oper → List (AV × Option AO) → List AV → (List AV → List (Nat × AO) → Prop) → Prop
  | _, [], _, tm, K => K tm []
  | [], _ :: _, _, _, _ => False
  | _ :: _, _ :: _, [], _, _ => False
  | f :: fs, o :: ops, r :: R, tm, K => match f with
    | 0 => aMkL fs ops R tm K
    | 1 => match o.dst with
      | none => False
      | some d => match r with
        | (v, oo) => aPutL tm d v fun tm => match oo with
          | none => aMkL fs ops R tm K
          | some x => aMkL fs ops R tm fun tm obs => K tm ((d, x) :: obs)
    | _ + 2 => match o.dst with
      | none => False
      | some d => aPutL tm d (.one .dead) fun tm => aMkL fs ops R tm K
theorem aMkL_mk {fl : Nat → Nat} : ∀ (ops : List Oper) (R : List (AV × Option AO)) (j : Nat) (tm : List AV) (K : List AV → List (Nat × AO) → Prop), aMkL ((List.range' j ops.length).map fl) ops R tm K → aMk fl ops R j tm K
  | [], R, j, tm, K, h => by cases R <;> exact h
  | _ :: _, [], j, tm, K, h => by rw [List.length_cons, List.range'_succ] at h; exact h.elim
  | o :: ops, r :: R, j, tm, K, h => by
    rw [List.length_cons, List.range'_succ, List.map_cons] at h
    unfold aMkL at h
    unfold aMk
    cases hf : fl j with
    | zero => rw [hf] at h; exact aMkL_mk ops R (j + 1) tm K h
    | succ n =>
      rw [hf] at h
      cases hd : o.dst with
      | none => rw [hd] at h; cases n <;> exact h.elim
      | some d =>
        rw [hd] at h
        cases n with
        | zero =>
          obtain ⟨v, oo⟩ := r
          refine aPutL_of ?_ h
          intro tm' h2
          cases oo with
          | none => exact aMkL_mk ops R (j + 1) tm' K h2
          | some x => exact aMkL_mk ops R (j + 1) tm' _ h2
        | succ n => exact aPutL_of (fun tm' h2 => aMkL_mk ops R (j + 1) tm' K h2) h
def aFromL (fs : List Nat) (pre : List Oper) (R : List (AV × Option AO)) (st : ASt) (K : ASt → Prop) : Prop :=
  match st with
  | ⟨tm, ob⟩ => aMkL fs pre R tm fun tm obs => aApp obs ob fun ob => K ⟨tm, ob⟩
theorem aFromL_from {D : List (List Nat)} {pre : List Oper} {R : List (AV × Option AO)} {i : Nat} {st : ASt} {K : ASt → Prop} (h : aFromL ((List.range pre.length).map (flP D i)) pre R st K) : aFrom D pre R i st K := by
  obtain ⟨tm, ob⟩ := st
  rw [List.range_eq_range'] at h
  exact aMkL_mk pre R 0 tm _ h
/-- The free operations from i on; R: what has come out, the rest as it may be. -/
def aDrawK (E : AEnv) (pre : List Oper) (st : ASt) : List Oper → List (List Nat) → Nat → List (AV × Option AO) → (List (AV × Option AO) → Prop) → Prop
  | [], _, _, R, K => K R
  | _ :: _, [], _, _, _ => False
  | o :: ops, fs :: FL, i, R, K => match o.guard with
    | none => aFromL fs pre R st fun P => afree E o P fun v oo => aSetN R i (v, oo) fun R => aDrawK E pre st ops FL (i + 1) R K
    | some (g, want) => aNth fs g fun f => match f with
      | 1 => aNth R g fun rg => match rg.1 with
        | .one (.d (.pv (.bool p))) => AB p
          (match want with
            | true => aFromL fs pre R st fun P => afree E o P fun v oo => aSetN R i (v, oo) fun R => aDrawK E pre st ops FL (i + 1) R K
            | false => aSetN R i (.one .und, none) fun R => aDrawK E pre st ops FL (i + 1) R K)
          (match want with
            | true => aSetN R i (.one .und, none) fun R => aDrawK E pre st ops FL (i + 1) R K
            | false => aFromL fs pre R st fun P => afree E o P fun v oo => aSetN R i (v, oo) fun R => aDrawK E pre st ops FL (i + 1) R K)
        | .one .und => aSetN R i (.one .und, none) fun R => aDrawK E pre st ops FL (i + 1) R K
        | _ => False
      | _ => False

section
variable {E : AEnv} {S : Base} {ops : List Oper} {D : List (List Nat)} {n0 : Nat} {st : ASt}
theorem vAt_set {R : List (AV × Option AO)} {i j : Nat} {x : AV × Option AO} (h : j ≠ i) : vAt (R.set i x) j = vAt R j := by
  unfold vAt
  rw [List.getD_eq_getElem?_getD, List.getD_eq_getElem?_getD, List.getElem?_set_ne (fun e => h e.symm)]
theorem oAt_set {R : List (AV × Option AO)} {i j : Nat} {x : AV × Option AO} (h : j ≠ i) : oAt (R.set i x) j = oAt R j := by
  unfold oAt
  rw [List.getD_eq_getElem?_getD, List.getD_eq_getElem?_getD, List.getElem?_set_ne (fun e => h e.symm)]
theorem vAt_at {R : List (AV × Option AO)} {i : Nat} {x : AV × Option AO} (h : i < R.length) : vAt (R.set i x) i = x.1 := by
  unfold vAt
  rw [List.getD_eq_getElem?_getD, List.getElem?_set_self h]; rfl
theorem oAt_at {R : List (AV × Option AO)} {i : Nat} {x : AV × Option AO} (h : i < R.length) : oAt (R.set i x) i = x.2 := by
  unfold oAt
  rw [List.getD_eq_getElem?_getD, List.getElem?_set_self h]; rfl
/-- What an operation is carried out from speaks of those that it waits for. -/
theorem stP_same {R R' : List (AV × Option AO)} {i : Nat} (h : ∀ j, inD D j i = true → vAt R j = vAt R' j ∧ oAt R j = oAt R' j) : stP ops D R n0 st i = stP ops D R' n0 st i := by
  have e1 : (List.range n0).filterMap (upP ops D R i) = (List.range n0).filterMap (upP ops D R' i) := fmCongr fun j _ => by
    unfold upP
    cases hj : inD D j i with
    | true => simp [(h j hj).1]
    | false => simp
  have e2 : (List.range n0).filterMap (obF ops R fun j => inD D j i) = (List.range n0).filterMap (obF ops R' fun j => inD D j i) := fmCongr fun j _ => by
    unfold obF
    cases hj : inD D j i with
    | true => simp [(h j hj).2]
    | false => simp [hj]
  simp only [stP, e1, e2]
/-- Operations wait for earlier ones alone. -/
theorem inD_lt (T : DText ops D n0) {i j : Nat} (hi : i < ops.length) (h : inD D j i = true) : j < i := by
  have := deps_listed T (lf := fun j => decide (j < i)) (fun k hk e he => ?_) (i := i) (fun e he => ?_) h
  · simpa using this
  · have hki : k < i := by simpa using hk
    rw [aftersOf_some (List.getElem?_eq_getElem (by omega : k < ops.length))] at he
    have := T.edge k _ (List.getElem?_eq_getElem (by omega)) _ he
    simp; omega
  · rw [aftersOf_some (List.getElem?_eq_getElem hi)] at he
    have := T.edge i _ (List.getElem?_eq_getElem hi) _ he
    simpa using this
/-- Outcomes speak of no later ones. -/
theorem DOut.keep (T : DText ops D n0) {R : List (AV × Option AO)} {i k : Nat} {o : Oper} {x : AV × Option AO} (hi : i < k) (hil : i < ops.length) (h : DOut E S D R n0 (stP ops D R n0 st i) i o) : DOut E S D (R.set k x) n0 (stP ops D (R.set k x) n0 st i) i o := by
  have hlt : ∀ j, inD D j i = true → j ≠ k := fun j hj e => by have := inD_lt T hil hj; omega
  have e : stP ops D (R.set k x) n0 st i = stP ops D R n0 st i := stP_same fun j hj => ⟨vAt_set (hlt j hj), oAt_set (hlt j hj)⟩
  have e1 : vAt (R.set k x) i = vAt R i := vAt_set (by omega)
  have e2 : oAt (R.set k x) i = oAt R i := oAt_set (by omega)
  unfold DOut at h ⊢
  rw [e, e1, e2]
  cases hg : o.guard with
  | none => rw [hg] at h; exact h
  | some gw =>
    obtain ⟨g, want⟩ := gw
    rw [hg] at h
    obtain ⟨h1, h2, h3⟩ := h
    refine ⟨h1, h2, ?_⟩
    rw [vAt_set (hlt g h2)]
    exact h3
theorem flP_one_iff {D : List (List Nat)} {i j : Nat} (h : flP D i j = 1) : inD D j i = true := by
  unfold flP at h
  split at h
  · assumption
  · split at h
    · cases h
    · split at h <;> cases h
theorem drawK_get (he : E.Ok) (T : DText ops D n0) {K : List (AV × Option AO) → Prop} : ∀ (rest : List Oper) (i : Nat) (R : List (AV × Option AO)), (∀ k, (ops.take n0)[i + k]? = rest[k]?) → R.length = n0 →
    (∀ j o, j < i → ops[j]? = some o → DOut E S D R n0 (stP ops D R n0 st j) j o) → aDrawK E (ops.take n0) st rest ((List.range' i rest.length).map fun i => (List.range n0).map (flP D i)) i R K → ∃ RA, K RA ∧ ∀ j o, j < n0 → ops[j]? = some o → DOut E S D RA n0 (stP ops D RA n0 st j) j o
  | [], i, R, hr, hl, hf, h => by
    refine ⟨R, h, fun j o hj ho => hf j o ?_ ho⟩
    have := hr 0
    simp only [Nat.add_zero, List.getElem?_nil] at this
    have h2 := List.getElem?_eq_none_iff.1 this
    have := T.le
    simp at h2
    omega
  | o :: rest, i, R, hr, hl, hf, h => by
    have h0 := hr 0
    simp only [Nat.add_zero, List.getElem?_cons_zero] at h0
    have hi : i < n0 := by
      have := (List.getElem?_eq_some_iff.1 h0).1
      simp at this
      omega
    have hio : ops[i]? = some o := by
      rw [List.getElem?_take, if_pos hi] at h0
      exact h0
    have hil : i < ops.length := (List.getElem?_eq_some_iff.1 hio).1
    have hr' : ∀ k, (ops.take n0)[i + 1 + k]? = rest[k]? := fun k => by
      have := hr (k + 1)
      rw [show i + 1 + k = i + (k + 1) by omega]
      simpa using this
    have next : ∀ x : AV × Option AO, aDrawK E (ops.take n0) st rest ((List.range' (i + 1) rest.length).map fun i => (List.range n0).map (flP D i)) (i + 1) (R.set i x) K → DOut E S D (R.set i x) n0 (stP ops D (R.set i x) n0 st i) i o → ∃ RA, K RA ∧ ∀ j o, j < n0 → ops[j]? = some o → DOut E S D RA n0 (stP ops D RA n0 st j) j o := fun x hk hd =>
      drawK_get he T rest (i + 1) (R.set i x) hr' (by simpa using hl) (fun j o' hj ho' => by
        rcases Nat.lt_succ_iff_lt_or_eq.1 hj with hj | hj
        · exact (hf j o' hj ho').keep T hj (by omega)
        · subst hj
          rw [hio] at ho'
          injection ho' with ho'
          subst ho'
          exact hd) hk
    have eP : ∀ x : AV × Option AO, stP ops D (R.set i x) n0 st i = stP ops D R n0 st i := fun x => stP_same fun j hj => by
      have := inD_lt T hil hj
      exact ⟨vAt_set (by omega), oAt_set (by omega)⟩
    have free : (aFromL ((List.range n0).map (flP D i)) (ops.take n0) R st fun P => afree E o P fun v oo => aSetN R i (v, oo) fun R => aDrawK E (ops.take n0) st rest ((List.range' (i + 1) rest.length).map fun i => (List.range n0).map (flP D i)) (i + 1) R K) → ∃ x : AV × Option AO, FreeOut E S o (stP ops D R n0 st i) x.1 x.2 ∧ aDrawK E (ops.take n0) st rest ((List.range' (i + 1) rest.length).map fun i => (List.range n0).map (flP D i)) (i + 1) (R.set i x) K := fun h => by
      have hlen : (ops.take n0).length = n0 := by have := T.le; simp; omega
      have h1 := aFrom_get T.le (aFromL_from (by rw [hlen]; exact h))
      obtain ⟨v, oo, h2, h3⟩ := afree_out he h1
      exact ⟨(v, oo), h2, aSetN_get h3⟩
    rw [List.length_cons, List.range'_succ, List.map_cons] at h
    unfold aDrawK at h
    cases hg : o.guard with
    | none =>
      rw [hg] at h
      obtain ⟨x, hx, hk⟩ := free h
      refine next x hk ?_
      unfold DOut
      rw [hg, eP, vAt_at (by omega), oAt_at (by omega)]
      exact hx
    | some gw =>
      obtain ⟨g, want⟩ := gw
      rw [hg] at h
      obtain ⟨f, hf1, h3⟩ := aNth_get h
      have hf0 : f = flP D i g := by
        rw [List.getElem?_map] at hf1
        obtain ⟨g', hg', rfl⟩ := Option.map_eq_some_iff.1 hf1
        have := List.getElem?_eq_some_iff.1 hg'
        obtain ⟨_, e⟩ := this
        simp at e
        rw [e]
      split at h3
      case h_2 => exact h3.elim
      have h1 : inD D g i = true := flP_one_iff hf0.symm
      obtain ⟨rg, hrg, h3⟩ := aNth_get h3
      have hgi := inD_lt T hil h1
      have hvg : ∀ x : AV × Option AO, vAt (R.set i x) g = rg.1 := fun x => by
        rw [vAt_set (by omega)]
        unfold vAt
        rw [List.getD_eq_getElem?_getD, hrg]; rfl
      split at h3
      · rename_i p hp
        have run : (p = want) → (aFromL ((List.range n0).map (flP D i)) (ops.take n0) R st fun P => afree E o P fun v oo => aSetN R i (v, oo) fun R => aDrawK E (ops.take n0) st rest ((List.range' (i + 1) rest.length).map fun i => (List.range n0).map (flP D i)) (i + 1) R K) → ∃ RA, K RA ∧ ∀ j o, j < n0 → ops[j]? = some o → DOut E S D RA n0 (stP ops D RA n0 st j) j o := fun e h => by
          obtain ⟨x, hx, hk⟩ := free h
          refine next x hk ?_
          unfold DOut
          rw [hg, eP, vAt_at (by omega), oAt_at (by omega)]
          exact ⟨by omega, h1, .inl ⟨p, by rw [hvg, hp], .inl ⟨e, hx⟩⟩⟩
        have skip : (p ≠ want) → (aSetN R i (.one .und, none) fun R => aDrawK E (ops.take n0) st rest ((List.range' (i + 1) rest.length).map fun i => (List.range n0).map (flP D i)) (i + 1) R K) → ∃ RA, K RA ∧ ∀ j o, j < n0 → ops[j]? = some o → DOut E S D RA n0 (stP ops D RA n0 st j) j o := fun e h => by
          refine next (.one .und, none) (aSetN_get h) ?_
          unfold DOut
          rw [hg, eP, vAt_at (by omega), oAt_at (by omega)]
          exact ⟨by omega, h1, .inl ⟨p, by rw [hvg, hp], .inr ⟨e, rfl, rfl⟩⟩⟩
        cases p with
        | true =>
          have h := h3.t rfl
          cases want with
          | true => exact run rfl h
          | false => exact skip (by simp) h
        | false =>
          have h := h3.f rfl
          cases want with
          | true => exact skip (by simp) h
          | false => exact run rfl h
      · rename_i hp
        refine next (.one .und, none) (aSetN_get h3) ?_
        unfold DOut
        rw [hg, eP, vAt_at (by omega), oAt_at (by omega)]
        exact ⟨by omega, h1, .inr ⟨by rw [hvg, hp], rfl, rfl⟩⟩
      · exact h3.elim
end
theorem AWP.drawF {E : AEnv} (he : E.Ok) {S : Base} {ops : Array Oper} {K : Exit → ASt → Prop} {id : Nat} {st : ASt} (n0 : Nat) (D : List (List Nat)) (R : List (AV × Option AO)) (T : DText ops.toList D n0) (F : DFacts E S ops.toList D R n0 st)
    (ht : aAfter (ops.toList.take n0) R st fun st => arun E S ops.toList (ops.toList.drop n0) st (K .normal)) : AWP E S (.region id ops true) K st := by
  refine ⟨fun a w hs => wp_region_any he.mixed ?_⟩
  have hg : w.grownBy { w with drawn := w.drawn + 1 } none := ⟨rfl, rfl, rfl, Nat.le_refl _, fun b hb _ => rfl⟩
  refine draw_head (Q := fun e a' w' => ∃ st', SimX E.W S st' a' w' ∧ K e st') he T F (fun a w h => h) ht ops.size (Array.replicate ops.size false) a _ (by simp) (fun j _ => ?_) (fun j hj => ?_) ?_ ?_
  · simp [lfOf, Array.getD_eq_getD_getElem?, Array.getElem?_replicate]
    split <;> rfl
  · exfalso
    simp [lfOf, Array.getD_eq_getD_getElem?, Array.getElem?_replicate] at hj
    split at hj <;> simp at hj
  · have : ∀ (lf : Nat → Bool) n, cntU lf n ≤ n := fun lf n => by
      induction n with
      | zero => exact Nat.le_refl _
      | succ n ih => simp only [cntU]; split <;> omega
    exact this _ _
  · obtain ⟨Z, ρ, hs⟩ := hs
    have e : stS ops.toList R n0 st (lfOf (Array.replicate ops.size false)) = st := by
      have e1 : ∀ j, lfOf (Array.replicate ops.size false) j = false := fun j => by
        simp [lfOf, Array.getD_eq_getD_getElem?, Array.getElem?_replicate]
        split <;> rfl
      have e2 : (List.range n0).filterMap (upS ops.toList R (lfOf (Array.replicate ops.size false))) = [] := by
        rw [List.filterMap_eq_nil_iff]; intro j _; simp [upS, e1]
      have e3 : (List.range n0).filterMap (obF ops.toList R (lfOf (Array.replicate ops.size false))) = [] := by
        rw [List.filterMap_eq_nil_iff]; intro j _; simp [obF, e1]
      simp [stS, e2, e3, setsL]
    rw [e]
    exact ⟨Z, ρ, hs.grow hg (fun _ h => h) fun _ h => .inl h⟩
theorem AWP.drawK {E : AEnv} (he : E.Ok) {S : Base} {ops : Array Oper} {K : Exit → ASt → Prop} (id : Nat) {st : ASt} (n0 : Nat) (D FL : List (List Nat)) (hD : depsOf [] ops.toList = D) (hok : drawOK ops.toList D n0 = true) (hfl : ((List.range n0).map fun i => (List.range n0).map (flP D i)) = FL) (hl : lenB ops.toList n0 st.tm.length = true)
    (h : aDrawK E (ops.toList.take n0) st (ops.toList.take n0) FL 0 (List.replicate n0 (.one .dead, none)) fun R => noB ops.toList D R n0 st = true ∧ aAfter (ops.toList.take n0) R st fun st => arun E S ops.toList (ops.toList.drop n0) st (K .normal)) : AWP E S (.region id ops true) K st := by
  have T := drawOK_text hD hok
  have hlen : (ops.toList.take n0).length = n0 := by have := T.le; simp at *; omega
  subst hfl
  have e : ((List.range n0).map fun i => (List.range n0).map (flP D i)) = ((List.range' 0 (ops.toList.take n0).length).map fun i => (List.range n0).map (flP D i)) := by rw [hlen, ← List.range_eq_range']
  rw [e] at h
  obtain ⟨R, ⟨hno, ht⟩, hf⟩ := drawK_get (S := S) he T (ops.toList.take n0) 0 (List.replicate n0 (.one .dead, none)) (fun k => by simp) (by simp) (fun j o hj => absurd hj (Nat.not_lt_zero _)) h
  exact AWP.drawF he n0 D R T ⟨base_of T hl hno, hf⟩ ht
end Go.Proofs.YthmckpghadfeeaaGreat
