/- Regions that draw their order: the rule. -/
import Derived.Test.YtlhanpkfnhnegaaDoorAvN
set_option linter.unusedVariables false
set_option linter.unusedSimpArgs false
set_option maxRecDepth 100000
namespace Go.Proofs.YtlhanpkfnhnegaaDoor
open Go.RowKit

/-- Slots and objects by flags: 1 what the operation came to, 2 forgotten, else as it was. -/
def aMk (fl : Nat → Nat) : List Oper → List (AV × Option AO) → Nat → List AV → (List AV → List (Nat × AO) → Prop) → Prop
  | [], _, _, tm, K => K tm []
  | _ :: _, [], _, _, _ => False
  | o :: ops, r :: R, j, tm, K => match fl j with
    | 0 => aMk fl ops R (j + 1) tm K
    | 1 => match o.dst with
      | none => False
      | some d => match r with
        | (v, oo) => aPutL tm d v fun tm => match oo with
          | none => aMk fl ops R (j + 1) tm K
          | some x => aMk fl ops R (j + 1) tm fun tm obs => K tm ((d, x) :: obs)
    | _ + 2 => match o.dst with
      | none => False
      | some d => aPutL tm d (.one .dead) fun tm => aMk fl ops R (j + 1) tm K
def upF (ops : List Oper) (R : List (AV × Option AO)) (fl : Nat → Nat) (j : Nat) : Option (Nat × AV) :=
  match fl j with
  | 0 => none
  | 1 => some (dAt ops j, vAt R j)
  | _ + 2 => some (dAt ops j, .one .dead)
theorem aMk_get {fl : Nat → Nat} {opsA : List Oper} {RA : List (AV × Option AO)} : ∀ (ops : List Oper) (R : List (AV × Option AO)) (j : Nat) (tm : List AV) (K : List AV → List (Nat × AO) → Prop), (∀ k, k < ops.length → opsA[j + k]? = ops[k]?) → (∀ k, RA[j + k]? = R[k]?) → aMk fl ops R j tm K →
    K (setsL tm ((List.range' j ops.length).filterMap (upF opsA RA fl))) ((List.range' j ops.length).filterMap (obF opsA RA fun j => Nat.beq (fl j) 1))
  | [], R, j, tm, K, _, _, h => h
  | _ :: _, [], _, _, _, _, _, h => h.elim
  | o :: ops, r :: R, j, tm, K, ho, hR, h => by
    have ho' : ∀ k, k < ops.length → opsA[j + 1 + k]? = ops[k]? := fun k hk => by
      have := ho (k + 1) (by simp; omega)
      rw [show j + 1 + k = j + (k + 1) by omega]
      simpa using this
    have hR' : ∀ k, RA[j + 1 + k]? = R[k]? := fun k => by
      have := hR (k + 1)
      rw [show j + 1 + k = j + (k + 1) by omega]
      simpa using this
    have hd : ∀ d, o.dst = some d → dAt opsA j = d := fun d hd => by
      have := ho 0 (by simp)
      simp only [Nat.add_zero, List.getElem?_cons_zero] at this
      simp [dAt, this, hd]
    have hr : RA[j]? = some r := by simpa using hR 0
    rw [List.length_cons, List.range'_succ]
    unfold aMk at h
    split at h
    · rename_i hf
      have := aMk_get ops R (j + 1) tm K ho' hR' h
      rw [List.filterMap_cons, List.filterMap_cons]
      simpa [upF, obF, hf] using this
    · rename_i hf
      split at h
      · exact h.elim
      · rename_i d hdst
        obtain ⟨v, oo⟩ := r
        have hv : vAt RA j = v := by simp [vAt, List.getD, hr]
        have hoo : oAt RA j = oo := by simp [oAt, List.getD, hr]
        cases oo with
        | none =>
          have h1 : aMk fl ops R (j + 1) (tm.set d v) K := aPutL_set (K := fun tm => aMk fl ops R (j + 1) tm K) h
          have := aMk_get ops R (j + 1) _ K ho' hR' h1
          rw [List.filterMap_cons, List.filterMap_cons]
          simpa [upF, obF, hf, hd d hdst, hv, hoo, setsL, Nat.beq] using this
        | some x =>
          have h1 : aMk fl ops R (j + 1) (tm.set d v) (fun tm obs => K tm ((d, x) :: obs)) := aPutL_set (K := fun tm => aMk fl ops R (j + 1) tm fun tm obs => K tm ((d, x) :: obs)) h
          have := aMk_get ops R (j + 1) _ (fun tm obs => K tm ((d, x) :: obs)) ho' hR' h1
          rw [List.filterMap_cons, List.filterMap_cons]
          simpa [upF, obF, hf, hd d hdst, hv, hoo, setsL, Nat.beq] using this
    · rename_i m hf
      split at h
      · exact h.elim
      · rename_i d hdst
        have h1 := aPutL_set (K := fun tm => aMk fl ops R (j + 1) tm K) h
        have := aMk_get ops R (j + 1) _ K ho' hR' h1
        rw [List.filterMap_cons, List.filterMap_cons]
        simpa [upF, obF, hf, hd d hdst, setsL, Nat.beq] using this

def aApp {α : Type} : List α → List α → (List α → Prop) → Prop
  | [], l, K => K l
  | x :: r, l, K => aApp r l fun l' => K (x :: l')
theorem aApp_get {α : Type} : ∀ {r l : List α} {K : List α → Prop}, aApp r l K → K (r ++ l)
  | [], _, _, h => h
  | x :: r, l, K, h => aApp_get (r := r) (l := l) (K := fun l' => K (x :: l')) h
def flP (D : List (List Nat)) (i j : Nat) : Nat :=
  match inD D j i with
  | true => 1
  | false => match inD D i j with
    | true => 0
    | false => match Nat.beq j i with
      | true => 0
      | false => 2
theorem upF_P (ops : List Oper) (R : List (AV × Option AO)) (D : List (List Nat)) (i : Nat) : upF ops R (flP D i) = upP ops D R i := by
  funext j
  unfold upF upP flP
  cases h1 : inD D j i
  · cases h2 : inD D i j
    · cases h3 : Nat.beq j i <;> simp_all
    · simp_all
  · simp_all
theorem flP_one (D : List (List Nat)) (i : Nat) : (fun j => Nat.beq (flP D i j) 1) = fun j => inD D j i := by
  funext j
  unfold flP
  cases h1 : inD D j i
  · cases h2 : inD D i j
    · cases h3 : Nat.beq j i <;> rfl
    · rfl
  · rfl
/-- The state that operation i is carried out from. -/
def aFrom (D : List (List Nat)) (pre : List Oper) (R : List (AV × Option AO)) (i : Nat) (st : ASt) (K : ASt → Prop) : Prop :=
  match st with
  | ⟨tm, ob⟩ => aMk (flP D i) pre R 0 tm fun tm obs => aApp obs ob fun ob => K ⟨tm, ob⟩
def aAfter (pre : List Oper) (R : List (AV × Option AO)) (st : ASt) (K : ASt → Prop) : Prop :=
  match st with
  | ⟨tm, ob⟩ => aMk (fun _ => 1) pre R 0 tm fun tm obs => aApp obs ob fun ob => K ⟨tm, ob⟩
theorem take_get {ops : List Oper} {n0 : Nat} (hle : n0 ≤ ops.length) : (ops.take n0).length = n0 ∧ ∀ k, k < (ops.take n0).length → ops[0 + k]? = (ops.take n0)[k]? := by
  have h : (ops.take n0).length = n0 := by simp; omega
  exact ⟨h, fun k hk => by rw [h] at hk; simp [List.getElem?_take, hk]⟩
theorem aFrom_get {D : List (List Nat)} {ops : List Oper} {n0 : Nat} {R : List (AV × Option AO)} {i : Nat} {st : ASt} {K : ASt → Prop} (hle : n0 ≤ ops.length) (h : aFrom D (ops.take n0) R i st K) : K (stP ops D R n0 st i) := by
  obtain ⟨h1, h2⟩ := take_get hle
  obtain ⟨tm, ob⟩ := st
  have := aMk_get (opsA := ops) (RA := R) (ops.take n0) R 0 tm _ h2 (fun k => by simp) h
  rw [h1, upF_P, flP_one] at this
  have := aApp_get (K := fun ob => K ⟨_, ob⟩) this
  rw [← List.range_eq_range'] at this
  exact this
theorem aAfter_get {ops : List Oper} {n0 : Nat} {R : List (AV × Option AO)} {st : ASt} {K : ASt → Prop} (hle : n0 ≤ ops.length) (h : aAfter (ops.take n0) R st K) : K (stS ops R n0 st fun _ => true) := by
  obtain ⟨h1, h2⟩ := take_get hle
  obtain ⟨tm, ob⟩ := st
  have := aMk_get (opsA := ops) (RA := R) (ops.take n0) R 0 tm _ h2 (fun k => by simp) h
  rw [h1] at this
  have := aApp_get (K := fun ob => K ⟨_, ob⟩) this
  rw [← List.range_eq_range'] at this
  have e : upF ops R (fun _ => 1) = upS ops R fun _ => true := by funext j; rfl
  rw [e] at this
  exact this

/-- What each free operation owes: it comes to what R says. -/
def aFact (E : AEnv) (D : List (List Nat)) (pre : List Oper) (R : List (AV × Option AO)) (st : ASt) (i : Nat) (o : Oper) (r : AV × Option AO) : Prop :=
  match o.guard with
  | none => aFrom D pre R i st fun P => afree E o P fun v oo => v = r.1 ∧ oo = r.2
  | some (g, want) => inD D g i = true ∧ Nat.blt g pre.length = true ∧ aNth R g fun rg => match rg.1 with
    | .one (.d (.pv (.bool p))) => AB p
        (match want with
          | true => aFrom D pre R i st fun P => afree E o P fun v oo => v = r.1 ∧ oo = r.2
          | false => r = (.one .und, none))
        (match want with
          | true => r = (.one .und, none)
          | false => aFrom D pre R i st fun P => afree E o P fun v oo => v = r.1 ∧ oo = r.2)
    | _ => False
def aFacts (E : AEnv) (D : List (List Nat)) (pre : List Oper) (R : List (AV × Option AO)) (st : ASt) : List Oper → List (AV × Option AO) → Nat → Prop
  | [], [], _ => True
  | o :: ops, r :: rs, i => aFact E D pre R st i o r ∧ aFacts E D pre R st ops rs (i + 1)
  | _, _, _ => False
theorem aFacts_get {E : AEnv} {D : List (List Nat)} {pre : List Oper} {R : List (AV × Option AO)} {st : ASt} : ∀ {ops : List Oper} {rs : List (AV × Option AO)} {i : Nat}, aFacts E D pre R st ops rs i → ∀ k o, ops[k]? = some o → ∃ r, rs[k]? = some r ∧ aFact E D pre R st (i + k) o r
  | [], _, _, _, k, o, h => by simp at h
  | o' :: ops, [], _, h, k, o, _ => h.elim
  | o' :: ops, r :: rs, i, h, k, o, ho => by
    cases k with
    | zero => simp at ho; subst ho; exact ⟨r, rfl, h.1⟩
    | succ k =>
      obtain ⟨r', h1, h2⟩ := aFacts_get h.2 k o (by simpa using ho)
      exact ⟨r', by simpa using h1, by rwa [show i + (k + 1) = i + 1 + k by omega]⟩

def nodupB : List Nat → Bool
  | [] => true
  | x :: r => !r.contains x && nodupB r
theorem nodupB_ok : ∀ {l : List Nat}, nodupB l = true → l.Nodup
  | [], _ => List.nodup_nil
  | x :: r, h => by
    simp only [nodupB, Bool.and_eq_true, Bool.not_eq_true'] at h
    exact List.nodup_cons.2 ⟨by simpa using h.1, nodupB_ok h.2⟩
/-- What the region's text alone must bear. -/
def drawOK (ops : List Oper) (D : List (List Nat)) (n0 : Nat) : Bool :=
  Nat.ble n0 ops.length && nodupB ((List.range n0).map (dAt ops)) &&
  (List.range ops.length).all fun i => match ops[i]? with
    | some o => (o.after.toList.all fun e => Region.binds .any e && Nat.blt e.on i) && (if i < n0 then o.dst.isSome else (List.range i).all fun j => inD D j i)
    | none => true
def lenB (ops : List Oper) (n0 n : Nat) : Bool := (List.range n0).all fun i => Nat.blt (dAt ops i) n
def noB (ops : List Oper) (D : List (List Nat)) (R : List (AV × Option AO)) (n0 : Nat) (st : ASt) : Bool :=
  (List.range n0).all fun i => match oAt R i with
    | none => true
    | some _ => (oget st.ob (dAt ops i)).isNone && st.tm.all (noIdV (dAt ops i)) && (st.ob.all fun p => noIdO (dAt ops i) p.2) &&
      (List.range n0).all fun j => inD D i j || Nat.beq j i || (noIdV (dAt ops i) (vAt R j) && (match oAt R j with | none => true | some o => noIdO (dAt ops i) o))
end Go.Proofs.YtlhanpkfnhnegaaDoor
