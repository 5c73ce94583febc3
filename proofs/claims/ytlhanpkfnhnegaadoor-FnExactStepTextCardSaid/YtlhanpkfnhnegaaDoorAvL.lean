/- Regions that draw their order. The first n0 operations are free (they read, call, or make memory); each of the others stands behind all that come before it. -/
import Derived.Test.YtlhanpkfnhnegaaDoorAvK
set_option linter.unusedVariables false
set_option linter.unusedSimpArgs false
set_option maxRecDepth 100000
namespace Go.Proofs.YtlhanpkfnhnegaaDoor
open Go.RowKit

/-- What each operation waits for, through others too. -/
def addAll (l : List Nat) : List Nat → List Nat
  | [] => l
  | x :: r => addAll (if l.contains x then l else x :: l) r
def depsGo (D : List (List Nat)) : List Nat → List Nat → List Nat
  | [], acc => acc
  | e :: r, acc => depsGo D r (addAll (addAll acc [e]) (D.getD e []))
def depsOf : List (List Nat) → List Oper → List (List Nat)
  | D, [] => D
  | D, o :: r => depsOf (D ++ [depsGo D (o.after.toList.map (·.on)) []]) r
theorem mem_addAll {x : Nat} : ∀ {r l : List Nat}, x ∈ addAll l r → x ∈ l ∨ x ∈ r
  | [], l, h => .inl h
  | y :: r, l, h => by
    rcases mem_addAll (r := r) h with h | h
    · split at h
      · exact .inl h
      · rcases List.mem_cons.1 h with rfl | h
        · exact .inr (by simp)
        · exact .inl h
    · exact .inr (by simp [h])
theorem mem_depsGo {D : List (List Nat)} {x : Nat} : ∀ {es acc : List Nat}, x ∈ depsGo D es acc → x ∈ acc ∨ ∃ e ∈ es, x = e ∨ x ∈ D.getD e []
  | [], acc, h => .inl h
  | e :: r, acc, h => by
    rcases mem_depsGo (es := r) h with h | ⟨e', he, h⟩
    · rcases mem_addAll h with h | h
      · rcases mem_addAll h with h | h
        · exact .inl h
        · exact .inr ⟨e, by simp, .inl (by simpa using h)⟩
      · exact .inr ⟨e, by simp, .inr h⟩
    · exact .inr ⟨e', by simp [he], h⟩
def aftersOf (ops : List Oper) (i : Nat) : List Nat := match ops[i]? with | some o => o.after.toList.map (·.on) | none => []
/-- Whatever is closed under waiting and holds what i waits for holds all its dependencies. -/
theorem depsOf_closed (ops : List Oper) (T : Nat → Prop) (hT : ∀ j, T j → ∀ e ∈ aftersOf ops j, T e) : ∀ (rest : List Oper) (D : List (List Nat)), (∀ k, ops[D.length + k]? = rest[k]?) →
    (∀ j, j < D.length → (∀ e ∈ aftersOf ops j, T e) → ∀ x ∈ D.getD j [], T x) → ∀ j, (∀ e ∈ aftersOf ops j, T e) → ∀ x ∈ (depsOf D rest).getD j [], T x
  | [], D, _, hD, j, hj, x, hx => by
    by_cases h : j < D.length
    · exact hD j h hj x hx
    · simp [depsOf, List.getD, List.getElem?_eq_none (Nat.le_of_not_lt h)] at hx
  | o :: r, D, ho, hD, j, hj, x, hx => by
    refine depsOf_closed ops T hT r (D ++ [depsGo D (o.after.toList.map (·.on)) []]) (fun k => ?_) (fun i hi hai y hy => ?_) j hj x hx
    · have := ho (k + 1)
      simpa [Nat.add_assoc, Nat.add_comm 1 k] using this
    · by_cases h : i < D.length
      · refine hD i h hai y ?_
        simpa [List.getD, List.getElem?_append_left h] using hy
      · have hi' : i = D.length := by simp at hi; omega
        subst hi'
        simp [List.getD] at hy
        rcases mem_depsGo hy with h0 | ⟨e, he, h0⟩
        · cases h0
        · have hae : aftersOf ops D.length = o.after.toList.map (·.on) := by
            have := ho 0
            simp only [Nat.add_zero, List.getElem?_cons_zero] at this
            simp [aftersOf, this]
          have hTe : T e := hai e (by rw [hae]; exact List.mem_map.2 (by simpa using he))
          rcases h0 with rfl | h0
          · exact hTe
          · by_cases hel : e < D.length
            · exact hD e hel (fun e' he' => hT e hTe e' he') y (by simpa [List.getD] using h0)
            · simp [List.getElem?_eq_none (Nat.le_of_not_lt hel)] at h0

/-- Slots set: the last word on each. -/
theorem setsL_get : ∀ (ups : List (Nat × AV)) (tm : List AV), (ups.map (·.1)).Nodup → (setsL tm ups).length = tm.length ∧ ∀ s : Nat, (setsL tm ups)[s]? = match ups.find? (fun p => p.1 == s) with
    | some p => if s < tm.length then some p.2 else none
    | none => tm[s]?
  | [], tm, _ => ⟨rfl, fun s => rfl⟩
  | (i, v) :: r, tm, hn => by
    obtain ⟨hi, hr⟩ := List.nodup_cons.1 (by rw [List.map_cons] at hn; exact hn)
    obtain ⟨h1, h2⟩ := setsL_get r (tm.set i v) hr
    refine ⟨by simpa [setsL] using h1, fun s => ?_⟩
    have e : setsL tm ((i, v) :: r) = setsL (tm.set i v) r := rfl
    rw [e, h2 s]
    by_cases his : i = s
    · subst his
      have hf : r.find? (fun p => p.1 == i) = none := by
        rw [List.find?_eq_none]
        intro p hp
        simp only [beq_iff_eq]
        rintro rfl
        exact hi (List.mem_map.2 ⟨p, hp, rfl⟩)
      simp only [hf, List.find?_cons, beq_self_eq_true]
      rw [List.getElem?_set, if_pos rfl]
    · have hb : ((i, v).1 == s) = false := by simp [his]
      simp only [List.find?_cons, hb]
      cases r.find? (fun p => p.1 == s) with
      | some p => simp
      | none => simp [List.getElem?_set_ne his]
theorem setsL_in {ups : List (Nat × AV)} {tm : List AV} (hn : (ups.map (·.1)).Nodup) {s : Nat} {v : AV} (h : (s, v) ∈ ups) (hs : s < tm.length) : (setsL tm ups)[s]? = some v := by
  rw [(setsL_get ups tm hn).2 s]
  have : ups.find? (fun p => p.1 == s) = some (s, v) := by
    induction ups with
    | nil => cases h
    | cons p r ih =>
      obtain ⟨hi, hr⟩ := List.nodup_cons.1 (by rw [List.map_cons] at hn; exact hn)
      rw [List.find?_cons]
      rcases List.mem_cons.1 h with h | h
      · subst h; simp
      · have hb : (p.1 == s) = false := by
          simp only [beq_eq_false_iff_ne]
          rintro rfl
          exact hi (List.mem_map.2 ⟨_, h, rfl⟩)
        rw [hb]
        exact ih hr h
  rw [this]
  simp [hs]
theorem setsL_out {ups : List (Nat × AV)} {tm : List AV} (hn : (ups.map (·.1)).Nodup) {s : Nat} (h : ∀ p ∈ ups, p.1 ≠ s) : (setsL tm ups)[s]? = tm[s]? := by
  rw [(setsL_get ups tm hn).2 s]
  have : ups.find? (fun p => p.1 == s) = none := by
    rw [List.find?_eq_none]
    intro p hp
    simpa using h p hp
  rw [this]
theorem SubL.of_get : ∀ {l m : List AV}, l.length = m.length → (∀ (s : Nat) x y, l[s]? = some x → m[s]? = some y → SubV x y) → SubL l m
  | [], [], _, _ => .nil
  | x :: l, y :: m, hl, h => .cons (h 0 x y rfl rfl) (SubL.of_get (by simpa using hl) fun s u v hu hv => h (s + 1) u v (by simpa using hu) (by simpa using hv))
  | [], _ :: _, hl, _ => by simp at hl
  | _ :: _, [], hl, _ => by simp at hl

section
variable (ops : List Oper) (D : List (List Nat)) (R : List (AV × Option AO)) (n0 : Nat)
def dAt (j : Nat) : Nat := match ops[j]? with | some o => o.dst.getD 0 | none => 0
def vAt (j : Nat) : AV := (R.getD j (.one .dead, none)).1
def oAt (j : Nat) : Option AO := (R.getD j (.one .dead, none)).2
def inD (i j : Nat) : Bool := (D.getD j []).contains i
/-- The slots of what is listed; of what an operation is carried out from. -/
def upS (listed : Nat → Bool) (j : Nat) : Option (Nat × AV) := if listed j then some (dAt ops j, vAt R j) else none
def upP (i j : Nat) : Option (Nat × AV) := if inD D j i then some (dAt ops j, vAt R j) else if inD D i j || Nat.beq j i then none else some (dAt ops j, .one .dead)
def obF (listed : Nat → Bool) (j : Nat) : Option (Nat × AO) := if listed j then (oAt R j).map fun o => (dAt ops j, o) else none
def stS (st0 : ASt) (listed : Nat → Bool) : ASt := ⟨setsL st0.tm ((List.range n0).filterMap (upS ops R listed)), (List.range n0).filterMap (obF ops R listed) ++ st0.ob⟩
def stP (st0 : ASt) (i : Nat) : ASt := ⟨setsL st0.tm ((List.range n0).filterMap (upP ops D R i)), (List.range n0).filterMap (obF ops R fun j => inD D j i) ++ st0.ob⟩
end
theorem fm_nodup {α : Type} {d : Nat → Nat} {f : Nat → Option (Nat × α)} (hf : ∀ j p, f j = some p → p.1 = d j) : ∀ {l : List Nat}, (l.map d).Nodup → ((l.filterMap f).map (·.1)).Nodup
  | [], _ => List.nodup_nil
  | j :: r, h => by
    obtain ⟨hi, hr⟩ := List.nodup_cons.1 (by rw [List.map_cons] at h; exact h)
    rw [List.filterMap_cons]
    split
    · exact fm_nodup hf hr
    · rename_i p hp
      rw [List.map_cons, List.nodup_cons]
      refine ⟨fun hm => hi ?_, fm_nodup hf hr⟩
      obtain ⟨q, hq, e⟩ := List.mem_map.1 hm
      obtain ⟨k, hk, hfk⟩ := List.mem_filterMap.1 hq
      rw [hf j p hp, hf k q hfk] at e
      exact List.mem_map.2 ⟨k, hk, e⟩
theorem d_inj {d : Nat → Nat} {n j k : Nat} (h : ((List.range n).map d).Nodup) (hj : j < n) (hk : k < n) (e : d j = d k) : j = k := by
  have h1 : ((List.range n).map d)[j]? = some (d j) := by simp [hj]
  have h2 : ((List.range n).map d)[k]? = some (d j) := by simp [hk, e]
  exact (List.getElem?_inj (by simpa using hj) h).1 (h1.trans h2.symm)
theorem oget_append {l m : List (Nat × AO)} {id : Nat} : oget (l ++ m) id = match oget l id with | some o => some o | none => oget m id := by
  induction l with
  | nil => rfl
  | cons p r ih =>
    obtain ⟨k, o⟩ := p
    simp only [List.cons_append, oget]
    split
    · rfl
    · exact ih
theorem oget_fm {d : Nat → Nat} {f : Nat → Option (Nat × AO)} (hf : ∀ j p, f j = some p → p.1 = d j) {n : Nat} (hd : ((List.range n).map d).Nodup) {id : Nat} {o : AO} : oget ((List.range n).filterMap f) id = some o ↔ ∃ j, j < n ∧ f j = some (id, o) := by
  have key : ∀ l : List Nat, (∀ j ∈ l, j < n) → l.Nodup → (oget (l.filterMap f) id = some o ↔ ∃ j ∈ l, f j = some (id, o)) := by
    intro l
    induction l with
    | nil => intro _ _; simp [oget]
    | cons j r ih =>
      intro hl hn
      obtain ⟨hjr, hnr⟩ := List.nodup_cons.1 hn
      have ih' := ih (fun k hk => hl k (by simp [hk])) hnr
      rw [List.filterMap_cons]
      split
      · rename_i hj
        rw [ih']
        constructor
        · rintro ⟨k, hk, e⟩; exact ⟨k, by simp [hk], e⟩
        · rintro ⟨k, hk, e⟩
          rcases List.mem_cons.1 hk with rfl | hk
          · rw [hj] at e; cases e
          · exact ⟨k, hk, e⟩
      · rename_i p hj
        obtain ⟨k0, o0⟩ := p
        simp only [oget]
        have hk0 := hf j _ hj
        simp only at hk0
        by_cases hid : k0 = id
        · rw [if_pos hid]
          constructor
          · intro e; injection e with e; subst e hid; exact ⟨j, by simp, hj⟩
          · rintro ⟨k, hk, e⟩
            rcases List.mem_cons.1 hk with rfl | hk
            · rw [hj] at e; injection e with e; injection e with _ e; rw [e]
            · have h1 := hf k _ e
              simp only at h1
              have : j = k := d_inj hd (hl j (by simp)) (hl k (by simp [hk])) (by rw [← hk0, ← h1, hid])
              subst this
              exact absurd hk hjr
        · rw [if_neg hid, ih']
          constructor
          · rintro ⟨k, hk, e⟩; exact ⟨k, by simp [hk], e⟩
          · rintro ⟨k, hk, e⟩
            rcases List.mem_cons.1 hk with rfl | hk
            · rw [hj] at e; injection e with e; injection e with e _; exact absurd e hid
            · exact ⟨k, hk, e⟩
  rw [key _ (fun j hj => List.mem_range.1 hj) List.nodup_range]
  simp [List.mem_range]

def noIdV (id : Nat) : AV → Bool
  | .one c => noIdC id c
  | .agg cs => cs.all (noIdC id)
  | .tup _ => false
def noIdO (id : Nat) : AO → Bool
  | .cells _ cs => cs.all (noIdC id)
  | .row _ _ _ => true
theorem noIdC_kill {id : Nat} {c : AC} (h : noIdC id c = true) : killC id c = c := by
  cases c with
  | own i => simp only [noIdC, Bool.not_eq_true'] at h; simp only [killC]; rw [if_neg (Nat.ne_of_beq_eq_false h)]
  | ref i k s off => simp only [noIdC, Bool.not_eq_true'] at h; simp only [killC]; rw [if_neg (Nat.ne_of_beq_eq_false h)]
  | _ => rfl
theorem noIdCs_kill {id : Nat} {cs : List AC} (h : cs.all (noIdC id) = true) : cs.map (killC id) = cs := by
  induction cs with
  | nil => rfl
  | cons c r ih =>
    simp only [List.all_cons, Bool.and_eq_true] at h
    rw [List.map_cons, noIdC_kill h.1, ih h.2]
theorem noIdV_kill {id : Nat} {x : AV} (h : noIdV id x = true) : killV id x = x := by
  cases x with
  | one c => simp only [killV]; rw [noIdC_kill h]
  | agg cs => simp only [killV]; rw [noIdCs_kill h]
  | tup vs => cases h
theorem noIdO_kill {id : Nat} {o : AO} (h : noIdO id o = true) : killO id o = o := by
  cases o with
  | cells t cs => simp only [killO]; rw [noIdCs_kill h]
  | row e s xs => rfl

/-- What a free operation comes to, from whatever state says as much as P: any continuation that takes its outcomes holds. -/
def FreeOut (E : AEnv) (S : Base) (o : Oper) (P : ASt) (v : AV) (oo : Option AO) : Prop :=
  ∀ Z ρ a w, Sim E.W S Z ρ P a w → ∀ (Kont : Act → World → Prop) Q,
    (∀ v' w' Z' ρ', w.grownBy w' none → (∀ b, Z b → Z' b) → (∀ b, Z' b → Z b ∨ (w.heap.size ≤ b ∧ b < w'.heap.size)) → RelV Z' w' ρ' v v' →
      (match oo with
        | none => ρ' = ρ
        | some ob => ∃ d, o.dst = some d ∧ ρ' = (fun i => if i = d then v' else ρ i) ∧ (∀ b, blkOf v' = some b → w.heap.size ≤ b) ∧ RelO Z' w' ρ' d ob ∧ Z' = Z) → Kont (a.put o.dst v') w') → Oper.wp E.P o a w Kont Q

section
variable {E : AEnv} {S : Base} {ops : List Oper} {R : List (AV × Option AO)} {n0 : Nat} {st0 : ASt}
theorem upS_fst {listed : Nat → Bool} (j : Nat) (p : Nat × AV) (h : upS ops R listed j = some p) : p.1 = dAt ops j := by unfold upS at h; split at h <;> first | (injection h with h; subst h; rfl) | cases h
theorem upP_fst {D : List (List Nat)} {i : Nat} (j : Nat) (p : Nat × AV) (h : upP ops D R i j = some p) : p.1 = dAt ops j := by
  unfold upP at h
  split at h
  · injection h with h; subst h; rfl
  · split at h
    · cases h
    · injection h with h; subst h; rfl
theorem obF_fst {listed : Nat → Bool} (j : Nat) (p : Nat × AO) (h : obF ops R listed j = some p) : p.1 = dAt ops j := by
  unfold obF at h
  split at h
  · obtain ⟨o, _, rfl⟩ := Option.map_eq_some_iff.1 h; rfl
  · cases h

/-- The slots of a state of which some operations are listed. -/
theorem stS_at (hd : ((List.range n0).map (dAt ops)).Nodup) {listed : Nat → Bool} {j : Nat} (hj : j < n0) (hl : listed j = true) (hs : dAt ops j < st0.tm.length) : (stS ops R n0 st0 listed).tm[dAt ops j]? = some (vAt R j) :=
  setsL_in (fm_nodup upS_fst hd) (List.mem_filterMap.2 ⟨j, List.mem_range.2 hj, by simp [upS, hl]⟩) hs
theorem stS_un (hd : ((List.range n0).map (dAt ops)).Nodup) {listed : Nat → Bool} {s : Nat} (h : ∀ j, j < n0 → listed j = true → dAt ops j ≠ s) : (stS ops R n0 st0 listed).tm[s]? = st0.tm[s]? := by
  refine setsL_out (fm_nodup upS_fst hd) fun p hp => ?_
  obtain ⟨j, hj, hf⟩ := List.mem_filterMap.1 hp
  unfold upS at hf
  split at hf
  · rename_i hl
    injection hf with hf
    subst hf
    exact h j (List.mem_range.1 hj) hl
  · cases hf
theorem stS_len (hd : ((List.range n0).map (dAt ops)).Nodup) {listed : Nat → Bool} : (stS ops R n0 st0 listed).tm.length = st0.tm.length := (setsL_get _ _ (fm_nodup upS_fst hd)).1
theorem stS_ob (hd : ((List.range n0).map (dAt ops)).Nodup) {listed : Nat → Bool} {id : Nat} {o : AO} : oget (stS ops R n0 st0 listed).ob id = some o ↔ (∃ j, j < n0 ∧ listed j = true ∧ dAt ops j = id ∧ oAt R j = some o) ∨ ((∀ j, j < n0 → listed j = true → dAt ops j = id → oAt R j = none) ∧ oget st0.ob id = some o) := by
  have h0 : ∀ o, oget ((List.range n0).filterMap (obF ops R listed)) id = some o ↔ ∃ j, j < n0 ∧ listed j = true ∧ dAt ops j = id ∧ oAt R j = some o := by
    intro o
    rw [oget_fm obF_fst hd]
    constructor
    · rintro ⟨j, hj, hf⟩
      unfold obF at hf
      split at hf
      · rename_i hl
        obtain ⟨o', ho', e⟩ := Option.map_eq_some_iff.1 hf
        injection e with e1 e2
        exact ⟨j, hj, hl, e1, e2 ▸ ho'⟩
      · cases hf
    · rintro ⟨j, hj, hl, e, ho⟩
      exact ⟨j, hj, by simp [obF, hl, ho, e]⟩
  show oget (_ ++ _) id = some o ↔ _
  rw [oget_append]
  cases hg : oget ((List.range n0).filterMap (obF ops R listed)) id with
  | some o' =>
    obtain ⟨j, hj, hl, e, ho⟩ := (h0 o').1 hg
    simp only
    constructor
    · intro e'; injection e' with e'; subst e'; exact .inl ⟨j, hj, hl, e, ho⟩
    · rintro (h | ⟨h, _⟩)
      · have := (h0 o).2 h; rw [hg] at this; exact this
      · have := h j hj hl e; rw [ho] at this; cases this
  | none =>
    simp only
    constructor
    · intro e'
      refine .inr ⟨fun j hj hl e => ?_, e'⟩
      cases ho : oAt R j with
      | none => rfl
      | some o' => have := (h0 o').2 ⟨j, hj, hl, e, ho⟩; rw [hg] at this; cases this
    · rintro (h | ⟨_, h⟩)
      · have := (h0 o).2 h; rw [hg] at this; cases this
      · exact h
end
end Go.Proofs.YtlhanpkfnhnegaaDoor
