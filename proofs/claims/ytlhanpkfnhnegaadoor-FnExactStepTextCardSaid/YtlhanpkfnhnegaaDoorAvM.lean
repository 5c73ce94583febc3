/- Regions that draw their order: sound. -/
import Derived.Test.YtlhanpkfnhnegaaDoorAvL
set_option linter.unusedVariables false
set_option linter.unusedSimpArgs false
set_option maxRecDepth 100000
namespace Go.Proofs.YtlhanpkfnhnegaaDoor
open Go.RowKit

section
variable {E : AEnv} {S : Base} {ops : List Oper} {D : List (List Nat)} {R : List (AV × Option AO)} {n0 : Nat} {st0 : ASt}

theorem stP_at (hd : ((List.range n0).map (dAt ops)).Nodup) {i j : Nat} (hj : j < n0) (hs : dAt ops j < st0.tm.length) :
    (stP ops D R n0 st0 i).tm[dAt ops j]? = if inD D j i then some (vAt R j) else if inD D i j || Nat.beq j i then st0.tm[dAt ops j]? else some (.one .dead) := by
  by_cases h1 : inD D j i = true
  · rw [if_pos h1]
    exact setsL_in (fm_nodup upP_fst hd) (List.mem_filterMap.2 ⟨j, List.mem_range.2 hj, by simp [upP, h1]⟩) hs
  · rw [if_neg h1]
    by_cases h2 : (inD D i j || Nat.beq j i) = true
    · rw [if_pos h2]
      refine setsL_out (fm_nodup upP_fst hd) fun p hp e => ?_
      obtain ⟨k, hk, hf⟩ := List.mem_filterMap.1 hp
      have e2 := upP_fst k p hf
      have : k = j := d_inj hd (List.mem_range.1 hk) hj (by rw [← e2, e])
      subst this
      unfold upP at hf
      rw [if_neg h1, if_pos h2] at hf
      cases hf
    · rw [if_neg h2]
      exact setsL_in (fm_nodup upP_fst hd) (List.mem_filterMap.2 ⟨j, List.mem_range.2 hj, by unfold upP; rw [if_neg h1, if_neg h2]⟩) hs
theorem stP_un (hd : ((List.range n0).map (dAt ops)).Nodup) {i s : Nat} (h : ∀ j, j < n0 → dAt ops j ≠ s) : (stP ops D R n0 st0 i).tm[s]? = st0.tm[s]? := by
  refine setsL_out (fm_nodup upP_fst hd) fun p hp => ?_
  obtain ⟨j, hj, hf⟩ := List.mem_filterMap.1 hp
  rw [upP_fst j p hf]
  exact h j (List.mem_range.1 hj)

/-- The state that an operation is carried out from says no more than what is listed. -/
theorem stP_sub (hd : ((List.range n0).map (dAt ops)).Nodup) (hlen : ∀ j, j < n0 → dAt ops j < st0.tm.length) (hob : ∀ j, j < n0 → oAt R j ≠ none → oget st0.ob (dAt ops j) = none) {listed : Nat → Bool} {i : Nat}
    (hli : listed i = false) (hD : ∀ j, j < n0 → inD D j i = true → listed j = true) (hA : ∀ j, j < n0 → inD D i j = true → listed j = false) :
    SubL (stS ops R n0 st0 listed).tm (stP ops D R n0 st0 i).tm ∧ SubO (stS ops R n0 st0 listed).ob (stP ops D R n0 st0 i).ob := by
  constructor
  · refine SubL.of_get (by rw [stS_len hd]; exact (setsL_get _ _ (fm_nodup upP_fst hd)).1.symm) fun s x y hx hy => ?_
    by_cases hs : ∃ j, j < n0 ∧ dAt ops j = s
    · obtain ⟨j, hj, rfl⟩ := hs
      rw [stP_at hd hj (hlen j hj)] at hy
      have un : listed j = false → (stS ops R n0 st0 listed).tm[dAt ops j]? = st0.tm[dAt ops j]? := fun hl => stS_un hd fun k hk hkl e => by
        have := d_inj hd hk hj e
        subst this
        rw [hl] at hkl
        cases hkl
      split at hy
      · rename_i h1
        rw [stS_at hd hj (hD j hj h1) (hlen j hj)] at hx
        injection hx with hx
        injection hy with hy
        rw [← hx, ← hy]
        exact .refl _
      · split at hy
        · rename_i h1 h2
          have hl : listed j = false := by
            simp only [Bool.or_eq_true] at h2
            rcases h2 with h2 | h2
            · exact hA j hj h2
            · rw [Nat.eq_of_beq_eq_true h2]; exact hli
          rw [un hl, hy] at hx
          injection hx with hx
          rw [hx]
          exact .refl _
        · injection hy with hy
          subst hy
          exact .dead _
    · have h : ∀ j, j < n0 → dAt ops j ≠ s := fun j hj e => hs ⟨j, hj, e⟩
      rw [stS_un hd fun j hj _ => h j hj] at hx
      rw [stP_un hd h, hx] at hy
      injection hy with hy
      rw [hy]
      exact .refl _
  · intro id o ho
    have e : (stP ops D R n0 st0 i).ob = (stS ops R n0 st0 fun j => inD D j i).ob := rfl
    rw [e, stS_ob hd] at ho
    rw [stS_ob hd]
    rcases ho with ⟨j, hj, h1, h2, h3⟩ | ⟨h1, h2⟩
    · exact .inl ⟨j, hj, hD j hj h1, h2, h3⟩
    · refine .inr ⟨fun j hj hl e => ?_, h2⟩
      cases ho : oAt R j with
      | none => rfl
      | some o' =>
        have := hob j hj (by rw [ho]; simp)
        rw [e, h2] at this
        cases this

/-- What the evaluation in the order of the text has shown. -/
structure DFacts (E : AEnv) (S : Base) (ops : List Oper) (D : List (List Nat)) (R : List (AV × Option AO)) (n0 : Nat) (st0 : ASt) : Prop where
  le : n0 ≤ ops.length
  nd : ((List.range n0).map (dAt ops)).Nodup
  dst : ∀ i o, i < n0 → ops[i]? = some o → o.dst = some (dAt ops i)
  len : ∀ j, j < n0 → dAt ops j < st0.tm.length
  ob : ∀ j, j < n0 → oAt R j ≠ none → oget st0.ob (dAt ops j) = none
  noV : ∀ i, i < n0 → oAt R i ≠ none → (∀ x ∈ st0.tm, noIdV (dAt ops i) x = true) ∧ ∀ p ∈ st0.ob, noIdO (dAt ops i) p.2 = true
  noR : ∀ i j, i < n0 → j < n0 → oAt R i ≠ none → inD D i j = false → j ≠ i → noIdV (dAt ops i) (vAt R j) = true ∧ ∀ o, oAt R j = some o → noIdO (dAt ops i) o = true
  out : ∀ i o, i < n0 → ops[i]? = some o → match o.guard with
    | none => FreeOut E S o (stP ops D R n0 st0 i) (vAt R i) (oAt R i)
    | some (g, want) => g < n0 ∧ inD D g i = true ∧ ∃ p, vAt R g = vB p ∧ ((p = want ∧ FreeOut E S o (stP ops D R n0 st0 i) (vAt R i) (oAt R i)) ∨ (p ≠ want ∧ vAt R i = .one .und ∧ oAt R i = none))

theorem oget_mem {l : List (Nat × AO)} {id : Nat} {o : AO} (h : oget l id = some o) : (id, o) ∈ l := by
  induction l with
  | nil => cases h
  | cons p r ih =>
    obtain ⟨k, x⟩ := p
    simp only [oget] at h
    split at h
    · rename_i e; injection h with h; subst e h; simp
    · exact List.mem_cons_of_mem _ (ih h)

theorem draw_put (F : DFacts E S ops D R n0 st0) {listed : Nat → Bool} {i : Nat} {o : Oper} (hi : i < n0) (ho : ops[i]? = some o) (hA : ∀ j, j < n0 → inD D i j = true → listed j = false) (hli : listed i = false)
    {Z Z' : Nat → Prop} {ρ ρ' : Nat → Value} {a : Act} {w w' : World} {v' : Value} (hs : Sim E.W S Z ρ (stS ops R n0 st0 listed) a w)
    (hg : w.grownBy w' none) (hz : ∀ b, Z b → Z' b) (hz2 : ∀ b, Z' b → Z b ∨ (w.heap.size ≤ b ∧ b < w'.heap.size)) (hv : RelV Z' w' ρ' (vAt R i) v')
    (hoo : match oAt R i with
        | none => ρ' = ρ
        | some ob => ∃ d, o.dst = some d ∧ ρ' = (fun i => if i = d then v' else ρ i) ∧ (∀ b, blkOf v' = some b → w.heap.size ≤ b) ∧ RelO Z' w' ρ' d ob ∧ Z' = Z) :
    SimX E.W S (stS ops R n0 st0 fun j => listed j || Nat.beq j i) (a.put o.dst v') w' := by
  have hdst := F.dst i o hi ho
  have hnd := F.nd
  have slot : ∀ s, s ≠ dAt ops i → (stS ops R n0 st0 fun j => listed j || Nat.beq j i).tm[s]? = (stS ops R n0 st0 listed).tm[s]? := by
    intro s hne
    by_cases hex : ∃ j, j < n0 ∧ listed j = true ∧ dAt ops j = s
    · obtain ⟨j, hj, hl, rfl⟩ := hex
      rw [stS_at hnd hj (by simp [hl]) (F.len j hj), stS_at hnd hj hl (F.len j hj)]
    · rw [stS_un hnd fun j hj hl e => ?_, stS_un hnd fun j hj hl e => hex ⟨j, hj, hl, e⟩]
      simp only [Bool.or_eq_true] at hl
      rcases hl with hl | hl
      · exact hex ⟨j, hj, hl, e⟩
      · exact hne (by rw [← e, Nat.eq_of_beq_eq_true hl])
  have slotI : (stS ops R n0 st0 fun j => listed j || Nat.beq j i).tm[dAt ops i]? = some (vAt R i) := stS_at hnd hi (by simp) (F.len i hi)
  cases ho' : oAt R i with
  | none =>
    rw [ho'] at hoo
    have hoo : ρ' = ρ := hoo
    subst hoo
    have h1 := (hs.grow hg hz hz2).put o.dst hv
    refine ⟨Z', ρ', h1.sub (SubL.of_get ?_ fun s x y hx hy => ?_) fun id ob hob => ?_⟩
    · rw [hdst]; simp [putT, stS_len hnd]
    · rw [hdst] at hx
      simp only [putT, List.getElem?_set] at hx
      by_cases hsd : dAt ops i = s
      · subst hsd
        rw [slotI] at hy
        rw [if_pos rfl, stS_len hnd, if_pos (F.len i hi)] at hx
        injection hx with hx
        injection hy with hy
        rw [← hx, ← hy]
        exact .refl _
      · rw [if_neg hsd] at hx
        rw [slot s (fun e => hsd e.symm), hx] at hy
        injection hy with hy
        rw [hy]
        exact .refl _
    · rw [stS_ob hnd] at hob
      show oget (stS ops R n0 st0 listed).ob id = some ob
      rw [stS_ob hnd]
      rcases hob with ⟨j, hj, hl, e, h⟩ | ⟨h, hb⟩
      · simp only [Bool.or_eq_true] at hl
        rcases hl with hl | hl
        · exact .inl ⟨j, hj, hl, e, h⟩
        · rw [Nat.eq_of_beq_eq_true hl, ho'] at h; cases h
      · exact .inr ⟨fun j hj hl e => h j hj (by simp [hl]) e, hb⟩
  | some ob =>
    rw [ho'] at hoo
    obtain ⟨d, hd, hρ, hb, hrel, hZ⟩ := hoo
    rw [hdst] at hd
    injection hd with hd
    subst hd hZ hρ
    have hne : oAt R i ≠ none := by rw [ho']; simp
    have h1 := (hs.renew (dAt ops i) v' ob hg (by simp) (fun b hbb => .inr (hb b hbb)) hrel).put o.dst hv
    have noS : ∀ (s : Nat) x, (stS ops R n0 st0 listed).tm[s]? = some x → killV (dAt ops i) x = x := by
      intro s x hx
      by_cases hex : ∃ j, j < n0 ∧ listed j = true ∧ dAt ops j = s
      · obtain ⟨j, hj, hl, rfl⟩ := hex
        rw [stS_at hnd hj hl (F.len j hj)] at hx
        injection hx with hx
        subst hx
        have hij : inD D i j = false := by
          cases h : inD D i j with
          | false => rfl
          | true => have := hA j hj h; rw [hl] at this; cases this
        exact noIdV_kill (F.noR i j hi hj hne hij (fun e => by subst e; rw [hli] at hl; cases hl)).1
      · rw [stS_un hnd fun j hj hl e => hex ⟨j, hj, hl, e⟩] at hx
        exact noIdV_kill ((F.noV i hi hne).1 x (List.mem_of_getElem? hx))
    have noO : ∀ id o', oget (stS ops R n0 st0 listed).ob id = some o' → killO (dAt ops i) o' = o' := by
      intro id o' h
      rw [stS_ob hnd] at h
      rcases h with ⟨j, hj, hl, e, h⟩ | ⟨_, h⟩
      · have hij : inD D i j = false := by
          cases h : inD D i j with
          | false => rfl
          | true => have := hA j hj h; rw [hl] at this; cases this
        exact noIdO_kill ((F.noR i j hi hj hne hij (fun e => by subst e; rw [hli] at hl; cases hl)).2 o' h)
      · exact noIdO_kill ((F.noV i hi hne).2 (id, o') (oget_mem h))
    refine ⟨Z', _, h1.sub (SubL.of_get ?_ fun s x y hx hy => ?_) fun id o' hob => ?_⟩
    · rw [hdst]; simp [putT, killSt, stS_len hnd]
    · rw [hdst] at hx
      simp only [putT, List.getElem?_set] at hx
      by_cases hsd : dAt ops i = s
      · subst hsd
        rw [slotI] at hy
        rw [if_pos rfl] at hx
        simp only [killSt, List.length_map, stS_len hnd, if_pos (F.len i hi)] at hx
        injection hx with hx
        injection hy with hy
        rw [← hx, ← hy]
        exact .refl _
      · rw [if_neg hsd] at hx
        simp only [killSt, List.getElem?_map] at hx
        obtain ⟨x0, hx0, rfl⟩ := Option.map_eq_some_iff.1 hx
        rw [slot s (fun e => hsd e.symm), hx0] at hy
        injection hy with hy
        rw [noS s x0 hx0, hy]
        exact .refl _
    · show oget (oset (killSt (dAt ops i) (stS ops R n0 st0 listed)).ob (dAt ops i) ob) id = some o'
      rw [oget_oset]
      rw [stS_ob hnd] at hob
      by_cases hid : dAt ops i = id
      · rw [if_pos hid]
        rcases hob with ⟨j, hj, hl, e, h⟩ | ⟨h, _⟩
        · have : j = i := d_inj hnd hj hi (by rw [e, hid])
          subst this
          rw [ho'] at h
          exact h
        · have := h i hi (by simp) hid
          rw [ho'] at this
          cases this
      · rw [if_neg hid]
        have hold : oget (stS ops R n0 st0 listed).ob id = some o' := by
          rw [stS_ob hnd]
          rcases hob with ⟨j, hj, hl, e, h⟩ | ⟨h, hb⟩
          · simp only [Bool.or_eq_true] at hl
            rcases hl with hl | hl
            · exact .inl ⟨j, hj, hl, e, h⟩
            · exact absurd (by rw [← e, Nat.eq_of_beq_eq_true hl]) hid
          · exact .inr ⟨fun j hj hl e => h j hj (by simp [hl]) e, hb⟩
        simp only [killSt, oget_okill, hold, Option.map_some]
        rw [noO id o' hold]

/-- One operation, whichever is ready. -/
theorem draw_step (F : DFacts E S ops D R n0 st0) {listed : Nat → Bool} {i : Nat} {o : Oper} (hi : i < n0) (ho : ops[i]? = some o) (hli : listed i = false) (hD : ∀ j, inD D j i = true → listed j = true) (hA : ∀ j, j < n0 → inD D i j = true → listed j = false)
    {a : Act} {w : World} (hs : SimX E.W S (stS ops R n0 st0 listed) a w) {Kont : Act → World → Prop} {Q : Exit → Act → World → Prop} (hK : ∀ a' w', SimX E.W S (stS ops R n0 st0 fun j => listed j || Nat.beq j i) a' w' → Kont a' w') :
    (Region.wanted o (yielded ops.toArray a.tmps) = true → o.wp E.P a w Kont Q) ∧ (Region.wanted o (yielded ops.toArray a.tmps) = false → Kont (a.put o.dst undef) w) := by
  obtain ⟨Z, ρ, hs⟩ := hs
  have hsub := stP_sub (D := D) F.nd F.len F.ob hli (fun j _ h => hD j h) hA
  have run : FreeOut E S o (stP ops D R n0 st0 i) (vAt R i) (oAt R i) → o.wp E.P a w Kont Q := fun hf =>
    hf Z ρ a w (hs.sub hsub.1 hsub.2) Kont Q fun v' w' Z' ρ' h1 h2 h3 h4 h5 => hK _ _ (draw_put F hi ho hA hli hs h1 h2 h3 h4 h5)
  have hout := F.out i o hi ho
  cases hg : o.guard with
  | none =>
    rw [hg] at hout
    exact ⟨fun _ => run hout, fun h => by simp [Region.wanted, hg] at h⟩
  | some gw =>
    obtain ⟨g, want⟩ := gw
    rw [hg] at hout
    obtain ⟨hgn, hgi, p, hp, hcase⟩ := hout
    have hgl : listed g = true := hD g hgi
    have hy : yielded ops.toArray a.tmps g = some p := by
      have hx := stS_at (R := R) (st0 := st0) F.nd hgn hgl (F.len g hgn)
      obtain ⟨og, hog⟩ : ∃ og, ops[g]? = some og := by
        have := F.le
        exact ⟨ops[g], List.getElem?_eq_getElem (by omega)⟩
      have hdg := F.dst g og hgn hog
      have hlt : dAt ops g < a.tmps.size := by rw [hs.len, stS_len F.nd]; exact F.len g hgn
      have hrel := hs.tm _ _ _ hx (Array.getElem?_eq_getElem hlt)
      rw [hp] at hrel
      have := relV_pv hrel
      simp [yielded, hog, hdg, hlt, this]
    have hw : Region.wanted o (yielded ops.toArray a.tmps) = (p == want) := by simp [Region.wanted, hg, hy]
    rcases hcase with ⟨hpw, hf⟩ | ⟨hpw, hv, hoo⟩
    · exact ⟨fun _ => run hf, fun h => by rw [hw, hpw] at h; simp at h⟩
    · refine ⟨fun h => by rw [hw] at h; exact absurd (by simpa using h) hpw, fun _ => hK _ _ ?_⟩
      refine draw_put F hi ho hA hli hs (World.grownBy.refl w _) (fun _ h => h) (fun _ h => .inl h) (ρ' := ρ) ?_ ?_
      · rw [hv]; exact .one _ _ (show RelC Z w ρ .und undef from rfl)
      · rw [hoo]
end
end Go.Proofs.YtlhanpkfnhnegaaDoor
