/- An own slice that is written no more stands from there on: its names become data. -/
import Derived.Test.YtmgcnmdbhahhlaaGreatAvJ3
set_option linter.unusedVariables false
set_option linter.unusedSimpArgs false
set_option maxRecDepth 100000
namespace Go.Proofs.YtmgcnmdbhahhlaaGreat
open Go.RowKit

def frzC (id : Nat) (xs : List (List AD)) : AC → AC
  | .own i => match Nat.beq i id with
    | true => .d (.sl xs)
    | false => .own i
  | .ref i k s off => match Nat.beq i id with
    | true => .dead
    | false => .ref i k s off
  | c => c
def frzV (id : Nat) (xs : List (List AD)) : AV → AV
  | .one c => .one (frzC id xs c)
  | .agg cs => .agg (cs.map (frzC id xs))
  | .tup _ => .one .dead
def frzO (id : Nat) (xs : List (List AD)) : AO → AO
  | .cells t cs => .cells t (cs.map (frzC id xs))
  | .frame vs us => .frame (vs.map (frzV id xs)) us
  | o => o
def frzOs (id : Nat) (xs : List (List AD)) : List (Nat × AO) → List (Nat × AO)
  | [] => []
  | (i, o) :: r => match Nat.beq i id with
    | true => frzOs id xs r
    | false => (i, frzO id xs o) :: frzOs id xs r
def aFrzC (id : Nat) (xs : List (List AD)) (c : AC) (K : AC → Prop) : Prop :=
  match c with
  | .own i => match Nat.beq i id with
    | true => K (.d (.sl xs))
    | false => K (.own i)
  | .ref i k s off => match Nat.beq i id with
    | true => K .dead
    | false => K (.ref i k s off)
  | c => K c
theorem aFrzC_get {id : Nat} {xs : List (List AD)} {c : AC} {K : AC → Prop} (h : aFrzC id xs c K) : K (frzC id xs c) := by
  cases c with
  | own i => simp only [aFrzC] at h; simp only [frzC]; split at h <;> simp_all
  | ref i k s off => simp only [aFrzC] at h; simp only [frzC]; split at h <;> simp_all
  | _ => exact h
def aFrzCs (id : Nat) (xs : List (List AD)) : List AC → (List AC → Prop) → Prop
  | [], K => K []
  | c :: r, K => aFrzC id xs c fun c => aFrzCs id xs r fun r => K (c :: r)
theorem aFrzCs_get {id : Nat} {xs : List (List AD)} : ∀ {l : List AC} {K : List AC → Prop}, aFrzCs id xs l K → K (l.map (frzC id xs))
  | [], _, h => h
  | c :: r, K, h => aFrzCs_get (l := r) (K := fun r' => K (frzC id xs c :: r')) (aFrzC_get h)
def aFrzV (id : Nat) (xs : List (List AD)) (x : AV) (K : AV → Prop) : Prop :=
  match x with
  | .one c => aFrzC id xs c fun c => K (.one c)
  | .agg cs => aFrzCs id xs cs fun cs => K (.agg cs)
  | .tup _ => K (.one .dead)
theorem aFrzV_get {id : Nat} {xs : List (List AD)} {x : AV} {K : AV → Prop} (h : aFrzV id xs x K) : K (frzV id xs x) := by
  cases x with
  | one c => exact aFrzC_get (K := fun c => K (.one c)) h
  | agg cs => exact aFrzCs_get (K := fun cs => K (.agg cs)) h
  | tup vs => exact h
def aFrzL (id : Nat) (xs : List (List AD)) : List AV → (List AV → Prop) → Prop
  | [], K => K []
  | x :: r, K => aFrzV id xs x fun x => aFrzL id xs r fun r => K (x :: r)
theorem aFrzL_get {id : Nat} {xs : List (List AD)} : ∀ {l : List AV} {K : List AV → Prop}, aFrzL id xs l K → K (l.map (frzV id xs))
  | [], _, h => h
  | x :: r, K, h => aFrzL_get (l := r) (K := fun r' => K (frzV id xs x :: r')) (aFrzV_get h)
def aFrzO (id : Nat) (xs : List (List AD)) : List (Nat × AO) → (List (Nat × AO) → Prop) → Prop
  | [], K => K []
  | (i, .cells t cs) :: r, K => match Nat.beq i id with
    | true => aFrzO id xs r K
    | false => aFrzCs id xs cs fun cs => aFrzO id xs r fun r => K ((i, .cells t cs) :: r)
  | (i, .row e s ys) :: r, K => match Nat.beq i id with
    | true => aFrzO id xs r K
    | false => aFrzO id xs r fun r => K ((i, .row e s ys) :: r)
  | (i, .frame vs us) :: r, K => match Nat.beq i id with
    | true => aFrzO id xs r K
    | false => aFrzL id xs vs fun vs => aFrzO id xs r fun r => K ((i, .frame vs us) :: r)
  | (i, .any Q) :: r, K => match Nat.beq i id with
    | true => aFrzO id xs r K
    | false => aFrzO id xs r fun r => K ((i, .any Q) :: r)
  | (i, .many P Q) :: r, K => match Nat.beq i id with
    | true => aFrzO id xs r K
    | false => aFrzO id xs r fun r => K ((i, .many P Q) :: r)
theorem aFrzO_get {id : Nat} {xs : List (List AD)} : ∀ {l : List (Nat × AO)} {K : List (Nat × AO) → Prop}, aFrzO id xs l K → K (frzOs id xs l)
  | [], _, h => h
  | (i, .cells t cs) :: r, K, h => by
    simp only [aFrzO] at h
    simp only [frzOs]
    split at h
    · exact aFrzO_get h
    · exact aFrzO_get (l := r) (K := fun r' => K ((i, .cells t (cs.map (frzC id xs))) :: r')) (aFrzCs_get (K := fun cs => aFrzO id xs r fun r => K ((i, .cells t cs) :: r)) h)
  | (i, .row e s ys) :: r, K, h => by
    simp only [aFrzO] at h
    simp only [frzOs]
    split at h
    · exact aFrzO_get h
    · exact aFrzO_get (l := r) (K := fun r' => K ((i, .row e s ys) :: r')) h
  | (i, .frame vs us) :: r, K, h => by
    simp only [aFrzO] at h
    simp only [frzOs]
    split at h
    · exact aFrzO_get h
    · exact aFrzO_get (l := r) (K := fun r' => K ((i, .frame (vs.map (frzV id xs)) us) :: r')) (aFrzL_get (K := fun vs => aFrzO id xs r fun r => K ((i, .frame vs us) :: r)) h)
  | (i, .any Q) :: r, K, h => by
    simp only [aFrzO] at h
    simp only [frzOs]
    split at h
    · exact aFrzO_get h
    · exact aFrzO_get (l := r) (K := fun r' => K ((i, .any Q) :: r')) h
  | (i, .many P Q) :: r, K, h => by
    simp only [aFrzO] at h
    simp only [frzOs]
    split at h
    · exact aFrzO_get h
    · exact aFrzO_get (l := r) (K := fun r' => K ((i, .many P Q) :: r')) h
theorem frzOs_old {id : Nat} {xs : List (List AD)} : ∀ {ob : List (Nat × AO)} {j : Nat} {o : AO}, oget (frzOs id xs ob) j = some o → j ≠ id ∧ ∃ o0, oget ob j = some o0 ∧ o = frzO id xs o0
  | [], _, _, h => by cases h
  | (i, o1) :: r, j, o, h => by
    simp only [frzOs] at h
    cases hb : Nat.beq i id with
    | true =>
      rw [hb] at h
      obtain ⟨h1, o0, h2, h3⟩ := frzOs_old h
      refine ⟨h1, o0, ?_, h3⟩
      have : i ≠ j := fun e => h1 (e ▸ Nat.eq_of_beq_eq_true hb)
      simp only [oget]
      rw [if_neg this]
      exact h2
    | false =>
      rw [hb] at h
      simp only [oget] at h ⊢
      split at h
      · rename_i e
        injection h with h
        subst e
        exact ⟨Nat.ne_of_beq_eq_false hb, o1, by rw [if_pos rfl], h.symm⟩
      · rename_i e
        obtain ⟨h1, o0, h2, h3⟩ := frzOs_old h
        exact ⟨h1, o0, by rw [if_neg e]; exact h2, h3⟩

section
variable {T : World → Prop} {S : Base} {Z : Nat → Prop} {w : World} {ρ : Nat → Value} {ob : List (Nat × AO)}
def ZFrz (Z : Nat → Prop) (ρ : Nat → Value) (id : Nat) (b : Nat) : Prop := Z b ∨ blkOf (ρ id) = some b
theorem row_data {e : TypeId} {s id : Nat} {xs : List (List AD)} (h : RelO Z w ρ id (.row e s xs)) : RelD (ZFrz Z ρ id) w (.sl xs) (ρ id) := by
  obtain ⟨us, h0, hl, hxs, hus, hown, hd⟩ := h
  have up : ∀ {d : AD} {v : Value}, RelD Z w d v → RelD (ZFrz Z ρ id) w d v := fun hd => hd.mono (fun b hb => .inl hb) fun _ _ => rfl
  rcases hown.2 with ⟨hv, hn⟩ | ⟨g, cap, cur, hv, _, hg, h1, h2, h3, h4⟩
  · have : xs = [] := List.eq_nil_of_length_eq_zero hn
    subst this
    rw [hv]
    exact .sl [] none 0 0 [] (Nat.le_refl _) (Nat.zero_le _) rfl (by simp) (by simp) (.inl rfl) (by simp)
  · rw [hv]
    refine .sl xs _ cap s us h1 h2 hl hxs hus (.inr ⟨g, 0, rfl, .inr (by rw [hv]; rfl), fun i u hu => ?_⟩) fun i j x u a b e1 e2 e3 e4 => up (hd i j x u a b e1 e2 e3 e4)
    rw [Nat.zero_add]
    exact own_cell hown (by rw [hv]; rfl) hu
theorem frzC_rel {e : TypeId} {s id : Nat} {xs : List (List AD)} (hr : RelO Z w ρ id (.row e s xs)) {c : AC} {v : Value} (h : RelC Z w ρ c v) : RelC (ZFrz Z ρ id) w ρ (frzC id xs c) v := by
  have up : ∀ b, Z b → ZFrz Z ρ id b := fun b hb => .inl hb
  cases c with
  | own i =>
    simp only [frzC]
    split
    · rename_i hb
      have hi := Nat.eq_of_beq_eq_true hb
      subst hi
      have hv : v = ρ i := h.1
      subst hv
      exact row_data hr
    · exact h
  | ref i k s off =>
    simp only [frzC]
    split
    · trivial
    · exact h
  | d x => exact RelC.mono up (fun _ _ => rfl) (c := .d x) h
  | ptr cs => exact RelC.mono up (fun _ _ => rfl) (c := .ptr cs) h
  | dead => trivial
  | und => exact h
  | nil => exact h
theorem frzV_rel {e : TypeId} {s id : Nat} {xs : List (List AD)} (hr : RelO Z w ρ id (.row e s xs)) {x : AV} {v : Value} (h : RelV Z w ρ x v) : RelV (ZFrz Z ρ id) w ρ (frzV id xs x) v := by
  cases h with
  | one c v h => exact .one _ _ (frzC_rel hr h)
  | agg cs us hl h =>
    refine .agg _ us (by simp [hl]) fun i c u hc hu => ?_
    rw [List.getElem?_map] at hc
    obtain ⟨c0, h0, rfl⟩ := Option.map_eq_some_iff.1 hc
    exact frzC_rel hr (h i c0 u h0 hu)
  | tup vs us hl h => exact .one _ _ trivial
theorem frzO_rel {e : TypeId} {s id j : Nat} {xs : List (List AD)} (hr : RelO Z w ρ id (.row e s xs)) {o : AO} (h : RelO' Z w ρ j o) : RelO' (ZFrz Z ρ id) w ρ j (frzO id xs o) := by
  have up : ∀ b, Z b → ZFrz Z ρ id b := fun b hb => .inl hb
  cases o with
  | cells t cs =>
    obtain ⟨b, us, hp, hg, hl, hc⟩ := (show RelO Z w ρ j (.cells t cs) from h)
    show RelO _ w ρ j (.cells t _)
    refine ⟨b, us, hp, hg, by simp [hl], fun i c u h1 h2 => ?_⟩
    rw [List.getElem?_map] at h1
    obtain ⟨c0, h0, rfl⟩ := Option.map_eq_some_iff.1 h1
    exact frzC_rel hr (hc i c0 u h0 h2)
  | frame vs us =>
    obtain ⟨h1, hl, h⟩ := (show RelO Z w ρ j (.frame vs us) from h)
    show RelO _ w ρ j (.frame _ us)
    refine ⟨h1, by simp [hl], fun i x u hx hu => ?_⟩
    rw [List.getElem?_map] at hx
    obtain ⟨x0, h0, rfl⟩ := Option.map_eq_some_iff.1 hx
    exact frzV_rel hr (h i x0 u h0 hu)
  | row e2 s2 ys => exact RelO'.mono up (fun _ _ => rfl) (fun _ _ => rfl) (o := .row e2 s2 ys) h
  | any Q => exact RelO'.mono up (fun _ _ => rfl) (fun _ _ => rfl) (o := .any Q) h
  | many P Q => exact h
theorem frzO_many {id : Nat} {xs : List (List AD)} {o : AO} {P : Nat → Prop} {Q : World → Prop} (h : AO.many P Q = frzO id xs o) : o = .many P Q := by
  cases o <;> first | exact h.symm | cases h
theorem WS.freeze (h : WS T S Z w ρ ob) {id s : Nat} {e : TypeId} {xs : List (List AD)} (ho : oget ob id = some (.row e s xs)) : WS T S (ZFrz Z ρ id) w ρ (frzOs id xs ob) := by
  have hr : RelO Z w ρ id (.row e s xs) := h.obj id _ ho
  refine ⟨h.os, h.tape, h.output, h.size, h.old, ?_, fun j o b hj hb => ?_, fun i j oi oj b hi hj hij hbi hbj => ?_, fun j o hj => ?_, ⟨fun j P Q hj => ?_, fun i j P Q P' Q' hi hj hij => ?_⟩, ?_, fun b hb => .inl (h.z0 b hb), ?_⟩
  · rintro b (hb | hb)
    · exact h.zlt b hb
    · exact h.lt ho hb
  · obtain ⟨hne, o0, h0, _⟩ := frzOs_old hj
    obtain ⟨h1, h2⟩ := h.mine j o0 b h0 hb
    refine ⟨?_, h2⟩
    rintro (hz | hz)
    · exact h1 hz
    · exact h.sep j id o0 _ b h0 ho hne hb hz
  · obtain ⟨_, o0, h0, _⟩ := frzOs_old hi
    obtain ⟨_, o1, h1, _⟩ := frzOs_old hj
    exact h.sep i j o0 o1 b h0 h1 hij hbi hbj
  · obtain ⟨_, o0, h0, rfl⟩ := frzOs_old hj
    exact frzO_rel hr (h.obj j o0 h0)
  · obtain ⟨_, o0, h0, e0⟩ := frzOs_old hj
    have := frzO_many e0
    subst this
    obtain ⟨h1, h2⟩ := h.many.ok j P Q h0
    refine ⟨fun b hb => ⟨(h1 b hb).1, ?_, (h1 b hb).2.2.1, fun i o hi => ?_⟩, h2⟩
    · rintro (hz | hz)
      · exact (h1 b hb).2.1 hz
      · exact (h1 b hb).2.2.2 id _ ho hz
    · obtain ⟨_, o1, h3, _⟩ := frzOs_old hi
      exact (h1 b hb).2.2.2 i o1 h3
  · obtain ⟨_, o0, h0, e0⟩ := frzOs_old hi
    obtain ⟨_, o1, h1, e1⟩ := frzOs_old hj
    have := frzO_many e0
    subst this
    have := frzO_many e1
    subst this
    exact h.many.sep i j P Q P' Q' h0 h1 hij
  · obtain ⟨w1, g1, g2, g3⟩ := h.g
    exact ⟨w1, g1, g2, fun b hb => .inl (g3 b hb)⟩
  · rintro b (hb | hb)
    · exact h.znew b hb
    · exact .inr (h.mine id _ b ho hb).2
end
/-- An own slice stands from here on. -/
theorem AWP.freeze {E : AEnv} {S : Base} {c : Code} {K : Exit → ASt → Prop} {tm : List AV} {ob : List (Nat × AO)} (id : Nat) (e : TypeId) (s : Nat) (xs : List (List AD)) (ho : aOb ob id fun o => o = .row e s xs)
    (h : aFrzL id xs tm fun tm => aFrzO id xs ob fun ob => AWP E S c K ⟨tm, ob⟩) : AWP E S c K ⟨tm, ob⟩ := by
  obtain ⟨o, hob, rfl⟩ := aOb_get ho
  have h := aFrzO_get (K := fun ob => AWP E S c K ⟨_, ob⟩) (aFrzL_get (K := fun tm => aFrzO id xs ob fun ob => AWP E S c K ⟨tm, ob⟩) h)
  refine ⟨fun a w hs => h.run a w ?_⟩
  obtain ⟨Z, ρ, hs⟩ := hs
  have hr : RelO Z w ρ id (.row e s xs) := hs.ws.obj id _ hob
  refine ⟨ZFrz Z ρ id, ρ, hs.ws.freeze hob, by simp [hs.len], fun i x v hx hv => ?_, hs.df⟩
  simp only [List.getElem?_map] at hx
  obtain ⟨x0, h0, rfl⟩ := Option.map_eq_some_iff.1 hx
  exact frzV_rel hr (hs.tm i x0 v h0 hv)
end Go.Proofs.YtmgcnmdbhahhlaaGreat
