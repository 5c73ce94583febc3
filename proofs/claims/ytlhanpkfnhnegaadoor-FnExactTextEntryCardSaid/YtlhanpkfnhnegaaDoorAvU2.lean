/- The caller's side of a call that is handed objects. -/
import Derived.Test.YtlhanpkfnhnegaaDoorAvU
set_option linter.unusedVariables false
set_option linter.unusedSimpArgs false
set_option maxRecDepth 100000
namespace Go.Proofs.YtlhanpkfnhnegaaDoor
open Go.RowKit

def mlook : List (Nat × Nat) → Nat → Nat
  | [], i => i
  | (a, b) :: r, i => match Nat.beq a i with
    | true => b
    | false => mlook r i
def aLook : List (Nat × Nat) → Nat → (Nat → Prop) → Prop
  | [], i, K => K i
  | (a, b) :: r, i, K => match Nat.beq a i with
    | true => K b
    | false => aLook r i K
theorem aLook_get {K : Nat → Prop} {i : Nat} : ∀ {m : List (Nat × Nat)}, aLook m i K → K (mlook m i)
  | [], h => h
  | (a, b) :: r, h => by
    unfold aLook at h
    unfold mlook
    cases e : Nat.beq a i with
    | true => rw [e] at h; exact h
    | false => rw [e] at h; exact aLook_get (m := r) h
def renC (m : Nat → Nat) : AC → AC
  | .own i => .own (m i)
  | .ref i k s off => .ref (m i) k s off
  | c => c
def renA (m : Nat → Nat) : AA → AA
  | .one c => .one (renC m c)
  | .agg cs => .agg (cs.map (renC m))
def renR (m : Nat → Nat) : AR → AR
  | .val a => .val (renA m a)
  | .tup ls => .tup (ls.map (renA m))
def renO (m : Nat → Nat) : AO → AO
  | .cells t cs => .cells t (cs.map (renC m))
  | o => o
/-! The same, each handing on. -/
def aRenC (m : List (Nat × Nat)) (c : AC) (K : AC → Prop) : Prop :=
  match c with
  | .own i => aLook m i fun i => K (.own i)
  | .ref i k s off => aLook m i fun i => K (.ref i k s off)
  | c => K c
theorem aRenC_get {m : List (Nat × Nat)} {c : AC} {K : AC → Prop} (h : aRenC m c K) : K (renC (mlook m) c) := by
  cases c with
  | own i => exact aLook_get (K := fun i => K (.own i)) h
  | ref i k s off => exact aLook_get (K := fun i => K (.ref i k s off)) h
  | _ => exact h
def aRenCs (m : List (Nat × Nat)) : List AC → (List AC → Prop) → Prop
  | [], K => K []
  | c :: r, K => aRenC m c fun c => aRenCs m r fun r => K (c :: r)
theorem aRenCs_get {m : List (Nat × Nat)} : ∀ {l : List AC} {K : List AC → Prop}, aRenCs m l K → K (l.map (renC (mlook m)))
  | [], _, h => h
  | c :: r, K, h => aRenCs_get (l := r) (K := fun r => K (renC (mlook m) c :: r)) (aRenC_get h)
def aRenA (m : List (Nat × Nat)) (a : AA) (K : AA → Prop) : Prop :=
  match a with
  | .one c => aRenC m c fun c => K (.one c)
  | .agg cs => aRenCs m cs fun cs => K (.agg cs)
theorem aRenA_get {m : List (Nat × Nat)} {a : AA} {K : AA → Prop} (h : aRenA m a K) : K (renA (mlook m) a) := by
  cases a with
  | one c => exact aRenC_get (K := fun c => K (.one c)) h
  | agg cs => exact aRenCs_get (K := fun cs => K (.agg cs)) h
def aRenAs (m : List (Nat × Nat)) : List AA → (List AV → Prop) → Prop
  | [], K => K []
  | c :: r, K => aRenA m c fun c => aVofM c fun c => aRenAs m r fun r => K (c :: r)
theorem aRenAs_get {m : List (Nat × Nat)} : ∀ {l : List AA} {K : List AV → Prop}, aRenAs m l K → K (l.map fun a => (renA (mlook m) a).v)
  | [], _, h => h
  | c :: r, K, h => aRenAs_get (l := r) (K := fun r => K ((renA (mlook m) c).v :: r)) (aVofM_get (K := fun c => aRenAs m r fun r => K (c :: r)) (aRenA_get (K := fun c => aVofM c fun c => aRenAs m r fun r => K (c :: r)) h))
def aRenR (m : List (Nat × Nat)) (r : AR) (K : AV → Prop) : Prop :=
  match r with
  | .val a => aRenA m a fun a => aVofM a K
  | .tup ls => aRenAs m ls fun l => K (.tup l)
theorem aRenR_get {m : List (Nat × Nat)} {r : AR} {K : AV → Prop} (h : aRenR m r K) : K (renR (mlook m) r).v := by
  cases r with
  | val a => exact aVofM_get (aRenA_get (K := fun a => aVofM a K) h)
  | tup ls =>
    have := aRenAs_get (K := fun l => K (.tup l)) h
    have e : (renR (mlook m) (.tup ls)).v = .tup (ls.map fun a => (renA (mlook m) a).v) := by simp [renR, AR.v, Function.comp_def]
    rw [e]; exact this
def aRenO (m : List (Nat × Nat)) (o : AO) (K : AO → Prop) : Prop :=
  match o with
  | .cells t cs => aRenCs m cs fun cs => K (.cells t cs)
  | o => K o
theorem aRenO_get {m : List (Nat × Nat)} {o : AO} {K : AO → Prop} (h : aRenO m o K) : K (renO (mlook m) o) := by
  cases o with
  | cells t cs => exact aRenCs_get (K := fun cs => K (.cells t cs)) h
  | _ => exact h

/-! Reading under other names. -/
section
variable {Z : Nat → Prop} {w : World} {ρ ρ1 : Nat → Value} {m : Nat → Nat}
theorem renC_to {c : AC} {v : Value} (h : RelC Z w ρ (renC m c) v) : RelC Z w (fun i => ρ (m i)) c v := by cases c <;> exact h
theorem renA_to {a : AA} {v : Value} (h : RelV Z w ρ (renA m a).v v) : RelV Z w (fun i => ρ (m i)) a.v v := by
  cases a with
  | one c => cases h with | one _ _ h => exact .one _ _ (renC_to h)
  | agg cs =>
    cases h with
    | agg _ us hl h =>
      refine .agg _ _ (by simpa using hl) fun i c u hc hu => renC_to (h i _ u ?_ hu)
      rw [List.getElem?_map, hc]; rfl
def noFrame : AO → Bool
  | .frame _ _ => false
  | _ => true
theorem renO_to {id : Nat} {o : AO} (hf : noFrame o = true) (h : RelO Z w ρ (m id) (renO m o)) : RelO Z w (fun i => ρ (m i)) id o := by
  cases o with
  | cells t cs =>
    obtain ⟨b, us, hp, hg, hl, hc⟩ := h
    refine ⟨b, us, hp, hg, by simpa using hl, fun i c u h1 h2 => renC_to (hc i _ u ?_ h2)⟩
    rw [List.getElem?_map, h1]; rfl
  | row e s xs => exact h
  | frame vs us => cases hf
def inC (post : List (Nat × AO)) : AC → Bool
  | .own i => aHasO post i
  | .ref i _ _ _ => aHasO post i
  | _ => true
def inA (post : List (Nat × AO)) : AA → Bool
  | .one c => inC post c
  | .agg cs => cs.all (inC post)
def inR (post : List (Nat × AO)) : AR → Bool
  | .val a => inA post a
  | .tup ls => ls.all (inA post)
def inO (post : List (Nat × AO)) : AO → Bool
  | .cells _ cs => cs.all (inC post)
  | .row _ _ _ => true
  | .frame [] [] => true
  | .frame _ _ => false
variable {post : List (Nat × AO)}
theorem renC_from (hag : ∀ i, aHasO post i = true → ρ1 (m i) = ρ i) {c : AC} {v : Value} (hin : inC post c = true) (h : RelC Z w ρ c v) : RelC Z w ρ1 (renC m c) v := by
  cases c with
  | own i => simpa only [renC, RelC, hag i hin] using h
  | ref i k s off => simpa only [renC, RelC, hag i hin] using h
  | _ => exact h
theorem renA_from (hag : ∀ i, aHasO post i = true → ρ1 (m i) = ρ i) {a : AA} {v : Value} (hin : inA post a = true) (h : RelV Z w ρ a.v v) : RelV Z w ρ1 (renA m a).v v := by
  cases a with
  | one c => cases h with | one _ _ h => exact .one _ _ (renC_from hag hin h)
  | agg cs =>
    cases h with
    | agg _ us hl h =>
      refine .agg _ _ (by simpa using hl) fun i c u hc hu => ?_
      rw [List.getElem?_map] at hc
      obtain ⟨c0, h0, rfl⟩ := Option.map_eq_some_iff.1 hc
      exact renC_from hag (List.all_eq_true.1 hin c0 (List.mem_of_getElem? h0)) (h i c0 u h0 hu)
theorem renR_from (hag : ∀ i, aHasO post i = true → ρ1 (m i) = ρ i) {r : AR} {v : Value} (hin : inR post r = true) (h : RelV Z w ρ r.v v) : RelV Z w ρ1 (renR m r).v v := by
  cases r with
  | val a => exact renA_from hag hin h
  | tup ls =>
    cases h with
    | tup _ us hl h =>
      refine .tup _ _ (by simpa using hl) fun i c u hc hu => ?_
      rw [List.map_map, List.getElem?_map] at hc
      obtain ⟨c0, h0, rfl⟩ := Option.map_eq_some_iff.1 hc
      refine renA_from hag (List.all_eq_true.1 hin c0 (List.mem_of_getElem? h0)) (h i _ u ?_ hu)
      rw [List.getElem?_map, h0]; rfl
theorem renO_from (hag : ∀ i, aHasO post i = true → ρ1 (m i) = ρ i) {id : Nat} (hid : aHasO post id = true) {o : AO} (hin : inO post o = true) (h : RelO Z w ρ id o) : RelO Z w ρ1 (m id) (renO m o) := by
  cases o with
  | cells t cs =>
    obtain ⟨b, us, hp, hg, hl, hc⟩ := h
    refine ⟨b, us, (hag id hid).trans hp, hg, by simpa using hl, fun i c u h1 h2 => ?_⟩
    rw [List.getElem?_map] at h1
    obtain ⟨c0, h0, rfl⟩ := Option.map_eq_some_iff.1 h1
    exact renC_from hag (List.all_eq_true.1 hin c0 (List.mem_of_getElem? h0)) (hc i c0 u h0 h2)
  | row e s xs =>
    obtain ⟨us, hs, hl, hx, hu, hown, hd⟩ := h
    refine ⟨us, hs, hl, hx, hu, ?_, hd⟩
    rw [hag id hid]; exact hown
  | frame vs us =>
    have : vs = [] ∧ us = [] := by
      revert hin; unfold inO; split <;> simp_all
    obtain ⟨rfl, rfl⟩ := this
    exact ⟨(hag id hid).trans h.1, rfl, by simp⟩
end

/-! Several names forgotten at once. -/
def killsV (ks : List Nat) (x : AV) : AV := ks.foldl (fun x k => killV k x) x
def killsO (ks : List Nat) (o : AO) : AO := ks.foldl (fun o k => killO k o) o
section
variable {Z : Nat → Prop} {w : World} {ρ1 : Nat → Value}
theorem killsV_rel : ∀ {ks : List Nat} {ρ : Nat → Value} {x : AV} {v : Value}, (∀ i, i ∉ ks → ρ1 i = ρ i) → RelV Z w ρ x v → RelV Z w ρ1 (killsV ks x) v
  | [], ρ, x, v, hag, h => by
    have : ρ1 = ρ := funext fun i => hag i (by simp)
    subst this; exact h
  | k :: r, ρ, x, v, hag, h => by
    refine killsV_rel (ks := r) (fun i hi => ?_) (killV_rel (id := k) (y := ρ1 k) h)
    by_cases e : i = k
    · subst e; simp
    · simp only [if_neg e]; exact hag i (by simp [e, hi])
theorem killsO_rel : ∀ {ks : List Nat} {ρ : Nat → Value} {j : Nat} {o : AO}, j ∉ ks → (∀ i, i ∉ ks → ρ1 i = ρ i) → RelO Z w ρ j o → RelO Z w ρ1 j (killsO ks o)
  | [], ρ, j, o, _, hag, h => by
    have : ρ1 = ρ := funext fun i => hag i (by simp)
    subst this; exact h
  | k :: r, ρ, j, o, hj, hag, h => by
    refine killsO_rel (ks := r) (fun e => hj (by simp [e])) (fun i hi => ?_) (killO_rel (id := k) (fun e => hj (by simp [e])) (y := ρ1 k) h)
    by_cases e : i = k
    · subst e; simp
    · simp only [if_neg e]; exact hag i (by simp [e, hi])
end
def okills (ks : List Nat) (ob : List (Nat × AO)) : List (Nat × AO) := ks.foldl (fun ob k => okill k ob) ob
theorem oget_okills : ∀ {ks : List Nat} {ob : List (Nat × AO)} {j : Nat}, oget (okills ks ob) j = (oget ob j).map (killsO ks)
  | [], ob, j => by
    have : killsO [] = id := rfl
    simp [okills, this]
  | k :: r, ob, j => by
    have := oget_okills (ks := r) (ob := okill k ob) (j := j)
    rw [oget_okill, Option.map_map] at this
    exact this
def aKillsS : List Nat → ASt → (ASt → Prop) → Prop
  | [], st, K => K st
  | k :: r, st, K => aKillL k st.tm fun tm => aKillO k st.ob fun ob => aKillsS r ⟨tm, ob⟩ K
theorem map_killsV (k : Nat) (r : List Nat) (l : List AV) : (l.map (killV k)).map (killsV r) = l.map (killsV (k :: r)) := by
  rw [List.map_map]; rfl
theorem aKillsS_get : ∀ {ks : List Nat} {st : ASt} {K : ASt → Prop}, aKillsS ks st K → K ⟨st.tm.map (killsV ks), okills ks st.ob⟩
  | [], st, K, h => by
    have : killsV [] = id := rfl
    rw [this, List.map_id]; exact h
  | k :: r, st, K, h => by
    have h1 := aKillO_get (K := fun ob => aKillsS r ⟨st.tm.map (killV k), ob⟩ K) (aKillL_get (K := fun tm => aKillO k st.ob fun ob => aKillsS r ⟨tm, ob⟩ K) h)
    have h2 := aKillsS_get (ks := r) h1
    simp only [map_killsV] at h2
    exact h2
def osets (ob l : List (Nat × AO)) : List (Nat × AO) := l.foldl (fun ob p => oset ob p.1 p.2) ob
def aSetsM (m : List (Nat × Nat)) : List (Nat × AO) → List (Nat × AO) → (List (Nat × AO) → Prop) → Prop
  | ob, [], K => K ob
  | ob, (i, o) :: r, K => aRenO m o fun o => aLook m i fun i => aSetO i o ob fun ob => aSetsM m ob r K
theorem aSetsM_get {m : List (Nat × Nat)} : ∀ {l ob : List (Nat × AO)} {K : List (Nat × AO) → Prop}, aSetsM m ob l K → K (osets ob (l.map fun p => (mlook m p.1, renO (mlook m) p.2)))
  | [], ob, K, h => h
  | (i, o) :: r, ob, K, h => aSetsM_get (l := r) (aSetO_get (K := fun ob => aSetsM m ob r K) (aLook_get (K := fun i => aSetO i (renO (mlook m) o) ob fun ob => aSetsM m ob r K) (aRenO_get (K := fun o => aLook m i fun i => aSetO i o ob fun ob => aSetsM m ob r K) h)))
theorem oget_none_of {l : List (Nat × AO)} {k : Nat} (h : k ∉ l.map (·.1)) : oget l k = none := by
  cases e : oget l k with
  | none => rfl
  | some o => exact absurd (List.mem_map.2 ⟨(k, o), oget_mem e, rfl⟩) h
theorem oget_osets : ∀ {l ob : List (Nat × AO)} {i : Nat}, (l.map (·.1)).Nodup → oget (osets ob l) i = match oget l i with | some o => some o | none => oget ob i
  | [], ob, i, _ => rfl
  | (k, o) :: r, ob, i, hn => by
    obtain ⟨h1, h2⟩ := List.nodup_cons.1 (by rw [List.map_cons] at hn; exact hn)
    have := oget_osets (l := r) (ob := oset ob k o) (i := i) h2
    rw [oget_oset] at this
    show oget (osets (oset ob k o) r) i = _
    rw [this]
    simp only [oget]
    by_cases e : k = i
    · subst e
      simp only [if_true, oget_none_of h1]
    · simp only [if_neg e]
theorem oget_of_mem : ∀ {l : List (Nat × AO)} {i : Nat} {o : AO}, (l.map (·.1)).Nodup → (i, o) ∈ l → oget l i = some o
  | [], _, _, _, h => by cases h
  | (k, x) :: r, i, o, hn, h => by
    obtain ⟨h1, h2⟩ := List.nodup_cons.1 (by rw [List.map_cons] at hn; exact hn)
    unfold oget
    rcases List.mem_cons.1 h with h | h
    · injection h with e1 e2; subst e1 e2; simp
    · have : k ≠ i := by rintro rfl; exact h1 (List.mem_map.2 ⟨_, h, rfl⟩)
      rw [if_neg this]; exact oget_of_mem h2 h
theorem nodup_of_map {α β : Type} {f : α → β} : ∀ {l : List α}, (l.map f).Nodup → l.Nodup
  | [], _ => List.nodup_nil
  | x :: r, h => by
    obtain ⟨h1, h2⟩ := List.nodup_cons.1 (by rw [List.map_cons] at h; exact h)
    exact List.nodup_cons.2 ⟨fun hm => h1 (List.mem_map.2 ⟨x, hm, rfl⟩), nodup_of_map h2⟩
theorem inj_of_map {α β : Type} {f : α → β} : ∀ {l : List α}, (l.map f).Nodup → ∀ {x y : α}, x ∈ l → y ∈ l → f x = f y → x = y
  | [], _, _, _, h, _, _ => by cases h
  | a :: r, h, x, y, hx, hy, e => by
    obtain ⟨h1, h2⟩ := List.nodup_cons.1 (by rw [List.map_cons] at h; exact h)
    rcases List.mem_cons.1 hx with ex | hx'
    · rcases List.mem_cons.1 hy with ey | hy'
      · rw [ex, ey]
      · rw [ex] at e; exact absurd (List.mem_map.2 ⟨y, hy', e.symm⟩) h1
    · rcases List.mem_cons.1 hy with ey | hy'
      · rw [ey] at e; exact absurd (List.mem_map.2 ⟨x, hx', e⟩) h1
      · exact inj_of_map h2 hx' hy' e

/-- What a naming must be like. -/
def methOk (m : List (Nat × Nat)) (pre post : List (Nat × AO)) (res : AR) : Bool :=
  nodupB (post.map fun p => mlook m p.1) && pre.all (fun p => aHasO post p.1 && noFrame p.2) && post.all (fun p => inO post p.2) && inR post res
where nodupB : List Nat → Bool
  | [] => true
  | x :: r => !r.any (Nat.beq x) && nodupB r
theorem nodupB_get : ∀ {l : List Nat}, methOk.nodupB l = true → l.Nodup
  | [], _ => List.nodup_nil
  | x :: r, h => by
    simp only [methOk.nodupB, Bool.and_eq_true, Bool.not_eq_true', List.any_eq_false] at h
    refine List.nodup_cons.2 ⟨fun hm => h.1 x hm (Nat.beq_refl x), nodupB_get h.2⟩
def newIds (m : List (Nat × Nat)) (post : List (Nat × AO)) (keep : List Nat) : List Nat := (post.filter fun p => !keep.any (Nat.beq p.1)).map fun p => mlook m p.1
def aPre (m : List (Nat × Nat)) (ob : List (Nat × AO)) : List (Nat × AO) → Prop → Prop
  | [], X => X
  | (i, o) :: r, X => aOb ob (mlook m i) fun o' => o' = renO (mlook m) o ∧ aPre m ob r X
theorem aPre_get {m : List (Nat × Nat)} {ob : List (Nat × AO)} {X : Prop} : ∀ {l : List (Nat × AO)}, aPre m ob l X → (∀ i o, (i, o) ∈ l → oget ob (mlook m i) = some (renO (mlook m) o)) ∧ X
  | [], h => ⟨by simp, h⟩
  | (i, o) :: r, h => by
    obtain ⟨o', ho, rfl, hr⟩ := aOb_get h
    obtain ⟨h1, h2⟩ := aPre_get hr
    refine ⟨fun j x hx => ?_, h2⟩
    rcases List.mem_cons.1 hx with e | hx
    · injection e with e1 e2; subst e1 e2; exact ho
    · exact h1 j x hx
def rhoM (m : Nat → Nat) (ids : List Nat) (ρ' ρ : Nat → Value) (j : Nat) : Value := match ids.find? (fun c => Nat.beq (m c) j) with
  | some c => ρ' c
  | none => ρ j
theorem rhoM_in {m : Nat → Nat} {ids : List Nat} {ρ' ρ : Nat → Value} (hn : (ids.map m).Nodup) {c : Nat} (hc : c ∈ ids) : rhoM m ids ρ' ρ (m c) = ρ' c := by
  unfold rhoM
  cases e : ids.find? (fun x => Nat.beq (m x) (m c)) with
  | none => exact absurd (Nat.beq_refl (m c)) (List.find?_eq_none.1 e c hc)
  | some d =>
    have h1 := List.mem_of_find?_eq_some e
    have h2 := List.find?_some (p := fun x => Nat.beq (m x) (m c)) e
    rw [inj_of_map hn h1 hc (Nat.eq_of_beq_eq_true h2)]
theorem rhoM_out {m : Nat → Nat} {ids : List Nat} {ρ' ρ : Nat → Value} {j : Nat} (hj : j ∉ ids.map m) : rhoM m ids ρ' ρ j = ρ j := by
  unfold rhoM
  cases e : ids.find? (fun x => Nat.beq (m x) j) with
  | none => rfl
  | some d => exact absurd (List.mem_map.2 ⟨d, List.mem_of_find?_eq_some e, Nat.eq_of_beq_eq_true (List.find?_some (p := fun x => Nat.beq (m x) j) e)⟩) hj

/-- The caller behind the call. -/
def aMeth (m : List (Nat × Nat)) (st : ASt) (pre post : List (Nat × AO)) (keep : List Nat) (res : AR) (K : AV → ASt → Prop) : Prop :=
  aPre m st.ob pre (aKillsS (newIds m post keep) st fun st => aSetsM m st.ob post fun ob => aRenR m res fun r => K r ⟨st.tm, ob⟩)

theorem ACall.meth {E : AEnv} {S : Base} {st : ASt} {f : FuncId} {args : List AA} {pre post : List (Nat × AO)} {keep : List Nat} {res : AR} {K : AV → ASt → Prop} {cargs : List AV} (hc : MCall E f args pre post keep res) (m : List (Nat × Nat))
    (hck : methOk m pre post res = true) (hargs : (args.map fun a => (renA (mlook m) a).v) = cargs) (hk : aMeth m st pre post keep res K) : ACall E S f cargs st K := by
  subst hargs
  refine ⟨hc.enter, fun Z ρ a w us hs hl hr => ?_⟩
  obtain ⟨hpre, hk⟩ := aPre_get hk
  have hk := aRenR_get (aSetsM_get (aKillsS_get hk))
  simp only at hk
  simp only [methOk, Bool.and_eq_true, List.all_eq_true] at hck
  obtain ⟨⟨⟨hnd, hpp⟩, hpo⟩, hres⟩ := hck
  have hnd := nodupB_get hnd
  have hnd1 : ((post.map (·.1)).map (mlook m)).Nodup := by rw [List.map_map]; exact hnd
  have hnd2 : (post.map (·.1)).Nodup := nodup_of_map hnd1
  have hndm : ((post.map fun p => (mlook m p.1, renO (mlook m) p.2)).map (·.1)).Nodup := by rw [List.map_map]; exact hnd
  have hinj : ∀ {i j}, aHasO post i = true → aHasO post j = true → mlook m i = mlook m j → i = j := by
    intro i j hi hj e
    obtain ⟨oi, hoi⟩ := aHasO_get.1 hi
    obtain ⟨oj, hoj⟩ := aHasO_get.1 hj
    exact inj_of_map hnd1 (List.mem_map.2 ⟨_, oget_mem hoi, rfl⟩) (List.mem_map.2 ⟨_, oget_mem hoj, rfl⟩) e
  have hhas : ∀ {i}, aHasO post i = true ↔ i ∈ post.map (·.1) := by
    intro i
    rw [aHasO_get]
    constructor
    · rintro ⟨o, ho⟩; exact List.mem_map.2 ⟨_, oget_mem ho, rfl⟩
    · intro h
      obtain ⟨p, hp, rfl⟩ := List.mem_map.1 h
      exact ⟨p.2, oget_of_mem hnd2 hp⟩
  have hget : ∀ i o, oget pre i = some o → oget st.ob (mlook m i) = some (renO (mlook m) o) ∧ aHasO post i = true ∧ noFrame o = true := by
    intro i o ho
    have := hpp _ (oget_mem ho)
    simp only [Bool.and_eq_true] at this
    exact ⟨hpre i o (oget_mem ho), this.1, this.2⟩
  -- the callee's own view
  have hws0 : WS E.W (baseM w Z (fun i => ρ (mlook m i)) pre) Z w (fun i => ρ (mlook m i)) pre := by
    refine ⟨rfl, rfl, rfl, Nat.le_refl _, fun _ _ _ => rfl, hs.ws.zlt, fun id o b ho hb => ⟨(hs.ws.mine _ _ b (hget id o ho).1 hb).1, .inr ⟨id, o, ho, hb⟩⟩, fun i j oi oj b hi hj hij hbi hbj => ?_, fun id o ho => renO_to (hget id o ho).2.2 (hs.ws.obj _ _ (hget id o ho).1), hs.ws.g, fun b hb => hb, fun b hb => .inl hb⟩
    exact hs.ws.sep _ _ _ _ b (hget i oi hi).1 (hget j oj hj).1 (fun e => hij (hinj (hget i oi hi).2.1 (hget j oj hj).2.1 e)) hbi hbj
  refine (hc.run Z w (fun i => ρ (mlook m i)) us hws0 (by simpa using hl) fun i p u h3 h4 => ?_).mono ?_
  · refine renA_to (hr i _ u ?_ h4)
    rw [List.getElem?_map, h3]; rfl
  rintro e w' ⟨v, Z', ρ', rfl, hw, hkeep, hv⟩
  let ids := post.map (·.1)
  let ρ1 := rhoM (mlook m) ids ρ' ρ
  let ks := newIds m post keep
  have hin : ∀ i, aHasO post i = true → ρ1 (mlook m i) = ρ' i := fun i hi => rhoM_in hnd1 (hhas.1 hi)
  have hout : ∀ j, j ∉ ids.map (mlook m) → ρ1 j = ρ j := fun j hj => rhoM_out hj
  have hag : ∀ i, i ∉ ks → ρ1 i = ρ i := by
    intro i hi
    by_cases h : i ∈ ids.map (mlook m)
    · obtain ⟨c, hc1, rfl⟩ := List.mem_map.1 h
      rw [hin c (hhas.2 hc1)]
      refine hkeep c ?_
      obtain ⟨p, hp, rfl⟩ := List.mem_map.1 hc1
      refine Classical.byContradiction fun hn => hi (List.mem_map.2 ⟨p, List.mem_filter.2 ⟨hp, ?_⟩, rfl⟩)
      simp only [Bool.not_eq_true', List.any_eq_false]
      intro k hk2 e
      rw [Nat.eq_of_beq_eq_true e] at hn
      exact hn hk2
    · exact hout i h
  have hksub : ∀ i, i ∈ ks → i ∈ ids.map (mlook m) := by
    intro i hi
    obtain ⟨p, hp, rfl⟩ := List.mem_map.1 hi
    exact List.mem_map.2 ⟨p.1, List.mem_map.2 ⟨p, (List.mem_filter.1 hp).1, rfl⟩, rfl⟩
  -- which objects there are
  have hob : ∀ j o, oget (osets (okills ks st.ob) (post.map fun p => (mlook m p.1, renO (mlook m) p.2))) j = some o →
      (∃ c o', oget post c = some o' ∧ j = mlook m c ∧ o = renO (mlook m) o') ∨ (j ∉ ids.map (mlook m) ∧ ∃ o', oget st.ob j = some o' ∧ o = killsO ks o') := by
    intro j o ho
    rw [oget_osets hndm] at ho
    split at ho
    · rename_i o1 h1
      injection ho with ho
      subst ho
      obtain ⟨p, hp, e⟩ := List.mem_map.1 (oget_mem h1)
      injection e with e1 e2
      exact .inl ⟨p.1, p.2, oget_of_mem hnd2 hp, e1.symm, e2.symm⟩
    · rename_i h1
      rw [oget_okills] at ho
      obtain ⟨o', h2, rfl⟩ := Option.map_eq_some_iff.1 ho
      refine .inr ⟨fun hm => ?_, o', h2, rfl⟩
      obtain ⟨c, hc1, rfl⟩ := List.mem_map.1 hm
      obtain ⟨p, hp, rfl⟩ := List.mem_map.1 hc1
      rw [oget_of_mem hndm (List.mem_map.2 ⟨p, hp, rfl⟩)] at h1
      cases h1
  have hO : ∀ b, (baseM w Z (fun i => ρ (mlook m i)) pre).O b → ∃ i o, oget st.ob (mlook m i) = some o ∧ aHasO post i = true ∧ blkOf (ρ (mlook m i)) = some b := by
    rintro b ⟨i, o, ho, hb⟩
    exact ⟨i, _, (hget i o ho).1, (hget i o ho).2.1, hb⟩
  have hfar : ∀ j o b, j ∉ ids.map (mlook m) → oget st.ob j = some o → blkOf (ρ j) = some b → ¬ (baseM w Z (fun i => ρ (mlook m i)) pre).O b := by
    intro j o b hj ho hb hOb
    obtain ⟨i, o2, ho2, hi, hb2⟩ := hO b hOb
    refine hs.ws.sep j (mlook m i) o o2 b ho ho2 (fun e => hj ?_) hb hb2
    rw [e]; exact List.mem_map.2 ⟨i, hhas.1 hi, rfl⟩
  have hsame : ∀ b, b < w.heap.size → ¬ (baseM w Z (fun i => ρ (mlook m i)) pre).O b → w'.heap[b]? = w.heap[b]? := hw.old
  have hzn : ∀ b, Z b → w'.heap[b]? = w.heap[b]? := by
    intro b hb
    refine hsame b (hs.ws.zlt b hb) fun hOb => ?_
    obtain ⟨i, o2, ho2, _, hb2⟩ := hO b hOb
    exact (hs.ws.mine _ _ b ho2 hb2).1 hb
  have hsz : w.heap.size ≤ w'.heap.size := hw.size
  have hobase : ∀ b, (baseM w Z (fun i => ρ (mlook m i)) pre).O b → S.w0.heap.size ≤ b ∨ S.O b := by
    intro b hOb
    obtain ⟨i, o2, ho2, _, hb2⟩ := hO b hOb
    exact (hs.ws.mine _ _ b ho2 hb2).2
  refine ⟨v, (renR (mlook m) res).v, ⟨st.tm.map (killsV ks), osets (okills ks st.ob) (post.map fun p => (mlook m p.1, renO (mlook m) p.2))⟩, Z', ρ1, rfl, ⟨?_, by simp [hs.len], fun i x u hx hu => ?_, hs.df⟩, renR_from hin hres hv, hk⟩
  · refine ⟨hw.os.trans hs.ws.os, hw.tape.trans hs.ws.tape, hw.output.trans hs.ws.output, Nat.le_trans hs.ws.size hsz, fun b hb hno => ?_, hw.zlt, fun j o b ho hb => ?_, fun i j oi oj b hi hj hij hbi hbj => ?_, fun j o ho => ?_, hw.g, fun b hb => hw.z0 b (hs.ws.z0 b hb), fun b hb => ?_⟩
    · refine (hsame b (Nat.lt_of_lt_of_le hb hs.ws.size) fun hOb => ?_).trans (hs.ws.old b hb hno)
      rcases hobase b hOb with h | h
      · omega
      · exact hno h
    · rcases hob j o ho with ⟨c, o', hc1, rfl, rfl⟩ | ⟨hj, o', ho', rfl⟩
      · have hcp := aHasO_get.2 ⟨o', hc1⟩
        rw [hin c hcp] at hb
        obtain ⟨h1, h2⟩ := hw.mine c o' b hc1 hb
        refine ⟨h1, ?_⟩
        rcases h2 with h2 | h2
        · exact .inl (Nat.le_trans hs.ws.size h2)
        · exact hobase b h2
      · rw [hout j hj] at hb
        obtain ⟨h1, h2⟩ := hs.ws.mine j o' b ho' hb
        refine ⟨fun hz => ?_, h2⟩
        rcases hw.znew b hz with h3 | h3 | h3
        · exact h1 h3
        · have := hs.ws.lt ho' hb
          exact absurd (show w.heap.size ≤ b from h3) (by omega)
        · exact hfar j o' b hj ho' hb h3
    · rcases hob i oi hi with ⟨c, o', hc1, rfl, rfl⟩ | ⟨hi', o', ho', rfl⟩
      · have hcp := aHasO_get.2 ⟨o', hc1⟩
        rw [hin c hcp] at hbi
        rcases hob j oj hj with ⟨c2, o2, hc2, rfl, rfl⟩ | ⟨hj', o2, ho2, rfl⟩
        · have hcp2 := aHasO_get.2 ⟨o2, hc2⟩
          rw [hin c2 hcp2] at hbj
          exact hw.sep c c2 o' o2 b hc1 hc2 (fun e => hij (by rw [e])) hbi hbj
        · rw [hout j hj'] at hbj
          rcases (hw.mine c o' b hc1 hbi).2 with h | h
          · have := hs.ws.lt ho2 hbj
            exact absurd (show w.heap.size ≤ b from h) (by omega)
          · exact hfar j o2 b hj' ho2 hbj h
      · rw [hout i hi'] at hbi
        rcases hob j oj hj with ⟨c2, o2, hc2, rfl, rfl⟩ | ⟨hj', o2, ho2, rfl⟩
        · have hcp2 := aHasO_get.2 ⟨o2, hc2⟩
          rw [hin c2 hcp2] at hbj
          rcases (hw.mine c2 o2 b hc2 hbj).2 with h | h
          · have := hs.ws.lt ho' hbi
            exact absurd (show w.heap.size ≤ b from h) (by omega)
          · exact hfar i o' b hi' ho' hbi h
        · rw [hout j hj'] at hbj
          exact hs.ws.sep i j o' o2 b ho' ho2 hij hbi hbj
    · rcases hob j o ho with ⟨c, o', hc1, rfl, rfl⟩ | ⟨hj, o', ho', rfl⟩
      · have hcp := aHasO_get.2 ⟨o', hc1⟩
        exact renO_from hin hcp (hpo _ (oget_mem hc1)) (hw.obj c o' hc1)
      · refine killsO_rel (fun h => hj (hksub j h)) hag ?_
        refine (hs.ws.obj j o' ho').mono hw.z0 hzn fun b hb => hsame b (hs.ws.lt ho' hb) (hfar j o' b hj ho' hb)
    · rcases hw.znew b hb with h | h | h
      · exact hs.ws.znew b h
      · exact .inr (.inl (Nat.le_trans hs.ws.size h))
      · exact .inr (hobase b h)
  · simp only [List.getElem?_map] at hx
    obtain ⟨x0, h0, rfl⟩ := Option.map_eq_some_iff.1 hx
    exact killsV_rel hag ((hs.tm i x0 u h0 hu).mono hw.z0 hzn)
end Go.Proofs.YtlhanpkfnhnegaaDoor
