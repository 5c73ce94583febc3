/- Regions and code over abstract values; loops. -/
import Derived.Test.YtlhanpkfnhnegaaDoorAvG3
import Derived.Scope
set_option linter.unusedVariables false
set_option linter.unusedSimpArgs false
set_option maxRecDepth 100000
namespace Go.Proofs.YtlhanpkfnhnegaaDoor
open Go.RowKit

section
variable {E : AEnv} {S : Base} {Z : Nat → Prop} {ρ : Nat → Value} {st : ASt} {a : Act} {w : World} {K : ASt → Prop} {o : Oper}

theorem Sim.lit (h : Sim E.W S Z ρ st a w) {d : Nat} {p : Bool} (hv : a.tmps[d]? = some (.bool p)) {K : List AV → Prop} (hk : aPutL st.tm d (vB p) K) : ∃ tm, Sim E.W S Z ρ ⟨tm, st.ob⟩ a w ∧ K tm := by
  refine ⟨st.tm.set d (vB p), ⟨h.ws, by simp [h.len], fun i x v hx hi => ?_, h.df⟩, aPutL_set hk⟩
  simp only at hx
  rw [List.getElem?_set] at hx
  split at hx
  · rename_i e
    subst e
    split at hx
    · injection hx with hx
      subst hx
      rw [hv] at hi
      injection hi with hi
      subst hi
      exact relV_of_pv rfl
    · cases hx
  · exact h.tm i x v hx hi

theorem aGuard_get {all : List Oper} (h : Sim E.W S Z ρ st a w) {Y N : ASt → Prop} (hk : aGuard all o st Y N) :
    (Region.wanted o (yielded all.toArray a.tmps) = true ∧ ∃ st', Sim E.W S Z ρ st' a w ∧ Y st') ∨ (Region.wanted o (yielded all.toArray a.tmps) = false ∧ ∃ st', Sim E.W S Z ρ st' a w ∧ N st') := by
  unfold aGuard at hk
  split at hk
  · rename_i hg
    exact .inl ⟨by simp [Region.wanted, hg], st, h, hk⟩
  · rename_i j want hg
    obtain ⟨oj, hoj, hk⟩ := aNth_get hk
    split at hk
    · exact hk.elim
    · rename_i d hd
      obtain ⟨v, hv, hk⟩ := aTm_get hk
      have hlt : d < a.tmps.size := by rw [h.len]; exact (List.getElem?_eq_some_iff.1 hv).1
      have hrel := h.tm d v a.tmps[d] hv (Array.getElem?_eq_getElem hlt)
      have hy : ∀ b, a.tmps[d]? = some (.bool b) → yielded all.toArray a.tmps j = some b := by
        intro b hb
        simp [yielded, hoj, hd, hb]
      split at hk
      · rename_i p
        have e := relV_pv hrel
        have e' : a.tmps[d]? = some (.bool p) := by rw [Array.getElem?_eq_getElem hlt, e]
        cases p with
        | true =>
          obtain ⟨tm, hs, hk⟩ := h.lit e' (hk.t rfl)
          cases want with
          | true => exact .inl ⟨by simp [Region.wanted, hg, hy _ e'], _, hs, hk⟩
          | false => exact .inr ⟨by simp [Region.wanted, hg, hy _ e'], _, hs, hk⟩
        | false =>
          obtain ⟨tm, hs, hk⟩ := h.lit e' (hk.f rfl)
          cases want with
          | true => exact .inr ⟨by simp [Region.wanted, hg, hy _ e'], _, hs, hk⟩
          | false => exact .inl ⟨by simp [Region.wanted, hg, hy _ e'], _, hs, hk⟩
      · cases hrel with
        | one _ _ hrel =>
          have e : a.tmps[d] = undef := hrel
          refine .inr ⟨?_, st, h, hk⟩
          have : yielded all.toArray a.tmps j = none := by
            simp [yielded, hoj, hd, Array.getElem?_eq_getElem hlt, e, undef]
          simp [Region.wanted, hg, this]
      · exact hk.elim

theorem arun_sound (he : E.Ok) {all : List Oper} {Q : Exit → Act → World → Prop} (hQ : ∀ a w, (∃ st', SimX E.W S st' a w ∧ K st') → Q .normal a w) :
    ∀ (ops : List Oper) (st : ASt) (a : Act) (w : World), SimX E.W S st a w → arun E S all ops st K → wpList E.P all.toArray Q ops a w
  | [], st, a, w, h, hk => hQ a w ⟨st, h, hk⟩
  | o :: r, st, a, w, ⟨Z, ρ, h⟩, hk => by
    unfold wpList
    rcases aGuard_get h hk with ⟨hw, st', hs, hk⟩ | ⟨hw, st', hs, hk⟩
    · rw [if_pos hw]
      refine .inl (Oper.wp_mono (fun a' w' h' => ?_) (aop_sound he hs hk Q))
      obtain ⟨st2, h2, hk2⟩ := h'
      exact arun_sound he hQ r st2 a' w' h2 hk2
    · rw [if_neg (by simp [hw])]
      have := hs.put o.dst (x := .one .und) (v := undef) (.one _ _ (show RelC Z w ρ .und undef from rfl))
      exact arun_sound he hQ r _ _ w ⟨Z, ρ, this⟩ (aDst_put hk)
end

/-- Code, over abstract values. -/
structure AWP (E : AEnv) (S : Base) (c : Code) (K : Exit → ASt → Prop) (st : ASt) : Prop where
  run : ∀ a w, SimX E.W S st a w → c.wp E.P (fun e a' w' => ∃ st', SimX E.W S st' a' w' ∧ K e st') a w

def seqK (E : AEnv) (S : Base) (y : Code) (K : Exit → ASt → Prop) : Exit → ASt → Prop
  | .normal, st => AWP E S y K st
  | e, st => K e st
def blockK (id : Nat) (K : Exit → ASt → Prop) : Exit → ASt → Prop
  | .exit j, st => match Nat.beq j id with
    | true => K .normal st
    | false => K (.exit j) st
  | e, st => K e st

section
variable {E : AEnv} {S : Base} {K : Exit → ASt → Prop} {st : ASt}
theorem AWP.seq {x y : Code} (h : AWP E S x (seqK E S y K) st) : AWP E S (.seq x y) K st := by
  refine ⟨fun a w hs => wp_seq (wp_mono (h.run a w hs) fun e a' w' h' => ?_)⟩
  obtain ⟨st', hs', hk⟩ := h'
  cases e with
  | normal => exact (show AWP E S y K st' from hk).run a' w' hs'
  | _ => exact ⟨st', hs', hk⟩
theorem AWP.region (he : E.Ok) {id : Nat} {ops : Array Oper} (h : arun E S ops.toList ops.toList st (K .normal)) : AWP E S (.region id ops false) K st := by
  refine ⟨fun a w hs => wp_region_list ?_⟩
  have := arun_sound he (all := ops.toList) (Q := fun e a' w' => ∃ st', SimX E.W S st' a' w' ∧ K e st') (fun a w h => h) ops.toList st a w hs h
  simpa using this
theorem AWP.skip (h : K .normal st) : AWP E S .skip K st := ⟨fun a w hs => wp_skip ⟨st, hs, h⟩⟩
theorem AWP.label {l : Nat} (h : K .normal st) : AWP E S (.label l) K st := ⟨fun a w hs => wp_label ⟨st, hs, h⟩⟩
theorem AWP.ret (h : K .ret st) : AWP E S .ret K st := ⟨fun a w hs => wp_ret ⟨st, hs, h⟩⟩
theorem AWP.exit {id : Nat} (h : K (.exit id) st) : AWP E S (.exit id) K st := ⟨fun a w hs => wp_exit ⟨st, hs, h⟩⟩
theorem AWP.cond {c : Operand} {x y : Code} (h : aEv st c fun v => aBool v (AWP E S x K st) (AWP E S y K st)) : AWP E S (.cond c x y) K st := by
  refine ⟨fun a w hs => ?_⟩
  have hs0 := hs
  obtain ⟨Z, ρ, hs⟩ := hs
  obtain ⟨v, hv, hk⟩ := aEv_get hs h
  obtain ⟨p, hp, h1, h2⟩ := aBool_get hv hk
  exact wp_cond_split hp (fun e => (h1 e).run a w hs0) (fun e => (h2 e).run a w hs0)
theorem AWP.block {id : Nat} {c : Code} (h : AWP E S c (blockK id K) st) : AWP E S (.block id c) K st := by
  refine ⟨fun a w hs => wp_block (wp_mono (h.run a w hs) fun e a' w' h' => ?_)⟩
  obtain ⟨st', hs', hk⟩ := h'
  cases e with
  | exit j =>
    simp only [blockK] at hk
    simp only [Exit.inBlock]
    split at hk
    · rename_i e; rw [if_pos (Nat.eq_of_beq_eq_true e)]; exact ⟨st', hs', hk⟩
    · rename_i e; rw [if_neg (Nat.ne_of_beq_eq_false e)]; exact ⟨st', hs', hk⟩
  | _ => exact ⟨st', hs', hk⟩

/-- What is known of a slot may be forgotten. -/
inductive SubV : AV → AV → Prop
  | refl (x : AV) : SubV x x
  | dead (x : AV) : SubV x (.one .dead)
inductive SubL : List AV → List AV → Prop
  | nil : SubL [] []
  | cons {x y : AV} {l m : List AV} (h : SubV x y) (t : SubL l m) : SubL (x :: l) (y :: m)
theorem SubL.get {l m : List AV} (h : SubL l m) : l.length = m.length ∧ ∀ (i : Nat) y, m[i]? = some y → ∃ x, l[i]? = some x ∧ SubV x y := by
  induction h with
  | nil => exact ⟨rfl, by simp⟩
  | cons h t ih =>
    refine ⟨by simp [ih.1], fun i y hy => ?_⟩
    cases i with
    | zero => simp at hy; subst hy; exact ⟨_, rfl, h⟩
    | succ i => exact ih.2 i y (by simpa using hy)
/-- What is known of objects may be forgotten. -/
def SubO (ob ob' : List (Nat × AO)) : Prop := ∀ id o, oget ob' id = some o → oget ob id = some o
theorem SubO.nil {ob : List (Nat × AO)} : SubO ob [] := fun id o h => by cases h
theorem SubO.cons {ob r : List (Nat × AO)} {i : Nat} {o : AO} (h : oget ob i = some o) (t : SubO ob r) : SubO ob ((i, o) :: r) := fun id x hx => by
  simp only [oget] at hx
  split at hx
  · rename_i e; subst e; injection hx with hx; subst hx; exact h
  · exact t id x hx
theorem WS.sub {T : World → Prop} {S : Base} {Z : Nat → Prop} {w : World} {ρ : Nat → Value} {ob ob' : List (Nat × AO)} (h : WS T S Z w ρ ob) (hs : SubO ob ob') : WS T S Z w ρ ob' :=
  ⟨h.os, h.tape, h.output, h.size, h.old, h.zlt, fun id o b ho hb => h.mine id o b (hs id o ho) hb, fun i j oi oj b hi hj hij hbi hbj => h.sep i j oi oj b (hs i oi hi) (hs j oj hj) hij hbi hbj, fun id o ho => h.obj id o (hs id o ho), h.g, h.z0, h.znew⟩
theorem Sim.sub {T : World → Prop} {S : Base} {Z : Nat → Prop} {ρ : Nat → Value} {st st' : ASt} {a : Act} {w : World} (h : Sim T S Z ρ st a w) (ht : SubL st.tm st'.tm) (ho : SubO st.ob st'.ob) : Sim T S Z ρ st' a w := by
  obtain ⟨hl, hg⟩ := ht.get
  refine ⟨h.ws.sub ho, by rw [h.len, hl], fun i y v hy hv => ?_, h.df⟩
  obtain ⟨x, hx, hsub⟩ := hg i y hy
  cases hsub with
  | refl => exact h.tm i _ v hx hv
  | dead => exact .one _ _ trivial
theorem SimX.sub {T : World → Prop} {st st' : ASt} {a : Act} {w : World} (h : SimX T S st a w) (ht : SubL st.tm st'.tm) (ho : SubO st.ob st'.ob) : SimX T S st' a w := by
  obtain ⟨Z, ρ, h⟩ := h
  obtain ⟨hl, hg⟩ := ht.get
  refine ⟨Z, ρ, ⟨h.ws.sub ho, by rw [h.len, hl], fun i y v hy hv => ?_, h.df⟩⟩
  obtain ⟨x, hx, hsub⟩ := hg i y hy
  cases hsub with
  | refl => exact h.tm i _ v hx hv
  | dead => exact .one _ _ trivial
/-- The head of a loop: the slots that the round writes are dead, but for those that are named. -/
def headTm : List AV → List Nat → List AV
  | tm, [] => tm
  | tm, i :: r => headTm (tm.set i (.one .dead)) r

theorem exists_least {p : Nat → Prop} (h : ∃ n, p n) : ∃ n, p n ∧ ∀ m, p m → n ≤ m := by
  obtain ⟨n, hn⟩ := h
  induction n using Nat.strongRecOn with
  | _ n ih =>
    by_cases hm : ∃ m, m < n ∧ p m
    · obtain ⟨m, hlt, hp⟩ := hm
      exact ih m hlt hp
    · refine ⟨n, hn, fun m hp => ?_⟩
      rcases Nat.lt_or_ge m n with h | h
      · exact absurd ⟨m, h, hp⟩ hm
      · exact h
open Classical in
noncomputable def leastOf (p : Nat → Prop) : Nat := if h : ∃ n, p n then Classical.choose (exists_least h) else 0
open Classical in
theorem leastOf_spec {p : Nat → Prop} (h : ∃ n, p n) : p (leastOf p) := by
  unfold leastOf
  rw [dif_pos h]
  exact (Classical.choose_spec (exists_least h)).1
open Classical in
theorem leastOf_le {p : Nat → Prop} {n : Nat} (h : p n) : leastOf p ≤ n := by
  unfold leastOf
  rw [dif_pos ⟨n, h⟩]
  exact (Classical.choose_spec (exists_least ⟨n, h⟩)).2 n h

/-- A loop: a state for each value of a ghost, a measure that each round lowers. -/
theorem AWP.loop {α : Type} (R : α → Prop) (hd : α → ASt) (μ : α → Nat) (x0 : α) {c : Code} (h0 : R x0) (hsub : SubL st.tm (hd x0).tm) (hob : SubO st.ob (hd x0).ob)
    (round : ∀ x, R x → AWP E S c (fun e st' => match e with
      | .normal => ∃ y, R y ∧ μ y < μ x ∧ SubL st'.tm (hd y).tm ∧ SubO st'.ob (hd y).ob
      | e => K e st') (hd x)) : AWP E S (.loop c) K st := by
  refine ⟨fun a w hs => wp_loop (fun a w => ∃ x, R x ∧ SimX E.W S (hd x) a w) (fun a w => leastOf fun n => ∃ x, R x ∧ SimX E.W S (hd x) a w ∧ μ x = n) ⟨x0, h0, hs.sub hsub hob⟩ ?_⟩
  rintro a w ⟨x1, hx1, hs1⟩
  obtain ⟨x, hx, hsx, hm⟩ := leastOf_spec (p := fun n => ∃ x, R x ∧ SimX E.W S (hd x) a w ∧ μ x = n) ⟨_, x1, hx1, hs1, rfl⟩
  refine wp_mono ((round x hx).run a w hsx) fun e a' w' h' => ?_
  obtain ⟨st', hs', hk⟩ := h'
  cases e with
  | normal =>
    obtain ⟨y, hy, hlt, hsl, hso⟩ := hk
    have hsy := hs'.sub hsl hso
    refine ⟨⟨y, hy, hsy⟩, ?_⟩
    have := leastOf_le (p := fun n => ∃ x, R x ∧ SimX E.W S (hd x) a' w' ∧ μ x = n) ⟨y, hy, hsy, rfl⟩
    omega
  | _ => exact ⟨st', hs', hk⟩
end
end Go.Proofs.YtlhanpkfnhnegaaDoor
