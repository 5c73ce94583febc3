/- Contracts over abstract values: functions that hand back data. -/
import Derived.Test.YtlhanpkfnhnegaaDoorAvH
set_option linter.unusedVariables false
set_option linter.unusedSimpArgs false
set_option maxRecDepth 100000
namespace Go.Proofs.YtlhanpkfnhnegaaDoor
open Go.RowKit

inductive AP1 where
  | one (d : AD)
  | agg (ds : List AD)
inductive AP where
  | val (p : AP1)
  | tup (ps : List AP1)
def AP1.v : AP1 → AV
  | .one d => .one (.d d)
  | .agg ds => .agg (ds.map .d)
def AP.v : AP → AV
  | .val p => p.v
  | .tup ps => .tup (ps.map AP1.v)
def RelP1 (Z : Nat → Prop) (w : World) : AP1 → Value → Prop
  | .one d, v => RelD Z w d v
  | .agg ds, v => ∃ us : List Value, v = .agg us.toArray ∧ us.length = ds.length ∧ ∀ (i : Nat) d u, ds[i]? = some d → us[i]? = some u → RelD Z w d u
def RelP (Z : Nat → Prop) (w : World) : AP → Value → Prop
  | .val p, v => RelP1 Z w p v
  | .tup ps, v => ∃ us : List Value, v = .tuple us.toArray ∧ us.length = ps.length ∧ ∀ (i : Nat) p u, ps[i]? = some p → us[i]? = some u → RelP1 Z w p u
theorem RelP1.v {Z : Nat → Prop} {w : World} {ρ : Nat → Value} {p : AP1} {v : Value} (h : RelP1 Z w p v) : RelV Z w ρ p.v v := by
  cases p with
  | one d => exact .one _ _ h
  | agg ds =>
    obtain ⟨us, rfl, hl, hr⟩ := h
    refine .agg _ us (by simp [hl]) fun i c u hc hu => ?_
    rw [List.getElem?_map] at hc
    obtain ⟨d, hd, rfl⟩ := Option.map_eq_some_iff.1 hc
    exact hr i d u hd hu
theorem RelP.v {Z : Nat → Prop} {w : World} {ρ : Nat → Value} {p : AP} {v : Value} (h : RelP Z w p v) : RelV Z w ρ p.v v := by
  cases p with
  | val p => exact RelP1.v h
  | tup ps =>
    obtain ⟨us, rfl, hl, hr⟩ := h
    refine .tup _ us (by simp [hl]) fun i c u hc hu => ?_
    rw [List.getElem?_map] at hc
    obtain ⟨p, hp, rfl⟩ := Option.map_eq_some_iff.1 hc
    exact (hr i p u hp hu).v

/-- The function hands back the datum res, in memory that stands from there on; old memory is as it was. -/
structure PCall (E : AEnv) (f : FuncId) (args : List AP1) (res : AP) : Prop where
  enter : ∀ (us : Array Value) w, (callFunc f us).run E.P w = .ok (.enter f us) w
  run : ∀ (Z : Nat → Prop) (w : World) (us : List Value), (∀ b, Z b → b < w.heap.size) → GZ E.W Z w → us.length = args.length → (∀ (i : Nat) p u, args[i]? = some p → us[i]? = some u → RelP1 Z w p u) →
    Calls E.P f us.toArray w fun e w' => ∃ v Z', e = .returned v ∧ Below w.heap.size w w' ∧ (∀ b, Z b → Z' b) ∧ (∀ b, Z' b → Z b ∨ (w.heap.size ≤ b ∧ b < w'.heap.size)) ∧ RelP Z' w' res v

/-- A value as data; own slices by what they hold. -/
def aResC (ob : List (Nat × AO)) (c : AC) (K : AD → Prop) : Prop :=
  match c with
  | .d x => K x
  | .nil => K (.sl [])
  | .own id => aOb ob id fun o => match o with
    | .row _ _ xs => K (.sl xs)
    | _ => False
  | _ => False
def aResCs (ob : List (Nat × AO)) : List AC → (List AD → Prop) → Prop
  | [], K => K []
  | c :: r, K => aResC ob c fun d => aResCs ob r fun ds => K (d :: ds)
def aResV (ob : List (Nat × AO)) (x : AV) (K : AP1 → Prop) : Prop :=
  match x with
  | .one c => aResC ob c fun d => K (.one d)
  | .agg cs => aResCs ob cs fun ds => K (.agg ds)
  | .tup _ => False
/-- What stands once the own slices stand too. -/
def ZOwn (Z : Nat → Prop) (ρ : Nat → Value) (ob : List (Nat × AO)) (b : Nat) : Prop := Z b ∨ ∃ id o, oget ob id = some o ∧ blkOf (ρ id) = some b
section
variable {T : World → Prop} {S : Base} {Z : Nat → Prop} {w : World} {ρ : Nat → Value} {ob : List (Nat × AO)}
theorem aResC_get (h : WS T S Z w ρ ob) {c : AC} {K : AD → Prop} {v : Value} (hv : RelC Z w ρ c v) (hk : aResC ob c K) : ∃ d, RelD (ZOwn Z ρ ob) w d v ∧ K d := by
  have up : ∀ {d : AD} {v : Value}, RelD Z w d v → RelD (ZOwn Z ρ ob) w d v := fun hd => hd.mono (fun b hb => .inl hb) fun _ _ => rfl
  cases c with
  | d x => exact ⟨x, up hv, hk⟩
  | nil =>
    have hv : v = .slice none 0 0 := hv
    subst hv
    exact ⟨.sl [], .sl [] none 0 0 [] (Nat.le_refl _) (Nat.zero_le _) rfl (by simp) (by simp) (.inl rfl) (by simp), hk⟩
  | own id =>
    obtain ⟨o, ho, hk⟩ := aOb_get hk
    split at hk
    · rename_i e s xs
      obtain ⟨us, h0, hl, hxs, hus, hown, hd⟩ := h.obj id _ ho
      refine ⟨.sl xs, ?_, hk⟩
      have hv : v = ρ id := hv.1
      subst hv
      rcases hown.2 with ⟨hv, hn⟩ | ⟨g, cap, cur, hv, _, hg, h1, h2, h3, h4⟩
      · have : xs = [] := List.eq_nil_of_length_eq_zero hn
        subst this
        rw [hv]
        exact .sl [] none 0 0 [] (Nat.le_refl _) (Nat.zero_le _) rfl (by simp) (by simp) (.inl rfl) (by simp)
      · rw [hv]
        refine .sl xs _ cap s us h1 h2 hl hxs hus (.inr ⟨g, 0, rfl, .inr ⟨id, _, ho, by rw [hv]; rfl⟩, fun i u hu => ?_⟩) fun i j x u a b e1 e2 e3 e4 => up (hd i j x u a b e1 e2 e3 e4)
        rw [Nat.zero_add]
        exact own_cell hown (by rw [hv]; rfl) hu
    · exact hk.elim
  | _ => exact hk.elim
theorem aResCs_get (h : WS T S Z w ρ ob) : ∀ {cs : List AC} {us : List Value} {K : List AD → Prop}, RelL Z w ρ cs us → aResCs ob cs K → ∃ ds, us.length = ds.length ∧ (∀ (i : Nat) d u, ds[i]? = some d → us[i]? = some u → RelD (ZOwn Z ρ ob) w d u) ∧ K ds
  | [], us, K, hr, hk => ⟨[], hr.1, by simp, hk⟩
  | c :: r, [], K, hr, hk => by have := hr.1; simp at this
  | c :: r, u :: us, K, hr, hk => by
    obtain ⟨d, hd, hk⟩ := aResC_get h (hr.2 0 c u rfl rfl) hk
    obtain ⟨ds, hl, hds, hk⟩ := aResCs_get h (cs := r) (us := us) ⟨by simpa using hr.1, fun i c u h1 h2 => hr.2 (i + 1) c u (by simpa using h1) (by simpa using h2)⟩ hk
    refine ⟨d :: ds, by simp [hl], fun i x y h1 h2 => ?_, hk⟩
    cases i with
    | zero => simp at h1 h2; subst h1 h2; exact hd
    | succ i => exact hds i x y (by simpa using h1) (by simpa using h2)
theorem aResV_get (h : WS T S Z w ρ ob) {x : AV} {K : AP1 → Prop} {v : Value} (hv : RelV Z w ρ x v) (hk : aResV ob x K) : ∃ p, RelP1 (ZOwn Z ρ ob) w p v ∧ K p := by
  cases hv with
  | one c v hv => obtain ⟨d, hd, hk⟩ := aResC_get h hv hk; exact ⟨.one d, hd, hk⟩
  | agg cs us hl hr => obtain ⟨ds, h1, h2, hk⟩ := aResCs_get h ⟨hl, hr⟩ hk; exact ⟨.agg ds, ⟨us, rfl, h1, h2⟩, hk⟩
  | tup vs us hl hr => exact hk.elim
theorem ZOwn.lt (h : WS T S Z w ρ ob) : ∀ b, ZOwn Z ρ ob b → b < w.heap.size := by
  rintro b (hb | ⟨id, o, ho, hb⟩)
  · exact h.zlt b hb
  · exact h.lt ho hb
end

/-- The arguments of a call as data, none of them own. -/
def aPs : List AV → (List AP1 → Prop) → Prop
  | [], K => K []
  | x :: r, K => aResV [] x fun p => aPs r fun ps => K (p :: ps)
def aRs (ob : List (Nat × AO)) : List AV → (List AP1 → Prop) → Prop
  | [], K => K []
  | x :: r, K => aResV ob x fun p => aRs ob r fun ps => K (p :: ps)
def AP1.scalar : AP1 → Bool
  | .one (.pv _) => true
  | _ => false
def AP.scalar : AP → Bool
  | .val p => p.scalar
  | .tup ps => ps.all AP1.scalar
theorem RelP1.any {p : AP1} (hs : p.scalar = true) {Z Z' : Nat → Prop} {w w' : World} {v : Value} (h : RelP1 Z w p v) : RelP1 Z' w' p v := by
  cases p with
  | one d =>
    cases d with
    | pv u => cases h with | pv _ h1 => exact .pv _ h1
    | sl xs => cases hs
  | agg ds => cases hs
theorem RelP.any {p : AP} (hs : p.scalar = true) {Z Z' : Nat → Prop} {w w' : World} {v : Value} (h : RelP Z w p v) : RelP Z' w' p v := by
  cases p with
  | val p => exact RelP1.any hs h
  | tup ps =>
    obtain ⟨us, rfl, hl, hr⟩ := h
    refine ⟨us, rfl, hl, fun i p u h1 h2 => ?_⟩
    exact RelP1.any (List.all_eq_true.1 hs p (List.mem_of_getElem? h1)) (hr i p u h1 h2)

section
variable {E : AEnv} {S : Base} {st : ASt}
theorem aRs_get {Z : Nat → Prop} {ρ : Nat → Value} {w : World} (h : WS E.W S Z w ρ st.ob) : ∀ {xs : List AV} {us : List Value} {K : List AP1 → Prop}, us.length = xs.length → (∀ (i : Nat) x u, xs[i]? = some x → us[i]? = some u → RelV Z w ρ x u) → aRs st.ob xs K →
    ∃ ps, us.length = ps.length ∧ (∀ (i : Nat) p u, ps[i]? = some p → us[i]? = some u → RelP1 (ZOwn Z ρ st.ob) w p u) ∧ K ps
  | [], us, K, hl, _, hk => ⟨[], hl, by simp, hk⟩
  | x :: r, [], K, hl, _, hk => by simp at hl
  | x :: r, u :: us, K, hl, hr, hk => by
    obtain ⟨p, hp, hk⟩ := aResV_get h (hr 0 x u rfl rfl) hk
    obtain ⟨ps, h1, h2, hk⟩ := aRs_get h (xs := r) (us := us) (by simpa using hl) (fun i y v h1 h2 => hr (i + 1) y v (by simpa using h1) (by simpa using h2)) hk
    refine ⟨p :: ps, by simp [h1], fun i y v h3 h4 => ?_, hk⟩
    cases i with
    | zero => simp at h3 h4; subst h3 h4; exact hp
    | succ i => exact h2 i y v (by simpa using h3) (by simpa using h4)
theorem aPs_rs : ∀ {xs : List AV} {K : List AP1 → Prop}, aPs xs K → aRs [] xs K := fun {xs} => by
  induction xs with
  | nil => intro K h; exact h
  | cons x r ih =>
    intro K h
    have mono : ∀ {x : AV} {K K' : AP1 → Prop}, (∀ p, K p → K' p) → aResV [] x K → aResV [] x K' := by
      have monoC : ∀ {c : AC} {K K' : AD → Prop}, (∀ p, K p → K' p) → aResC [] c K → aResC [] c K' := by
        intro c K K' hm hk
        cases c <;> first | exact hm _ hk | exact hk.elim
      have monoCs : ∀ {cs : List AC} {K K' : List AD → Prop}, (∀ p, K p → K' p) → aResCs [] cs K → aResCs [] cs K' := by
        intro cs
        induction cs with
        | nil => intro K K' hm hk; exact hm _ hk
        | cons c r ih => intro K K' hm hk; exact monoC (fun d hd => ih (fun ds hds => hm _ hds) hd) hk
      intro x K K' hm hk
      cases x with
      | one c => exact monoC (fun d hd => hm _ hd) hk
      | agg cs => exact monoCs (fun d hd => hm _ hd) hk
      | tup vs => exact hk
    exact mono (fun p hp => ih hp) h
theorem below_grown {w w' : World} (h : Below w.heap.size w w') : w.grownBy w' none := ⟨h.os, h.tape, h.output, h.size, fun k hk _ => h.block k hk⟩

/-- A call of a function that hands back data; no argument is own. -/
theorem ACall.pure {f : FuncId} {args : List AV} {K : AV → ASt → Prop} {ps : List AP1} {res : AP} (hc : PCall E f ps res) (hps : aPs args (· = ps)) (hk : K res.v st) : ACall E S f args st K := by
  refine ⟨hc.enter, fun Z ρ a w us hs hl hr => ?_⟩
  have hws0 : WS E.W S Z w ρ [] := hs.ws.sub SubO.nil
  obtain ⟨ps', h1, h2, rfl⟩ := aRs_get (st := ⟨[], []⟩) hws0 hl hr (aPs_rs hps)
  refine (hc.run Z w us hs.ws.zlt hs.ws.g h1 fun i p u h3 h4 => ?_).mono ?_
  · have := h2 i p u h3 h4
    have hz : ∀ b, ZOwn Z ρ [] b → Z b := by rintro b (hb | ⟨id, o, ho, _⟩); exact hb; cases ho
    cases p with
    | one d => exact RelD.mono hz (fun _ _ => rfl) this
    | agg ds => obtain ⟨us, e, hl, hr⟩ := this; exact ⟨us, e, hl, fun i d u h5 h6 => (hr i d u h5 h6).mono hz fun _ _ => rfl⟩
  · rintro e w' ⟨v, Z', rfl, hb, hz, hz2, hv⟩
    exact ⟨v, res.v, st, Z', ρ, rfl, hs.grow (below_grown hb) hz hz2, hv.v, hk⟩
/-- A call of a function that hands back plain values; arguments may be own. -/
theorem ACall.scalar {f : FuncId} {args : List AV} {K : AV → ASt → Prop} {ps : List AP1} {res : AP} (hc : PCall E f ps res) (hps : aRs st.ob args (· = ps)) (hsc : res.scalar = true) (hk : K res.v st) : ACall E S f args st K := by
  refine ⟨hc.enter, fun Z ρ a w us hs hl hr => ?_⟩
  obtain ⟨ps', h1, h2, rfl⟩ := aRs_get hs.ws hl hr hps
  refine (hc.run (ZOwn Z ρ st.ob) w us (ZOwn.lt hs.ws) ?_ h1 h2).mono ?_
  · obtain ⟨w1, g1, g2, g3⟩ := hs.ws.g
    exact ⟨w1, g1, g2, fun b hb => .inl (g3 b hb)⟩
  · rintro e w' ⟨v, Z', rfl, hb, hz, hz2, hv⟩
    exact ⟨v, res.v, st, Z, ρ, rfl, hs.grow (below_grown hb) (fun _ h => h) (fun _ h => .inl h), (hv.any hsc).v, hk⟩

/-- What a function hands back. -/
def aRet1 (E : AEnv) (st : ASt) (r : ResultVar) (K : AP1 → Prop) : Prop :=
  match r with
  | .tmp t => aTm st.tm t fun v => aResV st.ob v K
  | .cell t ty => aTm st.tm t fun x => aLoad E st ty x fun v => aResV st.ob v K
def aRets (E : AEnv) (st : ASt) : List ResultVar → (List AP1 → Prop) → Prop
  | [], K => K []
  | r :: rs, K => aRet1 E st r fun p => aRets E st rs fun ps => K (p :: ps)
def aRet (E : AEnv) (st : ASt) (rs : List ResultVar) (K : AP → Prop) : Prop :=
  match rs with
  | [r] => aRet1 E st r fun p => K (.val p)
  | rs => aRets E st rs fun ps => K (.tup ps)
def retK (E : AEnv) (rs : List ResultVar) (res : AP) : Exit → ASt → Prop
  | .ret, st => aRet E st rs (· = res)
  | .normal, st => aRet E st rs (· = res)
  | _, _ => False

def resSem (tmps : Array Value) : ResultVar → Sem Value
  | .tmp t => pure (tmps.getD t undef)
  | .cell a t => do loadVar t (← asAddr (tmps.getD a undef))
theorem aRet1_get (he : E.Ok) {Z : Nat → Prop} {ρ : Nat → Value} {a : Act} {w : World} (h : Sim E.W S Z ρ st a w) {r : ResultVar} {K : AP1 → Prop} (hk : aRet1 E st r K) :
    ∃ (v : Value) (p : AP1), (resSem a.tmps r).run E.P w = .ok v w ∧ RelP1 (ZOwn Z ρ st.ob) w p v ∧ K p := by
  cases r with
  | tmp t =>
    obtain ⟨x, hx, hk⟩ := aTm_get hk
    have hlt : t < a.tmps.size := by rw [h.len]; exact (List.getElem?_eq_some_iff.1 hx).1
    obtain ⟨p, hp, hk⟩ := aResV_get h.ws (h.tm t x _ hx (Array.getElem?_eq_getElem hlt)) hk
    exact ⟨a.tmps[t], p, by simp [resSem, hlt], hp, hk⟩
  | cell t ty =>
    obtain ⟨x, hx, hk⟩ := aTm_get hk
    have hlt : t < a.tmps.size := by rw [h.len]; exact (List.getElem?_eq_some_iff.1 hx).1
    obtain ⟨b, off, v, y, e, hr, hy, hk⟩ := load_get he h (h.tm t x _ hx (Array.getElem?_eq_getElem hlt)) hk
    obtain ⟨p, hp, hk⟩ := aResV_get h.ws hy hk
    refine ⟨v, p, ?_, hp, hk⟩
    simp [resSem, hlt, e, asAddr, hr]
theorem aRets_get (he : E.Ok) {Z : Nat → Prop} {ρ : Nat → Value} {a : Act} {w : World} (h : Sim E.W S Z ρ st a w) : ∀ {rs : List ResultVar} {K : List AP1 → Prop}, aRets E st rs K →
    ∃ (vs : List Value) (ps : List AP1), (rs.mapM (resSem a.tmps)).run E.P w = .ok vs w ∧ vs.length = ps.length ∧ (∀ (i : Nat) p u, ps[i]? = some p → vs[i]? = some u → RelP1 (ZOwn Z ρ st.ob) w p u) ∧ ps.length = rs.length ∧ K ps
  | [], K, hk => ⟨[], [], rfl, rfl, by simp, rfl, hk⟩
  | r :: rs, K, hk => by
    obtain ⟨v, p, h1, h2, hk⟩ := aRet1_get he h hk
    obtain ⟨vs, ps, h3, h4, h5, h6, hk⟩ := aRets_get he h (rs := rs) hk
    refine ⟨v :: vs, p :: ps, ?_, by simp [h4], fun i q u h7 h8 => ?_, by simp [h6], hk⟩
    · rw [List.mapM_cons, Sem.run_bind, h1]
      simp only [Result.andThen_ok]
      rw [Sem.run_bind, h3]
      rfl
    · cases i with
      | zero => simp at h7 h8; subst h7 h8; exact h2
      | succ i => exact h5 i q u (by simpa using h7) (by simpa using h8)
theorem aRet_get (he : E.Ok) {Z : Nat → Prop} {ρ : Nat → Value} {a : Act} {w : World} (h : Sim E.W S Z ρ st a w) {fn : Func} {K : AP → Prop} (hk : aRet E st fn.results.toList K) :
    ∃ v p, (results fn a.tmps).run E.P w = .ok v w ∧ RelP (ZOwn Z ρ st.ob) w p v ∧ K p := by
  unfold aRet at hk
  have hres : ∀ vs : List Value, (fn.results.toList.mapM (resSem a.tmps)).run E.P w = .ok vs w → (results fn a.tmps).run E.P w = .ok (if h : vs.toArray.size = 1 then vs.toArray[0] else .tuple vs.toArray) w := by
    intro vs hvs
    have e : results fn a.tmps = (do let vs ← fn.results.mapM (resSem a.tmps); pure (if h : vs.size = 1 then vs[0] else .tuple vs)) := rfl
    rw [e, Sem.run_bind, Array.mapM_eq_mapM_toList, Sem.run_map, hvs]
    rfl
  split at hk
  · rename_i r hr
    obtain ⟨v, p, h1, h2, hk⟩ := aRet1_get he h hk
    refine ⟨v, .val p, ?_, h2, hk⟩
    have := hres [v] (by rw [hr, List.mapM_cons, Sem.run_bind, h1]; rfl)
    rw [this]
    rfl
  · rename_i hne
    obtain ⟨vs, ps, h1, h2, h3, h4, hk⟩ := aRets_get he h hk
    refine ⟨_, .tup ps, hres vs h1, ⟨vs, ?_, h2, h3⟩, hk⟩
    have : ¬ vs.toArray.size = 1 := by
      intro e
      have : fn.results.toList.length = 1 := by simp at e; omega
      obtain ⟨r, hr⟩ := List.length_eq_one_iff.1 this
      exact hne r hr
    rw [dif_neg this]

def aUnds : Nat → (List AV → Prop) → Prop
  | 0, K => K []
  | n + 1, K => aUnds n fun r => K (.one .und :: r)
theorem aUnds_get : ∀ {n : Nat} {K : List AV → Prop}, aUnds n K → K (List.replicate n (.one .und))
  | 0, _, h => h
  | n + 1, K, h => aUnds_get (n := n) (K := fun r => K (.one .und :: r)) h
def aVof (p : AP1) (K : AV → Prop) : Prop :=
  match p with
  | .one d => K (.one (.d d))
  | .agg ds => aMapD ds fun cs => K (.agg cs)
theorem aVof_get {p : AP1} {K : AV → Prop} (h : aVof p K) : K p.v := by
  cases p with
  | one d => exact h
  | agg ds => exact aMapD_get (K := fun cs => K (.agg cs)) h
def aInit : List AP1 → Nat → (List AV → Prop) → Prop
  | [], n, K => aUnds n K
  | _ :: _, 0, _ => False
  | p :: r, n + 1, K => aVof p fun v => aInit r n fun tm => K (v :: tm)
theorem aInit_get : ∀ {args : List AP1} {n : Nat} {K : List AV → Prop}, aInit args n K → args.length ≤ n ∧ K (args.map AP1.v ++ List.replicate (n - args.length) (.one .und))
  | [], n, K, h => ⟨Nat.zero_le _, by simpa using aUnds_get h⟩
  | _ :: _, 0, _, h => h.elim
  | p :: r, n + 1, K, h => by
    obtain ⟨h1, h2⟩ := aInit_get (args := r) (n := n) (K := fun tm => K (p.v :: tm)) (aVof_get h)
    refine ⟨by simp; omega, ?_⟩
    simpa [Nat.succ_sub_succ] using h2

/-- A function's contract, from its code. -/
theorem pcall_of (he : E.Ok) {f : FuncId} {fn : Func} {c : Code} {n : Nat} {rs : List ResultVar} {args : List AP1} {res : AP} (hf : E.P.funcs[f]? = some fn) (hb : fn.body = some c)
    (enter : ∀ (us : Array Value) w, (callFunc f us).run E.P w = .ok (.enter f us) w) (hn : fn.ntmps = n) (hrs : fn.results.toList = rs)
    (h : ∀ S, aInit args n fun tm => AWP E S c (retK E rs res) ⟨tm, []⟩) : PCall E f args res := by
  refine ⟨enter, fun Z w us hz hg hl hr => ?_⟩
  subst hn hrs
  obtain ⟨hle, hk⟩ := aInit_get (h ⟨w, fun _ => False, Z⟩)
  have hs : Sim E.W ⟨w, fun _ => False, Z⟩ Z (fun _ => undef) ⟨args.map AP1.v ++ List.replicate (fn.ntmps - args.length) (.one .und), []⟩ { tmps := us.toArray ++ Array.replicate (fn.ntmps - us.toArray.size) undef, defers := [] } w := by
    refine ⟨⟨rfl, rfl, rfl, Nat.le_refl _, fun _ _ _ => rfl, hz, fun id o b ho _ => (by cases ho), fun i j oi oj b hi _ _ _ _ => (by cases hi), fun id o ho => (by cases ho), hg, fun b hb => hb, fun b hb => .inl hb⟩, by simp [hl], fun i x v hx hv => ?_, rfl⟩
    simp only at hx hv
    have hv' : (us ++ List.replicate (fn.ntmps - us.length) undef)[i]? = some v := by
      have := hv
      rw [← Array.getElem?_toList] at this
      simpa using this
    by_cases hi : i < us.length
    · rw [List.getElem?_append_left (by simpa [hl] using hi), List.getElem?_map] at hx
      obtain ⟨p, hp, rfl⟩ := Option.map_eq_some_iff.1 hx
      rw [List.getElem?_append_left hi] at hv'
      exact (hr i p v hp hv').v
    · rw [List.getElem?_append_right (by simp; omega)] at hx
      rw [List.getElem?_append_right (by omega)] at hv'
      have e1 := List.eq_of_mem_replicate (List.mem_of_getElem? hx)
      have e2 := List.eq_of_mem_replicate (List.mem_of_getElem? hv')
      subst e1 e2
      exact .one _ _ (show RelC Z w (fun _ => undef) .und undef from rfl)
  refine calls_of_wp hf hb (wp_mono (hk.run _ w ⟨Z, _, hs⟩) fun e a' w' h' => ?_)
  obtain ⟨st', ⟨Z', ρ', hs'⟩, hk'⟩ := h'
  have fin : aRet E st' fn.results.toList (· = res) → a'.defers = [] ∧ ∃ v, (results fn a'.tmps).run E.P w' = .ok v w' ∧ ∃ v0 Z', Ending.returned v = .returned v0 ∧ Below w.heap.size w w' ∧ (∀ b, Z b → Z' b) ∧ (∀ b, Z' b → Z b ∨ (w.heap.size ≤ b ∧ b < w'.heap.size)) ∧ RelP Z' w' res v0 := by
    intro hr
    obtain ⟨v, p, h1, h2, h3⟩ := aRet_get he hs' hr
    subst h3
    refine ⟨hs'.df, v, h1, v, ZOwn Z' ρ' st'.ob, rfl, ⟨hs'.ws.os, hs'.ws.tape, hs'.ws.output, hs'.ws.size, fun b hb => hs'.ws.old b hb (fun h => h)⟩, fun b hb => .inl (hs'.ws.z0 b hb), fun b hb => ?_, h2⟩
    have hlt := ZOwn.lt hs'.ws b hb
    rcases hb with hb | ⟨id, o, ho, hb⟩
    · rcases hs'.ws.znew b hb with h4 | h4
      · exact .inl h4
      · exact .inr ⟨h4, hlt⟩
    · rcases (hs'.ws.mine id o b ho hb).2 with h4 | h4
      · exact .inr ⟨h4, hlt⟩
      · exact h4.elim
  cases e with
  | normal => exact fin hk'
  | ret => exact fin hk'
  | _ => exact hk'.elim
end
end Go.Proofs.YtlhanpkfnhnegaaDoor
