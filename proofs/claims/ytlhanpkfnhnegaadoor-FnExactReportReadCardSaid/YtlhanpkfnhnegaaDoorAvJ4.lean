/- Joined by join.py: AvU AvU2 AvV AvVD -/
import Derived.Test.YtlhanpkfnhnegaaDoorAvJ3
import Derived.Lib.BufferWrite
set_option linter.unusedVariables false
set_option linter.unusedSimpArgs false
set_option maxRecDepth 100000
/- Calls that are handed objects of the caller's own: pointers into them, or slices that the callee appends to. -/
namespace Go.Proofs.YtlhanpkfnhnegaaDoor
open Go.RowKit

/-- One value; a result. -/
inductive AA where
  | one (c : AC)
  | agg (cs : List AC)
inductive AR where
  | val (a : AA)
  | tup (l : List AA)
def AA.v : AA → AV
  | .one c => .one c
  | .agg cs => .agg cs
def AR.v : AR → AV
  | .val a => a.v
  | .tup l => .tup (l.map AA.v)
/-- Where a call stands that is handed objects. -/
def baseM (w : World) (Z : Nat → Prop) (ρ : Nat → Value) (pre : List (Nat × AO)) : Base := ⟨w, fun b => ∃ id o, oget pre id = some o ∧ blkOf (ρ id) = some b, Z⟩
/-- The contract of such a call: the objects before and behind it, under names of the contract's own; those kept are where they were. -/
structure MCall (E : AEnv) (f : FuncId) (args : List AA) (pre post : List (Nat × AO)) (keep : List Nat) (res : AR) : Prop where
  enter : ∀ (us : Array Value) w, (callFunc f us).run E.P w = .ok (.enter f us) w
  run : ∀ (Z : Nat → Prop) (w : World) (ρ : Nat → Value) (us : List Value), WS E.W (baseM w Z ρ pre) Z w ρ pre → us.length = args.length → (∀ (i : Nat) x u, args[i]? = some x → us[i]? = some u → RelV Z w ρ x.v u) →
    Calls E.P f us.toArray w fun e w' => ∃ v Z' ρ', e = .returned v ∧ WS E.W (baseM w Z ρ pre) Z' w' ρ' post ∧ (∀ id ∈ keep, ρ' id = ρ id) ∧ RelV Z' w' ρ' res.v v

def aHasO : List (Nat × AO) → Nat → Bool
  | [], _ => false
  | (k, _) :: r, i => match Nat.beq k i with
    | true => true
    | false => aHasO r i
theorem aHasO_get : ∀ {l : List (Nat × AO)} {i : Nat}, aHasO l i = true ↔ ∃ o, oget l i = some o
  | [], i => by simp [aHasO, oget]
  | (k, o) :: r, i => by
    simp only [aHasO, oget]
    cases e : Nat.beq k i with
    | true => rw [if_pos (Nat.eq_of_beq_eq_true e)]; simp
    | false => rw [if_neg (Nat.ne_of_beq_eq_false e)]; exact aHasO_get
theorem aHasO_no {l : List (Nat × AO)} {i : Nat} (h : aHasO l i = false) : oget l i = none := by
  cases e : oget l i with
  | none => rfl
  | some o => rw [aHasO_get.2 ⟨o, e⟩] at h; cases h

/-- What a value is behind the call: own slices that are not handed back as objects stand from there on. -/
def aOutC (post ob : List (Nat × AO)) (c : AC) (K : AC → Prop) : Prop :=
  match c with
  | .own id => match aHasO post id with
    | true => K (.own id)
    | false => aOb ob id fun o => match o with
      | .row _ _ xs => K (.d (.sl xs))
      | _ => False
  | .ref id k s off => match aHasO post id with
    | true => K (.ref id k s off)
    | false => False
  | c => K c
def aOutCs (post ob : List (Nat × AO)) : List AC → (List AC → Prop) → Prop
  | [], K => K []
  | c :: r, K => aOutC post ob c fun c => aOutCs post ob r fun r => K (c :: r)
def aOutV (post ob : List (Nat × AO)) (x : AV) (K : AA → Prop) : Prop :=
  match x with
  | .one c => aOutC post ob c fun c => K (.one c)
  | .agg cs => aOutCs post ob cs fun cs => K (.agg cs)
  | .tup _ => False
def ZOut (Z : Nat → Prop) (ρ : Nat → Value) (ob post : List (Nat × AO)) (b : Nat) : Prop := Z b ∨ ∃ id o, oget ob id = some o ∧ aHasO post id = false ∧ blkOf (ρ id) = some b
section
variable {T : World → Prop} {S : Base} {Z : Nat → Prop} {w : World} {ρ : Nat → Value} {ob post : List (Nat × AO)}
theorem aOutC_get (h : WS T S Z w ρ ob) {c : AC} {K : AC → Prop} {v : Value} (hv : RelC Z w ρ c v) (hk : aOutC post ob c K) : ∃ c', RelC (ZOut Z ρ ob post) w ρ c' v ∧ K c' := by
  have upb : ∀ b, Z b → ZOut Z ρ ob post b := fun b hb => .inl hb
  have up : ∀ {d : AD} {v : Value}, RelD Z w d v → RelD (ZOut Z ρ ob post) w d v := fun hd => hd.mono upb fun _ _ => rfl
  cases c with
  | own id =>
    cases e : aHasO post id with
    | true => simp only [aOutC, e] at hk; exact ⟨.own id, hv, hk⟩
    | false =>
      simp only [aOutC, e] at hk
      obtain ⟨o, ho, hk⟩ := aOb_get hk
      split at hk
      · rename_i e' s xs
        obtain ⟨us, h0, hl, hxs, hus, hown, hd⟩ := h.obj id _ ho
        refine ⟨.d (.sl xs), ?_, hk⟩
        have hv : v = ρ id := hv.1
        subst hv
        show RelD (ZOut Z ρ ob post) w (.sl xs) (ρ id)
        rcases hown.2 with ⟨hv, hn⟩ | ⟨g, cap, cur, hv, _, hg, h1, h2, h3, h4⟩
        · have : xs = [] := List.eq_nil_of_length_eq_zero hn
          subst this
          rw [hv]
          exact .sl [] none 0 0 [] (Nat.le_refl _) (Nat.zero_le _) rfl (by simp) (by simp) (.inl rfl) (by simp)
        · rw [hv]
          refine .sl xs _ cap s us h1 h2 hl hxs hus (.inr ⟨g, 0, rfl, .inr ⟨id, _, ho, e, by rw [hv]; rfl⟩, fun i u hu => ?_⟩) fun i j x u a b e1 e2 e3 e4 => up (hd i j x u a b e1 e2 e3 e4)
          rw [Nat.zero_add]
          exact own_cell hown (by rw [hv]; rfl) hu
      · exact hk.elim
  | ref id k s off =>
    cases e : aHasO post id with
    | true => simp only [aOutC, e] at hk; exact ⟨.ref id k s off, hv, hk⟩
    | false => simp only [aOutC, e] at hk
  | _ => exact ⟨_, RelC.mono upb (fun _ _ => rfl) hv, hk⟩
theorem aOutCs_get (h : WS T S Z w ρ ob) : ∀ {cs : List AC} {us : List Value} {K : List AC → Prop}, RelL Z w ρ cs us → aOutCs post ob cs K → ∃ ds, us.length = ds.length ∧ (∀ (i : Nat) d u, ds[i]? = some d → us[i]? = some u → RelC (ZOut Z ρ ob post) w ρ d u) ∧ K ds
  | [], us, K, hr, hk => ⟨[], hr.1, by simp, hk⟩
  | c :: r, [], K, hr, hk => by have := hr.1; simp at this
  | c :: r, u :: us, K, hr, hk => by
    obtain ⟨d, hd, hk⟩ := aOutC_get h (hr.2 0 c u rfl rfl) hk
    obtain ⟨ds, hl, hds, hk⟩ := aOutCs_get h (cs := r) (us := us) ⟨by simpa using hr.1, fun i c u h1 h2 => hr.2 (i + 1) c u (by simpa using h1) (by simpa using h2)⟩ hk
    refine ⟨d :: ds, by simp [hl], fun i x y h1 h2 => ?_, hk⟩
    cases i with
    | zero => simp at h1 h2; subst h1 h2; exact hd
    | succ i => exact hds i x y (by simpa using h1) (by simpa using h2)
theorem aOutV_get (h : WS T S Z w ρ ob) {x : AV} {K : AA → Prop} {v : Value} (hv : RelV Z w ρ x v) (hk : aOutV post ob x K) : ∃ p, RelV (ZOut Z ρ ob post) w ρ p.v v ∧ K p := by
  cases hv with
  | one c v hv => obtain ⟨d, hd, hk⟩ := aOutC_get (K := fun c => K (.one c)) h hv hk; exact ⟨.one d, .one _ _ hd, hk⟩
  | agg cs us hl hr => obtain ⟨ds, h1, h2, hk⟩ := aOutCs_get (K := fun cs => K (.agg cs)) h ⟨hl, hr⟩ hk; exact ⟨.agg ds, .agg _ _ h1 h2, hk⟩
  | tup vs us hl hr => exact hk.elim
theorem WS.out (h : WS T S Z w ρ ob) (hs : SubO ob post) : WS T S (ZOut Z ρ ob post) w ρ post := by
  have h' := h.sub hs
  refine ⟨h.os, h.tape, h.output, h.size, h.old, ?_, fun id o b ho hb => ⟨?_, (h'.mine id o b ho hb).2⟩, h'.sep, fun id o ho => (h'.obj id o ho).mono (fun b hb => .inl hb) (fun _ _ => rfl) fun _ _ => rfl, ?_, fun b hb => .inl (h.z0 b hb), ?_⟩
  · rintro b (hb | ⟨id, o, ho, _, hb⟩)
    · exact h.zlt b hb
    · exact h.lt ho hb
  · rintro (hz | ⟨id2, o2, ho2, hn, hb2⟩)
    · exact (h'.mine id o b ho hb).1 hz
    · refine h.sep id id2 o o2 b (hs id o ho) ho2 (fun e => ?_) hb hb2
      subst e
      rw [aHasO_get.2 ⟨o, ho⟩] at hn
      cases hn
  · obtain ⟨w1, g1, g2, g3⟩ := h.g
    exact ⟨w1, g1, g2, fun b hb => .inl (g3 b hb)⟩
  · rintro b (hb | ⟨id, o, ho, _, hb⟩)
    · exact h.znew b hb
    · exact .inr (h.mine id o b ho hb).2
end

/-! What is handed back. -/
section
variable {E : AEnv} {S : Base} {st : ASt}
def aRetM1 (E : AEnv) (st : ASt) (post : List (Nat × AO)) (r : ResultVar) (K : AA → Prop) : Prop :=
  match r with
  | .tmp t => aTm st.tm t fun v => aOutV post st.ob v K
  | .cell t ty => aTm st.tm t fun x => aLoad E st ty x fun v => aOutV post st.ob v K
def aRetMs (E : AEnv) (st : ASt) (post : List (Nat × AO)) : List ResultVar → (List AA → Prop) → Prop
  | [], K => K []
  | r :: rs, K => aRetM1 E st post r fun p => aRetMs E st post rs fun ps => K (p :: ps)
def aRetM (E : AEnv) (st : ASt) (post : List (Nat × AO)) (rs : List ResultVar) (K : AR → Prop) : Prop :=
  match rs with
  | [r] => aRetM1 E st post r fun p => K (.val p)
  | rs => aRetMs E st post rs fun ps => K (.tup ps)
/-- The objects of the contract stand. -/
def aHave (ob : List (Nat × AO)) : List (Nat × AO) → Prop
  | [] => True
  | (i, o) :: r => aOb ob i fun o' => o' = o ∧ aHave ob r
theorem aHave_get {ob : List (Nat × AO)} : ∀ {l : List (Nat × AO)}, aHave ob l → SubO ob l
  | [], _ => SubO.nil
  | (i, o) :: r, h => by
    obtain ⟨o', ho, rfl, hr⟩ := aOb_get h
    exact SubO.cons ho (aHave_get hr)
def pinsOf (keep : List Nat) : List AV := keep.map fun id => .one (.ref id 0 0 0)
def pinId : Nat := 9999
def retM (E : AEnv) (rs : List ResultVar) (post : List (Nat × AO)) (keep : List Nat) (pv : List Value) (res : AR) : Exit → ASt → Prop
  | .ret, st => aRetM E st post rs fun v => v = res ∧ aHave st.ob ((9999, .frame (pinsOf keep) pv) :: post)
  | .normal, st => aRetM E st post rs fun v => v = res ∧ aHave st.ob ((9999, .frame (pinsOf keep) pv) :: post)
  | _, _ => False

theorem aRetM1_get (he : E.Ok) {post : List (Nat × AO)} {Z : Nat → Prop} {ρ : Nat → Value} {a : Act} {w : World} (h : Sim E.W S Z ρ st a w) {r : ResultVar} {K : AA → Prop} (hk : aRetM1 E st post r K) :
    ∃ (v : Value) (p : AA), (resSem a.tmps r).run E.P w = .ok v w ∧ RelV (ZOut Z ρ st.ob post) w ρ p.v v ∧ K p := by
  cases r with
  | tmp t =>
    obtain ⟨x, hx, hk⟩ := aTm_get hk
    have hlt : t < a.tmps.size := by rw [h.len]; exact (List.getElem?_eq_some_iff.1 hx).1
    obtain ⟨p, hp, hk⟩ := aOutV_get h.ws (h.tm t x _ hx (Array.getElem?_eq_getElem hlt)) hk
    exact ⟨a.tmps[t], p, by simp [resSem, hlt], hp, hk⟩
  | cell t ty =>
    obtain ⟨x, hx, hk⟩ := aTm_get hk
    have hlt : t < a.tmps.size := by rw [h.len]; exact (List.getElem?_eq_some_iff.1 hx).1
    obtain ⟨b, off, v, y, e, hr, hy, hk⟩ := load_get he h (h.tm t x _ hx (Array.getElem?_eq_getElem hlt)) hk
    obtain ⟨p, hp, hk⟩ := aOutV_get h.ws hy hk
    refine ⟨v, p, ?_, hp, hk⟩
    simp [resSem, hlt, e, asAddr, hr]
theorem aRetMs_get (he : E.Ok) {post : List (Nat × AO)} {Z : Nat → Prop} {ρ : Nat → Value} {a : Act} {w : World} (h : Sim E.W S Z ρ st a w) : ∀ {rs : List ResultVar} {K : List AA → Prop}, aRetMs E st post rs K →
    ∃ (vs : List Value) (ps : List AA), (rs.mapM (resSem a.tmps)).run E.P w = .ok vs w ∧ vs.length = ps.length ∧ (∀ (i : Nat) p u, ps[i]? = some p → vs[i]? = some u → RelV (ZOut Z ρ st.ob post) w ρ p.v u) ∧ ps.length = rs.length ∧ K ps
  | [], K, hk => ⟨[], [], rfl, rfl, by simp, rfl, hk⟩
  | r :: rs, K, hk => by
    obtain ⟨v, p, h1, h2, hk⟩ := aRetM1_get he h hk
    obtain ⟨vs, ps, h3, h4, h5, h6, hk⟩ := aRetMs_get he h (rs := rs) hk
    refine ⟨v :: vs, p :: ps, ?_, by simp [h4], fun i q u h7 h8 => ?_, by simp [h6], hk⟩
    · rw [List.mapM_cons, Sem.run_bind, h1]
      simp only [Result.andThen_ok]
      rw [Sem.run_bind, h3]
      rfl
    · cases i with
      | zero => simp at h7 h8; subst h7 h8; exact h2
      | succ i => exact h5 i q u (by simpa using h7) (by simpa using h8)
theorem aRetM_get (he : E.Ok) {post : List (Nat × AO)} {Z : Nat → Prop} {ρ : Nat → Value} {a : Act} {w : World} (h : Sim E.W S Z ρ st a w) {fn : Func} {K : AR → Prop} (hk : aRetM E st post fn.results.toList K) :
    ∃ v p, (results fn a.tmps).run E.P w = .ok v w ∧ RelV (ZOut Z ρ st.ob post) w ρ p.v v ∧ K p := by
  unfold aRetM at hk
  have hres : ∀ vs : List Value, (fn.results.toList.mapM (resSem a.tmps)).run E.P w = .ok vs w → (results fn a.tmps).run E.P w = .ok (if h : vs.toArray.size = 1 then vs.toArray[0] else .tuple vs.toArray) w := by
    intro vs hvs
    have e : results fn a.tmps = (do let vs ← fn.results.mapM (resSem a.tmps); pure (if h : vs.size = 1 then vs[0] else .tuple vs)) := rfl
    rw [e, Sem.run_bind, Array.mapM_eq_mapM_toList, Sem.run_map, hvs]
    rfl
  split at hk
  · rename_i r hr
    obtain ⟨v, p, h1, h2, hk⟩ := aRetM1_get he h hk
    refine ⟨v, .val p, ?_, h2, hk⟩
    have := hres [v] (by rw [hr, List.mapM_cons, Sem.run_bind, h1]; rfl)
    rw [this]
    rfl
  · rename_i hne
    obtain ⟨vs, ps, h1, h2, h3, h4, hk⟩ := aRetMs_get he h hk
    refine ⟨_, .tup ps, hres vs h1, ?_, hk⟩
    have : ¬ vs.toArray.size = 1 := by
      intro e
      have : fn.results.toList.length = 1 := by simp at e; omega
      obtain ⟨r, hr⟩ := List.length_eq_one_iff.1 this
      exact hne r hr
    rw [dif_neg this]
    refine .tup _ vs (by simp [h2]) fun i x u hx hu => ?_
    rw [List.getElem?_map] at hx
    obtain ⟨p, hp, rfl⟩ := Option.map_eq_some_iff.1 hx
    exact h3 i p u hp hu
end

/-! A contract out of code. -/
def aVofM (p : AA) (K : AV → Prop) : Prop :=
  match p with
  | .one c => K (.one c)
  | .agg cs => K (.agg cs)
theorem aVofM_get {p : AA} {K : AV → Prop} (h : aVofM p K) : K p.v := by cases p <;> exact h
def aInitM : List AA → Nat → (List AV → Prop) → Prop
  | [], n, K => aUnds n K
  | _ :: _, 0, _ => False
  | p :: r, n + 1, K => aVofM p fun v => aInitM r n fun tm => K (v :: tm)
theorem aInitM_get : ∀ {args : List AA} {n : Nat} {K : List AV → Prop}, aInitM args n K → args.length ≤ n ∧ K (args.map AA.v ++ List.replicate (n - args.length) (.one .und))
  | [], n, K, h => ⟨Nat.zero_le _, by simpa using aUnds_get h⟩
  | _ :: _, 0, _, h => h.elim
  | p :: r, n + 1, K, h => by
    obtain ⟨h1, h2⟩ := aInitM_get (args := r) (n := n) (K := fun tm => K (p.v :: tm)) (aVofM_get h)
    refine ⟨by simp; omega, ?_⟩
    simpa [Nat.succ_sub_succ] using h2
def isCells (ob : List (Nat × AO)) (i : Nat) : Bool := match oget ob i with
  | some (.cells _ _) => true
  | _ => false
def noIdA (id : Nat) : AA → Bool
  | .one c => noIdC id c
  | .agg cs => cs.all (noIdC id)
theorem noIdA_v {id : Nat} {a : AA} (h : noIdA id a = true) : noIdV id a.v = true := by cases a <;> exact h
/-- What a contract's lists must be like. -/
def preOk (args : List AA) (pre post : List (Nat × AO)) (keep : List Nat) : Bool :=
  args.all (noIdA 9999) && pre.all (fun p => noIdO 9999 p.2) && !aHasO pre 9999 && keep.all (fun i => isCells pre i && isCells post i)
theorem isCells_get {ob : List (Nat × AO)} {i : Nat} (h : isCells ob i = true) : ∃ t cs, oget ob i = some (.cells t cs) := by
  unfold isCells at h
  split at h
  · rename_i t cs e; exact ⟨t, cs, e⟩
  · cases h
theorem mcall_of {E : AEnv} (he : E.Ok) {f : FuncId} {fn : Func} {c : Code} {n : Nat} {rs : List ResultVar} {args : List AA} {pre post : List (Nat × AO)} {keep : List Nat} {res : AR} (hf : E.P.funcs[f]? = some fn) (hb : fn.body = some c)
    (enter : ∀ (us : Array Value) w, (callFunc f us).run E.P w = .ok (.enter f us) w) (hn : fn.ntmps = n) (hrs : fn.results.toList = rs)
    (hck : preOk args pre post keep = true)
    (h : ∀ S pv, aInitM args n fun tm => AWP E S c (retM E rs post keep pv res) ⟨tm, (9999, .frame (pinsOf keep) pv) :: pre⟩) : MCall E f args pre post keep res := by
  refine ⟨enter, fun Z w ρ us hws hl hr => ?_⟩
  subst hn hrs
  simp only [preOk, Bool.and_eq_true, List.all_eq_true, Bool.not_eq_true'] at hck
  obtain ⟨⟨⟨hna, hnp⟩, hnh⟩, hkk⟩ := hck
  have hp9 := aHasO_no hnh
  obtain ⟨hle, hk⟩ := aInitM_get (h (baseM w Z ρ pre) (keep.map ρ))
  have relV : ∀ {x : AV} {v : Value}, noIdV 9999 x = true → RelV Z w ρ x v → RelV Z w (fun i => if i = 9999 then undef else ρ i) x v := by
    intro x v hn hv
    have := killV_rel (id := 9999) (y := undef) hv
    rwa [noIdV_kill hn] at this
  have hs : Sim E.W (baseM w Z ρ pre) Z (fun i => if i = 9999 then undef else ρ i) ⟨args.map AA.v ++ List.replicate (fn.ntmps - args.length) (.one .und), (9999, .frame (pinsOf keep) (keep.map ρ)) :: pre⟩ { tmps := us.toArray ++ Array.replicate (fn.ntmps - us.toArray.size) undef, defers := [] } w := by
    have key : ∀ id o, oget ((9999, AO.frame (pinsOf keep) (keep.map ρ)) :: pre) id = some o → (id = 9999 ∧ o = .frame (pinsOf keep) (keep.map ρ)) ∨ (id ≠ 9999 ∧ oget pre id = some o) := by
      intro id o ho
      unfold oget at ho
      split at ho
      · rename_i e; subst e; injection ho with ho; exact .inl ⟨rfl, ho.symm⟩
      · rename_i e; exact .inr ⟨fun e' => e e'.symm, ho⟩
    refine ⟨⟨hws.os, hws.tape, hws.output, hws.size, hws.old, hws.zlt, fun id o b ho hb => ?_, fun i j oi oj b hi hj hij hbi hbj => ?_, fun id o ho => ?_, hws.g, hws.z0, hws.znew⟩, by simp [hl], fun i x v hx hv => ?_, rfl⟩
    · rcases key id o ho with ⟨rfl, rfl⟩ | ⟨hne, ho⟩
      · simp only [if_true] at hb; cases hb
      · simp only [if_neg hne] at hb; exact hws.mine id o b ho hb
    · rcases key i oi hi with ⟨rfl, rfl⟩ | ⟨hne, hi⟩
      · simp only [if_true] at hbi; cases hbi
      · rcases key j oj hj with ⟨rfl, rfl⟩ | ⟨hne2, hj⟩
        · simp only [if_true] at hbj; cases hbj
        · simp only [if_neg hne] at hbi
          simp only [if_neg hne2] at hbj
          exact hws.sep i j oi oj b hi hj hij hbi hbj
    · rcases key id o ho with ⟨rfl, rfl⟩ | ⟨hne, ho⟩
      · refine ⟨by simp, by simp [pinsOf], fun i x u hx hu => ?_⟩
        simp only [pinsOf, List.getElem?_map] at hx hu
        obtain ⟨k, hk1, rfl⟩ := Option.map_eq_some_iff.1 hx
        rw [hk1] at hu
        simp only [Option.map_some] at hu
        injection hu with hu
        subst hu
        have hkm := hkk k (List.mem_of_getElem? hk1)
        obtain ⟨t, cs, hc⟩ := isCells_get hkm.1
        obtain ⟨b, us', hp, _⟩ := hws.obj k _ hc
        have hk9 : k ≠ 9999 := by rintro rfl; rw [hp9] at hc; cases hc
        refine .one _ _ ⟨b, by simp only [if_neg hk9]; rw [hp]; rfl, by rw [hp]⟩
      · have := killO_rel (id := 9999) (y := undef) hne (hws.obj id o ho)
        rwa [noIdO_kill (hnp (id, o) (oget_mem ho))] at this
    · simp only at hx hv
      have hv' : (us ++ List.replicate (fn.ntmps - us.length) undef)[i]? = some v := by
        have := hv
        rw [← Array.getElem?_toList] at this
        simpa using this
      by_cases hi : i < us.length
      · rw [List.getElem?_append_left (by simpa [hl] using hi), List.getElem?_map] at hx
        obtain ⟨p, hp, rfl⟩ := Option.map_eq_some_iff.1 hx
        rw [List.getElem?_append_left hi] at hv'
        exact relV (noIdA_v (hna p (List.mem_of_getElem? hp))) (hr i p v hp hv')
      · rw [List.getElem?_append_right (by simp; omega)] at hx
        rw [List.getElem?_append_right (by omega)] at hv'
        have e1 := List.eq_of_mem_replicate (List.mem_of_getElem? hx)
        have e2 := List.eq_of_mem_replicate (List.mem_of_getElem? hv')
        subst e1 e2
        exact .one _ _ (show RelC Z w _ .und undef from rfl)
  refine calls_of_wp hf hb (wp_mono (hk.run _ w ⟨Z, _, hs⟩) fun e a' w' h' => ?_)
  obtain ⟨st', ⟨Z', ρ', hs'⟩, hk'⟩ := h'
  have fin : (aRetM E st' post fn.results.toList fun v => v = res ∧ aHave st'.ob ((9999, .frame (pinsOf keep) (keep.map ρ)) :: post)) → a'.defers = [] ∧ ∃ v, (results fn a'.tmps).run E.P w' = .ok v w' ∧ ∃ v0 Z' ρ', Ending.returned v = .returned v0 ∧ WS E.W (baseM w Z ρ pre) Z' w' ρ' post ∧ (∀ id ∈ keep, ρ' id = ρ id) ∧ RelV Z' w' ρ' res.v v0 := by
    intro hr
    obtain ⟨v, p, h1, h2, h3, h4⟩ := aRetM_get he hs' hr
    subst h3
    have hsub := aHave_get h4
    have hsubp : SubO st'.ob post := by
      obtain ⟨_, _, _, h5⟩ := aOb_get h4
      exact aHave_get h5
    refine ⟨hs'.df, v, h1, v, ZOut Z' ρ' st'.ob post, ρ', rfl, hs'.ws.out hsubp, fun id hid => ?_, h2⟩
    have hkm := hkk id hid
    obtain ⟨t, cs, hc⟩ := isCells_get hkm.1
    obtain ⟨t', cs', hc'⟩ := isCells_get hkm.2
    obtain ⟨b, us1, hp, _⟩ := hws.obj id _ hc
    obtain ⟨b', us2, hp', _⟩ := hs'.ws.obj id _ (hsubp id _ hc')
    obtain ⟨_, hfl, hfr⟩ := hs'.ws.obj 9999 _ (hsub 9999 (.frame (pinsOf keep) (keep.map ρ)) (by simp [oget]))
    obtain ⟨i, hi, hid'⟩ := List.getElem_of_mem hid
    have hx : (pinsOf keep)[i]? = some (.one (.ref id 0 0 0)) := by simp [pinsOf, hi, hid']
    have hu : (keep.map ρ)[i]? = some (ρ id) := by simp [hi, hid']
    cases hfr i _ _ hx hu with
    | one _ _ hrel =>
      obtain ⟨b2, hb2, hv2⟩ := hrel
      rw [hp'] at hb2
      injection hb2 with hb2
      rw [hp', hv2, ← hb2]
  cases e with
  | normal => exact fin hk'
  | ret => exact fin hk'
  | _ => exact hk'.elim
end Go.Proofs.YtlhanpkfnhnegaaDoor
/- The caller's side of a call that is handed objects. -/
namespace Go.Proofs.YtlhanpkfnhnegaaDoor
open Go.RowKit

def mlook : List (Nat × Nat) → Nat → Nat
  | [], i => i
  | (a, b) :: r, i => match Nat.beq a i with
    | true => b
    | false => mlook r i
def aLook : List (Nat × Nat) → Nat → (Nat → Prop) → Prop
  | [], i, K => K i
  | (a, b) :: r, i, K => match Nat.beq a i with
    | true => K b
    | false => aLook r i K
theorem aLook_get {K : Nat → Prop} {i : Nat} : ∀ {m : List (Nat × Nat)}, aLook m i K → K (mlook m i)
  | [], h => h
  | (a, b) :: r, h => by
    unfold aLook at h
    unfold mlook
    cases e : Nat.beq a i with
    | true => rw [e] at h; exact h
    | false => rw [e] at h; exact aLook_get (m := r) h
def renC (m : Nat → Nat) : AC → AC
  | .own i => .own (m i)
  | .ref i k s off => .ref (m i) k s off
  | c => c
def renA (m : Nat → Nat) : AA → AA
  | .one c => .one (renC m c)
  | .agg cs => .agg (cs.map (renC m))
def renR (m : Nat → Nat) : AR → AR
  | .val a => .val (renA m a)
  | .tup ls => .tup (ls.map (renA m))
def renO (m : Nat → Nat) : AO → AO
  | .cells t cs => .cells t (cs.map (renC m))
  | o => o
/-! The same, each handing on. -/
def aRenC (m : List (Nat × Nat)) (c : AC) (K : AC → Prop) : Prop :=
  match c with
  | .own i => aLook m i fun i => K (.own i)
  | .ref i k s off => aLook m i fun i => K (.ref i k s off)
  | c => K c
theorem aRenC_get {m : List (Nat × Nat)} {c : AC} {K : AC → Prop} (h : aRenC m c K) : K (renC (mlook m) c) := by
  cases c with
  | own i => exact aLook_get (K := fun i => K (.own i)) h
  | ref i k s off => exact aLook_get (K := fun i => K (.ref i k s off)) h
  | _ => exact h
def aRenCs (m : List (Nat × Nat)) : List AC → (List AC → Prop) → Prop
  | [], K => K []
  | c :: r, K => aRenC m c fun c => aRenCs m r fun r => K (c :: r)
theorem aRenCs_get {m : List (Nat × Nat)} : ∀ {l : List AC} {K : List AC → Prop}, aRenCs m l K → K (l.map (renC (mlook m)))
  | [], _, h => h
  | c :: r, K, h => aRenCs_get (l := r) (K := fun r => K (renC (mlook m) c :: r)) (aRenC_get h)
def aRenA (m : List (Nat × Nat)) (a : AA) (K : AA → Prop) : Prop :=
  match a with
  | .one c => aRenC m c fun c => K (.one c)
  | .agg cs => aRenCs m cs fun cs => K (.agg cs)
theorem aRenA_get {m : List (Nat × Nat)} {a : AA} {K : AA → Prop} (h : aRenA m a K) : K (renA (mlook m) a) := by
  cases a with
  | one c => exact aRenC_get (K := fun c => K (.one c)) h
  | agg cs => exact aRenCs_get (K := fun cs => K (.agg cs)) h
def aRenAs (m : List (Nat × Nat)) : List AA → (List AV → Prop) → Prop
  | [], K => K []
  | c :: r, K => aRenA m c fun c => aVofM c fun c => aRenAs m r fun r => K (c :: r)
theorem aRenAs_get {m : List (Nat × Nat)} : ∀ {l : List AA} {K : List AV → Prop}, aRenAs m l K → K (l.map fun a => (renA (mlook m) a).v)
  | [], _, h => h
  | c :: r, K, h => aRenAs_get (l := r) (K := fun r => K ((renA (mlook m) c).v :: r)) (aVofM_get (K := fun c => aRenAs m r fun r => K (c :: r)) (aRenA_get (K := fun c => aVofM c fun c => aRenAs m r fun r => K (c :: r)) h))
def aRenR (m : List (Nat × Nat)) (r : AR) (K : AV → Prop) : Prop :=
  match r with
  | .val a => aRenA m a fun a => aVofM a K
  | .tup ls => aRenAs m ls fun l => K (.tup l)
theorem aRenR_get {m : List (Nat × Nat)} {r : AR} {K : AV → Prop} (h : aRenR m r K) : K (renR (mlook m) r).v := by
  cases r with
  | val a => exact aVofM_get (aRenA_get (K := fun a => aVofM a K) h)
  | tup ls =>
    have := aRenAs_get (K := fun l => K (.tup l)) h
    have e : (renR (mlook m) (.tup ls)).v = .tup (ls.map fun a => (renA (mlook m) a).v) := by simp [renR, AR.v, Function.comp_def]
    rw [e]; exact this
def aRenO (m : List (Nat × Nat)) (o : AO) (K : AO → Prop) : Prop :=
  match o with
  | .cells t cs => aRenCs m cs fun cs => K (.cells t cs)
  | o => K o
theorem aRenO_get {m : List (Nat × Nat)} {o : AO} {K : AO → Prop} (h : aRenO m o K) : K (renO (mlook m) o) := by
  cases o with
  | cells t cs => exact aRenCs_get (K := fun cs => K (.cells t cs)) h
  | _ => exact h

/-! Reading under other names. -/
section
variable {Z : Nat → Prop} {w : World} {ρ ρ1 : Nat → Value} {m : Nat → Nat}
theorem renC_to {c : AC} {v : Value} (h : RelC Z w ρ (renC m c) v) : RelC Z w (fun i => ρ (m i)) c v := by cases c <;> exact h
theorem renA_to {a : AA} {v : Value} (h : RelV Z w ρ (renA m a).v v) : RelV Z w (fun i => ρ (m i)) a.v v := by
  cases a with
  | one c => cases h with | one _ _ h => exact .one _ _ (renC_to h)
  | agg cs =>
    cases h with
    | agg _ us hl h =>
      refine .agg _ _ (by simpa using hl) fun i c u hc hu => renC_to (h i _ u ?_ hu)
      rw [List.getElem?_map, hc]; rfl
def noFrame : AO → Bool
  | .frame _ _ => false
  | _ => true
theorem renO_to {id : Nat} {o : AO} (hf : noFrame o = true) (h : RelO Z w ρ (m id) (renO m o)) : RelO Z w (fun i => ρ (m i)) id o := by
  cases o with
  | cells t cs =>
    obtain ⟨b, us, hp, hg, hl, hc⟩ := h
    refine ⟨b, us, hp, hg, by simpa using hl, fun i c u h1 h2 => renC_to (hc i _ u ?_ h2)⟩
    rw [List.getElem?_map, h1]; rfl
  | row e s xs => exact h
  | frame vs us => cases hf
def inC (post : List (Nat × AO)) : AC → Bool
  | .own i => aHasO post i
  | .ref i _ _ _ => aHasO post i
  | _ => true
def inA (post : List (Nat × AO)) : AA → Bool
  | .one c => inC post c
  | .agg cs => cs.all (inC post)
def inR (post : List (Nat × AO)) : AR → Bool
  | .val a => inA post a
  | .tup ls => ls.all (inA post)
def inO (post : List (Nat × AO)) : AO → Bool
  | .cells _ cs => cs.all (inC post)
  | .row _ _ _ => true
  | .frame [] [] => true
  | .frame _ _ => false
variable {post : List (Nat × AO)}
theorem renC_from (hag : ∀ i, aHasO post i = true → ρ1 (m i) = ρ i) {c : AC} {v : Value} (hin : inC post c = true) (h : RelC Z w ρ c v) : RelC Z w ρ1 (renC m c) v := by
  cases c with
  | own i => simpa only [renC, RelC, hag i hin] using h
  | ref i k s off => simpa only [renC, RelC, hag i hin] using h
  | _ => exact h
theorem renA_from (hag : ∀ i, aHasO post i = true → ρ1 (m i) = ρ i) {a : AA} {v : Value} (hin : inA post a = true) (h : RelV Z w ρ a.v v) : RelV Z w ρ1 (renA m a).v v := by
  cases a with
  | one c => cases h with | one _ _ h => exact .one _ _ (renC_from hag hin h)
  | agg cs =>
    cases h with
    | agg _ us hl h =>
      refine .agg _ _ (by simpa using hl) fun i c u hc hu => ?_
      rw [List.getElem?_map] at hc
      obtain ⟨c0, h0, rfl⟩ := Option.map_eq_some_iff.1 hc
      exact renC_from hag (List.all_eq_true.1 hin c0 (List.mem_of_getElem? h0)) (h i c0 u h0 hu)
theorem renR_from (hag : ∀ i, aHasO post i = true → ρ1 (m i) = ρ i) {r : AR} {v : Value} (hin : inR post r = true) (h : RelV Z w ρ r.v v) : RelV Z w ρ1 (renR m r).v v := by
  cases r with
  | val a => exact renA_from hag hin h
  | tup ls =>
    cases h with
    | tup _ us hl h =>
      refine .tup _ _ (by simpa using hl) fun i c u hc hu => ?_
      rw [List.map_map, List.getElem?_map] at hc
      obtain ⟨c0, h0, rfl⟩ := Option.map_eq_some_iff.1 hc
      refine renA_from hag (List.all_eq_true.1 hin c0 (List.mem_of_getElem? h0)) (h i _ u ?_ hu)
      rw [List.getElem?_map, h0]; rfl
theorem renO_from (hag : ∀ i, aHasO post i = true → ρ1 (m i) = ρ i) {id : Nat} (hid : aHasO post id = true) {o : AO} (hin : inO post o = true) (h : RelO Z w ρ id o) : RelO Z w ρ1 (m id) (renO m o) := by
  cases o with
  | cells t cs =>
    obtain ⟨b, us, hp, hg, hl, hc⟩ := h
    refine ⟨b, us, (hag id hid).trans hp, hg, by simpa using hl, fun i c u h1 h2 => ?_⟩
    rw [List.getElem?_map] at h1
    obtain ⟨c0, h0, rfl⟩ := Option.map_eq_some_iff.1 h1
    exact renC_from hag (List.all_eq_true.1 hin c0 (List.mem_of_getElem? h0)) (hc i c0 u h0 h2)
  | row e s xs =>
    obtain ⟨us, hs, hl, hx, hu, hown, hd⟩ := h
    refine ⟨us, hs, hl, hx, hu, ?_, hd⟩
    rw [hag id hid]; exact hown
  | frame vs us =>
    have : vs = [] ∧ us = [] := by
      revert hin; unfold inO; split <;> simp_all
    obtain ⟨rfl, rfl⟩ := this
    exact ⟨(hag id hid).trans h.1, rfl, by simp⟩
end

/-! Several names forgotten at once. -/
def killsV (ks : List Nat) (x : AV) : AV := ks.foldl (fun x k => killV k x) x
def killsO (ks : List Nat) (o : AO) : AO := ks.foldl (fun o k => killO k o) o
section
variable {Z : Nat → Prop} {w : World} {ρ1 : Nat → Value}
theorem killsV_rel : ∀ {ks : List Nat} {ρ : Nat → Value} {x : AV} {v : Value}, (∀ i, i ∉ ks → ρ1 i = ρ i) → RelV Z w ρ x v → RelV Z w ρ1 (killsV ks x) v
  | [], ρ, x, v, hag, h => by
    have : ρ1 = ρ := funext fun i => hag i (by simp)
    subst this; exact h
  | k :: r, ρ, x, v, hag, h => by
    refine killsV_rel (ks := r) (fun i hi => ?_) (killV_rel (id := k) (y := ρ1 k) h)
    by_cases e : i = k
    · subst e; simp
    · simp only [if_neg e]; exact hag i (by simp [e, hi])
theorem killsO_rel : ∀ {ks : List Nat} {ρ : Nat → Value} {j : Nat} {o : AO}, j ∉ ks → (∀ i, i ∉ ks → ρ1 i = ρ i) → RelO Z w ρ j o → RelO Z w ρ1 j (killsO ks o)
  | [], ρ, j, o, _, hag, h => by
    have : ρ1 = ρ := funext fun i => hag i (by simp)
    subst this; exact h
  | k :: r, ρ, j, o, hj, hag, h => by
    refine killsO_rel (ks := r) (fun e => hj (by simp [e])) (fun i hi => ?_) (killO_rel (id := k) (fun e => hj (by simp [e])) (y := ρ1 k) h)
    by_cases e : i = k
    · subst e; simp
    · simp only [if_neg e]; exact hag i (by simp [e, hi])
end
def okills (ks : List Nat) (ob : List (Nat × AO)) : List (Nat × AO) := ks.foldl (fun ob k => okill k ob) ob
theorem oget_okills : ∀ {ks : List Nat} {ob : List (Nat × AO)} {j : Nat}, oget (okills ks ob) j = (oget ob j).map (killsO ks)
  | [], ob, j => by
    have : killsO [] = id := rfl
    simp [okills, this]
  | k :: r, ob, j => by
    have := oget_okills (ks := r) (ob := okill k ob) (j := j)
    rw [oget_okill, Option.map_map] at this
    exact this
def aKillsS : List Nat → ASt → (ASt → Prop) → Prop
  | [], st, K => K st
  | k :: r, st, K => aKillL k st.tm fun tm => aKillO k st.ob fun ob => aKillsS r ⟨tm, ob⟩ K
theorem map_killsV (k : Nat) (r : List Nat) (l : List AV) : (l.map (killV k)).map (killsV r) = l.map (killsV (k :: r)) := by
  rw [List.map_map]; rfl
theorem aKillsS_get : ∀ {ks : List Nat} {st : ASt} {K : ASt → Prop}, aKillsS ks st K → K ⟨st.tm.map (killsV ks), okills ks st.ob⟩
  | [], st, K, h => by
    have : killsV [] = id := rfl
    rw [this, List.map_id]; exact h
  | k :: r, st, K, h => by
    have h1 := aKillO_get (K := fun ob => aKillsS r ⟨st.tm.map (killV k), ob⟩ K) (aKillL_get (K := fun tm => aKillO k st.ob fun ob => aKillsS r ⟨tm, ob⟩ K) h)
    have h2 := aKillsS_get (ks := r) h1
    simp only [map_killsV] at h2
    exact h2
def osets (ob l : List (Nat × AO)) : List (Nat × AO) := l.foldl (fun ob p => oset ob p.1 p.2) ob
def aSetsM (m : List (Nat × Nat)) : List (Nat × AO) → List (Nat × AO) → (List (Nat × AO) → Prop) → Prop
  | ob, [], K => K ob
  | ob, (i, o) :: r, K => aRenO m o fun o => aLook m i fun i => aSetO i o ob fun ob => aSetsM m ob r K
theorem aSetsM_get {m : List (Nat × Nat)} : ∀ {l ob : List (Nat × AO)} {K : List (Nat × AO) → Prop}, aSetsM m ob l K → K (osets ob (l.map fun p => (mlook m p.1, renO (mlook m) p.2)))
  | [], ob, K, h => h
  | (i, o) :: r, ob, K, h => aSetsM_get (l := r) (aSetO_get (K := fun ob => aSetsM m ob r K) (aLook_get (K := fun i => aSetO i (renO (mlook m) o) ob fun ob => aSetsM m ob r K) (aRenO_get (K := fun o => aLook m i fun i => aSetO i o ob fun ob => aSetsM m ob r K) h)))
theorem oget_none_of {l : List (Nat × AO)} {k : Nat} (h : k ∉ l.map (·.1)) : oget l k = none := by
  cases e : oget l k with
  | none => rfl
  | some o => exact absurd (List.mem_map.2 ⟨(k, o), oget_mem e, rfl⟩) h
theorem oget_osets : ∀ {l ob : List (Nat × AO)} {i : Nat}, (l.map (·.1)).Nodup → oget (osets ob l) i = match oget l i with | some o => some o | none => oget ob i
  | [], ob, i, _ => rfl
  | (k, o) :: r, ob, i, hn => by
    obtain ⟨h1, h2⟩ := List.nodup_cons.1 (by rw [List.map_cons] at hn; exact hn)
    have := oget_osets (l := r) (ob := oset ob k o) (i := i) h2
    rw [oget_oset] at this
    show oget (osets (oset ob k o) r) i = _
    rw [this]
    simp only [oget]
    by_cases e : k = i
    · subst e
      simp only [if_true, oget_none_of h1]
    · simp only [if_neg e]
theorem oget_of_mem : ∀ {l : List (Nat × AO)} {i : Nat} {o : AO}, (l.map (·.1)).Nodup → (i, o) ∈ l → oget l i = some o
  | [], _, _, _, h => by cases h
  | (k, x) :: r, i, o, hn, h => by
    obtain ⟨h1, h2⟩ := List.nodup_cons.1 (by rw [List.map_cons] at hn; exact hn)
    unfold oget
    rcases List.mem_cons.1 h with h | h
    · injection h with e1 e2; subst e1 e2; simp
    · have : k ≠ i := by rintro rfl; exact h1 (List.mem_map.2 ⟨_, h, rfl⟩)
      rw [if_neg this]; exact oget_of_mem h2 h
theorem nodup_of_map {α β : Type} {f : α → β} : ∀ {l : List α}, (l.map f).Nodup → l.Nodup
  | [], _ => List.nodup_nil
  | x :: r, h => by
    obtain ⟨h1, h2⟩ := List.nodup_cons.1 (by rw [List.map_cons] at h; exact h)
    exact List.nodup_cons.2 ⟨fun hm => h1 (List.mem_map.2 ⟨x, hm, rfl⟩), nodup_of_map h2⟩
theorem inj_of_map {α β : Type} {f : α → β} : ∀ {l : List α}, (l.map f).Nodup → ∀ {x y : α}, x ∈ l → y ∈ l → f x = f y → x = y
  | [], _, _, _, h, _, _ => by cases h
  | a :: r, h, x, y, hx, hy, e => by
    obtain ⟨h1, h2⟩ := List.nodup_cons.1 (by rw [List.map_cons] at h; exact h)
    rcases List.mem_cons.1 hx with ex | hx'
    · rcases List.mem_cons.1 hy with ey | hy'
      · rw [ex, ey]
      · rw [ex] at e; exact absurd (List.mem_map.2 ⟨y, hy', e.symm⟩) h1
    · rcases List.mem_cons.1 hy with ey | hy'
      · rw [ey] at e; exact absurd (List.mem_map.2 ⟨x, hx', e⟩) h1
      · exact inj_of_map h2 hx' hy' e

/-- What a naming must be like. -/
def methOk (m : List (Nat × Nat)) (pre post : List (Nat × AO)) (res : AR) : Bool :=
  nodupB (post.map fun p => mlook m p.1) && pre.all (fun p => aHasO post p.1 && noFrame p.2) && post.all (fun p => inO post p.2) && inR post res
where nodupB : List Nat → Bool
  | [] => true
  | x :: r => !r.any (Nat.beq x) && nodupB r
theorem nodupB_get : ∀ {l : List Nat}, methOk.nodupB l = true → l.Nodup
  | [], _ => List.nodup_nil
  | x :: r, h => by
    simp only [methOk.nodupB, Bool.and_eq_true, Bool.not_eq_true', List.any_eq_false] at h
    refine List.nodup_cons.2 ⟨fun hm => h.1 x hm (Nat.beq_refl x), nodupB_get h.2⟩
def newIds (m : List (Nat × Nat)) (post : List (Nat × AO)) (keep : List Nat) : List Nat := (post.filter fun p => !keep.any (Nat.beq p.1)).map fun p => mlook m p.1
def aPre (m : List (Nat × Nat)) (ob : List (Nat × AO)) : List (Nat × AO) → Prop → Prop
  | [], X => X
  | (i, o) :: r, X => aOb ob (mlook m i) fun o' => o' = renO (mlook m) o ∧ aPre m ob r X
theorem aPre_get {m : List (Nat × Nat)} {ob : List (Nat × AO)} {X : Prop} : ∀ {l : List (Nat × AO)}, aPre m ob l X → (∀ i o, (i, o) ∈ l → oget ob (mlook m i) = some (renO (mlook m) o)) ∧ X
  | [], h => ⟨by simp, h⟩
  | (i, o) :: r, h => by
    obtain ⟨o', ho, rfl, hr⟩ := aOb_get h
    obtain ⟨h1, h2⟩ := aPre_get hr
    refine ⟨fun j x hx => ?_, h2⟩
    rcases List.mem_cons.1 hx with e | hx
    · injection e with e1 e2; subst e1 e2; exact ho
    · exact h1 j x hx
def rhoM (m : Nat → Nat) (ids : List Nat) (ρ' ρ : Nat → Value) (j : Nat) : Value := match ids.find? (fun c => Nat.beq (m c) j) with
  | some c => ρ' c
  | none => ρ j
theorem rhoM_in {m : Nat → Nat} {ids : List Nat} {ρ' ρ : Nat → Value} (hn : (ids.map m).Nodup) {c : Nat} (hc : c ∈ ids) : rhoM m ids ρ' ρ (m c) = ρ' c := by
  unfold rhoM
  cases e : ids.find? (fun x => Nat.beq (m x) (m c)) with
  | none => exact absurd (Nat.beq_refl (m c)) (List.find?_eq_none.1 e c hc)
  | some d =>
    have h1 := List.mem_of_find?_eq_some e
    have h2 := List.find?_some (p := fun x => Nat.beq (m x) (m c)) e
    rw [inj_of_map hn h1 hc (Nat.eq_of_beq_eq_true h2)]
theorem rhoM_out {m : Nat → Nat} {ids : List Nat} {ρ' ρ : Nat → Value} {j : Nat} (hj : j ∉ ids.map m) : rhoM m ids ρ' ρ j = ρ j := by
  unfold rhoM
  cases e : ids.find? (fun x => Nat.beq (m x) j) with
  | none => rfl
  | some d => exact absurd (List.mem_map.2 ⟨d, List.mem_of_find?_eq_some e, Nat.eq_of_beq_eq_true (List.find?_some (p := fun x => Nat.beq (m x) j) e)⟩) hj

/-- The caller behind the call. -/
def aMeth (m : List (Nat × Nat)) (st : ASt) (pre post : List (Nat × AO)) (keep : List Nat) (res : AR) (K : AV → ASt → Prop) : Prop :=
  aPre m st.ob pre (aKillsS (newIds m post keep) st fun st => aSetsM m st.ob post fun ob => aRenR m res fun r => K r ⟨st.tm, ob⟩)

theorem ACall.methK {E : AEnv} {S : Base} {st : ASt} {f : FuncId} {args : List AA} {pre post : List (Nat × AO)} {keep : List Nat} {res : AR} {K : AV → ASt → Prop} {cargs : List AV} (hc : MCall E f args pre post keep res) (m : List (Nat × Nat))
    (hck : methOk m pre post res = true) (hargs : (args.map fun a => (renA (mlook m) a).v) = cargs) (hpre : ∀ i o, (i, o) ∈ pre → oget st.ob (mlook m i) = some (renO (mlook m) o))
    (hk : K (renR (mlook m) res).v ⟨st.tm.map (killsV (newIds m post keep)), osets (okills (newIds m post keep) st.ob) (post.map fun p => (mlook m p.1, renO (mlook m) p.2))⟩) : ACall E S f cargs st K := by
  subst hargs
  refine ⟨hc.enter, fun Z ρ a w us hs hl hr => ?_⟩
  simp only [methOk, Bool.and_eq_true, List.all_eq_true] at hck
  obtain ⟨⟨⟨hnd, hpp⟩, hpo⟩, hres⟩ := hck
  have hnd := nodupB_get hnd
  have hnd1 : ((post.map (·.1)).map (mlook m)).Nodup := by rw [List.map_map]; exact hnd
  have hnd2 : (post.map (·.1)).Nodup := nodup_of_map hnd1
  have hndm : ((post.map fun p => (mlook m p.1, renO (mlook m) p.2)).map (·.1)).Nodup := by rw [List.map_map]; exact hnd
  have hinj : ∀ {i j}, aHasO post i = true → aHasO post j = true → mlook m i = mlook m j → i = j := by
    intro i j hi hj e
    obtain ⟨oi, hoi⟩ := aHasO_get.1 hi
    obtain ⟨oj, hoj⟩ := aHasO_get.1 hj
    exact inj_of_map hnd1 (List.mem_map.2 ⟨_, oget_mem hoi, rfl⟩) (List.mem_map.2 ⟨_, oget_mem hoj, rfl⟩) e
  have hhas : ∀ {i}, aHasO post i = true ↔ i ∈ post.map (·.1) := by
    intro i
    rw [aHasO_get]
    constructor
    · rintro ⟨o, ho⟩; exact List.mem_map.2 ⟨_, oget_mem ho, rfl⟩
    · intro h
      obtain ⟨p, hp, rfl⟩ := List.mem_map.1 h
      exact ⟨p.2, oget_of_mem hnd2 hp⟩
  have hget : ∀ i o, oget pre i = some o → oget st.ob (mlook m i) = some (renO (mlook m) o) ∧ aHasO post i = true ∧ noFrame o = true := by
    intro i o ho
    have := hpp _ (oget_mem ho)
    simp only [Bool.and_eq_true] at this
    exact ⟨hpre i o (oget_mem ho), this.1, this.2⟩
  -- the callee's own view
  have hws0 : WS E.W (baseM w Z (fun i => ρ (mlook m i)) pre) Z w (fun i => ρ (mlook m i)) pre := by
    refine ⟨rfl, rfl, rfl, Nat.le_refl _, fun _ _ _ => rfl, hs.ws.zlt, fun id o b ho hb => ⟨(hs.ws.mine _ _ b (hget id o ho).1 hb).1, .inr ⟨id, o, ho, hb⟩⟩, fun i j oi oj b hi hj hij hbi hbj => ?_, fun id o ho => renO_to (hget id o ho).2.2 (hs.ws.obj _ _ (hget id o ho).1), hs.ws.g, fun b hb => hb, fun b hb => .inl hb⟩
    exact hs.ws.sep _ _ _ _ b (hget i oi hi).1 (hget j oj hj).1 (fun e => hij (hinj (hget i oi hi).2.1 (hget j oj hj).2.1 e)) hbi hbj
  refine (hc.run Z w (fun i => ρ (mlook m i)) us hws0 (by simpa using hl) fun i p u h3 h4 => ?_).mono ?_
  · refine renA_to (hr i _ u ?_ h4)
    rw [List.getElem?_map, h3]; rfl
  rintro e w' ⟨v, Z', ρ', rfl, hw, hkeep, hv⟩
  let ids := post.map (·.1)
  let ρ1 := rhoM (mlook m) ids ρ' ρ
  let ks := newIds m post keep
  have hin : ∀ i, aHasO post i = true → ρ1 (mlook m i) = ρ' i := fun i hi => rhoM_in hnd1 (hhas.1 hi)
  have hout : ∀ j, j ∉ ids.map (mlook m) → ρ1 j = ρ j := fun j hj => rhoM_out hj
  have hag : ∀ i, i ∉ ks → ρ1 i = ρ i := by
    intro i hi
    by_cases h : i ∈ ids.map (mlook m)
    · obtain ⟨c, hc1, rfl⟩ := List.mem_map.1 h
      rw [hin c (hhas.2 hc1)]
      refine hkeep c ?_
      obtain ⟨p, hp, rfl⟩ := List.mem_map.1 hc1
      refine Classical.byContradiction fun hn => hi (List.mem_map.2 ⟨p, List.mem_filter.2 ⟨hp, ?_⟩, rfl⟩)
      simp only [Bool.not_eq_true', List.any_eq_false]
      intro k hk2 e
      rw [Nat.eq_of_beq_eq_true e] at hn
      exact hn hk2
    · exact hout i h
  have hksub : ∀ i, i ∈ ks → i ∈ ids.map (mlook m) := by
    intro i hi
    obtain ⟨p, hp, rfl⟩ := List.mem_map.1 hi
    exact List.mem_map.2 ⟨p.1, List.mem_map.2 ⟨p, (List.mem_filter.1 hp).1, rfl⟩, rfl⟩
  -- which objects there are
  have hob : ∀ j o, oget (osets (okills ks st.ob) (post.map fun p => (mlook m p.1, renO (mlook m) p.2))) j = some o →
      (∃ c o', oget post c = some o' ∧ j = mlook m c ∧ o = renO (mlook m) o') ∨ (j ∉ ids.map (mlook m) ∧ ∃ o', oget st.ob j = some o' ∧ o = killsO ks o') := by
    intro j o ho
    rw [oget_osets hndm] at ho
    split at ho
    · rename_i o1 h1
      injection ho with ho
      subst ho
      obtain ⟨p, hp, e⟩ := List.mem_map.1 (oget_mem h1)
      injection e with e1 e2
      exact .inl ⟨p.1, p.2, oget_of_mem hnd2 hp, e1.symm, e2.symm⟩
    · rename_i h1
      rw [oget_okills] at ho
      obtain ⟨o', h2, rfl⟩ := Option.map_eq_some_iff.1 ho
      refine .inr ⟨fun hm => ?_, o', h2, rfl⟩
      obtain ⟨c, hc1, rfl⟩ := List.mem_map.1 hm
      obtain ⟨p, hp, rfl⟩ := List.mem_map.1 hc1
      rw [oget_of_mem hndm (List.mem_map.2 ⟨p, hp, rfl⟩)] at h1
      cases h1
  have hO : ∀ b, (baseM w Z (fun i => ρ (mlook m i)) pre).O b → ∃ i o, oget st.ob (mlook m i) = some o ∧ aHasO post i = true ∧ blkOf (ρ (mlook m i)) = some b := by
    rintro b ⟨i, o, ho, hb⟩
    exact ⟨i, _, (hget i o ho).1, (hget i o ho).2.1, hb⟩
  have hfar : ∀ j o b, j ∉ ids.map (mlook m) → oget st.ob j = some o → blkOf (ρ j) = some b → ¬ (baseM w Z (fun i => ρ (mlook m i)) pre).O b := by
    intro j o b hj ho hb hOb
    obtain ⟨i, o2, ho2, hi, hb2⟩ := hO b hOb
    refine hs.ws.sep j (mlook m i) o o2 b ho ho2 (fun e => hj ?_) hb hb2
    rw [e]; exact List.mem_map.2 ⟨i, hhas.1 hi, rfl⟩
  have hsame : ∀ b, b < w.heap.size → ¬ (baseM w Z (fun i => ρ (mlook m i)) pre).O b → w'.heap[b]? = w.heap[b]? := hw.old
  have hzn : ∀ b, Z b → w'.heap[b]? = w.heap[b]? := by
    intro b hb
    refine hsame b (hs.ws.zlt b hb) fun hOb => ?_
    obtain ⟨i, o2, ho2, _, hb2⟩ := hO b hOb
    exact (hs.ws.mine _ _ b ho2 hb2).1 hb
  have hsz : w.heap.size ≤ w'.heap.size := hw.size
  have hobase : ∀ b, (baseM w Z (fun i => ρ (mlook m i)) pre).O b → S.w0.heap.size ≤ b ∨ S.O b := by
    intro b hOb
    obtain ⟨i, o2, ho2, _, hb2⟩ := hO b hOb
    exact (hs.ws.mine _ _ b ho2 hb2).2
  refine ⟨v, (renR (mlook m) res).v, ⟨st.tm.map (killsV ks), osets (okills ks st.ob) (post.map fun p => (mlook m p.1, renO (mlook m) p.2))⟩, Z', ρ1, rfl, ⟨?_, by simp [hs.len], fun i x u hx hu => ?_, hs.df⟩, renR_from hin hres hv, hk⟩
  · refine ⟨hw.os.trans hs.ws.os, hw.tape.trans hs.ws.tape, hw.output.trans hs.ws.output, Nat.le_trans hs.ws.size hsz, fun b hb hno => ?_, hw.zlt, fun j o b ho hb => ?_, fun i j oi oj b hi hj hij hbi hbj => ?_, fun j o ho => ?_, hw.g, fun b hb => hw.z0 b (hs.ws.z0 b hb), fun b hb => ?_⟩
    · refine (hsame b (Nat.lt_of_lt_of_le hb hs.ws.size) fun hOb => ?_).trans (hs.ws.old b hb hno)
      rcases hobase b hOb with h | h
      · omega
      · exact hno h
    · rcases hob j o ho with ⟨c, o', hc1, rfl, rfl⟩ | ⟨hj, o', ho', rfl⟩
      · have hcp := aHasO_get.2 ⟨o', hc1⟩
        rw [hin c hcp] at hb
        obtain ⟨h1, h2⟩ := hw.mine c o' b hc1 hb
        refine ⟨h1, ?_⟩
        rcases h2 with h2 | h2
        · exact .inl (Nat.le_trans hs.ws.size h2)
        · exact hobase b h2
      · rw [hout j hj] at hb
        obtain ⟨h1, h2⟩ := hs.ws.mine j o' b ho' hb
        refine ⟨fun hz => ?_, h2⟩
        rcases hw.znew b hz with h3 | h3 | h3
        · exact h1 h3
        · have := hs.ws.lt ho' hb
          exact absurd (show w.heap.size ≤ b from h3) (by omega)
        · exact hfar j o' b hj ho' hb h3
    · rcases hob i oi hi with ⟨c, o', hc1, rfl, rfl⟩ | ⟨hi', o', ho', rfl⟩
      · have hcp := aHasO_get.2 ⟨o', hc1⟩
        rw [hin c hcp] at hbi
        rcases hob j oj hj with ⟨c2, o2, hc2, rfl, rfl⟩ | ⟨hj', o2, ho2, rfl⟩
        · have hcp2 := aHasO_get.2 ⟨o2, hc2⟩
          rw [hin c2 hcp2] at hbj
          exact hw.sep c c2 o' o2 b hc1 hc2 (fun e => hij (by rw [e])) hbi hbj
        · rw [hout j hj'] at hbj
          rcases (hw.mine c o' b hc1 hbi).2 with h | h
          · have := hs.ws.lt ho2 hbj
            exact absurd (show w.heap.size ≤ b from h) (by omega)
          · exact hfar j o2 b hj' ho2 hbj h
      · rw [hout i hi'] at hbi
        rcases hob j oj hj with ⟨c2, o2, hc2, rfl, rfl⟩ | ⟨hj', o2, ho2, rfl⟩
        · have hcp2 := aHasO_get.2 ⟨o2, hc2⟩
          rw [hin c2 hcp2] at hbj
          rcases (hw.mine c2 o2 b hc2 hbj).2 with h | h
          · have := hs.ws.lt ho' hbi
            exact absurd (show w.heap.size ≤ b from h) (by omega)
          · exact hfar i o' b hi' ho' hbi h
        · rw [hout j hj'] at hbj
          exact hs.ws.sep i j o' o2 b ho' ho2 hij hbi hbj
    · rcases hob j o ho with ⟨c, o', hc1, rfl, rfl⟩ | ⟨hj, o', ho', rfl⟩
      · have hcp := aHasO_get.2 ⟨o', hc1⟩
        exact renO_from hin hcp (hpo _ (oget_mem hc1)) (hw.obj c o' hc1)
      · refine killsO_rel (fun h => hj (hksub j h)) hag ?_
        refine (hs.ws.obj j o' ho').mono hw.z0 hzn fun b hb => hsame b (hs.ws.lt ho' hb) (hfar j o' b hj ho' hb)
    · rcases hw.znew b hb with h | h | h
      · exact hs.ws.znew b h
      · exact .inr (.inl (Nat.le_trans hs.ws.size h))
      · exact .inr (hobase b h)
  · simp only [List.getElem?_map] at hx
    obtain ⟨x0, h0, rfl⟩ := Option.map_eq_some_iff.1 hx
    exact killsV_rel hag ((hs.tm i x0 u h0 hu).mono hw.z0 hzn)
theorem ACall.meth {E : AEnv} {S : Base} {st : ASt} {f : FuncId} {args : List AA} {pre post : List (Nat × AO)} {keep : List Nat} {res : AR} {K : AV → ASt → Prop} {cargs : List AV} (hc : MCall E f args pre post keep res) (m : List (Nat × Nat))
    (hck : methOk m pre post res = true) (hargs : (args.map fun a => (renA (mlook m) a).v) = cargs) (hk : aMeth m st pre post keep res K) : ACall E S f cargs st K := by
  obtain ⟨hpre, hk⟩ := aPre_get hk
  have hk := aRenR_get (aSetsM_get (aKillsS_get hk))
  exact ACall.methK hc m hck hargs hpre hk
end Go.Proofs.YtlhanpkfnhnegaaDoor
/- Contracts by hand, for calls that are handed objects. -/
namespace Go.Proofs.YtlhanpkfnhnegaaDoor
open Go.RowKit

/-- A call that writes one object: its block and its name stay. -/
theorem MCall.of_upd {E : AEnv} {f : FuncId} {args : List AA} {pre : List (Nat × AO)} {id : Nat} {o o' : AO} {keep : List Nat} {res : AR} (enter : ∀ (us : Array Value) w, (callFunc f us).run E.P w = .ok (.enter f us) w) (hid : oget pre id = some o)
    (h : ∀ Z w ρ (us : List Value), WS E.W (baseM w Z ρ pre) Z w ρ pre → RelO Z w ρ id o → us.length = args.length → (∀ (i : Nat) x u, args[i]? = some x → us[i]? = some u → RelV Z w ρ x.v u) →
      Calls E.P f us.toArray w fun e w' => ∃ v b, e = .returned v ∧ blkOf (ρ id) = some b ∧ w.grownBy w' (some b) ∧ RelO Z w' ρ id o' ∧ RelV Z w' ρ res.v v) : MCall E f args pre (oset pre id o') keep res := by
  refine ⟨enter, fun Z w ρ us hws hl hr => (h Z w ρ us hws (hws.obj id o hid) hl hr).mono ?_⟩
  rintro e w' ⟨v, b, rfl, hb, hg, ho, hv⟩
  exact ⟨v, Z, ρ, rfl, hws.upd id o o' hid hb hg ho, fun _ _ => rfl, hv⟩
/-- A call that turns nothing. -/
theorem MCall.of_same {E : AEnv} {f : FuncId} {args : List AA} {pre : List (Nat × AO)} {keep : List Nat} {res : AR} (enter : ∀ (us : Array Value) w, (callFunc f us).run E.P w = .ok (.enter f us) w)
    (h : ∀ Z w ρ (us : List Value), WS E.W (baseM w Z ρ pre) Z w ρ pre → us.length = args.length → (∀ (i : Nat) x u, args[i]? = some x → us[i]? = some u → RelV Z w ρ x.v u) →
      Calls E.P f us.toArray w fun e w' => ∃ v, e = .returned v ∧ w.grownBy w' none ∧ RelV Z w' ρ res.v v) : MCall E f args pre pre keep res := by
  refine ⟨enter, fun Z w ρ us hws hl hr => (h Z w ρ us hws hl hr).mono ?_⟩
  rintro e w' ⟨v, rfl, hg, hv⟩
  exact ⟨v, Z, ρ, rfl, hws.grow hg (fun _ h => h) (fun _ h => .inl h), fun _ _ => rfl, hv⟩
/-- A call that uses an object up. -/
theorem MCall.of_gone {E : AEnv} {f : FuncId} {args : List AA} {pre : List (Nat × AO)} {id : Nat} {o : AO} {res : AR} (enter : ∀ (us : Array Value) w, (callFunc f us).run E.P w = .ok (.enter f us) w) (hid : oget pre id = some o)
    (h : ∀ Z w ρ (us : List Value), WS E.W (baseM w Z ρ pre) Z w ρ pre → us.length = args.length → (∀ (i : Nat) x u, args[i]? = some x → us[i]? = some u → RelV Z w ρ x.v u) →
      Calls E.P f us.toArray w fun e w' => ∃ v, e = .returned v ∧ w.grownBy w' (blkOf (ρ id)) ∧ ∀ ρ', RelV Z w' ρ' res.v v) : MCall E f args pre (oset (okill id pre) id (.frame [] [])) [] res := by
  refine ⟨enter, fun Z w ρ us hws hl hr => (h Z w ρ us hws hl hr).mono ?_⟩
  rintro e w' ⟨v, rfl, hg, hv⟩
  refine ⟨v, Z, _, rfl, hws.renew id undef (.frame [] []) hg (fun g e => ⟨⟨o, hid⟩, e⟩) (fun b hb => (by cases hb)) ⟨by simp, rfl, by simp⟩, (by simp), hv _⟩
/-- A call that writes one object, which stays where it is. -/
theorem ACall.upd {E : AEnv} {S : Base} {tm : List AV} {ob : List (Nat × AO)} {f : FuncId} {args : List AA} {o o' : AO} {res : AR} {K : AV → ASt → Prop} {cargs : List AV} (hc : MCall E f args [(1000, o)] [(1000, o')] [1000] res) (id : Nat)
    (hck : methOk [(1000, id)] [(1000, o)] [(1000, o')] res = true) (hargs : (args.map fun a => (renA (mlook [(1000, id)]) a).v) = cargs) (hob : oget ob id = some (renO (mlook [(1000, id)]) o))
    (hk : aRenO [(1000, id)] o' fun o' => aSetO id o' ob fun ob => aRenR [(1000, id)] res fun r => K r ⟨tm, ob⟩) : ACall E S f cargs ⟨tm, ob⟩ K :=
  ACall.meth hc [(1000, id)] hck hargs (show aOb ob id fun o1 => o1 = renO (mlook [(1000, id)]) o ∧ _ from aOb_mk hob ⟨rfl, hk⟩)
theorem relA_ref {Z : Nat → Prop} {w : World} {ρ : Nat → Value} {id k s off : Nat} {u : Value} (h : RelV Z w ρ (AA.v (.one (.ref id k s off))) u) : ∃ b, blkOf (ρ id) = some b ∧ u = .pointer (some ⟨b, k * s + off, none⟩) := by
  cases h with
  | one _ _ h => exact h
theorem heap_setCell_cells {w : World} {b i : Nat} {us : List Value} {t : TypeId} {v : Value} (h : w.heap[b]? = some (.cells us.toArray t (0, 0))) : (w.setCell ⟨b, i, none⟩ v).heap[b]? = some (.cells (us.set i v).toArray t (0, 0)) := by
  have := Lib.heap_setCell_same (i := i) h v
  simpa using this
end Go.Proofs.YtlhanpkfnhnegaaDoor
/- A region that draws its order, in which one operation is a call that writes one object. -/
namespace Go.Proofs.YtlhanpkfnhnegaaDoor
open Go.RowKit

/-- A call that writes object c and nothing else. -/
structure AUCall (E : AEnv) (f : FuncId) (args : List AV) (c : Nat) (o0 o1 : AO) (r : AV) : Prop where
  h : ∀ {S : Base} {tm : List AV} {ob : List (Nat × AO)} {K : AV → ASt → Prop}, oget ob c = some o0 → K r ⟨tm, oset ob c o1⟩ → ACall E S f args ⟨tm, ob⟩ K
theorem AUCall.of {E : AEnv} {f : FuncId} {args : List AA} {o o' : AO} {res : AR} {cargs : List AV} {o0 o1 : AO} {r : AV} (hc : MCall E f args [(1000, o)] [(1000, o')] [1000] res) (id : Nat)
    (hck : methOk [(1000, id)] [(1000, o)] [(1000, o')] res = true) (hargs : (args.map fun a => (renA (mlook [(1000, id)]) a).v) = cargs) (h0 : renO (mlook [(1000, id)]) o = o0) (h1 : renO (mlook [(1000, id)]) o' = o1) (hr : (renR (mlook [(1000, id)]) res).v = r) : AUCall E f cargs id o0 o1 r := by
  subst h0 h1 hr
  refine ⟨fun {S tm ob K} hget hk => ACall.methK hc [(1000, id)] hck hargs (fun i x hx => ?_) ?_⟩
  · rw [List.mem_singleton] at hx
    injection hx with e1 e2
    subst e1 e2
    exact hget
  · have e : newIds [(1000, id)] [(1000, o')] [1000] = [] := rfl
    rw [e]
    have e2 : killsV [] = _root_.id := rfl
    rw [e2, List.map_id]
    exact hk

def aDelO (c : Nat) : List (Nat × AO) → (List (Nat × AO) → Prop) → Prop
  | [], K => K []
  | (k, o) :: r, K => match Nat.beq k c with
    | true => aDelO c r K
    | false => aDelO c r fun l => K ((k, o) :: l)
def odel (c : Nat) : List (Nat × AO) → List (Nat × AO)
  | [] => []
  | (k, o) :: r => match Nat.beq k c with
    | true => odel c r
    | false => (k, o) :: odel c r
theorem aDelO_get {c : Nat} : ∀ {l : List (Nat × AO)} {K : List (Nat × AO) → Prop}, aDelO c l K → K (odel c l)
  | [], _, h => h
  | (k, o) :: r, K, h => by
    unfold aDelO at h
    unfold odel
    cases e : Nat.beq k c with
    | true => rw [e] at h; exact aDelO_get (l := r) h
    | false => rw [e] at h; exact aDelO_get (l := r) (K := fun l => K ((k, o) :: l)) h
theorem oget_odel {c : Nat} : ∀ {l : List (Nat × AO)} {i : Nat} {o : AO}, oget (odel c l) i = some o → oget l i = some o ∧ i ≠ c
  | [], _, _, h => by cases h
  | (k, x) :: r, i, o, h => by
    unfold odel at h
    cases e : Nat.beq k c with
    | true =>
      rw [e] at h
      obtain ⟨h1, h2⟩ := oget_odel (l := r) h
      have : k = c := Nat.eq_of_beq_eq_true e
      refine ⟨?_, h2⟩
      unfold oget
      rw [if_neg (fun e' => h2 (by rw [← e', this]))]
      exact h1
    | false =>
      rw [e] at h
      unfold oget at h ⊢
      split at h
      · rename_i hk
        rw [if_pos hk]
        exact ⟨h, fun e' => Nat.ne_of_beq_eq_false e (by rw [hk, e'])⟩
      · rename_i hk
        rw [if_neg hk]
        exact oget_odel (l := r) h

/-- The call of a plain function: who is called, with what. -/
def afreeU (E : AEnv) (o : Oper) (st : ASt) (K : FuncId → List AV → Prop) : Prop :=
  match o.op with
  | .call c => match c.callee with
    | .value f => aEv st f fun f => match f with
      | .one (.d (.pv (.func (.func f) first caps))) => match first.toList, caps.toList with
        | [], [] => aEvL st c.args.toList fun args => K f args
        | _, _ => False
      | _ => False
    | _ => False
  | _ => False
section
variable {E : AEnv} {S : Base} {Z : Nat → Prop} {ρ : Nat → Value} {P : ASt} {tm : List AV} {ob : List (Nat × AO)} {a : Act} {w : World} {o : Oper} {c : Nat} {o0 o1 : AO} {r : AV}
theorem updRun (hP : Sim E.W S Z ρ P a w) (hF : Sim E.W S Z ρ ⟨tm, ob⟩ a w) (hget : oget ob c = some o0) (hk : afreeU E o P fun f args => AUCall E f args c o0 o1 r) (Kont : Act → World → Prop) (Q : Exit → Act → World → Prop)
    (hK : ∀ v' w' Z' ρ', Sim E.W S Z' ρ' ⟨tm, oset ob c o1⟩ a w' → RelV Z' w' ρ' r v' → Kont (a.put o.dst v') w') : Oper.wp E.P o a w Kont Q := by
  unfold afreeU at hk
  split at hk
  · rename_i cl ho
    split at hk
    · rename_i fo hf
      obtain ⟨vf, hvf, hk1⟩ := aEv_get hP hk
      clear hk
      split at hk1
      · rename_i f first caps
        have ef := relV_pv hvf
        split at hk1
        · rename_i h1 h2
          obtain ⟨vs, hl, hv, hk2⟩ := aEvL_get hP hk1
          have e1 : first = #[] := by simpa using h1
          have e2 : caps = #[] := by simpa using h2
          subst e1 e2
          have hc := hk2.h (S := S) (tm := tm) (ob := ob) (K := fun r' st' => r' = r ∧ st' = ⟨tm, oset ob c o1⟩) hget ⟨rfl, rfl⟩
          have hr : (execOp a.eval o).run E.P w = (callFunc f (cl.args.toList.map a.eval).toArray).run E.P w := by
            simp only [execOp, ho, resolve, hf, ef, Deferred.ofValue, invoke, Sem.run_bind, Sem.run_pure, Result.andThen_ok, args_list cl.args a.eval]
            simp
          unfold Oper.wp
          rw [hr, hc.enter]
          refine (hc.run Z ρ a w (cl.args.toList.map a.eval) hF (by simp [hl]) fun i x u h3 h4 => ?_).mono ?_
          · rw [List.getElem?_map] at h4
            obtain ⟨y, hy, rfl⟩ := Option.map_eq_some_iff.1 h4
            exact hv i y x hy h3
          · rintro e w' ⟨v, r', st', Z', ρ', rfl, hs', hv', rfl, rfl⟩
            exact hK v w' Z' ρ' hs' hv'
        · exact hk1.elim
      · exact hk1.elim
    · exact hk.elim
  · exact hk.elim
end

section
variable {E : AEnv} {S : Base} {ops : List Oper} {D : List (List Nat)} {R : List (AV × Option AO)} {n0 : Nat} {st0 : ASt}
/-- The state before and behind the call. -/
def stU (st0 : ASt) (c : Nat) (o1 : AO) (b : Bool) : ASt := ⟨st0.tm, if b then oset st0.ob c o1 else st0.ob⟩
theorem stU_tm {c : Nat} {o1 : AO} {b : Bool} : (stU st0 c o1 b).tm = st0.tm := rfl
theorem draw_putU (F : DBase ops D R n0 st0) {c : Nat} {o0 o1 : AO} (hget : oget st0.ob c = some o0) {listed : Nat → Bool} {i : Nat} {o : Oper} (hi : i < n0) (ho : ops[i]? = some o) (hno : oAt R i = none)
    {Z : Nat → Prop} {ρ : Nat → Value} {a : Act} {w : World} {v' : Value} (hs : Sim E.W S Z ρ ⟨(stS ops R n0 st0 listed).tm, oset (stS ops R n0 st0 listed).ob c o1⟩ a w) (hv : RelV Z w ρ (vAt R i) v') :
    SimX E.W S (stS ops R n0 (stU st0 c o1 true) fun j => listed j || Nat.beq j i) (a.put o.dst v') w := by
  have hdst := F.dst i o hi ho
  have hnd := F.nd
  have slot : ∀ s, s ≠ dAt ops i → (stS ops R n0 st0 fun j => listed j || Nat.beq j i).tm[s]? = (stS ops R n0 st0 listed).tm[s]? := by
    intro s hne
    by_cases hex : ∃ j, j < n0 ∧ listed j = true ∧ dAt ops j = s
    · obtain ⟨j, hj, hl, rfl⟩ := hex
      rw [stS_at hnd hj (by simp [hl]) (F.len j hj), stS_at hnd hj hl (F.len j hj)]
    · rw [stS_un hnd fun j hj hl e => ?_, stS_un hnd fun j hj hl e => hex ⟨j, hj, hl, e⟩]
      simp only [Bool.or_eq_true] at hl
      rcases hl with hl | hl
      · exact hex ⟨j, hj, hl, e⟩
      · exact hne (by rw [← e, Nat.eq_of_beq_eq_true hl])
  have slotI : (stS ops R n0 st0 fun j => listed j || Nat.beq j i).tm[dAt ops i]? = some (vAt R i) := stS_at hnd hi (by simp) (F.len i hi)
  have etm : (stS ops R n0 (stU st0 c o1 true) fun j => listed j || Nat.beq j i).tm = (stS ops R n0 st0 fun j => listed j || Nat.beq j i).tm := rfl
  have h1 := hs.put o.dst hv
  refine ⟨Z, ρ, h1.sub (SubL.of_get ?_ fun s x y hx hy => ?_) fun id ob hob => ?_⟩
  · rw [hdst, etm]; simp [putT, stS_len hnd]
  · rw [etm] at hy
    rw [hdst] at hx
    simp only [putT, List.getElem?_set] at hx
    by_cases hsd : dAt ops i = s
    · subst hsd
      rw [slotI] at hy
      rw [if_pos rfl, stS_len hnd, if_pos (F.len i hi)] at hx
      injection hx with hx
      injection hy with hy
      rw [← hx, ← hy]
      exact .refl _
    · rw [if_neg hsd] at hx
      rw [slot s (fun e => hsd e.symm), hx] at hy
      injection hy with hy
      rw [hy]
      exact .refl _
  · rw [stS_ob hnd] at hob
    show oget (oset (stS ops R n0 st0 listed).ob c o1) id = some ob
    rw [oget_oset]
    have hfar : ∀ j, j < n0 → oAt R j ≠ none → c ≠ dAt ops j := fun j hj hne e => by
      have := F.ob j hj hne
      rw [← e, hget] at this
      cases this
    rcases hob with ⟨j, hj, hl, e, h⟩ | ⟨h, hb⟩
    · have hji : listed j = true := by
        simp only [Bool.or_eq_true] at hl
        rcases hl with hl | hl
        · exact hl
        · rw [Nat.eq_of_beq_eq_true hl, hno] at h; cases h
      rw [if_neg (fun e' => hfar j hj (by rw [h]; simp) (by rw [e, e'])), stS_ob hnd]
      exact .inl ⟨j, hj, hji, e, h⟩
    · have hb : oget (oset st0.ob c o1) id = some ob := hb
      rw [oget_oset] at hb
      by_cases hci : c = id
      · rw [if_pos hci] at hb ⊢
        exact hb
      · rw [if_neg hci] at hb ⊢
        rw [stS_ob hnd]
        exact .inr ⟨fun j hj hl e => h j hj (by simp [hl]) e, hb⟩

/-- Operations other than the call: the object is left out of what they see. -/
theorem stU_sub {c : Nat} {o1 : AO} {b : Bool} (hd : ((List.range n0).map (dAt ops)).Nodup) (hlen : ∀ j, j < n0 → dAt ops j < st0.tm.length) (hob : ∀ j, j < n0 → oAt R j ≠ none → oget (stU st0 c o1 b).ob (dAt ops j) = none) {listed : Nat → Bool} {i : Nat}
    (hli : listed i = false) (hD : ∀ j, j < n0 → inD D j i = true → listed j = true) (hA : ∀ j, j < n0 → inD D i j = true → listed j = false) :
    SubL (stS ops R n0 (stU st0 c o1 b) listed).tm (stP ops D R n0 ⟨st0.tm, odel c st0.ob⟩ i).tm ∧ SubO (stS ops R n0 (stU st0 c o1 b) listed).ob (stP ops D R n0 ⟨st0.tm, odel c st0.ob⟩ i).ob := by
  obtain ⟨h1, h2⟩ := stP_sub (D := D) (st0 := stU st0 c o1 b) hd hlen hob hli hD hA
  refine ⟨h1, fun id o ho => h2 id o ?_⟩
  have ho : oget ((List.range n0).filterMap (obF ops R fun j => inD D j i) ++ odel c st0.ob) id = some o := ho
  show oget ((List.range n0).filterMap (obF ops R fun j => inD D j i) ++ (stU st0 c o1 b).ob) id = some o
  rw [oget_append] at ho ⊢
  split at ho
  · exact ho
  · obtain ⟨h3, h4⟩ := oget_odel ho
    cases b with
    | true =>
      show oget (oset st0.ob c o1) id = some o
      rw [oget_oset, if_neg (fun e => h4 e.symm)]
      exact h3
    | false => exact h3

/-- What each free operation owes; the call also what it makes of the object. -/
def aFactsU (E : AEnv) (D : List (List Nat)) (pre : List Oper) (R : List (AV × Option AO)) (stD st : ASt) (c ic : Nat) (o0 o1 : AO) : List Oper → List (AV × Option AO) → Nat → Prop
  | [], [], _ => True
  | o :: ops, r :: rs, i => (match Nat.beq i ic with
    | true => o.guard = none ∧ r.2 = none ∧ aFrom D pre R i st fun P => afreeU E o P fun f args => AUCall E f args c o0 o1 r.1
    | false => aFact E D pre R stD i o r) ∧ aFactsU E D pre R stD st c ic o0 o1 ops rs (i + 1)
  | _, _, _ => False
theorem aFactsU_get {pre : List Oper} {stD st : ASt} {c ic : Nat} {o0 o1 : AO} : ∀ {ops : List Oper} {rs : List (AV × Option AO)} {i : Nat}, aFactsU E D pre R stD st c ic o0 o1 ops rs i → ∀ k o, ops[k]? = some o → ∃ r, rs[k]? = some r ∧ (match Nat.beq (i + k) ic with
    | true => o.guard = none ∧ r.2 = none ∧ aFrom D pre R (i + k) st fun P => afreeU E o P fun f args => AUCall E f args c o0 o1 r.1
    | false => aFact E D pre R stD (i + k) o r)
  | [], _, _, _, k, o, h => by simp at h
  | o' :: ops, [], _, h, k, o, _ => h.elim
  | o' :: ops, r :: rs, i, h, k, o, ho => by
    cases k with
    | zero => simp at ho; subst ho; exact ⟨r, rfl, h.1⟩
    | succ k =>
      obtain ⟨r', h1, h2⟩ := aFactsU_get h.2 k o (by simpa using ho)
      rw [show i + 1 + k = i + (k + 1) by omega] at h2
      exact ⟨r', by simpa using h1, h2⟩
end

section
variable {E : AEnv} {S : Base} {ops : Array Oper} {n0 : Nat} {st0 : ASt} {R : List (AV × Option AO)} {K : ASt → Prop} {Q : Exit → Act → World → Prop}
theorem draw_headU (he : E.Ok) {D : List (List Nat)} (T : DText ops.toList D n0) {c ic : Nat} {o0 o1 : AO} (hget : oget st0.ob c = some o0) (hic : ic < n0) (F : ∀ b, DBase ops.toList D R n0 (stU st0 c o1 b))
    (hf : aFactsU E D (ops.toList.take n0) R ⟨st0.tm, odel c st0.ob⟩ st0 c ic o0 o1 (ops.toList.take n0) R 0) (hQ : ∀ a w, (∃ st', SimX E.W S st' a w ∧ K st') → Q .normal a w)
    (ht : aAfter (ops.toList.take n0) R (stU st0 c o1 true) fun st => arun E S ops.toList (ops.toList.drop n0) st K) :
    ∀ (fuel : Nat) (listed : Array Bool) (a : Act) (w : World), listed.size = ops.size → (∀ j, n0 ≤ j → lfOf listed j = false) → (∀ j, lfOf listed j = true → ∀ e ∈ aftersOf ops.toList j, lfOf listed e = true) → cntU (lfOf listed) ops.size ≤ fuel →
      SimX E.W S (stS ops.toList R n0 (stU st0 c o1 (lfOf listed ic)) (lfOf listed)) a w → wpAny E.P .any ops Q fuel listed a w := by
  intro fuel
  have hle : n0 ≤ ops.toList.length := T.le
  have hle' : n0 ≤ ops.size := by simpa using hle
  have F0 : DBase ops.toList D R n0 st0 := F false
  induction fuel with
  | zero =>
    intro listed a w hs htl hc hf' h
    have hall := cntU_zero (Nat.le_zero.1 hf')
    have hn0 : ops.size ≤ n0 := by
      apply Nat.le_of_not_lt
      intro hlt
      have h1 := hall n0 hlt
      rw [htl n0 (Nat.le_refl _)] at h1
      cases h1
    refine ⟨?_, hQ a w ⟨_, h, ?_⟩⟩
    · rw [List.eq_nil_iff_forall_not_mem]
      intro i hi
      obtain ⟨h1, h2, _⟩ := (ready_lf T hs).1 hi
      rw [hall i h1] at h2
      cases h2
    · have := aAfter_get hle ht
      rw [List.drop_eq_nil_of_le (by simpa using hn0)] at this
      rw [hall ic (by omega)]
      have e : stS ops.toList R n0 (stU st0 c o1 true) (lfOf listed) = stS ops.toList R n0 (stU st0 c o1 true) fun _ => true := stS_congr fun j hj => by rw [hall j (by omega)]
      rw [e]
      exact this
  | succ fuel ih =>
    intro listed a w hs htl hc hf' h
    by_cases hall : ∀ j, j < n0 → lfOf listed j = true
    · rw [hall ic hic] at h
      have e : stS ops.toList R n0 (stU st0 c o1 true) (lfOf listed) = stS ops.toList R n0 (stU st0 c o1 true) fun _ => true := stS_congr fun j hj => by rw [hall j hj]
      rw [e] at h
      have h2 := cntU_ge htl (n := ops.size)
      refine draw_tail he T hQ (fuel + 1) n0 listed _ a w hs (Nat.le_refl _) (fun j hj => ?_) (by omega) h (aAfter_get hle ht)
      by_cases hj0 : j < n0
      · rw [hall j hj0]; simp [hj0]
      · rw [htl j (by omega)]; simp [hj0]
    · refine ⟨fun hnil => ?_, fun i hi => ?_⟩
      · exfalso
        apply hall
        intro j
        induction j using Nat.strongRecOn with
        | ind j ihj =>
          intro hj
          cases hlj : lfOf listed j with
          | true => rfl
          | false =>
            have : j ∈ Region.ready .any ops listed := (ready_lf T hs).2 ⟨by omega, hlj, fun e hej => by
              have hjs : j < ops.size := by omega
              rw [aftersOf_some (o := ops[j]) (by simp [hjs])] at hej
              obtain ⟨e', he', rfl⟩ := List.mem_map.1 hej
              have := (T.edge j ops[j] (by simp [hjs]) e' he').2
              exact ihj _ this (by omega)⟩
            rw [hnil] at this
            cases this
      · obtain ⟨hlt, hli, haf⟩ := (ready_lf T hs).1 hi
        have hi0 : i < n0 := by
          apply Nat.lt_of_not_le
          intro hge
          apply hall
          intro j hj
          exact deps_listed T hc haf (T.tail i hge (by simpa using hlt) j (by omega))
        have hDl : ∀ j, inD D j i = true → lfOf listed j = true := fun j hj => deps_listed T hc haf hj
        have hAl : ∀ j, j < n0 → inD D i j = true → lfOf listed j = false := fun j _ hj => by
          cases hlj : lfOf listed j with
          | false => rfl
          | true =>
            have := deps_listed T hc (hc j hlj) hj
            rw [hli] at this
            cases this
        have hg : ops.toList[i]? = some ops[i] := by simp [hlt]
        have elf := lfOf_set (listed := listed) (i := i) (by omega)
        have next : ∀ a' w', SimX E.W S (stS ops.toList R n0 (stU st0 c o1 (lfOf listed ic || Nat.beq ic i)) fun j => lfOf listed j || Nat.beq j i) a' w' → wpAny E.P .any ops Q fuel (listed.setIfInBounds i true) a' w' := fun a' w' h' => by
          refine ih _ a' w' (by simpa using hs) (fun j hj => ?_) (fun j hj e' hej => ?_) ?_ ?_
          · rw [elf]
            simp only [htl j hj, Bool.false_or]
            cases hb : Nat.beq j i with
            | false => rfl
            | true => have := Nat.eq_of_beq_eq_true hb; omega
          · rw [elf] at hj ⊢
            simp only [Bool.or_eq_true] at hj ⊢
            rcases hj with hj | hj
            · exact .inl (hc j hj e' hej)
            · rw [Nat.eq_of_beq_eq_true hj] at hej
              exact .inl (haf e' hej)
          · rw [elf]
            have := (cntU_lt hli (n := ops.size)).2 hlt
            omega
          · rw [elf]
            exact h'
        have ho' : (ops.toList.take n0)[i]? = some ops[i] := by rw [List.getElem?_take, if_pos hi0]; exact hg
        obtain ⟨r, hr, hfact⟩ := aFactsU_get hf i ops[i] ho'
        rw [Nat.zero_add] at hfact
        unfold wpOp
        rw [Array.getElem?_eq_getElem hlt]
        simp only
        cases hbi : Nat.beq i ic with
        | true =>
          rw [hbi] at hfact
          obtain ⟨hgu, hr2, hk⟩ := hfact
          have eic : i = ic := Nat.eq_of_beq_eq_true hbi
          subst eic
          have hw : Region.wanted ops[i] (yielded ops a.tmps) = true := by simp [Region.wanted, hgu]
          rw [if_pos hw]
          refine .inl ?_
          have hoo : oAt R i = none := by simp [oAt, List.getD, hr, hr2]
          have hvv : vAt R i = r.1 := by simp [vAt, List.getD, hr]
          rw [hli] at h
          obtain ⟨Z, ρ, h⟩ := h
          have h : Sim E.W S Z ρ (stS ops.toList R n0 st0 (lfOf listed)) a w := h
          have hsub := stP_sub (D := D) F0.nd F0.len F0.ob hli (fun j _ h => hDl j h) hAl
          have hgF : oget (stS ops.toList R n0 st0 (lfOf listed)).ob c = some o0 := by
            rw [stS_ob F0.nd]
            refine .inr ⟨fun j hj _ e => ?_, hget⟩
            cases ho2 : oAt R j with
            | none => rfl
            | some o2 =>
              have := F0.ob j hj (by rw [ho2]; simp)
              rw [e, hget] at this
              cases this
          refine updRun (tm := (stS ops.toList R n0 st0 (lfOf listed)).tm) (ob := (stS ops.toList R n0 st0 (lfOf listed)).ob) (h.sub hsub.1 hsub.2) h hgF (aFrom_get hle hk) _ Q fun v' w' Z' ρ' hs' hv' => ?_
          refine next _ _ ?_
          have eb : (lfOf listed i || Nat.beq i i) = true := by simp [Nat.beq_refl]
          rw [eb]
          rw [← hvv] at hv'
          exact draw_putU F0 hget hi0 hg hoo hs' hv'
        | false =>
          rw [hbi] at hfact
          have hb : Nat.beq ic i = false := by
            cases hb : Nat.beq ic i with
            | false => rfl
            | true => rw [Nat.eq_of_beq_eq_true hb, Nat.beq_refl] at hbi; cases hbi
          have hsub := stU_sub (D := D) (st0 := st0) (c := c) (o1 := o1) (b := lfOf listed ic) F0.nd F0.len (F _).ob hli (fun j _ h => hDl j h) hAl
          have step := draw_stepP (Kont := wpAny E.P .any ops Q fuel (listed.setIfInBounds i true)) (Q := Q) (F (lfOf listed ic)) hi0 hg hli hDl hAl hsub (out_of he T hi0 hr hfact) h fun a' w' h' => next a' w' (by rw [hb, Bool.or_false]; exact h')
          simp only [Array.toArray_toList] at step
          split
          · rename_i hw; exact .inl (step.1 hw)
          · rename_i hw; exact step.2 (by simpa using hw)

theorem AWP.drawU (he : E.Ok) {K : Exit → ASt → Prop} {id : Nat} {tm : List AV} {ob : List (Nat × AO)} (n0 : Nat) (D : List (List Nat)) (R : List (AV × Option AO)) (c ic : Nat) (o0 o1 : AO) (hD : depsOf [] ops.toList = D) (hok : drawOK ops.toList D n0 = true) (hl : lenB ops.toList n0 tm.length = true)
    (hget : oget ob c = some o0) (hic : Nat.blt ic n0 = true)
    (hf : aDelO c ob fun ob' => aFactsU E D (ops.toList.take n0) R ⟨tm, ob'⟩ ⟨tm, ob⟩ c ic o0 o1 (ops.toList.take n0) R 0) (hno : noB ops.toList D R n0 ⟨tm, ob⟩ = true) (hno1 : noB ops.toList D R n0 ⟨tm, oset ob c o1⟩ = true)
    (ht : aSetO c o1 ob fun ob => aAfter (ops.toList.take n0) R ⟨tm, ob⟩ fun st => arun E S ops.toList (ops.toList.drop n0) st (K .normal)) : AWP E S (.region id ops true) K ⟨tm, ob⟩ := by
  have T := drawOK_text hD hok
  have F : ∀ b, DBase ops.toList D R n0 (stU ⟨tm, ob⟩ c o1 b) := fun b => by
    cases b with
    | true => exact base_of T hl hno1
    | false => exact base_of T hl hno
  refine ⟨fun a w hs => wp_region_any he.mixed ?_⟩
  have hg : w.grownBy { w with drawn := w.drawn + 1 } none := ⟨rfl, rfl, rfl, Nat.le_refl _, fun b hb _ => rfl⟩
  refine draw_headU (Q := fun e a' w' => ∃ st', SimX E.W S st' a' w' ∧ K e st') he T hget (Nat.le_of_ble_eq_true hic) F (aDelO_get hf) (fun a w h => h) (aSetO_get ht) ops.size (Array.replicate ops.size false) a _ (by simp) (fun j _ => ?_) (fun j hj => ?_) ?_ ?_
  · simp [lfOf, Array.getD_eq_getD_getElem?, Array.getElem?_replicate]
    split <;> rfl
  · exfalso
    simp [lfOf, Array.getD_eq_getD_getElem?, Array.getElem?_replicate] at hj
    split at hj <;> simp at hj
  · have : ∀ (lf : Nat → Bool) n, cntU lf n ≤ n := fun lf n => by
      induction n with
      | zero => exact Nat.le_refl _
      | succ n ih => simp only [cntU]; split <;> omega
    exact this _ _
  · obtain ⟨Z, ρ, hs⟩ := hs
    have e1 : ∀ j, lfOf (Array.replicate ops.size false) j = false := fun j => by
      simp [lfOf, Array.getD_eq_getD_getElem?, Array.getElem?_replicate]
      split <;> rfl
    have e : stS ops.toList R n0 (stU ⟨tm, ob⟩ c o1 (lfOf (Array.replicate ops.size false) ic)) (lfOf (Array.replicate ops.size false)) = ⟨tm, ob⟩ := by
      have e2 : (List.range n0).filterMap (upS ops.toList R (lfOf (Array.replicate ops.size false))) = [] := by
        rw [List.filterMap_eq_nil_iff]; intro j _; simp [upS, e1]
      have e3 : (List.range n0).filterMap (obF ops.toList R (lfOf (Array.replicate ops.size false))) = [] := by
        rw [List.filterMap_eq_nil_iff]; intro j _; simp [obF, e1]
      simp [stS, stU, e1, e2, e3, setsL]
    rw [e]
    exact ⟨Z, ρ, hs.grow hg (fun _ h => h) fun _ h => .inl h⟩
end
end Go.Proofs.YtlhanpkfnhnegaaDoor
