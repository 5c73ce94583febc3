/- Calls that are handed objects of the caller's own: pointers into them, or slices that the callee appends to. -/
import Derived.Test.YtlhanpkfnhnegaaDoorAvJ3
set_option linter.unusedVariables false
set_option linter.unusedSimpArgs false
set_option maxRecDepth 100000
namespace Go.Proofs.YtlhanpkfnhnegaaDoor
open Go.RowKit

/-- One value; a result. -/
inductive AA where
  | one (c : AC)
  | agg (cs : List AC)
inductive AR where
  | val (a : AA)
  | tup (l : List AA)
def AA.v : AA → AV
  | .one c => .one c
  | .agg cs => .agg cs
def AR.v : AR → AV
  | .val a => a.v
  | .tup l => .tup (l.map AA.v)
/-- Where a call stands that is handed objects. -/
def baseM (w : World) (Z : Nat → Prop) (ρ : Nat → Value) (pre : List (Nat × AO)) : Base := ⟨w, fun b => ∃ id o, oget pre id = some o ∧ blkOf (ρ id) = some b, Z⟩
/-- The contract of such a call: the objects before and behind it, under names of the contract's own; those kept are where they were. -/
structure MCall (E : AEnv) (f : FuncId) (args : List AA) (pre post : List (Nat × AO)) (keep : List Nat) (res : AR) : Prop where
  enter : ∀ (us : Array Value) w, (callFunc f us).run E.P w = .ok (.enter f us) w
  run : ∀ (Z : Nat → Prop) (w : World) (ρ : Nat → Value) (us : List Value), WS E.W (baseM w Z ρ pre) Z w ρ pre → us.length = args.length → (∀ (i : Nat) x u, args[i]? = some x → us[i]? = some u → RelV Z w ρ x.v u) →
    Calls E.P f us.toArray w fun e w' => ∃ v Z' ρ', e = .returned v ∧ WS E.W (baseM w Z ρ pre) Z' w' ρ' post ∧ (∀ id ∈ keep, ρ' id = ρ id) ∧ RelV Z' w' ρ' res.v v

def aHasO : List (Nat × AO) → Nat → Bool
  | [], _ => false
  | (k, _) :: r, i => match Nat.beq k i with
    | true => true
    | false => aHasO r i
theorem aHasO_get : ∀ {l : List (Nat × AO)} {i : Nat}, aHasO l i = true ↔ ∃ o, oget l i = some o
  | [], i => by simp [aHasO, oget]
  | (k, o) :: r, i => by
    simp only [aHasO, oget]
    cases e : Nat.beq k i with
    | true => rw [if_pos (Nat.eq_of_beq_eq_true e)]; simp
    | false => rw [if_neg (Nat.ne_of_beq_eq_false e)]; exact aHasO_get
theorem aHasO_no {l : List (Nat × AO)} {i : Nat} (h : aHasO l i = false) : oget l i = none := by
  cases e : oget l i with
  | none => rfl
  | some o => rw [aHasO_get.2 ⟨o, e⟩] at h; cases h

/-- What a value is behind the call: own slices that are not handed back as objects stand from there on. -/
def aOutC (post ob : List (Nat × AO)) (c : AC) (K : AC → Prop) : Prop :=
  match c with
  | .own id => match aHasO post id with
    | true => K (.own id)
    | false => aOb ob id fun o => match o with
      | .row _ _ xs => K (.d (.sl xs))
      | _ => False
  | .ref id k s off => match aHasO post id with
    | true => K (.ref id k s off)
    | false => False
  | c => K c
def aOutCs (post ob : List (Nat × AO)) : List AC → (List AC → Prop) → Prop
  | [], K => K []
  | c :: r, K => aOutC post ob c fun c => aOutCs post ob r fun r => K (c :: r)
def aOutV (post ob : List (Nat × AO)) (x : AV) (K : AA → Prop) : Prop :=
  match x with
  | .one c => aOutC post ob c fun c => K (.one c)
  | .agg cs => aOutCs post ob cs fun cs => K (.agg cs)
  | .tup _ => False
def ZOut (Z : Nat → Prop) (ρ : Nat → Value) (ob post : List (Nat × AO)) (b : Nat) : Prop := Z b ∨ ∃ id o, oget ob id = some o ∧ aHasO post id = false ∧ blkOf (ρ id) = some b
section
variable {T : World → Prop} {S : Base} {Z : Nat → Prop} {w : World} {ρ : Nat → Value} {ob post : List (Nat × AO)}
theorem aOutC_get (h : WS T S Z w ρ ob) {c : AC} {K : AC → Prop} {v : Value} (hv : RelC Z w ρ c v) (hk : aOutC post ob c K) : ∃ c', RelC (ZOut Z ρ ob post) w ρ c' v ∧ K c' := by
  have upb : ∀ b, Z b → ZOut Z ρ ob post b := fun b hb => .inl hb
  have up : ∀ {d : AD} {v : Value}, RelD Z w d v → RelD (ZOut Z ρ ob post) w d v := fun hd => hd.mono upb fun _ _ => rfl
  cases c with
  | own id =>
    cases e : aHasO post id with
    | true => simp only [aOutC, e] at hk; exact ⟨.own id, hv, hk⟩
    | false =>
      simp only [aOutC, e] at hk
      obtain ⟨o, ho, hk⟩ := aOb_get hk
      split at hk
      · rename_i e' s xs
        obtain ⟨us, h0, hl, hxs, hus, hown, hd⟩ := h.obj id _ ho
        refine ⟨.d (.sl xs), ?_, hk⟩
        have hv : v = ρ id := hv.1
        subst hv
        show RelD (ZOut Z ρ ob post) w (.sl xs) (ρ id)
        rcases hown.2 with ⟨hv, hn⟩ | ⟨g, cap, cur, hv, _, hg, h1, h2, h3, h4⟩
        · have : xs = [] := List.eq_nil_of_length_eq_zero hn
          subst this
          rw [hv]
          exact .sl [] none 0 0 [] (Nat.le_refl _) (Nat.zero_le _) rfl (by simp) (by simp) (.inl rfl) (by simp)
        · rw [hv]
          refine .sl xs _ cap s us h1 h2 hl hxs hus (.inr ⟨g, 0, rfl, .inr ⟨id, _, ho, e, by rw [hv]; rfl⟩, fun i u hu => ?_⟩) fun i j x u a b e1 e2 e3 e4 => up (hd i j x u a b e1 e2 e3 e4)
          rw [Nat.zero_add]
          exact own_cell hown (by rw [hv]; rfl) hu
      · exact hk.elim
  | ref id k s off =>
    cases e : aHasO post id with
    | true => simp only [aOutC, e] at hk; exact ⟨.ref id k s off, hv, hk⟩
    | false => simp only [aOutC, e] at hk
  | _ => exact ⟨_, RelC.mono upb (fun _ _ => rfl) hv, hk⟩
theorem aOutCs_get (h : WS T S Z w ρ ob) : ∀ {cs : List AC} {us : List Value} {K : List AC → Prop}, RelL Z w ρ cs us → aOutCs post ob cs K → ∃ ds, us.length = ds.length ∧ (∀ (i : Nat) d u, ds[i]? = some d → us[i]? = some u → RelC (ZOut Z ρ ob post) w ρ d u) ∧ K ds
  | [], us, K, hr, hk => ⟨[], hr.1, by simp, hk⟩
  | c :: r, [], K, hr, hk => by have := hr.1; simp at this
  | c :: r, u :: us, K, hr, hk => by
    obtain ⟨d, hd, hk⟩ := aOutC_get h (hr.2 0 c u rfl rfl) hk
    obtain ⟨ds, hl, hds, hk⟩ := aOutCs_get h (cs := r) (us := us) ⟨by simpa using hr.1, fun i c u h1 h2 => hr.2 (i + 1) c u (by simpa using h1) (by simpa using h2)⟩ hk
    refine ⟨d :: ds, by simp [hl], fun i x y h1 h2 => ?_, hk⟩
    cases i with
    | zero => simp at h1 h2; subst h1 h2; exact hd
    | succ i => exact hds i x y (by simpa using h1) (by simpa using h2)
theorem aOutV_get (h : WS T S Z w ρ ob) {x : AV} {K : AA → Prop} {v : Value} (hv : RelV Z w ρ x v) (hk : aOutV post ob x K) : ∃ p, RelV (ZOut Z ρ ob post) w ρ p.v v ∧ K p := by
  cases hv with
  | one c v hv => obtain ⟨d, hd, hk⟩ := aOutC_get (K := fun c => K (.one c)) h hv hk; exact ⟨.one d, .one _ _ hd, hk⟩
  | agg cs us hl hr => obtain ⟨ds, h1, h2, hk⟩ := aOutCs_get (K := fun cs => K (.agg cs)) h ⟨hl, hr⟩ hk; exact ⟨.agg ds, .agg _ _ h1 h2, hk⟩
  | tup vs us hl hr => exact hk.elim
theorem WS.out (h : WS T S Z w ρ ob) (hs : SubO ob post) : WS T S (ZOut Z ρ ob post) w ρ post := by
  have h' := h.sub hs
  refine ⟨h.os, h.tape, h.output, h.size, h.old, ?_, fun id o b ho hb => ⟨?_, (h'.mine id o b ho hb).2⟩, h'.sep, fun id o ho => (h'.obj id o ho).mono (fun b hb => .inl hb) (fun _ _ => rfl) fun _ _ => rfl, ?_, fun b hb => .inl (h.z0 b hb), ?_⟩
  · rintro b (hb | ⟨id, o, ho, _, hb⟩)
    · exact h.zlt b hb
    · exact h.lt ho hb
  · rintro (hz | ⟨id2, o2, ho2, hn, hb2⟩)
    · exact (h'.mine id o b ho hb).1 hz
    · refine h.sep id id2 o o2 b (hs id o ho) ho2 (fun e => ?_) hb hb2
      subst e
      rw [aHasO_get.2 ⟨o, ho⟩] at hn
      cases hn
  · obtain ⟨w1, g1, g2, g3⟩ := h.g
    exact ⟨w1, g1, g2, fun b hb => .inl (g3 b hb)⟩
  · rintro b (hb | ⟨id, o, ho, _, hb⟩)
    · exact h.znew b hb
    · exact .inr (h.mine id o b ho hb).2
end

/-! What is handed back. -/
section
variable {E : AEnv} {S : Base} {st : ASt}
def aRetM1 (E : AEnv) (st : ASt) (post : List (Nat × AO)) (r : ResultVar) (K : AA → Prop) : Prop :=
  match r with
  | .tmp t => aTm st.tm t fun v => aOutV post st.ob v K
  | .cell t ty => aTm st.tm t fun x => aLoad E st ty x fun v => aOutV post st.ob v K
def aRetMs (E : AEnv) (st : ASt) (post : List (Nat × AO)) : List ResultVar → (List AA → Prop) → Prop
  | [], K => K []
  | r :: rs, K => aRetM1 E st post r fun p => aRetMs E st post rs fun ps => K (p :: ps)
def aRetM (E : AEnv) (st : ASt) (post : List (Nat × AO)) (rs : List ResultVar) (K : AR → Prop) : Prop :=
  match rs with
  | [r] => aRetM1 E st post r fun p => K (.val p)
  | rs => aRetMs E st post rs fun ps => K (.tup ps)
/-- The objects of the contract stand. -/
def aHave (ob : List (Nat × AO)) : List (Nat × AO) → Prop
  | [] => True
  | (i, o) :: r => aOb ob i fun o' => o' = o ∧ aHave ob r
theorem aHave_get {ob : List (Nat × AO)} : ∀ {l : List (Nat × AO)}, aHave ob l → SubO ob l
  | [], _ => SubO.nil
  | (i, o) :: r, h => by
    obtain ⟨o', ho, rfl, hr⟩ := aOb_get h
    exact SubO.cons ho (aHave_get hr)
def pinsOf (keep : List Nat) : List AV := keep.map fun id => .one (.ref id 0 0 0)
def pinId : Nat := 9999
def retM (E : AEnv) (rs : List ResultVar) (post : List (Nat × AO)) (keep : List Nat) (pv : List Value) (res : AR) : Exit → ASt → Prop
  | .ret, st => aRetM E st post rs fun v => v = res ∧ aHave st.ob ((9999, .frame (pinsOf keep) pv) :: post)
  | .normal, st => aRetM E st post rs fun v => v = res ∧ aHave st.ob ((9999, .frame (pinsOf keep) pv) :: post)
  | _, _ => False

theorem aRetM1_get (he : E.Ok) {post : List (Nat × AO)} {Z : Nat → Prop} {ρ : Nat → Value} {a : Act} {w : World} (h : Sim E.W S Z ρ st a w) {r : ResultVar} {K : AA → Prop} (hk : aRetM1 E st post r K) :
    ∃ (v : Value) (p : AA), (resSem a.tmps r).run E.P w = .ok v w ∧ RelV (ZOut Z ρ st.ob post) w ρ p.v v ∧ K p := by
  cases r with
  | tmp t =>
    obtain ⟨x, hx, hk⟩ := aTm_get hk
    have hlt : t < a.tmps.size := by rw [h.len]; exact (List.getElem?_eq_some_iff.1 hx).1
    obtain ⟨p, hp, hk⟩ := aOutV_get h.ws (h.tm t x _ hx (Array.getElem?_eq_getElem hlt)) hk
    exact ⟨a.tmps[t], p, by simp [resSem, hlt], hp, hk⟩
  | cell t ty =>
    obtain ⟨x, hx, hk⟩ := aTm_get hk
    have hlt : t < a.tmps.size := by rw [h.len]; exact (List.getElem?_eq_some_iff.1 hx).1
    obtain ⟨b, off, v, y, e, hr, hy, hk⟩ := load_get he h (h.tm t x _ hx (Array.getElem?_eq_getElem hlt)) hk
    obtain ⟨p, hp, hk⟩ := aOutV_get h.ws hy hk
    refine ⟨v, p, ?_, hp, hk⟩
    simp [resSem, hlt, e, asAddr, hr]
theorem aRetMs_get (he : E.Ok) {post : List (Nat × AO)} {Z : Nat → Prop} {ρ : Nat → Value} {a : Act} {w : World} (h : Sim E.W S Z ρ st a w) : ∀ {rs : List ResultVar} {K : List AA → Prop}, aRetMs E st post rs K →
    ∃ (vs : List Value) (ps : List AA), (rs.mapM (resSem a.tmps)).run E.P w = .ok vs w ∧ vs.length = ps.length ∧ (∀ (i : Nat) p u, ps[i]? = some p → vs[i]? = some u → RelV (ZOut Z ρ st.ob post) w ρ p.v u) ∧ ps.length = rs.length ∧ K ps
  | [], K, hk => ⟨[], [], rfl, rfl, by simp, rfl, hk⟩
  | r :: rs, K, hk => by
    obtain ⟨v, p, h1, h2, hk⟩ := aRetM1_get he h hk
    obtain ⟨vs, ps, h3, h4, h5, h6, hk⟩ := aRetMs_get he h (rs := rs) hk
    refine ⟨v :: vs, p :: ps, ?_, by simp [h4], fun i q u h7 h8 => ?_, by simp [h6], hk⟩
    · rw [List.mapM_cons, Sem.run_bind, h1]
      simp only [Result.andThen_ok]
      rw [Sem.run_bind, h3]
      rfl
    · cases i with
      | zero => simp at h7 h8; subst h7 h8; exact h2
      | succ i => exact h5 i q u (by simpa using h7) (by simpa using h8)
theorem aRetM_get (he : E.Ok) {post : List (Nat × AO)} {Z : Nat → Prop} {ρ : Nat → Value} {a : Act} {w : World} (h : Sim E.W S Z ρ st a w) {fn : Func} {K : AR → Prop} (hk : aRetM E st post fn.results.toList K) :
    ∃ v p, (results fn a.tmps).run E.P w = .ok v w ∧ RelV (ZOut Z ρ st.ob post) w ρ p.v v ∧ K p := by
  unfold aRetM at hk
  have hres : ∀ vs : List Value, (fn.results.toList.mapM (resSem a.tmps)).run E.P w = .ok vs w → (results fn a.tmps).run E.P w = .ok (if h : vs.toArray.size = 1 then vs.toArray[0] else .tuple vs.toArray) w := by
    intro vs hvs
    have e : results fn a.tmps = (do let vs ← fn.results.mapM (resSem a.tmps); pure (if h : vs.size = 1 then vs[0] else .tuple vs)) := rfl
    rw [e, Sem.run_bind, Array.mapM_eq_mapM_toList, Sem.run_map, hvs]
    rfl
  split at hk
  · rename_i r hr
    obtain ⟨v, p, h1, h2, hk⟩ := aRetM1_get he h hk
    refine ⟨v, .val p, ?_, h2, hk⟩
    have := hres [v] (by rw [hr, List.mapM_cons, Sem.run_bind, h1]; rfl)
    rw [this]
    rfl
  · rename_i hne
    obtain ⟨vs, ps, h1, h2, h3, h4, hk⟩ := aRetMs_get he h hk
    refine ⟨_, .tup ps, hres vs h1, ?_, hk⟩
    have : ¬ vs.toArray.size = 1 := by
      intro e
      have : fn.results.toList.length = 1 := by simp at e; omega
      obtain ⟨r, hr⟩ := List.length_eq_one_iff.1 this
      exact hne r hr
    rw [dif_neg this]
    refine .tup _ vs (by simp [h2]) fun i x u hx hu => ?_
    rw [List.getElem?_map] at hx
    obtain ⟨p, hp, rfl⟩ := Option.map_eq_some_iff.1 hx
    exact h3 i p u hp hu
end

/-! A contract out of code. -/
def aVofM (p : AA) (K : AV → Prop) : Prop :=
  match p with
  | .one c => K (.one c)
  | .agg cs => K (.agg cs)
theorem aVofM_get {p : AA} {K : AV → Prop} (h : aVofM p K) : K p.v := by cases p <;> exact h
def aInitM : List AA → Nat → (List AV → Prop) → Prop
  | [], n, K => aUnds n K
  | _ :: _, 0, _ => False
  | p :: r, n + 1, K => aVofM p fun v => aInitM r n fun tm => K (v :: tm)
theorem aInitM_get : ∀ {args : List AA} {n : Nat} {K : List AV → Prop}, aInitM args n K → args.length ≤ n ∧ K (args.map AA.v ++ List.replicate (n - args.length) (.one .und))
  | [], n, K, h => ⟨Nat.zero_le _, by simpa using aUnds_get h⟩
  | _ :: _, 0, _, h => h.elim
  | p :: r, n + 1, K, h => by
    obtain ⟨h1, h2⟩ := aInitM_get (args := r) (n := n) (K := fun tm => K (p.v :: tm)) (aVofM_get h)
    refine ⟨by simp; omega, ?_⟩
    simpa [Nat.succ_sub_succ] using h2
def isCells (ob : List (Nat × AO)) (i : Nat) : Bool := match oget ob i with
  | some (.cells _ _) => true
  | _ => false
def noIdA (id : Nat) : AA → Bool
  | .one c => noIdC id c
  | .agg cs => cs.all (noIdC id)
theorem noIdA_v {id : Nat} {a : AA} (h : noIdA id a = true) : noIdV id a.v = true := by cases a <;> exact h
/-- What a contract's lists must be like. -/
def preOk (args : List AA) (pre post : List (Nat × AO)) (keep : List Nat) : Bool :=
  args.all (noIdA 9999) && pre.all (fun p => noIdO 9999 p.2) && !aHasO pre 9999 && keep.all (fun i => isCells pre i && isCells post i)
theorem isCells_get {ob : List (Nat × AO)} {i : Nat} (h : isCells ob i = true) : ∃ t cs, oget ob i = some (.cells t cs) := by
  unfold isCells at h
  split at h
  · rename_i t cs e; exact ⟨t, cs, e⟩
  · cases h
theorem mcall_of {E : AEnv} (he : E.Ok) {f : FuncId} {fn : Func} {c : Code} {n : Nat} {rs : List ResultVar} {args : List AA} {pre post : List (Nat × AO)} {keep : List Nat} {res : AR} (hf : E.P.funcs[f]? = some fn) (hb : fn.body = some c)
    (enter : ∀ (us : Array Value) w, (callFunc f us).run E.P w = .ok (.enter f us) w) (hn : fn.ntmps = n) (hrs : fn.results.toList = rs)
    (hck : preOk args pre post keep = true)
    (h : ∀ S pv, aInitM args n fun tm => AWP E S c (retM E rs post keep pv res) ⟨tm, (9999, .frame (pinsOf keep) pv) :: pre⟩) : MCall E f args pre post keep res := by
  refine ⟨enter, fun Z w ρ us hws hl hr => ?_⟩
  subst hn hrs
  simp only [preOk, Bool.and_eq_true, List.all_eq_true, Bool.not_eq_true'] at hck
  obtain ⟨⟨⟨hna, hnp⟩, hnh⟩, hkk⟩ := hck
  have hp9 := aHasO_no hnh
  obtain ⟨hle, hk⟩ := aInitM_get (h (baseM w Z ρ pre) (keep.map ρ))
  have relV : ∀ {x : AV} {v : Value}, noIdV 9999 x = true → RelV Z w ρ x v → RelV Z w (fun i => if i = 9999 then undef else ρ i) x v := by
    intro x v hn hv
    have := killV_rel (id := 9999) (y := undef) hv
    rwa [noIdV_kill hn] at this
  have hs : Sim E.W (baseM w Z ρ pre) Z (fun i => if i = 9999 then undef else ρ i) ⟨args.map AA.v ++ List.replicate (fn.ntmps - args.length) (.one .und), (9999, .frame (pinsOf keep) (keep.map ρ)) :: pre⟩ { tmps := us.toArray ++ Array.replicate (fn.ntmps - us.toArray.size) undef, defers := [] } w := by
    have key : ∀ id o, oget ((9999, AO.frame (pinsOf keep) (keep.map ρ)) :: pre) id = some o → (id = 9999 ∧ o = .frame (pinsOf keep) (keep.map ρ)) ∨ (id ≠ 9999 ∧ oget pre id = some o) := by
      intro id o ho
      unfold oget at ho
      split at ho
      · rename_i e; subst e; injection ho with ho; exact .inl ⟨rfl, ho.symm⟩
      · rename_i e; exact .inr ⟨fun e' => e e'.symm, ho⟩
    refine ⟨⟨hws.os, hws.tape, hws.output, hws.size, hws.old, hws.zlt, fun id o b ho hb => ?_, fun i j oi oj b hi hj hij hbi hbj => ?_, fun id o ho => ?_, hws.g, hws.z0, hws.znew⟩, by simp [hl], fun i x v hx hv => ?_, rfl⟩
    · rcases key id o ho with ⟨rfl, rfl⟩ | ⟨hne, ho⟩
      · simp only [if_true] at hb; cases hb
      · simp only [if_neg hne] at hb; exact hws.mine id o b ho hb
    · rcases key i oi hi with ⟨rfl, rfl⟩ | ⟨hne, hi⟩
      · simp only [if_true] at hbi; cases hbi
      · rcases key j oj hj with ⟨rfl, rfl⟩ | ⟨hne2, hj⟩
        · simp only [if_true] at hbj; cases hbj
        · simp only [if_neg hne] at hbi
          simp only [if_neg hne2] at hbj
          exact hws.sep i j oi oj b hi hj hij hbi hbj
    · rcases key id o ho with ⟨rfl, rfl⟩ | ⟨hne, ho⟩
      · refine ⟨by simp, by simp [pinsOf], fun i x u hx hu => ?_⟩
        simp only [pinsOf, List.getElem?_map] at hx hu
        obtain ⟨k, hk1, rfl⟩ := Option.map_eq_some_iff.1 hx
        rw [hk1] at hu
        simp only [Option.map_some] at hu
        injection hu with hu
        subst hu
        have hkm := hkk k (List.mem_of_getElem? hk1)
        obtain ⟨t, cs, hc⟩ := isCells_get hkm.1
        obtain ⟨b, us', hp, _⟩ := hws.obj k _ hc
        have hk9 : k ≠ 9999 := by rintro rfl; rw [hp9] at hc; cases hc
        refine .one _ _ ⟨b, by simp only [if_neg hk9]; rw [hp]; rfl, by rw [hp]⟩
      · have := killO_rel (id := 9999) (y := undef) hne (hws.obj id o ho)
        rwa [noIdO_kill (hnp (id, o) (oget_mem ho))] at this
    · simp only at hx hv
      have hv' : (us ++ List.replicate (fn.ntmps - us.length) undef)[i]? = some v := by
        have := hv
        rw [← Array.getElem?_toList] at this
        simpa using this
      by_cases hi : i < us.length
      · rw [List.getElem?_append_left (by simpa [hl] using hi), List.getElem?_map] at hx
        obtain ⟨p, hp, rfl⟩ := Option.map_eq_some_iff.1 hx
        rw [List.getElem?_append_left hi] at hv'
        exact relV (noIdA_v (hna p (List.mem_of_getElem? hp))) (hr i p v hp hv')
      · rw [List.getElem?_append_right (by simp; omega)] at hx
        rw [List.getElem?_append_right (by omega)] at hv'
        have e1 := List.eq_of_mem_replicate (List.mem_of_getElem? hx)
        have e2 := List.eq_of_mem_replicate (List.mem_of_getElem? hv')
        subst e1 e2
        exact .one _ _ (show RelC Z w _ .und undef from rfl)
  refine calls_of_wp hf hb (wp_mono (hk.run _ w ⟨Z, _, hs⟩) fun e a' w' h' => ?_)
  obtain ⟨st', ⟨Z', ρ', hs'⟩, hk'⟩ := h'
  have fin : (aRetM E st' post fn.results.toList fun v => v = res ∧ aHave st'.ob ((9999, .frame (pinsOf keep) (keep.map ρ)) :: post)) → a'.defers = [] ∧ ∃ v, (results fn a'.tmps).run E.P w' = .ok v w' ∧ ∃ v0 Z' ρ', Ending.returned v = .returned v0 ∧ WS E.W (baseM w Z ρ pre) Z' w' ρ' post ∧ (∀ id ∈ keep, ρ' id = ρ id) ∧ RelV Z' w' ρ' res.v v0 := by
    intro hr
    obtain ⟨v, p, h1, h2, h3, h4⟩ := aRetM_get he hs' hr
    subst h3
    have hsub := aHave_get h4
    have hsubp : SubO st'.ob post := by
      obtain ⟨_, _, _, h5⟩ := aOb_get h4
      exact aHave_get h5
    refine ⟨hs'.df, v, h1, v, ZOut Z' ρ' st'.ob post, ρ', rfl, hs'.ws.out hsubp, fun id hid => ?_, h2⟩
    have hkm := hkk id hid
    obtain ⟨t, cs, hc⟩ := isCells_get hkm.1
    obtain ⟨t', cs', hc'⟩ := isCells_get hkm.2
    obtain ⟨b, us1, hp, _⟩ := hws.obj id _ hc
    obtain ⟨b', us2, hp', _⟩ := hs'.ws.obj id _ (hsubp id _ hc')
    obtain ⟨_, hfl, hfr⟩ := hs'.ws.obj 9999 _ (hsub 9999 (.frame (pinsOf keep) (keep.map ρ)) (by simp [oget]))
    obtain ⟨i, hi, hid'⟩ := List.getElem_of_mem hid
    have hx : (pinsOf keep)[i]? = some (.one (.ref id 0 0 0)) := by simp [pinsOf, hi, hid']
    have hu : (keep.map ρ)[i]? = some (ρ id) := by simp [hi, hid']
    cases hfr i _ _ hx hu with
    | one _ _ hrel =>
      obtain ⟨b2, hb2, hv2⟩ := hrel
      rw [hp'] at hb2
      injection hb2 with hb2
      rw [hp', hv2, ← hb2]
  cases e with
  | normal => exact fin hk'
  | ret => exact fin hk'
  | _ => exact hk'.elim
end Go.Proofs.YtlhanpkfnhnegaaDoor
