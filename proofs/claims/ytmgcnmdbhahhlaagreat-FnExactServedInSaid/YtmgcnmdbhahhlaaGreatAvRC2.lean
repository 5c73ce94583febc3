/- Calls that write into one slice of the caller's own, handed to them first. -/
import Derived.Test.YtmgcnmdbhahhlaaGreatJ02
set_option linter.unusedVariables false
set_option linter.unusedSimpArgs false
set_option maxRecDepth 100000
namespace Go.Proofs.YtmgcnmdbhahhlaaGreat
open Go.RowKit

/-- f writes into the slice that it is handed first: it held xs, it holds xs'. -/
structure RCall (E : AEnv) (f : FuncId) (e : TypeId) (s : Nat) (xs xs' : List (List AD)) (ps : List AP1) : Prop where
  enter : ∀ (us : Array Value) w, (callFunc f us).run E.P w = .ok (.enter f us) w
  run : ∀ (Z : Nat → Prop) (w : World) (v : Value) (us : List Value), (∀ b, Z b → b < w.heap.size) → GZ E.W Z w → RelO Z w (fun _ => v) 0 (.row e s xs) → (∀ b, blkOf v = some b → ¬ Z b) → us.length = ps.length → (∀ (i : Nat) p u, ps[i]? = some p → us[i]? = some u → RelP1 Z w p u) →
    Calls E.P f (v :: us).toArray w fun en w' => en = .returned (.tuple #[]) ∧ TurnA (fun b => blkOf v = some b) w w' ∧ RelO Z w' (fun _ => v) 0 (.row e s xs')
theorem WS.turnRow {T : World → Prop} {S : Base} {Z : Nat → Prop} {w w' : World} {ρ : Nat → Value} {ob : List (Nat × AO)} (h : WS T S Z w ρ ob) {id s : Nat} {e : TypeId} {xs xs' : List (List AD)} (ho : oget ob id = some (.row e s xs)) (ht : TurnA (fun b => blkOf (ρ id) = some b) w w')
    (hr : RelO Z w' (fun _ => ρ id) 0 (.row e s xs')) : WS T S Z w' ρ (oset ob id (.row e s xs')) := by
  have hz : ∀ b, Z b → w'.heap[b]? = w.heap[b]? := fun b hb => ht.block b (h.zlt b hb) fun hp => (h.mine id _ b ho hp).1 hb
  have far : ∀ j o b, j ≠ id → oget ob j = some o → blkOf (ρ j) = some b → w'.heap[b]? = w.heap[b]? := fun j o b hj hjo hb => ht.block b (h.lt hjo hb) fun hp => h.sep j id o _ b hjo ho hj hb hp
  have old : ∀ j o1, oget (oset ob id (.row e s xs')) j = some o1 → ∃ o0, oget ob j = some o0 ∧ (j ≠ id → o1 = o0) := by
    intro j o1 h1
    rw [oget_oset] at h1
    split at h1
    · rename_i e; subst e; exact ⟨_, ho, fun h => absurd rfl h⟩
    · exact ⟨o1, h1, fun _ => rfl⟩
  refine ⟨ht.os.trans h.os, ht.tape.trans h.tape, ht.output.trans h.output, Nat.le_trans h.size ht.size, fun b hb hO => ?_, fun b hb => Nat.lt_of_lt_of_le (h.zlt b hb) ht.size, fun j o b hj hb => ?_, fun i j oi oj b hi hj hij hbi hbj => ?_, fun j o hj => ?_, ⟨fun j P Q hj => ?_, fun i j P Q P' Q' hi hj hij => ?_⟩, ?_, h.z0, h.znew⟩
  · refine (ht.block b (Nat.lt_of_lt_of_le hb h.size) fun hp => ?_).trans (h.old b hb hO)
    rcases (h.mine id _ b ho hp).2 with h3 | h3
    · omega
    · exact hO h3
  · obtain ⟨o0, h0, _⟩ := old j o hj
    exact h.mine j o0 b h0 hb
  · obtain ⟨o0, h0, _⟩ := old i oi hi
    obtain ⟨o1, h1, _⟩ := old j oj hj
    exact h.sep i j o0 o1 b h0 h1 hij hbi hbj
  · by_cases hjd : j = id
    · subst hjd
      rw [oget_oset, if_pos rfl] at hj
      injection hj with hj
      subst hj
      exact hr
    · obtain ⟨o0, h0, e⟩ := old j o hj
      rw [e hjd]
      exact (h.obj j o0 h0).mono (fun _ h => h) hz fun b hb => far j o0 b hjd h0 hb
  · have hjd : j ≠ id := by
      rintro rfl
      rw [oget_oset, if_pos rfl] at hj
      cases hj
    obtain ⟨o0, h0, e⟩ := old j _ hj
    have := e hjd
    subst this
    obtain ⟨h1, h2⟩ := h.many.ok j P Q h0
    refine ⟨fun b hb => ⟨Nat.lt_of_lt_of_le (h1 b hb).1 ht.size, (h1 b hb).2.1, (h1 b hb).2.2.1, fun i o hi hbi => ?_⟩, fun w2 hw => h2 w2 fun b hb => (hw b hb).trans (ht.block b (h1 b hb).1 fun hp => (h1 b hb).2.2.2 id _ ho hp)⟩
    obtain ⟨o1, h3, _⟩ := old i o hi
    exact (h1 b hb).2.2.2 i o1 h3 hbi
  · have hid : ∀ k P Q, oget (oset ob id (.row e s xs')) k = some (.many P Q) → oget ob k = some (.many P Q) := by
      intro k P Q hk
      rw [oget_oset] at hk
      split at hk
      · cases hk
      · exact hk
    exact h.many.sep i j P Q P' Q' (hid i P Q hi) (hid j P' Q' hj) hij
  · obtain ⟨w1, g1, g2, g3⟩ := h.g
    exact ⟨w1, g1, ⟨ht.os.trans g2.os, ht.tape.trans g2.tape, ht.output.trans g2.output, Nat.le_trans g2.size ht.size, fun k hk => (hz k (g3 k hk)).trans (g2.block k hk)⟩, g3⟩
section
variable {E : AEnv} {S : Base}
theorem ACall.row {f : FuncId} {rest : List AV} {tm : List AV} {ob : List (Nat × AO)} {K : AV → ASt → Prop} {id s : Nat} {e : TypeId} {xs xs' : List (List AD)} {ps : List AP1} (hc : RCall E f e s xs xs' ps) (hob : aOb ob id fun o => o = .row e s xs) (hps : aPs rest (· = ps))
    (hk : aSetO id (.row e s xs') ob fun ob => K (.tup []) ⟨tm, ob⟩) : ACall E S f (.one (.own id) :: rest) ⟨tm, ob⟩ K := by
  refine ⟨hc.enter, fun Z ρ a w us hs hl hr => ?_⟩
  obtain ⟨o, ho, rfl⟩ := aOb_get hob
  cases us with
  | nil => simp at hl
  | cons v us =>
    have hv : v = ρ id := by
      have := hr 0 _ v rfl rfl
      cases this with | one _ _ h => exact h.1
    subst hv
    have hws0 : WS E.W S Z w ρ [] := hs.ws.sub SubO.nil
    obtain ⟨ps', h1, h2, rfl⟩ := aRs_get (st := ⟨[], []⟩) hws0 (xs := rest) (us := us) (by simpa using hl) (fun i y z h1 h2 => hr (i + 1) y z (by simpa using h1) (by simpa using h2)) (aPs_rs hps)
    have hz0 : ∀ b, ZOwn Z ρ [] b → Z b := by rintro b (hb | ⟨id, o, ho, _⟩); exact hb; cases ho
    refine (hc.run Z w (ρ id) us hs.ws.zlt hs.ws.g (hs.ws.obj id _ ho) (fun b hb => (hs.ws.mine id _ b ho hb).1) h1 fun i p u h3 h4 => (h2 i p u h3 h4).up hz0).mono ?_
    rintro en w' ⟨rfl, ht, hr'⟩
    have hz : ∀ b, Z b → w'.heap[b]? = w.heap[b]? := fun b hb => ht.block b (hs.ws.zlt b hb) fun hp => (hs.ws.mine id _ b ho hp).1 hb
    refine ⟨_, .tup [], ⟨tm, oset ob id (.row e s xs')⟩, Z, ρ, rfl, ⟨hs.ws.turnRow ho ht hr', hs.len, fun i z q hz' hq => (hs.tm i z q hz' hq).mono (fun _ h => h) hz, hs.df⟩, .tup [] [] rfl (by simp), aSetO_get hk⟩
def pinO (v : Value) : AO := .frame [.one (.own 1000)] [v]
def retR (E : AEnv) (rs : List ResultVar) (v : Value) (e : TypeId) (s : Nat) (xs' : List (List AD)) : Exit → ASt → Prop
  | .ret, st => aRet E st rs (· = .tup []) ∧ (aOb st.ob 9999 fun o => o = pinO v) ∧ aOb st.ob 1000 fun o => o = .row e s xs'
  | .normal, st => aRet E st rs (· = .tup []) ∧ (aOb st.ob 9999 fun o => o = pinO v) ∧ aOb st.ob 1000 fun o => o = .row e s xs'
  | _, _ => False
theorem rcall_of (he : E.Ok) {f : FuncId} {fn : Func} {c : Code} {n : Nat} {rs : List ResultVar} {e : TypeId} {s : Nat} {xs xs' : List (List AD)} {ps : List AP1} (hf : E.P.funcs[f]? = some fn) (hb : fn.body = some c)
    (enter : ∀ (us : Array Value) w, (callFunc f us).run E.P w = .ok (.enter f us) w) (hn : fn.ntmps = n) (hrs : fn.results.toList = rs) (hpv : ∀ x ∈ xs', x.all AD.isPv = true)
    (h : ∀ (S : Base) (v : Value), aInit (.one (.pv v) :: ps) n fun tm => AWP E S c (retR E rs v e s xs') ⟨.one (.own 1000) :: tm.tail, [(9999, pinO v), (1000, .row e s xs)]⟩) : RCall E f e s xs xs' ps := by
  refine ⟨enter, fun Z w v us hz hg hrow hnz hl hr => ?_⟩
  subst hn hrs
  obtain ⟨hle, hk⟩ := aInit_get (h ⟨w, fun b => blkOf v = some b, Z⟩ v)
  have h1 : v.oneCell' = true := by
    obtain ⟨us, h0, hl, hxs, hus, hown, hd⟩ := hrow
    have hown : w.ownsRow 0 e s v xs.length us.flatten := hown
    rcases hown.2 with ⟨hv, _⟩ | ⟨g, cap, cur, hv, _⟩ <;> rw [hv] <;> rfl
  have only : ∀ i o, oget [(9999, pinO v), (1000, AO.row e s xs)] i = some o → (i = 9999 ∧ o = pinO v) ∨ (i = 1000 ∧ o = .row e s xs) := by
    intro i o ho
    simp only [oget] at ho
    split at ho
    · rename_i e; injection ho with ho; exact .inl ⟨e.symm, ho.symm⟩
    · split at ho
      · rename_i e; injection ho with ho; exact .inr ⟨e.symm, ho.symm⟩
      · cases ho
  have hws : WS E.W ⟨w, fun b => blkOf v = some b, Z⟩ Z w (fun i => if i = 1000 then v else undef) [(9999, pinO v), (1000, .row e s xs)] := by
    refine ⟨rfl, rfl, rfl, Nat.le_refl _, fun _ _ _ => rfl, hz, fun id o b ho hb => ?_, fun i j oi oj b hi hj hij hbi hbj => ?_, fun id o ho => ?_, Manys.none fun id P Q ho => ?_, hg, fun b hb => hb, fun b hb => .inl hb⟩
    · rcases only id o ho with ⟨rfl, rfl⟩ | ⟨rfl, rfl⟩
      · cases hb
      · exact ⟨hnz b hb, .inr hb⟩
    · rcases only i oi hi with ⟨rfl, rfl⟩ | ⟨rfl, rfl⟩
      · cases hbi
      · rcases only j oj hj with ⟨rfl, rfl⟩ | ⟨rfl, rfl⟩
        · cases hbj
        · exact hij rfl
    · rcases only id o ho with ⟨rfl, rfl⟩ | ⟨rfl, rfl⟩
      · refine ⟨rfl, rfl, fun i x u hx hu => ?_⟩
        cases i with
        | zero => simp at hx hu; subst hx hu; exact .one (.own 1000) _ ⟨rfl, h1⟩
        | succ i => simp at hx
      · exact hrow
    · rcases only id _ ho with ⟨_, e⟩ | ⟨_, e⟩ <;> cases e
  have hs : Sim E.W ⟨w, fun b => blkOf v = some b, Z⟩ Z (fun i => if i = 1000 then v else undef) ⟨AV.one (.own 1000) :: ((AP1.one (.pv v) :: ps).map AP1.v ++ List.replicate (fn.ntmps - (AP1.one (.pv v) :: ps).length) (AV.one .und)).tail, [(9999, pinO v), (1000, .row e s xs)]⟩ { tmps := (v :: us).toArray ++ Array.replicate (fn.ntmps - (v :: us).toArray.size) undef, defers := [] } w := by
    refine ⟨hws, by simp at hle; simp [hl]; try omega, fun i x y hx hy => ?_, rfl⟩
    simp only [List.map_cons, List.cons_append, List.tail_cons] at hx hy
    have hy' : (v :: us ++ List.replicate (fn.ntmps - (v :: us).length) undef)[i]? = some y := by
      rw [← Array.getElem?_toList] at hy
      simpa using hy
    cases i with
    | zero => simp at hx hy'; subst hx hy'; exact .one (.own 1000) _ ⟨rfl, h1⟩
    | succ i =>
      simp only [List.getElem?_cons_succ, List.cons_append] at hx hy'
      by_cases hi : i < us.length
      · rw [List.getElem?_append_left (by simpa [hl] using hi), List.getElem?_map] at hx
        obtain ⟨p, hp, rfl⟩ := Option.map_eq_some_iff.1 hx
        rw [List.getElem?_append_left hi] at hy'
        exact (hr i p y hp hy').v
      · rw [List.getElem?_append_right (by simp; omega)] at hx
        rw [List.getElem?_append_right (by omega)] at hy'
        have e1 := List.eq_of_mem_replicate (List.mem_of_getElem? hx)
        have e2 := List.eq_of_mem_replicate (List.mem_of_getElem? hy')
        subst e1 e2
        exact .one .und _ rfl
  refine calls_of_wp hf hb (wp_mono (hk.run _ w ⟨Z, _, hs⟩) fun en a' w' h' => ?_)
  obtain ⟨st', ⟨Z', ρ', hs'⟩, hk'⟩ := h'
  have fin : (aRet E st' fn.results.toList (· = .tup []) ∧ (aOb st'.ob 9999 fun o => o = pinO v) ∧ aOb st'.ob 1000 fun o => o = .row e s xs') → a'.defers = [] ∧ ∃ y, (results fn a'.tmps).run E.P w' = .ok y w' ∧ Ending.returned y = .returned (.tuple #[]) ∧ TurnA (fun b => blkOf v = some b) w w' ∧ RelO Z w' (fun _ => v) 0 (.row e s xs') := by
    rintro ⟨hr, ho9, ho1⟩
    obtain ⟨y, q, h2, h3, h4⟩ := aRet_get he hs' hr
    subst h4
    obtain ⟨us', rfl, hl', _⟩ := h3
    have hus : us' = [] := List.eq_nil_of_length_eq_zero (by simpa using hl')
    subst hus
    obtain ⟨o, ho9, rfl⟩ := aOb_get ho9
    obtain ⟨o, ho1, rfl⟩ := aOb_get ho1
    have hv : v = ρ' 1000 := by
      have := (show RelO Z' w' ρ' 9999 (pinO v) from hs'.ws.obj 9999 _ ho9).2.2 0 _ v rfl rfl
      cases this with | one _ _ h => exact h.1
    refine ⟨hs'.df, _, h2, rfl, ⟨hs'.ws.os, hs'.ws.tape, hs'.ws.output, hs'.ws.size, fun b hb hp => hs'.ws.old b hb hp⟩, ?_⟩
    obtain ⟨us2, g0, g1, g2, g3, g4, g5⟩ := (show RelO Z' w' ρ' 1000 (.row e s xs') from hs'.ws.obj 1000 _ ho1)
    refine ⟨us2, g0, g1, g2, g3, by rw [hv]; exact g4, fun i j x u a b e1 e2 e3 e4 => ?_⟩
    have hp := List.all_eq_true.1 (hpv x (List.mem_of_getElem? e1)) a (List.mem_of_getElem? e3)
    have := g5 i j x u a b e1 e2 e3 e4
    cases this with
    | pv _ h1 => exact .pv _ h1
    | sl => cases hp
    | x => cases hp
  cases en with
  | normal => exact fin hk'
  | ret => exact fin hk'
  | _ => exact hk'.elim
end
end Go.Proofs.YtmgcnmdbhahhlaaGreat
