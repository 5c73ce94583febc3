/- AvJ3 -/
import Derived.Test.YtcmknngafflcnaaGreatAvJ2
import Derived.LoopN
set_option linter.unusedVariables false
set_option linter.unusedSimpArgs false
set_option maxRecDepth 100000
namespace Go.Proofs.YtcmknngafflcnaaGreat
open Go.RowKit
abbrev dI (n : Int) : AD := .pv (.int .i64 n)
abbrev dB (b : Bool) : AD := .pv (.bool b)
abbrev rB (b : Bool) : AP := .val (.one (dB b))
abbrev rI (n : Int) : AP := .val (.one (dI n))
abbrev pI (n : Int) : AP1 := .one (dI n)
def eI (n : Int) : List AD := [dI n]
abbrev dIs (l : List Int) : AD := .sl (l.map eI)
theorem Br {n : Int} (h0 : -9223372036854775808 ≤ n) (h1 : n ≤ 9223372036854775807) : IntKind.i64.wrap n = n := by rw [IntKind.wrap_i64]; omega
theorem AW.i64 {n : Int} {K : Int → Prop} (h0 : -9223372036854775808 ≤ n) (h1 : n ≤ 9223372036854775807) (h : K n) : AW .i64 n K := ⟨_, Br h0 h1, h⟩
theorem AIx.map {α : Type} {enc : α → List AD} {l : List α} {k : Nat} {K : Nat → List AD → Prop} (hk : k < l.length) (h : K k (enc l[k])) : AIx (l.map enc) (k : Int) K :=
 ⟨k, enc l[k], rfl, by simp [hk], h⟩
theorem AIx.int {α : Type} {enc : α → List AD} {l : List α} {n : Int} {K : Nat → List AD → Prop} (h0 : 0 ≤ n) (hk : n.toNat < l.length) (h : K n.toNat (enc l[n.toNat])) : AIx (l.map enc) n K :=
 ⟨n.toNat, enc l[n.toNat], by omega, by simp [hk], h⟩
theorem AIx.at {xs : List (List AD)} {n : Int} {K : Nat → List AD → Prop} (k : Nat) (x : List AD) (hn : n = (k : Int)) (hx : xs[k]? = some x) (h : K k x) : AIx xs n K := ⟨k, x, hn, hx, h⟩
def zc : List AV → List (Nat × AV) → (List AV → Prop) → Prop
 | tm, [], K => K tm
 | tm, (i, v) :: r, K => iP tm i v fun tm => zc tm r K
def xM : List AV → List Nat → (List AV → Prop) → Prop
 | tm, [], K => K tm
 | tm, i :: r, K => iP tm i (.one .dead) fun tm => xM tm r K
def CI (tm : List AV) (ws : List Nat) (sl : List (Nat × AV)) (K : List AV → Prop) : Prop := xM tm ws fun tm => zc tm sl K
def fC (tm : List AV) (sl : List (Nat × AV)) : List AV := sl.foldl (fun tm p => tm.set p.1 p.2) tm
def B2 (tm : List AV) (ws : List Nat) : List AV := ws.foldl (fun tm i => tm.set i (.one .dead)) tm
theorem wu : ∀ {sl : List (Nat × AV)} {tm : List AV} {K : List AV → Prop}, zc tm sl K → K (fC tm sl)
 | [], _, _, h => h
 | (i, v) :: r, tm, K, h => wu (sl := r) (tm := tm.set i v) (ft (K := fun tm => zc tm r K) h)
theorem tz : ∀ {ws : List Nat} {tm : List AV} {K : List AV → Prop}, xM tm ws K → K (B2 tm ws)
 | [], _, _, h => h
 | i :: r, tm, K, h => tz (ws := r) (tm := tm.set i (.one .dead)) (ft (K := fun tm => xM tm r K) h)
theorem rq {tm : List AV} {ws : List Nat} {sl : List (Nat × AV)} {K : List AV → Prop} (h : CI tm ws sl K) : K (fC (B2 tm ws) sl) := wu (tz (K := fun tm => zc tm sl K) h)
def zg : List AV → List AV → Prop
 | [], [] => True
 | _ :: l, .one .dead :: m => zg l m
 | x :: l, y :: m => x = y ∧ zg l m
 | _, _ => False
theorem ql : ∀ {l m : List AV}, zg l m → kk l m
 | [], [], _ => .nil
 | x :: l, y :: m, h => by
  unfold zg at h
  split at h
  ·cases ‹_ = []›
  ·rename_i e1 e2
   injection e1 with a1 a2
   injection e2 with b1 b2
   subst a1 a2 b1 b2
   exact .cons (.dead _) (ql h)
  ·rename_i e1 e2
   injection e1 with a1 a2
   injection e2 with b1 b2
   subst a1 a2 b1 b2
   obtain ⟨rfl, h⟩ := h
   exact .cons (.refl _) (ql h)
  ·exact h.elim
 | [], _ :: _, h => by unfold zg at h; exact h.elim
 | _ :: _, [], h => by unfold zg at h; exact h.elim
section
variable {E : ba} {S : bt} {K : Exit → ASt → Prop}
structure aF {α : Type} (R : α → Prop) (μ : α → Nat) (x : α) (tm : List AV) (ws : List Nat) (sl : α → List (Nat × AV)) (ob' : α → List (Nat × AO)) (st' : ASt) : Prop where
 h : ∃ y, R y ∧ μ y < μ x ∧ (CI tm ws (sl y) fun tm' => zg st'.tm tm') ∧ ai st'.ob (ob' y)
def H4 {α : Type} (R : α → Prop) (μ : α → Nat) (x : α) (tm : List AV) (ws : List Nat) (sl : α → List (Nat × AV)) (ob' : α → List (Nat × AO)) (K : Exit → ASt → Prop) : Exit → ASt → Prop
 | .normal, st' => aF R μ x tm ws sl ob' st'
 | e, st' => K e st'
theorem AWP.loopS {α : Type} (R : α → Prop) (ws : List Nat) (sl : α → List (Nat × AV)) (ob' : α → List (Nat × AO)) (μ : α → Nat) (x0 : α) {c : Code} {tm : List AV} {ob : List (Nat × AO)} (h0 : R x0)
  (hsub : CI tm ws (sl x0) fun tm' => zg tm tm') (hob : ai ob (ob' x0))
  (round : ∀ x, R x → CI tm ws (sl x) fun tm' => AWP E S c (H4 R μ x tm ws sl ob' K) ⟨tm', ob' x⟩) : AWP E S (.loop c) K ⟨tm, ob⟩ := by
 refine AWP.loop R (fun x => ⟨fC (B2 tm ws) (sl x), ob' x⟩) μ x0 h0 (ql (rq hsub)) hob fun x hx => ?_
 have h := rq (round x hx)
 refine ⟨fun a w hs => wp_mono (h.run a w hs) fun e a' w' h' => ?_⟩
 obtain ⟨st', hs', hk⟩ := h'
 refine ⟨st', hs', ?_⟩
 cases e with
 | normal =>
  obtain ⟨y, hy, hlt, h1, h2⟩ := (show aF R μ x tm ws sl ob' st' from hk).h
  exact ⟨y, hy, hlt, ql (rq h1), h2⟩
 | _ => exact hk
end
theorem ari {p : Prop} (h : p := by simp only [decide_eq_true_eq, decide_eq_false_iff_not, List.length_map, Bool.not_eq_true', Bool.not_eq_false'] at *; omega) : p := h
theorem rr {p : Prop} (h : p := by first | exact trivial | with_reducible_and_instances rfl | exact (rfl : AP.tup _ = AP.tup _)) : p := h
theorem whd {p : Prop} (h : p := by repeat' (first | exact trivial | (refine ⟨rfl, ?_⟩; conv => whnf))) : p := h
theorem hds {p : Prop} (h : p := by (conv => whnf); exact whd) : p := h
end Go.Proofs.YtcmknngafflcnaaGreat
namespace Go.Proofs.YtcmknngafflcnaaGreat
open Go.RowKit
def xT (l : List Nat) : List Nat → List Nat
 | [] => l
 | x :: r => xT (if l.contains x then l else x :: l) r
def kq (o : Oper) : List Nat := (o.after.toList.filter (Region.binds .any)).map (·.on)
def yd (D : List (List Nat)) : List Nat → List Nat → List Nat
 | [], acc => acc
 | e :: r, acc => yd D r (xT (xT acc [e]) (D.getD e []))
def iE : List (List Nat) → List Oper → List (List Nat)
 | D, [] => D
 | D, o :: r => iE (D ++ [yd D (kq o) []]) r
theorem p6 {x : Nat} : ∀ {r l : List Nat}, x ∈ xT l r → x ∈ l ∨ x ∈ r
 | [], l, h => .inl h
 | y :: r, l, h => by
  rcases p6 (r := r) h with h | h
  ·split at h
   ·exact .inl h
   ·rcases List.mem_cons.1 h with rfl | h
    ·exact .inr (by simp)
    ·exact .inl h
  ·exact .inr (by simp [h])
theorem uO {D : List (List Nat)} {x : Nat} : ∀ {es acc : List Nat}, x ∈ yd D es acc → x ∈ acc ∨ ∃ e ∈ es, x = e ∨ x ∈ D.getD e []
 | [], acc, h => .inl h
 | e :: r, acc, h => by
  rcases uO (es := r) h with h | ⟨e', he, h⟩
  ·rcases p6 h with h | h
   ·rcases p6 h with h | h
    ·exact .inl h
    ·exact .inr ⟨e, by simp, .inl (by simpa using h)⟩
   ·exact .inr ⟨e, by simp, .inr h⟩
  ·exact .inr ⟨e', by simp [he], h⟩
def cn (ops : List Oper) (i : Nat) : List Nat := match ops[i]? with | some o => kq o | none => []
theorem jq (ops : List Oper) (T : Nat → Prop) (hT : ∀ j, T j → ∀ e ∈ cn ops j, T e) : ∀ (rest : List Oper) (D : List (List Nat)), (∀ k, ops[D.length + k]? = rest[k]?) →
  (∀ j, j < D.length → (∀ e ∈ cn ops j, T e) → ∀ x ∈ D.getD j [], T x) → ∀ j, (∀ e ∈ cn ops j, T e) → ∀ x ∈ (iE D rest).getD j [], T x
 | [], D, _, hD, j, hj, x, hx => by
  by_cases h : j < D.length
  ·exact hD j h hj x hx
  ·simp [iE, List.getD, List.getElem?_eq_none (Nat.le_of_not_lt h)] at hx
 | o :: r, D, ho, hD, j, hj, x, hx => by
  refine jq ops T hT r (D ++ [yd D (kq o) []]) (fun k => ?_) (fun i hi hai y hy => ?_) j hj x hx
  ·have := ho (k + 1)
   simpa [Nat.add_assoc, Nat.add_comm 1 k] using this
  ·by_cases h : i < D.length
   ·refine hD i h hai y ?_
    simpa [List.getD, List.getElem?_append_left h] using hy
   ·have hi' : i = D.length := by simp at hi; omega
    subst hi'
    simp [List.getD] at hy
    rcases uO hy with h0 | ⟨e, he, h0⟩
    ·cases h0
    ·have hae : cn ops D.length = kq o := by
      have := ho 0
      simp only [Nat.add_zero, List.getElem?_cons_zero] at this
      simp [cn, this]
     have hTe : T e := hai e (by rw [hae]; exact he)
     rcases h0 with rfl | h0
     ·exact hTe
     ·by_cases hel : e < D.length
      ·exact hD e hel (fun e' he' => hT e hTe e' he') y (by simpa [List.getD] using h0)
      ·simp [List.getElem?_eq_none (Nat.le_of_not_lt hel)] at h0
theorem ka : ∀ (ups : List (Nat × AV)) (tm : List AV), (ups.map (·.1)).Nodup → (fC tm ups).length = tm.length ∧ ∀ s : Nat, (fC tm ups)[s]? = match ups.find? (fun p => p.1 == s) with
  | some p => if s < tm.length then some p.2 else none
  | none => tm[s]?
 | [], tm, _ => ⟨rfl, fun s => rfl⟩
 | (i, v) :: r, tm, hn => by
  obtain ⟨hi, hr⟩ := List.nodup_cons.1 (by rw [List.map_cons] at hn; exact hn)
  obtain ⟨h1, h2⟩ := ka r (tm.set i v) hr
  refine ⟨by simpa [fC] using h1, fun s => ?_⟩
  have e : fC tm ((i, v) :: r) = fC (tm.set i v) r := rfl
  rw [e, h2 s]
  by_cases his : i = s
  ·subst his
   have hf : r.find? (fun p => p.1 == i) = none := by
    rw [List.find?_eq_none]
    intro p hp
    simp only [beq_iff_eq]
    rintro rfl
    exact hi (List.mem_map.2 ⟨p, hp, rfl⟩)
   simp only [hf, List.find?_cons, beq_self_eq_true]
   rw [List.getElem?_set, if_pos rfl]
  ·have hb : ((i, v).1 == s) = false := by simp [his]
   simp only [List.find?_cons, hb]
   cases r.find? (fun p => p.1 == s) with
   | some p => simp
   | none => simp [List.getElem?_set_ne his]
theorem vu {ups : List (Nat × AV)} {tm : List AV} (hn : (ups.map (·.1)).Nodup) {s : Nat} {v : AV} (h : (s, v) ∈ ups) (hs : s < tm.length) : (fC tm ups)[s]? = some v := by
 rw [(ka ups tm hn).2 s]
 have : ups.find? (fun p => p.1 == s) = some (s, v) := by
  induction ups with
  | nil => cases h
  | cons p r ih =>
   obtain ⟨hi, hr⟩ := List.nodup_cons.1 (by rw [List.map_cons] at hn; exact hn)
   rw [List.find?_cons]
   rcases List.mem_cons.1 h with h | h
   ·subst h; simp
   ·have hb : (p.1 == s) = false := by
     simp only [beq_eq_false_iff_ne]
     rintro rfl
     exact hi (List.mem_map.2 ⟨_, h, rfl⟩)
    rw [hb]
    exact ih hr h
 rw [this]
 simp [hs]
theorem rL {ups : List (Nat × AV)} {tm : List AV} (hn : (ups.map (·.1)).Nodup) {s : Nat} (h : ∀ p ∈ ups, p.1 ≠ s) : (fC tm ups)[s]? = tm[s]? := by
 rw [(ka ups tm hn).2 s]
 have : ups.find? (fun p => p.1 == s) = none := by
  rw [List.find?_eq_none]
  intro p hp
  simpa using h p hp
 rw [this]
theorem kk.of_get : ∀ {l m : List AV}, l.length = m.length → (∀ (s : Nat) x y, l[s]? = some x → m[s]? = some y → Es x y) → kk l m
 | [], [], _, _ => .nil
 | x :: l, y :: m, hl, h => .cons (h 0 x y rfl rfl) (kk.of_get (by simpa using hl) fun s u v hu hv => h (s + 1) u v (by simpa using hu) (by simpa using hv))
 | [], _ :: _, hl, _ => by simp at hl
 | _ :: _, [], hl, _ => by simp at hl
section
variable (ops : List Oper) (D : List (List Nat)) (R : List (AV × Option AO)) (n0 : Nat)
def dAt (j : Nat) : Nat := match ops[j]? with | some o => o.dst.getD 0 | none => 0
def vAt (j : Nat) : AV := (R.getD j (.one .dead, none)).1
def oAt (j : Nat) : Option AO := (R.getD j (.one .dead, none)).2
def inD (i j : Nat) : Bool := (D.getD j []).contains i
def upS (listed : Nat → Bool) (j : Nat) : Option (Nat × AV) := if listed j then some (dAt ops j, vAt R j) else none
def upP (i j : Nat) : Option (Nat × AV) := if inD D j i then some (dAt ops j, vAt R j) else if inD D i j || Nat.beq j i then none else some (dAt ops j, .one .dead)
def obF (listed : Nat → Bool) (j : Nat) : Option (Nat × AO) := if listed j then (oAt R j).map fun o => (dAt ops j, o) else none
def stS (st0 : ASt) (listed : Nat → Bool) : ASt := ⟨fC st0.tm ((List.range n0).filterMap (upS ops R listed)), (List.range n0).filterMap (obF ops R listed) ++ st0.ob⟩
def stP (st0 : ASt) (i : Nat) : ASt := ⟨fC st0.tm ((List.range n0).filterMap (upP ops D R i)), (List.range n0).filterMap (obF ops R fun j => inD D j i) ++ st0.ob⟩
end
theorem eX {α : Type} {d : Nat → Nat} {f : Nat → Option (Nat × α)} (hf : ∀ j p, f j = some p → p.1 = d j) : ∀ {l : List Nat}, (l.map d).Nodup → ((l.filterMap f).map (·.1)).Nodup
 | [], _ => List.nodup_nil
 | j :: r, h => by
  obtain ⟨hi, hr⟩ := List.nodup_cons.1 (by rw [List.map_cons] at h; exact h)
  rw [List.filterMap_cons]
  split
  ·exact eX hf hr
  ·rename_i p hp
   rw [List.map_cons, List.nodup_cons]
   refine ⟨fun hm => hi ?_, eX hf hr⟩
   obtain ⟨q, hq, e⟩ := List.mem_map.1 hm
   obtain ⟨k, hk, hfk⟩ := List.mem_filterMap.1 hq
   rw [hf j p hp, hf k q hfk] at e
   exact List.mem_map.2 ⟨k, hk, e⟩
theorem zw {d : Nat → Nat} {n j k : Nat} (h : ((List.range n).map d).Nodup) (hj : j < n) (hk : k < n) (e : d j = d k) : j = k := by
 have h1 : ((List.range n).map d)[j]? = some (d j) := by simp [hj]
 have h2 : ((List.range n).map d)[k]? = some (d j) := by simp [hk, e]
 exact (List.getElem?_inj (by simpa using hj) h).1 (h1.trans h2.symm)
theorem Ay {l m : List (Nat × AO)} {id : Nat} : bg (l ++ m) id = match bg l id with | some o => some o | none => bg m id := by
 induction l with
 | nil => rfl
 | cons p r ih =>
  obtain ⟨k, o⟩ := p
  simp only [List.cons_append, bg]
  split
  ·rfl
  ·exact ih
theorem Gp {d : Nat → Nat} {f : Nat → Option (Nat × AO)} (hf : ∀ j p, f j = some p → p.1 = d j) {n : Nat} (hd : ((List.range n).map d).Nodup) {id : Nat} {o : AO} : bg ((List.range n).filterMap f) id = some o ↔ ∃ j, j < n ∧ f j = some (id, o) := by
 have key : ∀ l : List Nat, (∀ j ∈ l, j < n) → l.Nodup → (bg (l.filterMap f) id = some o ↔ ∃ j ∈ l, f j = some (id, o)) := by
  intro l
  induction l with
  | nil => intro _ _; simp [bg]
  | cons j r ih =>
   intro hl hn
   obtain ⟨hjr, hnr⟩ := List.nodup_cons.1 hn
   have ih' := ih (fun k hk => hl k (by simp [hk])) hnr
   rw [List.filterMap_cons]
   split
   ·rename_i hj
    rw [ih']
    constructor
    ·rintro ⟨k, hk, e⟩; exact ⟨k, by simp [hk], e⟩
    ·rintro ⟨k, hk, e⟩
     rcases List.mem_cons.1 hk with rfl | hk
     ·rw [hj] at e; cases e
     ·exact ⟨k, hk, e⟩
   ·rename_i p hj
    obtain ⟨k0, o0⟩ := p
    simp only [bg]
    have hk0 := hf j _ hj
    simp only at hk0
    by_cases hid : k0 = id
    ·rw [if_pos hid]
     constructor
     ·intro e; injection e with e; subst e hid; exact ⟨j, by simp, hj⟩
     ·rintro ⟨k, hk, e⟩
      rcases List.mem_cons.1 hk with rfl | hk
      ·rw [hj] at e; injection e with e; injection e with _ e; rw [e]
      ·have h1 := hf k _ e
       simp only at h1
       have : j = k := zw hd (hl j (by simp)) (hl k (by simp [hk])) (by rw [← hk0, ← h1, hid])
       subst this
       exact absurd hk hjr
    ·rw [if_neg hid, ih']
     constructor
     ·rintro ⟨k, hk, e⟩; exact ⟨k, by simp [hk], e⟩
     ·rintro ⟨k, hk, e⟩
      rcases List.mem_cons.1 hk with rfl | hk
      ·rw [hj] at e; injection e with e; injection e with e _; exact absurd e hid
      ·exact ⟨k, hk, e⟩
 rw [key _ (fun j hj => List.mem_range.1 hj) List.nodup_range]
 simp [List.mem_range]
def uU (id : Nat) : AV → Bool
 | .one c => pF id c
 | .agg cs => cs.all (pF id)
 | .tup _ => false
def Aw (id : Nat) : AO → Bool
 | .cells _ cs => cs.all (pF id)
 | .row _ _ _ => true
 | .frame vs _ => vs.all (uU id)
 | .any _ => true
 | .many _ _ => true
theorem ll {id : Nat} {c : AC} (h : pF id c = true) : eY id c = c := by
 cases c with
 | own i => simp only [pF, Bool.not_eq_true'] at h; simp only [eY]; rw [if_neg (Nat.ne_of_beq_eq_false h)]
 | ref i k s off => simp only [pF, Bool.not_eq_true'] at h; simp only [eY]; rw [if_neg (Nat.ne_of_beq_eq_false h)]
 | _ => rfl
theorem sx {id : Nat} {cs : List AC} (h : cs.all (pF id) = true) : cs.map (eY id) = cs := by
 induction cs with
 | nil => rfl
 | cons c r ih =>
  simp only [List.all_cons, Bool.and_eq_true] at h
  rw [List.map_cons, ll h.1, ih h.2]
theorem p7 {id : Nat} {x : AV} (h : uU id x = true) : lH id x = x := by
 cases x with
 | one c => simp only [lH]; rw [ll h]
 | agg cs => simp only [lH]; rw [sx h]
 | tup vs => cases h
theorem uT {id : Nat} {o : AO} (h : Aw id o = true) : lG id o = o := by
 cases o with
 | cells t cs => simp only [lG]; rw [sx h]
 | row e s xs => rfl
 | frame vs us =>
  have : vs.map (lH id) = vs := by
   have h' : vs.all (uU id) = true := h
   clear h
   induction vs with
   | nil => rfl
   | cons x r ih =>
    simp only [List.all_cons, Bool.and_eq_true] at h'
    rw [List.map_cons, p7 h'.1, ih h'.2]
  simp only [lG]; rw [this]
 | any Q => rfl
 | many P Q => rfl
def iN (E : ba) (S : bt) (o : Oper) (P : ASt) (v : AV) (oo : Option AO) : Prop :=
 ∀ Z ρ a w, Sim E.W S Z ρ P a w → ∀ (Kont : Act → World → Prop) Q,
  (∀ v' w' Z' ρ', w.grownBy w' none → (∀ b, Z b → Z' b) → (∀ b, Z' b → Z b ∨ (w.heap.size ≤ b ∧ b < w'.heap.size)) → bM Z' w' ρ' v v' →
   (match oo with
    | none => ρ' = ρ
    | some ob => ∃ d, o.dst = some d ∧ ρ' = (fun i => if i = d then v' else ρ i) ∧ (∀ b, aZ v' = some b → w.heap.size ≤ b) ∧ cw Z' w' ρ' d ob ∧ Z' = Z) → Kont (a.put o.dst v') w') → Oper.wp E.P o a w Kont Q
section
variable {E : ba} {S : bt} {ops : List Oper} {R : List (AV × Option AO)} {n0 : Nat} {st0 : ASt}
theorem yV {listed : Nat → Bool} (j : Nat) (p : Nat × AV) (h : upS ops R listed j = some p) : p.1 = dAt ops j := by unfold upS at h; split at h <;> first | (injection h with h; subst h; rfl) | cases h
theorem lB {D : List (List Nat)} {i : Nat} (j : Nat) (p : Nat × AV) (h : upP ops D R i j = some p) : p.1 = dAt ops j := by
 unfold upP at h
 split at h
 ·injection h with h; subst h; rfl
 ·split at h
  ·cases h
  ·injection h with h; subst h; rfl
theorem Gn {listed : Nat → Bool} (j : Nat) (p : Nat × AO) (h : obF ops R listed j = some p) : p.1 = dAt ops j := by
 unfold obF at h
 split at h
 ·obtain ⟨o, _, rfl⟩ := Option.map_eq_some_iff.1 h; rfl
 ·cases h
theorem ls (hd : ((List.range n0).map (dAt ops)).Nodup) {listed : Nat → Bool} {j : Nat} (hj : j < n0) (hl : listed j = true) (hs : dAt ops j < st0.tm.length) : (stS ops R n0 st0 listed).tm[dAt ops j]? = some (vAt R j) :=
 vu (eX yV hd) (List.mem_filterMap.2 ⟨j, List.mem_range.2 hj, by simp [upS, hl]⟩) hs
theorem vK (hd : ((List.range n0).map (dAt ops)).Nodup) {listed : Nat → Bool} {s : Nat} (h : ∀ j, j < n0 → listed j = true → dAt ops j ≠ s) : (stS ops R n0 st0 listed).tm[s]? = st0.tm[s]? := by
 refine rL (eX yV hd) fun p hp => ?_
 obtain ⟨j, hj, hf⟩ := List.mem_filterMap.1 hp
 unfold upS at hf
 split at hf
 ·rename_i hl
  injection hf with hf
  subst hf
  exact h j (List.mem_range.1 hj) hl
 ·cases hf
theorem lu (hd : ((List.range n0).map (dAt ops)).Nodup) {listed : Nat → Bool} : (stS ops R n0 st0 listed).tm.length = st0.tm.length := (ka _ _ (eX yV hd)).1
theorem fm (hd : ((List.range n0).map (dAt ops)).Nodup) {listed : Nat → Bool} {id : Nat} {o : AO} : bg (stS ops R n0 st0 listed).ob id = some o ↔ (∃ j, j < n0 ∧ listed j = true ∧ dAt ops j = id ∧ oAt R j = some o) ∨ ((∀ j, j < n0 → listed j = true → dAt ops j = id → oAt R j = none) ∧ bg st0.ob id = some o) := by
 have h0 : ∀ o, bg ((List.range n0).filterMap (obF ops R listed)) id = some o ↔ ∃ j, j < n0 ∧ listed j = true ∧ dAt ops j = id ∧ oAt R j = some o := by
  intro o
  rw [Gp Gn hd]
  constructor
  ·rintro ⟨j, hj, hf⟩
   unfold obF at hf
   split at hf
   ·rename_i hl
    obtain ⟨o', ho', e⟩ := Option.map_eq_some_iff.1 hf
    injection e with e1 e2
    exact ⟨j, hj, hl, e1, e2 ▸ ho'⟩
   ·cases hf
  ·rintro ⟨j, hj, hl, e, ho⟩
   exact ⟨j, hj, by simp [obF, hl, ho, e]⟩
 show bg (_ ++ _) id = some o ↔ _
 rw [Ay]
 cases hg : bg ((List.range n0).filterMap (obF ops R listed)) id with
 | some o' =>
  obtain ⟨j, hj, hl, e, ho⟩ := (h0 o').1 hg
  simp only
  constructor
  ·intro e'; injection e' with e'; subst e'; exact .inl ⟨j, hj, hl, e, ho⟩
  ·rintro (h | ⟨h, _⟩)
   ·have := (h0 o).2 h; rw [hg] at this; exact this
   ·have := h j hj hl e; rw [ho] at this; cases this
 | none =>
  simp only
  constructor
  ·intro e'
   refine .inr ⟨fun j hj hl e => ?_, e'⟩
   cases ho : oAt R j with
   | none => rfl
   | some o' => have := (h0 o').2 ⟨j, hj, hl, e, ho⟩; rw [hg] at this; cases this
  ·rintro (h | ⟨_, h⟩)
   ·have := (h0 o).2 h; rw [hg] at this; cases this
   ·exact h
end
end Go.Proofs.YtcmknngafflcnaaGreat
namespace Go.Proofs.YtcmknngafflcnaaGreat
open Go.RowKit
section
variable {E : ba} {S : bt} {ops : List Oper} {D : List (List Nat)} {R : List (AV × Option AO)} {n0 : Nat} {st0 : ASt}
theorem HR (hd : ((List.range n0).map (dAt ops)).Nodup) {i j : Nat} (hj : j < n0) (hs : dAt ops j < st0.tm.length) :
  (stP ops D R n0 st0 i).tm[dAt ops j]? = if inD D j i then some (vAt R j) else if inD D i j || Nat.beq j i then st0.tm[dAt ops j]? else some (.one .dead) := by
 by_cases h1 : inD D j i = true
 ·rw [if_pos h1]
  exact vu (eX lB hd) (List.mem_filterMap.2 ⟨j, List.mem_range.2 hj, by simp [upP, h1]⟩) hs
 ·rw [if_neg h1]
  by_cases h2 : (inD D i j || Nat.beq j i) = true
  ·rw [if_pos h2]
   refine rL (eX lB hd) fun p hp e => ?_
   obtain ⟨k, hk, hf⟩ := List.mem_filterMap.1 hp
   have e2 := lB k p hf
   have : k = j := zw hd (List.mem_range.1 hk) hj (by rw [← e2, e])
   subst this
   unfold upP at hf
   rw [if_neg h1, if_pos h2] at hf
   cases hf
  ·rw [if_neg h2]
   exact vu (eX lB hd) (List.mem_filterMap.2 ⟨j, List.mem_range.2 hj, by unfold upP; rw [if_neg h1, if_neg h2]⟩) hs
theorem HS (hd : ((List.range n0).map (dAt ops)).Nodup) {i s : Nat} (h : ∀ j, j < n0 → dAt ops j ≠ s) : (stP ops D R n0 st0 i).tm[s]? = st0.tm[s]? := by
 refine rL (eX lB hd) fun p hp => ?_
 obtain ⟨j, hj, hf⟩ := List.mem_filterMap.1 hp
 rw [lB j p hf]
 exact h j (List.mem_range.1 hj)
theorem Dc (hd : ((List.range n0).map (dAt ops)).Nodup) (hlen : ∀ j, j < n0 → dAt ops j < st0.tm.length) (hob : ∀ j, j < n0 → oAt R j ≠ none → bg st0.ob (dAt ops j) = none) {listed : Nat → Bool} {i : Nat}
  (hli : listed i = false) (hD : ∀ j, j < n0 → inD D j i = true → listed j = true) (hA : ∀ j, j < n0 → inD D i j = true → listed j = false) :
  kk (stS ops R n0 st0 listed).tm (stP ops D R n0 st0 i).tm ∧ ai (stS ops R n0 st0 listed).ob (stP ops D R n0 st0 i).ob := by
 constructor
 ·refine kk.of_get (by rw [lu hd]; exact (ka _ _ (eX lB hd)).1.symm) fun s x y hx hy => ?_
  by_cases hs : ∃ j, j < n0 ∧ dAt ops j = s
  ·obtain ⟨j, hj, rfl⟩ := hs
   rw [HR hd hj (hlen j hj)] at hy
   have un : listed j = false → (stS ops R n0 st0 listed).tm[dAt ops j]? = st0.tm[dAt ops j]? := fun hl => vK hd fun k hk hkl e => by
    have := zw hd hk hj e
    subst this
    rw [hl] at hkl
    cases hkl
   split at hy
   ·rename_i h1
    rw [ls hd hj (hD j hj h1) (hlen j hj)] at hx
    injection hx with hx
    injection hy with hy
    rw [← hx, ← hy]
    exact .refl _
   ·split at hy
    ·rename_i h1 h2
     have hl : listed j = false := by
      simp only [Bool.or_eq_true] at h2
      rcases h2 with h2 | h2
      ·exact hA j hj h2
      ·rw [Nat.eq_of_beq_eq_true h2]; exact hli
     rw [un hl, hy] at hx
     injection hx with hx
     rw [hx]
     exact .refl _
    ·injection hy with hy
     subst hy
     exact .dead _
  ·have h : ∀ j, j < n0 → dAt ops j ≠ s := fun j hj e => hs ⟨j, hj, e⟩
   rw [vK hd fun j hj _ => h j hj] at hx
   rw [HS hd h, hx] at hy
   injection hy with hy
   rw [hy]
   exact .refl _
 ·intro id o ho
  have e : (stP ops D R n0 st0 i).ob = (stS ops R n0 st0 fun j => inD D j i).ob := rfl
  rw [e, fm hd] at ho
  rw [fm hd]
  rcases ho with ⟨j, hj, h1, h2, h3⟩ | ⟨h1, h2⟩
  ·exact .inl ⟨j, hj, hD j hj h1, h2, h3⟩
  ·refine .inr ⟨fun j hj hl e => ?_, h2⟩
   cases ho : oAt R j with
   | none => rfl
   | some o' =>
    have := hob j hj (by rw [ho]; simp)
    rw [e, h2] at this
    cases this
structure DBase (ops : List Oper) (D : List (List Nat)) (R : List (AV × Option AO)) (n0 : Nat) (st0 : ASt) : Prop where
 le : n0 ≤ ops.length
 nd : ((List.range n0).map (dAt ops)).Nodup
 dst : ∀ i o, i < n0 → ops[i]? = some o → o.dst = some (dAt ops i)
 len : ∀ j, j < n0 → dAt ops j < st0.tm.length
 ob : ∀ j, j < n0 → oAt R j ≠ none → bg st0.ob (dAt ops j) = none
 noV : ∀ i, i < n0 → oAt R i ≠ none → (∀ x ∈ st0.tm, uU (dAt ops i) x = true) ∧ ∀ p ∈ st0.ob, Aw (dAt ops i) p.2 = true
 noR : ∀ i j, i < n0 → j < n0 → oAt R i ≠ none → inD D i j = false → j ≠ i → uU (dAt ops i) (vAt R j) = true ∧ ∀ o, oAt R j = some o → Aw (dAt ops i) o = true
def ew (E : ba) (S : bt) (D : List (List Nat)) (R : List (AV × Option AO)) (n0 : Nat) (P : ASt) (i : Nat) (o : Oper) : Prop := match o.guard with
  | none => iN E S o P (vAt R i) (oAt R i)
  | some (g, want) => g < n0 ∧ inD D g i = true ∧ ((∃ p, vAt R g = vB p ∧ ((p = want ∧ iN E S o P (vAt R i) (oAt R i)) ∨ (p ≠ want ∧ vAt R i = .one .und ∧ oAt R i = none))) ∨ (vAt R g = .one .und ∧ vAt R i = .one .und ∧ oAt R i = none))
structure pO (E : ba) (S : bt) (ops : List Oper) (D : List (List Nat)) (R : List (AV × Option AO)) (n0 : Nat) (st0 : ASt) : Prop extends DBase ops D R n0 st0 where
 out : ∀ i o, i < n0 → ops[i]? = some o → ew E S D R n0 (stP ops D R n0 st0 i) i o
theorem E9 {l : List (Nat × AO)} {id : Nat} {o : AO} (h : bg l id = some o) : (id, o) ∈ l := by
 induction l with
 | nil => cases h
 | cons p r ih =>
  obtain ⟨k, x⟩ := p
  simp only [bg] at h
  split at h
  ·rename_i e; injection h with h; subst e h; simp
  ·exact List.mem_cons_of_mem _ (ih h)
theorem t6 (F : DBase ops D R n0 st0) {listed : Nat → Bool} {i : Nat} {o : Oper} (hi : i < n0) (ho : ops[i]? = some o) (hA : ∀ j, j < n0 → inD D i j = true → listed j = false) (hli : listed i = false)
  {Z Z' : Nat → Prop} {ρ ρ' : Nat → Value} {a : Act} {w w' : World} {v' : Value} (hs : Sim E.W S Z ρ (stS ops R n0 st0 listed) a w)
  (hg : w.grownBy w' none) (hz : ∀ b, Z b → Z' b) (hz2 : ∀ b, Z' b → Z b ∨ (w.heap.size ≤ b ∧ b < w'.heap.size)) (hv : bM Z' w' ρ' (vAt R i) v')
  (hoo : match oAt R i with
    | none => ρ' = ρ
    | some ob => ∃ d, o.dst = some d ∧ ρ' = (fun i => if i = d then v' else ρ i) ∧ (∀ b, aZ v' = some b → w.heap.size ≤ b) ∧ cw Z' w' ρ' d ob ∧ Z' = Z) :
  cL E.W S (stS ops R n0 st0 fun j => listed j || Nat.beq j i) (a.put o.dst v') w' := by
 have hdst := F.dst i o hi ho
 have hnd := F.nd
 have slot : ∀ s, s ≠ dAt ops i → (stS ops R n0 st0 fun j => listed j || Nat.beq j i).tm[s]? = (stS ops R n0 st0 listed).tm[s]? := by
  intro s hne
  by_cases hex : ∃ j, j < n0 ∧ listed j = true ∧ dAt ops j = s
  ·obtain ⟨j, hj, hl, rfl⟩ := hex
   rw [ls hnd hj (by simp [hl]) (F.len j hj), ls hnd hj hl (F.len j hj)]
  ·rw [vK hnd fun j hj hl e => ?_, vK hnd fun j hj hl e => hex ⟨j, hj, hl, e⟩]
   simp only [Bool.or_eq_true] at hl
   rcases hl with hl | hl
   ·exact hex ⟨j, hj, hl, e⟩
   ·exact hne (by rw [← e, Nat.eq_of_beq_eq_true hl])
 have slotI : (stS ops R n0 st0 fun j => listed j || Nat.beq j i).tm[dAt ops i]? = some (vAt R i) := ls hnd hi (by simp) (F.len i hi)
 cases ho' : oAt R i with
 | none =>
  rw [ho'] at hoo
  have hoo : ρ' = ρ := hoo
  subst hoo
  have h1 := (hs.grow hg hz hz2).put o.dst hv
  refine ⟨Z', ρ', h1.sub (kk.of_get ?_ fun s x y hx hy => ?_) fun id ob hob => ?_⟩
  ·rw [hdst]; simp [AI, lu hnd]
  ·rw [hdst] at hx
   simp only [AI, List.getElem?_set] at hx
   by_cases hsd : dAt ops i = s
   ·subst hsd
    rw [slotI] at hy
    rw [if_pos rfl, lu hnd, if_pos (F.len i hi)] at hx
    injection hx with hx
    injection hy with hy
    rw [← hx, ← hy]
    exact .refl _
   ·rw [if_neg hsd] at hx
    rw [slot s (fun e => hsd e.symm), hx] at hy
    injection hy with hy
    rw [hy]
    exact .refl _
  ·rw [fm hnd] at hob
   show bg (stS ops R n0 st0 listed).ob id = some ob
   rw [fm hnd]
   rcases hob with ⟨j, hj, hl, e, h⟩ | ⟨h, hb⟩
   ·simp only [Bool.or_eq_true] at hl
    rcases hl with hl | hl
    ·exact .inl ⟨j, hj, hl, e, h⟩
    ·rw [Nat.eq_of_beq_eq_true hl, ho'] at h; cases h
   ·exact .inr ⟨fun j hj hl e => h j hj (by simp [hl]) e, hb⟩
 | some ob =>
  rw [ho'] at hoo
  obtain ⟨d, hd, hρ, hb, hrel, hZ⟩ := hoo
  rw [hdst] at hd
  injection hd with hd
  subst hd hZ hρ
  have hne : oAt R i ≠ none := by rw [ho']; simp
  have h1 := (hs.renew (dAt ops i) v' ob hg (by simp) (fun b hbb => .inr (hb b hbb)) hrel).put o.dst hv
  have noS : ∀ (s : Nat) x, (stS ops R n0 st0 listed).tm[s]? = some x → lH (dAt ops i) x = x := by
   intro s x hx
   by_cases hex : ∃ j, j < n0 ∧ listed j = true ∧ dAt ops j = s
   ·obtain ⟨j, hj, hl, rfl⟩ := hex
    rw [ls hnd hj hl (F.len j hj)] at hx
    injection hx with hx
    subst hx
    have hij : inD D i j = false := by
     cases h : inD D i j with
     | false => rfl
     | true => have := hA j hj h; rw [hl] at this; cases this
    exact p7 (F.noR i j hi hj hne hij (fun e => by subst e; rw [hli] at hl; cases hl)).1
   ·rw [vK hnd fun j hj hl e => hex ⟨j, hj, hl, e⟩] at hx
    exact p7 ((F.noV i hi hne).1 x (List.mem_of_getElem? hx))
  have noO : ∀ id o', bg (stS ops R n0 st0 listed).ob id = some o' → lG (dAt ops i) o' = o' := by
   intro id o' h
   rw [fm hnd] at h
   rcases h with ⟨j, hj, hl, e, h⟩ | ⟨_, h⟩
   ·have hij : inD D i j = false := by
     cases h : inD D i j with
     | false => rfl
     | true => have := hA j hj h; rw [hl] at this; cases this
    exact uT ((F.noR i j hi hj hne hij (fun e => by subst e; rw [hli] at hl; cases hl)).2 o' h)
   ·exact uT ((F.noV i hi hne).2 (id, o') (E9 h))
  refine ⟨Z', _, h1.sub (kk.of_get ?_ fun s x y hx hy => ?_) fun id o' hob => ?_⟩
  ·rw [hdst]; simp [AI, dV, lu hnd]
  ·rw [hdst] at hx
   simp only [AI, List.getElem?_set] at hx
   by_cases hsd : dAt ops i = s
   ·subst hsd
    rw [slotI] at hy
    rw [if_pos rfl] at hx
    simp only [dV, List.length_map, lu hnd, if_pos (F.len i hi)] at hx
    injection hx with hx
    injection hy with hy
    rw [← hx, ← hy]
    exact .refl _
   ·rw [if_neg hsd] at hx
    simp only [dV, List.getElem?_map] at hx
    obtain ⟨x0, hx0, rfl⟩ := Option.map_eq_some_iff.1 hx
    rw [slot s (fun e => hsd e.symm), hx0] at hy
    injection hy with hy
    rw [noS s x0 hx0, hy]
    exact .refl _
  ·show bg (db (dV (dAt ops i) (stS ops R n0 st0 listed)).ob (dAt ops i) ob) id = some o'
   rw [bo]
   rw [fm hnd] at hob
   by_cases hid : dAt ops i = id
   ·rw [if_pos hid]
    rcases hob with ⟨j, hj, hl, e, h⟩ | ⟨h, _⟩
    ·have : j = i := zw hnd hj hi (by rw [e, hid])
     subst this
     rw [ho'] at h
     exact h
    ·have := h i hi (by simp) hid
     rw [ho'] at this
     cases this
   ·rw [if_neg hid]
    have hold : bg (stS ops R n0 st0 listed).ob id = some o' := by
     rw [fm hnd]
     rcases hob with ⟨j, hj, hl, e, h⟩ | ⟨h, hb⟩
     ·simp only [Bool.or_eq_true] at hl
      rcases hl with hl | hl
      ·exact .inl ⟨j, hj, hl, e, h⟩
      ·exact absurd (by rw [← e, Nat.eq_of_beq_eq_true hl]) hid
     ·exact .inr ⟨fun j hj hl e => h j hj (by simp [hl]) e, hb⟩
    simp only [dV, lm, hold, Option.map_some]
    rw [noO id o' hold]
theorem t7 (F : DBase ops D R n0 st0) {listed : Nat → Bool} {i : Nat} {o : Oper} (hi : i < n0) (ho : ops[i]? = some o) (hli : listed i = false) (hD : ∀ j, inD D j i = true → listed j = true) (hA : ∀ j, j < n0 → inD D i j = true → listed j = false)
  {P : ASt} (hsub : kk (stS ops R n0 st0 listed).tm P.tm ∧ ai (stS ops R n0 st0 listed).ob P.ob) (hout : ew E S D R n0 P i o)
  {a : Act} {w : World} (hs : cL E.W S (stS ops R n0 st0 listed) a w) {Kont : Act → World → Prop} {Q : Exit → Act → World → Prop} (hK : ∀ a' w', cL E.W S (stS ops R n0 st0 fun j => listed j || Nat.beq j i) a' w' → Kont a' w') :
  (Region.wanted o (yielded ops.toArray a.tmps) = true → o.wp E.P a w Kont Q) ∧ (Region.wanted o (yielded ops.toArray a.tmps) = false → Kont (a.put o.dst undef) w) := by
 obtain ⟨Z, ρ, hs⟩ := hs
 have run : iN E S o P (vAt R i) (oAt R i) → o.wp E.P a w Kont Q := fun hf =>
  hf Z ρ a w (hs.sub hsub.1 hsub.2) Kont Q fun v' w' Z' ρ' h1 h2 h3 h4 h5 => hK _ _ (t6 F hi ho hA hli hs h1 h2 h3 h4 h5)
 unfold ew at hout
 cases hg : o.guard with
 | none =>
  rw [hg] at hout
  exact ⟨fun _ => run hout, fun h => by simp [Region.wanted, hg] at h⟩
 | some gw =>
  obtain ⟨g, want⟩ := gw
  rw [hg] at hout
  obtain ⟨hgn, hgi, hcase⟩ := hout
  have hgl : listed g = true := hD g hgi
  rcases hcase with hcase | ⟨hp, hv, hoo⟩
  case inr =>
   have hy : yielded ops.toArray a.tmps g = none := by
    have hx := ls (R := R) (st0 := st0) F.nd hgn hgl (F.len g hgn)
    obtain ⟨og, hog⟩ : ∃ og, ops[g]? = some og := by
     have := F.le
     exact ⟨ops[g], List.getElem?_eq_getElem (by omega)⟩
    have hdg := F.dst g og hgn hog
    have hlt : dAt ops g < a.tmps.size := by rw [hs.len, lu F.nd]; exact F.len g hgn
    have hrel := hs.tm _ _ _ hx (Array.getElem?_eq_getElem hlt)
    rw [hp] at hrel
    cases hrel with
    | one _ _ hrel =>
     have e : a.tmps[dAt ops g] = undef := hrel
     simp [yielded, hog, hdg, Array.getElem?_eq_getElem hlt, e, undef]
   have hw : Region.wanted o (yielded ops.toArray a.tmps) = false := by simp [Region.wanted, hg, hy]
   refine ⟨fun h => (by rw [hw] at h; cases h), fun _ => hK _ _ ?_⟩
   refine t6 F hi ho hA hli hs (World.grownBy.refl w _) (fun _ h => h) (fun _ h => .inl h) (ρ' := ρ) ?_ ?_
   ·rw [hv]; exact .one _ _ (show eh Z w ρ .und undef from rfl)
   ·rw [hoo]
  obtain ⟨p, hp, hcase⟩ := hcase
  have hy : yielded ops.toArray a.tmps g = some p := by
   have hx := ls (R := R) (st0 := st0) F.nd hgn hgl (F.len g hgn)
   obtain ⟨og, hog⟩ : ∃ og, ops[g]? = some og := by
    have := F.le
    exact ⟨ops[g], List.getElem?_eq_getElem (by omega)⟩
   have hdg := F.dst g og hgn hog
   have hlt : dAt ops g < a.tmps.size := by rw [hs.len, lu F.nd]; exact F.len g hgn
   have hrel := hs.tm _ _ _ hx (Array.getElem?_eq_getElem hlt)
   rw [hp] at hrel
   have := bu hrel
   simp [yielded, hog, hdg, hlt, this]
  have hw : Region.wanted o (yielded ops.toArray a.tmps) = (p == want) := by simp [Region.wanted, hg, hy]
  rcases hcase with ⟨hpw, hf⟩ | ⟨hpw, hv, hoo⟩
  ·exact ⟨fun _ => run hf, fun h => by rw [hw, hpw] at h; simp at h⟩
  ·refine ⟨fun h => by rw [hw] at h; exact absurd (by simpa using h) hpw, fun _ => hK _ _ ?_⟩
   refine t6 F hi ho hA hli hs (World.grownBy.refl w _) (fun _ h => h) (fun _ h => .inl h) (ρ' := ρ) ?_ ?_
   ·rw [hv]; exact .one _ _ (show eh Z w ρ .und undef from rfl)
   ·rw [hoo]
theorem wF (F : pO E S ops D R n0 st0) {listed : Nat → Bool} {i : Nat} {o : Oper} (hi : i < n0) (ho : ops[i]? = some o) (hli : listed i = false) (hD : ∀ j, inD D j i = true → listed j = true) (hA : ∀ j, j < n0 → inD D i j = true → listed j = false)
  {a : Act} {w : World} (hs : cL E.W S (stS ops R n0 st0 listed) a w) {Kont : Act → World → Prop} {Q : Exit → Act → World → Prop} (hK : ∀ a' w', cL E.W S (stS ops R n0 st0 fun j => listed j || Nat.beq j i) a' w' → Kont a' w') :
  (Region.wanted o (yielded ops.toArray a.tmps) = true → o.wp E.P a w Kont Q) ∧ (Region.wanted o (yielded ops.toArray a.tmps) = false → Kont (a.put o.dst undef) w) :=
 t7 F.toDBase hi ho hli hD hA (Dc (D := D) F.nd F.len F.ob hli (fun j _ h => hD j h) hA) (F.out i o hi ho) hs hK
end
end Go.Proofs.YtcmknngafflcnaaGreat
namespace Go.Proofs.YtcmknngafflcnaaGreat
open Go.RowKit
section
variable {E : ba} {S : bt} {Z : Nat → Prop} {ρ : Nat → Value} {st : ASt} {a : Act} {w : World} {o : Oper}
def tp (E : ba) (Z : Nat → Prop) (ρ : Nat → Value) (o : Oper) (a : Act) (w : World) (v : AV) (oo : Option AO) : Prop :=
 ∀ (Kont : Act → World → Prop) Q,
  (∀ v' w' Z' ρ', w.grownBy w' none → (∀ b, Z b → Z' b) → (∀ b, Z' b → Z b ∨ (w.heap.size ≤ b ∧ b < w'.heap.size)) → bM Z' w' ρ' v v' →
   (match oo with
    | none => ρ' = ρ
    | some ob => ∃ d, o.dst = some d ∧ ρ' = (fun i => if i = d then v' else ρ i) ∧ (∀ b, aZ v' = some b → w.heap.size ≤ b) ∧ cw Z' w' ρ' d ob ∧ Z' = Z) → Kont (a.put o.dst v') w') → Oper.wp E.P o a w Kont Q
theorem bK {K : AV → Option AO → Prop} (h : eR E Z ρ o a w fun v => K v none) : ∃ v oo, tp E Z ρ o a w v oo ∧ K v oo := by
 obtain ⟨x, v, hx, hr, hk⟩ := h
 refine ⟨x, none, fun Kont Q hK => ?_, hk⟩
 unfold Oper.wp
 rw [hr]
 exact hK v w Z ρ (World.grownBy.refl w _) (fun _ h => h) (fun _ h => .inl h) hx rfl
theorem jU {K : AV → Option AO → Prop} (h : eR E Z ρ o a w (fun v => K v none) ∨ False) : ∃ v oo, tp E Z ρ o a w v oo ∧ K v oo := by
 rcases h with h | h
 ·exact bK h
 ·exact h.elim
theorem uS {id : Nat} : ∀ {cs : List AC}, yJ id cs = true → cs.all (pF id) = true
 | [], _ => rfl
 | c :: r, h => by
  simp only [yJ] at h
  split at h
  ·rename_i hc; simp [hc, uS h]
  ·cases h
theorem ub {K : AV → Option AO → Prop} (h : Sim E.W S Z ρ st a w) {t : TypeId} {cs : List AC} {v : Value} (hrel : vU Z w ρ cs v.cells.toList)
  (hr : (execOp a.eval o).run E.P w = .ok (.value (.pointer (some ⟨w.heap.size, 0, none⟩))) (w.alloc (.cells v.cells t))) (hk : yY o.dst t cs K) : ∃ x oo, tp E Z ρ o a w x oo ∧ K x oo := by
 unfold yY at hk
 split at hk
 ·rename_i d hd
  split at hk
  ·rename_i hno
   have hno := uS hno
   refine ⟨_, _, fun Kont Q hK => ?_, hk⟩
   unfold Oper.wp
   rw [hr]
   have hg := grownBy_alloc w (.cells v.cells t) none
   have hz := h.ws.zsame hg (by simp)
   refine hK _ _ Z (fun i => if i = d then .pointer (some ⟨w.heap.size, 0, none⟩) else ρ i) hg (fun _ h => h) (fun _ h => .inl h) (oa (id := d) (k := 0) (s := 0) (off := 0) (b := w.heap.size) (by simp [aZ]) (by simp)) ⟨d, hd, rfl, fun b hb => by simp [aZ] at hb; omega, ?_, rfl⟩
   refine ⟨w.heap.size, v.cells.toList, by simp, by rw [Array.toArray_toList]; exact heap_alloc_new w _, hrel.1, fun i c u h1 h2 => ?_⟩
   have hc : eY d c = c := ll (List.all_eq_true.1 hno c (List.mem_of_getElem? h1))
   have := it (id := d) (y := .pointer (some ⟨w.heap.size, 0, none⟩)) ((hrel.2 i c u h1 h2).mono (fun _ h => h) hz)
   rwa [hc] at this
  ·exact hk.elim
 ·exact hk.elim
theorem zI {K : AV → Option AO → Prop} (h : Sim E.W S Z ρ st a w) {f : FuncId} {args : List AV} {us : List Value} (hl : us.length = args.length) (hrel : ∀ (i : Nat) x u, args[i]? = some x → us[i]? = some u → bM Z w ρ x u)
  (hr : (execOp a.eval o).run E.P w = (callFunc f us.toArray).run E.P w) (hk : ae E st.ob f args fun r => K r none) : ∃ x oo, tp E Z ρ o a w x oo ∧ K x oo := by
 obtain ⟨ps, res, hc, hargs, hk⟩ := hk.h
 refine ⟨_, _, fun Kont Q hK => ?_, hk⟩
 unfold Oper.wp
 rw [hr, hc.enter]
 rcases hargs with hps | ⟨hps, hsc⟩ | ⟨hext, hsc⟩
 ·have hws0 : WS E.W S Z w ρ [] := h.ws.sub ai.nil
  obtain ⟨ps', h1, h2, rfl⟩ := fJ (st := ⟨[], []⟩) hws0 hl hrel (BF hps)
  refine (hc.run Z w us h.ws.zlt h.ws.g h1 fun i p u h3 h4 => ?_).mono ?_
  ·have := h2 i p u h3 h4
   have hz : ∀ b, fI Z ρ [] b → Z b := by rintro b (hb | ⟨id, o, ho, _⟩); exact hb; cases ho
   cases p with
   | one d => exact bC.mono hz (fun _ _ => rfl) this
   | agg ds => obtain ⟨us, e, hl, hr⟩ := this; exact ⟨us, e, hl, fun i d u h5 h6 => (hr i d u h5 h6).mono hz fun _ _ => rfl⟩
  ·rintro e w' ⟨v, Z', rfl, hb, hz, hz2, hv⟩
   exact hK v w' Z' ρ (cV hb) hz hz2 hv.v rfl
 ·obtain ⟨ps', h1, h2, rfl⟩ := fJ h.ws hl hrel hps
  refine (hc.run (fI Z ρ st.ob) w us (fI.lt h.ws) ?_ h1 h2).mono ?_
  ·obtain ⟨w1, g1, g2, g3⟩ := h.ws.g
   exact ⟨w1, g1, g2, fun b hb => .inl (g3 b hb)⟩
  ·rintro e w' ⟨v, Z', rfl, hb, hz, hz2, hv⟩
   exact hK v w' Z ρ (cV hb) (fun _ h => h) (fun _ h => .inl h) (hv.any hsc).v rfl
 ·obtain ⟨Z2, z1, z2, h1, h2⟩ := hext.h S Z ρ w us h.ws hl hrel
  refine (hc.run Z2 w us z2 ?_ h1 h2).mono ?_
  ·obtain ⟨w1, g1, g2, g3⟩ := h.ws.g
   exact ⟨w1, g1, g2, fun b hb => z1 b (g3 b hb)⟩
  ·rintro e w' ⟨v, Z', rfl, hb, hz, hz2, hv⟩
   exact hK v w' Z ρ (cV hb) (fun _ h => h) (fun _ h => .inl h) (hv.any hsc).v rfl
theorem Du (he : E.Ok) {K : AV → Option AO → Prop} (h : Sim E.W S Z ρ st a w) (hk : gL E o st K) : ∃ v oo, tp E Z ρ o a w v oo ∧ K v oo := by
 unfold gL at hk
 split at hk
 ·rename_i x ho; exact bK (ln h (.inl ho) hk)
 ·rename_i x ho; exact bK (ln h (.inr ho) hk)
 ·rename_i c x y ho; exact bK (vh (K := fun v => K v none) h ho hk)
 ·rename_i op t x y t2 ho
  rcases xa he h ho hk with h1 | h1
  ·exact bK h1
  ·obtain ⟨v, hk1, hr⟩ := h1.h
   obtain ⟨u, hu, hrun⟩ := hr S Z ρ a w h
   exact bK ⟨v, u, hu, hrun, hk1⟩
 ·rename_i op t x ho; exact jU (AJ h ho hk)
 ·rename_i s d x ho; exact jU (vd he h ho hk)
 ·rename_i t x f ho; exact bK (lJ he h ho hk)
 ·rename_i t x ho; exact bK (vg he h ho hk)
 ·rename_i t ps ho; exact bK (sE he h ho hk)
 ·rename_i t n ps ho
  obtain ⟨i, hi, hk⟩ := aY he hk
  split at hk
  ·rename_i e hs
   obtain ⟨j, hj, hk⟩ := aY he hk
   split at hk
   ·exact hk.elim
   ·rename_i s hjs
    split at hk
    ·rename_i hle
     have hle := Nat.le_of_ble_eq_true hle
     have hjs' : j.size = s + 1 := hjs
     rw [← hjs'] at hk hle
     obtain ⟨xs, us, hn, h2, h3, h4, h5, hz, hnm, hk⟩ := EJ h ho (hi.sl hs) hj hle (by omega) hk
     refine ⟨_, _, fun Kont Q hK => ?_, hk⟩
     unfold Oper.wp
     rw [hz]
     have hg := grownBy_alloc w (.cells us.flatten.toArray e) none
     have hzs := h.ws.zsame hg (by simp)
     refine hK _ _ (fun b => Z b ∨ b = w.heap.size) ρ hg (fun b hb => .inl hb) (fun b hb => hb.imp id fun e => ⟨by omega, by simp [e]⟩) (Fi ?_) rfl
     have hd := bC.sl (Z := fun b => Z b ∨ b = w.heap.size) (w := w.alloc (.cells us.flatten.toArray e)) xs (some ⟨w.heap.size, 0, none⟩) n j.size us (by omega) hnm h2 h3 h4 (.inr ⟨w.heap.size, 0, rfl, .inr rfl, fun i u hu => by
       rw [cell_of_row _ w.heap.size (0 + i) _ _ _ (heap_alloc_new w _), Nat.zero_add]
       simpa using hu⟩) fun i k x u p q e1 e2 e3 e4 => (h5 i k x u p q e1 e2 e3 e4).mono (fun b hb => .inl hb) hzs
     rwa [hn] at hd
    ·exact hk.elim
  ·exact hk.elim
 ·rename_i t x ho
  obtain ⟨vx, hx, hk⟩ := aR h hk
  obtain ⟨cs, hk, _, hrel⟩ := iz hx hk
  refine ub h hrel ?_ hk
  simp [execOp, ho, Instr.box, newVar, newRow]
 ·rename_i t ho
  obtain ⟨i, hi, hk⟩ := aY he hk
  obtain ⟨cs, hk, _, hrel⟩ := ow hk
  refine ub h (hrel Z w ρ) ?_ hk
  simp [execOp, ho, Instr.alloc, hi.zr, newVar, newRow]
 ·rename_i t x lo hi ho; exact jU (sH he h ho hk)
 ·rename_i t x i ho; exact bK (lK he h ho hk)
 ·rename_i t x i ho; exact jU (sG he h ho hk)
 ·rename_i t x f ho; exact bK (sF he h ho hk)
 ·rename_i x i ho; exact bK (pH (K := fun v => K v none) h ho hk)
 ·rename_i x ho
  obtain ⟨vx, hx, hk⟩ := aR h hk
  split at hk
  ·have hx' := hx
   cases hx with
   | one _ _ hx =>
    obtain ⟨b, hb, e⟩ := hx
    exact bK ⟨_, _, hx', by simp [execOp, ho, e], hk⟩
  ·have hx' := hx
   cases hx with
   | one _ _ hx =>
    obtain ⟨b, off, us, e, _⟩ := hx
    exact bK ⟨_, _, hx', by simp [execOp, ho, e], hk⟩
  ·exact hk.elim
 ·rename_i c ho
  split at hk
  ·rename_i hb
   obtain ⟨vs, hl, hv, hk1⟩ := mW h hk
   clear hk
   split at hk1
   ·rename_i t ts x hts
    have hlen : c.args.toList.length = 1 := by simpa using hl.symm
    obtain ⟨y, hy⟩ := List.length_eq_one_iff.1 hlen
    have h0 := hv 0 y x (by rw [hy]; rfl) rfl
    have ht : c.argTypes[0]? = some t := by rw [← Array.getElem?_toList, hts]; rfl
    refine jU (xb he h (ts := c.argTypes) h0 ?_ ht hk1)
    simp only [execOp, ho, resolve, hb, Sem.run_bind, Sem.run_pure, Result.andThen_ok, invoke, oz c.args a.eval, hy]
    simp [builtin]
   ·exact hk1.elim
  ·rename_i fo hf
   obtain ⟨vf, hvf, hk1⟩ := aR h hk
   clear hk
   split at hk1
   ·rename_i f first caps
    have ef := bu hvf
    split at hk1
    ·rename_i h1 h2
     obtain ⟨vs, hl, hv, hk2⟩ := mW h hk1
     have e1 : first = #[] := by simpa using h1
     have e2 : caps = #[] := by simpa using h2
     subst e1 e2
     refine zI h (us := c.args.toList.map a.eval) (by simp [hl]) (fun i x u h3 h4 => ?_) ?_ hk2
     ·rw [List.getElem?_map] at h4
      obtain ⟨y, hy, rfl⟩ := Option.map_eq_some_iff.1 h4
      exact hv i y x hy h3
     ·simp only [execOp, ho, resolve, hf, ef, Deferred.ofValue, invoke, Sem.run_bind, Sem.run_pure, Result.andThen_ok, oz c.args a.eval]
      simp
    ·exact hk1.elim
   ·exact hk1.elim
  ·exact hk.elim
 ·obtain ⟨v, hk1, hr⟩ := hk.h
  obtain ⟨u, hu, hrun⟩ := hr S Z ρ a w h
  exact bK ⟨v, u, hu, hrun, hk1⟩
end
theorem uc {E : ba} (he : E.Ok) {S : bt} {o : Oper} {P : ASt} {v : AV} {oo : Option AO} (h : gL E o P fun v' oo' => v' = v ∧ oo' = oo) : iN E S o P v oo := by
 intro Z ρ a w hs Kont Q hK
 obtain ⟨v', oo', hf, rfl, rfl⟩ := Du he hs h
 exact hf Kont Q hK
end Go.Proofs.YtcmknngafflcnaaGreat
namespace Go.Proofs.YtcmknngafflcnaaGreat
open Go.RowKit
def aMk (fl : Nat → Nat) : List Oper → List (AV × Option AO) → Nat → List AV → (List AV → List (Nat × AO) → Prop) → Prop
 | [], _, _, tm, K => K tm []
 | _ :: _, [], _, _, _ => False
 | o :: ops, r :: R, j, tm, K => match fl j with
  | 0 => aMk fl ops R (j + 1) tm K
  | 1 => match o.dst with
   | none => False
   | some d => match r with
    | (v, oo) => iP tm d v fun tm => match oo with
     | none => aMk fl ops R (j + 1) tm K
     | some x => aMk fl ops R (j + 1) tm fun tm obs => K tm ((d, x) :: obs)
  | _ + 2 => match o.dst with
   | none => False
   | some d => iP tm d (.one .dead) fun tm => aMk fl ops R (j + 1) tm K
def upF (ops : List Oper) (R : List (AV × Option AO)) (fl : Nat → Nat) (j : Nat) : Option (Nat × AV) :=
 match fl j with
 | 0 => none
 | 1 => some (dAt ops j, vAt R j)
 | _ + 2 => some (dAt ops j, .one .dead)
theorem ov {fl : Nat → Nat} {opsA : List Oper} {RA : List (AV × Option AO)} : ∀ (ops : List Oper) (R : List (AV × Option AO)) (j : Nat) (tm : List AV) (K : List AV → List (Nat × AO) → Prop), (∀ k, k < ops.length → opsA[j + k]? = ops[k]?) → (∀ k, RA[j + k]? = R[k]?) → aMk fl ops R j tm K →
  K (fC tm ((List.range' j ops.length).filterMap (upF opsA RA fl))) ((List.range' j ops.length).filterMap (obF opsA RA fun j => Nat.beq (fl j) 1))
 | [], R, j, tm, K, _, _, h => h
 | _ :: _, [], _, _, _, _, _, h => h.elim
 | o :: ops, r :: R, j, tm, K, ho, hR, h => by
  have ho' : ∀ k, k < ops.length → opsA[j + 1 + k]? = ops[k]? := fun k hk => by
   have := ho (k + 1) (by simp; omega)
   rw [show j + 1 + k = j + (k + 1) by omega]
   simpa using this
  have hR' : ∀ k, RA[j + 1 + k]? = R[k]? := fun k => by
   have := hR (k + 1)
   rw [show j + 1 + k = j + (k + 1) by omega]
   simpa using this
  have hd : ∀ d, o.dst = some d → dAt opsA j = d := fun d hd => by
   have := ho 0 (by simp)
   simp only [Nat.add_zero, List.getElem?_cons_zero] at this
   simp [dAt, this, hd]
  have hr : RA[j]? = some r := by simpa using hR 0
  rw [List.length_cons, List.range'_succ]
  unfold aMk at h
  split at h
  ·rename_i hf
   have := ov ops R (j + 1) tm K ho' hR' h
   rw [List.filterMap_cons, List.filterMap_cons]
   simpa [upF, obF, hf] using this
  ·rename_i hf
   split at h
   ·exact h.elim
   ·rename_i d hdst
    obtain ⟨v, oo⟩ := r
    have hv : vAt RA j = v := by simp [vAt, List.getD, hr]
    have hoo : oAt RA j = oo := by simp [oAt, List.getD, hr]
    cases oo with
    | none =>
     have h1 : aMk fl ops R (j + 1) (tm.set d v) K := ft (K := fun tm => aMk fl ops R (j + 1) tm K) h
     have := ov ops R (j + 1) _ K ho' hR' h1
     rw [List.filterMap_cons, List.filterMap_cons]
     simpa [upF, obF, hf, hd d hdst, hv, hoo, fC, Nat.beq] using this
    | some x =>
     have h1 : aMk fl ops R (j + 1) (tm.set d v) (fun tm obs => K tm ((d, x) :: obs)) := ft (K := fun tm => aMk fl ops R (j + 1) tm fun tm obs => K tm ((d, x) :: obs)) h
     have := ov ops R (j + 1) _ (fun tm obs => K tm ((d, x) :: obs)) ho' hR' h1
     rw [List.filterMap_cons, List.filterMap_cons]
     simpa [upF, obF, hf, hd d hdst, hv, hoo, fC, Nat.beq] using this
  ·rename_i m hf
   split at h
   ·exact h.elim
   ·rename_i d hdst
    have h1 := ft (K := fun tm => aMk fl ops R (j + 1) tm K) h
    have := ov ops R (j + 1) _ K ho' hR' h1
    rw [List.filterMap_cons, List.filterMap_cons]
    simpa [upF, obF, hf, hd d hdst, fC, Nat.beq] using this
def Et {α : Type} : List α → List α → (List α → Prop) → Prop
 | [], l, K => K l
 | x :: r, l, K => Et r l fun l' => K (x :: l')
theorem tr {α : Type} : ∀ {r l : List α} {K : List α → Prop}, Et r l K → K (r ++ l)
 | [], _, _, h => h
 | x :: r, l, K, h => tr (r := r) (l := l) (K := fun l' => K (x :: l')) h
def flP (D : List (List Nat)) (i j : Nat) : Nat :=
 match inD D j i with
 | true => 1
 | false => match inD D i j with
  | true => 0
  | false => match Nat.beq j i with
   | true => 0
   | false => 2
theorem Ke (ops : List Oper) (R : List (AV × Option AO)) (D : List (List Nat)) (i : Nat) : upF ops R (flP D i) = upP ops D R i := by
 funext j
 unfold upF upP flP
 cases h1 : inD D j i
 ·cases h2 : inD D i j
  ·cases h3 : Nat.beq j i <;> simp_all
  ·simp_all
 ·simp_all
theorem Gc (D : List (List Nat)) (i : Nat) : (fun j => Nat.beq (flP D i j) 1) = fun j => inD D j i := by
 funext j
 unfold flP
 cases h1 : inD D j i
 ·cases h2 : inD D i j
  ·cases h3 : Nat.beq j i <;> rfl
  ·rfl
 ·rfl
def wk (D : List (List Nat)) (pre : List Oper) (R : List (AV × Option AO)) (i : Nat) (st : ASt) (K : ASt → Prop) : Prop :=
 match st with
 | ⟨tm, ob⟩ => aMk (flP D i) pre R 0 tm fun tm obs => Et obs ob fun ob => K ⟨tm, ob⟩
def mV (pre : List Oper) (R : List (AV × Option AO)) (st : ASt) (K : ASt → Prop) : Prop :=
 match st with
 | ⟨tm, ob⟩ => aMk (fun _ => 1) pre R 0 tm fun tm obs => Et obs ob fun ob => K ⟨tm, ob⟩
theorem Be {ops : List Oper} {n0 : Nat} (hle : n0 ≤ ops.length) : (ops.take n0).length = n0 ∧ ∀ k, k < (ops.take n0).length → ops[0 + k]? = (ops.take n0)[k]? := by
 have h : (ops.take n0).length = n0 := by simp; omega
 exact ⟨h, fun k hk => by rw [h] at hk; simp [List.getElem?_take, hk]⟩
theorem rp {D : List (List Nat)} {ops : List Oper} {n0 : Nat} {R : List (AV × Option AO)} {i : Nat} {st : ASt} {K : ASt → Prop} (hle : n0 ≤ ops.length) (h : wk D (ops.take n0) R i st K) : K (stP ops D R n0 st i) := by
 obtain ⟨h1, h2⟩ := Be hle
 obtain ⟨tm, ob⟩ := st
 have := ov (opsA := ops) (RA := R) (ops.take n0) R 0 tm _ h2 (fun k => by simp) h
 rw [h1, Ke, Gc] at this
 have := tr (K := fun ob => K ⟨_, ob⟩) this
 rw [← List.range_eq_range'] at this
 exact this
theorem km {ops : List Oper} {n0 : Nat} {R : List (AV × Option AO)} {st : ASt} {K : ASt → Prop} (hle : n0 ≤ ops.length) (h : mV (ops.take n0) R st K) : K (stS ops R n0 st fun _ => true) := by
 obtain ⟨h1, h2⟩ := Be hle
 obtain ⟨tm, ob⟩ := st
 have := ov (opsA := ops) (RA := R) (ops.take n0) R 0 tm _ h2 (fun k => by simp) h
 rw [h1] at this
 have := tr (K := fun ob => K ⟨_, ob⟩) this
 rw [← List.range_eq_range'] at this
 have e : upF ops R (fun _ => 1) = upS ops R fun _ => true := by funext j; rfl
 rw [e] at this
 exact this
def CH (E : ba) (D : List (List Nat)) (pre : List Oper) (R : List (AV × Option AO)) (st : ASt) (i : Nat) (o : Oper) (r : AV × Option AO) : Prop :=
 match o.guard with
 | none => wk D pre R i st fun P => gL E o P fun v oo => v = r.1 ∧ oo = r.2
 | some (g, want) => inD D g i = true ∧ Nat.blt g pre.length = true ∧ jw R g fun rg => match rg.1 with
  | .one (.d (.pv (.bool p))) => AB p
    (match want with
     | true => wk D pre R i st fun P => gL E o P fun v oo => v = r.1 ∧ oo = r.2
     | false => r = (.one .und, none))
    (match want with
     | true => r = (.one .und, none)
     | false => wk D pre R i st fun P => gL E o P fun v oo => v = r.1 ∧ oo = r.2)
  | _ => False
def uV : List Nat → Bool
 | [] => true
 | x :: r => !r.contains x && uV r
theorem rG : ∀ {l : List Nat}, uV l = true → l.Nodup
 | [], _ => List.nodup_nil
 | x :: r, h => by
  simp only [uV, Bool.and_eq_true, Bool.not_eq_true'] at h
  exact List.nodup_cons.2 ⟨by simpa using h.1, rG h.2⟩
def B3 (ops : List Oper) (D : List (List Nat)) (n0 : Nat) : Bool :=
 Nat.ble n0 ops.length && uV ((List.range n0).map (dAt ops)) &&
 (List.range ops.length).all fun i => match ops[i]? with
  | some o => ((kq o).all fun x => Nat.blt x i) && (if i < n0 then o.dst.isSome else (List.range i).all fun j => inD D j i)
  | none => true
def yr (ops : List Oper) (n0 n : Nat) : Bool := (List.range n0).all fun i => Nat.blt (dAt ops i) n
def noB (ops : List Oper) (D : List (List Nat)) (R : List (AV × Option AO)) (n0 : Nat) (st : ASt) : Bool :=
 (List.range n0).all fun i => match oAt R i with
  | none => true
  | some _ => (bg st.ob (dAt ops i)).isNone && st.tm.all (uU (dAt ops i)) && (st.ob.all fun p => Aw (dAt ops i) p.2) &&
   (List.range n0).all fun j => inD D i j || Nat.beq j i || (uU (dAt ops i) (vAt R j) && (match oAt R j with | none => true | some o => Aw (dAt ops i) o))
end Go.Proofs.YtcmknngafflcnaaGreat
namespace Go.Proofs.YtcmknngafflcnaaGreat
open Go.RowKit
def iC (lf : Nat → Bool) : Nat → Nat
 | 0 => 0
 | n + 1 => iC lf n + (if lf n then 0 else 1)
theorem oB {lf : Nat → Bool} {i : Nat} (hi : lf i = false) : ∀ {n : Nat}, iC (fun j => lf j || Nat.beq j i) n ≤ iC lf n ∧ (i < n → iC (fun j => lf j || Nat.beq j i) n < iC lf n)
 | 0 => ⟨Nat.le_refl _, fun h => absurd h (Nat.not_lt_zero _)⟩
 | n + 1 => by
  obtain ⟨h1, h2⟩ := oB hi (n := n)
  simp only [iC]
  by_cases hin : n = i
  ·subst hin
   have : Nat.beq n n = true := Nat.beq_refl n
   simp only [hi, this, Bool.or_true, if_true]
   exact ⟨by simp; omega, fun _ => by simp; omega⟩
  ·have : Nat.beq n i = false := by
    cases h : Nat.beq n i with
    | false => rfl
    | true => exact absurd (Nat.eq_of_beq_eq_true h) hin
   simp only [this, Bool.or_false]
   exact ⟨by omega, fun h => by have := h2 (by omega); omega⟩
theorem ya {lf : Nat → Bool} {m : Nat} (h : ∀ j, m ≤ j → lf j = false) : ∀ {n : Nat}, n - m ≤ iC lf n
 | 0 => by simp
 | n + 1 => by
  have ih := ya h (n := n)
  simp only [iC]
  by_cases hn : m ≤ n
  ·rw [h n hn]; simp; omega
  ·omega
theorem rA {lf : Nat → Bool} : ∀ {n : Nat}, iC lf n = 0 → ∀ j, j < n → lf j = true
 | 0, _, j, hj => absurd hj (Nat.not_lt_zero _)
 | n + 1, h, j, hj => by
  simp only [iC] at h
  by_cases hjn : j = n
  ·subst hjn
   cases hl : lf j with
   | true => rfl
   | false => rw [hl] at h; simp at h
  ·exact rA (n := n) (by omega) j (by omega)
section
variable {E : ba} {S : bt} {ops : Array Oper} {n0 : Nat} {st0 : ASt} {R : List (AV × Option AO)} {K : ASt → Prop} {Q : Exit → Act → World → Prop}
theorem bm {ops : List Oper} {i : Nat} {o : Oper} (h : ops[i]? = some o) : cn ops i = kq o := by simp [cn, h]
theorem oE {α β : Type} {f g : α → Option β} : ∀ {l : List α}, (∀ j ∈ l, f j = g j) → l.filterMap f = l.filterMap g
 | [], _ => rfl
 | x :: r, h => by
  rw [List.filterMap_cons, List.filterMap_cons, h x (by simp), oE fun j hj => h j (by simp [hj])]
theorem kf {ops : List Oper} {R : List (AV × Option AO)} {n0 : Nat} {st0 : ASt} {l1 l2 : Nat → Bool} (h : ∀ j, j < n0 → l1 j = l2 j) : stS ops R n0 st0 l1 = stS ops R n0 st0 l2 := by
 have e1 : (List.range n0).filterMap (upS ops R l1) = (List.range n0).filterMap (upS ops R l2) := oE fun j hj => by simp [upS, h j (List.mem_range.1 hj)]
 have e2 : (List.range n0).filterMap (obF ops R l1) = (List.range n0).filterMap (obF ops R l2) := oE fun j hj => by simp [obF, h j (List.mem_range.1 hj)]
 simp only [stS, e1, e2]
structure pn (ops : List Oper) (D : List (List Nat)) (n0 : Nat) : Prop where
 hD : iE [] ops = D
 le : n0 ≤ ops.length
 nd : ((List.range n0).map (dAt ops)).Nodup
 edge : ∀ i o, ops[i]? = some o → ∀ x ∈ kq o, x < i
 dst : ∀ i o, i < n0 → ops[i]? = some o → o.dst = some (dAt ops i)
 tail : ∀ i, n0 ≤ i → i < ops.length → ∀ j, j < i → inD D j i = true
theorem zx {ops : List Oper} {D : List (List Nat)} {n0 : Nat} (hD : iE [] ops = D) (h : B3 ops D n0 = true) : pn ops D n0 := by
 simp only [B3, Bool.and_eq_true, List.all_eq_true] at h
 obtain ⟨⟨h1, h2⟩, h3⟩ := h
 have key : ∀ i o, ops[i]? = some o → _ := fun i o ho => by
  have hlt := (List.getElem?_eq_some_iff.1 ho).1
  have := h3 i (List.mem_range.2 hlt)
  rw [ho] at this
  simp only [Bool.and_eq_true, List.all_eq_true] at this
  exact this
 refine ⟨hD, Nat.le_of_ble_eq_true h1, rG h2, fun i o ho e he => ?_, fun i o hi ho => ?_, fun i hi hlt j hj => ?_⟩
 ·exact Nat.le_of_ble_eq_true ((key i o ho).1 e he)
 ·have := (key i o ho).2
  rw [if_pos hi] at this
  obtain ⟨d, hd⟩ := Option.isSome_iff_exists.1 this
  rw [hd]
  simp [dAt, ho, hd]
 ·have := (key i ops[i] (List.getElem?_eq_getElem hlt)).2
  rw [if_neg (by omega), List.all_eq_true] at this
  exact this j (List.mem_range.2 hj)
theorem gN {ops : List Oper} {D : List (List Nat)} {n0 : Nat} (T : pn ops D n0) {lf : Nat → Bool} (hc : ∀ j, lf j = true → ∀ e ∈ cn ops j, lf e = true) {i : Nat} (hi : ∀ e ∈ cn ops i, lf e = true) {j : Nat} (hj : inD D j i = true) : lf j = true := by
 have := jq ops (fun j => lf j = true) hc ops [] (fun k => by simp) (fun j hj => absurd hj (Nat.not_lt_zero _)) i hi j
 rw [T.hD] at this
 refine this ?_
 simpa [inD] using hj
def bB (listed : Array Bool) (j : Nat) : Bool := listed.getD j false
theorem gU {listed : Array Bool} {i : Nat} (hi : i < listed.size) : bB (listed.setIfInBounds i true) = fun j => bB listed j || Nat.beq j i := by
 funext j
 simp only [bB, Array.getD_eq_getD_getElem?, Array.getElem?_setIfInBounds]
 by_cases h : i = j
 ·subst h
  simp [hi, Nat.beq_refl]
 ·have : Nat.beq j i = false := by
   cases h' : Nat.beq j i with
   | false => rfl
   | true => exact absurd (Nat.eq_of_beq_eq_true h').symm h
  simp [h, this]
theorem n9 {D : List (List Nat)} (T : pn ops.toList D n0) {listed : Array Bool} (hs : listed.size = ops.size) {i : Nat} :
  i ∈ Region.ready .any ops listed ↔ i < ops.size ∧ bB listed i = false ∧ ∀ e ∈ cn ops.toList i, bB listed e = true := by
 rw [mem_ready]
 constructor
 ·rintro ⟨h1, o, ho, h2⟩
  have hlt := (Array.getElem?_eq_some_iff.1 ho).1
  refine ⟨hlt, ?_, fun e he => ?_⟩
  ·simp only [bB, Array.getD_eq_getD_getElem?] at h1 ⊢
   rw [Array.getElem?_eq_getElem (by omega)] at h1 ⊢
   simpa using h1
  ·rw [bm (by simpa using ho)] at he
   obtain ⟨e', he', rfl⟩ := List.mem_map.1 he
   obtain ⟨hm, hb⟩ := List.mem_filter.1 he'
   exact h2 e' (by simpa using hm) hb
 ·rintro ⟨hlt, h1, h2⟩
  refine ⟨?_, ops[i], Array.getElem?_eq_getElem hlt, fun e he hb => ?_⟩
  ·simp only [bB, Array.getD_eq_getD_getElem?] at h1 ⊢
   rw [Array.getElem?_eq_getElem (by omega)] at h1 ⊢
   simpa using h1
  ·refine h2 _ ?_
   rw [bm (o := ops[i]) (by simp [hlt])]
   exact List.mem_map.2 ⟨e, List.mem_filter.2 ⟨by simpa using he, hb⟩, rfl⟩
theorem DD (he : E.Ok) {D : List (List Nat)} (T : pn ops.toList D n0) (hQ : ∀ a w, (∃ st', cL E.W S st' a w ∧ K st') → Q .normal a w) :
  ∀ (fuel m : Nat) (listed : Array Bool) (st : ASt) (a : Act) (w : World), listed.size = ops.size → n0 ≤ m → (∀ j, j < ops.size → bB listed j = decide (j < m)) → ops.size - m ≤ fuel → cL E.W S st a w → pc E S ops.toList (ops.toList.drop m) st K → wpAny E.P .any ops Q fuel listed a w := by
 intro fuel
 induction fuel with
 | zero =>
  intro m listed st a w hs hm hl hf h hk
  rw [List.drop_eq_nil_of_le (by simp; omega)] at hk
  refine ⟨?_, hQ a w ⟨st, h, hk⟩⟩
  rw [List.eq_nil_iff_forall_not_mem]
  intro i hi
  obtain ⟨h1, h2, _⟩ := (n9 T hs).1 hi
  rw [hl i h1] at h2
  simp at h2
  omega
 | succ fuel ih =>
  intro m listed st a w hs hm hl hf h hk
  have hready : ∀ i, i ∈ Region.ready .any ops listed ↔ i = m ∧ m < ops.size := by
   intro i
   rw [n9 T hs]
   constructor
   ·rintro ⟨h1, h2, h3⟩
    rw [hl i h1] at h2
    simp at h2
    have hc : ∀ j, bB listed j = true → ∀ e ∈ cn ops.toList j, bB listed e = true := by
     intro j hj e hej
     by_cases hjs : j < ops.size
     ·rw [hl j hjs] at hj
      rw [bm (o := ops[j]) (by simp [hjs])] at hej
      have := T.edge j ops[j] (by simp [hjs]) _ hej
      rw [hl _ (by omega)]
      simp at hj ⊢
      omega
     ·simp [bB, Array.getD_eq_getD_getElem?, Array.getElem?_eq_none (show listed.size ≤ j by omega)] at hj
    refine ⟨?_, by omega⟩
    apply Nat.le_antisymm _ h2
    apply Nat.le_of_not_lt
    intro hlt
    have := gN T hc h3 (T.tail i (by omega) (by simpa using h1) m hlt)
    rw [hl m (by omega)] at this
    simp at this
   ·rintro ⟨rfl, h1⟩
    refine ⟨h1, by rw [hl i h1]; simp, fun e hej => ?_⟩
    rw [bm (o := ops[i]) (by simp [h1])] at hej
    have := T.edge i ops[i] (by simp [h1]) _ hej
    rw [hl _ (by omega)]
    simpa using this
  refine ⟨fun hnil => ?_, fun i hi => ?_⟩
  ·have : ops.size ≤ m := by
    apply Nat.le_of_not_lt
    intro hlt
    have := (hready m).2 ⟨rfl, hlt⟩
    rw [hnil] at this
    cases this
   rw [List.drop_eq_nil_of_le (by simpa using this)] at hk
   exact hQ a w ⟨st, h, hk⟩
  ·obtain ⟨rfl, hlt⟩ := (hready i).1 hi
   rw [List.drop_eq_getElem_cons (by simpa using hlt)] at hk
   unfold wpOp
   rw [Array.getElem?_eq_getElem hlt]
   have next : ∀ st' a' w', cL E.W S st' a' w' → pc E S ops.toList (ops.toList.drop (i + 1)) st' K → wpAny E.P .any ops Q fuel (listed.setIfInBounds i true) a' w' := by
    intro st' a' w' h' hk'
    refine ih (i + 1) _ st' a' w' (by simpa using hs) (by omega) (fun j hj => ?_) (by omega) h' hk'
    rw [gU (by omega)]
    simp only []
    rw [hl j hj]
    by_cases hji : j = i
    ·subst hji; simp [Nat.beq_refl]
    ·have : Nat.beq j i = false := by
      cases h' : Nat.beq j i with
      | false => rfl
      | true => exact absurd (Nat.eq_of_beq_eq_true h') hji
     simp [this]
     omega
   obtain ⟨Z, ρ, h⟩ := h
   simp only [Array.getElem_toList] at hk
   rcases gj h hk with ⟨hw, st', hs', hk⟩ | ⟨hw, st', hs', hk⟩
   ·simp only [Array.toArray_toList] at hw
    simp only [hw, if_true]
    refine .inl (Oper.wp_mono (fun a' w' h' => ?_) (oy he hs' hk Q))
    obtain ⟨st2, h2, hk2⟩ := h'
    exact next st2 a' w' h2 hk2
   ·simp only [Array.toArray_toList] at hw
    simp only [hw, Bool.false_eq_true, if_false]
    have := hs'.put ops[i].dst (x := .one .und) (v := undef) (.one _ _ (show eh Z w ρ .und undef from rfl))
    exact next _ _ w ⟨Z, ρ, this⟩ (cY hk)
theorem DC (he : E.Ok) {D : List (List Nat)} (T : pn ops.toList D n0) (F : pO E S ops.toList D R n0 st0) (hQ : ∀ a w, (∃ st', cL E.W S st' a w ∧ K st') → Q .normal a w)
  (ht : mV (ops.toList.take n0) R st0 fun st => pc E S ops.toList (ops.toList.drop n0) st K) :
  ∀ (fuel : Nat) (listed : Array Bool) (a : Act) (w : World), listed.size = ops.size → (∀ j, n0 ≤ j → bB listed j = false) → (∀ j, bB listed j = true → ∀ e ∈ cn ops.toList j, bB listed e = true) → iC (bB listed) ops.size ≤ fuel →
   cL E.W S (stS ops.toList R n0 st0 (bB listed)) a w → wpAny E.P .any ops Q fuel listed a w := by
 intro fuel
 have hle : n0 ≤ ops.toList.length := T.le
 have hle' : n0 ≤ ops.size := by simpa using hle
 induction fuel with
 | zero =>
  intro listed a w hs htl hc hf h
  have hall := rA (Nat.le_zero.1 hf)
  have hn0 : ops.size ≤ n0 := by
   apply Nat.le_of_not_lt
   intro hlt
   have h1 := hall n0 hlt
   rw [htl n0 (Nat.le_refl _)] at h1
   cases h1
  refine ⟨?_, hQ a w ⟨_, h, ?_⟩⟩
  ·rw [List.eq_nil_iff_forall_not_mem]
   intro i hi
   obtain ⟨h1, h2, _⟩ := (n9 T hs).1 hi
   rw [hall i h1] at h2
   cases h2
  ·have := km hle ht
   rw [List.drop_eq_nil_of_le (by simpa using hn0)] at this
   have e : stS ops.toList R n0 st0 (bB listed) = stS ops.toList R n0 st0 fun _ => true := kf fun j hj => by rw [hall j (by omega)]
   rw [e]
   exact this
 | succ fuel ih =>
  intro listed a w hs htl hc hf h
  by_cases hall : ∀ j, j < n0 → bB listed j = true
  ·have e : stS ops.toList R n0 st0 (bB listed) = stS ops.toList R n0 st0 fun _ => true := kf fun j hj => by rw [hall j hj]
   rw [e] at h
   have h2 := ya htl (n := ops.size)
   refine DD he T hQ (fuel + 1) n0 listed _ a w hs (Nat.le_refl _) (fun j hj => ?_) (by omega) h (km hle ht)
   by_cases hj0 : j < n0
   ·rw [hall j hj0]; simp [hj0]
   ·rw [htl j (by omega)]; simp [hj0]
  ·refine ⟨fun hnil => ?_, fun i hi => ?_⟩
   ·exfalso
    apply hall
    intro j
    induction j using Nat.strongRecOn with
    | ind j ihj =>
     intro hj
     cases hlj : bB listed j with
     | true => rfl
     | false =>
      have : j ∈ Region.ready .any ops listed := (n9 T hs).2 ⟨by omega, hlj, fun e hej => by
       have hjs : j < ops.size := by omega
       rw [bm (o := ops[j]) (by simp [hjs])] at hej
       have := T.edge j ops[j] (by simp [hjs]) _ hej
       exact ihj _ this (by omega)⟩
      rw [hnil] at this
      cases this
   ·obtain ⟨hlt, hli, haf⟩ := (n9 T hs).1 hi
    have hi0 : i < n0 := by
     apply Nat.lt_of_not_le
     intro hge
     apply hall
     intro j hj
     exact gN T hc haf (T.tail i hge (by simpa using hlt) j (by omega))
    have hDl : ∀ j, inD D j i = true → bB listed j = true := fun j hj => gN T hc haf hj
    have hAl : ∀ j, j < n0 → inD D i j = true → bB listed j = false := fun j _ hj => by
     cases hlj : bB listed j with
     | false => rfl
     | true =>
      have := gN T hc (hc j hlj) hj
      rw [hli] at this
      cases this
    have hget : ops.toList[i]? = some ops[i] := by simp [hlt]
    have hlen := hs
    have step := wF (Kont := wpAny E.P .any ops Q fuel (listed.setIfInBounds i true)) (Q := Q) F hi0 hget hli hDl hAl h fun a' w' h' => by
     have e := gU (listed := listed) (i := i) (by omega)
     refine ih _ a' w' (by simpa using hs) (fun j hj => ?_) (fun j hj e' hej => ?_) ?_ ?_
     ·rw [e]
      simp only [htl j hj, Bool.false_or]
      cases hb : Nat.beq j i with
      | false => rfl
      | true => have := Nat.eq_of_beq_eq_true hb; omega
     ·rw [e] at hj ⊢
      simp only [Bool.or_eq_true] at hj ⊢
      rcases hj with hj | hj
      ·exact .inl (hc j hj e' hej)
      ·rw [Nat.eq_of_beq_eq_true hj] at hej
       exact .inl (haf e' hej)
     ·rw [e]
      have := (oB hli (n := ops.size)).2 hlt
      omega
     ·rw [e]
      exact h'
    simp only [Array.toArray_toList] at step
    unfold wpOp
    rw [Array.getElem?_eq_getElem hlt]
    simp only
    split
    ·rename_i hw; exact .inl (step.1 hw)
    ·rename_i hw; exact step.2 (by simpa using hw)
theorem FU {D : List (List Nat)} {ops : List Oper} (T : pn ops D n0) (hl : yr ops n0 st0.tm.length = true) (hno : noB ops D R n0 st0 = true) : DBase ops D R n0 st0 := by
 simp only [yr, List.all_eq_true] at hl
 simp only [noB, List.all_eq_true] at hno
 have hno' : ∀ i, i < n0 → ∀ o, oAt R i = some o → _ := fun i hi o ho => by
  have := hno i (List.mem_range.2 hi)
  rw [ho] at this
  simp only [Bool.and_eq_true, List.all_eq_true] at this
  exact this
 refine ⟨T.le, T.nd, T.dst, fun j hj => Nat.le_of_ble_eq_true (hl j (List.mem_range.2 hj)), fun j hj hne => ?_, fun i hi hne => ?_, fun i j hi hj hne hd hji => ?_⟩
 ·obtain ⟨o, ho⟩ := Option.ne_none_iff_exists'.1 hne
  have := (hno' j hj o ho).1.1.1
  simpa using this
 ·obtain ⟨o, ho⟩ := Option.ne_none_iff_exists'.1 hne
  have := hno' i hi o ho
  exact ⟨this.1.1.2, this.1.2⟩
 ·obtain ⟨o, ho⟩ := Option.ne_none_iff_exists'.1 hne
  have := (hno' i hi o ho).2 j (List.mem_range.2 hj)
  simp only [hd, Bool.false_or, Bool.or_eq_true, Bool.and_eq_true] at this
  rcases this with this | ⟨h1, h2⟩
  ·exact absurd (Nat.eq_of_beq_eq_true this) hji
  ·refine ⟨h1, fun o' ho' => ?_⟩
   rw [ho'] at h2
   exact h2
end
def HG (E : ba) (S : bt) (c : Code) (K : Exit → ASt → Prop) : Nat → ASt → Prop
 | 0, _ => False
 | n + 1, st => AWP E S c (fun e st' => match e with
  | .normal => HG E S c K n st'
  | e => K e st') st
theorem AWP.unroll {E : ba} {S : bt} {c : Code} {K : Exit → ASt → Prop} {st : ASt} (n : Nat) (h : HG E S c K n st) : AWP E S (.loop c) K st := by
 refine ⟨fun a w hs => wp_loop_rounds n ?_⟩
 have key : ∀ n st a w, HG E S c K n st → cL E.W S st a w → Code.rounds E.P c (fun e a' w' => ∃ st', cL E.W S st' a' w' ∧ K e st') n a w := by
  intro n
  induction n with
  | zero => intro st a w h _; exact h.elim
  | succ n ih =>
   intro st a w h hs
   refine wp_mono ((show AWP E S c _ st from h).run a w hs) fun e a' w' h' => ?_
   obtain ⟨st', hs', hk⟩ := h'
   cases e with
   | normal => exact ih st' a' w' hk hs'
   | _ => exact ⟨st', hs', hk⟩
 exact key n st a w h hs
end Go.Proofs.YtcmknngafflcnaaGreat
