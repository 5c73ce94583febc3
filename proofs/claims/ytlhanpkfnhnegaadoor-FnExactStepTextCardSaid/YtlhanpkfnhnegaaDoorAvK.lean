/- Laws in the shapes that walks use: sums, elements, loops by their slots. -/
import Derived.Test.YtlhanpkfnhnegaaDoorAvJ
set_option linter.unusedVariables false
set_option linter.unusedSimpArgs false
set_option maxRecDepth 100000
namespace Go.Proofs.YtlhanpkfnhnegaaDoor
open Go.RowKit

abbrev dI (n : Int) : AD := .pv (.int .i64 n)
abbrev dB (b : Bool) : AD := .pv (.bool b)
abbrev dS (s : ByteArray) : AD := .pv (.string s)
abbrev dL (l : List UInt8) : AD := .pv (.string ⟨l.toArray⟩)
abbrev rB (b : Bool) : AP := .val (.one (dB b))
abbrev rI (n : Int) : AP := .val (.one (dI n))
abbrev rL (l : List UInt8) : AP := .val (.one (dL l))
abbrev pI (n : Int) : AP1 := .one (dI n)
abbrev pL (l : List UInt8) : AP1 := .one (dL l)
/-- A list of numbers. -/
def eI (n : Int) : List AD := [dI n]
abbrev dIs (l : List Int) : AD := .sl (l.map eI)

theorem wrap_i64_of {n : Int} (h0 : -9223372036854775808 ≤ n) (h1 : n ≤ 9223372036854775807) : IntKind.i64.wrap n = n := by rw [IntKind.wrap_i64]; omega
theorem AW.i64 {n : Int} {K : Int → Prop} (h0 : -9223372036854775808 ≤ n) (h1 : n ≤ 9223372036854775807) (h : K n) : AW .i64 n K := ⟨_, wrap_i64_of h0 h1, h⟩
theorem AW.as {k : IntKind} {n : Int} {K : Int → Prop} (m : Int) (e : k.wrap n = m) (h : K m) : AW k n K := ⟨m, e, h⟩
theorem AIx.map {α : Type} {enc : α → List AD} {l : List α} {k : Nat} {K : Nat → List AD → Prop} (hk : k < l.length) (h : K k (enc l[k])) : AIx (l.map enc) (k : Int) K :=
  ⟨k, enc l[k], rfl, by simp [hk], h⟩
theorem AIx.int {α : Type} {enc : α → List AD} {l : List α} {n : Int} {K : Nat → List AD → Prop} (h0 : 0 ≤ n) (hk : n.toNat < l.length) (h : K n.toNat (enc l[n.toNat])) : AIx (l.map enc) n K :=
  ⟨n.toNat, enc l[n.toNat], by omega, by simp [hk], h⟩
theorem AIx.at {xs : List (List AD)} {n : Int} {K : Nat → List AD → Prop} (k : Nat) (x : List AD) (hn : n = (k : Int)) (hx : xs[k]? = some x) (h : K k x) : AIx xs n K := ⟨k, x, hn, hx, h⟩

/-- Slots set, one after the other. -/
def aSets : List AV → List (Nat × AV) → (List AV → Prop) → Prop
  | tm, [], K => K tm
  | tm, (i, v) :: r, K => aPutL tm i v fun tm => aSets tm r K
def aDeads : List AV → List Nat → (List AV → Prop) → Prop
  | tm, [], K => K tm
  | tm, i :: r, K => aPutL tm i (.one .dead) fun tm => aDeads tm r K
/-- The head of a loop: the slots that the round writes are forgotten, but for those that are named. -/
def aHead (tm : List AV) (ws : List Nat) (sl : List (Nat × AV)) (K : List AV → Prop) : Prop := aDeads tm ws fun tm => aSets tm sl K
def setsL (tm : List AV) (sl : List (Nat × AV)) : List AV := sl.foldl (fun tm p => tm.set p.1 p.2) tm
def deadsL (tm : List AV) (ws : List Nat) : List AV := ws.foldl (fun tm i => tm.set i (.one .dead)) tm
theorem aSets_get : ∀ {sl : List (Nat × AV)} {tm : List AV} {K : List AV → Prop}, aSets tm sl K → K (setsL tm sl)
  | [], _, _, h => h
  | (i, v) :: r, tm, K, h => aSets_get (sl := r) (tm := tm.set i v) (aPutL_set (K := fun tm => aSets tm r K) h)
theorem aDeads_get : ∀ {ws : List Nat} {tm : List AV} {K : List AV → Prop}, aDeads tm ws K → K (deadsL tm ws)
  | [], _, _, h => h
  | i :: r, tm, K, h => aDeads_get (ws := r) (tm := tm.set i (.one .dead)) (aPutL_set (K := fun tm => aDeads tm r K) h)
theorem aHead_get {tm : List AV} {ws : List Nat} {sl : List (Nat × AV)} {K : List AV → Prop} (h : aHead tm ws sl K) : K (setsL (deadsL tm ws) sl) := aSets_get (aDeads_get (K := fun tm => aSets tm sl K) h)
/-- One list of slots says no more than another. -/
def aSub : List AV → List AV → Prop
  | [], [] => True
  | _ :: l, .one .dead :: m => aSub l m
  | x :: l, y :: m => x = y ∧ aSub l m
  | _, _ => False
theorem aSub_get : ∀ {l m : List AV}, aSub l m → SubL l m
  | [], [], _ => .nil
  | x :: l, y :: m, h => by
    unfold aSub at h
    split at h
    · cases ‹_ = []›
    · rename_i e1 e2
      injection e1 with a1 a2
      injection e2 with b1 b2
      subst a1 a2 b1 b2
      exact .cons (.dead _) (aSub_get h)
    · rename_i e1 e2
      injection e1 with a1 a2
      injection e2 with b1 b2
      subst a1 a2 b1 b2
      obtain ⟨rfl, h⟩ := h
      exact .cons (.refl _) (aSub_get h)
    · exact h.elim
  | [], _ :: _, h => by unfold aSub at h; exact h.elim
  | _ :: _, [], h => by unfold aSub at h; exact h.elim

section
variable {E : AEnv} {S : Base} {K : Exit → ASt → Prop}
/-- Where a round ends: the next one's ghost. -/
structure ANext {α : Type} (R : α → Prop) (μ : α → Nat) (x : α) (tm : List AV) (ws : List Nat) (sl : α → List (Nat × AV)) (ob' : α → List (Nat × AO)) (st' : ASt) : Prop where
  h : ∃ y, R y ∧ μ y < μ x ∧ (aHead tm ws (sl y) fun tm' => aSub st'.tm tm') ∧ SubO st'.ob (ob' y)
def loopK {α : Type} (R : α → Prop) (μ : α → Nat) (x : α) (tm : List AV) (ws : List Nat) (sl : α → List (Nat × AV)) (ob' : α → List (Nat × AO)) (K : Exit → ASt → Prop) : Exit → ASt → Prop
  | .normal, st' => ANext R μ x tm ws sl ob' st'
  | e, st' => K e st'
theorem AWP.loopS {α : Type} (R : α → Prop) (ws : List Nat) (sl : α → List (Nat × AV)) (ob' : α → List (Nat × AO)) (μ : α → Nat) (x0 : α) {c : Code} {tm : List AV} {ob : List (Nat × AO)} (h0 : R x0)
    (hsub : aHead tm ws (sl x0) fun tm' => aSub tm tm') (hob : SubO ob (ob' x0))
    (round : ∀ x, R x → aHead tm ws (sl x) fun tm' => AWP E S c (loopK R μ x tm ws sl ob' K) ⟨tm', ob' x⟩) : AWP E S (.loop c) K ⟨tm, ob⟩ := by
  refine AWP.loop R (fun x => ⟨setsL (deadsL tm ws) (sl x), ob' x⟩) μ x0 h0 (aSub_get (aHead_get hsub)) hob fun x hx => ?_
  have h := aHead_get (round x hx)
  refine ⟨fun a w hs => wp_mono (h.run a w hs) fun e a' w' h' => ?_⟩
  obtain ⟨st', hs', hk⟩ := h'
  refine ⟨st', hs', ?_⟩
  cases e with
  | normal =>
    obtain ⟨y, hy, hlt, h1, h2⟩ := (show ANext R μ x tm ws sl ob' st' from hk).h
    exact ⟨y, hy, hlt, aSub_get (aHead_get h1), h2⟩
  | _ => exact hk
end
end Go.Proofs.YtlhanpkfnhnegaaDoor
