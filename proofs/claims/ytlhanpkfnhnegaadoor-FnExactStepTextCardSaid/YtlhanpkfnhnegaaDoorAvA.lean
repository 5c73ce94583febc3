/- Abstract values: what a call's slots and its own objects hold, said without a world; how they read in a world. -/
import Derived.WalkKit
import Derived.Below
import Derived.Maps.AppendAt
import Derived.Laws.MakeOwn
import Derived.Laws.OwnMore
import Derived.OwnWalk
import Derived.Orders
set_option linter.unusedVariables false
set_option linter.unusedSimpArgs false
set_option maxRecDepth 100000
namespace Go.Proofs.YtlhanpkfnhnegaaDoor
open Go.RowKit

/-- Data: a plain one-cell value, or a slice by its elements (each by its cells). -/
inductive AD where
  | pv (v : Value)
  | sl (xs : List (List AD))
/-- What one cell holds. own: a slice of the call's own (object id) · ref: a pointer into an own object (element k of size s, cell off) · ptr: a pointer into standing memory, by the cells from there on. -/
inductive AC where
  | dead
  | und
  | d (x : AD)
  | nil
  | own (id : Nat)
  | ref (id k s off : Nat)
  | ptr (cs : List AD)
inductive AV where
  | one (c : AC)
  | agg (cs : List AC)
  | tup (vs : List AV)
/-- An object of the call's own: a variable in memory, or a slice that it appends to. -/
inductive AO where
  | cells (t : TypeId) (cs : List AC)
  | row (e : TypeId) (s : Nat) (xs : List (List AD))

def oget : List (Nat × AO) → Nat → Option AO
  | [], _ => none
  | (k, o) :: r, i => if k = i then some o else oget r i

/-- Cells that stand in memory. -/
def RowZ (Z : Nat → Prop) (w : World) (A : Option Addr) (us : List Value) : Prop :=
  us = [] ∨ ∃ b off, A = some ⟨b, off, none⟩ ∧ Z b ∧ ∀ i u, us[i]? = some u → w.cell? ⟨b, off + i, none⟩ = some u

inductive RelD (Z : Nat → Prop) (w : World) : AD → Value → Prop
  | pv (v : Value) (h1 : v.oneCell' = true) : RelD Z w (.pv v) v
  | sl (xs : List (List AD)) (A : Option Addr) (cap s : Nat) (us : List (List Value))
      (hc : xs.length ≤ cap) (hm : cap ≤ maxLen) (hl : us.length = xs.length)
      (hx : ∀ x ∈ xs, x.length = s) (hu : ∀ u ∈ us, u.length = s)
      (hr : RowZ Z w A us.flatten)
      (h : ∀ (i j : Nat) x u a b, xs[i]? = some x → us[i]? = some u → x[j]? = some a → u[j]? = some b → RelD Z w a b) :
      RelD Z w (.sl xs) (.slice A xs.length cap)

theorem RelD.one {Z : Nat → Prop} {w : World} {d : AD} {v : Value} (h : RelD Z w d v) : v.oneCell' = true := by
  cases h with
  | pv _ h1 => exact h1
  | sl => rfl

theorem RelD.mono {Z Z' : Nat → Prop} {w w' : World} (hz : ∀ b, Z b → Z' b) (hb : ∀ b, Z b → w'.heap[b]? = w.heap[b]?) {d : AD} {v : Value} (h : RelD Z w d v) : RelD Z' w' d v := by
  induction h with
  | pv v h1 => exact .pv v h1
  | sl xs A cap s us hc hm hl hx hu hr h ih =>
    refine .sl xs A cap s us hc hm hl hx hu ?_ ih
    rcases hr with h0 | ⟨b, off, hA, hZ, hcell⟩
    · exact .inl h0
    · exact .inr ⟨b, off, hA, hz b hZ, fun i u hu => (World.cell?_of_block (a := ⟨b, off + i, none⟩) (hb b hZ)).trans (hcell i u hu)⟩

/-- The block that a pointer or a slice leads to. -/
def blkOf : Value → Option Nat
  | .pointer (some a) => some a.block
  | .slice (some a) _ _ => some a.block
  | _ => none

/-- A pointer into standing memory: the cells from there on. -/
def PtrTo (Z : Nat → Prop) (w : World) (cs : List AD) (v : Value) : Prop :=
  ∃ (b off : Nat) (us : List Value), v = .pointer (some ⟨b, off, none⟩) ∧ Z b ∧ us.length = cs.length ∧ (∀ (i : Nat) u, us[i]? = some u → w.cell? ⟨b, off + i, none⟩ = some u) ∧ ∀ (i : Nat) a u, cs[i]? = some a → us[i]? = some u → RelD Z w a u

def RelC (Z : Nat → Prop) (w : World) (ρ : Nat → Value) : AC → Value → Prop
  | .dead, _ => True
  | .und, v => v = undef
  | .d x, v => RelD Z w x v
  | .nil, v => v = .slice none 0 0
  | .own id, v => v = ρ id ∧ v.oneCell' = true
  | .ref id k s off, v => ∃ b, blkOf (ρ id) = some b ∧ v = .pointer (some ⟨b, k * s + off, none⟩)
  | .ptr cs, v => PtrTo Z w cs v

inductive RelV (Z : Nat → Prop) (w : World) (ρ : Nat → Value) : AV → Value → Prop
  | one (c : AC) (v : Value) (h : RelC Z w ρ c v) : RelV Z w ρ (.one c) v
  | agg (cs : List AC) (us : List Value) (hl : us.length = cs.length) (h : ∀ (i : Nat) c u, cs[i]? = some c → us[i]? = some u → RelC Z w ρ c u) : RelV Z w ρ (.agg cs) (.agg us.toArray)
  | tup (vs : List AV) (us : List Value) (hl : us.length = vs.length) (h : ∀ (i : Nat) x u, vs[i]? = some x → us[i]? = some u → RelV Z w ρ x u) : RelV Z w ρ (.tup vs) (.tuple us.toArray)

def RelO (Z : Nat → Prop) (w : World) (ρ : Nat → Value) (id : Nat) : AO → Prop
  | .cells t cs => ∃ (b : Nat) (us : List Value), ρ id = .pointer (some ⟨b, 0, none⟩) ∧ w.heap[b]? = some (.cells us.toArray t (0, 0)) ∧ us.length = cs.length ∧ ∀ (i : Nat) c u, cs[i]? = some c → us[i]? = some u → RelC Z w ρ c u
  | .row e s xs => ∃ us : List (List Value), 0 < s ∧ us.length = xs.length ∧ (∀ x ∈ xs, x.length = s) ∧ (∀ u ∈ us, u.length = s) ∧ w.ownsRow 0 e s (ρ id) xs.length us.flatten ∧
      ∀ (i j : Nat) x u a b, xs[i]? = some x → us[i]? = some u → x[j]? = some a → u[j]? = some b → RelD Z w a b

section
variable {Z Z' : Nat → Prop} {w w' : World} {ρ : Nat → Value}
theorem PtrTo.mono (hz : ∀ b, Z b → Z' b) (hb : ∀ b, Z b → w'.heap[b]? = w.heap[b]?) {cs : List AD} {v : Value} (h : PtrTo Z w cs v) : PtrTo Z' w' cs v := by
  obtain ⟨b, off, us, hv, hZ, hl, hc, hd⟩ := h
  exact ⟨b, off, us, hv, hz b hZ, hl, fun i u hu => (World.cell?_of_block (a := ⟨b, off + i, none⟩) (hb b hZ)).trans (hc i u hu), fun i a u ha hu => (hd i a u ha hu).mono hz hb⟩
theorem RelC.mono (hz : ∀ b, Z b → Z' b) (hb : ∀ b, Z b → w'.heap[b]? = w.heap[b]?) {c : AC} {v : Value} (h : RelC Z w ρ c v) : RelC Z' w' ρ c v := by
  cases c with
  | d x => exact RelD.mono hz hb h
  | ptr cs => exact PtrTo.mono hz hb h
  | _ => exact h
theorem RelV.mono (hz : ∀ b, Z b → Z' b) (hb : ∀ b, Z b → w'.heap[b]? = w.heap[b]?) {x : AV} {v : Value} (h : RelV Z w ρ x v) : RelV Z' w' ρ x v := by
  induction h with
  | one c v h => exact .one c v (h.mono hz hb)
  | agg cs us hl h => exact .agg cs us hl fun i c u hc hu => (h i c u hc hu).mono hz hb
  | tup vs us hl h ih => exact .tup vs us hl ih
theorem RelO.mono (hz : ∀ b, Z b → Z' b) (hb : ∀ b, Z b → w'.heap[b]? = w.heap[b]?) {id : Nat} (ho : ∀ b, blkOf (ρ id) = some b → w'.heap[b]? = w.heap[b]?) {o : AO} (h : RelO Z w ρ id o) : RelO Z' w' ρ id o := by
  cases o with
  | cells t cs =>
    obtain ⟨b, us, hp, hg, hl, hc⟩ := h
    refine ⟨b, us, hp, (ho b (by rw [hp]; rfl)).trans hg, hl, fun i c u h1 h2 => (hc i c u h1 h2).mono hz hb⟩
  | row e s xs =>
    obtain ⟨us, hs, hl, hx, hu, hown, hd⟩ := h
    refine ⟨us, hs, hl, hx, hu, ⟨hown.1, ?_⟩, fun i j x u a b h1 h2 h3 h4 => (hd i j x u a b h1 h2 h3 h4).mono hz hb⟩
    rcases hown.2 with h0 | ⟨g, cap, cur, hv, hbg, hg, r⟩
    · exact .inl h0
    · exact .inr ⟨g, cap, cur, hv, hbg, (ho g (by rw [hv]; rfl)).trans hg, r⟩
end

/-- No word of object id is left. -/
def killC (id : Nat) : AC → AC
  | .own i => if i = id then .dead else .own i
  | .ref i k s off => if i = id then .dead else .ref i k s off
  | c => c
def killV (id : Nat) : AV → AV
  | .one c => .one (killC id c)
  | .agg cs => .agg (cs.map (killC id))
  | .tup _ => .one .dead
theorem killC_rel {Z : Nat → Prop} {w : World} {ρ : Nat → Value} {id : Nat} {c : AC} {v y : Value} (h : RelC Z w ρ c v) : RelC Z w (fun i => if i = id then y else ρ i) (killC id c) v := by
  cases c with
  | own i =>
    by_cases hn : i = id
    · simp only [killC, if_pos hn]; trivial
    · simp only [killC, if_neg hn]
      simpa only [RelC, if_neg hn] using h
  | ref i k s off =>
    by_cases hn : i = id
    · simp only [killC, if_pos hn]; trivial
    · simp only [killC, if_neg hn]
      simpa only [RelC, if_neg hn] using h
  | _ => exact h
theorem killV_rel {Z : Nat → Prop} {w : World} {ρ : Nat → Value} {id : Nat} {x : AV} {v y : Value} (h : RelV Z w ρ x v) : RelV Z w (fun i => if i = id then y else ρ i) (killV id x) v := by
  cases h with
  | one c v h => exact .one _ _ (killC_rel h)
  | agg cs us hl h =>
    refine .agg _ us (by simp [hl]) fun i c u hc hu => ?_
    rw [List.getElem?_map] at hc
    obtain ⟨c0, h0, rfl⟩ := Option.map_eq_some_iff.1 hc
    exact killC_rel (h i c0 u h0 hu)
  | tup vs us hl h => exact .one _ _ trivial
def killO (id : Nat) : AO → AO
  | .cells t cs => .cells t (cs.map (killC id))
  | .row e s xs => .row e s xs
theorem killO_rel {Z : Nat → Prop} {w : World} {ρ : Nat → Value} {id j : Nat} (hj : j ≠ id) {o : AO} {y : Value} (h : RelO Z w ρ j o) : RelO Z w (fun i => if i = id then y else ρ i) j (killO id o) := by
  cases o with
  | cells t cs =>
    obtain ⟨b, us, hp, hg, hl, hc⟩ := h
    refine ⟨b, us, by simp only [if_neg hj]; exact hp, hg, by simp [hl], fun i c u h1 h2 => ?_⟩
    rw [List.getElem?_map] at h1
    obtain ⟨c0, h0, rfl⟩ := Option.map_eq_some_iff.1 h1
    exact killC_rel (hc i c0 u h0 h2)
  | row e s xs =>
    obtain ⟨us, hs, hl, hx, hu, hown, hd⟩ := h
    exact ⟨us, hs, hl, hx, hu, by simp only [if_neg hj]; exact hown, hd⟩

def oset : List (Nat × AO) → Nat → AO → List (Nat × AO)
  | [], i, o => [(i, o)]
  | (k, x) :: r, i, o => if k = i then (i, o) :: r else (k, x) :: oset r i o
def okill (id : Nat) (ob : List (Nat × AO)) : List (Nat × AO) := ob.map fun p => (p.1, killO id p.2)
theorem oget_oset (ob : List (Nat × AO)) (i j : Nat) (o : AO) : oget (oset ob i o) j = if i = j then some o else oget ob j := by
  induction ob with
  | nil => simp [oset, oget]
  | cons p r ih =>
    obtain ⟨k, x⟩ := p
    simp only [oset]
    split
    · rename_i h; subst h; simp only [oget]; split <;> simp_all
    · rename_i h
      simp only [oget, ih]
      split
      · rename_i h2; subst h2; rw [if_neg (fun e => h e.symm)]
      · rfl
theorem oget_okill (ob : List (Nat × AO)) (id j : Nat) : oget (okill id ob) j = (oget ob j).map (killO id) := by
  induction ob with
  | nil => rfl
  | cons p r ih =>
    obtain ⟨k, x⟩ := p
    simp only [okill, List.map_cons, oget] at *
    split
    · rfl
    · exact ih
theorem RelO.blk_lt {Z : Nat → Prop} {w : World} {ρ : Nat → Value} {id : Nat} {o : AO} (h : RelO Z w ρ id o) : ∀ b, blkOf (ρ id) = some b → b < w.heap.size := by
  intro b hb
  cases o with
  | cells t cs =>
    obtain ⟨b', us, hp, hg, _⟩ := h
    rw [hp] at hb
    injection hb with hb
    subst hb
    exact (Array.getElem?_eq_some_iff.1 hg).1
  | row e s xs =>
    obtain ⟨us, _, _, _, _, hown, _⟩ := h
    refine (hown.lt b ?_).2
    revert hb
    unfold blkOf Value.ownBlock
    cases hv : ρ id with
    | pointer a =>
      exfalso
      rcases hown.2 with ⟨h0, _⟩ | ⟨g, cap, cur, h0, _⟩ <;> rw [hv] at h0 <;> cases h0
    | slice a n c => cases a <;> simp
    | _ => simp
end Go.Proofs.YtlhanpkfnhnegaaDoor
