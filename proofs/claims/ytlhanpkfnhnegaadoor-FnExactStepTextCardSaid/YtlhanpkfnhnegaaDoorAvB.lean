/- The world behind abstract values: which blocks stand, which are the call's own; one step of the world. -/
import Derived.Test.YtlhanpkfnhnegaaDoorAvA
set_option linter.unusedVariables false
set_option linter.unusedSimpArgs false
set_option maxRecDepth 100000
namespace Go.Proofs.YtlhanpkfnhnegaaDoor
open Go.RowKit

structure ASt where
  tm : List AV
  ob : List (Nat × AO)

/-- A fact on the world that stands while old memory stands. -/
def GZ (T : World → Prop) (Z : Nat → Prop) (w : World) : Prop := ∃ w1, T w1 ∧ Below w1.heap.size w1 w ∧ ∀ b, b < w1.heap.size → Z b

structure Base where
  w0 : World
  O : Nat → Prop
  Z0 : Nat → Prop

structure WS (T : World → Prop) (S : Base) (Z : Nat → Prop) (w : World) (ρ : Nat → Value) (ob : List (Nat × AO)) : Prop where
  os : w.os = S.w0.os
  tape : w.tape = S.w0.tape
  output : w.output = S.w0.output
  size : S.w0.heap.size ≤ w.heap.size
  old : ∀ b, b < S.w0.heap.size → ¬ S.O b → w.heap[b]? = S.w0.heap[b]?
  zlt : ∀ b, Z b → b < w.heap.size
  mine : ∀ id o b, oget ob id = some o → blkOf (ρ id) = some b → ¬ Z b ∧ (S.w0.heap.size ≤ b ∨ S.O b)
  sep : ∀ i j oi oj b, oget ob i = some oi → oget ob j = some oj → i ≠ j → blkOf (ρ i) = some b → blkOf (ρ j) = some b → False
  obj : ∀ id o, oget ob id = some o → RelO Z w ρ id o
  g : GZ T Z w
  z0 : ∀ b, S.Z0 b → Z b
  znew : ∀ b, Z b → S.Z0 b ∨ S.w0.heap.size ≤ b

theorem GZ.step {T : World → Prop} {Z Z' : Nat → Prop} {w w' : World} {row : Option Nat} (h : GZ T Z w) (hg : w.grownBy w' row) (hr : ∀ g, row = some g → ¬ Z g) (hz : ∀ b, Z b → Z' b) : GZ T Z' w' := by
  obtain ⟨w1, h1, hb, hz1⟩ := h
  refine ⟨w1, h1, ⟨hg.os.trans hb.os, hg.tape.trans hb.tape, hg.output.trans hb.output, Nat.le_trans hb.size hg.size, fun k hk => ?_⟩, fun b hb => hz b (hz1 b hb)⟩
  exact (hg.block k (Nat.lt_of_lt_of_le hk hb.size) (fun e => hr k e.symm (hz1 k hk))).trans (hb.block k hk)

section
variable {T : World → Prop} {S : Base} {Z Z' : Nat → Prop} {w w' : World} {ρ : Nat → Value} {ob : List (Nat × AO)}

theorem WS.lt (h : WS T S Z w ρ ob) {id : Nat} {o : AO} {b : Nat} (ho : oget ob id = some o) (hb : blkOf (ρ id) = some b) : b < w.heap.size := (h.obj id o ho).blk_lt b hb

/-- What stands is as it was. -/
theorem WS.zsame (h : WS T S Z w ρ ob) {row : Option Nat} (hg : w.grownBy w' row) (hr : ∀ g, row = some g → ¬ Z g) : ∀ b, Z b → w'.heap[b]? = w.heap[b]? :=
  fun b hb => hg.block b (h.zlt b hb) (fun e => hr b e.symm hb)

/-- The world grows; no own object is written. -/
theorem WS.grow (h : WS T S Z w ρ ob) (hg : w.grownBy w' none) (hz : ∀ b, Z b → Z' b) (hz2 : ∀ b, Z' b → Z b ∨ (w.heap.size ≤ b ∧ b < w'.heap.size)) : WS T S Z' w' ρ ob := by
  have hzs := h.zsame hg (by simp)
  refine ⟨hg.os.trans h.os, hg.tape.trans h.tape, hg.output.trans h.output, Nat.le_trans h.size hg.size, fun b hb ho => (hg.block b (Nat.lt_of_lt_of_le hb h.size) (by simp)).trans (h.old b hb ho), fun b hb => ?_, fun id o b ho hb => ?_, h.sep, fun id o ho => ?_, h.g.step hg (by simp) hz, fun b hb => hz b (h.z0 b hb), fun b hb => ?_⟩
  · rcases hz2 b hb with hb | hb
    · exact Nat.lt_of_lt_of_le (h.zlt b hb) hg.size
    · exact hb.2
  · obtain ⟨h1, h2⟩ := h.mine id o b ho hb
    refine ⟨fun hzb => ?_, h2⟩
    rcases hz2 b hzb with hb' | hb'
    · exact h1 hb'
    · have := h.lt ho hb; omega
  · exact (h.obj id o ho).mono hz hzs fun b hb => hg.block b (h.lt ho hb) (by simp)
  · rcases hz2 b hb with hb | hb
    · exact h.znew b hb
    · have := h.size; exact .inr (by omega)

/-- An object becomes anew: whatever named it is forgotten; its new block is its old one or a new one. -/
theorem WS.renew (h : WS T S Z w ρ ob) (id : Nat) (y : Value) (o' : AO) {row : Option Nat} (hg : w.grownBy w' row)
    (hrow : ∀ g, row = some g → (∃ o, oget ob id = some o) ∧ blkOf (ρ id) = some g)
    (hy : ∀ b, blkOf y = some b → ((∃ o, oget ob id = some o) ∧ blkOf (ρ id) = some b) ∨ w.heap.size ≤ b)
    (hrel : RelO Z w' (fun i => if i = id then y else ρ i) id o') : WS T S Z w' (fun i => if i = id then y else ρ i) (oset (okill id ob) id o') := by
  have hr : ∀ g, row = some g → ¬ Z g := by
    intro g e
    obtain ⟨⟨o, ho⟩, hb⟩ := hrow g e
    exact (h.mine id o g ho hb).1
  have hzs := h.zsame hg hr
  have old : ∀ j o, j ≠ id → oget (oset (okill id ob) id o') j = some o → ∃ o0, oget ob j = some o0 ∧ o = killO id o0 := by
    intro j o hj ho
    rw [oget_oset, if_neg (fun e => hj e.symm), oget_okill] at ho
    obtain ⟨o0, h0, h1⟩ := Option.map_eq_some_iff.1 ho
    exact ⟨o0, h0, h1.symm⟩
  have far : ∀ j o0 b, j ≠ id → oget ob j = some o0 → blkOf (ρ j) = some b → w'.heap[b]? = w.heap[b]? := by
    intro j o0 b hj h0 hb
    refine hg.block b (h.lt h0 hb) (fun e => ?_)
    obtain ⟨⟨o, ho⟩, hb2⟩ := hrow b e.symm
    exact h.sep j id o0 o b h0 ho hj hb hb2
  refine ⟨hg.os.trans h.os, hg.tape.trans h.tape, hg.output.trans h.output, Nat.le_trans h.size hg.size, fun b hb ho => ?_, fun b hb => Nat.lt_of_lt_of_le (h.zlt b hb) hg.size, fun j o b ho hb => ?_, fun i j oi oj b hi hj hij hbi hbj => ?_, fun j o ho => ?_, h.g.step hg hr (fun _ h => h), h.z0, h.znew⟩
  · refine (hg.block b (Nat.lt_of_lt_of_le hb h.size) (fun e => ?_)).trans (h.old b hb ho)
    obtain ⟨⟨o, ho'⟩, hb2⟩ := hrow b e.symm
    rcases (h.mine id o b ho' hb2).2 with h3 | h3
    · omega
    · exact ho h3
  · by_cases hj : j = id
    · subst hj
      simp only [if_true] at hb
      rcases hy b hb with ⟨⟨o0, h0⟩, hb0⟩ | hb0
      · exact h.mine j o0 b h0 hb0
      · refine ⟨fun hz => ?_, .inl ?_⟩
        · have := h.zlt b hz; omega
        · have := h.size; omega
    · obtain ⟨o0, h0, _⟩ := old j o hj ho
      simp only [if_neg hj] at hb
      exact h.mine j o0 b h0 hb
  · by_cases hi0 : i = id
    · subst hi0
      have hj0 : j ≠ i := fun e => hij e.symm
      obtain ⟨o0, h0, _⟩ := old j oj hj0 hj
      simp only [if_neg hj0, if_true] at hbi hbj
      rcases hy b hbi with ⟨⟨o1, h1⟩, hb1⟩ | hb1
      · exact h.sep i j o1 o0 b h1 h0 hij hb1 hbj
      · have := h.lt h0 hbj; omega
    · obtain ⟨o0, h0, _⟩ := old i oi hi0 hi
      simp only [if_neg hi0] at hbi
      by_cases hj0 : j = id
      · subst hj0
        simp only [if_true] at hbj
        rcases hy b hbj with ⟨⟨o1, h1⟩, hb1⟩ | hb1
        · exact h.sep i j o0 o1 b h0 h1 hij hbi hb1
        · have := h.lt h0 hbi; omega
      · obtain ⟨o1, h1, _⟩ := old j oj hj0 hj
        simp only [if_neg hj0] at hbj
        exact h.sep i j o0 o1 b h0 h1 hij hbi hbj
  · by_cases hj : j = id
    · subst hj
      rw [oget_oset, if_pos rfl] at ho
      injection ho with ho
      subst ho
      exact hrel
    · obtain ⟨o0, h0, rfl⟩ := old j o hj ho
      refine killO_rel hj ((h.obj j o0 h0).mono (fun _ h => h) hzs fun b hb => far j o0 b hj h0 hb)

/-- An object is written: its block and its names stay. -/
theorem WS.upd (h : WS T S Z w ρ ob) (id : Nat) (o o' : AO) {g : Nat} (ho : oget ob id = some o) (hb : blkOf (ρ id) = some g) (hg : w.grownBy w' (some g))
    (hrel : RelO Z w' ρ id o') : WS T S Z w' ρ (oset ob id o') := by
  have hr : ∀ k, some g = some k → ¬ Z k := by
    rintro k ⟨rfl⟩
    exact (h.mine id o g ho hb).1
  have hzs := h.zsame hg hr
  have old : ∀ j o1, oget (oset ob id o') j = some o1 → ∃ o0, oget ob j = some o0 ∧ (j ≠ id → o1 = o0) := by
    intro j o1 h1
    rw [oget_oset] at h1
    split at h1
    · rename_i e; subst e; exact ⟨o, ho, fun h => absurd rfl h⟩
    · exact ⟨o1, h1, fun _ => rfl⟩
  refine ⟨hg.os.trans h.os, hg.tape.trans h.tape, hg.output.trans h.output, Nat.le_trans h.size hg.size, fun b hb' ho' => ?_, fun b hb => Nat.lt_of_lt_of_le (h.zlt b hb) hg.size, fun j o1 b h1 hb1 => ?_, fun i j oi oj b hi hj hij hbi hbj => ?_, fun j o1 h1 => ?_, h.g.step hg hr (fun _ h => h), h.z0, h.znew⟩
  · refine (hg.block b (Nat.lt_of_lt_of_le hb' h.size) (fun e => ?_)).trans (h.old b hb' ho')
    injection e with e
    subst e
    rcases (h.mine id o b ho hb).2 with h3 | h3
    · omega
    · exact ho' h3
  · obtain ⟨o0, h0, _⟩ := old j o1 h1
    exact h.mine j o0 b h0 hb1
  · obtain ⟨o0, h0, _⟩ := old i oi hi
    obtain ⟨o2, h2, _⟩ := old j oj hj
    exact h.sep i j o0 o2 b h0 h2 hij hbi hbj
  · by_cases hj : j = id
    · subst hj
      rw [oget_oset, if_pos rfl] at h1
      injection h1 with h1
      subst h1
      exact hrel
    · obtain ⟨o0, h0, e⟩ := old j o1 h1
      rw [e hj]
      refine (h.obj j o0 h0).mono (fun _ h => h) hzs fun b hb1 => hg.block b (h.lt h0 hb1) (fun e => ?_)
      injection e with e
      subst e
      exact h.sep j id o0 o b h0 ho hj hb1 hb
end

structure Sim (T : World → Prop) (S : Base) (Z : Nat → Prop) (ρ : Nat → Value) (st : ASt) (a : Act) (w : World) : Prop where
  ws : WS T S Z w ρ st.ob
  len : a.tmps.size = st.tm.length
  tm : ∀ (i : Nat) x v, st.tm[i]? = some x → a.tmps[i]? = some v → RelV Z w ρ x v
  df : a.defers = []
def SimX (T : World → Prop) (S : Base) (st : ASt) (a : Act) (w : World) : Prop := ∃ Z ρ, Sim T S Z ρ st a w

/-- A slot is written. -/
def putT (tm : List AV) (d : Option Tmp) (x : AV) : List AV := match d with | none => tm | some i => tm.set i x
theorem Sim.put {T : World → Prop} {S : Base} {Z : Nat → Prop} {ρ : Nat → Value} {st : ASt} {a : Act} {w : World} (h : Sim T S Z ρ st a w) (d : Option Tmp) {x : AV} {v : Value} (hx : RelV Z w ρ x v) : Sim T S Z ρ ⟨putT st.tm d x, st.ob⟩ (a.put d v) w := by
  cases d with
  | none => exact ⟨h.ws, h.len, h.tm, h.df⟩
  | some i =>
    refine ⟨h.ws, by simp [putT, Act.put, h.len], fun j y u hy hu => ?_, h.df⟩
    simp only [putT, Act.put] at hy hu
    rw [List.getElem?_set] at hy
    rw [Array.getElem?_setIfInBounds] at hu
    by_cases hij : i = j
    · subst hij
      by_cases hlt : i < st.tm.length
      · have hlt2 : i < a.tmps.size := by rw [h.len]; exact hlt
        simp only [if_true, if_pos hlt] at hy
        simp only [if_true, if_pos hlt2] at hu
        injection hy with hy
        injection hu with hu
        subst hy hu
        exact hx
      · simp [hlt] at hy
    · rw [if_neg hij] at hy hu
      exact h.tm j y u hy hu
theorem Sim.grow {T : World → Prop} {S : Base} {Z Z' : Nat → Prop} {ρ : Nat → Value} {st : ASt} {a : Act} {w w' : World} (h : Sim T S Z ρ st a w) (hg : w.grownBy w' none) (hz : ∀ b, Z b → Z' b) (hz2 : ∀ b, Z' b → Z b ∨ (w.heap.size ≤ b ∧ b < w'.heap.size)) : Sim T S Z' ρ st a w' :=
  ⟨h.ws.grow hg hz hz2, h.len, fun i x v hx hv => (h.tm i x v hx hv).mono hz (h.ws.zsame hg (by simp)), h.df⟩
def killSt (id : Nat) (st : ASt) : ASt := ⟨st.tm.map (killV id), okill id st.ob⟩
theorem Sim.renew {T : World → Prop} {S : Base} {Z : Nat → Prop} {ρ : Nat → Value} {st : ASt} {a : Act} {w w' : World} (h : Sim T S Z ρ st a w) (id : Nat) (y : Value) (o' : AO) {row : Option Nat} (hg : w.grownBy w' row)
    (hrow : ∀ g, row = some g → (∃ o, oget st.ob id = some o) ∧ blkOf (ρ id) = some g)
    (hy : ∀ b, blkOf y = some b → ((∃ o, oget st.ob id = some o) ∧ blkOf (ρ id) = some b) ∨ w.heap.size ≤ b)
    (hrel : RelO Z w' (fun i => if i = id then y else ρ i) id o') : Sim T S Z (fun i => if i = id then y else ρ i) ⟨(killSt id st).tm, oset (killSt id st).ob id o'⟩ a w' := by
  refine ⟨h.ws.renew id y o' hg hrow hy hrel, by simp [killSt, h.len], fun i x v hx hv => ?_, h.df⟩
  simp only [killSt, List.getElem?_map] at hx
  obtain ⟨x0, h0, rfl⟩ := Option.map_eq_some_iff.1 hx
  refine killV_rel ((h.tm i x0 v h0 hv).mono (fun _ h => h) (h.ws.zsame hg ?_))
  intro g e
  obtain ⟨⟨o, ho⟩, hb⟩ := hrow g e
  exact (h.ws.mine id o g ho hb).1
theorem Sim.upd {T : World → Prop} {S : Base} {Z : Nat → Prop} {ρ : Nat → Value} {st : ASt} {a : Act} {w w' : World} (h : Sim T S Z ρ st a w) (id : Nat) (o o' : AO) {g : Nat} (ho : oget st.ob id = some o) (hb : blkOf (ρ id) = some g) (hg : w.grownBy w' (some g))
    (hrel : RelO Z w' ρ id o') : Sim T S Z ρ ⟨st.tm, oset st.ob id o'⟩ a w' := by
  refine ⟨h.ws.upd id o o' ho hb hg hrel, h.len, fun i x v hx hv => (h.tm i x v hx hv).mono (fun _ h => h) (h.ws.zsame hg ?_), h.df⟩
  rintro k ⟨rfl⟩
  exact (h.ws.mine id o g ho hb).1
end Go.Proofs.YtlhanpkfnhnegaaDoor
