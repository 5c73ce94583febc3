/- Writing into one element of a slice of the call's own; numbers laid through a value ('mark'). -/
import Derived.Test.YtlhanpkfnhnegaaDoorEq
set_option linter.unusedVariables false
set_option linter.unusedSimpArgs false
set_option maxRecDepth 100000
namespace Go.Proofs.YtlhanpkfnhnegaaDoor
open Go.ChangeShapes Go.WideShapes Go.RowKit

section
variable {α : Type} {R : Rep α} {w w' : World} {B : Nat}

theorem Rep.all_focus : ∀ {l : List α} {cs : List Value} {F : List Nat}, R.all w cs l F → ∀ {k : Nat} (hk : k < l.length),
    ∃ c1 c c2 F1 Fk F2, cs = c1 ++ c ++ c2 ∧ c1.length = k * R.size ∧ F = F1 ++ Fk ++ F2 ∧ R.all w c1 (l.take k) F1 ∧ R.rd w c l[k] Fk ∧ R.all w c2 (l.drop (k + 1)) F2
  | [], _, _, _, k, hk => absurd hk (Nat.not_lt_zero _)
  | a :: l, _, _, ⟨c1, c2, F1, F2, rfl, rfl, h1, h2⟩, 0, _ => ⟨[], c1, c2, [], F1, F2, by simp, by simp, by simp, ⟨rfl, rfl⟩, h1, h2⟩
  | a :: l, _, _, ⟨c1, c2, F1, F2, rfl, rfl, h1, h2⟩, k + 1, hk => by
    obtain ⟨d1, d, d2, G1, Gk, G2, rfl, hl, rfl, k1, k2, k3⟩ := Rep.all_focus h2 (k := k) (by simpa using hk)
    exact ⟨c1 ++ d1, d, d2, F1 ++ G1, Gk, G2, by simp, by rw [List.length_append, R.len h1, hl, Nat.add_mul]; omega, by simp, ⟨c1, d1, F1, G1, rfl, rfl, h1, k1⟩, k2, k3⟩

theorem Rep.all_unfocus {l : List α} {k : Nat} (hk : k < l.length) {c1 c c2 : List Value} {F1 Fk F2 : List Nat} {a : α} (h1 : R.all w c1 (l.take k) F1) (h2 : R.rd w c a Fk) (h3 : R.all w c2 (l.drop (k + 1)) F2) :
    R.all w (c1 ++ c ++ c2) (l.set k a) (F1 ++ Fk ++ F2) := by
  rw [show l.set k a = l.take k ++ [a] ++ l.drop (k + 1) by rw [List.set_eq_take_append_cons_drop, if_pos hk]; simp]
  exact Rep.all_append (Rep.all_snoc h1 h2) h3

/-- THE LENS: element k of a slice of the call's own, and how the slice reads once that element has turned. -/
theorem Res.lens {A : Option Addr} {n cap : Nat} {l : List α} {F : List Nat} (h : Res R.sl B w [.slice A n cap] l F) (hs : 0 < R.size) {k : Nat} (hk : k < l.length) :
    ∃ b off c Fk, A = some ⟨b, off, none⟩ ∧ b ∈ F ∧ b ∉ Fk ∧ (∀ g ∈ Fk, g ∈ F) ∧ B ≤ b ∧ b < w.heap.size ∧ Res R B w c l[k] Fk ∧ (∀ j u, c[j]? = some u → w.cell? ⟨b, off + k * R.size + j, none⟩ = some u) ∧ (∀ o, w.frozen? ⟨b, o, none⟩ = false) ∧
      ∀ w' c' a', Res R B w' c' a' Fk → (∀ j u, c'[j]? = some u → w'.cell? ⟨b, off + k * R.size + j, none⟩ = some u) →
        (∀ o, (o < off + k * R.size ∨ off + k * R.size + R.size ≤ o) → w'.cell? ⟨b, o, none⟩ = w.cell? ⟨b, o, none⟩) → (∃ cur t, w'.heap[b]? = some (.cells cur t (0, 0))) →
        (∀ g ∈ F, g ≠ b → g ∉ Fk → w'.heap[g]? = w.heap[g]?) → Res R.sl B w' [.slice A n cap] (l.set k a') F := by
  obtain ⟨hrd, hfr⟩ := h
  obtain ⟨rfl, hc1, hc2, xs, F0, hr, ha, rfl⟩ := Rep.sl_open hrd
  obtain ⟨c1, c, c2, F1, Fk, F2, rfl, hl1, rfl, k1, k2, k3⟩ := Rep.all_focus ha hk
  have hcl := R.len k2
  have hne : c1 ++ c ++ c2 ≠ [] := by
    intro e
    have := congrArg List.length e
    simp only [List.length_append, List.length_nil] at this
    omega
  obtain ⟨b, off, rfl, hbl, hc⟩ := hr 0 (List.length_pos_iff.2 hne)
  have hhead : headOf (some ⟨b, off, none⟩) (c1 ++ c ++ c2) = [b] := by unfold headOf; rw [if_neg hne]
  rw [hhead] at hfr ⊢
  have hnd := hfr.1
  have hb1 := hfr.2 b (by simp)
  obtain ⟨hBb, cur, t, hcur⟩ := hb1
  have hnot : ∀ g ∈ F1 ++ Fk ++ F2, g ≠ b := fun g hg e => by
    subst e
    exact (List.nodup_cons.1 hnd).1 hg
  have hnd2 : (F1 ++ Fk ++ F2).Nodup := (List.nodup_cons.1 hnd).2
  have hsub : Fk.Sublist ([b] ++ (F1 ++ Fk ++ F2)) := by
    refine List.Sublist.trans ?_ (List.sublist_append_right _ _)
    exact List.Sublist.trans (List.sublist_append_right F1 Fk) (List.sublist_append_left _ _)
  refine ⟨b, off, c, Fk, rfl, by simp, fun hm => hnot b (by simp [hm]) rfl, fun g hg => by simp [hg], hBb, hbl, ⟨k2, hfr.sub hsub⟩, ?_, ?_, ?_⟩
  · intro j u hu
    rw [Nat.add_assoc]
    refine hc _ _ ?_
    rw [List.append_assoc, List.getElem?_append_right (by omega), hl1, Nat.add_sub_cancel_left, List.getElem?_append_left (List.getElem?_eq_some_iff.1 hu).1]
    exact hu
  · intro o
    simp [World.frozen?, hcur]
  · intro w' c' a' hr' hcells hother ⟨cur', t', hcur'⟩ hrest
    have hcl' := R.len hr'.rd
    have hF1 : ∀ g ∈ F1, w'.heap[g]? = w.heap[g]? := fun g hg => hrest g (by simp [hg]) (hnot g (by simp [hg])) (fun hm => by
      have := (List.nodup_append.1 (List.nodup_append.1 hnd2).1).2.2 g hg g hm
      exact this rfl)
    have hF2 : ∀ g ∈ F2, w'.heap[g]? = w.heap[g]? := fun g hg => hrest g (by simp [hg]) (hnot g (by simp [hg])) (fun hm => by
      have := (List.nodup_append.1 hnd2).2.2 g (by simp [hm]) g hg
      exact this rfl)
    have hb' : b < w'.heap.size := (Array.getElem?_eq_some_iff.1 hcur').1
    have hall : R.all w' (c1 ++ c' ++ c2) (l.set k a') (F1 ++ Fk ++ F2) := Rep.all_unfocus hk (Rep.all_keep k1 hF1) hr'.rd (Rep.all_keep k3 hF2)
    have hne' : c1 ++ c' ++ c2 ≠ [] := by
      intro e
      have := congrArg List.length e
      simp only [List.length_append, List.length_nil] at this
      omega
    have hrow : Row w' (some ⟨b, off, none⟩) (c1 ++ c' ++ c2) := by
      intro j0 _
      refine ⟨b, off, rfl, hb', fun i u hu => ?_⟩
      by_cases h1 : i < k * R.size
      · rw [hother _ (.inl (by omega))]
        refine hc i u ?_
        rw [List.append_assoc, List.getElem?_append_left (by omega)] at hu ⊢
        exact hu
      · by_cases h2 : i < k * R.size + R.size
        · have := hcells (i - k * R.size) u (by
            rw [List.append_assoc, List.getElem?_append_right (by omega), List.getElem?_append_left (by omega), hl1] at hu
            exact hu)
          rw [show off + k * R.size + (i - k * R.size) = off + i by omega] at this
          exact this
        · rw [hother _ (.inr (by omega))]
          refine hc i u ?_
          rw [List.getElem?_append_right (by rw [List.length_append]; omega)] at hu ⊢
          rw [List.length_append] at hu ⊢
          rw [hcl]
          rwa [hcl'] at hu
    refine ⟨?_, hfr.1, fun g hg => ⟨(hfr.2 g hg).1, ?_⟩⟩
    · refine ⟨some ⟨b, off, none⟩, cap, c1 ++ c' ++ c2, F1 ++ Fk ++ F2, by simp, by simpa using hc1, hc2, hrow, hall, ?_⟩
      unfold headOf
      rw [if_neg hne']
    · by_cases e : g = b
      · subst e; exact ⟨cur', t', hcur'⟩
      · by_cases hm : g ∈ Fk
        · exact (hr'.fresh.2 g hm).2
        · rw [hrest g hg e hm]; exact (hfr.2 g hg).2

/-- The same, the element leading to other blocks afterwards. -/
theorem Res.lens_new {A : Option Addr} {n cap : Nat} {l : List α} {F : List Nat} (h : Res R.sl B w [.slice A n cap] l F) (hs : 0 < R.size) {k : Nat} (hk : k < l.length) :
    ∃ b off c Fk, A = some ⟨b, off, none⟩ ∧ b ∈ F ∧ b ∉ Fk ∧ (∀ g ∈ Fk, g ∈ F) ∧ B ≤ b ∧ b < w.heap.size ∧ Res R B w c l[k] Fk ∧ (∀ j u, c[j]? = some u → w.cell? ⟨b, off + k * R.size + j, none⟩ = some u) ∧ (∀ o, w.frozen? ⟨b, o, none⟩ = false) ∧
      ∀ w' c' a' Fn, Res R B w' c' a' Fn → (∀ g ∈ Fn, g ∈ Fk ∨ w.heap.size ≤ g) → (∀ j u, c'[j]? = some u → w'.cell? ⟨b, off + k * R.size + j, none⟩ = some u) →
        (∀ o, (o < off + k * R.size ∨ off + k * R.size + R.size ≤ o) → w'.cell? ⟨b, o, none⟩ = w.cell? ⟨b, o, none⟩) → (∃ cur t, w'.heap[b]? = some (.cells cur t (0, 0))) →
        (∀ g ∈ F, g ≠ b → g ∉ Fk → w'.heap[g]? = w.heap[g]?) → ∃ F', Res R.sl B w' [.slice A n cap] (l.set k a') F' ∧ ∀ g ∈ F', g ∈ F ∨ g ∈ Fn := by
  obtain ⟨hrd, hfr⟩ := h
  obtain ⟨rfl, hc1, hc2, xs, F0, hr, ha, rfl⟩ := Rep.sl_open hrd
  obtain ⟨c1, c, c2, F1, Fk, F2, rfl, hl1, rfl, k1, k2, k3⟩ := Rep.all_focus ha hk
  have hcl := R.len k2
  have hne : c1 ++ c ++ c2 ≠ [] := by
    intro e
    have := congrArg List.length e
    simp only [List.length_append, List.length_nil] at this
    omega
  obtain ⟨b, off, rfl, hbl, hc⟩ := hr 0 (List.length_pos_iff.2 hne)
  have hhead : headOf (some ⟨b, off, none⟩) (c1 ++ c ++ c2) = [b] := by unfold headOf; rw [if_neg hne]
  rw [hhead] at hfr ⊢
  have hnd := hfr.1
  have hb1 := hfr.2 b (by simp)
  obtain ⟨hBb, cur, t, hcur⟩ := hb1
  have hnot : ∀ g ∈ F1 ++ Fk ++ F2, g ≠ b := fun g hg e => by
    subst e
    exact (List.nodup_cons.1 hnd).1 hg
  have hnd2 : (F1 ++ Fk ++ F2).Nodup := (List.nodup_cons.1 hnd).2
  have hsub : Fk.Sublist ([b] ++ (F1 ++ Fk ++ F2)) := by
    refine List.Sublist.trans ?_ (List.sublist_append_right _ _)
    exact List.Sublist.trans (List.sublist_append_right F1 Fk) (List.sublist_append_left _ _)
  refine ⟨b, off, c, Fk, rfl, by simp, fun hm => hnot b (by simp [hm]) rfl, fun g hg => by simp [hg], hBb, hbl, ⟨k2, hfr.sub hsub⟩, ?_, ?_, ?_⟩
  · intro j u hu
    rw [Nat.add_assoc]
    refine hc _ _ ?_
    rw [List.append_assoc, List.getElem?_append_right (by omega), hl1, Nat.add_sub_cancel_left, List.getElem?_append_left (List.getElem?_eq_some_iff.1 hu).1]
    exact hu
  · intro o
    simp [World.frozen?, hcur]
  · intro w' c' a' Fn hr' hFn hcells hother ⟨cur', t', hcur'⟩ hrest
    have hcl' := R.len hr'.rd
    have hF1 : ∀ g ∈ F1, w'.heap[g]? = w.heap[g]? := fun g hg => hrest g (by simp [hg]) (hnot g (by simp [hg])) (fun hm => by
      have := (List.nodup_append.1 (List.nodup_append.1 hnd2).1).2.2 g hg g hm
      exact this rfl)
    have hF2 : ∀ g ∈ F2, w'.heap[g]? = w.heap[g]? := fun g hg => hrest g (by simp [hg]) (hnot g (by simp [hg])) (fun hm => by
      have := (List.nodup_append.1 hnd2).2.2 g (by simp [hm]) g hg
      exact this rfl)
    have hb' : b < w'.heap.size := (Array.getElem?_eq_some_iff.1 hcur').1
    have hall : R.all w' (c1 ++ c' ++ c2) (l.set k a') (F1 ++ Fn ++ F2) := Rep.all_unfocus hk (Rep.all_keep k1 hF1) hr'.rd (Rep.all_keep k3 hF2)
    have hne' : c1 ++ c' ++ c2 ≠ [] := by
      intro e
      have := congrArg List.length e
      simp only [List.length_append, List.length_nil] at this
      omega
    have hrow : Row w' (some ⟨b, off, none⟩) (c1 ++ c' ++ c2) := by
      intro j0 _
      refine ⟨b, off, rfl, hb', fun i u hu => ?_⟩
      by_cases h1 : i < k * R.size
      · rw [hother _ (.inl (by omega))]
        refine hc i u ?_
        rw [List.append_assoc, List.getElem?_append_left (by omega)] at hu ⊢
        exact hu
      · by_cases h2 : i < k * R.size + R.size
        · have := hcells (i - k * R.size) u (by
            rw [List.append_assoc, List.getElem?_append_right (by omega), List.getElem?_append_left (by omega), hl1] at hu
            exact hu)
          rw [show off + k * R.size + (i - k * R.size) = off + i by omega] at this
          exact this
        · rw [hother _ (.inr (by omega))]
          refine hc i u ?_
          rw [List.getElem?_append_right (by rw [List.length_append]; omega)] at hu ⊢
          rw [List.length_append] at hu ⊢
          rw [hcl]
          rwa [hcl'] at hu
    have hltw : ∀ g ∈ F1 ++ Fk ++ F2, g < w.heap.size := fun g hg => hfr.lt g (by simp only [List.singleton_append, List.mem_cons]; exact .inr hg)
    have hFnb : ∀ g ∈ Fn, g ≠ b := fun g hg e => by
      rcases hFn g hg with h | h
      · exact hnot g (by simp [h]) e
      · omega
    refine ⟨[b] ++ (F1 ++ Fn ++ F2), ⟨⟨some ⟨b, off, none⟩, cap, c1 ++ c' ++ c2, F1 ++ Fn ++ F2, by simp, by simpa using hc1, hc2, hrow, hall, by unfold headOf; rw [if_neg hne']⟩, ?_, ?_⟩, ?_⟩
    · have hn1 : (F1 ++ Fn).Nodup := by
        refine List.nodup_append.2 ⟨(List.nodup_append.1 (List.nodup_append.1 hnd2).1).1, hr'.fresh.1, fun x hx y hy e => ?_⟩
        subst e
        rcases hFn x hy with h | h
        · exact (List.nodup_append.1 (List.nodup_append.1 hnd2).1).2.2 x hx x h rfl
        · have := hltw x (by simp [hx]); omega
      show (b :: (F1 ++ Fn ++ F2)).Nodup
      refine List.nodup_cons.2 ⟨fun hm => ?_, List.nodup_append.2 ⟨hn1, (List.nodup_append.1 hnd2).2.1, fun x hx y hy e => ?_⟩⟩
      · simp only [List.mem_append] at hm
        rcases hm with (hm | hm) | hm
        · exact hnot b (by simp [hm]) rfl
        · exact hFnb b hm rfl
        · exact hnot b (by simp [hm]) rfl
      · subst e
        rcases List.mem_append.1 hx with hx | hx
        · exact (List.nodup_append.1 hnd2).2.2 x (by simp [hx]) x hy rfl
        · rcases hFn x hx with h | h
          · exact (List.nodup_append.1 hnd2).2.2 x (by simp [h]) x hy rfl
          · have := hltw x (by simp [hy]); omega
    · intro g hg
      simp only [List.singleton_append, List.mem_cons, List.mem_append] at hg
      rcases hg with rfl | (hg | hg) | hg
      · exact ⟨hBb, cur', t', hcur'⟩
      · exact ⟨(hfr.2 g (by simp [hg])).1, by rw [hF1 g hg]; exact (hfr.2 g (by simp [hg])).2⟩
      · exact hr'.fresh.2 g hg
      · exact ⟨(hfr.2 g (by simp [hg])).1, by rw [hF2 g hg]; exact (hfr.2 g (by simp [hg])).2⟩
    · intro g hg
      simp only [List.singleton_append, List.mem_cons, List.mem_append] at hg ⊢
      rcases hg with rfl | (hg | hg) | hg
      · exact .inl (.inl rfl)
      · exact .inl (.inr (.inl (.inl hg)))
      · exact .inr hg
      · exact .inl (.inr (.inr hg))
end

/-- Only blocks of F, and new ones, have turned. -/
structure Turned (F : List Nat) (w w' : World) : Prop where
  os : w'.os = w.os
  tape : w'.tape = w.tape
  output : w'.output = w.output
  size : w.heap.size ≤ w'.heap.size
  block : ∀ k, k < w.heap.size → k ∉ F → w'.heap[k]? = w.heap[k]?

theorem Turned.refl (F : List Nat) (w : World) : Turned F w w := ⟨rfl, rfl, rfl, Nat.le_refl _, fun _ _ _ => rfl⟩
theorem Turned.trans {F : List Nat} {a b c : World} (h : Turned F a b) (k : Turned F b c) : Turned F a c :=
  ⟨k.os.trans h.os, k.tape.trans h.tape, k.output.trans h.output, Nat.le_trans h.size k.size, fun i hi hF => (k.block i (Nat.lt_of_lt_of_le hi h.size) hF).trans (h.block i hi hF)⟩
theorem Turned.mono {F G : List Nat} {a b : World} (h : Turned F a b) (hs : ∀ g ∈ F, g ∈ G) : Turned G a b := ⟨h.os, h.tape, h.output, h.size, fun i hi hG => h.block i hi fun hF => hG (hs i hF)⟩
theorem Turned.setCell {F : List Nat} {a w : World} (h : Turned F a w) {p : Addr} (hp : p.block ∈ F) (u : Value) : Turned F a (w.setCell p u) :=
  h.trans ⟨rfl, rfl, rfl, by simp [World.setCell], fun k _ hk => Below.heap_setCell _ _ _ _ (fun e => hk (e ▸ hp))⟩
theorem Turned.drew {F : List Nat} {a w : World} (h : Turned F a w) : Turned F a w.drew := ⟨h.os, h.tape, h.output, h.size, h.block⟩
theorem Turned.alloc {F : List Nat} {a w : World} (h : Turned F a w) (o : Obj) : Turned F a (w.alloc o) :=
  h.trans ⟨rfl, rfl, rfl, by simp, fun k hk _ => Below.heap_alloc w o k hk⟩
theorem Turned.of_below {F : List Nat} {a w w' : World} (h : Turned F a w) (hb : Below w.heap.size w w') : Turned F a w' :=
  h.trans ⟨hb.os, hb.tape, hb.output, hb.size, fun k hk _ => hb.block k hk⟩
theorem Turned.below {F : List Nat} {a w : World} (h : Turned F a w) {B : Nat} (hB : B ≤ a.heap.size) (hF : ∀ g ∈ F, B ≤ g) : Below B a w :=
  ⟨h.os, h.tape, h.output, h.size, fun k hk => h.block k (by omega) (fun hm => by have := hF k hm; omega)⟩
theorem Turned.rd {α : Type} {R : Rep α} {F G : List Nat} {a w : World} {cs : List Value} {x : α} (h : Turned F a w) (hr : R.rd a cs x G) (hd : ∀ g ∈ G, g ∉ F) : R.rd w cs x G :=
  R.keep hr fun g hg => h.block g (R.lt hr g hg) (hd g hg)
theorem Turned.res {α : Type} {R : Rep α} {B : Nat} {F G : List Nat} {a w : World} {cs : List Value} {x : α} (h : Turned F a w) (hr : Res R B a cs x G) (hd : ∀ g ∈ G, g ∉ F) : Res R B w cs x G :=
  hr.keep fun g hg => h.block g (R.lt hr.rd g hg) (hd g hg)

/-! Numbers laid through a list, element by element. -/
section
variable {α : Type}
def mkL (mk : Int → α → α) (cnt : α → Int) : Int → List α → List α
  | _, [] => []
  | k, a :: r => mk k a :: mkL mk cnt (k + cnt a) r
def cntL (cnt : α → Int) : List α → Int
  | [] => 0
  | a :: r => cnt a + cntL cnt r
variable {mk : Int → α → α} {cnt : α → Int}
theorem mkL_length : ∀ (l : List α) (k : Int), (mkL mk cnt k l).length = l.length
  | [], _ => rfl
  | a :: r, k => by simp [mkL, mkL_length r]
theorem cntL_snoc : ∀ (l : List α) (a : α), cntL cnt (l ++ [a]) = cntL cnt l + cnt a
  | [], a => by simp [cntL]
  | b :: r, a => by simp only [List.cons_append, cntL, cntL_snoc r]; omega
theorem cntL_take {l : List α} {k : Nat} (hk : k < l.length) : cntL cnt (l.take (k + 1)) = cntL cnt (l.take k) + cnt l[k] := by
  rw [take_succ_get hk, cntL_snoc]
theorem cntL_append : ∀ (l l' : List α), cntL cnt (l ++ l') = cntL cnt l + cntL cnt l'
  | [], l' => by simp [cntL]
  | b :: r, l' => by simp only [List.cons_append, cntL, cntL_append r]; omega
theorem cntL_nonneg (h : ∀ a, 0 ≤ cnt a) : ∀ (l : List α), 0 ≤ cntL cnt l
  | [] => by simp [cntL]
  | b :: r => by have := cntL_nonneg h r; have := h b; simp only [cntL]; omega
theorem cntL_take_le (h : ∀ a, 0 ≤ cnt a) (l : List α) (k : Nat) : cntL cnt (l.take k) ≤ cntL cnt l := by
  have e : cntL cnt l = cntL cnt (l.take k) + cntL cnt (l.drop k) := by rw [← cntL_append, List.take_append_drop]
  have := cntL_nonneg h (l.drop k)
  omega
theorem mkL_snoc : ∀ (l : List α) (a : α) (k : Int), mkL mk cnt k (l ++ [a]) = mkL mk cnt k l ++ [mk (k + cntL cnt l) a]
  | [], a, k => by simp [mkL, cntL]
  | b :: r, a, k => by simp only [List.cons_append, mkL, mkL_snoc r, cntL]; rw [Int.add_assoc]
theorem mkL_get : ∀ (l : List α) (k0 : Int) {k : Nat} (hk : k < l.length), (mkL mk cnt k0 l)[k]'(by rw [mkL_length]; exact hk) = mk (k0 + cntL cnt (l.take k)) l[k]
  | [], _, k, hk => absurd hk (Nat.not_lt_zero _)
  | a :: r, k0, 0, _ => by simp [mkL, cntL]
  | a :: r, k0, k + 1, hk => by
    have := mkL_get r (k0 + cnt a) (k := k) (by simpa using hk)
    simp only [mkL, List.getElem_cons_succ, List.take_succ_cons, cntL]
    rw [this, Int.add_assoc]
/-- The first j elements numbered, the rest as they were. -/
def mkP (mk : Int → α → α) (cnt : α → Int) (k0 : Int) (j : Nat) (l : List α) : List α := mkL mk cnt k0 (l.take j) ++ l.drop j
theorem mkP_length (k0 : Int) (j : Nat) (l : List α) : (mkP mk cnt k0 j l).length = l.length := by
  unfold mkP
  rw [List.length_append, mkL_length, List.length_take, List.length_drop]
  omega
theorem mkP_zero (k0 : Int) (l : List α) : mkP mk cnt k0 0 l = l := by simp [mkP, mkL]
theorem mkP_all (k0 : Int) (l : List α) : mkP mk cnt k0 l.length l = mkL mk cnt k0 l := by simp [mkP]
theorem mkP_get (k0 : Int) {j : Nat} {l : List α} (hj : j < l.length) : (mkP mk cnt k0 j l)[j]'(by rw [mkP_length]; exact hj) = l[j] := by
  simp only [mkP]
  rw [List.getElem_append_right (by rw [mkL_length, List.length_take]; omega)]
  simp only [mkL_length, List.length_take, List.getElem_drop]
  congr 1
  omega
theorem mkP_set (k0 : Int) {j : Nat} {l : List α} (hj : j < l.length) : (mkP mk cnt k0 j l).set j (mk (k0 + cntL cnt (l.take j)) l[j]) = mkP mk cnt k0 (j + 1) l := by
  have hl : (mkL mk cnt k0 (l.take j)).length = j := by rw [mkL_length, List.length_take]; omega
  unfold mkP
  rw [List.set_append_right _ _ (by omega), hl, Nat.sub_self, take_succ_get hj, mkL_snoc, List.append_assoc]
  congr 1
  rw [List.drop_eq_getElem_cons hj]
  rfl
end
end Go.Proofs.YtlhanpkfnhnegaaDoor
