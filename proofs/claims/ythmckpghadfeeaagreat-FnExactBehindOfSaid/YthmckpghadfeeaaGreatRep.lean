/- How Go's data lie in memory, said once: a representation (how many cells; which cells read as which datum, leading to which blocks). -/
import Derived.Test.YthmckpghadfeeaaGreatRow
import Derived.Maps.AppendAt
import Derived.Deep.AppendLies
import Derived.Laws.MakeOwn
set_option linter.unusedVariables false
set_option linter.unusedSimpArgs false
namespace Go.Proofs.YthmckpghadfeeaaGreat
open Go.ChangeShapes Go.WideShapes Go.RowKit

/-- A representation: cells 'cs' of world 'w' read as datum 'a' and lead to the blocks 'F'. -/
structure Rep (α : Type) where
  size : Nat
  rd : World → List Value → α → List Nat → Prop
  len : ∀ {w cs a F}, rd w cs a F → cs.length = size
  one : ∀ {w cs a F}, rd w cs a F → ∀ c ∈ cs, c.oneCell' = true
  lt : ∀ {w cs a F}, rd w cs a F → ∀ b ∈ F, b < w.heap.size
  keep : ∀ {w w' cs a F}, rd w cs a F → (∀ b ∈ F, w'.heap[b]? = w.heap[b]?) → rd w' cs a F

/-- One whole number of kind k. -/
def Rep.int (k : IntKind) : Rep Int where
  size := 1
  rd := fun _ cs a F => cs = [.int k a] ∧ (Lit.int k a).wf = true ∧ F = []
  len := by rintro _ _ _ _ ⟨rfl, _, _⟩; rfl
  one := by rintro _ _ _ _ ⟨rfl, _, _⟩; simp [Value.oneCell']
  lt := by rintro _ _ _ _ ⟨_, _, rfl⟩; simp
  keep := fun h _ => h

def Rep.bool : Rep Bool where
  size := 1
  rd := fun _ cs a F => cs = [.bool a] ∧ F = []
  len := by rintro _ _ _ _ ⟨rfl, _⟩; rfl
  one := by rintro _ _ _ _ ⟨rfl, _⟩; simp [Value.oneCell']
  lt := by rintro _ _ _ _ ⟨_, rfl⟩; simp
  keep := fun h _ => h

def Rep.str : Rep ByteArray where
  size := 1
  rd := fun _ cs a F => cs = [.string a] ∧ F = []
  len := by rintro _ _ _ _ ⟨rfl, _⟩; rfl
  one := by rintro _ _ _ _ ⟨rfl, _⟩; simp [Value.oneCell']
  lt := by rintro _ _ _ _ ⟨_, rfl⟩; simp
  keep := fun h _ => h

/-- Two side by side. -/
def Rep.pair {α β : Type} (R : Rep α) (S : Rep β) : Rep (α × β) where
  size := R.size + S.size
  rd := fun w cs x F => ∃ c1 c2 F1 F2, cs = c1 ++ c2 ∧ F = F1 ++ F2 ∧ R.rd w c1 x.1 F1 ∧ S.rd w c2 x.2 F2
  len := by rintro _ _ _ _ ⟨c1, c2, F1, F2, rfl, rfl, h1, h2⟩; simp [R.len h1, S.len h2]
  one := by
    rintro _ _ _ _ ⟨c1, c2, F1, F2, rfl, rfl, h1, h2⟩ c hc
    rcases List.mem_append.1 hc with h | h
    · exact R.one h1 c h
    · exact S.one h2 c h
  lt := by
    rintro _ _ _ _ ⟨c1, c2, F1, F2, rfl, rfl, h1, h2⟩ c hc
    rcases List.mem_append.1 hc with h | h
    · exact R.lt h1 c h
    · exact S.lt h2 c h
  keep := by
    rintro _ _ _ _ _ ⟨c1, c2, F1, F2, rfl, rfl, h1, h2⟩ hk
    exact ⟨c1, c2, F1, F2, rfl, rfl, R.keep h1 fun b hb => hk b (List.mem_append_left _ hb), S.keep h2 fun b hb => hk b (List.mem_append_right _ hb)⟩

/-- Elements one behind the other: their cells joined, their blocks joined. -/
def Rep.all {α : Type} (R : Rep α) (w : World) : List Value → List α → List Nat → Prop
  | cs, [], F => cs = [] ∧ F = []
  | cs, a :: l, F => ∃ c1 c2 F1 F2, cs = c1 ++ c2 ∧ F = F1 ++ F2 ∧ R.rd w c1 a F1 ∧ R.all w c2 l F2

section
variable {α : Type} {R : Rep α} {w w' : World}

theorem Rep.all_len : ∀ {l : List α} {cs : List Value} {F : List Nat}, R.all w cs l F → cs.length = l.length * R.size
  | [], _, _, ⟨rfl, _⟩ => by simp
  | a :: l, _, _, ⟨c1, c2, F1, F2, rfl, rfl, h1, h2⟩ => by simp [R.len h1, Rep.all_len h2, Nat.add_mul, Nat.add_comm]

theorem Rep.all_one : ∀ {l : List α} {cs : List Value} {F : List Nat}, R.all w cs l F → ∀ c ∈ cs, c.oneCell' = true
  | [], _, _, ⟨rfl, _⟩ => by simp
  | a :: l, _, _, ⟨c1, c2, F1, F2, rfl, rfl, h1, h2⟩ => fun c hc => by
    rcases List.mem_append.1 hc with h | h
    · exact R.one h1 c h
    · exact Rep.all_one h2 c h

theorem Rep.all_lt : ∀ {l : List α} {cs : List Value} {F : List Nat}, R.all w cs l F → ∀ b ∈ F, b < w.heap.size
  | [], _, _, ⟨_, rfl⟩ => by simp
  | a :: l, _, _, ⟨c1, c2, F1, F2, rfl, rfl, h1, h2⟩ => fun c hc => by
    rcases List.mem_append.1 hc with h | h
    · exact R.lt h1 c h
    · exact Rep.all_lt h2 c h

theorem Rep.all_keep : ∀ {l : List α} {cs : List Value} {F : List Nat}, R.all w cs l F → (∀ b ∈ F, w'.heap[b]? = w.heap[b]?) → R.all w' cs l F
  | [], _, _, ⟨rfl, rfl⟩, _ => ⟨rfl, rfl⟩
  | a :: l, _, _, ⟨c1, c2, F1, F2, rfl, rfl, h1, h2⟩, hk =>
    ⟨c1, c2, F1, F2, rfl, rfl, R.keep h1 fun b hb => hk b (List.mem_append_left _ hb), Rep.all_keep h2 fun b hb => hk b (List.mem_append_right _ hb)⟩

theorem Rep.all_append : ∀ {l l' : List α} {cs cs' : List Value} {F F' : List Nat}, R.all w cs l F → R.all w cs' l' F' → R.all w (cs ++ cs') (l ++ l') (F ++ F')
  | [], _, _, _, _, _, ⟨rfl, rfl⟩, h' => h'
  | a :: l, _, _, _, _, _, ⟨c1, c2, F1, F2, rfl, rfl, h1, h2⟩, h' =>
    ⟨c1, c2 ++ _, F1, F2 ++ _, by simp, by simp, h1, Rep.all_append h2 h'⟩

theorem Rep.all_one_elem {cs : List Value} {a : α} {F : List Nat} (h : R.rd w cs a F) : R.all w cs [a] F := ⟨cs, [], F, [], by simp, by simp, h, rfl, rfl⟩

theorem Rep.all_snoc {l : List α} {a : α} {cs cs' : List Value} {F F' : List Nat} (h : R.all w cs l F) (h' : R.rd w cs' a F') : R.all w (cs ++ cs') (l ++ [a]) (F ++ F') :=
  Rep.all_append h (Rep.all_one_elem h')

/-- The element at k: its cells lie at k * size. -/
theorem Rep.all_at : ∀ {l : List α} {cs : List Value} {F : List Nat}, R.all w cs l F → ∀ {k : Nat} (hk : k < l.length),
    ∃ c F1, R.rd w c l[k] F1 ∧ (∀ b ∈ F1, b ∈ F) ∧ ∀ j u, c[j]? = some u → cs[k * R.size + j]? = some u
  | [], _, _, _, k, hk => absurd hk (Nat.not_lt_zero _)
  | a :: l, _, _, ⟨c1, c2, F1, F2, rfl, rfl, h1, h2⟩, 0, _ =>
    ⟨c1, F1, h1, fun b hb => List.mem_append_left _ hb, fun j u hu => by
      rw [Nat.zero_mul, Nat.zero_add, List.getElem?_append_left (List.getElem?_eq_some_iff.1 hu).1]; exact hu⟩
  | a :: l, _, _, ⟨c1, c2, F1, F2, rfl, rfl, h1, h2⟩, k + 1, hk => by
    obtain ⟨c, F3, h3, h4, h5⟩ := Rep.all_at h2 (k := k) (by simpa using hk)
    refine ⟨c, F3, h3, fun b hb => List.mem_append_right _ (h4 b hb), fun j u hu => ?_⟩
    rw [List.getElem?_append_right (by rw [R.len h1, Nat.add_mul]; omega), R.len h1]
    rw [show (k + 1) * R.size + j - R.size = k * R.size + j by rw [Nat.add_mul]; omega]
    exact h5 j u hu

theorem Rep.all_take : ∀ {l : List α} {cs : List Value} {F : List Nat}, R.all w cs l F → ∀ (k : Nat), k ≤ l.length → ∃ F1, R.all w (cs.take (k * R.size)) (l.take k) F1 ∧ ∀ b ∈ F1, b ∈ F
  | l, cs, F, h, 0, _ => ⟨[], by simp [Rep.all], by simp⟩
  | a :: l, _, _, ⟨c1, c2, F1, F2, rfl, rfl, h1, h2⟩, k + 1, hk => by
    obtain ⟨F3, h3, h4⟩ := Rep.all_take h2 k (by simpa using hk)
    refine ⟨F1 ++ F3, ⟨c1, c2.take (k * R.size), F1, F3, ?_, rfl, h1, h3⟩, fun b hb => ?_⟩
    · rw [List.take_append, List.take_of_length_le (by rw [R.len h1, Nat.add_mul]; omega), R.len h1]
      congr 2
      rw [Nat.add_mul]; omega
    · rcases List.mem_append.1 hb with h | h
      · exact List.mem_append_left _ h
      · exact List.mem_append_right _ (h4 b h)

theorem Rep.all_drop : ∀ {l : List α} {cs : List Value} {F : List Nat}, R.all w cs l F → ∀ (k : Nat), k ≤ l.length → ∃ F1, R.all w (cs.drop (k * R.size)) (l.drop k) F1 ∧ ∀ b ∈ F1, b ∈ F
  | l, cs, F, h, 0, _ => ⟨F, by simpa using h, fun b hb => hb⟩
  | a :: l, _, _, ⟨c1, c2, F1, F2, rfl, rfl, h1, h2⟩, k + 1, hk => by
    obtain ⟨F3, h3, h4⟩ := Rep.all_drop h2 k (by simpa using hk)
    refine ⟨F3, ?_, fun b hb => List.mem_append_right _ (h4 b hb)⟩
    rw [List.drop_append, List.drop_of_length_le (by rw [R.len h1, Nat.add_mul]; omega), R.len h1, List.nil_append]
    rw [show (k + 1) * R.size - R.size = k * R.size by rw [Nat.add_mul]; omega]
    exact h3
end

/-- The blocks that a slice's own cells lie in: none where it is empty. -/
def headOf (A : Option Addr) (cs : List Value) : List Nat := if cs = [] then [] else match A with | some a => [a.block] | none => []

/-- A slice. -/
def Rep.sl {α : Type} (R : Rep α) : Rep (List α) where
  size := 1
  rd := fun w cs l F => ∃ A cap xs F1, cs = [.slice A l.length cap] ∧ l.length ≤ cap ∧ cap ≤ maxLen ∧ Row w A xs ∧ R.all w xs l F1 ∧ F = headOf A xs ++ F1
  len := by rintro _ _ _ _ ⟨A, cap, xs, F1, rfl, _⟩; rfl
  one := by rintro _ _ _ _ ⟨A, cap, xs, F1, rfl, _⟩; simp [Value.oneCell']
  lt := by
    rintro w _ l _ ⟨A, cap, xs, F1, rfl, _, _, hr, ha, rfl⟩ b hb
    rcases List.mem_append.1 hb with h | h
    · unfold headOf at h
      split at h
      · cases h
      · rename_i hx
        obtain ⟨b', off, rfl, hl, _⟩ := hr 0 (List.length_pos_iff.2 hx)
        simp only [List.mem_singleton] at h
        exact h ▸ hl
    · exact Rep.all_lt ha b h
  keep := by
    rintro w w' _ l _ ⟨A, cap, xs, F1, rfl, h1, h2, hr, ha, rfl⟩ hk
    refine ⟨A, cap, xs, F1, rfl, h1, h2, ?_, Rep.all_keep ha fun b hb => hk b (List.mem_append_right _ hb), rfl⟩
    intro j hj
    obtain ⟨b, off, rfl, hl, hc⟩ := hr j hj
    have hx : xs ≠ [] := by intro h; subst h; cases hj
    have hb : w'.heap[b]? = w.heap[b]? := hk b (List.mem_append_left _ (by simp [headOf, hx]))
    refine ⟨b, off, rfl, ?_, fun i u hu => (World.cell?_of_block (a := ⟨b, off + i, none⟩) hb).trans (hc i u hu)⟩
    rcases Nat.lt_or_ge b w'.heap.size with h | h
    · exact h
    · rw [Array.getElem?_eq_none h] at hb
      rw [Array.getElem?_eq_getElem hl] at hb
      cases hb

section
variable {α : Type} {R : Rep α} {w w' : World} {cs : List Value} {a : α} {F : List Nat}
theorem Rep.below (h : R.rd w cs a F) {B : Nat} (hb : Below B w w') (hF : ∀ b ∈ F, b < B) : R.rd w' cs a F := R.keep h fun b hm => hb.block b (hF b hm)
theorem Rep.below_all (h : R.rd w cs a F) (hb : Below w.heap.size w w') : R.rd w' cs a F := R.keep h fun b hm => hb.block b (R.lt h b hm)
theorem Rep.alloc (h : R.rd w cs a F) (o : Obj) : R.rd (w.alloc o) cs a F := R.keep h fun b hm => Below.heap_alloc w o b (R.lt h b hm)
theorem Rep.drew (h : R.rd w cs a F) : R.rd w.drew cs a F := R.keep h fun _ _ => rfl
theorem Rep.drewN (h : R.rd w cs a F) (n : Nat) : R.rd (w.drewN n) cs a F := R.keep h fun _ _ => rfl
theorem Rep.setCell (h : R.rd w cs a F) {p : Addr} (hp : p.block ∉ F) (u : Value) : R.rd (w.setCell p u) cs a F :=
  R.keep h fun b hm => Below.heap_setCell w p u b (fun e => hp (e ▸ hm))
theorem Rep.grown (h : R.rd w cs a F) {row : Option Nat} (hg : w.grownBy w' row) (hr : ∀ g, row = some g → g ∉ F) : R.rd w' cs a F :=
  R.keep h fun b hm => hg.block b (R.lt h b hm) (fun e => hr b e.symm hm)

/-- A slice that the call owns (append's laws), its elements read: the slice's own reading. -/
theorem Rep.sl_own {base : Nat} {e : TypeId} {v : Value} {n : Nat} {xs : List Value} {l : List α} {F1 : List Nat} (ho : w.ownsRow base e R.size v n xs) (hall : R.all w xs l F1) (hn : n = l.length) :
    ∃ A cap, v = .slice A l.length cap ∧ R.sl.rd w [v] l (headOf A xs ++ F1) ∧ (∀ b ∈ headOf A xs, v.ownBlock = some b ∧ base ≤ b) := by
  subst hn
  obtain ⟨h1, h2⟩ := ho
  rcases h2 with ⟨rfl, h0⟩ | ⟨g, cap, cur, rfl, hb, hg, hnc, hcm, hcs, ht⟩
  · have hl : l = [] := List.eq_nil_of_length_eq_zero h0
    subst hl
    obtain ⟨rfl, rfl⟩ := hall
    exact ⟨none, 0, rfl, ⟨none, 0, [], [], rfl, Nat.le_refl _, Nat.zero_le _, fun j hj => absurd hj (Nat.not_lt_zero _), ⟨rfl, rfl⟩, rfl⟩, by simp [headOf]⟩
  · refine ⟨some ⟨g, 0, none⟩, cap, rfl, ⟨some ⟨g, 0, none⟩, cap, xs, F1, rfl, hnc, hcm, ?_, hall, rfl⟩, ?_⟩
    · intro j hj
      refine ⟨g, 0, rfl, (Array.getElem?_eq_some_iff.1 hg).1, fun i u hu => ?_⟩
      rw [cell_of_row w g (0 + i) cur e (0, 0) hg, Nat.zero_add]
      rw [← ht, List.getElem?_take] at hu
      split at hu
      · simpa using hu
      · cases hu
    · intro b hbm
      unfold headOf at hbm
      split at hbm
      · cases hbm
      · simp only [List.mem_singleton] at hbm
        subst hbm
        exact ⟨rfl, hb⟩
end
end Go.Proofs.YthmckpghadfeeaaGreat
