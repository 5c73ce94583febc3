/- What reads by a representation is data in its own blocks. -/
import Derived.Test.YthmckpghadfeeaaGreatAvQ
set_option linter.unusedVariables false
set_option linter.unusedSimpArgs false
set_option maxRecDepth 100000
namespace Go.Proofs.YthmckpghadfeeaaGreat
open Go.RowKit

/-- What reads by R is data in its own blocks. -/
def EncF {α : Type} (R : Rep α) (enc : α → List AD) : Prop := ∀ {w cs a F} {Z : Nat → Prop}, (∀ b ∈ F, Z b) → R.rd w cs a F → RelCs Z w (enc a) cs
theorem EncF.int {k : IntKind} : EncF (Rep.int k) fun n => [.pv (.int k n)] := by
  rintro w cs a F Z _ ⟨rfl, _, _⟩
  exact .one (.pv _ rfl)
theorem EncF.pair {α β : Type} {R : Rep α} {S : Rep β} {f : α → List AD} {g : β → List AD} (h : EncF R f) (h' : EncF S g) : EncF (Rep.pair R S) fun x => f x.1 ++ g x.2 := by
  rintro w cs a F Z hz ⟨c1, c2, F1, F2, rfl, rfl, h1, h2⟩
  exact (h (fun b hb => hz b (List.mem_append_left _ hb)) h1).append (h' (fun b hb => hz b (List.mem_append_right _ hb)) h2)
theorem EncF.via {α β : Type} {R : Rep α} {f : β → α} {g : α → List AD} (h : EncF R g) : EncF (Rep.via f R) fun x => g (f x) := fun hz hr => h hz hr
theorem EncF.all {α : Type} {R : Rep α} {f : α → List AD} (h : EncF R f) {w : World} {Z : Nat → Prop} : ∀ {l : List α} {xs : List Value} {F : List Nat}, (∀ b ∈ F, Z b) → R.all w xs l F → ∃ us : List (List Value), us.flatten = xs ∧ us.length = l.length ∧ (∀ u ∈ us, u.length = R.size) ∧
    ∀ (i : Nat) a u, l[i]? = some a → us[i]? = some u → RelCs Z w (f a) u
  | [], _, _, _, ⟨rfl, _⟩ => ⟨[], rfl, rfl, by simp, by simp⟩
  | a :: l, xs, F, hz, h0 => by
    obtain ⟨c1, c2, F1, F2, e1, e2, h1, h2⟩ := h0
    subst e1 e2
    obtain ⟨us, e1, e2, e3, e4⟩ := EncF.all h (fun b hb => hz b (List.mem_append_right _ hb)) h2
    refine ⟨c1 :: us, by simp [e1], by simp [e2], fun u hu => ?_, fun i b u hb hu => ?_⟩
    · rcases List.mem_cons.1 hu with rfl | hu
      · exact R.len h1
      · exact e3 u hu
    · cases i with
      | zero => simp at hb hu; subst hb hu; exact h (fun b hb => hz b (List.mem_append_left _ hb)) h1
      | succ i => exact e4 i b u (by simpa using hb) (by simpa using hu)
theorem EncF.sl {α : Type} {R : Rep α} {f : α → List AD} (h : EncF R f) : EncF (Rep.sl R) fun l => [.sl (l.map f)] := by
  rintro w cs l F Z hz ⟨A, cap, xs, F1, rfl, hc, hm, hrow, hall, rfl⟩
  obtain ⟨us, rfl, e2, e3, e4⟩ := EncF.all h (fun b hb => hz b (List.mem_append_right _ hb)) hall
  refine .one ?_
  have := RelD.sl (Z := Z) (w := w) (l.map f) A cap R.size us (by simpa using hc) hm (by simpa using e2) (fun x hx => ?_) e3 ?_ fun i j x u a b hx hu ha hb => ?_
  · simpa using this
  · obtain ⟨a, ha, rfl⟩ := List.mem_map.1 hx
    obtain ⟨i, hi, rfl⟩ := List.getElem_of_mem ha
    have hlt : i < us.length := by omega
    have h1 := (e4 i l[i] us[i] (List.getElem?_eq_getElem hi) (List.getElem?_eq_getElem hlt)).1
    rw [← h1]
    exact e3 _ (List.getElem_mem hlt)
  · by_cases h0 : us.flatten = []
    · exact .inl h0
    · obtain ⟨b, off, hA, hlt, hcell⟩ := hrow 0 (List.length_pos_iff.2 h0)
      refine .inr ⟨b, off, hA, hz b (List.mem_append_left _ ?_), hcell⟩
      rw [hA]
      simp [headOf, h0]
  · rw [List.getElem?_map] at hx
    obtain ⟨y, hy, rfl⟩ := Option.map_eq_some_iff.1 hx
    exact (e4 i y u hy hu).2 j a b ha hb
theorem EncF.bool : EncF Rep.bool fun b => [.pv (.bool b)] := by
  rintro w cs a F Z _ ⟨rfl, _⟩
  exact .one (.pv _ rfl)
end Go.Proofs.YthmckpghadfeeaaGreat
