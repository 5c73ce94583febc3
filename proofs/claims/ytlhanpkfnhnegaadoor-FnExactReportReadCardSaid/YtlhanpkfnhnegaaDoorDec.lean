/- Data read by my representations. -/
import Derived.Test.YtlhanpkfnhnegaaDoorFree
set_option linter.unusedVariables false
set_option linter.unusedSimpArgs false
set_option maxRecDepth 100000
namespace Go.Proofs.YtlhanpkfnhnegaaDoor
open Go.ChangeShapes Go.WideShapes Go.RowKit

/-- Cells that relate to a datum's data read as it. -/
def Dec {α : Type} (R : Rep α) (enc : α → List AD) (ok : α → Prop) : Prop := (∀ a, (enc a).length = R.size) ∧ ∀ {Z : Nat → Prop} {w : World} {a : α} {cs : List Value}, ok a → (∀ b, Z b → b < w.heap.size) → cs.length = (enc a).length → (∀ (i : Nat) d u, (enc a)[i]? = some d → cs[i]? = some u → RelD Z w d u) → ∃ F, R.rd w cs a F
theorem Dec.int {k : IntKind} : Dec (Rep.int k) (fun n => [.pv (.int k n)]) (fun n => (Lit.int k n).wf = true) := by
  refine ⟨fun _ => rfl, fun {Z w a cs} h _ hl hr => ⟨[], ?_, h, rfl⟩⟩
  obtain ⟨y, rfl⟩ := List.length_eq_one_iff.1 hl
  have := relD_pl rfl (hr 0 _ y rfl rfl)
  rw [this]; rfl
theorem Dec.all {α : Type} {R : Rep α} {enc : α → List AD} {ok : α → Prop} (hd : Dec R enc ok) {Z : Nat → Prop} {w : World} (hz : ∀ b, Z b → b < w.heap.size) : ∀ (l : List α) (us : List (List Value)), (∀ a ∈ l, ok a) → us.length = l.length → (∀ u ∈ us, u.length = R.size) →
    (∀ (i j : Nat) x u a b, (l.map enc)[i]? = some x → us[i]? = some u → x[j]? = some a → u[j]? = some b → RelD Z w a b) → ∃ F, R.all w us.flatten l F
  | [], us, _, hl, _, _ => by
    have : us = [] := List.eq_nil_of_length_eq_zero hl
    subst this
    exact ⟨[], rfl, rfl⟩
  | a :: l, [], _, hl, _, _ => by simp at hl
  | a :: l, u :: us, ho, hl, hu, hr => by
    obtain ⟨F1, h1⟩ := hd.2 (ho a (by simp)) hz (by rw [hd.1, hu u (by simp)]) (fun i d v hd hv => hr 0 i (enc a) u d v (by simp) rfl hd hv)
    obtain ⟨F2, h2⟩ := Dec.all hd hz l us (fun x hx => ho x (by simp [hx])) (by simpa using hl) (fun x hx => hu x (by simp [hx])) (fun i j x v p q h3 h4 h5 h6 => hr (i + 1) j x v p q (by simpa using h3) (by simpa using h4) h5 h6)
    exact ⟨F1 ++ F2, u, us.flatten, F1, F2, by simp, rfl, h1, h2⟩
theorem Dec.row {α : Type} {R : Rep α} {enc : α → List AD} {ok : α → Prop} (hd : Dec R enc ok) {Z : Nat → Prop} {w : World} (hz : ∀ b, Z b → b < w.heap.size) {l : List α} (ho : ∀ a ∈ l, ok a) {v : Value} (h : RelD Z w (.sl (l.map enc)) v) :
    ∃ A cap F, v = .slice A l.length cap ∧ (Rep.sl R).rd w [.slice A l.length cap] l F := by
  obtain ⟨A, cap, s, us, rfl, h1, h2, h3, h4, h5, h6, h7⟩ := relD_sl h
  simp only [List.length_map] at h1 h3
  have hsz : ∀ u ∈ us, u.length = R.size := fun u hu => by
    rw [h5 u hu]
    cases l with
    | nil =>
      have : us = [] := List.eq_nil_of_length_eq_zero h3
      subst this
      cases hu
    | cons a l => rw [← h4 (enc a) (by simp), hd.1]
  obtain ⟨F, hF⟩ := Dec.all hd hz l us ho h3 hsz h7
  refine ⟨A, cap, _, by simp, A, cap, us.flatten, F, rfl, h1, h2, fun j hj => ?_, hF, rfl⟩
  rcases h6 with h6 | ⟨b, off, hA, hZ, hc⟩
  · rw [h6] at hj; cases hj
  · exact ⟨b, off, hA, hz b hZ, hc⟩
theorem Dec.sl {α : Type} {R : Rep α} {enc : α → List AD} {ok : α → Prop} (hd : Dec R enc ok) : Dec (Rep.sl R) (fun l => [.sl (l.map enc)]) (fun l => ∀ a ∈ l, ok a) := by
  refine ⟨fun _ => rfl, fun {Z w l cs} ho hz hl hr => ?_⟩
  obtain ⟨v, rfl⟩ := List.length_eq_one_iff.1 hl
  obtain ⟨A, cap, F, rfl, h⟩ := Dec.row hd hz ho (hr 0 _ v rfl rfl)
  exact ⟨F, h⟩
end Go.Proofs.YtlhanpkfnhnegaaDoor
