/- From representations to data; from a contract to a law's walk. -/
import Derived.Test.YthmckpghadfeeaaGreatAvJ3
import Derived.Test.YthmckpghadfeeaaGreatTypes
set_option linter.unusedVariables false
set_option linter.unusedSimpArgs false
set_option maxRecDepth 100000
namespace Go.Proofs.YthmckpghadfeeaaGreat
open Go.RowKit

def RelCs (Z : Nat → Prop) (w : World) (ds : List AD) (cs : List Value) : Prop := cs.length = ds.length ∧ ∀ (i : Nat) d u, ds[i]? = some d → cs[i]? = some u → RelD Z w d u
theorem RelCs.append {Z : Nat → Prop} {w : World} {ds es : List AD} {cs bs : List Value} (h : RelCs Z w ds cs) (h' : RelCs Z w es bs) : RelCs Z w (ds ++ es) (cs ++ bs) := by
  refine ⟨by simp [h.1, h'.1], fun i d u hd hu => ?_⟩
  by_cases hi : i < ds.length
  · rw [List.getElem?_append_left hi] at hd
    rw [List.getElem?_append_left (by rw [h.1]; exact hi)] at hu
    exact h.2 i d u hd hu
  · rw [List.getElem?_append_right (by omega)] at hd
    rw [List.getElem?_append_right (by rw [h.1]; omega), h.1] at hu
    exact h'.2 _ d u hd hu
theorem RelCs.one {Z : Nat → Prop} {w : World} {d : AD} {u : Value} (h : RelD Z w d u) : RelCs Z w [d] [u] := ⟨rfl, fun i x y hx hy => by
  cases i with
  | zero => simp at hx hy; subst hx hy; exact h
  | succ i => simp at hx⟩
/-- What reads by R reads as the data enc. -/
def Enc {α : Type} (R : Rep α) (enc : α → List AD) : Prop := ∀ {w cs a F}, R.rd w cs a F → RelCs (fun b => b < w.heap.size) w (enc a) cs
theorem Enc.int {k : IntKind} : Enc (Rep.int k) fun n => [.pv (.int k n)] := by
  rintro w cs a F ⟨rfl, _, _⟩
  exact .one (.pv _ rfl)
theorem Enc.bool : Enc Rep.bool fun b => [.pv (.bool b)] := by
  rintro w cs a F ⟨rfl, _⟩
  exact .one (.pv _ rfl)
theorem Enc.str : Enc Rep.str fun b => [.pv (.string b)] := by
  rintro w cs a F ⟨rfl, _⟩
  exact .one (.pv _ rfl)
theorem Enc.pair {α β : Type} {R : Rep α} {S : Rep β} {f : α → List AD} {g : β → List AD} (h : Enc R f) (h' : Enc S g) : Enc (Rep.pair R S) fun x => f x.1 ++ g x.2 := by
  rintro w cs a F ⟨c1, c2, F1, F2, rfl, rfl, h1, h2⟩
  exact (h h1).append (h' h2)
theorem Enc.via {α β : Type} {R : Rep α} {f : β → α} {g : α → List AD} (h : Enc R g) : Enc (Rep.via f R) fun x => g (f x) := fun hr => h hr
theorem Enc.all {α : Type} {R : Rep α} {f : α → List AD} (h : Enc R f) {w : World} : ∀ {l : List α} {xs : List Value} {F : List Nat}, R.all w xs l F → ∃ us : List (List Value), us.flatten = xs ∧ us.length = l.length ∧ (∀ u ∈ us, u.length = R.size) ∧
    ∀ (i : Nat) a u, l[i]? = some a → us[i]? = some u → RelCs (fun b => b < w.heap.size) w (f a) u
  | [], _, _, ⟨rfl, _⟩ => ⟨[], rfl, rfl, by simp, by simp⟩
  | a :: l, _, _, ⟨c1, c2, F1, F2, rfl, rfl, h1, h2⟩ => by
    obtain ⟨us, e1, e2, e3, e4⟩ := Enc.all h h2
    refine ⟨c1 :: us, by simp [e1], by simp [e2], fun u hu => ?_, fun i b u hb hu => ?_⟩
    · rcases List.mem_cons.1 hu with rfl | hu
      · exact R.len h1
      · exact e3 u hu
    · cases i with
      | zero => simp at hb hu; subst hb hu; exact h h1
      | succ i => exact e4 i b u (by simpa using hb) (by simpa using hu)
theorem Enc.len {α : Type} {R : Rep α} {f : α → List AD} (h : Enc R f) {w cs a F} (hr : R.rd w cs a F) : (f a).length = R.size := by rw [← (h hr).1, R.len hr]
theorem Enc.sl {α : Type} {R : Rep α} {f : α → List AD} (h : Enc R f) : Enc (Rep.sl R) fun l => [.sl (l.map f)] := by
  rintro w cs l F ⟨A, cap, xs, F1, rfl, hc, hm, hrow, hall, rfl⟩
  obtain ⟨us, rfl, e2, e3, e4⟩ := Enc.all h hall
  refine .one ?_
  have := RelD.sl (Z := fun b => b < w.heap.size) (w := w) (l.map f) A cap R.size us (by simpa using hc) hm (by simpa using e2) (fun x hx => ?_) e3 ?_ fun i j x u a b hx hu ha hb => ?_
  · simpa using this
  · obtain ⟨a, ha, rfl⟩ := List.mem_map.1 hx
    obtain ⟨i, hi, rfl⟩ := List.getElem_of_mem ha
    have hlt : i < us.length := by omega
    have h1 := (e4 i l[i] us[i] (List.getElem?_eq_getElem hi) (List.getElem?_eq_getElem hlt)).1
    rw [← h1]
    exact e3 _ (List.getElem_mem hlt)
  · by_cases h0 : us.flatten = []
    · exact .inl h0
    · obtain ⟨b, off, hA, hlt, hcell⟩ := hrow 0 (List.length_pos_iff.2 h0)
      exact .inr ⟨b, off, hA, hlt, hcell⟩
  · rw [List.getElem?_map] at hx
    obtain ⟨y, hy, rfl⟩ := Option.map_eq_some_iff.1 hx
    exact (e4 i y u hy hu).2 j a b ha hb
theorem Enc.agg {α : Type} {R : Rep α} {f : α → List AD} (h : Enc R f) {w : World} {cs : Array Value} {a : α} {F : List Nat} (hr : R.rd w cs.toList a F) : RelP1 (fun b => b < w.heap.size) w (.agg (f a)) (.agg cs) :=
  ⟨cs.toList, by simp, (h hr).1, (h hr).2⟩
theorem Enc.cell {α : Type} {R : Rep α} {f : α → AD} (h : Enc R fun a => [f a]) {w : World} {v : Value} {a : α} {F : List Nat} (hr : R.rd w [v] a F) : RelP1 (fun b => b < w.heap.size) w (.one (f a)) v :=
  (h hr).2 0 _ _ rfl rfl

/-- A law's walk out of its contract. -/
theorem PCall.walk {E : AEnv} {f : FuncId} {args : List AP1} {p : Bool} (h : PCall E f args (.val (.one (.pv (.bool p))))) {W : World} (hT : E.W W) {us : Array Value} (hl : us.size = args.length) (hr : ∀ (i : Nat) p u, args[i]? = some p → us.toList[i]? = some u → RelP1 (fun b => b < W.heap.size) W p u) :
    Calls E.P f us W fun e W' => e = .returned (.bool p) ∧ Below W.heap.size W W' := by
  have := h.run (fun b => b < W.heap.size) W us.toList (fun _ hb => hb) ⟨W, hT, Below.refl _ _, fun _ hb => hb⟩ (by simpa using hl) hr
  rw [Array.toArray_toList] at this
  refine this.mono ?_
  rintro e w' ⟨v, Z', rfl, hb, _, _, hv⟩
  have hv' : RelD Z' w' (.pv (.bool p)) v := hv
  cases hv' with
  | pv => exact ⟨rfl, hb⟩
end Go.Proofs.YthmckpghadfeeaaGreat
