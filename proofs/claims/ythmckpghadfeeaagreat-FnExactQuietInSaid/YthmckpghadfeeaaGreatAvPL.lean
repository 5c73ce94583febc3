/- Contracts on values alone. -/
import Derived.Test.YthmckpghadfeeaaGreatAvJ3
set_option linter.unusedVariables false
set_option linter.unusedSimpArgs false
set_option maxRecDepth 100000
namespace Go.Proofs.YthmckpghadfeeaaGreat
open Go.RowKit

def pvOf : AD → Value
  | .pv v => v
  | _ => undef
def AD.isPv : AD → Bool
  | .pv _ => true
  | _ => false
def AP1.pl : AP1 → Value
  | .one d => pvOf d
  | .agg ds => .agg (ds.map pvOf).toArray
def AP1.isPl : AP1 → Bool
  | .one d => d.isPv
  | .agg ds => ds.all AD.isPv
theorem relD_pl {Z : Nat → Prop} {w : World} {d : AD} {u : Value} (h : d.isPv = true) (hr : RelD Z w d u) : u = pvOf d := by
  cases hr with
  | pv => rfl
  | sl => cases h
theorem relP_pl {Z : Nat → Prop} {w : World} {p : AP1} {u : Value} (h : p.isPl = true) (hr : RelP1 Z w p u) : u = p.pl := by
  cases p with
  | one d => exact relD_pl h hr
  | agg ds =>
    obtain ⟨us, rfl, hl, hh⟩ := hr
    have : us = ds.map pvOf := by
      apply List.ext_getElem? 
      intro i
      rw [List.getElem?_map]
      cases hd : ds[i]? with
      | none => rw [List.getElem?_eq_none]; rfl; rw [hl]; exact List.getElem?_eq_none_iff.1 hd
      | some d =>
        have hlt : i < us.length := by rw [hl]; exact (List.getElem?_eq_some_iff.1 hd).1
        rw [List.getElem?_eq_getElem hlt]
        have hp : d.isPv = true := List.all_eq_true.1 h d (List.mem_of_getElem? hd)
        simp [relD_pl hp (hh i d us[i] hd (List.getElem?_eq_getElem hlt))]
    rw [this]
    rfl
theorem gz_w {E : AEnv} (he : E.Ok) {Z : Nat → Prop} {w : World} (h : GZ E.W Z w) : E.W w := by
  obtain ⟨w1, h1, h2, _⟩ := h
  exact he.below w1 w h1 h2
/-- A contract on values alone. -/
theorem PCall.plain {E : AEnv} (he : E.Ok) {f : FuncId} {args : List AP1} {v : Value} (enter : ∀ (us : Array Value) w, (callFunc f us).run E.P w = .ok (.enter f us) w) (hp : args.all AP1.isPl = true) (hv : v.oneCell' = true)
    (h : ∀ w, E.W w → Calls E.P f (args.map AP1.pl).toArray w fun e w' => e = .returned v ∧ Below w.heap.size w w') : PCall E f args (.val (.one (.pv v))) := by
  refine ⟨enter, fun Z w us hz hg hl hr => ?_⟩
  have : us = args.map AP1.pl := by
    apply List.ext_getElem?
    intro i
    rw [List.getElem?_map]
    cases hd : args[i]? with
    | none => rw [List.getElem?_eq_none]; rfl; rw [hl]; exact List.getElem?_eq_none_iff.1 hd
    | some d =>
      have hlt : i < us.length := by rw [hl]; exact (List.getElem?_eq_some_iff.1 hd).1
      rw [List.getElem?_eq_getElem hlt]
      have hp : d.isPl = true := List.all_eq_true.1 hp d (List.mem_of_getElem? hd)
      simp [relP_pl hp (hr i d us[i] hd (List.getElem?_eq_getElem hlt))]
  subst this
  refine (h w (gz_w he hg)).mono ?_
  rintro e w' ⟨rfl, hb⟩
  exact ⟨v, Z, rfl, hb, fun _ h => h, fun _ h => .inl h, .pv v hv⟩
theorem below_eq {w w' : World} (h : w = w') : Below w.heap.size w w' := by subst h; exact Below.refl _ _
end Go.Proofs.YthmckpghadfeeaaGreat
