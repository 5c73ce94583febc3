/- Contracts by hand, for calls that are handed objects. -/
import Derived.Test.YtlhanpkfnhnegaaDoorAvU2
import Derived.Lib.BufferWrite
set_option linter.unusedVariables false
set_option linter.unusedSimpArgs false
set_option maxRecDepth 100000
namespace Go.Proofs.YtlhanpkfnhnegaaDoor
open Go.RowKit

/-- A call that writes one object: its block and its name stay. -/
theorem MCall.of_upd {E : AEnv} {f : FuncId} {args : List AA} {pre : List (Nat × AO)} {id : Nat} {o o' : AO} {keep : List Nat} {res : AR} (enter : ∀ (us : Array Value) w, (callFunc f us).run E.P w = .ok (.enter f us) w) (hid : oget pre id = some o)
    (h : ∀ Z w ρ (us : List Value), WS E.W (baseM w Z ρ pre) Z w ρ pre → RelO Z w ρ id o → us.length = args.length → (∀ (i : Nat) x u, args[i]? = some x → us[i]? = some u → RelV Z w ρ x.v u) →
      Calls E.P f us.toArray w fun e w' => ∃ v b, e = .returned v ∧ blkOf (ρ id) = some b ∧ w.grownBy w' (some b) ∧ RelO Z w' ρ id o' ∧ RelV Z w' ρ res.v v) : MCall E f args pre (oset pre id o') keep res := by
  refine ⟨enter, fun Z w ρ us hws hl hr => (h Z w ρ us hws (hws.obj id o hid) hl hr).mono ?_⟩
  rintro e w' ⟨v, b, rfl, hb, hg, ho, hv⟩
  exact ⟨v, Z, ρ, rfl, hws.upd id o o' hid hb hg ho, fun _ _ => rfl, hv⟩
/-- A call that turns nothing. -/
theorem MCall.of_same {E : AEnv} {f : FuncId} {args : List AA} {pre : List (Nat × AO)} {keep : List Nat} {res : AR} (enter : ∀ (us : Array Value) w, (callFunc f us).run E.P w = .ok (.enter f us) w)
    (h : ∀ Z w ρ (us : List Value), WS E.W (baseM w Z ρ pre) Z w ρ pre → us.length = args.length → (∀ (i : Nat) x u, args[i]? = some x → us[i]? = some u → RelV Z w ρ x.v u) →
      Calls E.P f us.toArray w fun e w' => ∃ v, e = .returned v ∧ w.grownBy w' none ∧ RelV Z w' ρ res.v v) : MCall E f args pre pre keep res := by
  refine ⟨enter, fun Z w ρ us hws hl hr => (h Z w ρ us hws hl hr).mono ?_⟩
  rintro e w' ⟨v, rfl, hg, hv⟩
  exact ⟨v, Z, ρ, rfl, hws.grow hg (fun _ h => h) (fun _ h => .inl h), fun _ _ => rfl, hv⟩
/-- A call that uses an object up. -/
theorem MCall.of_gone {E : AEnv} {f : FuncId} {args : List AA} {pre : List (Nat × AO)} {id : Nat} {o : AO} {res : AR} (enter : ∀ (us : Array Value) w, (callFunc f us).run E.P w = .ok (.enter f us) w) (hid : oget pre id = some o)
    (h : ∀ Z w ρ (us : List Value), WS E.W (baseM w Z ρ pre) Z w ρ pre → us.length = args.length → (∀ (i : Nat) x u, args[i]? = some x → us[i]? = some u → RelV Z w ρ x.v u) →
      Calls E.P f us.toArray w fun e w' => ∃ v, e = .returned v ∧ w.grownBy w' (blkOf (ρ id)) ∧ ∀ ρ', RelV Z w' ρ' res.v v) : MCall E f args pre (oset (okill id pre) id (.frame [] [])) [] res := by
  refine ⟨enter, fun Z w ρ us hws hl hr => (h Z w ρ us hws hl hr).mono ?_⟩
  rintro e w' ⟨v, rfl, hg, hv⟩
  refine ⟨v, Z, _, rfl, hws.renew id undef (.frame [] []) hg (fun g e => ⟨⟨o, hid⟩, e⟩) (fun b hb => (by cases hb)) ⟨by simp, rfl, by simp⟩, (by simp), hv _⟩
/-- A call that writes one object, which stays where it is. -/
theorem ACall.upd {E : AEnv} {S : Base} {tm : List AV} {ob : List (Nat × AO)} {f : FuncId} {args : List AA} {o o' : AO} {res : AR} {K : AV → ASt → Prop} {cargs : List AV} (hc : MCall E f args [(1000, o)] [(1000, o')] [1000] res) (id : Nat)
    (hck : methOk [(1000, id)] [(1000, o)] [(1000, o')] res = true) (hargs : (args.map fun a => (renA (mlook [(1000, id)]) a).v) = cargs) (hob : oget ob id = some (renO (mlook [(1000, id)]) o))
    (hk : aRenO [(1000, id)] o' fun o' => aSetO id o' ob fun ob => aRenR [(1000, id)] res fun r => K r ⟨tm, ob⟩) : ACall E S f cargs ⟨tm, ob⟩ K :=
  ACall.meth hc [(1000, id)] hck hargs (show aOb ob id fun o1 => o1 = renO (mlook [(1000, id)]) o ∧ _ from aOb_mk hob ⟨rfl, hk⟩)
theorem relA_ref {Z : Nat → Prop} {w : World} {ρ : Nat → Value} {id k s off : Nat} {u : Value} (h : RelV Z w ρ (AA.v (.one (.ref id k s off))) u) : ∃ b, blkOf (ρ id) = some b ∧ u = .pointer (some ⟨b, k * s + off, none⟩) := by
  cases h with
  | one _ _ h => exact h
theorem heap_setCell_cells {w : World} {b i : Nat} {us : List Value} {t : TypeId} {v : Value} (h : w.heap[b]? = some (.cells us.toArray t (0, 0))) : (w.setCell ⟨b, i, none⟩ v).heap[b]? = some (.cells (us.set i v).toArray t (0, 0)) := by
  have := Lib.heap_setCell_same (i := i) h v
  simpa using this
end Go.Proofs.YtlhanpkfnhnegaaDoor
