/- Bytes to text; splits that are known; operations by hand. -/
import Derived.Test.YthmckpghadfeeaaGreatAvJ3
import Derived.Test.YthmckpghadfeeaaGreatAvQ
import Derived.Laws.BytesArg
import Derived.Laws.BytesString
set_option linter.unusedVariables false
set_option linter.unusedSimpArgs false
set_option maxRecDepth 100000
namespace Go.Proofs.YthmckpghadfeeaaGreat
open Go.RowKit

theorem AB.ofT {p : Bool} {X Y : Prop} (h : p = true) (hx : X) : AB p X Y := ⟨fun _ => hx, fun e => (by rw [h] at e; cases e)⟩
theorem AB.ofF {p : Bool} {X Y : Prop} (h : p = false) (hy : Y) : AB p X Y := ⟨fun e => (by rw [h] at e; cases e), fun _ => hy⟩
theorem AOp.reads {E : AEnv} {S : Base} {o : Oper} {st : ASt} {K : ASt → Prop} (h : ∀ Z ρ a w, Sim E.W S Z ρ st a w → Reads E Z ρ o a w fun v => aDst st o.dst v K) : AOp E S o st K := by
  refine ⟨fun a w Q hs => ?_⟩
  obtain ⟨Z, ρ, hs⟩ := hs
  exact good_of hs (h Z ρ a w hs) Q
theorem AIx.mapF {α : Type} {enc : α → List AD} {l : List α} {k : Nat} {K : Nat → List AD → Prop} (hk : k < l.length) (h : ∀ _ : k < l.length, K k (enc l[k])) : AIx (l.map enc) (k : Int) K := AIx.map hk (h hk)
/-- A byte. -/
def eU (n : Int) : List AD := [.pv (.int .u8 n)]
theorem rel_pv {Z : Nat → Prop} {w : World} {v u : Value} (h : RelD Z w (.pv v) u) : u = v := by cases h; rfl
theorem flat_one {α β : Type} (f : α → β) : ∀ l : List α, (l.map fun x => [f x]).flatten = l.map f
  | [] => rfl
  | x :: r => by rw [List.map_cons, List.flatten_cons, flat_one f r]; rfl
theorem AOp.bytes {E : AEnv} {S : Base} {o : Oper} {st : ASt} {K : ASt → Prop} {src dst e : TypeId} {x : Operand} (l : List Int) (ho : o.op = .convert src dst x) (hs : E.P.underlying src = some (.slice e)) (he : E.P.underlying e = some (.int .u8)) (hd : E.P.underlying dst = some .string)
    (hx : aEv st x fun v => aRowOf st v fun xs => xs = l.map eU) (hk : aDst st o.dst (vS (strOfNums l)) K) : AOp E S o st K := by
  refine .reads fun Z ρ a w hsim => ?_
  obtain ⟨v, hv, hx⟩ := aEv_get hsim hx
  obtain ⟨xs, A, cap, hval, hcap, rfl, s, us, h1, h2, h3, h4, h5⟩ := aRowOf_get hsim hv hx
  have hlen : (l.map eU).length = l.length := by simp
  have hus : us = l.map fun n => [Value.int .u8 n] := by
    apply List.ext_getElem?
    intro i
    rw [List.getElem?_map]
    cases hl : l[i]? with
    | none => rw [List.getElem?_eq_none]; rfl; rw [h1, hlen]; exact List.getElem?_eq_none_iff.1 hl
    | some n =>
      have hlt : i < us.length := by rw [h1, hlen]; exact (List.getElem?_eq_some_iff.1 hl).1
      rw [List.getElem?_eq_getElem hlt]
      have hx : (l.map eU)[i]? = some (eU n) := by simp [hl]
      have hs1 : s = 1 := (h2 _ (List.mem_of_getElem? hx)).symm
      have hu := h3 us[i] (List.getElem_mem hlt)
      rw [hs1] at hu
      obtain ⟨y, hy⟩ := List.length_eq_one_iff.1 hu
      have := rel_pv (h5 i 0 _ _ _ y hx (List.getElem?_eq_getElem hlt) rfl (by rw [hy]; rfl))
      simp [hy, this]
  have hfl : us.flatten = l.map (Value.int .u8) := by rw [hus]; exact flat_one (fun n => Value.int .u8 n) l
  rw [hfl] at h4
  rw [hlen] at hval
  refine ⟨_, _, relV_of_pv rfl, ?_, hk⟩
  have key : (convert src dst (.slice A l.length cap)).run E.P w = .ok (.string (strOfNums l)) w := by
    rcases h4 with h4 | ⟨b, off, rfl, hc⟩
    · have : l = [] := by simpa using h4
      subst this
      cases A with
      | none => exact run_convert_bytes_nil w src e hs he 0 cap dst hd
      | some ad =>
        have hl : (loadCells ad 0).run E.P w = .ok (([] : List Int).map (Value.int .u8)).toArray w := by
          have := run_loadCells_list (P := E.P) w ad [] (fun j v hj => by simp at hj)
          simpa using this
        rw [show ([] : List Int).length = 0 from rfl, run_convert_bytes_string w src dst e _ 0 cap hs he hd, run_bytesToString w _ 0 cap [] hl, foldl_push_bytes]
        simp [strOfNums, ByteArray.empty, ByteArray.emptyWithCapacity]
        rfl
    · refine run_convert_bytes_arg w src e hs he b off l.length cap l rfl (fun i hi => ?_) dst hd
      refine (hc i _ ?_)
      simp [List.getD, hi]
  simp [execOp, ho, hval, key]
end Go.Proofs.YthmckpghadfeeaaGreat
