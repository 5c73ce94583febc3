/- The scanner of words: its method word, walked. -/
import Derived.Test.YtlhanpkfnhnegaaDoorAvV2
import Derived.Test.YtlhanpkfnhnegaaDoorWords
import Derived.Test.YtlhanpkfnhnegaaDoorAvT1
import Derived.Test.YtlhanpkfnhnegaaDoorShelfB
set_option linter.unusedVariables false
set_option linter.unusedSimpArgs false
set_option maxRecDepth 100000
namespace Go.Proofs.YtlhanpkfnhnegaaDoor
open Go.RowKit

/-- A contract on values alone, several results. -/
theorem PCall.plainT {E : AEnv} (he : E.Ok) {f : FuncId} {args : List AP1} {vs : List Value} (enter : ∀ (us : Array Value) w, (callFunc f us).run E.P w = .ok (.enter f us) w) (hp : args.all AP1.isPl = true) (hv : ∀ v ∈ vs, v.oneCell' = true)
    (h : ∀ w, E.W w → Calls E.P f (args.map AP1.pl).toArray w fun e w' => e = .returned (.tuple vs.toArray) ∧ Below w.heap.size w w') : PCall E f args (.tup (vs.map fun v => .one (.pv v))) := by
  refine ⟨enter, fun Z w us hz hg hl hr => ?_⟩
  have : us = args.map AP1.pl := by
    apply List.ext_getElem?
    intro i
    rw [List.getElem?_map]
    cases hd : args[i]? with
    | none => rw [List.getElem?_eq_none]; rfl; rw [hl]; exact List.getElem?_eq_none_iff.1 hd
    | some d =>
      have hlt : i < us.length := by rw [hl]; exact (List.getElem?_eq_some_iff.1 hd).1
      rw [List.getElem?_eq_getElem hlt]
      have hp : d.isPl = true := List.all_eq_true.1 hp d (List.mem_of_getElem? hd)
      simp [relP_pl hp (hr i d us[i] hd (List.getElem?_eq_getElem hlt))]
  subst this
  refine (h w (gz_w he hg)).mono ?_
  rintro e w' ⟨rfl, hb⟩
  refine ⟨_, Z, rfl, hb, fun _ h => h, fun _ h => .inl h, vs, rfl, by simp, fun i p u hp hu => ?_⟩
  rw [List.getElem?_map, hu] at hp
  injection hp with hp
  subst hp
  exact .pv _ (hv _ (List.mem_of_getElem? hu))
theorem below_drewN' (w : World) (n : Nat) : Below w.heap.size w (w.drewN n) := by
  induction n with
  | zero => exact Below.refl _ _
  | succ n ih => exact ih.drew
theorem cut_calls (c : UInt8) (w : List UInt8) (ws : List (List UInt8)) (h : c ∉ w) (hs : (joinL c (w :: ws)).length < 4294967281) (W : World) (m : Int) (hm : W.cell? ⟨0, 0, none⟩ = some (.int .i64 m)) :
    Calls Tryd.prog 111 #[.string ⟨(joinL c (w :: ws)).toArray⟩, .string ⟨#[c]⟩] W fun e w' => e = .returned (.tuple #[.string ⟨w.toArray⟩, .string ⟨(joinL c ws).toArray⟩, .bool (!ws.isEmpty)]) ∧ ∃ n, w' = W.drewN n := by
  have := Tryd.strings_Cut ⟨(joinL c (w :: ws)).toArray⟩ ⟨#[c]⟩ m W (by simpa [ByteArray.size] using hs) hm
  simp only [List.toList_toArray] at this
  rw [cut_words h] at this
  exact this
theorem cut_p (c : UInt8) (w : List UInt8) (ws : List (List UInt8)) (h : c ∉ w) (hs : (joinL c (w :: ws)).length < 4294967281) : PCall av 111 [pL (joinL c (w :: ws)), pL [c]] (.tup [.one (dL w), .one (dL (joinL c ws)), .one (dB (!ws.isEmpty))]) := by
  refine PCall.plainT av_ok (vs := [.string ⟨w.toArray⟩, .string ⟨(joinL c ws).toArray⟩, .bool (!ws.isEmpty)]) Tryd.call111 rfl (by simp [Value.oneCell']) fun W hW => ?_
  obtain ⟨_, m, hm⟩ := hW
  refine (cut_calls c w ws h hs W m hm).mono ?_
  rintro e w' ⟨rfl, n, rfl⟩
  exact ⟨rfl, below_drewN' W n⟩
end Go.Proofs.YtlhanpkfnhnegaaDoor
