/- strings.Builder over abstract values: two objects, the struct and its row of bytes. -/
import Derived.Test.YtlhanpkfnhnegaaDoorAvV
import Derived.Test.YtlhanpkfnhnegaaDoorAvEnv
import Derived.Test.YtlhanpkfnhnegaaDoorAvR
import Derived.Test.YtlhanpkfnhnegaaDoorBuilder
import Derived.Test.YtlhanpkfnhnegaaDoorShelf
set_option linter.unusedVariables false
set_option linter.unusedSimpArgs false
set_option maxRecDepth 100000
namespace Go.Proofs.YtlhanpkfnhnegaaDoor
open Go.RowKit

/-- A fresh one; one that was written. -/
abbrev bFresh : AO := .cells 108 [.d (.pv (.pointer none)), .nil]
abbrev bUsed (id row : Nat) : AO := .cells 108 [.ref id 0 0 0, .own row]
abbrev bRow (xs : List (List AD)) : AO := .row 5 1 xs

theorem copyCheck_m0 : MCall av 137 [.one (.ref 1000 0 0 0)] [(1000, bFresh)] [(1000, .cells 108 [.ref 1000 0 0 0, .nil])] [1000] (.tup []) := by
  refine MCall.of_upd (id := 1000) Tryd.call137 rfl fun Z w ρ us hws ho hl hr => ?_
  obtain ⟨b, cs, hp, hg, hcl, hc⟩ := ho
  obtain ⟨u, rfl⟩ := List.length_eq_one_iff.1 hl
  obtain ⟨b', hb', rfl⟩ := relA_ref (hr 0 _ _ rfl rfl)
  rw [hp] at hb'
  injection hb' with hb'
  subst hb'
  match cs, hcl with
  | [u0, u1], _ =>
    have h0 : u0 = .pointer none := rel_pv (hc 0 _ _ rfl rfl)
    have h1 := hc 1 _ _ rfl rfl
    subst h0
    have := copyCheck_fresh b w (by rw [Lib.cell_of_heap hg]; rfl) (by simp [World.shape?, hg]) (Lib.frozen_of_heap hg 0)
    refine this.mono ?_
    rintro e w' ⟨rfl, rfl⟩
    refine ⟨_, b, rfl, by rw [hp]; rfl, Lib.grownBy_setCell w b 0 _, ⟨b, _, hp, heap_setCell_cells hg, rfl, fun i c u hx hu => ?_⟩, .tup _ [] rfl (by simp)⟩
    match i with
    | 0 => simp at hx hu; subst hx hu; exact ⟨b, by rw [hp]; rfl, rfl⟩
    | 1 => simp at hx hu; subst hx hu; exact h1
    | i + 2 => simp at hx
theorem copyCheck_m1 (xs : List (List AD)) : MCall av 137 [.one (.ref 1000 0 0 0)] [(1000, bUsed 1000 1001), (1001, bRow xs)] [(1000, bUsed 1000 1001), (1001, bRow xs)] [1000, 1001] (.tup []) := by
  refine MCall.of_same Tryd.call137 fun Z w ρ us hws hl hr => ?_
  obtain ⟨b, cs, hp, hg, hcl, hc⟩ := hws.obj 1000 _ rfl
  obtain ⟨u, rfl⟩ := List.length_eq_one_iff.1 hl
  obtain ⟨b', hb', rfl⟩ := relA_ref (hr 0 _ _ rfl rfl)
  rw [hp] at hb'
  injection hb' with hb'
  subst hb'
  match cs, hcl with
  | [u0, u1], _ =>
    obtain ⟨b2, hb2, h0⟩ := hc 0 _ _ rfl rfl
    rw [hp] at hb2
    injection hb2 with hb2
    subst hb2
    subst h0
    refine (copyCheck_used b w (by rw [Lib.cell_of_heap hg]; rfl)).mono ?_
    rintro e w' ⟨rfl, rfl⟩
    exact ⟨_, rfl, ⟨rfl, rfl, rfl, Nat.le_refl _, fun _ _ _ => rfl⟩, .tup _ [] rfl (by simp)⟩

theorem writeString_m0 (s : ByteArray) (hs : s.size ≤ 140737488355328) : MCall av 90 [.one (.ref 1000 0 0 0), .one (.d (dS s))] [(1000, bFresh)] [(1000, bUsed 1000 14), (14, bRow (strDs s))] [1000] (.tup [.one (.d (dI s.size)), .one (.d (.pv .nilIface))]) := by
  refine mcall_of av_ok Tryd.func90 rfl Tryd.call90 Tryd.ntmps90 (congrArg Array.toList Tryd.results90) rfl fun S pv => ?_; conv => whnf
  repeat' (first | (refine AWP.seq ?_) | (refine AWP.region av_ok ?_; conv => whnf) | (refine AWP.ret ?_; conv => whnf) | (refine AWP.skip ?_; conv => whnf) | (refine AWP.exit ?_; conv => whnf) | (refine AWP.block ?_; conv => whnf) | (refine AWP.cond ?_; conv => whnf) | (refine AB.tt ?_; conv => whnf) | (refine AB.ff ?_; conv => whnf) | (refine ACall.meth copyCheck_m0 [(1000, 1000)] rfl rfl ?_; conv => whnf) | (refine And.intro hs ?_; conv => whnf) | (refine AB.ofT (by assumption) ?_; conv => whnf) | (refine AB.ofF (by assumption) ?_; conv => whnf) | (exact trivial) | (refine And.intro rfl ?_; conv => whnf) | (refine AB.mk (fun h => ?_) (fun h => ?_) <;> (conv => whnf)))
theorem writeString_m1 (xs : List (List AD)) (s : ByteArray) (hs : xs.length + s.size ≤ 140737488355328) : MCall av 90 [.one (.ref 1000 0 0 0), .one (.d (dS s))] [(1000, bUsed 1000 1001), (1001, bRow xs)] [(1000, bUsed 1000 1001), (1001, bRow (xs ++ strDs s))] [1000] (.tup [.one (.d (dI s.size)), .one (.d (.pv .nilIface))]) := by
  refine mcall_of av_ok Tryd.func90 rfl Tryd.call90 Tryd.ntmps90 (congrArg Array.toList Tryd.results90) rfl fun S pv => ?_; conv => whnf
  repeat' (first | (refine AWP.seq ?_) | (refine AWP.region av_ok ?_; conv => whnf) | (refine AWP.ret ?_; conv => whnf) | (refine AWP.skip ?_; conv => whnf) | (refine AWP.exit ?_; conv => whnf) | (refine AWP.block ?_; conv => whnf) | (refine AWP.cond ?_; conv => whnf) | (refine AB.tt ?_; conv => whnf) | (refine AB.ff ?_; conv => whnf) | (refine ACall.meth (copyCheck_m1 xs) [(1000, 1000), (1001, 1001)] rfl rfl ?_; conv => whnf) | (refine And.intro hs ?_; conv => whnf) | (refine AB.ofT (by assumption) ?_; conv => whnf) | (refine AB.ofF (by assumption) ?_; conv => whnf) | (exact trivial) | (refine And.intro rfl ?_; conv => whnf) | (refine AB.mk (fun h => ?_) (fun h => ?_) <;> (conv => whnf)))
end Go.Proofs.YtlhanpkfnhnegaaDoor
