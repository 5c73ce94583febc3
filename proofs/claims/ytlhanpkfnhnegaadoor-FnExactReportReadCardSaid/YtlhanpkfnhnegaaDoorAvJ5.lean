/- Joined by join.py: AvV1 AvV2 AvW1 AvW2 AvW3 AvW4 AvW5 -/
import Derived.Test.YtlhanpkfnhnegaaDoorAvJ4
import Derived.Test.YtlhanpkfnhnegaaDoorAvEnv
import Derived.Test.YtlhanpkfnhnegaaDoorAvR
import Derived.Test.YtlhanpkfnhnegaaDoorBuilder
import Derived.Test.YtlhanpkfnhnegaaDoorShelf
import Derived.Test.YtlhanpkfnhnegaaDoorWords
import Derived.Test.YtlhanpkfnhnegaaDoorAvT1
import Derived.Test.YtlhanpkfnhnegaaDoorShelfB
import Derived.Defers
import Derived.Lib.BufferOwn
import Derived.Lib.Hide
import Derived.Test.YtlhanpkfnhnegaaDoorAvT2
import Derived.Lib.AtoiErrMem
import Derived.LoopN
set_option linter.unusedVariables false
set_option linter.unusedSimpArgs false
set_option maxRecDepth 100000
/- strings.Builder over abstract values: two objects, the struct and its row of bytes. -/
namespace Go.Proofs.YtlhanpkfnhnegaaDoor
open Go.RowKit

/-- A fresh one; one that was written. -/
abbrev bFresh : AO := .cells 108 [.d (.pv (.pointer none)), .nil]
abbrev bUsed (id row : Nat) : AO := .cells 108 [.ref id 0 0 0, .own row]
abbrev bRow (xs : List (List AD)) : AO := .row 5 1 xs

theorem copyCheck_m0 : MCall av 137 [.one (.ref 1000 0 0 0)] [(1000, bFresh)] [(1000, .cells 108 [.ref 1000 0 0 0, .nil])] [1000] (.tup []) := by
  refine MCall.of_upd (id := 1000) Tryd.call137 rfl fun Z w ρ us hws ho hl hr => ?_
  obtain ⟨b, cs, hp, hg, hcl, hc⟩ := ho
  obtain ⟨u, rfl⟩ := List.length_eq_one_iff.1 hl
  obtain ⟨b', hb', rfl⟩ := relA_ref (hr 0 _ _ rfl rfl)
  rw [hp] at hb'
  injection hb' with hb'
  subst hb'
  match cs, hcl with
  | [u0, u1], _ =>
    have h0 : u0 = .pointer none := rel_pv (hc 0 _ _ rfl rfl)
    have h1 := hc 1 _ _ rfl rfl
    subst h0
    have := copyCheck_fresh b w (by rw [Lib.cell_of_heap hg]; rfl) (by simp [World.shape?, hg]) (Lib.frozen_of_heap hg 0)
    refine this.mono ?_
    rintro e w' ⟨rfl, rfl⟩
    refine ⟨_, b, rfl, by rw [hp]; rfl, Lib.grownBy_setCell w b 0 _, ⟨b, _, hp, heap_setCell_cells hg, rfl, fun i c u hx hu => ?_⟩, .tup _ [] rfl (by simp)⟩
    match i with
    | 0 => simp at hx hu; subst hx hu; exact ⟨b, by rw [hp]; rfl, rfl⟩
    | 1 => simp at hx hu; subst hx hu; exact h1
    | i + 2 => simp at hx
theorem copyCheck_m1 (xs : List (List AD)) : MCall av 137 [.one (.ref 1000 0 0 0)] [(1000, bUsed 1000 1001), (1001, bRow xs)] [(1000, bUsed 1000 1001), (1001, bRow xs)] [1000, 1001] (.tup []) := by
  refine MCall.of_same Tryd.call137 fun Z w ρ us hws hl hr => ?_
  obtain ⟨b, cs, hp, hg, hcl, hc⟩ := hws.obj 1000 _ rfl
  obtain ⟨u, rfl⟩ := List.length_eq_one_iff.1 hl
  obtain ⟨b', hb', rfl⟩ := relA_ref (hr 0 _ _ rfl rfl)
  rw [hp] at hb'
  injection hb' with hb'
  subst hb'
  match cs, hcl with
  | [u0, u1], _ =>
    obtain ⟨b2, hb2, h0⟩ := hc 0 _ _ rfl rfl
    rw [hp] at hb2
    injection hb2 with hb2
    subst hb2
    subst h0
    refine (copyCheck_used b w (by rw [Lib.cell_of_heap hg]; rfl)).mono ?_
    rintro e w' ⟨rfl, rfl⟩
    exact ⟨_, rfl, ⟨rfl, rfl, rfl, Nat.le_refl _, fun _ _ _ => rfl⟩, .tup _ [] rfl (by simp)⟩

theorem writeString_m0 (s : ByteArray) (hs : s.size ≤ 140737488355328) : MCall av 90 [.one (.ref 1000 0 0 0), .one (.d (dS s))] [(1000, bFresh)] [(1000, bUsed 1000 14), (14, bRow (strDs s))] [1000] (.tup [.one (.d (dI s.size)), .one (.d (.pv .nilIface))]) := by
  refine mcall_of av_ok Tryd.func90 rfl Tryd.call90 Tryd.ntmps90 (congrArg Array.toList Tryd.results90) rfl fun S pv => ?_; conv => whnf
  repeat' (first | (refine AWP.seq ?_) | (refine AWP.region av_ok ?_; conv => whnf) | (refine AWP.ret ?_; conv => whnf) | (refine AWP.skip ?_; conv => whnf) | (refine AWP.exit ?_; conv => whnf) | (refine AWP.block ?_; conv => whnf) | (refine AWP.cond ?_; conv => whnf) | (refine AB.tt ?_; conv => whnf) | (refine AB.ff ?_; conv => whnf) | (refine ACall.meth copyCheck_m0 [(1000, 1000)] rfl rfl ?_; conv => whnf) | (refine And.intro hs ?_; conv => whnf) | (refine AB.ofT (by assumption) ?_; conv => whnf) | (refine AB.ofF (by assumption) ?_; conv => whnf) | (exact trivial) | (refine And.intro rfl ?_; conv => whnf) | (refine AB.mk (fun h => ?_) (fun h => ?_) <;> (conv => whnf)) | (with_reducible_and_instances rfl) | (exact (rfl : AP.tup _ = AP.tup _)))
theorem writeString_m1 (xs : List (List AD)) (s : ByteArray) (hs : xs.length + s.size ≤ 140737488355328) : MCall av 90 [.one (.ref 1000 0 0 0), .one (.d (dS s))] [(1000, bUsed 1000 1001), (1001, bRow xs)] [(1000, bUsed 1000 1001), (1001, bRow (xs ++ strDs s))] [1000] (.tup [.one (.d (dI s.size)), .one (.d (.pv .nilIface))]) := by
  refine mcall_of av_ok Tryd.func90 rfl Tryd.call90 Tryd.ntmps90 (congrArg Array.toList Tryd.results90) rfl fun S pv => ?_; conv => whnf
  repeat' (first | (refine AWP.seq ?_) | (refine AWP.region av_ok ?_; conv => whnf) | (refine AWP.ret ?_; conv => whnf) | (refine AWP.skip ?_; conv => whnf) | (refine AWP.exit ?_; conv => whnf) | (refine AWP.block ?_; conv => whnf) | (refine AWP.cond ?_; conv => whnf) | (refine AB.tt ?_; conv => whnf) | (refine AB.ff ?_; conv => whnf) | (refine ACall.meth (copyCheck_m1 xs) [(1000, 1000), (1001, 1001)] rfl rfl ?_; conv => whnf) | (refine And.intro hs ?_; conv => whnf) | (refine AB.ofT (by assumption) ?_; conv => whnf) | (refine AB.ofF (by assumption) ?_; conv => whnf) | (exact trivial) | (refine And.intro rfl ?_; conv => whnf) | (refine AB.mk (fun h => ?_) (fun h => ?_) <;> (conv => whnf)) | (with_reducible_and_instances rfl) | (exact (rfl : AP.tup _ = AP.tup _)))
end Go.Proofs.YtlhanpkfnhnegaaDoor
/- (*strings.Builder).String over abstract values: the row is used up. -/
namespace Go.Proofs.YtlhanpkfnhnegaaDoor
open Go.RowKit

theorem grownBy_freeze (w : World) (g n : Nat) : w.grownBy (w.drew.freeze ⟨g, 0, none⟩ n) (some g) := by
  by_cases hn : n = 0
  · subst hn; exact ⟨rfl, rfl, rfl, Nat.le_refl _, fun _ _ _ => rfl⟩
  · have e : w.drew.freeze ⟨g, 0, none⟩ n = { w.drew with heap := w.heap.modify g fun | .cells c elem (lo, hi) => .cells c elem (if lo == hi then (0, 0 + n) else (min lo 0, max hi (0 + n))) | o => o } := by
      unfold World.freeze; rw [if_neg hn]; rfl
    rw [e]
    refine ⟨rfl, rfl, rfl, by simp, fun k hk hne => ?_⟩
    have : g ≠ k := fun e => hne (by rw [e])
    simp [Array.getElem?_modify, this]
set_option maxHeartbeats 1000000 in
theorem string_row (b g cap : Nat) (l : List UInt8) (u0 : Value) (w : World) (h0 : l ≠ []) (hbk : w.heap[b]? = some (.cells #[u0, .slice (some ⟨g, 0, none⟩) l.length cap] 108 (0, 0)))
    (hown : w.ownsRow 0 5 1 (.slice (some ⟨g, 0, none⟩) l.length cap) l.length (Lib.byteCells l)) :
    Calls Tryd.prog 91 #[.pointer (some ⟨b, 0, none⟩)] w fun e w' => e = .returned (.string ⟨l.toArray⟩) ∧ w' = w.drew.freeze ⟨g, 0, none⟩ l.length := by
  have hl0 : l.length ≠ 0 := by simpa using h0
  have h2 := hown.2
  rcases h2 with ⟨h3, _⟩ | ⟨g', cap', cur, hv, _, hg, hnc, hcm, hcs, htake⟩
  · cases h3
  injection hv with hv1 hv2 hv3
  injection hv1 with hv1
  injection hv1 with hv1
  subst hv1 hv3
  have mixed : Tryd.prog.follows .mixedOrders = true := by kernel_rfl
  have c1 : w.drew.cell? ⟨b, 1, none⟩ = some (.slice (some ⟨g, 0, none⟩) l.length cap) := by
    have : w.drew.heap[b]? = _ := hbk
    rw [Lib.cell_of_heap this]; rfl
  have hSD : (Builtin.unsafeSliceData_ #[76] 141 #[.slice (some ⟨g, 0, none⟩) l.length cap]).run Tryd.prog w.drew = .ok (.pointer (some ⟨g, 0, none⟩)) w.drew := Lib.run_unsafeSliceData_row _ _ _ _ _ _ (by omega)
  have hUS : (Builtin.unsafeString_ #[141, 3] 9 #[.pointer (some ⟨g, 0, none⟩), .int .i64 l.length]).run Tryd.prog w.drew = .ok (.string ⟨l.toArray⟩) (w.drew.freeze ⟨g, 0, none⟩ l.length) := by
    refine Lib.run_unsafeString_row w.drew 141 3 9 5 Tryd.underlying141 (by kernel_rfl) g cur.size (by have hg' : w.drew.heap[g]? = _ := hg; simp [World.shape?, hg']) l h0 (by simp at hcs; omega) (by unfold maxLen at hcm; omega) ?_
    intro j x hx
    exact hown.cells (g := g) rfl j (.int .u8 x.toNat) (by simp [Lib.byteCells, hx])
  go_enter Tryd.func91, Tryd.ntmps91
  go_wp2
  go_region_o
  all_goals (go_wp2; go_ret; exact ⟨rfl, rfl⟩)
set_option maxHeartbeats 1000000 in
theorem string_nil (b : Nat) (u0 : Value) (w : World) (hbk : w.heap[b]? = some (.cells #[u0, .slice none 0 0] 108 (0, 0))) :
    Calls Tryd.prog 91 #[.pointer (some ⟨b, 0, none⟩)] w fun e w' => e = .returned (.string ⟨#[]⟩) ∧ w' = w.drew := by
  have mixed : Tryd.prog.follows .mixedOrders = true := by kernel_rfl
  have c1 : w.drew.cell? ⟨b, 1, none⟩ = some (.slice none 0 0) := by
    have : w.drew.heap[b]? = _ := hbk
    rw [Lib.cell_of_heap this]; rfl
  have hSD : (Builtin.unsafeSliceData_ #[76] 141 #[.slice none 0 0]).run Tryd.prog w.drew = .ok (.pointer none) w.drew := rfl
  have hUS : (Builtin.unsafeString_ #[141, 3] 9 #[.pointer none, .int .i64 0]).run Tryd.prog w.drew = .ok (.string ⟨#[]⟩) w.drew := Lib.run_unsafeString_none _ _ _ _ _
  go_enter Tryd.func91, Tryd.ntmps91
  go_wp2
  go_region_o
  all_goals (go_wp2; go_ret; exact ⟨rfl, rfl⟩)

theorem string_m0 : MCall av 91 [.one (.ref 1000 0 0 0)] [(1000, bFresh)] [(1000, bFresh)] [1000] (.val (.one (.d (dL [])))) := by
  refine MCall.of_same Tryd.call91 fun Z w ρ us hws hl hr => ?_
  obtain ⟨b, cs, hp, hg, hcl, hc⟩ := hws.obj 1000 _ rfl
  obtain ⟨u, rfl⟩ := List.length_eq_one_iff.1 hl
  obtain ⟨b', hb', rfl⟩ := relA_ref (hr 0 _ _ rfl rfl)
  rw [hp] at hb'
  injection hb' with hb'
  subst hb'
  match cs, hcl with
  | [u0, u1], _ =>
    have h1 : u1 = .slice none 0 0 := hc 1 _ _ rfl rfl
    subst h1
    refine (string_nil b u0 w hg).mono ?_
    rintro e w' ⟨rfl, rfl⟩
    exact ⟨_, rfl, ⟨rfl, rfl, rfl, Nat.le_refl _, fun _ _ _ => rfl⟩, .one _ _ (show RelD Z _ (.pv _) _ from .pv _ rfl)⟩
theorem string_m1 (l : List UInt8) (h0 : l ≠ []) : MCall av 91 [.one (.ref 1000 0 0 0)] [(1000, bUsed 1000 1001), (1001, bRow (strDs ⟨l.toArray⟩))] [(1000, .cells 108 [.ref 1000 0 0 0, .dead]), (1001, .frame [] [])] [] (.val (.one (.d (dL l)))) := by
  refine MCall.of_gone (id := 1001) (o := bRow (strDs ⟨l.toArray⟩)) Tryd.call91 rfl fun Z w ρ us hws hl hr => ?_
  obtain ⟨b, cs, hp, hg, hcl, hc⟩ := hws.obj 1000 _ rfl
  obtain ⟨ux, hs0, hxl, hxx, hxu, hown, hxd⟩ := hws.obj 1001 _ rfl
  obtain ⟨u, rfl⟩ := List.length_eq_one_iff.1 hl
  obtain ⟨b', hb', rfl⟩ := relA_ref (hr 0 _ _ rfl rfl)
  rw [hp] at hb'
  injection hb' with hb'
  subst hb'
  match cs, hcl with
  | [u0, u1], _ =>
    have h1 : u1 = ρ 1001 := (hc 1 _ _ rfl rfl).1
    subst h1
    have hlen : (strDs ⟨l.toArray⟩).length = l.length := by simp [strDs]
    have hux : ux.flatten = Lib.byteCells l := by
      have : ux = l.map fun b => [Value.int .u8 b.toNat] := by
        apply List.ext_getElem?
        intro i
        rw [List.getElem?_map]
        cases hd : l[i]? with
        | none => rw [List.getElem?_eq_none]; rfl; rw [hxl, hlen]; exact List.getElem?_eq_none_iff.1 hd
        | some n =>
          have hlt : i < ux.length := by rw [hxl, hlen]; exact (List.getElem?_eq_some_iff.1 hd).1
          rw [List.getElem?_eq_getElem hlt]
          have hx : (strDs ⟨l.toArray⟩)[i]? = some [.pv (.int .u8 n.toNat)] := by simp [strDs, hd]
          have hu := hxu ux[i] (List.getElem_mem hlt)
          obtain ⟨y, hy⟩ := List.length_eq_one_iff.1 hu
          have := rel_pv (hxd i 0 _ _ _ y hx (List.getElem?_eq_getElem hlt) rfl (by rw [hy]; rfl))
          simp [hy, this]
      rw [this]
      exact flat_one (fun b : UInt8 => Value.int .u8 b.toNat) l
    rw [hux, hlen] at hown
    have hl0 : l.length ≠ 0 := by simpa using h0
    rcases hown.2 with ⟨_, hn⟩ | ⟨g, cap, cur, hv, _⟩
    · exact absurd hn hl0
    · rw [hv] at hg hown
      refine (string_row b g cap l u0 w h0 hg hown).mono ?_
      rintro e w' ⟨rfl, rfl⟩
      refine ⟨_, rfl, ?_, fun ρ' => .one _ _ (show RelD Z _ (.pv _) _ from .pv _ rfl)⟩
      rw [hv]
      exact grownBy_freeze w g l.length
end Go.Proofs.YtlhanpkfnhnegaaDoor
/- The scanner of words: its method word, walked. -/
namespace Go.Proofs.YtlhanpkfnhnegaaDoor
open Go.RowKit

/-- A contract on values alone, several results. -/
theorem PCall.plainT {E : AEnv} (he : E.Ok) {f : FuncId} {args : List AP1} {vs : List Value} (enter : ∀ (us : Array Value) w, (callFunc f us).run E.P w = .ok (.enter f us) w) (hp : args.all AP1.isPl = true) (hv : ∀ v ∈ vs, v.oneCell' = true)
    (h : ∀ w, E.W w → Calls E.P f (args.map AP1.pl).toArray w fun e w' => e = .returned (.tuple vs.toArray) ∧ Below w.heap.size w w') : PCall E f args (.tup (vs.map fun v => .one (.pv v))) := by
  refine ⟨enter, fun Z w us hz hg hl hr => ?_⟩
  have : us = args.map AP1.pl := by
    apply List.ext_getElem?
    intro i
    rw [List.getElem?_map]
    cases hd : args[i]? with
    | none => rw [List.getElem?_eq_none]; rfl; rw [hl]; exact List.getElem?_eq_none_iff.1 hd
    | some d =>
      have hlt : i < us.length := by rw [hl]; exact (List.getElem?_eq_some_iff.1 hd).1
      rw [List.getElem?_eq_getElem hlt]
      have hp : d.isPl = true := List.all_eq_true.1 hp d (List.mem_of_getElem? hd)
      simp [relP_pl hp (hr i d us[i] hd (List.getElem?_eq_getElem hlt))]
  subst this
  refine (h w (gz_w he hg)).mono ?_
  rintro e w' ⟨rfl, hb⟩
  refine ⟨_, Z, rfl, hb, fun _ h => h, fun _ h => .inl h, vs, rfl, by simp, fun i p u hp hu => ?_⟩
  rw [List.getElem?_map, hu] at hp
  injection hp with hp
  subst hp
  exact .pv _ (hv _ (List.mem_of_getElem? hu))
theorem below_drewN' (w : World) (n : Nat) : Below w.heap.size w (w.drewN n) := by
  induction n with
  | zero => exact Below.refl _ _
  | succ n ih => exact ih.drew
theorem cut_calls (c : UInt8) (w : List UInt8) (ws : List (List UInt8)) (h : c ∉ w) (hs : (joinL c (w :: ws)).length < 4294967281) (W : World) (m : Int) (hm : W.cell? ⟨0, 0, none⟩ = some (.int .i64 m)) :
    Calls Tryd.prog 111 #[.string ⟨(joinL c (w :: ws)).toArray⟩, .string ⟨#[c]⟩] W fun e w' => e = .returned (.tuple #[.string ⟨w.toArray⟩, .string ⟨(joinL c ws).toArray⟩, .bool (!ws.isEmpty)]) ∧ ∃ n, w' = W.drewN n := by
  have := Tryd.strings_Cut ⟨(joinL c (w :: ws)).toArray⟩ ⟨#[c]⟩ m W (by simpa [ByteArray.size] using hs) hm
  simp only [List.toList_toArray] at this
  rw [cut_words h] at this
  exact this
theorem cut_p (c : UInt8) (w : List UInt8) (ws : List (List UInt8)) (h : c ∉ w) (hs : (joinL c (w :: ws)).length < 4294967281) : PCall av 111 [pL (joinL c (w :: ws)), pL [c]] (.tup [.one (dL w), .one (dL (joinL c ws)), .one (dB (!ws.isEmpty))]) := by
  refine PCall.plainT av_ok (vs := [.string ⟨w.toArray⟩, .string ⟨(joinL c ws).toArray⟩, .bool (!ws.isEmpty)]) Tryd.call111 rfl (by simp [Value.oneCell']) fun W hW => ?_
  obtain ⟨_, m, hm⟩ := hW
  refine (cut_calls c w ws h hs W m hm).mono ?_
  rintro e w' ⟨rfl, n, rfl⟩
  exact ⟨rfl, below_drewN' W n⟩
end Go.Proofs.YtlhanpkfnhnegaaDoor
/- The scanner's method word: walked once; its contract over abstract values. -/
namespace Go.Proofs.YtlhanpkfnhnegaaDoor
open Go.RowKit

theorem cell_alloc_old {w : World} {o : Obj} {b i : Nat} {v : Value} (hb : b < w.heap.size) (h : w.cell? ⟨b, i, none⟩ = some v) : (w.alloc o).cell? ⟨b, i, none⟩ = some v :=
  (World.cell?_of_block (a := ⟨b, i, none⟩) ((grownBy_alloc w o none).block b hb (by simp))).trans h
theorem word1_d (N b : Nat) (n : Int) (u : FrameMode) (w : World) (h0 : w.cell? ⟨N, 0, none⟩ = some (.pointer (some ⟨b, 0, none⟩))) (h3 : w.cell? ⟨b, 3, none⟩ = some (.int .i64 n)) (hz : w.frozen? ⟨b, 3, none⟩ = false) :
    CallsD Tryd.prog 152 #[.pointer (some ⟨N, 0, none⟩)] u w fun e u' w' => u' = u ∧ (e = .returned (.tuple #[]) ∧ w' = w.setCell ⟨b, 3, none⟩ (.int .i64 (wrap64 (n + 1)))) := by
  go_enter_d Tryd.func152, Tryd.ntmps152
  go_wp2
  go_end0
  exact ⟨rfl, rfl⟩
theorem word_done (b : Nat) (u0 u3 : Value) (u2 : Bool) (w : World) (hg : w.heap[b]? = some (.cells #[u0, .bool true, .bool u2, u3] 118 (0, 0))) :
    Calls Tryd.prog 138 #[.pointer (some ⟨b, 0, none⟩)] w fun e w' => e = .returned (.string ⟨#[]⟩) ∧ w.grownBy w' (some b) ∧ w'.heap[b]? = some (.cells #[u0, .bool true, .bool true, u3] 118 (0, 0)) := by
  have hlt : b < w.heap.size := (Array.getElem?_eq_some_iff.1 hg).1
  have h1 : w.cell? ⟨b, 1, none⟩ = some (.bool true) := by rw [Lib.cell_of_heap hg]; rfl
  have h2 : w.cell? ⟨b, 2, none⟩ = some (.bool u2) := by rw [Lib.cell_of_heap hg]; rfl
  have hz := Lib.frozen_of_heap hg 2
  have hne : ¬ b = w.heap.size := by omega
  have hne' : ¬ w.heap.size = b := by omega
  have hg0 := Lib.hid hg
  clear hg
  go_enter Tryd.func138, Tryd.ntmps138
  go_wp2
  go_ret
  have hg := hg0.out
  exact ⟨rfl, Lib.grownBy_trans (Lib.grownBy_setCell w b 2 _) (grownBy_alloc _ _ _), by
    rw [Below.heap_alloc _ _ b (by simpa [World.setCell] using hlt)]
    exact heap_setCell_cells (us := [u0, .bool true, .bool u2, u3]) hg⟩
theorem word_more (b : Nat) (x : List UInt8) (ws : List (List UInt8)) (n : Int) (u2 : Value) (w : World) (hx : 32 ∉ x) (hs : (joinL 32 (x :: ws)).length < 4294967281) (h00 : ∃ m, w.cell? ⟨0, 0, none⟩ = some (.int .i64 m))
    (hg : w.heap[b]? = some (.cells #[.string ⟨(joinL 32 (x :: ws)).toArray⟩, .bool false, u2, .int .i64 n] 118 (0, 0))) :
    Calls Tryd.prog 138 #[.pointer (some ⟨b, 0, none⟩)] w fun e w' => e = .returned (.string ⟨x.toArray⟩) ∧ w.grownBy w' (some b) ∧ w'.heap[b]? = some (.cells #[.string ⟨(joinL 32 ws).toArray⟩, .bool ws.isEmpty, u2, .int .i64 (wrap64 (n + 1))] 118 (0, 0)) := by
  obtain ⟨m, h00⟩ := h00
  have hlt : b < w.heap.size := (Array.getElem?_eq_some_iff.1 hg).1
  have h0 : w.cell? ⟨b, 0, none⟩ = some (.string ⟨(joinL 32 (x :: ws)).toArray⟩) := by rw [Lib.cell_of_heap hg]; rfl
  have h1 : w.cell? ⟨b, 1, none⟩ = some (.bool false) := by rw [Lib.cell_of_heap hg]; rfl
  have hg0 := Lib.hid hg
  clear hg
  have hmf : ∀ (fn : Fn) (first cap : Array Value) (w : World), (Instr.makeFunc fn first cap).run Tryd.prog w = .ok (.func fn first cap) w := fun _ _ _ _ => rfl
  have mixed : Tryd.prog.follows .mixedOrders = true := by kernel_rfl
  have hne : ¬ b = w.heap.size := by omega
  have hne' : ¬ w.heap.size = b := by omega
  have hp : 0 < w.heap.size := by omega
  have hp0 : ¬ 0 = w.heap.size := by omega
  go_enter_defers Tryd.func138, Tryd.ntmps138
  go_wp2_with (go_at_call 111; refine (cut_calls 32 x ws hx hs _ m (cell_alloc_old hp h00)).mono ?_; rintro e w' ⟨rfl, k, rfl⟩)
  have hgW : ((w.alloc (.cells #[.pointer (some ⟨b, 0, none⟩)] 116)).drewN k).heap[b]? = some (.cells #[.string ⟨(joinL 32 (x :: ws)).toArray⟩, .bool false, u2, .int .i64 n] 118 (0, 0)) := (Below.heap_alloc w _ b hlt).trans hg0.out
  have hgN : ((w.alloc (.cells #[.pointer (some ⟨b, 0, none⟩)] 116)).drewN k).heap[w.heap.size]? = some (.cells #[.pointer (some ⟨b, 0, none⟩)] 116 (0, 0)) := by show (w.heap.push _)[w.heap.size]? = _; rw [Array.getElem?_push_size]
  have hgr : w.grownBy ((w.alloc (.cells #[.pointer (some ⟨b, 0, none⟩)] 116)).drewN k) (some b) := ⟨rfl, rfl, rfl, (by show w.heap.size ≤ (w.heap.push _).size; rw [Array.size_push]; omega), fun j hj _ => Below.heap_alloc w _ j hj⟩
  generalize (w.alloc (.cells #[.pointer (some ⟨b, 0, none⟩)] 116)).drewN k = W at *
  generalize w.heap.size = N at *
  have d0 : W.cell? ⟨b, 0, none⟩ = some (.string ⟨(joinL 32 (x :: ws)).toArray⟩) := by rw [Lib.cell_of_heap hgW]; rfl
  have d1 : W.cell? ⟨b, 1, none⟩ = some (.bool false) := by rw [Lib.cell_of_heap hgW]; rfl
  have d3 : W.cell? ⟨b, 3, none⟩ = some (.int .i64 n) := by rw [Lib.cell_of_heap hgW]; rfl
  have dN : W.cell? ⟨N, 0, none⟩ = some (.pointer (some ⟨b, 0, none⟩)) := by rw [Lib.cell_of_heap hgN]; rfl
  have e0 := Lib.frozen_of_heap hgW 0
  have e1 := Lib.frozen_of_heap hgW 1
  have e3 := Lib.frozen_of_heap hgW 3
  have hgW0 := Lib.hid hgW
  have hgr0 := Lib.hid hgr
  clear hgW hgN hgr
  go_wp2
  go_region_o
  all_goals
    go_wp2
    refine leaves_cons (f := 152) (args := #[.pointer (some ⟨N, 0, none⟩)]) (by simp) (by simp [go_sem]) ?_
    have k1 : ∀ (a : Addr) (u v : Value), a ≠ ⟨b, 0, none⟩ → a ≠ ⟨b, 1, none⟩ → ((W.setCell ⟨b, 0, none⟩ u).setCell ⟨b, 1, none⟩ v).cell? a = W.cell? a := fun a u v h1 h2 =>
      (World.cell?_setCell_other _ ⟨b, 1, none⟩ a v (fun e => h2 e.symm)).trans (World.cell?_setCell_other W ⟨b, 0, none⟩ a u (fun e => h1 e.symm))
    refine (word1_d N b n .returning (((W.setCell ⟨b, 0, none⟩ (.string ⟨(joinL 32 ws).toArray⟩)).setCell ⟨b, 1, none⟩ (.bool ws.isEmpty)).drew) ?q1 ?q2 ?q3).mono ?_
    case q1 => exact (k1 ⟨N, 0, none⟩ _ _ (by simp [hne']) (by simp [hne'])).trans dN
    case q2 => exact (k1 ⟨b, 3, none⟩ _ _ (by simp) (by simp)).trans d3
    case q3 => simp [e3]
    rintro e u' w'' ⟨rfl, rfl, rfl⟩
    have hgW := hgW0.out
    have hgr := hgr0.out
    refine ⟨_, results_tmp rfl _ _ _, rfl, ?_, ?_⟩
    · refine Lib.grownBy_setB (Lib.grownBy_trans (Lib.grownBy_setB (Lib.grownBy_setB hgr 0 (.string ⟨(joinL 32 ws).toArray⟩)) 1 (.bool ws.isEmpty)) ?_) 3 _
      exact ⟨rfl, rfl, rfl, Nat.le_refl _, fun _ _ _ => rfl⟩
    · have a0 : W.heap[b]? = some (.cells [.string ⟨(joinL 32 (x :: ws)).toArray⟩, .bool false, u2, .int .i64 n].toArray 118 (0, 0)) := hgW
      have a1 := heap_setCell_cells (i := 1) (v := .bool ws.isEmpty) (heap_setCell_cells (i := 0) (v := .string ⟨(joinL 32 ws).toArray⟩) a0)
      exact heap_setCell_cells (w := ((W.setCell ⟨b, 0, none⟩ (.string ⟨(joinL 32 ws).toArray⟩)).setCell ⟨b, 1, none⟩ (.bool ws.isEmpty)).drew) (b := b) (i := 3) (t := 118) (us := [.string ⟨(joinL 32 ws).toArray⟩, .bool ws.isEmpty, u2, .int .i64 n]) a1
/-! The scanner's states: the words that are left, whether something was bad, how many were read. -/
structure Sc where
  ws : List (List UInt8)
  bad : Bool
  at_ : Int
def Sc.ok (s : Sc) : Prop := (∀ w ∈ s.ws, (32 : UInt8) ∉ w) ∧ (joinL 32 s.ws).length ≤ 2000000
abbrev Sc.o (s : Sc) : AO := .cells 118 [.d (dL (joinL 32 s.ws)), .d (dB s.ws.isEmpty), .d (dB s.bad), .d (dI s.at_)]
def Sc.next (s : Sc) : Sc := match s.ws with
  | [] => { s with bad := true }
  | _ :: r => { s with ws := r, at_ := wrap64 (s.at_ + 1) }
def Sc.cur (s : Sc) : List UInt8 := s.ws.headD []
theorem joinL_tail {c : UInt8} {w : List UInt8} {ws : List (List UInt8)} : (joinL c ws).length ≤ (joinL c (w :: ws)).length := by
  cases ws with
  | nil => simp [joinL]
  | cons v ws => simp only [joinL, List.length_append, List.length_cons]; omega
theorem joinL_head {c : UInt8} {w : List UInt8} {ws : List (List UInt8)} : w.length ≤ (joinL c (w :: ws)).length := by
  cases ws with
  | nil => simp [joinL]
  | cons v ws => simp only [joinL, List.length_append, List.length_cons]; omega
theorem Sc.ok.next {s : Sc} (h : s.ok) : s.next.ok := by
  obtain ⟨ws, bad, at_⟩ := s
  obtain ⟨h1, h2⟩ := h
  cases ws with
  | nil => exact ⟨h1, h2⟩
  | cons w ws => exact ⟨fun x hx => h1 x (List.mem_cons_of_mem _ hx), Nat.le_trans joinL_tail h2⟩
theorem Sc.ok.cur {s : Sc} (h : s.ok) : s.cur.length ≤ 2000000 := by
  obtain ⟨ws, bad, at_⟩ := s
  obtain ⟨h1, h2⟩ := h
  cases ws with
  | nil => exact Nat.zero_le _
  | cons w ws => exact Nat.le_trans joinL_head h2
theorem word_m (s : Sc) (hs : s.ok) : MCall av 138 [.one (.ref 1000 0 0 0)] [(1000, s.o)] [(1000, s.next.o)] [1000] (.val (.one (.d (dL s.cur)))) := by
  refine MCall.of_upd (id := 1000) (o := s.o) (o' := s.next.o) Tryd.call138 rfl fun Z w ρ us hws ho hl hr => ?_
  obtain ⟨ws, bad, n⟩ := s
  obtain ⟨hno, hsz⟩ := hs
  obtain ⟨b, cs, hp, hg, hcl, hc⟩ := ho
  obtain ⟨u, rfl⟩ := List.length_eq_one_iff.1 hl
  obtain ⟨b', hb', rfl⟩ := relA_ref (hr 0 _ _ rfl rfl)
  rw [hp] at hb'
  injection hb' with hb'
  subst hb'
  match cs, hcl with
  | [u0, u1, u2, u3], _ =>
    have h0 : u0 = _ := rel_pv (hc 0 _ _ rfl rfl)
    have h1 : u1 = _ := rel_pv (hc 1 _ _ rfl rfl)
    have h2 : u2 = _ := rel_pv (hc 2 _ _ rfl rfl)
    have h3 : u3 = _ := rel_pv (hc 3 _ _ rfl rfl)
    subst h0 h1 h2 h3
    have fin : ∀ (w' : World) (t : Sc), w'.heap[b]? = some (.cells #[.string ⟨(joinL 32 t.ws).toArray⟩, .bool t.ws.isEmpty, .bool t.bad, .int .i64 t.at_] 118 (0, 0)) → RelO Z w' ρ 1000 t.o := by
      intro w' t h
      refine ⟨b, [.string ⟨(joinL 32 t.ws).toArray⟩, .bool t.ws.isEmpty, .bool t.bad, .int .i64 t.at_], hp, h, rfl, fun i c u hx hu => ?_⟩
      match i with
      | 0 => simp at hx hu; subst hx hu; exact .pv _ rfl
      | 1 => simp at hx hu; subst hx hu; exact .pv _ rfl
      | 2 => simp at hx hu; subst hx hu; exact .pv _ rfl
      | 3 => simp at hx hu; subst hx hu; exact .pv _ rfl
      | i + 4 => simp at hx
    cases ws with
    | nil =>
      refine (word_done b _ _ bad w hg).mono ?_
      rintro e w' ⟨rfl, hgr, hh⟩
      exact ⟨_, b, rfl, by rw [hp]; rfl, hgr, fin w' ⟨[], true, n⟩ hh, .one _ _ (show RelD Z _ (.pv _) _ from .pv _ rfl)⟩
    | cons x ws =>
      have hW := gz_w av_ok hws.g
      refine (word_more b x ws n _ w (hno x (by simp)) (by simp only at hsz; omega) hW.2 hg).mono ?_
      rintro e w' ⟨rfl, hgr, hh⟩
      exact ⟨_, b, rfl, by rw [hp]; rfl, hgr, fin w' ⟨ws, bad, wrap64 (n + 1)⟩ hh, .one _ _ (show RelD Z _ (.pv _) _ from .pv _ rfl)⟩
end Go.Proofs.YtlhanpkfnhnegaaDoor
/- Numerals and words found in a list, over abstract values. -/
namespace Go.Proofs.YtlhanpkfnhnegaaDoor
open Go.RowKit

theorem sz_dL (w : List UInt8) : (⟨w.toArray⟩ : ByteArray).size = w.length := by simp [ByteArray.size]
theorem sget {w : List UInt8} {k : Nat} (hk : k < w.length) : (⟨w.toArray⟩ : ByteArray)[k]? = some w[k] := by
  rw [getElem?_pos _ k (by rw [sz_dL]; exact hk)]
  rfl
theorem str_dec (a b : List UInt8) : ((⟨a.toArray⟩ : ByteArray).toList == (⟨b.toArray⟩ : ByteArray).toList) = decide (a = b) := by
  rw [ByteArray.toList_eq, ByteArray.toList_eq]
  by_cases h : a = b
  · subst h; simp
  · simp [h]
theorem rB_no {b : Bool} (h : b = true → False) : AP.val (AP1.one (AD.pv (Value.bool false))) = rB b := by cases b; rfl; exact (h rfl).elim
theorem rB_yes {b : Bool} (h : b = true) : AP.val (AP1.one (AD.pv (Value.bool true))) = rB b := by rw [h]
theorem u8_lit {b : UInt8} {n : Nat} (h : ((b.toNat : Int) == (n : Int)) = true) : b.toNat = n := by
  have : (b.toNat : Int) = (n : Int) := by simpa only [beq_iff_eq] using h
  omega
theorem all_take {α : Type} {p : α → Bool} {l : List α} {k : Nat} (hk : k < l.length) (h : (l.take k).all p = true) (h2 : p l[k] = true) : (l.take (k + 1)).all p = true := by
  rw [← List.take_append_getElem hk, List.all_append, h]; simp [h2]
theorem idigits_p (w : List UInt8) (m : Nat) (hw : w.length ≤ 2000000) (hm : m ≤ 1000) : PCall av 144 [pL w, pI m] (rB (digB w m)) := by
  refine pcall_of av_ok Tryd.func144 rfl Tryd.call144 Tryd.ntmps144 (congrArg Array.toList Tryd.results144) fun S => ?_; conv => whnf
  repeat' (first | (refine AWP.seq ?_) | (refine AWP.region av_ok ?_; conv => whnf) | (refine AWP.ret ?_; conv => whnf) | (refine AWP.skip ?_; conv => whnf) | (refine AWP.exit ?_; conv => whnf) | (refine AWP.block ?_; conv => whnf) | (refine AWP.cond ?_; conv => whnf) | (refine AB.tt ?_; conv => whnf) | (refine AB.ff ?_; conv => whnf) | (refine AB.ofT (by assumption) ?_; conv => whnf) | (refine AB.ofF (by assumption) ?_; conv => whnf) | (have hlt : 0 < w.length := (by simp only [sz_dL, decide_eq_true_eq, decide_eq_false_iff_not, beq_iff_eq, beq_eq_false_iff_ne, List.length_map, Bool.not_eq_true', Bool.not_eq_false', ne_eq] at *; omega); refine ⟨0, w[0]'hlt, rfl, sget hlt, ?_⟩; conv => whnf) | (exact trivial) | (refine And.intro rfl ?_; conv => whnf) | (refine AB.mk (fun h => ?_) (fun h => ?_) <;> (conv => whnf)) | (with_reducible_and_instances rfl) | (exact (rfl : AP.tup _ = AP.tup _)))
  · refine rB_no fun h0 => ?_
    exact (digB_iff.1 h0).1 (List.length_eq_zero_iff.1 (by simp only [sz_dL, beq_iff_eq] at h; omega))
  · refine rB_no fun h0 => ?_
    have := (digB_iff.1 h0).2.1
    simp only [sz_dL, decide_eq_true_eq] at h
    omega
  · refine rB_no fun h0 => ?_
    have hl : 1 < w.length := (by simp only [sz_dL, decide_eq_true_eq, decide_eq_false_iff_not, beq_iff_eq, beq_eq_false_iff_ne, List.length_map, Bool.not_eq_true', Bool.not_eq_false', ne_eq] at *; omega)
    have h3 := (digB_iff.1 h0).2.2.1
    have h4 := u8_lit (n := 48) h
    rcases h3 with h3 | h3
    · omega
    · apply h3
      rw [List.head?_eq_getElem?, List.getElem?_eq_getElem (by omega)]
      exact congrArg some (UInt8.toNat_inj.1 h4)
  all_goals
    have h1 : w ≠ [] := by
      have : 0 < w.length := (by simp only [sz_dL, decide_eq_true_eq, decide_eq_false_iff_not, beq_iff_eq, beq_eq_false_iff_ne, List.length_map, Bool.not_eq_true', Bool.not_eq_false', ne_eq] at *; omega)
      exact List.length_pos_iff.1 this
    have h2 : w.length ≤ m := (by simp only [sz_dL, decide_eq_true_eq, decide_eq_false_iff_not, beq_iff_eq, beq_eq_false_iff_ne, List.length_map, Bool.not_eq_true', Bool.not_eq_false', ne_eq] at *; omega)
    have h3 : w.length ≤ 1 ∨ w.head? ≠ some 48 := by
      by_cases hl : w.length ≤ 1
      · exact .inl hl
      · refine .inr fun e => ?_
        rw [List.head?_eq_getElem?, List.getElem?_eq_getElem (by omega)] at e
        injection e with e
        first
          | (rw [e] at h; revert h; decide)
          | (simp only [sz_dL, decide_eq_false_iff_not] at h; omega)
    have no : ∀ (k : Nat) (hk : k < w.length), isDig w[k] = false → digB w m = true → False := fun k hk h h0 => by
      have := (List.all_eq_true.1 (digB_iff.1 h0).2.2.2) _ (List.getElem_mem hk)
      rw [h] at this; cases this
    clear h
    refine AWP.loopS (fun k : Nat => k ≤ w.length ∧ (w.take k).all isDig = true) [4, 5, 25, 26, 27, 28, 29, 30, 31, 32, 33, 34, 35, 36, 37, 38, 39, 40] (fun k => [(5, vI .i64 (k : Int))]) (fun k => []) (fun k => w.length - k) 0 ⟨by omega, rfl⟩ ?_ SubO.nil (fun k hR => ?_) <;> (conv => whnf)
    · repeat' (first | exact trivial | (refine And.intro rfl ?_; conv => whnf))
    · obtain ⟨hk, hall⟩ := hR
      repeat' (first | (refine AWP.seq ?_) | (refine AWP.region av_ok ?_; conv => whnf) | (refine AWP.ret ?_; conv => whnf) | (refine AWP.skip ?_; conv => whnf) | (refine AWP.exit ?_; conv => whnf) | (refine AWP.block ?_; conv => whnf) | (refine AWP.cond ?_; conv => whnf) | (refine AB.tt ?_; conv => whnf) | (refine AB.ff ?_; conv => whnf) | (refine AB.ofT (by assumption) ?_; conv => whnf) | (refine AB.ofF (by assumption) ?_; conv => whnf) | (have hlt : k < w.length := (by simp only [sz_dL, decide_eq_true_eq, decide_eq_false_iff_not, beq_iff_eq, beq_eq_false_iff_ne, List.length_map, Bool.not_eq_true', Bool.not_eq_false', ne_eq] at *; omega); refine ⟨k, w[k]'hlt, rfl, sget hlt, ?_⟩; conv => whnf) | (refine AW.i64 (by simp only [sz_dL, decide_eq_true_eq, decide_eq_false_iff_not, beq_iff_eq, beq_eq_false_iff_ne, List.length_map, Bool.not_eq_true', Bool.not_eq_false', ne_eq] at *; omega) (by simp only [sz_dL, decide_eq_true_eq, decide_eq_false_iff_not, beq_iff_eq, beq_eq_false_iff_ne, List.length_map, Bool.not_eq_true', Bool.not_eq_false', ne_eq] at *; omega) ?_; conv => whnf) | (exact trivial) | (refine And.intro rfl ?_; conv => whnf) | (refine AB.mk (fun h => ?_) (fun h => ?_) <;> (conv => whnf)) | (with_reducible_and_instances rfl) | (exact (rfl : AP.tup _ = AP.tup _)))
      · have hlt : k < w.length := (by simp only [sz_dL, decide_eq_true_eq, decide_eq_false_iff_not, beq_iff_eq, beq_eq_false_iff_ne, List.length_map, Bool.not_eq_true', Bool.not_eq_false', ne_eq] at *; omega)
        refine rB_no (no k hlt ?_)
        simp only [isDig, Bool.and_eq_false_iff, decide_eq_false_iff_not, UInt8.le_iff_toNat_le]
        have := h
        simp only [decide_eq_true_eq] at this
        left
        simp
        omega
      · have hlt : k < w.length := (by simp only [sz_dL, decide_eq_true_eq, decide_eq_false_iff_not, beq_iff_eq, beq_eq_false_iff_ne, List.length_map, Bool.not_eq_true', Bool.not_eq_false', ne_eq] at *; omega)
        refine rB_no (no k hlt ?_)
        simp only [isDig, Bool.and_eq_false_iff, decide_eq_false_iff_not, UInt8.le_iff_toNat_le]
        have := h
        simp only [decide_eq_true_eq] at this
        right
        simp
        omega
      · have hlt : k < w.length := (by simp only [sz_dL, decide_eq_true_eq, decide_eq_false_iff_not, beq_iff_eq, beq_eq_false_iff_ne, List.length_map, Bool.not_eq_true', Bool.not_eq_false', ne_eq] at *; omega)
        refine ANext.mk ⟨k + 1, ⟨hlt, all_take hlt hall (isDig_iff.2 ?_)⟩, by omega, ?_, SubO.nil⟩
        · simp only [decide_eq_false_iff_not] at *; omega
        · (conv => whnf); repeat' (first | exact trivial | (refine ⟨rfl, ?_⟩; conv => whnf))
      · have : k = w.length := (by simp only [sz_dL, decide_eq_true_eq, decide_eq_false_iff_not, beq_iff_eq, beq_eq_false_iff_ne, List.length_map, Bool.not_eq_true', Bool.not_eq_false', ne_eq] at *; omega)
        subst this
        rw [List.take_length] at hall
        exact rB_yes (digB_iff.2 ⟨h1, h2, h3, hall⟩)
theorem parseInt_p (w : List UInt8) (h : digB w 10 = true) : PCall av 145 [pL w, pI 10, pI 64] (.tup [.one (dI (numV w)), .one (.pv .nilIface)]) := by
  refine PCall.plainT av_ok (vs := [.int .i64 (numV w), .nilIface]) Tryd.call145 rfl (by simp [Value.oneCell']) fun W hW => ?_
  have hl := (digB_iff.1 h).2.1
  refine (Tryd.strconv_ParseInt_10_at64_ok ⟨w.toArray⟩ (by rw [sz_dL]; omega) (numV w) (by simpa using parseInt_dig h) W).mono ?_
  rintro e w' ⟨rfl, hw⟩
  refine ⟨rfl, ?_⟩
  rcases hw with rfl | ⟨t, rfl⟩
  · exact Below.refl _ _
  · exact Lib.bytesWorld_below _ _ _
/-- Where a word stands in a list; -1. -/
def idxL : List (List UInt8) → List UInt8 → Int
  | [], _ => -1
  | y :: r, x => if y = x then 0 else if idxL r x = -1 then -1 else idxL r x + 1
def idxK (l : List (List UInt8)) (x : List UInt8) (k : Nat) : Int := if idxL (l.drop k) x = -1 then -1 else idxL (l.drop k) x + k
theorem idxL_ge (l : List (List UInt8)) (x : List UInt8) : -1 ≤ idxL l x := by
  induction l with
  | nil => exact Int.le_refl _
  | cons y r ih => unfold idxL; split; decide; split <;> omega
theorem idxK_zero (l : List (List UInt8)) (x : List UInt8) : idxK l x 0 = idxL l x := by
  unfold idxK
  rw [List.drop_zero]
  split <;> omega
theorem idxK_hit {l : List (List UInt8)} {x : List UInt8} {k : Nat} (hk : k < l.length) (h : l[k] = x) : idxK l x k = k := by
  unfold idxK
  rw [List.drop_eq_getElem_cons hk, idxL, if_pos h, if_neg (by decide)]
  omega
theorem idxK_miss {l : List (List UInt8)} {x : List UInt8} {k : Nat} (hk : k < l.length) (h : l[k] ≠ x) : idxK l x k = idxK l x (k + 1) := by
  unfold idxK
  have := idxL_ge (l.drop (k + 1)) x
  rw [List.drop_eq_getElem_cons hk, idxL, if_neg h]
  by_cases h2 : idxL (l.drop (k + 1)) x = -1
  · rw [if_pos h2, if_pos h2]; rfl
  · rw [if_neg h2, if_neg h2, if_neg (by omega)]
    omega
theorem idxK_end {l : List (List UInt8)} {x : List UInt8} : idxK l x l.length = -1 := by
  unfold idxK
  rw [List.drop_length]; rfl
abbrev dSs (l : List (List UInt8)) : AD := .sl (l.map eS)
theorem sl1At_p (l : List (List UInt8)) (x : List UInt8) (hl : l.length ≤ 9223372036854775800) : PCall av 108 [.one (dSs l), pL x] (rI (idxL l x)) := by
  refine pcall_of av_ok Tryd.func108 rfl Tryd.call108 Tryd.ntmps108 (congrArg Array.toList Tryd.results108) fun S => ?_; conv => whnf
  repeat' (first | (refine AWP.seq ?_) | (refine AWP.region av_ok ?_; conv => whnf) | (refine AWP.ret ?_; conv => whnf) | (refine AWP.skip ?_; conv => whnf) | (refine AWP.exit ?_; conv => whnf) | (refine AWP.block ?_; conv => whnf) | (refine AWP.cond ?_; conv => whnf) | (refine AB.tt ?_; conv => whnf) | (refine AB.ff ?_; conv => whnf) | (refine AB.ofT (by assumption) ?_; conv => whnf) | (refine AB.ofF (by assumption) ?_; conv => whnf) | (exact trivial) | (refine And.intro rfl ?_; conv => whnf) | (refine AB.mk (fun h => ?_) (fun h => ?_) <;> (conv => whnf)) | (with_reducible_and_instances rfl) | (exact (rfl : AP.tup _ = AP.tup _)))
  refine AWP.loopS (fun k : Nat => k ≤ l.length ∧ idxK l x k = idxL l x) [4, 5, 6, 7, 8, 9, 10, 11, 12, 13, 14, 15, 16, 17, 18] (fun k => [(5, vI .i64 (k : Int))]) (fun k => []) (fun k => l.length - k) 0 ⟨by omega, idxK_zero l x⟩ ?_ SubO.nil (fun k hR => ?_) <;> (conv => whnf)
  · repeat' (first | exact trivial | (refine And.intro rfl ?_; conv => whnf))
  · obtain ⟨hk, hix⟩ := hR
    repeat' (first | (refine AWP.seq ?_) | (refine AWP.region av_ok ?_; conv => whnf) | (refine AWP.ret ?_; conv => whnf) | (refine AWP.skip ?_; conv => whnf) | (refine AWP.exit ?_; conv => whnf) | (refine AWP.block ?_; conv => whnf) | (refine AWP.cond ?_; conv => whnf) | (refine AB.tt ?_; conv => whnf) | (refine AB.ff ?_; conv => whnf) | (refine AB.ofT (by assumption) ?_; conv => whnf) | (refine AB.ofF (by assumption) ?_; conv => whnf) | (refine AIx.mapF (by simp only [decide_eq_true_eq, decide_eq_false_iff_not, List.length_map, Bool.not_eq_true', Bool.not_eq_false'] at *; omega) (fun hlt => ?_); conv => whnf) | (refine AW.i64 (by simp only [decide_eq_true_eq, decide_eq_false_iff_not, List.length_map, Bool.not_eq_true', Bool.not_eq_false'] at *; omega) (by simp only [decide_eq_true_eq, decide_eq_false_iff_not, List.length_map, Bool.not_eq_true', Bool.not_eq_false'] at *; omega) ?_; conv => whnf) | (exact trivial) | (refine And.intro rfl ?_; conv => whnf) | (refine AB.mk (fun h => ?_) (fun h => ?_) <;> (conv => whnf)) | (with_reducible_and_instances rfl) | (exact (rfl : AP.tup _ = AP.tup _)))
    · have hx : l[k] = x := by simpa [str_dec] using h
      rw [← hix, idxK_hit hlt hx]
    · have hx : l[k] ≠ x := by simpa [str_dec] using h
      refine ANext.mk ⟨k + 1, ⟨hlt, (idxK_miss hlt hx).symm.trans hix⟩, by omega, ?_, SubO.nil⟩
      (conv => whnf); repeat' (first | exact trivial | (refine ⟨rfl, ?_⟩; conv => whnf))
    · have : k = l.length := (by simp only [decide_eq_true_eq, decide_eq_false_iff_not, List.length_map, Bool.not_eq_true', Bool.not_eq_false'] at *; omega)
      subst this
      rw [← hix, idxK_end]
theorem index_p (l : List (List UInt8)) (x : List UInt8) (hl : l.length ≤ 9223372036854775800) : PCall av 158 [.one (dSs l), pL x] (rI (idxL l x)) := by
  refine pcall_of av_ok Tryd.func158 rfl Tryd.call158 Tryd.ntmps158 (congrArg Array.toList Tryd.results158) fun S => ?_; conv => whnf
  repeat' (first | (refine AWP.seq ?_) | (refine AWP.region av_ok ?_; conv => whnf) | (refine AWP.ret ?_; conv => whnf) | (refine AWP.skip ?_; conv => whnf) | (refine AWP.exit ?_; conv => whnf) | (refine AWP.block ?_; conv => whnf) | (refine AWP.cond ?_; conv => whnf) | (refine AB.tt ?_; conv => whnf) | (refine AB.ff ?_; conv => whnf) | (refine AB.ofT (by assumption) ?_; conv => whnf) | (refine AB.ofF (by assumption) ?_; conv => whnf) | (exact trivial) | (refine And.intro rfl ?_; conv => whnf) | (refine AB.mk (fun h => ?_) (fun h => ?_) <;> (conv => whnf)) | (with_reducible_and_instances rfl) | (exact (rfl : AP.tup _ = AP.tup _)))
  refine AWP.loopS (fun k : Nat => k ≤ l.length ∧ idxK l x k = idxL l x) [5, 9, 10, 11, 12, 13, 14, 15, 16, 17, 18] (fun k => [(8, vI .i64 (k : Int))]) (fun k => []) (fun k => l.length - k) 0 ⟨by omega, idxK_zero l x⟩ ?_ SubO.nil (fun k hR => ?_) <;> (conv => whnf)
  · repeat' (first | exact trivial | (refine And.intro rfl ?_; conv => whnf))
  · obtain ⟨hk, hix⟩ := hR
    repeat' (first | (refine AWP.seq ?_) | (refine AWP.region av_ok ?_; conv => whnf) | (refine AWP.ret ?_; conv => whnf) | (refine AWP.skip ?_; conv => whnf) | (refine AWP.exit ?_; conv => whnf) | (refine AWP.block ?_; conv => whnf) | (refine AWP.cond ?_; conv => whnf) | (refine AB.tt ?_; conv => whnf) | (refine AB.ff ?_; conv => whnf) | (refine AB.ofT (by assumption) ?_; conv => whnf) | (refine AB.ofF (by assumption) ?_; conv => whnf) | (refine AIx.mapF (by simp only [decide_eq_true_eq, decide_eq_false_iff_not, List.length_map, Bool.not_eq_true', Bool.not_eq_false'] at *; omega) (fun hlt => ?_); conv => whnf) | (refine AW.i64 (by simp only [decide_eq_true_eq, decide_eq_false_iff_not, List.length_map, Bool.not_eq_true', Bool.not_eq_false'] at *; omega) (by simp only [decide_eq_true_eq, decide_eq_false_iff_not, List.length_map, Bool.not_eq_true', Bool.not_eq_false'] at *; omega) ?_; conv => whnf) | (exact trivial) | (refine And.intro rfl ?_; conv => whnf) | (refine AB.mk (fun h => ?_) (fun h => ?_) <;> (conv => whnf)) | (with_reducible_and_instances rfl) | (exact (rfl : AP.tup _ = AP.tup _)))
    · have hx : x = l[k] := by simpa [str_dec] using h
      rw [← hix, idxK_hit hlt hx.symm]
    · have hx : x ≠ l[k] := by simpa [str_dec] using h
      refine ANext.mk ⟨k + 1, ⟨hlt, (idxK_miss hlt hx.symm).symm.trans hix⟩, by omega, ?_, SubO.nil⟩
      (conv => whnf); repeat' (first | exact trivial | (refine ⟨rfl, ?_⟩; conv => whnf))
    · have : k = l.length := (by simp only [decide_eq_true_eq, decide_eq_false_iff_not, List.length_map, Bool.not_eq_true', Bool.not_eq_false'] at *; omega)
      subst this
      rw [← hix, idxK_end]
def nodesL : List (List UInt8) := [[108, 111, 103], [115, 116, 111, 114, 101], [108, 101, 102, 116], [114, 105, 103, 104, 116], [97, 110, 110], [98, 111, 98]]
def nodeIx (w : List UInt8) : Int := idxL nodesL w
theorem inodeWords_p : PCall av 132 [] (.val (.one (dSs nodesL))) := by
  refine pcall_of av_ok Tryd.func132 rfl Tryd.call132 Tryd.ntmps132 (congrArg Array.toList Tryd.results132) fun S => ?_; conv => whnf
  repeat' (first | (refine AWP.seq ?_) | (refine AWP.region av_ok ?_; conv => whnf) | (refine AWP.ret ?_; conv => whnf) | (refine AWP.skip ?_; conv => whnf) | (refine AWP.exit ?_; conv => whnf) | (refine AWP.block ?_; conv => whnf) | (refine AWP.cond ?_; conv => whnf) | (refine AB.tt ?_; conv => whnf) | (refine AB.ff ?_; conv => whnf) | (exact trivial) | (refine And.intro rfl ?_; conv => whnf) | (refine AB.mk (fun h => ?_) (fun h => ?_) <;> (conv => whnf)) | (with_reducible_and_instances rfl) | (exact (rfl : AP.tup _ = AP.tup _)))
  rfl
theorem iNodeOf_p (w : List UInt8) : PCall av 146 [pL w] (rI (nodeIx w)) := by
  refine pcall_of av_ok Tryd.func146 rfl Tryd.call146 Tryd.ntmps146 (congrArg Array.toList Tryd.results146) fun S => ?_; conv => whnf
  repeat' (first | (refine AWP.seq ?_) | (refine AWP.region av_ok ?_; conv => whnf) | (refine AWP.ret ?_; conv => whnf) | (refine AWP.skip ?_; conv => whnf) | (refine AWP.exit ?_; conv => whnf) | (refine AWP.block ?_; conv => whnf) | (refine AWP.cond ?_; conv => whnf) | (refine AB.tt ?_; conv => whnf) | (refine AB.ff ?_; conv => whnf) | (refine ACall.pure inodeWords_p rfl ?_; conv => whnf) | (refine ACall.pure (index_p nodesL w (by decide)) rfl ?_; conv => whnf) | (exact trivial) | (refine And.intro rfl ?_; conv => whnf) | (refine AB.mk (fun h => ?_) (fun h => ?_) <;> (conv => whnf)) | (with_reducible_and_instances rfl) | (exact (rfl : AP.tup _ = AP.tup _)))
  rfl
theorem sl32Nodes_p : PCall av 126 [] (.val (.one (dSs nodesL))) := by
  refine pcall_of av_ok Tryd.func126 rfl Tryd.call126 Tryd.ntmps126 (congrArg Array.toList Tryd.results126) fun S => ?_; conv => whnf
  repeat' (first | (refine AWP.seq ?_) | (refine AWP.region av_ok ?_; conv => whnf) | (refine AWP.ret ?_; conv => whnf) | (refine AWP.skip ?_; conv => whnf) | (refine AWP.exit ?_; conv => whnf) | (refine AWP.block ?_; conv => whnf) | (refine AWP.cond ?_; conv => whnf) | (refine AB.tt ?_; conv => whnf) | (refine AB.ff ?_; conv => whnf) | (exact trivial) | (refine And.intro rfl ?_; conv => whnf) | (refine AB.mk (fun h => ?_) (fun h => ?_) <;> (conv => whnf)) | (with_reducible_and_instances rfl) | (exact (rfl : AP.tup _ = AP.tup _)))
  rfl
theorem sNodeOf_p (w : List UInt8) : PCall av 104 [pL w] (rI (nodeIx w)) := by
  refine pcall_of av_ok Tryd.func104 rfl Tryd.call104 Tryd.ntmps104 (congrArg Array.toList Tryd.results104) fun S => ?_; conv => whnf
  repeat' (first | (refine AWP.seq ?_) | (refine AWP.region av_ok ?_; conv => whnf) | (refine AWP.ret ?_; conv => whnf) | (refine AWP.skip ?_; conv => whnf) | (refine AWP.exit ?_; conv => whnf) | (refine AWP.block ?_; conv => whnf) | (refine AWP.cond ?_; conv => whnf) | (refine AB.tt ?_; conv => whnf) | (refine AB.ff ?_; conv => whnf) | (refine ACall.pure sl32Nodes_p rfl ?_; conv => whnf) | (refine ACall.pure (sl1At_p nodesL w (by decide)) rfl ?_; conv => whnf) | (exact trivial) | (refine And.intro rfl ?_; conv => whnf) | (refine AB.mk (fun h => ?_) (fun h => ?_) <;> (conv => whnf)) | (with_reducible_and_instances rfl) | (exact (rfl : AP.tup _ = AP.tup _)))
  rfl
end Go.Proofs.YtlhanpkfnhnegaaDoor
/- The scanner's numbers, nodes, operations. -/
namespace Go.Proofs.YtlhanpkfnhnegaaDoor
open Go.RowKit

/-- A number is read. (Hidden: what is compared with it must not be reckoned out.) -/
def scNum0 (s : Sc) : Int × Sc := if digB s.cur 10 then (numV s.cur, { s.next with bad := s.next.bad || decide ((numV s.cur : Int) > 1000000000) }) else (0, { s.next with bad := true })
theorem scNum_ex : ∃ f : Sc → Int × Sc, ∀ s, f s = scNum0 s := ⟨scNum0, fun _ => rfl⟩
noncomputable def scNum : Sc → Int × Sc := Classical.choose scNum_ex
theorem scNum_eq (s : Sc) : scNum s = scNum0 s := Classical.choose_spec scNum_ex s
theorem Sc.ok.num {s : Sc} (h : s.ok) : (scNum s).2.ok := by
  have := h.next
  rw [scNum_eq]
  unfold scNum0
  split <;> exact this
/-- The word of a node is read. -/
def scNode (s : Sc) : Int × Sc := (nodeIx s.cur, { s.next with bad := s.next.bad || decide (nodeIx s.cur < 0) })
theorem Sc.ok.node {s : Sc} (h : s.ok) : (scNode s).2.ok := h.next
theorem nodeIx_le (w : List UInt8) : -1 ≤ nodeIx w ∧ nodeIx w ≤ 5 := by
  have h := idxL_ge nodesL w
  refine ⟨h, ?_⟩
  unfold nodeIx nodesL
  simp only [idxL]
  repeat' split
  all_goals omega
theorem number_m (s : Sc) (hs : s.ok) : MCall av 105 [.one (.ref 1000 0 0 0)] [(1000, s.o)] [(1000, (scNum s).2.o)] [1000] (.val (.one (.d (dI (scNum s).1)))) := by
  have wm := word_m s hs
  have hd : ∀ h : digB s.cur 10 = true, (numV s.cur : Int) < 10000000000 := fun h => by have := numV_small h; omega
  have hcl := hs.cur
  obtain ⟨ws1, b1, a1⟩ : ∃ ws1 b1 a1, s.next = ⟨ws1, b1, a1⟩ := ⟨_, _, _, rfl⟩
  obtain ⟨a1, hs1⟩ := a1
  rw [hs1] at wm
  cases hdig : digB s.cur 10 with
  | false =>
    have e : scNum s = (0, ⟨ws1, true, a1⟩) := by rw [scNum_eq]; unfold scNum0; rw [hdig, hs1]; rfl
    have hn : (!digB s.cur 10) = true := by rw [hdig]; rfl
    rw [e]
    refine mcall_of av_ok Tryd.func105 rfl Tryd.call105 Tryd.ntmps105 (congrArg Array.toList Tryd.results105) rfl fun S pv => ?_; conv => whnf
    repeat' (first | (refine AWP.seq ?_) | (refine AWP.region av_ok ?_; conv => whnf) | (refine AWP.ret ?_; conv => whnf) | (refine AWP.skip ?_; conv => whnf) | (refine AWP.exit ?_; conv => whnf) | (refine AWP.block ?_; conv => whnf) | (refine AWP.cond ?_; conv => whnf) | (refine AB.tt ?_; conv => whnf) | (refine AB.ff ?_; conv => whnf) | (refine AB.ofT (by assumption) ?_; conv => whnf) | (refine AB.ofF (by assumption) ?_; conv => whnf) | (refine ACall.upd wm 1000 rfl rfl rfl ?_; conv => whnf) | (refine ACall.pure (idigits_p s.cur 10 hcl (by omega)) rfl ?_; conv => whnf) | (exact trivial) | (refine And.intro rfl ?_; conv => whnf) | (refine AB.mk (fun h => ?_) (fun h => ?_) <;> (conv => whnf)) | (with_reducible_and_instances rfl) | (exact (rfl : AP.tup _ = AP.tup _)))
  | true =>
    have e : scNum s = ((numV s.cur : Int), (⟨ws1, b1 || decide ((numV s.cur : Int) > 1000000000), a1⟩ : Sc)) := by rw [scNum_eq]; unfold scNum0; rw [hdig, hs1]; rfl
    have hn : (!digB s.cur 10) = false := by rw [hdig]; rfl
    rw [e]
    cases b1
    all_goals
      refine mcall_of av_ok Tryd.func105 rfl Tryd.call105 Tryd.ntmps105 (congrArg Array.toList Tryd.results105) rfl fun S pv => ?_; conv => whnf
      repeat' (first | (refine AWP.seq ?_) | (refine AWP.region av_ok ?_; conv => whnf) | (refine AWP.ret ?_; conv => whnf) | (refine AWP.skip ?_; conv => whnf) | (refine AWP.exit ?_; conv => whnf) | (refine AWP.block ?_; conv => whnf) | (refine AWP.cond ?_; conv => whnf) | (refine AB.tt ?_; conv => whnf) | (refine AB.ff ?_; conv => whnf) | (refine AB.ofT (by assumption) ?_; conv => whnf) | (refine AB.ofF (by assumption) ?_; conv => whnf) | (refine ACall.upd wm 1000 rfl rfl rfl ?_; conv => whnf) | (refine ACall.pure (idigits_p s.cur 10 hcl (by omega)) rfl ?_; conv => whnf) | (refine ACall.pure (parseInt_p s.cur hdig) rfl ?_; conv => whnf) | (exact trivial) | (refine And.intro rfl ?_; conv => whnf) | (refine AB.mk (fun h => ?_) (fun h => ?_) <;> (conv => whnf)) | (with_reducible_and_instances rfl) | (exact (rfl : AP.tup _ = AP.tup _)))
theorem node_m (s : Sc) (hs : s.ok) : MCall av 106 [.one (.ref 1000 0 0 0)] [(1000, s.o)] [(1000, (scNode s).2.o)] [1000] (.val (.one (.d (dI (scNode s).1)))) := by
  have wm := word_m s hs
  obtain ⟨ws1, b1, a1⟩ : ∃ ws1 b1 a1, s.next = ⟨ws1, b1, a1⟩ := ⟨_, _, _, rfl⟩
  obtain ⟨a1, hs1⟩ := a1
  rw [hs1] at wm
  have e : scNode s = (nodeIx s.cur, ⟨ws1, b1 || decide (nodeIx s.cur < 0), a1⟩) := by unfold scNode; rw [hs1]
  rw [e]
  cases b1
  all_goals
    refine mcall_of av_ok Tryd.func106 rfl Tryd.call106 Tryd.ntmps106 (congrArg Array.toList Tryd.results106) rfl fun S pv => ?_; conv => whnf
    repeat' (first | (refine AWP.seq ?_) | (refine AWP.region av_ok ?_; conv => whnf) | (refine AWP.ret ?_; conv => whnf) | (refine AWP.skip ?_; conv => whnf) | (refine AWP.exit ?_; conv => whnf) | (refine AWP.block ?_; conv => whnf) | (refine AWP.cond ?_; conv => whnf) | (refine AB.tt ?_; conv => whnf) | (refine AB.ff ?_; conv => whnf) | (refine AB.ofT (by assumption) ?_; conv => whnf) | (refine AB.ofF (by assumption) ?_; conv => whnf) | (refine ACall.upd wm 1000 rfl rfl rfl ?_; conv => whnf) | (refine ACall.pure (iNodeOf_p s.cur) rfl ?_; conv => whnf) | (exact trivial) | (refine And.intro rfl ?_; conv => whnf) | (refine AB.mk (fun h => ?_) (fun h => ?_) <;> (conv => whnf)) | (with_reducible_and_instances rfl) | (exact (rfl : AP.tup _ = AP.tup _)))
theorem over_m (s : Sc) : MCall av 95 [.one (.ref 1000 0 0 0)] [(1000, s.o)] [(1000, s.o)] [1000] (.val (.one (.d (dB (s.ws.isEmpty && !s.bad))))) := by
  obtain ⟨ws, bad, at_⟩ := s
  cases h : ws.isEmpty
  all_goals
    simp only [Sc.o, h]
    refine mcall_of av_ok Tryd.func95 rfl Tryd.call95 Tryd.ntmps95 (congrArg Array.toList Tryd.results95) rfl fun S pv => ?_; conv => whnf
    repeat' (first | (refine AWP.seq ?_) | (refine AWP.region av_ok ?_; conv => whnf) | (refine AWP.ret ?_; conv => whnf) | (refine AWP.skip ?_; conv => whnf) | (refine AWP.exit ?_; conv => whnf) | (refine AWP.block ?_; conv => whnf) | (refine AWP.cond ?_; conv => whnf) | (refine AB.tt ?_; conv => whnf) | (refine AB.ff ?_; conv => whnf) | (refine AB.ofT (by assumption) ?_; conv => whnf) | (refine AB.ofF (by assumption) ?_; conv => whnf) | (exact trivial) | (refine And.intro rfl ?_; conv => whnf) | (refine AB.mk (fun h => ?_) (fun h => ?_) <;> (conv => whnf)) | (with_reducible_and_instances rfl) | (exact (rfl : AP.tup _ = AP.tup _)))
theorem opOf_m (k a b c d : Int) : MCall av 139 [.one (.own 1001)] [(1001, .row 2 1 ([k, a, b, c, d].map eI))] [(1001, .row 2 1 ([k, a, b, c, d].map eI))] [] (.val (.agg [.d (dI k), .d (dI a), .d (dI b), .d (dI c), .d (dI d)])) := by
  refine mcall_of av_ok Tryd.func139 rfl Tryd.call139 Tryd.ntmps139 (congrArg Array.toList Tryd.results139) rfl fun S pv => ?_; conv => whnf
  repeat' (first | (refine AWP.seq ?_) | (refine AWP.region av_ok ?_; conv => whnf) | (refine AWP.ret ?_; conv => whnf) | (refine AWP.skip ?_; conv => whnf) | (refine AWP.exit ?_; conv => whnf) | (refine AWP.block ?_; conv => whnf) | (refine AWP.cond ?_; conv => whnf) | (refine AB.tt ?_; conv => whnf) | (refine AB.ff ?_; conv => whnf) | (refine AB.ofT (by assumption) ?_; conv => whnf) | (refine AB.ofF (by assumption) ?_; conv => whnf) | (exact trivial) | (refine And.intro rfl ?_; conv => whnf) | (refine AB.mk (fun h => ?_) (fun h => ?_) <;> (conv => whnf)) | (with_reducible_and_instances rfl) | (exact (rfl : AP.tup _ = AP.tup _)))
  refine' AWP.draw av_ok 15 [[], [0], [0, 1], [], [3], [3, 4], [], [6], [6, 7], [], [9], [9, 10], [], [12], [12, 13], [13, 12, 14, 10, 9, 11, 7, 6, 8, 4, 3, 5, 1, 0, 2], [2, 0, 1, 5, 3, 4, 8, 6, 7, 11, 9, 10, 14, 12, 13, 15]] [(_, _), (_, _), (_, _), (_, _), (_, _), (_, _), (_, _), (_, _), (_, _), (_, _), (_, _), (_, _), (_, _), (_, _), (_, _)] ?hD ?hok ?hl ?hf ?hno ?ht
  case hD => kernel_rfl
  case hok => kernel_rfl
  case hl => rfl
  case hf =>
    conv => whnf
    repeat' (first | (refine ⟨rfl, rfl⟩) | exact trivial | (refine AIx.at 0 _ rfl rfl ?_; conv => whnf) | (refine AIx.at 1 _ rfl rfl ?_; conv => whnf) | (refine AIx.at 2 _ rfl rfl ?_; conv => whnf) | (refine AIx.at 3 _ rfl rfl ?_; conv => whnf) | (refine AIx.at 4 _ rfl rfl ?_; conv => whnf) | (refine And.intro ?_ ?_ <;> conv => whnf))
    all_goals trace_state
  case hno => rfl
  case ht =>
    conv => whnf
    repeat' (first | (refine AWP.seq ?_) | (refine AWP.region av_ok ?_; conv => whnf) | (refine AWP.ret ?_; conv => whnf) | (refine AWP.skip ?_; conv => whnf) | (refine AWP.exit ?_; conv => whnf) | (refine AWP.block ?_; conv => whnf) | (refine AWP.cond ?_; conv => whnf) | (refine AB.tt ?_; conv => whnf) | (refine AB.ff ?_; conv => whnf) | (refine AB.ofT (by assumption) ?_; conv => whnf) | (refine AB.ofF (by assumption) ?_; conv => whnf) | (exact trivial) | (refine And.intro rfl ?_; conv => whnf) | (refine AB.mk (fun h => ?_) (fun h => ?_) <;> (conv => whnf)) | (with_reducible_and_instances rfl) | (exact (rfl : AP.tup _ = AP.tup _)))
end Go.Proofs.YtlhanpkfnhnegaaDoor
/- The scanner's operations; TextOp of the program. -/
namespace Go.Proofs.YtlhanpkfnhnegaaDoor
open Go.RowKit

/-- The state behind n numbers; the n-th number. -/
noncomputable def scAt (s : Sc) : Nat → Sc
  | 0 => s
  | n + 1 => (scNum (scAt s n)).2
theorem scAt_succ (s : Sc) (n : Nat) : (scNum (scAt s n)).2 = scAt s (n + 1) := rfl
noncomputable def nAt (s : Sc) (n : Nat) : Int := (scNum (scAt s n)).1
theorem Sc.ok.at_ {s : Sc} (h : s.ok) : ∀ n, (scAt s n).ok
  | 0 => h
  | n + 1 => (Sc.ok.at_ h n).num
def opKind (w : List UInt8) : Int := if opWordL 1 = w then 1 else if opWordL 2 = w then 2 else if opWordL 3 = w then 3 else if opWordL 4 = w then 4 else if opWordL 5 = w then 5 else 0
/-- The j-th number of an operation of which n are read. -/
noncomputable def numIf (s : Sc) (n j : Nat) : Int := if j < n then nAt s j else 0
noncomputable def scOp (s : Sc) : DOp × Sc := if opKind s.cur = 0 then (⟨0, 0, 0, 0, 0⟩, { s.next with bad := true }) else
  (⟨opKind s.cur, numIf s.next (opManyN (opKind s.cur)) 0, numIf s.next (opManyN (opKind s.cur)) 1, numIf s.next (opManyN (opKind s.cur)) 2, numIf s.next (opManyN (opKind s.cur)) 3⟩, scAt s.next (opManyN (opKind s.cur)))
theorem Sc.ok.op {s : Sc} (h : s.ok) : (scOp s).2.ok := by
  unfold scOp
  split
  · exact h.next
  · exact h.next.at_ _
abbrev DOp.cs (o : DOp) : List AC := [.d (dI o.kind), .d (dI o.a), .d (dI o.b), .d (dI o.c), .d (dI o.d)]
theorem opKind_word {w : List UInt8} {j : Int} (h : 1 ≤ j ∧ j ≤ 5) : opKind w = j ↔ opWordL j = w := by
  constructor
  · intro e
    unfold opKind at e
    repeat' split at e
    all_goals first
      | (subst e; assumption)
      | omega
  · rintro rfl
    rcases op_cases h with rfl | rfl | rfl | rfl | rfl <;> decide
theorem opKind_range (w : List UInt8) : 0 ≤ opKind w ∧ opKind w ≤ 5 := by
  unfold opKind
  repeat' split
  all_goals omega
theorem opManyN_le (k : Int) : opManyN k ≤ 4 := by
  unfold opManyN
  repeat' split
  all_goals omega
/-- The row of numbers behind n of them. -/
noncomputable def numRow (k : Int) (s : Sc) (n : Nat) : List (List AD) := [k, numIf s n 0, numIf s n 1, numIf s n 2, numIf s n 3].map eI
theorem numRow_len (k : Int) (s : Sc) (n : Nat) : (numRow k s n).length = 5 := rfl
theorem numRow_set {k : Int} {s : Sc} {n : Nat} (h : n < 4) : (numRow k s n).set (n + 1) [dI (nAt s n)] = numRow k s (n + 1) := by
  have : n = 0 ∨ n = 1 ∨ n = 2 ∨ n = 3 := by omega
  rcases this with rfl | rfl | rfl | rfl <;> simp [numRow, numIf, eI]
theorem numRow_get {k : Int} {s : Sc} {n j : Nat} (h : j < 5) : ∃ x, (numRow k s n)[j]? = some [dI x] := by
  have : j = 0 ∨ j = 1 ∨ j = 2 ∨ j = 3 ∨ j = 4 := by omega
  rcases this with rfl | rfl | rfl | rfl | rfl <;> exact ⟨_, rfl⟩
theorem numRow_zero (k : Int) (s : Sc) : numRow k s 0 = [[dI k], [dI 0], [dI 0], [dI 0], [dI 0]] := rfl
theorem iOpWord_p (x : Int) : PCall av 69 [pI x] (rL (opWordL x)) := PCall.plain av_ok Tryd.call69 rfl rfl fun w _ => iOpWord_calls x w
theorem iopFields_p (x : Int) : PCall av 72 [pI x] (rI (opManyN x)) := PCall.plain av_ok Tryd.call72 rfl rfl fun w _ => (iopFields_calls x w).mono fun e w' ⟨h1, h2⟩ => ⟨h1, h2 ▸ Below.refl _ _⟩
theorem op_m (s : Sc) (hs : s.ok) : MCall av 94 [.one (.ref 1000 0 0 0)] [(1000, s.o)] [(1000, (scOp s).2.o)] [1000] (.val (.agg (scOp s).1.cs)) := by
  have wm := word_m s hs
  refine mcall_of av_ok Tryd.func94 rfl Tryd.call94 Tryd.ntmps94 (congrArg Array.toList Tryd.results94) rfl fun S pv => ?_; conv => whnf
  repeat' (first | (refine AWP.seq ?_) | (refine AWP.region av_ok ?_; conv => whnf) | (refine AWP.ret ?_; conv => whnf) | (refine AWP.skip ?_; conv => whnf) | (refine AWP.exit ?_; conv => whnf) | (refine AWP.block ?_; conv => whnf) | (refine AWP.cond ?_; conv => whnf) | (refine AB.tt ?_; conv => whnf) | (refine AB.ff ?_; conv => whnf) | (refine AB.ofT (by assumption) ?_; conv => whnf) | (refine AB.ofF (by assumption) ?_; conv => whnf) | (refine ACall.upd wm 1000 rfl rfl rfl ?_; conv => whnf) | (exact trivial) | (refine And.intro rfl ?_; conv => whnf) | (refine AB.mk (fun h => ?_) (fun h => ?_) <;> (conv => whnf)) | (with_reducible_and_instances rfl) | (exact (rfl : AP.tup _ = AP.tup _)))
  refine AWP.loopS (fun k : Nat => 1 ≤ k ∧ k ≤ 6 ∧ ∀ j : Int, 1 ≤ j → j < k → opWordL j ≠ s.cur) [4, 5, 6, 9, 10, 11, 12, 13, 14, 15, 16, 17, 18, 19, 20, 21, 22, 23, 24, 25, 26, 27, 28, 29, 30, 31] (fun k => [(4, vI .i64 (k : Int))]) (fun k => [(9999, .frame (pinsOf [1000]) pv), (1000, s.next.o), (2, .cells 25 [.d (dI 0), .d (dI 0), .d (dI 0), .d (dI 0), .d (dI 0)])]) (fun k => 6 - k) 1 ⟨by omega, by omega, fun j h1 h2 => by omega⟩ ?_ (SubO.cons rfl (SubO.cons rfl (SubO.cons rfl SubO.nil))) (fun k hR => ?_) <;> (conv => whnf)
  · repeat' (first | exact trivial | (refine And.intro rfl ?_; conv => whnf))
  · obtain ⟨hk1, hk6, hno⟩ := hR
    repeat' (first | (refine AWP.seq ?_) | (refine AWP.region av_ok ?_; conv => whnf) | (refine AWP.ret ?_; conv => whnf) | (refine AWP.skip ?_; conv => whnf) | (refine AWP.exit ?_; conv => whnf) | (refine AWP.block ?_; conv => whnf) | (refine AWP.cond ?_; conv => whnf) | (refine AB.tt ?_; conv => whnf) | (refine AB.ff ?_; conv => whnf) | (refine AB.ofT (by assumption) ?_; conv => whnf) | (refine AB.ofF (by assumption) ?_; conv => whnf) | (refine ACall.pure (iOpWord_p _) rfl ?_; conv => whnf) | (refine AW.i64 (by simp only [decide_eq_true_eq, decide_eq_false_iff_not, List.length_map, Bool.not_eq_true', Bool.not_eq_false'] at *; omega) (by simp only [decide_eq_true_eq, decide_eq_false_iff_not, List.length_map, Bool.not_eq_true', Bool.not_eq_false'] at *; omega) ?_; conv => whnf) | (exact trivial) | (refine And.intro rfl ?_; conv => whnf) | (refine AB.mk (fun h => ?_) (fun h => ?_) <;> (conv => whnf)) | (with_reducible_and_instances rfl) | (exact (rfl : AP.tup _ = AP.tup _)))
    · have hk5 : k ≤ 5 := (by simp only [decide_eq_true_eq, decide_eq_false_iff_not, List.length_map, Bool.not_eq_true', Bool.not_eq_false'] at *; omega)
      have hne : opWordL k ≠ s.cur := by rw [str_dec] at h; simpa using h
      refine ANext.mk ⟨k + 1, ⟨by omega, by omega, fun j h1 h2 => ?_⟩, by omega, ?_, SubO.cons rfl (SubO.cons rfl (SubO.cons rfl SubO.nil))⟩
      · by_cases hjk : j = k
        · subst hjk; exact hne
        · exact hno j h1 (by omega)
      · (conv => whnf); repeat' (first | exact trivial | (refine ⟨rfl, ?_⟩; conv => whnf))
    · have hk5 : k ≤ 5 := (by simp only [decide_eq_true_eq, decide_eq_false_iff_not, List.length_map, Bool.not_eq_true', Bool.not_eq_false'] at *; omega)
      have heq : opWordL k = s.cur := by rw [str_dec] at h; simpa using h
      have hkind : opKind s.cur = k := (opKind_word (by omega)).2 heq
      have e : scOp s = (⟨k, numIf s.next (opManyN k) 0, numIf s.next (opManyN k) 1, numIf s.next (opManyN k) 2, numIf s.next (opManyN k) 3⟩, scAt s.next (opManyN k)) := by unfold scOp; rw [if_neg (by omega), hkind]
      rw [e]
      have hm4 := opManyN_le k
      clear h
      refine AWP.loopS (fun n : Nat => n ≤ opManyN k) ([6, 19, 20, 21, 22, 23, 24, 25, 26, 27, 28, 29]) (fun n => [(6, vI .i64 ((n + 1 : Nat) : Int)), (5, .one (.own 18))]) (fun n => [(9999, .frame (pinsOf [1000]) pv), (1000, (scAt s.next n).o), (2, .cells 25 [.d (dI 0), .d (dI 0), .d (dI 0), .d (dI 0), .d (dI 0)]), (18, .row 2 1 (numRow k s.next n))]) (fun n => opManyN k - n) 0 (by omega) ?_ (SubO.cons rfl (SubO.cons rfl (SubO.cons rfl (SubO.cons rfl SubO.nil)))) (fun n hn => ?_) <;> (conv => whnf)
      · repeat' (first | exact trivial | (refine And.intro rfl ?_; conv => whnf))
      · obtain ⟨x, hx⟩ : ∃ x, n < 4 → (numRow k s.next n)[n + 1]? = some [dI x] := by
          by_cases h4 : n < 4
          · obtain ⟨x, hx⟩ := numRow_get (k := k) (s := s.next) (n := n) (j := n + 1) (by omega)
            exact ⟨x, fun _ => hx⟩
          · exact ⟨0, fun h => absurd h h4⟩
        repeat' (first | (refine AWP.seq ?_) | (refine AWP.region av_ok ?_; conv => whnf) | (refine AWP.ret ?_; conv => whnf) | (refine AWP.skip ?_; conv => whnf) | (refine AWP.exit ?_; conv => whnf) | (refine AWP.block ?_; conv => whnf) | (refine AWP.cond ?_; conv => whnf) | (refine AB.tt ?_; conv => whnf) | (refine AB.ff ?_; conv => whnf) | (refine AB.ofT (by assumption) ?_; conv => whnf) | (refine AB.ofF (by assumption) ?_; conv => whnf) | (refine ACall.pure (iopFields_p _) rfl ?_; conv => whnf) | (refine ACall.upd (number_m (scAt s.next n) (hs.next.at_ n)) 1000 rfl rfl rfl ?_; conv => whnf) | (refine AIx.at (n + 1) _ rfl (hx (by simp only [decide_eq_true_eq, decide_eq_false_iff_not, List.length_map, Bool.not_eq_true', Bool.not_eq_false'] at *; omega)) ?_; conv => whnf) | (refine AW.i64 (by simp only [decide_eq_true_eq, decide_eq_false_iff_not, List.length_map, Bool.not_eq_true', Bool.not_eq_false'] at *; omega) (by simp only [decide_eq_true_eq, decide_eq_false_iff_not, List.length_map, Bool.not_eq_true', Bool.not_eq_false'] at *; omega) ?_; conv => whnf) | (refine ACall.meth (opOf_m k (numIf s.next n 0) (numIf s.next n 1) (numIf s.next n 2) (numIf s.next n 3)) [(1001, 18)] rfl rfl ?_; conv => whnf) | (exact trivial) | (refine And.intro rfl ?_; conv => whnf) | (refine AB.mk (fun h => ?_) (fun h => ?_) <;> (conv => whnf)) | (with_reducible_and_instances rfl) | (exact (rfl : AP.tup _ = AP.tup _)))
        · have hlt : n < opManyN k := (by simp only [decide_eq_true_eq, decide_eq_false_iff_not, List.length_map, Bool.not_eq_true', Bool.not_eq_false'] at *; omega)
          refine ANext.mk ⟨n + 1, by omega, by omega, ?_, SubO.cons rfl (SubO.cons (congrArg (fun t : Sc => some t.o) (scAt_succ s.next n)) (SubO.cons rfl (SubO.cons (congrArg some (congrArg (AO.row 2 1) (numRow_set (by omega)))) SubO.nil)))⟩
          (conv => whnf); repeat' (first | exact trivial | (refine ⟨rfl, ?_⟩; conv => whnf))
        · have hn2 : n = opManyN k := (by simp only [decide_eq_true_eq, decide_eq_false_iff_not, List.length_map, Bool.not_eq_true', Bool.not_eq_false'] at *; omega)
          subst hn2
          repeat' (first | (refine AWP.seq ?_) | (refine AWP.region av_ok ?_; conv => whnf) | (refine AWP.ret ?_; conv => whnf) | (refine AWP.skip ?_; conv => whnf) | (refine AWP.exit ?_; conv => whnf) | (refine AWP.block ?_; conv => whnf) | (refine AWP.cond ?_; conv => whnf) | (refine AB.tt ?_; conv => whnf) | (refine AB.ff ?_; conv => whnf) | (exact trivial) | (refine And.intro rfl ?_; conv => whnf) | (refine AB.mk (fun h => ?_) (fun h => ?_) <;> (conv => whnf)) | (with_reducible_and_instances rfl) | (exact (rfl : AP.tup _ = AP.tup _)))
    · have hk6 : k = 6 := (by simp only [decide_eq_true_eq, decide_eq_false_iff_not, List.length_map, Bool.not_eq_true', Bool.not_eq_false'] at *; omega)
      subst hk6
      have hz : opKind s.cur = 0 := by
        have hr := opKind_range s.cur
        refine Classical.byContradiction fun hne => ?_
        exact hno (opKind s.cur) (by omega) (by omega) ((opKind_word (by omega)).1 rfl)
      have e : scOp s = (⟨0, 0, 0, 0, 0⟩, { s.next with bad := true }) := by unfold scOp; rw [if_pos hz]
      rw [e]
      repeat' (first | (refine AWP.seq ?_) | (refine AWP.region av_ok ?_; conv => whnf) | (refine AWP.ret ?_; conv => whnf) | (refine AWP.skip ?_; conv => whnf) | (refine AWP.exit ?_; conv => whnf) | (refine AWP.block ?_; conv => whnf) | (refine AWP.cond ?_; conv => whnf) | (refine AB.tt ?_; conv => whnf) | (refine AB.ff ?_; conv => whnf) | (exact trivial) | (refine And.intro rfl ?_; conv => whnf) | (refine AB.mk (fun h => ?_) (fun h => ?_) <;> (conv => whnf)) | (with_reducible_and_instances rfl) | (exact (rfl : AP.tup _ = AP.tup _)))
end Go.Proofs.YtlhanpkfnhnegaaDoor
