/- (*strings.Builder).String over abstract values: the row is used up. -/
import Derived.Test.YtlhanpkfnhnegaaDoorAvV1
set_option linter.unusedVariables false
set_option linter.unusedSimpArgs false
set_option maxRecDepth 100000
namespace Go.Proofs.YtlhanpkfnhnegaaDoor
open Go.RowKit

theorem grownBy_freeze (w : World) (g n : Nat) : w.grownBy (w.drew.freeze ⟨g, 0, none⟩ n) (some g) := by
  by_cases hn : n = 0
  · subst hn; exact ⟨rfl, rfl, rfl, Nat.le_refl _, fun _ _ _ => rfl⟩
  · have e : w.drew.freeze ⟨g, 0, none⟩ n = { w.drew with heap := w.heap.modify g fun | .cells c elem (lo, hi) => .cells c elem (if lo == hi then (0, 0 + n) else (min lo 0, max hi (0 + n))) | o => o } := by
      unfold World.freeze; rw [if_neg hn]; rfl
    rw [e]
    refine ⟨rfl, rfl, rfl, by simp, fun k hk hne => ?_⟩
    have : g ≠ k := fun e => hne (by rw [e])
    simp [Array.getElem?_modify, this]
set_option maxHeartbeats 1000000 in
theorem string_row (b g cap : Nat) (l : List UInt8) (u0 : Value) (w : World) (h0 : l ≠ []) (hbk : w.heap[b]? = some (.cells #[u0, .slice (some ⟨g, 0, none⟩) l.length cap] 108 (0, 0)))
    (hown : w.ownsRow 0 5 1 (.slice (some ⟨g, 0, none⟩) l.length cap) l.length (Lib.byteCells l)) :
    Calls Tryd.prog 91 #[.pointer (some ⟨b, 0, none⟩)] w fun e w' => e = .returned (.string ⟨l.toArray⟩) ∧ w' = w.drew.freeze ⟨g, 0, none⟩ l.length := by
  have hl0 : l.length ≠ 0 := by simpa using h0
  have h2 := hown.2
  rcases h2 with ⟨h3, _⟩ | ⟨g', cap', cur, hv, _, hg, hnc, hcm, hcs, htake⟩
  · cases h3
  injection hv with hv1 hv2 hv3
  injection hv1 with hv1
  injection hv1 with hv1
  subst hv1 hv3
  have mixed : Tryd.prog.follows .mixedOrders = true := by kernel_rfl
  have c1 : w.drew.cell? ⟨b, 1, none⟩ = some (.slice (some ⟨g, 0, none⟩) l.length cap) := by
    have : w.drew.heap[b]? = _ := hbk
    rw [Lib.cell_of_heap this]; rfl
  have hSD : (Builtin.unsafeSliceData_ #[76] 141 #[.slice (some ⟨g, 0, none⟩) l.length cap]).run Tryd.prog w.drew = .ok (.pointer (some ⟨g, 0, none⟩)) w.drew := Lib.run_unsafeSliceData_row _ _ _ _ _ _ (by omega)
  have hUS : (Builtin.unsafeString_ #[141, 3] 9 #[.pointer (some ⟨g, 0, none⟩), .int .i64 l.length]).run Tryd.prog w.drew = .ok (.string ⟨l.toArray⟩) (w.drew.freeze ⟨g, 0, none⟩ l.length) := by
    refine Lib.run_unsafeString_row w.drew 141 3 9 5 Tryd.underlying141 (by kernel_rfl) g cur.size (by have hg' : w.drew.heap[g]? = _ := hg; simp [World.shape?, hg']) l h0 (by simp at hcs; omega) (by unfold maxLen at hcm; omega) ?_
    intro j x hx
    exact hown.cells (g := g) rfl j (.int .u8 x.toNat) (by simp [Lib.byteCells, hx])
  go_enter Tryd.func91, Tryd.ntmps91
  go_wp2
  go_region_o
  all_goals (go_wp2; go_ret; exact ⟨rfl, rfl⟩)
set_option maxHeartbeats 1000000 in
theorem string_nil (b : Nat) (u0 : Value) (w : World) (hbk : w.heap[b]? = some (.cells #[u0, .slice none 0 0] 108 (0, 0))) :
    Calls Tryd.prog 91 #[.pointer (some ⟨b, 0, none⟩)] w fun e w' => e = .returned (.string ⟨#[]⟩) ∧ w' = w.drew := by
  have mixed : Tryd.prog.follows .mixedOrders = true := by kernel_rfl
  have c1 : w.drew.cell? ⟨b, 1, none⟩ = some (.slice none 0 0) := by
    have : w.drew.heap[b]? = _ := hbk
    rw [Lib.cell_of_heap this]; rfl
  have hSD : (Builtin.unsafeSliceData_ #[76] 141 #[.slice none 0 0]).run Tryd.prog w.drew = .ok (.pointer none) w.drew := rfl
  have hUS : (Builtin.unsafeString_ #[141, 3] 9 #[.pointer none, .int .i64 0]).run Tryd.prog w.drew = .ok (.string ⟨#[]⟩) w.drew := Lib.run_unsafeString_none _ _ _ _ _
  go_enter Tryd.func91, Tryd.ntmps91
  go_wp2
  go_region_o
  all_goals (go_wp2; go_ret; exact ⟨rfl, rfl⟩)

theorem string_m0 : MCall av 91 [.one (.ref 1000 0 0 0)] [(1000, bFresh)] [(1000, bFresh)] [1000] (.val (.one (.d (dL [])))) := by
  refine MCall.of_same Tryd.call91 fun Z w ρ us hws hl hr => ?_
  obtain ⟨b, cs, hp, hg, hcl, hc⟩ := hws.obj 1000 _ rfl
  obtain ⟨u, rfl⟩ := List.length_eq_one_iff.1 hl
  obtain ⟨b', hb', rfl⟩ := relA_ref (hr 0 _ _ rfl rfl)
  rw [hp] at hb'
  injection hb' with hb'
  subst hb'
  match cs, hcl with
  | [u0, u1], _ =>
    have h1 : u1 = .slice none 0 0 := hc 1 _ _ rfl rfl
    subst h1
    refine (string_nil b u0 w hg).mono ?_
    rintro e w' ⟨rfl, rfl⟩
    exact ⟨_, rfl, ⟨rfl, rfl, rfl, Nat.le_refl _, fun _ _ _ => rfl⟩, .one _ _ (show RelD Z _ (.pv _) _ from .pv _ rfl)⟩
theorem string_m1 (l : List UInt8) (h0 : l ≠ []) : MCall av 91 [.one (.ref 1000 0 0 0)] [(1000, bUsed 1000 1001), (1001, bRow (strDs ⟨l.toArray⟩))] [(1000, .cells 108 [.ref 1000 0 0 0, .dead]), (1001, .frame [] [])] [] (.val (.one (.d (dL l)))) := by
  refine MCall.of_gone (id := 1001) (o := bRow (strDs ⟨l.toArray⟩)) Tryd.call91 rfl fun Z w ρ us hws hl hr => ?_
  obtain ⟨b, cs, hp, hg, hcl, hc⟩ := hws.obj 1000 _ rfl
  obtain ⟨ux, hs0, hxl, hxx, hxu, hown, hxd⟩ := hws.obj 1001 _ rfl
  obtain ⟨u, rfl⟩ := List.length_eq_one_iff.1 hl
  obtain ⟨b', hb', rfl⟩ := relA_ref (hr 0 _ _ rfl rfl)
  rw [hp] at hb'
  injection hb' with hb'
  subst hb'
  match cs, hcl with
  | [u0, u1], _ =>
    have h1 : u1 = ρ 1001 := (hc 1 _ _ rfl rfl).1
    subst h1
    have hlen : (strDs ⟨l.toArray⟩).length = l.length := by simp [strDs]
    have hux : ux.flatten = Lib.byteCells l := by
      have : ux = l.map fun b => [Value.int .u8 b.toNat] := by
        apply List.ext_getElem?
        intro i
        rw [List.getElem?_map]
        cases hd : l[i]? with
        | none => rw [List.getElem?_eq_none]; rfl; rw [hxl, hlen]; exact List.getElem?_eq_none_iff.1 hd
        | some n =>
          have hlt : i < ux.length := by rw [hxl, hlen]; exact (List.getElem?_eq_some_iff.1 hd).1
          rw [List.getElem?_eq_getElem hlt]
          have hx : (strDs ⟨l.toArray⟩)[i]? = some [.pv (.int .u8 n.toNat)] := by simp [strDs, hd]
          have hu := hxu ux[i] (List.getElem_mem hlt)
          obtain ⟨y, hy⟩ := List.length_eq_one_iff.1 hu
          have := rel_pv (hxd i 0 _ _ _ y hx (List.getElem?_eq_getElem hlt) rfl (by rw [hy]; rfl))
          simp [hy, this]
      rw [this]
      exact flat_one (fun b : UInt8 => Value.int .u8 b.toNat) l
    rw [hux, hlen] at hown
    have hl0 : l.length ≠ 0 := by simpa using h0
    rcases hown.2 with ⟨_, hn⟩ | ⟨g, cap, cur, hv, _⟩
    · exact absurd hn hl0
    · rw [hv] at hg hown
      refine (string_row b g cap l u0 w h0 hg hown).mono ?_
      rintro e w' ⟨rfl, rfl⟩
      refine ⟨_, rfl, ?_, fun ρ' => .one _ _ (show RelD Z _ (.pv _) _ from .pv _ rfl)⟩
      rw [hv]
      exact grownBy_freeze w g l.length
end Go.Proofs.YtlhanpkfnhnegaaDoor
