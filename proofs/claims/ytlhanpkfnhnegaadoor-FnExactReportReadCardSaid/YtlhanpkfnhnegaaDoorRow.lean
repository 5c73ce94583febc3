/- Rows of cells behind a slice; the place of a string in a list of strings (l1At, slices.Index). -/
import Derived.Test.YtlhanpkfnhnegaaDoorNum
import Derived.Deep.LoopGhost
import Derived.Outline
set_option linter.unusedVariables false
set_option linter.unusedSimpArgs false
namespace Go.Proofs.YtlhanpkfnhnegaaDoor
open Go.ChangeShapes Go.WideShapes Go.RowKit

/-- From address A on lie the cells xs. -/
def Row (w : World) (A : Option Addr) (xs : List Value) : Prop :=
  ∀ j, j < xs.length → ∃ b off, A = some ⟨b, off, none⟩ ∧ b < w.heap.size ∧ ∀ i u, xs[i]? = some u → w.cell? ⟨b, off + i, none⟩ = some u

theorem Row.at_ {w : World} {A : Option Addr} {xs : List Value} (h : Row w A xs) {k : Nat} (hk : k < xs.length) :
    ∃ b off, A = some ⟨b, off, none⟩ ∧ w.cell? ⟨b, off + k, none⟩ = some xs[k] := by
  obtain ⟨b, off, e, _, hc⟩ := h k hk
  exact ⟨b, off, e, hc k _ (List.getElem?_eq_getElem hk)⟩

theorem Row.below {w w' : World} {A : Option Addr} {xs : List Value} (h : Row w A xs) (hb : Below w.heap.size w w') : Row w' A xs := by
  intro j hj
  obtain ⟨b, off, e, hl, hc⟩ := h j hj
  exact ⟨b, off, e, Nat.lt_of_lt_of_le hl hb.size, fun i u hu => (hb.cell (p := ⟨b, off + i, none⟩) hl).trans (hc i u hu)⟩

theorem Row.new (w : World) (cs : Array Value) (t : TypeId) : Row (w.alloc (.cells cs t)) (some ⟨w.heap.size, 0, none⟩) cs.toList := by
  intro j hj
  refine ⟨w.heap.size, 0, rfl, by simp, fun i u hu => ?_⟩
  rw [cell_of_row _ w.heap.size (0 + i) cs t (0, 0) (heap_alloc_new w _)]
  simpa using hu

def idxFrom (s : ByteArray) : Nat → List ByteArray → Int
  | _, [] => -1
  | k, x :: r => if (x.toList == s.toList) = true then k else idxFrom s (k + 1) r

theorem idxFrom_hit {s : ByteArray} {ss : List ByteArray} {k : Nat} (hk : k < ss.length) (h : (ss[k].toList == s.toList) = true) : idxFrom s k (ss.drop k) = k := by
  rw [List.drop_eq_getElem_cons hk]; simp [idxFrom, h]
theorem idxFrom_miss {s : ByteArray} {ss : List ByteArray} {k : Nat} (hk : k < ss.length) (h : (ss[k].toList == s.toList) = false) : idxFrom s k (ss.drop k) = idxFrom s (k + 1) (ss.drop (k + 1)) := by
  rw [List.drop_eq_getElem_cons hk]; simp [idxFrom, h]
theorem idxFrom_end {s : ByteArray} {ss : List ByteArray} {k : Nat} (hk : ¬ k < ss.length) : idxFrom s k (ss.drop k) = -1 := by
  rw [List.drop_of_length_le (by omega)]; rfl
theorem ret_i64 {a b : Int} (h : a = b) : Ending.returned (.int .i64 a) = .returned (.int .i64 b) := by rw [h]

set_option maxHeartbeats 400000 in
theorem l1At_calls (ss : List ByteArray) (s : ByteArray) (A : Option Addr) (c : Nat) (w : World) (hrow : Row w A (ss.map Value.string)) (hl : ss.length ≤ 1000000000) :
    Calls Tryd.prog 108 #[.slice A ss.length c, .string s] w fun e w' => e = .returned (.int .i64 (idxFrom s 0 ss)) ∧ w = w' := by
  go_enter Tryd.func108, Tryd.ntmps108
  go_wp2
  go_loop [5] (fun i => ∃ k : Nat, k ≤ ss.length ∧ i = .int .i64 k ∧ Hid (idxFrom s 0 ss = idxFrom s k (ss.drop k))) (fun i => ss.length - (intOf i).toNat)
  case atStart => exact ⟨0, Nat.zero_le _, rfl, by unfold Hid; rw [List.drop_zero]⟩
  case round =>
    obtain ⟨k, hk, rfl, hidx⟩ := hrel
    by_cases hlt : k < ss.length
    · obtain ⟨b, off, hA, hc⟩ := hrow.at_ (k := k) (by simpa using hlt)
      simp only [List.getElem_map] at hc
      subst hA
      cases hs : (ss[k].toList == s.toList)
      · have H := Lib.hid (hidx.out.trans (idxFrom_miss hlt hs))
        clear hidx
        go_wp2
        exact ⟨⟨k + 1, by omega, by go_num, H⟩, by simp [intOf]; omega⟩
      · have H := Lib.hid (hidx.out.trans (idxFrom_hit hlt hs))
        clear hidx
        go_wp2
        go_ret
        exact ⟨by rw [H.out]; rfl, rfl⟩
    · have H := Lib.hid (hidx.out.trans (idxFrom_end hlt))
      clear hidx
      go_wp2
      go_ret
      exact ⟨by rw [H.out]; rfl, rfl⟩
set_option maxHeartbeats 400000 in
theorem slIndexStr_calls (ss : List ByteArray) (s : ByteArray) (A : Option Addr) (c : Nat) (w : World) (hrow : Row w A (ss.map Value.string)) (hl : ss.length ≤ 1000000000) :
    Calls Tryd.prog 158 #[.slice A ss.length c, .string s] w fun e w' => e = .returned (.int .i64 (idxFrom s 0 ss)) ∧ w = w' := by
  go_enter Tryd.func158, Tryd.ntmps158
  go_wp2
  go_loop [5, 8] (fun _ i => ∃ k : Nat, k ≤ ss.length ∧ i = .int .i64 k ∧ Hid (idxFrom s 0 ss = idxFrom s k (ss.drop k))) (fun _ i => ss.length - (intOf i).toNat)
  case atStart => exact ⟨0, Nat.zero_le _, rfl, by unfold Hid; rw [List.drop_zero]⟩
  case round =>
    obtain ⟨k, hk, rfl, hidx⟩ := hrel
    by_cases hlt : k < ss.length
    · obtain ⟨b, off, hA, hc⟩ := hrow.at_ (k := k) (by simpa using hlt)
      simp only [List.getElem_map] at hc
      subst hA
      cases hs0 : (ss[k].toList == s.toList)
      · have H := Lib.hid (hidx.out.trans (idxFrom_miss hlt hs0))
        have hs : (s.toList == ss[k].toList) = false := by rw [← hs0]; exact BEq.comm
        clear hidx hs0
        go_wp2
        exact ⟨⟨k + 1, by omega, by go_num, H⟩, by simp [intOf]; omega⟩
      · have H := Lib.hid (hidx.out.trans (idxFrom_hit hlt hs0))
        have hs : (s.toList == ss[k].toList) = true := by rw [← hs0]; exact BEq.comm
        clear hidx hs0
        go_wp2
        go_ret
        exact ⟨by rw [H.out]; rfl, rfl⟩
    · have H := Lib.hid (hidx.out.trans (idxFrom_end hlt))
      clear hidx
      go_wp2
      go_ret
      exact ⟨by rw [H.out]; rfl, rfl⟩
end Go.Proofs.YtlhanpkfnhnegaaDoor
