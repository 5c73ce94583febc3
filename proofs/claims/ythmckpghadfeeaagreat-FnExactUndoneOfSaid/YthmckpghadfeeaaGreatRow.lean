/- Rows of cells behind a slice; the place of a string in a list of strings (l1At, slices.Index). -/
import Derived.Test.YthmckpghadfeeaaGreatNum
import Derived.Deep.LoopGhost
import Derived.Outline
set_option linter.unusedVariables false
set_option linter.unusedSimpArgs false
namespace Go.Proofs.YthmckpghadfeeaaGreat
open Go.ChangeShapes Go.WideShapes Go.RowKit

/-- From address A on lie the cells xs. -/
def Row (w : World) (A : Option Addr) (xs : List Value) : Prop :=
  ∀ j, j < xs.length → ∃ b off, A = some ⟨b, off, none⟩ ∧ b < w.heap.size ∧ ∀ i u, xs[i]? = some u → w.cell? ⟨b, off + i, none⟩ = some u

theorem Row.at_ {w : World} {A : Option Addr} {xs : List Value} (h : Row w A xs) {k : Nat} (hk : k < xs.length) :
    ∃ b off, A = some ⟨b, off, none⟩ ∧ w.cell? ⟨b, off + k, none⟩ = some xs[k] := by
  obtain ⟨b, off, e, _, hc⟩ := h k hk
  exact ⟨b, off, e, hc k _ (List.getElem?_eq_getElem hk)⟩

theorem Row.below {w w' : World} {A : Option Addr} {xs : List Value} (h : Row w A xs) (hb : Below w.heap.size w w') : Row w' A xs := by
  intro j hj
  obtain ⟨b, off, e, hl, hc⟩ := h j hj
  exact ⟨b, off, e, Nat.lt_of_lt_of_le hl hb.size, fun i u hu => (hb.cell (p := ⟨b, off + i, none⟩) hl).trans (hc i u hu)⟩

theorem Row.new (w : World) (cs : Array Value) (t : TypeId) : Row (w.alloc (.cells cs t)) (some ⟨w.heap.size, 0, none⟩) cs.toList := by
  intro j hj
  refine ⟨w.heap.size, 0, rfl, by simp, fun i u hu => ?_⟩
  rw [cell_of_row _ w.heap.size (0 + i) cs t (0, 0) (heap_alloc_new w _)]
  simpa using hu

def idxFrom (s : ByteArray) : Nat → List ByteArray → Int
  | _, [] => -1
  | k, x :: r => if (x.toList == s.toList) = true then k else idxFrom s (k + 1) r

theorem idxFrom_hit {s : ByteArray} {ss : List ByteArray} {k : Nat} (hk : k < ss.length) (h : (ss[k].toList == s.toList) = true) : idxFrom s k (ss.drop k) = k := by
  rw [List.drop_eq_getElem_cons hk]; simp [idxFrom, h]
theorem idxFrom_miss {s : ByteArray} {ss : List ByteArray} {k : Nat} (hk : k < ss.length) (h : (ss[k].toList == s.toList) = false) : idxFrom s k (ss.drop k) = idxFrom s (k + 1) (ss.drop (k + 1)) := by
  rw [List.drop_eq_getElem_cons hk]; simp [idxFrom, h]
theorem idxFrom_end {s : ByteArray} {ss : List ByteArray} {k : Nat} (hk : ¬ k < ss.length) : idxFrom s k (ss.drop k) = -1 := by
  rw [List.drop_of_length_le (by omega)]; rfl
theorem ret_i64 {a b : Int} (h : a = b) : Ending.returned (.int .i64 a) = .returned (.int .i64 b) := by rw [h]

end Go.Proofs.YthmckpghadfeeaaGreat
