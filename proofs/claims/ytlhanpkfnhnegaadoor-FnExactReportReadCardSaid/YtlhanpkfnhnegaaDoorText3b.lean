/- Lemmas on the numbers of an operation and on parts of a row. -/
import Derived.Test.YtlhanpkfnhnegaaDoorText3
import Derived.Test.YtlhanpkfnhnegaaDoorGrowE
set_option linter.unusedVariables false
set_option linter.unusedSimpArgs false
set_option maxRecDepth 100000
namespace Go.Proofs.YtlhanpkfnhnegaaDoor
open Go.ChangeShapes Go.WideShapes Go.RowKit

theorem Row.sub {w : World} {g : Nat} {xs : List Value} (h : Row w (some ⟨g, 0, none⟩) xs) (off m : Nat) : Row w (some ⟨g, off, none⟩) ((xs.drop off).take m) := by
  intro j hj
  have hj2 : off + j < xs.length := by simp at hj; omega
  obtain ⟨b, o, e, hl, hc⟩ := h (off + j) hj2
  injection e with e; injection e with e1 e2 e3
  subst e1 e2
  refine ⟨g, off, rfl, hl, fun i u hu => ?_⟩
  rw [List.getElem?_take] at hu
  split at hu
  · rw [List.getElem?_drop] at hu
    have := hc _ _ hu
    rwa [Nat.zero_add] at this
  · cases hu
def opArgs (o : DOp) : List Int := [o.a, o.b, o.c, o.d].take (opManyN o.kind)
def opTextL (o : DOp) : List UInt8 := if opOk o = true then opWordL o.kind ++ spacedB (opArgs o) else []
theorem opOk_bounds {o : DOp} (h : opOk o = true) : (1 ≤ o.kind ∧ o.kind ≤ 5) ∧ (0 ≤ o.a ∧ o.a ≤ 1000000) ∧ (0 ≤ o.b ∧ o.b ≤ 1000000) ∧ (0 ≤ o.c ∧ o.c ≤ 1000000) ∧ (0 ≤ o.d ∧ o.d ≤ 1000000) := by
  unfold opOk at h
  repeat' split at h
  all_goals simp only [Bool.and_eq_true, betweenB_iff, beq_iff_eq, Bool.false_eq_true] at h
  all_goals omega
theorem i64_wf {x : Int} (h0 : -9223372036854775808 ≤ x) (h1 : x ≤ 9223372036854775807) : (Lit.int .i64 x).wf = true := by
  have e1 : IntKind.i64.min = -9223372036854775808 := by decide
  have e2 : IntKind.i64.max = 9223372036854775807 := by decide
  simp only [Lit.wf, e1, e2, Bool.and_eq_true, decide_eq_true_eq]
  omega
theorem Row.five {w : World} {g : Nat} {v0 v1 v2 v3 v4 : Value} (h : Row w (some ⟨g, 0, none⟩) [v0, v1, v2, v3, v4]) : w.cell? ⟨g, 0, none⟩ = some v0 ∧ w.cell? ⟨g, 1, none⟩ = some v1 ∧ w.cell? ⟨g, 2, none⟩ = some v2 ∧ w.cell? ⟨g, 3, none⟩ = some v3 ∧ w.cell? ⟨g, 4, none⟩ = some v4 := by
  obtain ⟨b, o, e, hl, hc⟩ := h 0 (by simp)
  injection e with e; injection e with e1 e2 e3
  subst e1 e2
  have hc' : ∀ i u, [v0, v1, v2, v3, v4][i]? = some u → w.cell? ⟨g, i, none⟩ = some u := fun i u hu => by have := hc i u hu; rwa [Nat.zero_add] at this
  exact ⟨hc' 0 _ rfl, hc' 1 _ rfl, hc' 2 _ rfl, hc' 3 _ rfl, hc' 4 _ rfl⟩

end Go.Proofs.YtlhanpkfnhnegaaDoor
