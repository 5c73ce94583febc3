/- The laws' own mark.. and held.. functions: numbers laid through new memory, and found there again. -/
import Derived.Test.YtlhanpkfnhnegaaDoorLens
import Derived.OpenShut
set_option linter.unusedVariables false
set_option linter.unusedSimpArgs false
set_option maxRecDepth 100000
namespace Go.Proofs.YtlhanpkfnhnegaaDoor
open Go.ChangeShapes Go.WideShapes Go.RowKit

theorem wf64 {n : Int} (h1 : -9223372036854775808 ≤ n) (h2 : n ≤ 9223372036854775807) : (Lit.int .i64 n).wf = true := by
  have e : IntKind.i64.wrap n = n := by rw [IntKind.wrap_i64]; omega
  rw [← e]; exact wf_wrap _ _
theorem cellsAt_nil {w : World} {b o : Nat} : ∀ (j : Nat) (v : Value), ([] : List Value)[j]? = some v → w.cell? ⟨b, o + j, none⟩ = some v := by intro j v h; simp at h
theorem cellsAt_cons {w : World} {b o : Nat} {u : Value} {cs : List Value} (h : w.cell? ⟨b, o, none⟩ = some u) (hr : ∀ (j : Nat) (v : Value), cs[j]? = some v → w.cell? ⟨b, o + 1 + j, none⟩ = some v) :
    ∀ (j : Nat) (v : Value), (u :: cs)[j]? = some v → w.cell? ⟨b, o + j, none⟩ = some v := by
  intro j v hj
  cases j with
  | zero => simp only [List.getElem?_cons_zero, Option.some.injEq] at hj; subst hj; exact h
  | succ j => rw [show o + (j + 1) = o + 1 + j by omega]; exact hr j v (by simpa using hj)
theorem cell_out {w : World} {b o o' : Nat} (h : o ≠ o') (u : Value) : (w.setCell ⟨b, o, none⟩ u).cell? ⟨b, o', none⟩ = w.cell? ⟨b, o', none⟩ :=
  World.cell?_setCell_other _ _ _ _ (by intro e; injection e; omega)
theorem cell_in {w : World} {b o : Nat} {old : Value} (h : w.cell? ⟨b, o, none⟩ = some old) (u : Value) : (w.setCell ⟨b, o, none⟩ u).cell? ⟨b, o, none⟩ = some u := World.cell?_setCell_same _ _ _ h
def Whole (w : World) (b : Nat) : Prop := ∃ cur t, w.heap[b]? = some (.cells cur t (0, 0))
theorem Whole.setCell {w : World} {b : Nat} (h : Whole w b) (o : Nat) (u : Value) : Whole (w.setCell ⟨b, o, none⟩ u) b := by
  obtain ⟨cur, t, h⟩ := h
  exact ⟨cur.setIfInBounds o u, t, by simp [World.setCell, Array.getElem?_modify, h]⟩
theorem Whole.of {w w' : World} {b : Nat} (h : Whole w b) (e : w'.heap[b]? = w.heap[b]?) : Whole w' b := by
  obtain ⟨cur, t, h⟩ := h
  exact ⟨cur, t, e.trans h⟩

def OutMark {α : Type} (k : Int) (R : Rep α) (B : Nat) (w : World) (cs : List Value) (a : α) (F : List Nat) (e : Ending) (w' : World) : Prop := e = .returned (.int .i64 k) ∧ Res R B w' cs a F ∧ Turned F w w'
def OutHeld (k : Int) (w : World) (e : Ending) (w' : World) : Prop := e = .returned (.int .i64 k) ∧ Below w.heap.size w w'

def mI (k : Int) (_ : Int) : Int := k
def cI (_ : Int) : Int := 1
theorem cntI : ∀ (l : List Int), cntL cI l = l.length
  | [] => rfl
  | a :: r => by simp only [cntL, cntI r, cI, List.length_cons]; omega

set_option maxHeartbeats 1000000 in
theorem lmarkInt64S_calls (l : List Int) (A : Option Addr) (n cap : Nat) (F : List Nat) (B : Nat) (w : World) (k : Int) (h : Res (Rep.sl (Rep.int .i64)) B w [.slice A n cap] l F) (h0 : 0 ≤ k) (hk : k + cntL cI l ≤ 1000000000000) :
    Calls Tryd.prog 101 #[.slice A n cap, .int .i64 k] w (OutMark (k + cntL cI l) (Rep.sl (Rep.int .i64)) B w [.slice A n cap] (mkL mI cI k l) F) := by
  obtain ⟨rfl, hcl, hcm, _⟩ := Rep.sl_open h.rd
  rw [cntI] at hk
  unfold maxLen at hcm
  go_enter Tryd.func101, Tryd.ntmps101
  go_wp2
  go_loopw [1, 5] (fun c i wr => ∃ j : Nat, j ≤ l.length ∧ i = .int .i64 j ∧ c = .int .i64 (k + j) ∧ Res (Rep.sl (Rep.int .i64)) B wr [.slice A l.length cap] (mkP mI cI k j l) F ∧ Turned F w wr) (fun _ i _ => l.length - (intOf i).toNat)
  case atStart => exact ⟨0, Nat.zero_le _, rfl, by simp, by rw [mkP_zero]; exact h, Turned.refl _ _⟩
  case round =>
    obtain ⟨j, hj, rfl, rfl, hres, ht⟩ := hrel
    by_cases hlt : j < l.length
    · obtain ⟨b, off, c, Fk, rfl, hbF, hbk, hsub, hBb, hbl, hel, hcell, hfro, hclose⟩ := hres.lens (by decide) (k := j) (by rw [mkP_length]; exact hlt)
      obtain ⟨rfl, _, rfl⟩ := hel.rd
      have hc0 := hcell 0 _ rfl
      rw [show (Rep.int .i64).size = 1 from rfl, Nat.mul_one, Nat.add_zero] at hc0
      have hf0 := hfro (off + j)
      have hwh : Whole wr b := (hres.fresh.2 b hbF).2
      have hwf : (Lit.int .i64 (k + j)).wf = true := wf64 (by omega) (by omega)
      have HC := Lib.hid hclose
      clear hclose hcell hfro hel h
      go_wp2
      have hc1 := HC.out (wr.setCell ⟨b, off + j, none⟩ (.int .i64 (k + j))) [.int .i64 (k + j)] (k + j) ⟨⟨rfl, hwf, rfl⟩, Fresh.nil _ _⟩
        (by rw [show (Rep.int .i64).size = 1 from rfl, Nat.mul_one]; exact cellsAt_cons (cell_in hc0 _) cellsAt_nil)
        (by intro o ho; rw [show (Rep.int .i64).size = 1 from rfl, Nat.mul_one] at ho; exact cell_out (by omega) _)
        (hwh.setCell _ _) (by intro g _ hg _; exact Below.heap_setCell _ _ _ _ hg)
      have e1 : k + j = mI (k + cntL cI (l.take j)) l[j] := by rw [cntI, List.length_take, Nat.min_eq_left (by omega)]; rfl
      have hc2 : Res (Rep.sl (Rep.int .i64)) B (wr.setCell ⟨b, off + j, none⟩ (.int .i64 (k + j))) [.slice (some ⟨b, off, none⟩) l.length cap] (mkP mI cI k (j + 1) l) F := by
        rw [← mkP_set k hlt, ← e1]; exact hc1
      exact ⟨⟨j + 1, by omega, by go_num, by go_num, hc2, ht.setCell hbF _⟩, by simp [intOf]; omega⟩
    · have e : j = l.length := by omega
      subst e
      have H : OutMark (k + cntL cI l) (Rep.sl (Rep.int .i64)) B w [.slice A l.length cap] (mkL mI cI k l) F (.returned (.int .i64 (k + l.length))) wr := by
        rw [mkP_all] at hres
        exact ⟨by rw [cntI], hres, ht⟩
      clear hres ht h
      go_wp2
      go_ret
      exact H
set_option maxHeartbeats 1000000 in
theorem lheldInt64S_calls (l : List Int) (A : Option Addr) (n cap : Nat) (F : List Nat) (w : World) (k : Int) (h : (Rep.sl (Rep.int .i64)).rd w [.slice A n cap] (mkL mI cI k l) F) (h0 : 0 ≤ k) (hk : k + cntL cI l ≤ 1000000000000) :
    Calls Tryd.prog 102 #[.slice A n cap, .int .i64 k] w (OutHeld (k + cntL cI l) w) := by
  obtain ⟨hn, hcl, hcm, xs, F1, hr, ha, _⟩ := Rep.sl_open h
  rw [mkL_length] at hn
  subst hn
  obtain ⟨rfl, rfl, _⟩ := ints_cells ha
  rw [mkL_length] at hcl
  rw [cntI] at hk ⊢
  unfold maxLen at hcm
  clear h ha
  go_enter Tryd.func102, Tryd.ntmps102
  go_wp2
  go_loop [1, 5] (fun c i => ∃ j : Nat, j ≤ l.length ∧ i = .int .i64 j ∧ c = .int .i64 (k + j)) (fun _ i => l.length - (intOf i).toNat)
  case atStart => exact ⟨0, Nat.zero_le _, rfl, by simp⟩
  case round =>
    obtain ⟨j, hj, rfl, rfl⟩ := hrel
    by_cases hlt : j < l.length
    · obtain ⟨b, off, rfl, hc⟩ := hr.at_ (k := j) (by simpa [mkL_length] using hlt)
      rw [List.getElem_map, mkL_get l k hlt, cntI, List.length_take, Nat.min_eq_left (by omega)] at hc
      simp only [mI] at hc
      clear hr
      go_wp2
      exact ⟨⟨j + 1, by omega, by go_num, by go_num⟩, by simp [intOf]; omega⟩
    · have e : j = l.length := by omega
      subst e
      go_wp2
      go_ret
      exact ⟨rfl, Below.refl _ _⟩
end Go.Proofs.YtlhanpkfnhnegaaDoor
