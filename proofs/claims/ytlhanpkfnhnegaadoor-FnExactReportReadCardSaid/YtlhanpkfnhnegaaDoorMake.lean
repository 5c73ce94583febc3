/- make, and the laws' own to.. and sz.. functions over rows of numbers. -/
import Derived.Test.YtlhanpkfnhnegaaDoorMark
import Derived.Laws.MakeOwn
set_option linter.unusedVariables false
set_option linter.unusedSimpArgs false
set_option maxRecDepth 100000
namespace Go.Proofs.YtlhanpkfnhnegaaDoor
open Go.ChangeShapes Go.WideShapes Go.RowKit

def made0 (z : Value) (n s : Nat) : Array Value := madeCells z.cells (n * s)

theorem flat_rep_get {α : Type} (c : List α) (hc : 0 < c.length) : ∀ (n i : Nat), i < n * c.length → (List.replicate n c).flatten[i]? = c[i % c.length]?
  | 0, i, h => by simp at h
  | n + 1, i, h => by
    rw [List.replicate_succ, List.flatten_cons]
    by_cases hi : i < c.length
    · rw [List.getElem?_append_left hi, Nat.mod_eq_of_lt hi]
    · rw [List.getElem?_append_right (by omega), flat_rep_get c hc n (i - c.length) (by rw [Nat.add_mul] at h; omega)]
      rw [Nat.mod_eq_sub_mod (a := i) (by omega)]

theorem made0_list (z : Value) (n s : Nat) (hs : z.cells.size = s) (h0 : 0 < s) : (made0 z n s).toList = (List.replicate n z.cells.toList).flatten := by
  have hl : z.cells.toList.length = s := by simpa using hs
  apply List.ext_getElem?
  intro i
  by_cases hi : i < n * s
  · rw [flat_rep_get _ (by omega) n i (by rw [hl]; exact hi), hl]
    unfold made0 madeCells
    have hm : i % s < z.cells.size := by rw [hs]; exact Nat.mod_lt _ h0
    simp only [Array.getElem?_toList, Array.getElem?_map, Array.getElem?_range, hi, if_true, Option.map_some, hs]
    rw [getElem!_pos z.cells (i % s) hm, Array.getElem?_eq_getElem hm]
  · rw [List.getElem?_eq_none (by unfold made0; simp [madeCells]; omega), List.getElem?_eq_none (by simp [List.length_flatten, hs]; omega)]

theorem Rep.all_rep {α : Type} {R : Rep α} {w : World} {c : List Value} {a : α} (h : R.rd w c a []) : ∀ n, R.all w (List.replicate n c).flatten (List.replicate n a) []
  | 0 => ⟨rfl, rfl⟩
  | n + 1 => ⟨c, (List.replicate n c).flatten, [], [], by rw [List.replicate_succ, List.flatten_cons], rfl, h, Rep.all_rep h n⟩

/-- What 'make' makes, read. -/
theorem made_res {α : Type} {R : Rep α} (w : World) (e : TypeId) (z : Value) (a0 : α) (n : Nat) (hs : z.cells.size = R.size) (h0 : 0 < R.size) (hz : ∀ W : World, R.rd W z.cells.toList a0 []) (hn : n ≤ 1000000000000) :
    ∃ F, Res R.sl w.heap.size (w.alloc (.cells (made0 z n R.size) e)) [.slice (some ⟨w.heap.size, 0, none⟩) n n] (List.replicate n a0) F ∧ ∀ g ∈ F, g = w.heap.size := by
  have hall := Rep.all_rep (hz (w.alloc (.cells (made0 z n R.size) e))) n
  have hrow := Row.new w (made0 z n R.size) e
  rw [made0_list z n R.size hs h0] at hrow
  refine ⟨headOf (some ⟨w.heap.size, 0, none⟩) _ ++ [], ⟨⟨some ⟨w.heap.size, 0, none⟩, n, (List.replicate n z.cells.toList).flatten, [], by simp, by simp, by unfold maxLen; omega, hrow, hall, rfl⟩, ?_, ?_⟩, ?_⟩
  · rw [List.append_nil]
    unfold headOf
    split <;> simp
  · intro g hg
    rw [List.append_nil] at hg
    unfold headOf at hg
    split at hg
    · cases hg
    · simp only [List.mem_singleton] at hg
      subst hg
      exact ⟨Nat.le_refl _, _, _, heap_alloc_new w _⟩
  · intro g hg
    rw [List.append_nil] at hg
    unfold headOf at hg
    split at hg
    · cases hg
    · simpa using hg

theorem run_make0 {P : Program} (t e : TypeId) {z : Value} {s bytes : Nat} (ht : P.underlying t = some (.slice e)) (hinfo : (P.info? e).map (fun i => (i.zero, i.size, i.bytes)) = some (some z, s, bytes))
    (n : Nat) (hb : bytes ≤ 10000) (hn : n ≤ 1000000000) (w : World) :
    (Instr.makeSlice t (.int .i64 (n : Int)) (.int .i64 (n : Int))).run P w = .ok (.slice (some ⟨w.heap.size, 0, none⟩) n n) (w.alloc (.cells (made0 z n s) e)) := by
  obtain ⟨i0, hi, hz0, hz1, hz2⟩ := info_parts hinfo
  have hbb : i0.bytes * n ≤ 10000 * 1000000000 := Nat.mul_le_mul (by omega) hn
  have h : ((i0.bytes : Int) * (n : Int)) = ((i0.bytes * n : Nat) : Int) := by rw [Int.natCast_mul]
  have hr := run_make (P := P) w t e i0 z ht hi hz0 .i64 .i64 n n (by omega) (Int.le_refl _) (by rw [h]; omega) (by omega)
  simp only [Int.toNat_natCast] at hr
  rw [hr, hz1]
  rfl

/-- A row of cells written one behind the other. -/
def setsAt (b o : Nat) : World → Nat → List Value → World
  | w, _, [] => w
  | w, i, u :: r => setsAt b o (w.setCell ⟨b, o + i, none⟩ u) (i + 1) r
theorem setsAt_out {b o : Nat} : ∀ (cs : List Value) (w : World) (i x : Nat), (x < o + i ∨ o + i + cs.length ≤ x) → (setsAt b o w i cs).cell? ⟨b, x, none⟩ = w.cell? ⟨b, x, none⟩
  | [], _, _, _, _ => rfl
  | u :: r, w, i, x, h => by
    simp only [List.length_cons] at h
    rw [setsAt, setsAt_out r _ (i + 1) x (by omega)]
    exact cell_out (by omega) _
theorem setsAt_in {b o : Nat} : ∀ (cs : List Value) (w : World) (i : Nat), (∀ j, j < cs.length → ∃ v, w.cell? ⟨b, o + i + j, none⟩ = some v) → ∀ (j : Nat) (u : Value), cs[j]? = some u → (setsAt b o w i cs).cell? ⟨b, o + i + j, none⟩ = some u
  | [], _, _, _, j, u, h => by simp at h
  | c :: r, w, i, hs, 0, u, h => by
    simp only [List.getElem?_cons_zero, Option.some.injEq] at h
    subst h
    obtain ⟨v, hv⟩ := hs 0 (by simp)
    rw [setsAt, setsAt_out r _ (i + 1) _ (by omega)]
    exact cell_in hv _
  | c :: r, w, i, hs, j + 1, u, h => by
    rw [setsAt]
    have := setsAt_in (b := b) (o := o) r (w.setCell ⟨b, o + i, none⟩ c) (i + 1) (fun j' hj' => by
      obtain ⟨v, hv⟩ := hs (j' + 1) (by simp; omega)
      refine ⟨v, (cell_out (by omega) _).trans ?_⟩
      rwa [show o + (i + 1) + j' = o + i + (j' + 1) by omega]) j u (by simpa using h)
    rwa [show o + i + (j + 1) = o + (i + 1) + j by omega]
theorem setsAt_block {b o : Nat} {g : Nat} (hg : g ≠ b) : ∀ (cs : List Value) (w : World) (i : Nat), (setsAt b o w i cs).heap[g]? = w.heap[g]?
  | [], _, _ => rfl
  | c :: r, w, i => by rw [setsAt, setsAt_block hg r]; exact Below.heap_setCell _ _ _ _ hg
theorem setsAt_whole {b o : Nat} : ∀ (cs : List Value) (w : World) (i : Nat), Whole w b → Whole (setsAt b o w i cs) b
  | [], _, _, h => h
  | c :: r, w, i, h => by rw [setsAt]; exact setsAt_whole r _ _ (h.setCell _ _)
theorem setsAt_below {b o B : Nat} (hB : B ≤ b) : ∀ (cs : List Value) (w : World) (i : Nat), Below B w (setsAt b o w i cs)
  | [], _, _ => Below.refl _ _
  | c :: r, w, i => by rw [setsAt]; exact ((Below.refl B w).setCell (p := ⟨b, o + i, none⟩) hB c).trans (setsAt_below hB r _ _)

/-- The first j elements copied, zeroes behind them. -/
def cpP {α : Type} (z : α) (j : Nat) (l : List α) : List α := l.take j ++ List.replicate (l.length - j) z
theorem cpP_length {α : Type} (z : α) {j : Nat} {l : List α} (hj : j ≤ l.length) : (cpP z j l).length = l.length := by simp [cpP]; omega
theorem cpP_all {α : Type} (z : α) (l : List α) : cpP z l.length l = l := by simp [cpP]
theorem cpP_zero {α : Type} (z : α) (l : List α) : cpP z 0 l = List.replicate l.length z := by simp [cpP]
theorem cpP_get {α : Type} (z : α) {j : Nat} {l : List α} (hj : j < l.length) : (cpP z j l)[j]'(by rw [cpP_length z (by omega)]; exact hj) = z := by
  simp only [cpP]
  rw [List.getElem_append_right (by simp; omega)]
  simp
theorem cpP_set {α : Type} (z : α) {j : Nat} {l : List α} (hj : j < l.length) : (cpP z j l).set j l[j] = cpP z (j + 1) l := by
  unfold cpP
  have hl : (l.take j).length = j := by simp; omega
  rw [List.set_append_right _ _ (by omega), hl, Nat.sub_self, take_succ_get hj, List.append_assoc]
  congr 1
  rw [show l.length - j = (l.length - (j + 1)) + 1 by omega, List.replicate_succ]
  rfl

set_option maxHeartbeats 1000000 in
theorem ltoInt64S_calls (l : List Int) (A : Option Addr) (n cap : Nat) (F : List Nat) (w : World) (h : (Rep.sl (Rep.int .i64)).rd w [.slice A n cap] l F) (hl : l.length ≤ 100000000) :
    Calls Tryd.prog 85 #[.slice A n cap] w (OutSl (Rep.int .i64) l w) := by
  obtain ⟨rfl, hcl, hcm, xs, F1, hr, ha, _⟩ := Rep.sl_open h
  obtain ⟨rfl, rfl, hwf⟩ := ints_cells ha
  clear h ha
  have hmk := fun W => run_make0 (P := Tryd.prog) 42 2 Tryd.underlying42 infoI64 l.length (by decide) (by omega) W
  obtain ⟨F0, hm, hF0⟩ := made_res (R := Rep.int .i64) w 2 (.int .i64 0) 0 l.length rfl (by decide) (fun W => ⟨rfl, by decide, rfl⟩) (by omega)
  have HM := Lib.hid hm
  clear hm
  go_enter Tryd.func85, Tryd.ntmps85
  go_wp2
  go_loopw [4] (fun i wr => ∃ (j : Nat) (F : List Nat), j ≤ l.length ∧ i = .int .i64 j ∧ Res (Rep.sl (Rep.int .i64)) w.heap.size wr [.slice (some ⟨w.heap.size, 0, none⟩) l.length l.length] (cpP 0 j l) F ∧ Below w.heap.size w wr) (fun i _ => l.length - (intOf i).toNat)
  case atStart => exact ⟨0, F0, Nat.zero_le _, rfl, by rw [cpP_zero]; exact HM.out, (by repeat (first | with_reducible exact Below.refl _ _ | with_reducible assumption | (with_reducible refine Below.drew ?_) | (with_reducible refine Below.alloc ?_ (by first | with_reducible exact Nat.le_refl _ | omega | (simp; done) | (simp; omega) | (simp [World.setCell]; omega) | (simp [World.setCell]; done)) _) | (with_reducible refine Below.setCell ?_ (by first | with_reducible exact Nat.le_refl _ | omega | (simp; done) | (simp; omega) | (simp [World.setCell]; omega) | (simp [World.setCell]; done)) _)))⟩
  case round =>
    obtain ⟨j, G, hj, rfl, hres, hb⟩ := hrel
    by_cases hlt : j < l.length
    · obtain ⟨b0, off0, rfl, hc⟩ := (hr.below hb).at_ (k := j) (by simpa using hlt)
      simp only [List.getElem_map] at hc
      obtain ⟨b, off, c, Fk, hbo, hbF, hbk, hsub, hBb, hbl, hel, hcell, hfro, hclose⟩ := hres.lens (by decide) (k := j) (by rw [cpP_length _ (by omega)]; exact hlt)
      injection hbo with hbo
      injection hbo with hbo1 hbo2 _
      subst hbo1 hbo2
      obtain ⟨rfl, _, rfl⟩ := hel.rd
      have hc0 := hcell 0 _ rfl
      rw [show (Rep.int .i64).size = 1 from rfl, Nat.mul_one, Nat.add_zero, Nat.zero_add] at hc0
      have hf0 := hfro j
      have hwh : Whole wr w.heap.size := (hres.fresh.2 _ hbF).2
      have HC := Lib.hid hclose
      have hwj := hwf l[j] (List.getElem_mem hlt)
      clear hclose hcell hfro hel hr hwf HM hres
      go_wp2
      have hc1 := HC.out (wr.setCell ⟨w.heap.size, j, none⟩ (.int .i64 l[j])) [.int .i64 l[j]] l[j] ⟨⟨rfl, hwj, rfl⟩, Fresh.nil _ _⟩
        (by rw [show (Rep.int .i64).size = 1 from rfl, Nat.mul_one, Nat.zero_add]; exact cellsAt_cons (cell_in hc0 _) cellsAt_nil)
        (by intro o ho; rw [show (Rep.int .i64).size = 1 from rfl, Nat.mul_one] at ho; exact cell_out (by omega) _)
        (hwh.setCell _ _) (by intro g _ hg _; exact Below.heap_setCell _ _ _ _ hg)
      rw [cpP_set 0 hlt] at hc1
      exact ⟨⟨j + 1, G, by omega, by go_num, hc1, hb.setCell (Nat.le_refl _) _⟩, by simp [intOf]; omega⟩
    · have e : j = l.length := by omega
      subst e
      have H : OutSl (Rep.int .i64) l w (.returned (.slice (some ⟨w.heap.size, 0, none⟩) l.length l.length)) wr := by
        rw [cpP_all] at hres
        exact ⟨_, _, G, rfl, hres.rd, hres.fresh, hb⟩
      clear hres hb hr HM
      go_wp2
      go_ret
      exact H
/-- What a 'sz' hands back: below zero, or what is left behind at least n. -/
def OutSz (n : Int) (left : Int) (w : World) (e : Ending) (w' : World) : Prop := ∃ r : Int, e = .returned (.int .i64 r) ∧ (0 ≤ r → r + n ≤ left) ∧ -9223372036854775808 ≤ r ∧ r ≤ left ∧ Below w.heap.size w w'
theorem lszInt64S_calls (A : Option Addr) (n cap : Nat) (w : World) (left : Int) (hn : n ≤ 9223372036854775807) (h0 : 0 ≤ left) (hk : left ≤ 1000000000000) :
    Calls Tryd.prog 80 #[.slice A n cap, .int .i64 left] w (OutSz n left w) := by
  by_cases h : left - n < 0
  · go_enter Tryd.func80, Tryd.ntmps80
    go_wp2
    go_ret
    exact ⟨-1, rfl, by omega, by omega, by omega, Below.refl _ _⟩
  · go_enter Tryd.func80, Tryd.ntmps80
    go_wp2
    go_ret
    exact ⟨left - n, rfl, by omega, by omega, by omega, Below.refl _ _⟩
end Go.Proofs.YtlhanpkfnhnegaaDoor
