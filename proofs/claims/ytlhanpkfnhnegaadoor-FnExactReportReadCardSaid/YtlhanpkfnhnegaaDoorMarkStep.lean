/- mark.. and held.. over lists of steps. -/
import Derived.Test.YtlhanpkfnhnegaaDoorMark
set_option linter.unusedVariables false
set_option linter.unusedSimpArgs false
set_option maxRecDepth 100000
namespace Go.Proofs.YtlhanpkfnhnegaaDoor
open Go.ChangeShapes Go.WideShapes Go.RowKit
def mkStep (k : Int) (s : DStep) : DStep := ⟨k, k + 1, k + 1 + 1, k + 1 + 1 + 1, mkL mI cI (k + 1 + 1 + 1 + 1) s.fates⟩
def cntStep (s : DStep) : Int := 4 + cntL cI s.fates
theorem cntStep_nonneg (s : DStep) : 0 ≤ cntStep s := by unfold cntStep; rw [cntI]; omega

theorem Res.setCell_ne {α : Type} {R : Rep α} {B : Nat} {w : World} {cs : List Value} {a : α} {F : List Nat} (h : Res R B w cs a F) {p : Addr} (hp : p.block ∉ F) (u : Value) : Res R B (w.setCell p u) cs a F :=
  h.keep fun b hm => Below.heap_setCell w p u b (fun e => hp (e ▸ hm))

set_option maxHeartbeats 1000000 in
theorem lmarkStepS_calls (l : List DStep) (A : Option Addr) (n cap : Nat) (F : List Nat) (B : Nat) (w : World) (k : Int) (h : Res (Rep.sl Rep.DStep) B w [.slice A n cap] l F) (h0 : 0 ≤ k) (hk : k + cntL cntStep l ≤ 1000000000000) :
    Calls Tryd.prog 61 #[.slice A n cap, .int .i64 k] w (OutMark (k + cntL cntStep l) (Rep.sl Rep.DStep) B w [.slice A n cap] (mkL mkStep cntStep k l) F) := by
  obtain ⟨rfl, hcl, hcm, _⟩ := Rep.sl_open h.rd
  unfold maxLen at hcm
  have hcn := cntL_take_le cntStep_nonneg l
  go_enter Tryd.func61, Tryd.ntmps61
  go_wp2
  go_loopw [1, 5] (fun c i wr => ∃ (j : Nat) (q : Int), j ≤ l.length ∧ i = .int .i64 j ∧ c = .int .i64 q ∧ Hid (q = k + cntL cntStep (l.take j)) ∧ Res (Rep.sl Rep.DStep) B wr [.slice A l.length cap] (mkP mkStep cntStep k j l) F ∧ Turned F w wr) (fun _ i _ => l.length - (intOf i).toNat)
  case atStart => exact ⟨0, k, Nat.zero_le _, rfl, rfl, by simp [Hid, cntL], by rw [mkP_zero]; exact h, Turned.refl _ _⟩
  case round =>
    obtain ⟨j, q, hj, rfl, rfl, hq, hres, ht⟩ := hrel
    by_cases hlt : j < l.length
    · have hc1 := hcn (j + 1)
      rw [cntL_take hlt] at hc1
      have hc0 : 0 ≤ cntL cntStep (l.take j) := cntL_nonneg cntStep_nonneg _
      have hq1 : 0 ≤ q := by have := hq.out; omega
      have hq2 : q + cntStep l[j] ≤ 1000000000000 := by have := hq.out; omega
      have hqc : q + 4 + cntL cI l[j].fates ≤ 1000000000000 := by unfold cntStep at hq2; omega
      have hq3 : q ≤ 1000000000000 := by have := cntStep_nonneg l[j]; omega
      clear hc1 hc0 hcn
      obtain ⟨b, off, c, Fk, rfl, hbF, hbk, hsub, hBb, hbl, hel, hcell, hfro, hclose⟩ := hres.lens (by decide) (k := j) (by rw [mkP_length]; exact hlt)
      rw [mkP_get k hlt] at hel
      obtain ⟨A0, cap0, F0, rfl, rfl, w0, w1, w2, w3, k0⟩ := DStep_open hel.rd
      have hsl : Res (Rep.sl (Rep.int .i64)) B wr [.slice A0 l[j].fates.length cap0] l[j].fates Fk := ⟨k0, hel.fresh⟩
      rw [show Rep.DStep.size = 5 from rfl] at hcell hclose
      have c0 := hcell 0 _ rfl
      have c1 := hcell 1 _ rfl
      have c2 := hcell 2 _ rfl
      have c3 := hcell 3 _ rfl
      have c4 := hcell 4 _ rfl
      rw [Nat.add_zero] at c0
      have f0 := hfro (off + j * 5)
      have f1 := hfro (off + j * 5 + 1)
      have f2 := hfro (off + j * 5 + 2)
      have f3 := hfro (off + j * 5 + 3)
      have hwh : Whole wr b := (hres.fresh.2 b hbF).2
      have HC := Lib.hid hclose
      have hFlt := hres.fresh.lt
      clear hclose hcell hfro hel h k0 hres
      go_wp2_with fail
      refine (lmarkInt64S_calls l[j].fates A0 _ cap0 Fk B _ (q + 1 + 1 + 1 + 1) (Res.setCell_ne (Res.setCell_ne (Res.setCell_ne (Res.setCell_ne hsl hbk _) hbk _) hbk _) hbk _) (by omega) (by omega)).mono ?_
      rintro e W1 ⟨rfl, hr1, ht1⟩
      have hbl1 := ht1.block b (by simp [World.setCell]; exact hbl) hbk
      have hcw : ∀ o, W1.cell? ⟨b, o, none⟩ = _ := fun o => World.cell?_of_block (a := ⟨b, o, none⟩) hbl1
      have d0 := (hcw (off + j * 5)).trans ((cell_out (by omega) _).trans ((cell_out (by omega) _).trans ((cell_out (by omega) _).trans (cell_in c0 _))))
      have d1 := (hcw (off + j * 5 + 1)).trans ((cell_out (by omega) _).trans ((cell_out (by omega) _).trans (cell_in ((cell_out (by omega) _).trans c1) _)))
      have d2 := (hcw (off + j * 5 + 2)).trans ((cell_out (by omega) _).trans (cell_in ((cell_out (by omega) _).trans ((cell_out (by omega) _).trans c2)) _))
      have d3 := (hcw (off + j * 5 + 3)).trans (cell_in ((cell_out (by omega) _).trans ((cell_out (by omega) _).trans ((cell_out (by omega) _).trans c3))) _)
      have d4 := (hcw (off + j * 5 + 4)).trans ((cell_out (by omega) _).trans ((cell_out (by omega) _).trans ((cell_out (by omega) _).trans ((cell_out (by omega) _).trans c4))))
      have hout : ∀ o, (o < off + j * 5 ∨ off + j * 5 + 5 ≤ o) → W1.cell? ⟨b, o, none⟩ = wr.cell? ⟨b, o, none⟩ := fun o ho =>
        (hcw o).trans ((cell_out (by omega) _).trans ((cell_out (by omega) _).trans ((cell_out (by omega) _).trans (cell_out (by omega) _))))
      have hwh1 : Whole W1 b := Whole.of ((((hwh.setCell _ _).setCell _ _).setCell _ _).setCell _ _) hbl1
      have hrest : ∀ g ∈ F, g ≠ b → g ∉ Fk → W1.heap[g]? = wr.heap[g]? := fun g hg hgb hgk =>
        (ht1.block g (by simp [World.setCell]; exact hFlt g hg) hgk).trans ((Below.heap_setCell _ _ _ _ hgb).trans ((Below.heap_setCell _ _ _ _ hgb).trans ((Below.heap_setCell _ _ _ _ hgb).trans (Below.heap_setCell _ _ _ _ hgb))))
      have htt : Turned F w W1 := ((((ht.setCell (p := ⟨b, _, none⟩) hbF _).setCell (p := ⟨b, _, none⟩) hbF _).setCell (p := ⟨b, _, none⟩) hbF _).setCell (p := ⟨b, _, none⟩) hbF _).trans (ht1.mono hsub)
      have el : (mkStep q l[j]).fates.length = l[j].fates.length := mkL_length _ _
      have hnew : Res Rep.DStep B W1 [.int .i64 q, .int .i64 (q + 1), .int .i64 (q + 1 + 1), .int .i64 (q + 1 + 1 + 1), .slice A0 l[j].fates.length cap0] (mkStep q l[j]) Fk := by
        have := DStep_make (w := W1) (x := mkStep q l[j]) (A0 := A0) (cap0 := cap0) (F0 := Fk) (wf64 (by show _ ≤ q; omega) (by show q ≤ _; omega)) (wf64 (by show _ ≤ q + 1; omega) (by show q + 1 ≤ _; omega)) (wf64 (by show _ ≤ q + 1 + 1; omega) (by show q + 1 + 1 ≤ _; omega)) (wf64 (by show _ ≤ q + 1 + 1 + 1; omega) (by show q + 1 + 1 + 1 ≤ _; omega)) (by rw [el]; exact hr1.rd)
        rw [el] at this
        exact ⟨this, hr1.fresh⟩
      have hfin := HC.out W1 _ _ hnew (cellsAt_cons d0 (cellsAt_cons d1 (cellsAt_cons d2 (cellsAt_cons d3 (cellsAt_cons d4 cellsAt_nil))))) hout hwh1 hrest
      have e1 := hq.out
      rw [e1, mkP_set k hlt] at hfin
      have hq' : Hid (q + 1 + 1 + 1 + 1 + cntL cI l[j].fates = k + cntL cntStep (l.take (j + 1))) := by
        unfold Hid
        rw [cntL_take hlt, e1]
        unfold cntStep
        omega
      clear HC hq e1 hnew hwh1 hrest hout d0 d1 d2 d3 d4 hcw hbl1 hr1 ht1 ht hwh hsl c0 c1 c2 c3 c4 f0 f1 f2 f3 hFlt hsub
      go_wp2_with fail
      exact ⟨⟨j + 1, _, by omega, by go_num, rfl, hq', hfin, htt⟩, by simp [intOf]; omega⟩
    · have e : j = l.length := by omega
      subst e
      have H : OutMark (k + cntL cntStep l) (Rep.sl Rep.DStep) B w [.slice A l.length cap] (mkL mkStep cntStep k l) F (.returned (.int .i64 q)) wr := by
        rw [mkP_all] at hres
        have e1 := hq.out
        rw [List.take_length] at e1
        exact ⟨by rw [e1], hres, ht⟩
      clear hres ht h hcn
      go_wp2
      go_ret
      exact H
end Go.Proofs.YtlhanpkfnhnegaaDoor
