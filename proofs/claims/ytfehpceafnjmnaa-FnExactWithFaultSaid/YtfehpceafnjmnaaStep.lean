/- Copies of steps. -/
import Derived.Test.YtfehpceafnjmnaaCopy
set_option linter.unusedVariables false
set_option linter.unusedSimpArgs false
set_option maxRecDepth 100000
namespace Go.Proofs.Ytfehpceafnjmnaa
open Go.ChangeShapes Go.WideShapes Go.RowKit

theorem infoStep : (Try.prog.info? 44).map (fun i => (i.zero, i.size, i.bytes)) = some (some (.agg #[.int .i64 0, .int .i64 0, .int .i64 0, .int .i64 0, .slice none 0 0]), 5, 56) := by kernel_rfl
set_option maxHeartbeats 400000 in
theorem icopyStep_calls (s : DStep) (cs : List Value) (F : List Nat) (w : World) (h : Rep.DStep.rd w cs s F) (hl : s.fates.length ≤ 1000000000000) :
    Calls Try.prog 58 #[.agg cs.toArray] w (OutAgg Rep.DStep s w) := by
  obtain ⟨A0, cap0, F0, rfl, rfl, w0, w1, w2, w3, h0⟩ := DStep_open h
  clear h
  go_enter Try.func58, Try.ntmps58
  go_wp2_with fail
  refine (icopyRow_calls s.fates _ F _ (Rep.below_all h0 (by repeat (first | with_reducible exact Below.refl _ _ | with_reducible assumption | (with_reducible refine Below.drew ?_) | (with_reducible refine Below.alloc ?_ (by first | with_reducible exact Nat.le_refl _ | omega | (simp; done) | (simp; omega) | (simp [World.setCell]; omega) | (simp [World.setCell]; done)) _) | (with_reducible refine Below.setCell ?_ (by first | with_reducible exact Nat.le_refl _ | omega | (simp; done) | (simp; omega) | (simp [World.setCell]; omega) | (simp [World.setCell]; done)) _)))) hl).mono ?_
  rintro e W1 ⟨A, cap, F1, rfl, hrd, hfr, hb1⟩
  obtain ⟨hc, hf⟩ := bcell hb1
  have hz : w.heap.size + 1 + 1 + 1 ≤ W1.heap.size := by simpa using hb1.size
  go_wp2_with fail
  have hres : Res (Rep.sl (Rep.int .i64)) (w.heap.size + 1 + 1 + 1) W1 _ s.fates F1 := ⟨hrd, by simpa using hfr⟩
  clear hrd hfr
  refine bodyPost_agg (R := Rep.DStep) (cs := [.int .i64 s.kind, .int .i64 s.a, .int .i64 s.b, .int .i64 s.c, .slice A s.fates.length cap]) (F := F1) ?_ rfl ?_ ?_
  · simp [results, Try.results58, go_sem, hc, hz]
  · refine DStep_res w0 w1 w2 w3 (Res.mono (B := w.heap.size + 1 + 1 + 1) (by repeat (first | with_reducible assumption | (with_reducible refine Res.setCell_lo ?_ (by first | with_reducible exact Nat.le_refl _ | omega | (simp; done) | (simp; omega) | (simp [World.setCell]; omega) | (simp [World.setCell]; done)) _) | (with_reducible refine Res.alloc ?_ _) | (with_reducible refine Res.drew ?_))) (by omega))
  · have hb2 := Below.trans (a := w) (B := w.heap.size) (by repeat (first | with_reducible exact Below.refl _ _ | with_reducible assumption | (with_reducible refine Below.drew ?_) | (with_reducible refine Below.alloc ?_ (by first | with_reducible exact Nat.le_refl _ | omega | (simp; done) | (simp; omega) | (simp [World.setCell]; omega) | (simp [World.setCell]; done)) _) | (with_reducible refine Below.setCell ?_ (by first | with_reducible exact Nat.le_refl _ | omega | (simp; done) | (simp; omega) | (simp [World.setCell]; omega) | (simp [World.setCell]; done)) _))) (hb1.mono (by simp; omega))
    exact (by repeat (first | with_reducible exact Below.refl _ _ | with_reducible assumption | (with_reducible refine Below.drew ?_) | (with_reducible refine Below.alloc ?_ (by first | with_reducible exact Nat.le_refl _ | omega | (simp; done) | (simp; omega) | (simp [World.setCell]; omega) | (simp [World.setCell]; done)) _) | (with_reducible refine Below.setCell ?_ (by first | with_reducible exact Nat.le_refl _ | omega | (simp; done) | (simp; omega) | (simp [World.setCell]; omega) | (simp [World.setCell]; done)) _)))
end Go.Proofs.Ytfehpceafnjmnaa
