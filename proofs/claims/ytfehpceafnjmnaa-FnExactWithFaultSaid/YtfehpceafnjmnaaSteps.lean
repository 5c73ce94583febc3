/- Copies of lists of steps. -/
import Derived.Test.YtfehpceafnjmnaaStep
import Derived.Test.YtfehpceafnjmnaaGrowD
import Derived.Outline
set_option linter.unusedVariables false
set_option linter.unusedSimpArgs false
set_option maxRecDepth 100000
namespace Go.Proofs.Ytfehpceafnjmnaa
open Go.ChangeShapes Go.WideShapes Go.RowKit

set_option maxHeartbeats 1000000 in
theorem icopySteps_calls (l : List DStep) (A : Option Addr) (n cap : Nat) (F : List Nat) (w : World) (h : (Rep.sl Rep.DStep).rd w [.slice A n cap] l F) (hl : l.length ≤ 100000000)
    (hf : ∀ s ∈ l, s.fates.length ≤ 100000000) :
    Calls Try.prog 39 #[.slice A n cap] w (OutGrow Rep.DStep 44 l w) := by
  obtain ⟨rfl, _, _, xs, F1, hr, ha, _⟩ := Rep.sl_open h
  clear h
  go_enter Try.func39, Try.ntmps39
  go_wp2
  go_loopw [3, 5, 9] (fun out _ i wr => ∃ k A' c', k ≤ l.length ∧ i = .int .i64 (k : Nat) ∧ out = .slice A' k c' ∧ Grow Rep.DStep 44 w.heap.size wr (.slice A' k c') k (l.take k) ∧ Below w.heap.size w wr) (fun _ _ i _ => l.length - (intOf i).toNat)
  case atStart => exact ⟨0, _, _, Nat.zero_le _, rfl, rfl, Grow.empty _ _ _ (Nat.le_refl _), (by repeat (first | with_reducible exact Below.refl _ _ | with_reducible assumption | (with_reducible refine Below.drew ?_) | (with_reducible refine Below.alloc ?_ (by first | with_reducible exact Nat.le_refl _ | omega | (simp; done) | (simp; omega) | (simp [World.setCell]; omega) | (simp [World.setCell]; done)) _) | (with_reducible refine Below.setCell ?_ (by first | with_reducible exact Nat.le_refl _ | omega | (simp; done) | (simp; omega) | (simp [World.setCell]; omega) | (simp [World.setCell]; done)) _)))⟩
  case round =>
    obtain ⟨k, B', c', hk, rfl, rfl, hg, hb⟩ := hrel
    by_cases hlt : k < l.length
    · have hraux := hr.below hb
      have haux := Rep.all_keep (w' := wr) ha fun b hm => hb.block b (Rep.all_lt ha b hm)
      obtain ⟨b, off, A0, cap0, F0, rfl, c0, c1, c2, c3, c4, w0, w1, w2, w3, h0, hF⟩ := DStep_at hraux haux hlt
      have hsf := hf l[k] (List.getElem_mem hlt)
      have hst : Rep.DStep.rd wr _ l[k] F0 := DStep_make w0 w1 w2 w3 h0
      clear haux hraux hr ha hf
      go_wp2_with fail
      refine (icopyStep_calls l[k] _ F0 _ (Rep.below_all hst (by repeat (first | with_reducible exact Below.refl _ _ | with_reducible assumption | (with_reducible refine Below.drew ?_) | (with_reducible refine Below.alloc ?_ (by first | with_reducible exact Nat.le_refl _ | omega | (simp; done) | (simp; omega) | (simp [World.setCell]; omega) | (simp [World.setCell]; done)) _) | (with_reducible refine Below.setCell ?_ (by first | with_reducible exact Nat.le_refl _ | omega | (simp; done) | (simp; omega) | (simp [World.setCell]; omega) | (simp [World.setCell]; done)) _)))) (by omega)).mono ?_
      rintro e W1 ⟨cs1, F1, rfl, hrd1, hfr1, hb1⟩
      obtain ⟨A1, cap1, F2, rfl, rfl, u0, u1, u2, u3, k0⟩ := DStep_open hrd1
      have hbw : Below wr.heap.size wr W1 := Below.trans (b := wr.alloc _) (by repeat (first | with_reducible exact Below.refl _ _ | with_reducible assumption | (with_reducible refine Below.drew ?_) | (with_reducible refine Below.alloc ?_ (by first | with_reducible exact Nat.le_refl _ | omega | (simp; done) | (simp; omega) | (simp [World.setCell]; omega) | (simp [World.setCell]; done)) _) | (with_reducible refine Below.setCell ?_ (by first | with_reducible exact Nat.le_refl _ | omega | (simp; done) | (simp; omega) | (simp [World.setCell]; omega) | (simp [World.setCell]; done)) _))) (hb1.mono (by simp))
      have hfr2 : Fresh wr.heap.size W1 F1 := hfr1.mono (by simp)
      have hbW : Below w.heap.size w W1 := hb.trans (hbw.mono hb.size)
      have hz := hb.size
      have hz1 := hbw.size
      clear hb1 hfr1 hst h0 hF c0 c1 c2 c3 c4
      go_wp2_with (at_builtin; go_must (refine wpList_grow (R := Rep.DStep) rfl _ _ 26 rfl wr 44 w.heap.size Try.underlying26 infoStep rfl (by decide) _ k (l.take k) rfl hg (by repeat (first | with_reducible exact Below.refl _ _ | with_reducible assumption | (with_reducible refine Below.drew ?_) | (with_reducible refine Below.alloc ?_ (by first | with_reducible exact Nat.le_refl _ | omega | (simp; done) | (simp; omega) | (simp [World.setCell]; omega) | (simp [World.setCell]; done)) _) | (with_reducible refine Below.setCell ?_ (by first | with_reducible exact Nat.le_refl _ | omega | (simp; done) | (simp; omega) | (simp [World.setCell]; omega) | (simp [World.setCell]; done)) _))) _ 1 _ _ [l[k]] F1 rfl rfl (row_one _ _) (Rep.all_one_elem (Rep.alloc (R := Rep.DStep) hrd1 _)) (hfr2.below (by repeat (first | with_reducible exact Below.refl _ _ | with_reducible assumption | (with_reducible refine Below.drew ?_) | (with_reducible refine Below.alloc ?_ (by first | with_reducible exact Nat.le_refl _ | omega | (simp; done) | (simp; omega) | (simp [World.setCell]; omega) | (simp [World.setCell]; done)) _) | (with_reducible refine Below.setCell ?_ (by first | with_reducible exact Nat.le_refl _ | omega | (simp; done) | (simp; omega) | (simp [World.setCell]; omega) | (simp [World.setCell]; done)) _)))) hb.size (by omega) (by decide) ?_); intro A2 c2 w2 hg2 hb2 hgr2)
      have hb3 := Below.trans (a := w) (by repeat (first | with_reducible exact Below.refl _ _ | with_reducible assumption | (with_reducible refine Below.drew ?_) | (with_reducible refine Below.alloc ?_ (by first | with_reducible exact Nat.le_refl _ | omega | (simp; done) | (simp; omega) | (simp [World.setCell]; omega) | (simp [World.setCell]; done)) _) | (with_reducible refine Below.setCell ?_ (by first | with_reducible exact Nat.le_refl _ | omega | (simp; done) | (simp; omega) | (simp [World.setCell]; omega) | (simp [World.setCell]; done)) _))) hb2
      clear hb2 hgr2
      have hg3 : Grow Rep.DStep 44 w.heap.size w2 (.slice A2 (k + 1) c2) (k + 1) (l.take (k + 1)) := by rw [take_succ_get hlt]; exact hg2
      clear hg2 hg
      exact ⟨⟨k + 1, A2, c2, by omega, by go_num, rfl, hg3, hb3⟩, by simp [intOf]; omega⟩
    · have e : k = l.length := by omega
      subst e
      rw [List.take_length] at hg
      have H : OutGrow Rep.DStep 44 l w (.returned (.slice B' l.length c')) wr := ⟨_, _, rfl, hg, hb⟩
      clear hg hb hr ha hf
      go_wp2
      go_ret
      exact H
end Go.Proofs.Ytfehpceafnjmnaa
