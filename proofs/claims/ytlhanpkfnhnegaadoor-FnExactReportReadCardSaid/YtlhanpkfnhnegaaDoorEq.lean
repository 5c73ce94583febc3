/- The laws' own eq.. functions at two values that read alike: true. -/
import Derived.Test.YtlhanpkfnhnegaaDoorCopy
import Derived.StillTailTactics
import Derived.Deep.QuietTactic
import Derived.BigQuiet
import Derived.Outline
import Derived.Deep.Draws
set_option linter.unusedVariables false
set_option linter.unusedSimpArgs false
set_option maxRecDepth 100000
namespace Go.Proofs.YtlhanpkfnhnegaaDoor
open Go.ChangeShapes Go.WideShapes Go.RowKit

/-- What an 'eq' hands back, and that old memory is as it was. -/
def OutBool (b : Bool) (w : World) (e : Ending) (w' : World) : Prop := e = .returned (.bool b) ∧ Below w.heap.size w w'
theorem below_drewN {B : Nat} {a w : World} (h : Below B a w) (n : Nat) : Below B a (w.drewN n) := ⟨h.os, h.tape, h.output, h.size, h.block⟩
/-- Only draws. -/
def Quiet (w w' : World) : Prop := ∃ n, w' = w.drewN n
theorem Quiet.refl (w : World) : Quiet w w := ⟨0, rfl⟩
theorem Quiet.drewN {w w' : World} (h : Quiet w w') (n : Nat) : Quiet w (w'.drewN n) := by
  obtain ⟨m, rfl⟩ := h
  exact ⟨m + n, World.drewN_drewN _ _ _⟩
theorem Quiet.below {w w' : World} (h : Quiet w w') (B : Nat) : Below B w w' := by
  obtain ⟨m, rfl⟩ := h
  exact below_drewN (Below.refl _ _) m

set_option maxHeartbeats 400000 in
theorem leqInt64S_same (l : List Int) (A A' : Option Addr) (cap cap' : Nat) (F F' : List Nat) (w : World) (h : (Rep.sl (Rep.int .i64)).rd w [.slice A l.length cap] l F) (h' : (Rep.sl (Rep.int .i64)).rd w [.slice A' l.length cap'] l F') :
    Calls Tryd.prog 89 #[.slice A l.length cap, .slice A' l.length cap'] w (OutBool true w) := by
  obtain ⟨_, hcl, hcm, xs, F1, hr, ha, _⟩ := Rep.sl_open h
  obtain ⟨_, _, _, xs', F1', hr', ha', _⟩ := Rep.sl_open h'
  obtain ⟨rfl, rfl, _⟩ := ints_cells ha
  obtain ⟨rfl, rfl, _⟩ := ints_cells ha'
  clear h h' ha ha'
  unfold maxLen at hcm
  go_enter Tryd.func89, Tryd.ntmps89
  go_wp2
  go_loopw [5] (fun i wr => ∃ k : Nat, k ≤ l.length ∧ i = .int .i64 k ∧ Quiet w wr) (fun i _ => l.length - (intOf i).toNat)
  case atStart => exact ⟨0, Nat.zero_le _, rfl, Quiet.refl _⟩
  case round =>
    obtain ⟨k, hk, rfl, hq⟩ := hrel
    by_cases hlt : k < l.length
    · have hx := hr.below (hq.below _)
      have hx' := hr'.below (hq.below _)
      obtain ⟨b, off, rfl, hc⟩ := hx.at_ (k := k) (by simpa using hlt)
      obtain ⟨b', off', rfl, hc'⟩ := hx'.at_ (k := k) (by simpa using hlt)
      simp only [List.getElem_map] at hc hc'
      clear hx hx' hr hr'
      go_wp2
      go_quiet (fail)
      go_wp2
      exact ⟨⟨k + 1, by omega, by go_num, hq.drewN _⟩, by simp [intOf]; omega⟩
    · go_wp2
      go_ret
      exact ⟨rfl, hq.below _⟩

set_option maxHeartbeats 1000000 in
theorem leqStep_same (s : DStep) (cs cs' : List Value) (F F' : List Nat) (w : World) (h : Rep.DStep.rd w cs s F) (h' : Rep.DStep.rd w cs' s F') :
    Calls Tryd.prog 28 #[.agg cs.toArray, .agg cs'.toArray] w (OutBool true w) := by
  obtain ⟨A0, cap0, F0, rfl, rfl, w0, w1, w2, w3, h0⟩ := DStep_open h
  obtain ⟨A0', cap0', F0', rfl, rfl, _, _, _, _, h0'⟩ := DStep_open h'
  clear h h'
  go_enter Tryd.func28, Tryd.ntmps28
  go_wp2_with fail
  refine (leqInt64S_same s.fates _ _ _ _ F F' _ (Rep.below_all h0 (by repeat (first | with_reducible exact Below.refl _ _ | with_reducible assumption | (with_reducible refine Below.drew ?_) | (with_reducible refine Below.alloc ?_ (by first | with_reducible exact Nat.le_refl _ | omega | (simp; done) | (simp; omega) | (simp [World.setCell]; omega) | (simp [World.setCell]; done)) _) | (with_reducible refine Below.setCell ?_ (by first | with_reducible exact Nat.le_refl _ | omega | (simp; done) | (simp; omega) | (simp [World.setCell]; omega) | (simp [World.setCell]; done)) _)))) (Rep.below_all h0' (by repeat (first | with_reducible exact Below.refl _ _ | with_reducible assumption | (with_reducible refine Below.drew ?_) | (with_reducible refine Below.alloc ?_ (by first | with_reducible exact Nat.le_refl _ | omega | (simp; done) | (simp; omega) | (simp [World.setCell]; omega) | (simp [World.setCell]; done)) _) | (with_reducible refine Below.setCell ?_ (by first | with_reducible exact Nat.le_refl _ | omega | (simp; done) | (simp; omega) | (simp [World.setCell]; omega) | (simp [World.setCell]; done)) _))))).mono ?_
  rintro e W1 ⟨rfl, hb1⟩
  go_wp2_with fail
  go_ret
  exact ⟨rfl, Below.trans (by repeat (first | with_reducible exact Below.refl _ _ | with_reducible assumption | (with_reducible refine Below.drew ?_) | (with_reducible refine Below.alloc ?_ (by first | with_reducible exact Nat.le_refl _ | omega | (simp; done) | (simp; omega) | (simp [World.setCell]; omega) | (simp [World.setCell]; done)) _) | (with_reducible refine Below.setCell ?_ (by first | with_reducible exact Nat.le_refl _ | omega | (simp; done) | (simp; omega) | (simp [World.setCell]; omega) | (simp [World.setCell]; done)) _))) (hb1.mono (by simp; omega))⟩

set_option maxHeartbeats 1000000 in
theorem leqStepS_same (l : List DStep) (A A' : Option Addr) (cap cap' : Nat) (F F' : List Nat) (w : World) (h : (Rep.sl Rep.DStep).rd w [.slice A l.length cap] l F) (h' : (Rep.sl Rep.DStep).rd w [.slice A' l.length cap'] l F') :
    Calls Tryd.prog 33 #[.slice A l.length cap, .slice A' l.length cap'] w (OutBool true w) := by
  obtain ⟨_, hcl, hcm, xs, F1, hr, ha, _⟩ := Rep.sl_open h
  obtain ⟨_, _, _, xs', F1', hr', ha', _⟩ := Rep.sl_open h'
  clear h h'
  unfold maxLen at hcm
  go_enter Tryd.func33, Tryd.ntmps33
  go_wp2
  go_loopw [5] (fun i wr => ∃ k : Nat, k ≤ l.length ∧ i = .int .i64 k ∧ Below w.heap.size w wr) (fun i _ => l.length - (intOf i).toNat)
  case atStart => exact ⟨0, Nat.zero_le _, rfl, Below.refl _ _⟩
  case round =>
    obtain ⟨k, hk, rfl, hb⟩ := hrel
    by_cases hlt : k < l.length
    · have hx := hr.below hb
      have hx' := hr'.below hb
      have hy := Rep.all_keep (w' := wr) ha fun b hm => hb.block b (Rep.all_lt ha b hm)
      have hy' := Rep.all_keep (w' := wr) ha' fun b hm => hb.block b (Rep.all_lt ha' b hm)
      obtain ⟨b, off, A0, cap0, F0, rfl, c0, c1, c2, c3, c4, w0, w1, w2, w3, h0, hF⟩ := DStep_at hx hy hlt
      obtain ⟨b', off', A0', cap0', F0', rfl, c0', c1', c2', c3', c4', _, _, _, _, h0', hF'⟩ := DStep_at hx' hy' hlt
      have hs : Rep.DStep.rd wr _ l[k] F0 := DStep_make w0 w1 w2 w3 h0
      have hs' : Rep.DStep.rd wr _ l[k] F0' := DStep_make w0 w1 w2 w3 h0'
      clear hx hx' hy hy' hr hr' ha ha' hF hF' h0 h0'
      go_wp2
      go_still_tail 8, (by kernel_rfl)
      go_wp2_with fail
      refine (leqStep_same l[k] _ _ F0 F0' _ (Rep.drew (R := Rep.DStep) hs) (Rep.drew (R := Rep.DStep) hs')).mono ?_
      rintro e W1 ⟨rfl, hb1⟩
      have hb2 : Below w.heap.size w W1 := hb.trans ((Below.refl _ _).drew.trans (hb1.mono hb.size))
      clear hb1 hb hs hs' c0 c1 c2 c3 c4 c0' c1' c2' c3' c4'
      go_wp2_with fail
      exact ⟨⟨k + 1, by omega, by go_num, hb2⟩, by simp [intOf]; omega⟩
    · go_wp2
      go_ret
      exact ⟨rfl, hb⟩
end Go.Proofs.YtlhanpkfnhnegaaDoor
