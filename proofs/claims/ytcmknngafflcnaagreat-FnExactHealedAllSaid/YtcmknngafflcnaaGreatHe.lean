/- He -/
import Derived.Test.YtcmknngafflcnaaGreatWCi
import Derived.Test.YtcmknngafflcnaaGreatAvFX
import Derived.Test.YtcmknngafflcnaaGreatJ13
import Derived.Test.YtcmknngafflcnaaGreatJ05
set_option linter.unusedVariables false
set_option linter.unusedSimpArgs false
set_option maxRecDepth 100000
namespace Go.Proofs.YtcmknngafflcnaaGreat
open Go.ChangeShapes Go.WideShapes Go.RowKit
def CG : DSched := ⟨0, 0, ⟨⟨0, 0, 0, 0, 0, []⟩⟩, false, ⟨0, 0, 0, 0, 0⟩, 0⟩
def yW : DClient := ⟨0, [], [], 0⟩
def gb : DWorld := ⟨⟨⟨⟨[], []⟩, ⟨[], []⟩⟩, ⟨0, 0, 0, []⟩, ⟨0, 0, 0, []⟩, false, ⟨0, 0, []⟩, [], 0, []⟩, ⟨⟨[], []⟩, ⟨0, 0, [], [], ⟨0, 0, 0⟩⟩, 0, 0, 0⟩, CG, CG, yW, yW, ⟨[], []⟩, [], []⟩
theorem rl : DWorld.small 1048576 gb := by
 simp [gb, CG, yW, DWorld.small, DLogNode.small, DStore.small, DSched.small, DClient.small, DNet.small, DTwo.small, DDisk.small, DHead.small, DBook.small, DState.small, DView.small, DJobs.small]
theorem rO : gb.ds.all AD.isBl = true := rfl
def cq (x : DWorld) : DWorld := if fg x then { x with net := ⟨x.net.flight, []⟩ } else gb
theorem yj {x : DWorld} (hs : DWorld.small 1048576 x) : DWorld.small 1048576 (cq x) := by
 unfold cq
 split
 ·obtain ⟨h1, h2, h3, h4, h5, h6, h7, h8⟩ := id hs
  refine ⟨h1, h2, h3, h4, h5, h6, ?_, h8⟩
  simp only [DNet.small] at h7 ⊢
  exact ⟨h7.1, h7.2.1, by simp⟩
 ·exact rl
theorem Cd {x : DWorld} (hc : x.cnt ≤ 1048576) : (cq x).cnt ≤ 1048576 := by
 unfold cq
 split
 ·simp only [DWorld.cnt, DNet.cnt, List.length_nil] at hc ⊢
  omega
 ·have : gb.cnt = 0 := rfl
  omega
theorem qN (x : DWorld) (R : Nat → (Nat → Prop) → World → Value → Prop) : ak av 31 [.agg (dt R 0 x.ds)] (.val (.agg ((dt R 0 x.ds).set 70 (.sl [])))) := by
 refine ac ah Tryz.func31 rfl Tryz.call31 Tryz.ntmps31 (congrArg Array.toList Tryz.results31) fun S => ?_; conv => whnf
 repeat' (first | (refine aw0 ?_) | (refine awx ?_; conv => whnf) | fail | (exact rr) | (refine And.intro rfl ?_; conv => whnf) | (refine AB.mk (fun h => ?_) (fun h => ?_) <;> (conv => whnf)))
 all_goals rfl
theorem yn (x : DWorld) (hs : DWorld.small 1048576 x) : bk av 30 [.agg x.ds, .one (.pv (.func (.func 31) #[] #[]))] (.agg (cq x).ds) := by
 cases hw : fg x with
 | false =>
  have hn : (!fg x) = true := by rw [hw]; rfl
  have e : cq x = gb := by simp [cq, hw]
  rw [e]
  refine bh ah Tryz.func30 rfl Tryz.call30 Tryz.ntmps30 (congrArg Array.toList Tryz.results30) fun S => ?_; conv => whnf
  repeat' (first | (refine aw0 ?_) | (refine awx ?_; conv => whnf) | fail | (refine aa.pure (eA x hs) rfl ?_; conv => whnf) | (refine ae.mk ⟨_, _, eA x hs, .inl rfl, ?_⟩; conv => whnf) | (exact rr) | (refine And.intro rfl ?_; conv => whnf) | (refine AB.mk (fun h => ?_) (fun h => ?_) <;> (conv => whnf)))
  exact ⟨S.w0.heap.size, S.w0.heap.size, _, ⟨Nat.le_refl _, trivial, trivial⟩, Fam.blank rO, rfl⟩
 | true =>
  have hn : (!fg x) = false := by rw [hw]; rfl
  have e : cq x = { x with net := ⟨x.net.flight, []⟩ } := by simp [cq, hw]
  rw [e]
  refine bh ah Tryz.func30 rfl Tryz.call30 Tryz.ntmps30 (congrArg Array.toList Tryz.results30) fun S => ?_; conv => whnf
  repeat' (first | (refine aw0 ?_) | (refine awx ?_; conv => whnf) | fail | (refine aa.pure (eA x hs) rfl ?_; conv => whnf) | (refine ae.mk ⟨_, _, eA x hs, .inl rfl, ?_⟩; conv => whnf) | (refine aa.freshX (qM x hs) rfl rfl fun R l1 e1 a1 b1 F1 => ?_; conv => whnf) | (refine aa.pure (qN x R) rfl ?_; conv => whnf) | (refine ae.mk ⟨_, _, qN x R, .inl rfl, ?_⟩; conv => whnf) | (exact rr) | (refine And.intro rfl ?_; conv => whnf) | (refine AB.mk (fun h => ?_) (fun h => ?_) <;> (conv => whnf)))
  exact ⟨l1, e1, x.ds.set 70 (.sl []), ⟨a1, trivial, trivial⟩, (F1.set 70 rfl).fam, rfl⟩
theorem qG (x : DWorld) (hs : DWorld.small 1048576 x) : bk av 8 [.agg x.ds] (.agg (cq x).ds) := by
 refine bh ah Tryz.func8 rfl Tryz.call8 Tryz.ntmps8 (congrArg Array.toList Tryz.results8) fun S => ?_; conv => whnf
 repeat' (first | (refine aw0 ?_) | (refine awx ?_; conv => whnf) | fail | (exact rr) | (refine And.intro rfl ?_; conv => whnf) | (refine AB.mk (fun h => ?_) (fun h => ?_) <;> (conv => whnf)))
 refine aa.fresh (yn x hs) rfl rfl fun R l1 e1 a1 b1 F1 => ?_
 conv => whnf
 repeat' (first | (refine aw0 ?_) | (refine awx ?_; conv => whnf) | fail | (exact rr) | (refine And.intro rfl ?_; conv => whnf) | (refine AB.mk (fun h => ?_) (fun h => ?_) <;> (conv => whnf)))
 exact ⟨l1, e1, (cq x).ds, ⟨a1, trivial, trivial⟩, F1, rfl⟩
end Go.Proofs.YtcmknngafflcnaaGreat
