/- WCs -/
import Derived.Test.YtcmknngafflcnaaGreatWCp
set_option linter.unusedVariables false
set_option linter.unusedSimpArgs false
set_option maxRecDepth 100000
namespace Go.Proofs.YtcmknngafflcnaaGreat
open Go.ChangeShapes Go.WideShapes Go.RowKit
def m5 : List (List Nat) := bA [0, 1, 0, 3, 0, 324, 6, 7, 8, 33346, 182712931821039745, 47897098799294642954891]
def m6 : List (List Nat) := bA [0, 1, 0, 3, 0, 324, 6, 7, 0, 9, 0, 714, 12, 13, 14, 968, 16, 62530, 92637823455529725735781247496321, 24284449591926384423280639343675647123]
def m7 : List (List Nat) := bA [0, 1, 2, 0, 4, 197, 387, 1997061059252615]
def jp : List (List Nat) := bA [0, 1, 0, 3, 0, 324, 6, 7, 0, 9, 0, 714, 12, 13, 0, 15, 0, 1104, 18, 19, 20, 86920, 22, 87490, 8489903248924104703164643565122618855010433, 2225577197285960503306392322735503797127855048217]
theorem od (x : DHead) (hs : DHead.small 1048576 x) : bk av 153 [.agg x.ds] (.agg x.ds) := by
 have h1 : x.seen.length ≤ 1048576 := hs
 refine bh ah Tryz.func153 rfl Tryz.call153 Tryz.ntmps153 (congrArg Array.toList Tryz.results153) fun S => ?_; conv => whnf
 repeat' (first | (refine aw0 ?_) | (refine awx ?_; conv => whnf) | fail | (refine bx (by simp only [List.length_map, List.length_nil, List.length_append, List.length_cons, List.length_take] <;> omega) ?_; conv => whnf) | (refine br alW ?_; conv => whnf) | (refine fh.bl bls ?_; conv => whnf) | (exact rr) | (refine And.intro rfl ?_; conv => whnf) | (refine cc.mk ?_ ?_ <;> (conv => whnf)) | (refine AB.mk (fun h => ?_) (fun h => ?_) <;> (conv => whnf)))
 exact ⟨_, _, _, ⟨Nat.le_refl S.w0.heap.size, trivial, trivial⟩, (Fam.blank (lo := S.w0.heap.size) (hi := S.w0.heap.size) (ds := [dI x.num, dI x.base, dI x.time]) rfl), rfl⟩
theorem lL (x : DSched) (hs : DSched.small 1048576 x) : bk av 76 [.agg x.ds] (.agg x.ds) := by
 have h1 : x.view.jobs.opens.length ≤ 1048576 := hs
 refine bh ah Tryz.func76 rfl Tryz.call76 Tryz.ntmps76 (congrArg Array.toList Tryz.results76) fun S => ?_; conv => whnf
 repeat' (first | (refine aw0 ?_) | (refine awx ?_; conv => whnf) | fail | (refine bx (by simp only [List.length_map, List.length_nil, List.length_append, List.length_cons, List.length_take] <;> omega) ?_; conv => whnf) | (refine br alW ?_; conv => whnf) | (refine fh.bl bls ?_; conv => whnf) | (exact rr) | (refine And.intro rfl ?_; conv => whnf) | (refine cc.mk ?_ ?_ <;> (conv => whnf)) | (refine AB.mk (fun h => ?_) (fun h => ?_) <;> (conv => whnf)))
 exact ⟨_, _, _, ⟨Nat.le_refl S.w0.heap.size, trivial, trivial⟩, (Fam.blank (lo := S.w0.heap.size) (hi := S.w0.heap.size) (ds := [dI x.id, dI x.seq, dI x.view.jobs.index, dI x.view.jobs.time, dI x.view.jobs.holder, dI x.view.jobs.epoch, dI x.view.jobs.til, dB x.busy, dI x.op.kind, dI x.op.a, dI x.op.b, dI x.op.c, dI x.op.d, dI x.index]) rfl), rfl⟩
theorem kb (x : DClient) (hs : DClient.small 1048576 x) : bk av 77 [.agg x.ds] (.agg x.ds) := by
 obtain ⟨h1, h2⟩ := (show x.todo.length ≤ 1048576 ∧ x.gots.length ≤ 1048576 from hs)
 refine bh ah Tryz.func77 rfl Tryz.call77 Tryz.ntmps77 (congrArg Array.toList Tryz.results77) fun S => ?_; conv => whnf
 repeat' (first | (refine aw0 ?_) | (refine awx ?_; conv => whnf) | fail | (refine bx (by simp only [List.length_map, List.length_nil, List.length_append, List.length_cons, List.length_take] <;> omega) ?_; conv => whnf) | (refine br alW ?_; conv => whnf) | (refine fh.bl bls ?_; conv => whnf) | (exact rr) | (refine And.intro rfl ?_; conv => whnf) | (refine cc.mk ?_ ?_ <;> (conv => whnf)) | (refine AB.mk (fun h => ?_) (fun h => ?_) <;> (conv => whnf)))
 exact ⟨_, _, _, ⟨Nat.le_refl S.w0.heap.size, trivial, trivial⟩, (Fam.blank (lo := S.w0.heap.size) (hi := S.w0.heap.size) (ds := [dI x.id, dI x.last]) rfl), rfl⟩
theorem rM (x : DDisk) (hs : DDisk.small 1048576 x) : bk av 154 [.agg x.ds] (.agg x.ds) := by
 obtain ⟨h1, h2, h3, h4⟩ := (show x.kept.length ≤ 1048576 ∧ (∀ y ∈ x.kept, y.length ≤ 1048576) ∧ x.wait.length ≤ 1048576 ∧ (∀ y ∈ x.wait, DWrite.small 1048576 y) from hs)
 refine bh ah Tryz.func154 rfl Tryz.call154 Tryz.ntmps154 (congrArg Array.toList Tryz.results154) fun S => ?_; conv => whnf
 repeat' (first | (refine aw0 ?_) | (refine awx ?_; conv => whnf) | fail | (exact rr) | (refine And.intro rfl ?_; conv => whnf) | (refine cc.mk ?_ ?_ <;> (conv => whnf)) | (refine AB.mk (fun h => ?_) (fun h => ?_) <;> (conv => whnf)))
 refine AWP.nilRow 3 0 23 62 1 (by decide) ?_
 conv => whnf
 repeat' (first | (refine aw0 ?_) | (refine awx ?_; conv => whnf) | fail | (exact rr) | (refine And.intro rfl ?_; conv => whnf) | (refine cc.mk ?_ ?_ <;> (conv => whnf)) | (refine AB.mk (fun h => ?_) (fun h => ?_) <;> (conv => whnf)))
 refine AWP.loopS (fun g : Nat × Nat × List (List AD) => g.1 ≤ x.kept.length ∧ g.2.2.length = g.1 ∧ S.w0.heap.size ≤ g.2.1 ∧ Fam S.w0.heap.size g.2.1 g.2.2.flatten ((x.kept.take g.1).map cG).flatten) [4, 7, 8, 9, 10, 11, 12, 13, 14, 15, 16, 17, 18, 19, 20, 21, 22, 23, 24] (fun g => [(4, vI .i64 (g.1 : Int))]) (fun g => [(9997, cN S.w0.heap.size g.2.1), (1, .cells 69 (x.ds.map .d)), (2, .cells 69 [.nil, .nil]), (3, .cells 69 [.own 23, .nil]), (23, .row 62 1 g.2.2)]) (fun g => x.kept.length - g.1) (0, S.w0.heap.size, []) ⟨Nat.zero_le _, rfl, Nat.le_refl _, Fam.blank rfl⟩ ?_ (ai.cons rfl (ai.cons rfl (ai.cons rfl (ai.cons rfl (ai.cons rfl ai.nil))))) (fun g hR => ?_) <;> (conv => whnf)
 ·exact whd
 ·obtain ⟨k, m, cs⟩ := g
  obtain ⟨hk, hcs, hm, hF⟩ := hR
  simp only at hk hcs hm hF
  repeat' (first | (refine aw0 ?_) | (refine awx ?_; conv => whnf) | fail | (refine AW.i64 ari ari ?_; conv => whnf) | (exact rr) | (refine And.intro rfl ?_; conv => whnf) | (refine cc.mk ?_ ?_ <;> (conv => whnf)) | (refine AB.mk (fun h => ?_) (fun h => ?_) <;> (conv => whnf)))
  ·have hlt : k < x.kept.length := ari
   (refine AWP.drawT ah 5 (.take 0 (.take 2 (.take 3 (.take 4 (.take 5 (.take 6 (.two 1 (.one 7 (.one 8 (.one 9 (.take 10 (.one 11 .done))))) 7 (.two 1 (.one 8 (.one 9 (.take 10 (.one 11 .done)))) 8 (.one 1 (.one 9 (.take 10 (.one 11 .done)))))))))))) [(1, 9980)] m5 (by kernel_rfl) (by kernel_rfl) (by kernel_rfl) (by kernel_rfl) (fun Rz => ?_); (conv => whnf); intro bp0 up0; (conv => whnf))
   repeat' (first | (refine aw0 ?_) | (refine awx ?_; conv => whnf) | fail | (refine AIx.map hlt ?_; conv => whnf) | (refine aa.fresh (o6 _ (h2 _ (List.getElem_mem hlt))) rfl rfl fun R lo hi a1 a2 F => ?_; conv => whnf) | (refine bx (by simp only [hcs, List.length_cons, List.length_nil]; omega) ?_; conv => whnf) | (refine AW.i64 ari ari ?_; conv => whnf) | (exact rr) | (refine And.intro rfl ?_; conv => whnf) | (refine cc.mk ?_ ?_ <;> (conv => whnf)) | (refine AB.mk (fun h => ?_) (fun h => ?_) <;> (conv => whnf)))
   all_goals
    have a1 : m ≤ lo := a1
    refine aF.mk ⟨(k + 1, hi, cs ++ [[.x (R 0)]]), ⟨by simp only; omega, by simp [hcs], by simp only; omega, ?_⟩, by simp only; omega, ?_, ai.cons rfl (ai.cons rfl (ai.cons rfl (ai.cons rfl (ai.cons rfl ai.nil))))⟩
    ·simp only
     rw [cu cG (by omega)]
     exact hF.flat_set F (by omega) (by omega) (by omega)
    ·exact hds
  ·have e : k = x.kept.length := ari
   subst e
   rw [List.take_length] at hF
   refine AWP.nilRow 3 1 49 289 2 (by decide) ?_
   conv => whnf
   repeat' (first | (refine aw0 ?_) | (refine awx ?_; conv => whnf) | fail | (exact rr) | (refine And.intro rfl ?_; conv => whnf) | (refine cc.mk ?_ ?_ <;> (conv => whnf)) | (refine AB.mk (fun h => ?_) (fun h => ?_) <;> (conv => whnf)))
   refine AWP.loopS (fun g : Nat × Nat × List (List AD) => g.1 ≤ x.wait.length ∧ g.2.2.length = g.1 ∧ m ≤ g.2.1 ∧ Fam m g.2.1 g.2.2.flatten ((x.wait.take g.1).map DWrite.ds).flatten) [5, 25, 26, 27, 28, 29, 30, 31, 32, 33, 34, 35, 36, 37, 38, 39, 40, 41, 42, 43, 44, 45, 46, 47, 48, 49, 50] (fun g => [(5, vI .i64 (g.1 : Int))]) (fun g => [(9997, cN S.w0.heap.size g.2.1), (1, .cells 69 (x.ds.map .d)), (2, .cells 69 [.nil, .nil]), (3, .cells 69 [.own 23, .own 49]), (23, .row 62 1 cs), (49, .row 289 2 g.2.2)]) (fun g => x.wait.length - g.1) (0, m, []) ⟨Nat.zero_le _, rfl, Nat.le_refl _, Fam.blank rfl⟩ ?_ (ai.cons rfl (ai.cons rfl (ai.cons rfl (ai.cons rfl (ai.cons rfl (ai.cons rfl ai.nil)))))) (fun g hR => ?_) <;> (conv => whnf)
   ·exact whd
   ·obtain ⟨j, m2, cs2⟩ := g
    obtain ⟨hk2, hcs2, hm2, hF2⟩ := hR
    simp only at hk2 hcs2 hm2 hF2
    repeat' (first | (refine aw0 ?_) | (refine awx ?_; conv => whnf) | fail | (refine AW.i64 ari ari ?_; conv => whnf) | (exact rr) | (refine And.intro rfl ?_; conv => whnf) | (refine cc.mk ?_ ?_ <;> (conv => whnf)) | (refine AB.mk (fun h => ?_) (fun h => ?_) <;> (conv => whnf)))
    ·have hlt : j < x.wait.length := ari
     (refine AWP.drawT ah 9 (.take 0 (.take 2 (.take 3 (.take 4 (.take 5 (.take 6 (.take 7 (.take 8 (.take 9 (.take 10 (.take 11 (.take 12 (.take 13 (.two 1 (.one 14 (.one 15 (.one 16 (.one 17 (.take 18 (.one 19 .done)))))) 14 (.two 1 (.one 15 (.one 16 (.one 17 (.take 18 (.one 19 .done))))) 15 (.two 1 (.one 16 (.one 17 (.take 18 (.one 19 .done)))) 16 (.one 1 (.one 17 (.take 18 (.one 19 .done)))))))))))))))))))) [(1, 9980)] m6 (by kernel_rfl) (by kernel_rfl) (by kernel_rfl) (by kernel_rfl) (fun Rz => ?_); (conv => whnf); intro bp0 up0; (conv => whnf))
     repeat' (first | (refine aw0 ?_) | (refine awx ?_; conv => whnf) | fail | (refine AIx.map hlt ?_; conv => whnf) | (refine aa.fresh (o6 _ (h4 _ (List.getElem_mem hlt))) rfl rfl fun R lo hi a1 a2 F => ?_; conv => whnf) | (refine bx (by simp only [hcs2, List.length_cons, List.length_nil]; omega) ?_; conv => whnf) | (refine AW.i64 ari ari ?_; conv => whnf) | (exact rr) | (refine And.intro rfl ?_; conv => whnf) | (refine cc.mk ?_ ?_ <;> (conv => whnf)) | (refine AB.mk (fun h => ?_) (fun h => ?_) <;> (conv => whnf)))
     all_goals
      have a1 : m2 ≤ lo := a1
      refine aF.mk ⟨(j + 1, hi, cs2 ++ [[dI x.wait[j].at_, .x (R 0)]]), ⟨by simp only; omega, by simp [hcs2], by simp only; omega, ?_⟩, by simp only; omega, ?_, ai.cons rfl (ai.cons rfl (ai.cons rfl (ai.cons rfl (ai.cons rfl (ai.cons rfl ai.nil)))))⟩
      ·simp only
       rw [cu DWrite.ds (by omega)]
       exact hF2.flat_set (Fam.app (Fam.blank (lo := lo) (hi := lo) (ds := [dI x.wait[j].at_]) rfl) F (by omega) (by omega) (by omega)) (by omega) (by omega) (by omega)
      ·exact hds
    ·have e : j = x.wait.length := ari
     subst e
     rw [List.take_length] at hF2
     repeat' (first | (refine aw0 ?_) | (refine awx ?_; conv => whnf) | fail | (refine fh.fam hF (by simp [hcs]) alW ?_; conv => whnf) | (refine fh.fam hF2 (by simp [hcs2]) alW ?_; conv => whnf) | (exact rr) | (refine And.intro rfl ?_; conv => whnf) | (refine cc.mk ?_ ?_ <;> (conv => whnf)) | (refine AB.mk (fun h => ?_) (fun h => ?_) <;> (conv => whnf)))
     exact ⟨S.w0.heap.size, S.w0.heap.size, [], ⟨Nat.le_refl _, ⟨.inl (Nat.le_refl _), .inl hm, trivial⟩, Nat.le_refl _, ⟨.inl (Nat.le_refl _), trivial⟩, hm, trivial, trivial⟩, Fam.blank rfl, rfl⟩
theorem DZ (x : DTwo) (hs : DTwo.small 1048576 x) : bk av 152 [.agg x.ds] (.agg x.ds) := by
 refine bh ah Tryz.func152 rfl Tryz.call152 Tryz.ntmps152 (congrArg Array.toList Tryz.results152) fun S => ?_; conv => whnf
 repeat' (first | (refine aw0 ?_) | (refine awx ?_; conv => whnf) | fail | (exact rr) | (refine And.intro rfl ?_; conv => whnf) | (refine cc.mk ?_ ?_ <;> (conv => whnf)) | (refine AB.mk (fun h => ?_) (fun h => ?_) <;> (conv => whnf)))
 (refine AWP.drawT ah 1 (.take 0 (.take 1 (.take 3 (.take 4 (.one 2 (.one 5 (.one 6 (.one 7 .done)))))))) [(1, 9980)] m7 (by kernel_rfl) (by kernel_rfl) (by kernel_rfl) (by kernel_rfl) (fun Rz => ?_); (conv => whnf); intro bp0 up0; (conv => whnf))
 repeat' (first | (refine aw0 ?_) | (refine awx ?_; conv => whnf) | fail | (refine aa.fresh (rM x.a hs.1) rfl rfl fun R1 l1 e1 a1 b1 F1 => ?_; conv => whnf) | (refine aa.fresh (rM x.b hs.2) rfl rfl fun R2 l2 e2 a2 b2 F2 => ?_; conv => whnf) | (refine bx (by simp only [List.length_map, List.length_nil, List.length_append, List.length_cons, List.length_take] <;> omega) ?_; conv => whnf) | (refine br alW ?_; conv => whnf) | (refine fh.bl bls ?_; conv => whnf) | (exact rr) | (refine And.intro rfl ?_; conv => whnf) | (refine cc.mk ?_ ?_ <;> (conv => whnf)) | (refine AB.mk (fun h => ?_) (fun h => ?_) <;> (conv => whnf)))
 exact ⟨_, _, _, ⟨(by omega : S.w0.heap.size ≤ l1), trivial, trivial⟩, (Fam.app F1 F2 (by omega) (by omega) (by omega)), rfl⟩
theorem v7 (x : DLogNode) (hs : DLogNode.small 1048576 x) : bk av 74 [.agg x.ds] (.agg x.ds) := by
 obtain ⟨h1, h2, h3, h4, h5, h6⟩ := (show DTwo.small 1048576 x.two ∧ DHead.small 1048576 x.head ∧ DHead.small 1048576 x.nxt ∧ x.book.entries.length ≤ 1048576 ∧ x.seen.length ≤ 1048576 ∧ x.owe.length ≤ 1048576 from hs)
 refine bh ah Tryz.func74 rfl Tryz.call74 Tryz.ntmps74 (congrArg Array.toList Tryz.results74) fun S => ?_; conv => whnf
 repeat' (first | (refine aw0 ?_) | (refine awx ?_; conv => whnf) | fail | (refine aa.fresh (DZ x.two h1) rfl rfl fun R1 l1 e1 a1 b1 F1 => ?_; conv => whnf) | (refine aa.fresh (od x.head h2) rfl rfl fun R2 l2 e2 a2 b2 F2 => ?_; conv => whnf) | (refine aa.fresh (od x.nxt h3) rfl rfl fun R3 l3 e3 a3 b3 F3 => ?_; conv => whnf) | (refine bx (by simp only [List.length_map, List.length_nil, List.length_append, List.length_cons, List.length_take] <;> omega) ?_; conv => whnf) | (refine br alW ?_; conv => whnf) | (refine fh.bl bls ?_; conv => whnf) | (exact rr) | (refine And.intro rfl ?_; conv => whnf) | (refine cc.mk ?_ ?_ <;> (conv => whnf)) | (refine AB.mk (fun h => ?_) (fun h => ?_) <;> (conv => whnf)))
 exact ⟨_, _, _, ⟨(by omega : S.w0.heap.size ≤ l1), trivial, trivial⟩, (Fam.app (Fam.app (Fam.app F1 F2 (by omega) (by omega) (by omega)) F3 (by omega) (by omega) (by omega)) (Fam.blank (lo := e3) (hi := e3) (ds := [dB x.more, dI x.book.base, dI x.book.time, dI x.durable]) rfl) (by omega) (by omega) (by omega)), rfl⟩
theorem sX (x : DStore) (hs : DStore.small 1048576 x) : bk av 75 [.agg x.ds] (.agg x.ds) := by
 obtain ⟨h1, h2, h3⟩ := (show DDisk.small 1048576 x.disk ∧ x.state.pairs.length ≤ 1048576 ∧ x.state.jobs.length ≤ 1048576 from hs)
 refine bh ah Tryz.func75 rfl Tryz.call75 Tryz.ntmps75 (congrArg Array.toList Tryz.results75) fun S => ?_; conv => whnf
 repeat' (first | (refine aw0 ?_) | (refine awx ?_; conv => whnf) | fail | (refine aa.fresh (rM x.disk h1) rfl rfl fun R1 l1 e1 a1 b1 F1 => ?_; conv => whnf) | (refine bx (by simp only [List.length_map, List.length_nil, List.length_append, List.length_cons, List.length_take] <;> omega) ?_; conv => whnf) | (refine br alW ?_; conv => whnf) | (refine fh.bl bls ?_; conv => whnf) | (exact rr) | (refine And.intro rfl ?_; conv => whnf) | (refine cc.mk ?_ ?_ <;> (conv => whnf)) | (refine AB.mk (fun h => ?_) (fun h => ?_) <;> (conv => whnf)))
 exact ⟨_, _, _, ⟨(by omega : S.w0.heap.size ≤ l1), trivial, trivial⟩, (Fam.app F1 (Fam.blank (lo := e1) (hi := e1) (ds := [dI x.state.index, dI x.state.time, dI x.state.lease.holder, dI x.state.lease.epoch, dI x.state.lease.til, dI x.num, dI x.last, dI x.busy]) rfl) (by omega) (by omega) (by omega)), rfl⟩
theorem v8 (x : DNet) (hs : DNet.small 1048576 x) : bk av 78 [.agg x.ds] (.agg x.ds) := by
 obtain ⟨h1, h2, h3⟩ := (show x.flight.length ≤ 1048576 ∧ (∀ y ∈ x.flight, DMsg.small 1048576 y) ∧ x.cuts.length ≤ 1048576 from hs)
 refine bh ah Tryz.func78 rfl Tryz.call78 Tryz.ntmps78 (congrArg Array.toList Tryz.results78) fun S => ?_; conv => whnf
 repeat' (first | (refine aw0 ?_) | (refine awx ?_; conv => whnf) | fail | (refine bx (by simp only [List.length_map, List.length_nil, List.length_append, List.length_cons, List.length_take] <;> omega) ?_; conv => whnf) | (refine br alW ?_; conv => whnf) | (exact rr) | (refine And.intro rfl ?_; conv => whnf) | (refine cc.mk ?_ ?_ <;> (conv => whnf)) | (refine AB.mk (fun h => ?_) (fun h => ?_) <;> (conv => whnf)))
 refine AWP.nilRow 3 0 40 222 3 (by decide) ?_
 conv => whnf
 repeat' (first | (refine aw0 ?_) | (refine awx ?_; conv => whnf) | fail | (exact rr) | (refine And.intro rfl ?_; conv => whnf) | (refine cc.mk ?_ ?_ <;> (conv => whnf)) | (refine AB.mk (fun h => ?_) (fun h => ?_) <;> (conv => whnf)))
 refine AWP.loopS (fun g : Nat × Nat × List (List AD) => g.1 ≤ x.flight.length ∧ g.2.2.length = g.1 ∧ S.w0.heap.size ≤ g.2.1 ∧ Fam S.w0.heap.size g.2.1 g.2.2.flatten ((x.flight.take g.1).map DMsg.ds).flatten) [4, 10, 11, 12, 13, 14, 15, 16, 17, 18, 19, 20, 21, 22, 23, 24, 25, 26, 27, 28, 29, 30, 31, 32, 33, 34, 35, 36, 37, 38, 39, 40, 41] (fun g => [(4, vI .i64 (g.1 : Int))]) (fun g => [(9997, cN S.w0.heap.size g.2.1), (1, .cells 103 (x.ds.map .d)), (2, .cells 103 [.nil, .nil]), (3, .cells 103 [.own 40, .own 5]), (5, .row 224 2 (x.cuts.map DLink.ds)), (40, .row 222 3 g.2.2)]) (fun g => x.flight.length - g.1) (0, S.w0.heap.size, []) ⟨Nat.zero_le _, rfl, Nat.le_refl _, Fam.blank rfl⟩ ?_ (ai.cons rfl (ai.cons rfl (ai.cons rfl (ai.cons rfl (ai.cons rfl (ai.cons rfl ai.nil)))))) (fun g hR => ?_) <;> (conv => whnf)
 ·exact whd
 ·obtain ⟨k, m, cs⟩ := g
  obtain ⟨hk, hcs, hm, hF⟩ := hR
  simp only at hk hcs hm hF
  repeat' (first | (refine aw0 ?_) | (refine awx ?_; conv => whnf) | fail | (refine AW.i64 ari ari ?_; conv => whnf) | (exact rr) | (refine And.intro rfl ?_; conv => whnf) | (refine cc.mk ?_ ?_ <;> (conv => whnf)) | (refine AB.mk (fun h => ?_) (fun h => ?_) <;> (conv => whnf)))
  ·have hlt : k < x.flight.length := ari
   (refine AWP.drawT ah 5 (.take 0 (.take 2 (.take 3 (.take 4 (.take 5 (.take 6 (.take 7 (.take 8 (.take 9 (.take 10 (.take 11 (.take 12 (.take 13 (.take 14 (.take 15 (.take 16 (.take 17 (.take 18 (.take 19 (.two 1 (.one 20 (.one 21 (.one 22 (.one 23 (.take 24 (.one 25 .done)))))) 20 (.two 1 (.one 21 (.one 22 (.one 23 (.take 24 (.one 25 .done))))) 21 (.two 1 (.one 22 (.one 23 (.take 24 (.one 25 .done)))) 22 (.one 1 (.one 23 (.take 24 (.one 25 .done)))))))))))))))))))))))))) [(1, 9980)] jp (by kernel_rfl) (by kernel_rfl) (by kernel_rfl) (by kernel_rfl) (fun Rz => ?_); (conv => whnf); intro bp0 up0; (conv => whnf))
   repeat' (first | (refine aw0 ?_) | (refine awx ?_; conv => whnf) | fail | (refine AIx.map hlt ?_; conv => whnf) | (refine aa.fresh (o6 _ (h2 _ (List.getElem_mem hlt))) rfl rfl fun R lo hi a1 a2 F => ?_; conv => whnf) | (refine bx (by simp only [hcs, List.length_cons, List.length_nil]; omega) ?_; conv => whnf) | (refine AW.i64 ari ari ?_; conv => whnf) | (exact rr) | (refine And.intro rfl ?_; conv => whnf) | (refine cc.mk ?_ ?_ <;> (conv => whnf)) | (refine AB.mk (fun h => ?_) (fun h => ?_) <;> (conv => whnf)))
   all_goals
    have a1 : m ≤ lo := a1
    refine aF.mk ⟨(k + 1, hi, cs ++ [[dI x.flight[k].frm, dI x.flight[k].to_, .x (R 0)]]), ⟨by simp only; omega, by simp [hcs], by simp only; omega, ?_⟩, by simp only; omega, ?_, ai.cons rfl (ai.cons rfl (ai.cons rfl (ai.cons rfl (ai.cons rfl (ai.cons rfl ai.nil)))))⟩
    ·simp only
     rw [cu DMsg.ds (by omega)]
     exact hF.flat_set (Fam.app (Fam.blank (lo := lo) (hi := lo) (ds := [dI x.flight[k].frm, dI x.flight[k].to_]) rfl) F (by omega) (by omega) (by omega)) (by omega) (by omega) (by omega)
    ·exact hds
  ·have e : k = x.flight.length := ari
   subst e
   rw [List.take_length] at hF
   repeat' (first | (refine aw0 ?_) | (refine awx ?_; conv => whnf) | fail | (refine fh.bl bls ?_; conv => whnf) | (refine fh.fam hF (by simp [hcs]) alW ?_; conv => whnf) | (exact rr) | (refine And.intro rfl ?_; conv => whnf) | (refine cc.mk ?_ ?_ <;> (conv => whnf)) | (refine AB.mk (fun h => ?_) (fun h => ?_) <;> (conv => whnf)))
   exact ⟨S.w0.heap.size, S.w0.heap.size, [], ⟨Nat.le_refl _, ⟨.inl (Nat.le_refl _), trivial⟩, Nat.le_refl _, trivial, trivial⟩, Fam.blank rfl, rfl⟩
end Go.Proofs.YtcmknngafflcnaaGreat
