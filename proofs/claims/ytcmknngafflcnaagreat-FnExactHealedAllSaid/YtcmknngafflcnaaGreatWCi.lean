/- WCi -/
import Derived.Test.YtcmknngafflcnaaGreatWCp
set_option linter.unusedVariables false
set_option linter.unusedSimpArgs false
set_option maxRecDepth 100000
namespace Go.Proofs.YtcmknngafflcnaaGreat
open Go.ChangeShapes Go.WideShapes Go.RowKit
def lQ : List (List Nat) := bA [0, 1, 0, 3, 0, 5, 6, 28930, 146112249135108552]
def ks : List (List Nat) := bA [0, 1, 0, 3, 0, 5, 6, 452, 8, 29250, 182712931821039745, 47897098799294642954891]
def lS : List (List Nat) := bA [0, 1, 2, 0, 4, 197, 387, 1997061059252615]
def kt : List (List Nat) := bA [0, 1, 0, 3, 0, 5, 0, 7, 8, 2384130, 748392168738978796106]
def kr : List (List Nat) := bA [0, 1, 0, 3, 0, 0, 6, 453, 33026, 10522405790596731401]
def lP : List (List Nat) := bA [0, 1, 2, 0, 4, 197, 0, 7, 392, 0, 10, 0, 12, 589, 0, 15, 912, 0, 18, 0, 0, 21, 71060, 102479231226243, 34774643707593132864162380042742246830122735064]
def jz : List (List Nat) := bA [0, 1, 0, 3, 0, 5, 6, 0, 8, 457, 0, 11, 203976962, 255136042362167060939149965]
def jA : List (List Nat) := bA [0, 1, 2, 0, 4, 197, 0, 7, 0, 9, 0, 11, 203981187, 255136042362167060939149709]
def jo : List (List Nat) := bA [0, 1, 0, 0, 4, 323, 0, 0, 8, 25159, 0, 11, 3187074, 255136042362167060939149965]
def lR : List (List Nat) := bA [0, 1, 0, 3, 4, 16706, 6527398017, 1711118225793415]
def jB : List (List Nat) := bA [0, 1, 2, 0, 4, 197, 0, 7, 392, 0, 10, 587, 0, 13, 782, 0, 16, 977, 0, 19, 1172, 0, 22, 1367, 0, 0, 26, 100057, 7988315155370371, 45123093698098068919926900221943495196377003974518642461]
theorem Cf (x : DMsg) (hs : DMsg.small 1048576 x) : bk av 256 [.agg x.ds] (.agg x.ds) := by
 refine bh ah Tryz.func256 rfl Tryz.call256 Tryz.ntmps256 (congrArg Array.toList Tryz.results256) fun S => ?_; conv => whnf
 repeat' (first | (refine aw0 ?_) | (refine awx ?_; conv => whnf) | fail | (exact rr) | (refine And.intro rfl ?_; conv => whnf) | (refine cc.mk ?_ ?_ <;> (conv => whnf)) | (refine AB.mk (fun h => ?_) (fun h => ?_) <;> (conv => whnf)))
 (refine AWP.drawT ah 1 (.take 0 (.take 1 (.take 2 (.take 3 (.take 4 (.take 5 (.one 6 (.one 7 (.one 8 .done))))))))) [(1, 9980)] lQ (by kernel_rfl) (by kernel_rfl) (by kernel_rfl) (by kernel_rfl) (fun Rz => ?_); (conv => whnf); intro bp0 up0; (conv => whnf))
 repeat' (first | (refine aw0 ?_) | (refine awx ?_; conv => whnf) | fail | (refine aa.fresh (kY x.row hs) rfl rfl fun R1 l1 h1 a1 b1 F1 => ?_; conv => whnf) | (exact rr) | (refine And.intro rfl ?_; conv => whnf) | (refine cc.mk ?_ ?_ <;> (conv => whnf)) | (refine AB.mk (fun h => ?_) (fun h => ?_) <;> (conv => whnf)))
 exact ⟨_, _, _, ⟨(by omega : S.w0.heap.size ≤ l1), trivial, trivial⟩, Fam.app (Fam.blank (lo := l1) (hi := l1) (ds := [dI x.frm, dI x.to_]) rfl) F1 (by omega) (by omega) (by omega), rfl⟩
theorem zV (l : (List (List Int))) (hs : l.length ≤ 1048576 ∧ ∀ y ∈ l, y.length ≤ 1048576) : bk av 307 [.one (.sl (l.map cG))] (.one (.sl (l.map cG))) := by
 have hl : l.length ≤ 1048576 := hs.1
 refine bj ah Tryz.func307 rfl Tryz.call307 Tryz.ntmps307 (congrArg Array.toList Tryz.results307) fun S => ?_; conv => whnf
 repeat' (first | (refine aw0 ?_) | (refine awx ?_; conv => whnf) | fail | (refine ⟨l.length, by simp, (show 24 * l.length ≤ _ by omega), by omega, ?_⟩; conv => whnf) | (exact rr) | (refine And.intro rfl ?_; conv => whnf) | (refine cc.mk ?_ ?_ <;> (conv => whnf)) | (refine AB.mk (fun h => ?_) (fun h => ?_) <;> (conv => whnf)))
 refine AWP.loopS (fun g : Nat × Nat × List (List AD) => g.1 ≤ l.length ∧ g.2.2.length = g.1 ∧ S.w0.heap.size ≤ g.2.1 ∧ Fam S.w0.heap.size g.2.1 g.2.2.flatten ((l.take g.1).map cG).flatten) (8 :: [3, 5, 11, 12, 13, 14, 15, 16, 17, 18, 19, 20]) (fun g => [(3, .one (.own 8)), (11, vI .i64 (g.1 : Int))]) (fun g => [(9997, cN S.w0.heap.size g.2.1), (8, .row 62 1 g.2.2)]) (fun g => l.length - g.1) (0, S.w0.heap.size, []) ⟨Nat.zero_le _, rfl, Nat.le_refl _, Fam.blank rfl⟩ ?_ (ai.cons rfl (ai.cons rfl ai.nil)) (fun g hR => ?_) <;> (conv => whnf)
 ·exact whd
 ·obtain ⟨k, m, cs⟩ := g
  obtain ⟨hk, hcs, hm, hF⟩ := hR
  simp only at hk hcs hm hF
  repeat' (first | (refine aw0 ?_) | (refine awx ?_; conv => whnf) | fail | (refine AIx.mapF ari (fun hlt => ?_); conv => whnf) | (refine aa.fresh (kY _ (hs.2 _ (List.getElem_mem hlt))) rfl rfl fun R lo hi a1 a2 F => ?_; conv => whnf) | (refine bx (by simp only [hcs, List.length_cons, List.length_nil]; omega) ?_; conv => whnf) | (refine AW.i64 ari ari ?_; conv => whnf) | (exact rr) | (refine And.intro rfl ?_; conv => whnf) | (refine cc.mk ?_ ?_ <;> (conv => whnf)) | (refine AB.mk (fun h => ?_) (fun h => ?_) <;> (conv => whnf)))
  ·have a1 : m ≤ lo := a1
   refine aF.mk ⟨(k + 1, hi, cs ++ [dt R 0 (cG l[k])]), ⟨by simp only; omega, by simp [hcs], by simp only; omega, ?_⟩, by simp only; omega, ?_, ai.cons rfl (ai.cons rfl ai.nil)⟩
   ·simp only
    rw [cu cG (by omega)]
    exact hF.flat_set F (by omega) (by omega) (by omega)
   ·exact hds
  ·have : k = l.length := ari
   subst this
   refine ⟨_, m, l.map cG, Nat.le_refl _, ?_, by simp [hcs], alW, rfl⟩
   rw [List.take_length] at hF
   exact hF
theorem nO (x : DDisk) (hs : DDisk.small 1048576 x) : bk av 253 [.agg x.ds] (.agg x.ds) := by
 obtain ⟨h1, h2, h3, h4⟩ := (show x.kept.length ≤ 1048576 ∧ (∀ y ∈ x.kept, y.length ≤ 1048576) ∧ x.wait.length ≤ 1048576 ∧ (∀ y ∈ x.wait, DWrite.small 1048576 y) from hs)
 refine bh ah Tryz.func253 rfl Tryz.call253 Tryz.ntmps253 (congrArg Array.toList Tryz.results253) fun S => ?_; conv => whnf
 repeat' (first | (refine aw0 ?_) | (refine awx ?_; conv => whnf) | fail | (refine aa.fresh (zV x.kept ⟨h1, h2⟩) rfl rfl fun R1 l1 e1 a1 b1 F1 => ?_; conv => whnf) | (exact rr) | (refine And.intro rfl ?_; conv => whnf) | (refine cc.mk ?_ ?_ <;> (conv => whnf)) | (refine AB.mk (fun h => ?_) (fun h => ?_) <;> (conv => whnf)))
 refine AWP.nilRow 3 1 26 289 2 (by decide) ?_
 conv => whnf
 repeat' (first | (refine aw0 ?_) | (refine awx ?_; conv => whnf) | fail | (exact rr) | (refine And.intro rfl ?_; conv => whnf) | (refine cc.mk ?_ ?_ <;> (conv => whnf)) | (refine AB.mk (fun h => ?_) (fun h => ?_) <;> (conv => whnf)))
 refine AWP.loopS (fun g : Nat × Nat × List (List AD) => g.1 ≤ x.wait.length ∧ g.2.2.length = g.1 ∧ e1 ≤ g.2.1 ∧ Fam e1 g.2.1 g.2.2.flatten ((x.wait.take g.1).map DWrite.ds).flatten) [5, 13, 14, 15, 16, 17, 18, 19, 20, 21, 22, 23, 24, 25, 26, 27, 28] (fun g => [(13, vI .i64 (g.1 : Int))]) (fun g => [(9997, cN S.w0.heap.size g.2.1), (1, .cells 69 (x.ds.map .d)), (2, .cells 69 [.nil, .nil]), (3, .cells 69 [.d (.x (R1 0)), .own 26]), (26, .row 289 2 g.2.2)]) (fun g => x.wait.length - g.1) (0, e1, []) ⟨Nat.zero_le _, rfl, Nat.le_refl _, Fam.blank rfl⟩ ?_ (ai.cons rfl (ai.cons rfl (ai.cons rfl (ai.cons rfl (ai.cons rfl ai.nil))))) (fun g hR => ?_) <;> (conv => whnf)
 ·exact whd
 ·obtain ⟨k, m, cs⟩ := g
  obtain ⟨hk, hcs, hm, hF⟩ := hR
  simp only at hk hcs hm hF
  repeat' (first | (refine aw0 ?_) | (refine awx ?_; conv => whnf) | fail | (refine AIx.mapF ari (fun hlt => ?_); conv => whnf) | (refine AW.i64 ari ari ?_; conv => whnf) | (exact rr) | (refine And.intro rfl ?_; conv => whnf) | (refine cc.mk ?_ ?_ <;> (conv => whnf)) | (refine AB.mk (fun h => ?_) (fun h => ?_) <;> (conv => whnf)))
  ·(refine AWP.drawT ah 5 (.take 0 (.take 2 (.take 3 (.take 4 (.take 5 (.two 1 (.one 6 (.one 7 (.one 8 (.one 9 (.take 10 (.one 11 .done)))))) 6 (.two 1 (.one 7 (.one 8 (.one 9 (.take 10 (.one 11 .done))))) 7 (.two 1 (.one 8 (.one 9 (.take 10 (.one 11 .done)))) 8 (.one 1 (.one 9 (.take 10 (.one 11 .done)))))))))))) [(5, 9980)] ks (by kernel_rfl) (by kernel_rfl) (by kernel_rfl) (by kernel_rfl) (fun Rz => ?_); (conv => whnf); intro bp0 up0; (conv => whnf))
   repeat' (first | (refine aw0 ?_) | (refine awx ?_; conv => whnf) | fail | (refine aa.fresh (kY _ (h4 _ (List.getElem_mem hlt))) rfl rfl fun R lo hi a1 a2 F => ?_; conv => whnf) | (refine bx (by simp only [hcs, List.length_cons, List.length_nil]; omega) ?_; conv => whnf) | (refine AW.i64 ari ari ?_; conv => whnf) | (exact rr) | (refine And.intro rfl ?_; conv => whnf) | (refine cc.mk ?_ ?_ <;> (conv => whnf)) | (refine AB.mk (fun h => ?_) (fun h => ?_) <;> (conv => whnf)))
   all_goals
    have a1 : m ≤ lo := a1
    refine aF.mk ⟨(k + 1, hi, cs ++ [[dI x.wait[k].at_, .x (R 0)]]), ⟨by simp only; omega, by simp [hcs], by simp only; omega, ?_⟩, by simp only; omega, ?_, ai.cons rfl (ai.cons rfl (ai.cons rfl (ai.cons rfl (ai.cons rfl ai.nil))))⟩
    ·simp only
     rw [cu DWrite.ds (by omega)]
     exact hF.flat_set (Fam.app (Fam.blank (lo := lo) (hi := lo) (ds := [dI x.wait[k].at_]) rfl) F (by omega) (by omega) (by omega)) (by omega) (by omega) (by omega)
    ·exact hds
  ·have : k = x.wait.length := ari
   subst this
   rw [List.take_length] at hF
   repeat' (first | (refine aw0 ?_) | (refine awx ?_; conv => whnf) | fail | (refine fh.fam hF (by simp [hcs]) alW ?_; conv => whnf) | (exact rr) | (refine And.intro rfl ?_; conv => whnf) | (refine cc.mk ?_ ?_ <;> (conv => whnf)) | (refine AB.mk (fun h => ?_) (fun h => ?_) <;> (conv => whnf)))
   exact ⟨_, _, _, ⟨by omega, ⟨.inl (by simp only; omega), trivial⟩, by omega, trivial, trivial⟩, F1, rfl⟩
theorem Ch (x : DTwo) (hs : DTwo.small 1048576 x) : bk av 249 [.agg x.ds] (.agg x.ds) := by
 refine bh ah Tryz.func249 rfl Tryz.call249 Tryz.ntmps249 (congrArg Array.toList Tryz.results249) fun S => ?_; conv => whnf
 repeat' (first | (refine aw0 ?_) | (refine awx ?_; conv => whnf) | fail | (exact rr) | (refine And.intro rfl ?_; conv => whnf) | (refine cc.mk ?_ ?_ <;> (conv => whnf)) | (refine AB.mk (fun h => ?_) (fun h => ?_) <;> (conv => whnf)))
 (refine AWP.drawT ah 1 (.take 0 (.take 1 (.take 3 (.take 4 (.one 2 (.one 5 (.one 6 (.one 7 .done)))))))) [(1, 9980)] lS (by kernel_rfl) (by kernel_rfl) (by kernel_rfl) (by kernel_rfl) (fun Rz => ?_); (conv => whnf); intro bp0 up0; (conv => whnf))
 repeat' (first | (refine aw0 ?_) | (refine awx ?_; conv => whnf) | fail | (refine aa.fresh (nO x.a hs.1) rfl rfl fun R1 l1 e1 a1 b1 F1 => ?_; conv => whnf) | (refine aa.fresh (nO x.b hs.2) rfl rfl fun R2 l2 e2 a2 b2 F2 => ?_; conv => whnf) | (refine bx (by simp only [List.length_map, List.length_nil, List.length_append, List.length_cons, List.length_take] <;> omega) ?_; conv => whnf) | (refine br alW ?_; conv => whnf) | (refine fh.bl bls ?_; conv => whnf) | (exact rr) | (refine And.intro rfl ?_; conv => whnf) | (refine cc.mk ?_ ?_ <;> (conv => whnf)) | (refine AB.mk (fun h => ?_) (fun h => ?_) <;> (conv => whnf)))
 exact ⟨_, _, _, ⟨(by omega : S.w0.heap.size ≤ l1), trivial, trivial⟩, (Fam.app F1 F2 (by omega) (by omega) (by omega)), rfl⟩
theorem sj (x : DHead) (hs : DHead.small 1048576 x) : bk av 250 [.agg x.ds] (.agg x.ds) := by
 have h1 : x.seen.length ≤ 1048576 := hs
 refine bh ah Tryz.func250 rfl Tryz.call250 Tryz.ntmps250 (congrArg Array.toList Tryz.results250) fun S => ?_; conv => whnf
 repeat' (first | (refine aw0 ?_) | (refine awx ?_; conv => whnf) | fail | (exact rr) | (refine And.intro rfl ?_; conv => whnf) | (refine cc.mk ?_ ?_ <;> (conv => whnf)) | (refine AB.mk (fun h => ?_) (fun h => ?_) <;> (conv => whnf)))
 (refine AWP.drawT ah 1 (.take 0 (.take 1 (.take 2 (.take 3 (.take 4 (.take 5 (.take 6 (.take 7 (.one 8 (.one 9 (.one 10 .done))))))))))) [(1, 9980)] kt (by kernel_rfl) (by kernel_rfl) (by kernel_rfl) (by kernel_rfl) (fun Rz => ?_); (conv => whnf); intro bp0 up0; (conv => whnf))
 repeat' (first | (refine aw0 ?_) | (refine awx ?_; conv => whnf) | fail | (refine aa.fresh (sk x.seen h1) rfl rfl fun R1 l1 e1 a1 b1 F1 => ?_; conv => whnf) | (refine bx (by simp only [List.length_map, List.length_nil, List.length_append, List.length_cons, List.length_take] <;> omega) ?_; conv => whnf) | (refine br alW ?_; conv => whnf) | (refine fh.bl bls ?_; conv => whnf) | (exact rr) | (refine And.intro rfl ?_; conv => whnf) | (refine cc.mk ?_ ?_ <;> (conv => whnf)) | (refine AB.mk (fun h => ?_) (fun h => ?_) <;> (conv => whnf)))
 exact ⟨_, _, _, ⟨(by omega : S.w0.heap.size ≤ l1), trivial, trivial⟩, (Fam.app (Fam.blank (lo := l1) (hi := l1) (ds := [dI x.num, dI x.base, dI x.time]) rfl) F1 (by omega) (by omega) (by omega)), rfl⟩
theorem zT (x : DBook) (hs : DBook.small 1048576 x) : bk av 251 [.agg x.ds] (.agg x.ds) := by
 have h1 : x.entries.length ≤ 1048576 := hs
 refine bh ah Tryz.func251 rfl Tryz.call251 Tryz.ntmps251 (congrArg Array.toList Tryz.results251) fun S => ?_; conv => whnf
 repeat' (first | (refine aw0 ?_) | (refine awx ?_; conv => whnf) | fail | (exact rr) | (refine And.intro rfl ?_; conv => whnf) | (refine cc.mk ?_ ?_ <;> (conv => whnf)) | (refine AB.mk (fun h => ?_) (fun h => ?_) <;> (conv => whnf)))
 (refine AWP.drawT ah 1 (.take 0 (.take 1 (.take 2 (.take 3 (.take 5 (.take 6 (.one 4 (.one 7 (.one 8 (.one 9 .done)))))))))) [(1, 9980)] kr (by kernel_rfl) (by kernel_rfl) (by kernel_rfl) (by kernel_rfl) (fun Rz => ?_); (conv => whnf); intro bp0 up0; (conv => whnf))
 repeat' (first | (refine aw0 ?_) | (refine awx ?_; conv => whnf) | fail | (refine bx (by simp only [List.length_map, List.length_nil, List.length_append, List.length_cons, List.length_take] <;> omega) ?_; conv => whnf) | (refine br alW ?_; conv => whnf) | (refine fh.bl bls ?_; conv => whnf) | (exact rr) | (refine And.intro rfl ?_; conv => whnf) | (refine cc.mk ?_ ?_ <;> (conv => whnf)) | (refine AB.mk (fun h => ?_) (fun h => ?_) <;> (conv => whnf)))
 all_goals exact ⟨_, _, _, ⟨Nat.le_refl S.w0.heap.size, trivial, trivial⟩, (Fam.blank (lo := S.w0.heap.size) (hi := S.w0.heap.size) (ds := [dI x.base, dI x.time]) rfl), rfl⟩
set_option maxHeartbeats 4000000 in
theorem Ce (x : DLogNode) (hs : DLogNode.small 1048576 x) : bk av 174 [.agg x.ds] (.agg x.ds) := by
 obtain ⟨h1, h2, h3, h4, h5, h6⟩ := (show DTwo.small 1048576 x.two ∧ DHead.small 1048576 x.head ∧ DHead.small 1048576 x.nxt ∧ DBook.small 1048576 x.book ∧ x.seen.length ≤ 1048576 ∧ x.owe.length ≤ 1048576 from hs)
 refine bh ah Tryz.func174 rfl Tryz.call174 Tryz.ntmps174 (congrArg Array.toList Tryz.results174) fun S => ?_; conv => whnf
 repeat' (first | (refine aw0 ?_) | (refine awx ?_; conv => whnf) | fail | (exact rr) | (refine And.intro rfl ?_; conv => whnf) | (refine cc.mk ?_ ?_ <;> (conv => whnf)) | (refine AB.mk (fun h => ?_) (fun h => ?_) <;> (conv => whnf)))
 (refine AWP.drawT ah 1 (.take 0 (.take 1 (.take 3 (.take 4 (.take 6 (.take 7 (.take 9 (.take 10 (.take 11 (.take 12 (.take 14 (.take 15 (.take 17 (.take 18 (.take 20 (.take 21 (.two 2 (.two 5 (.two 8 (.two 13 (.two 16 (.one 19 (.one 22 (.one 23 (.one 24 .done)))) 19 (.one 16 (.one 22 (.one 23 (.one 24 .done))))) 19 (.one 13 (.one 16 (.one 22 (.one 23 (.one 24 .done)))))) 19 (.one 8 (.one 13 (.one 16 (.one 22 (.one 23 (.one 24 .done))))))) 19 (.one 5 (.one 8 (.one 13 (.one 16 (.one 22 (.one 23 (.one 24 .done)))))))) 19 (.one 2 (.one 5 (.one 8 (.one 13 (.one 16 (.one 22 (.one 23 (.one 24 .done))))))))))))))))))))))))) [(1, 9980)] lP (by kernel_rfl) (by kernel_rfl) (by kernel_rfl) (by kernel_rfl) (fun Rz => ?_); (conv => whnf); intro bp0 up0; (conv => whnf))
 repeat' (first | (refine aw0 ?_) | (refine awx ?_; conv => whnf) | fail | (refine aa.fresh (Ch x.two h1) rfl rfl fun R1 l1 e1 a1 b1 F1 => ?_; conv => whnf) | (refine aa.fresh (sj x.head h2) rfl rfl fun R2 l2 e2 a2 b2 F2 => ?_; conv => whnf) | (refine aa.fresh (sj x.nxt h3) rfl rfl fun R3 l3 e3 a3 b3 F3 => ?_; conv => whnf) | (refine aa.fresh (zT x.book h4) rfl rfl fun R4 l4 e4 a4 b4 F4 => ?_; conv => whnf) | (refine aa.fresh (sk x.seen h5) rfl rfl fun R5 l5 e5 a5 b5 F5 => ?_; conv => whnf) | (refine bx (by simp only [List.length_map, List.length_nil, List.length_append, List.length_cons, List.length_take] <;> omega) ?_; conv => whnf) | (refine br alW ?_; conv => whnf) | (refine fh.bl bls ?_; conv => whnf) | (exact rr) | (refine And.intro rfl ?_; conv => whnf) | (refine cc.mk ?_ ?_ <;> (conv => whnf)) | (refine AB.mk (fun h => ?_) (fun h => ?_) <;> (conv => whnf)))
 all_goals exact ⟨_, _, _, ⟨(by omega : S.w0.heap.size ≤ l1), trivial, trivial⟩, (Fam.app (Fam.app (Fam.app (Fam.app (Fam.app (Fam.app F1 F2 (by omega) (by omega) (by omega)) F3 (by omega) (by omega) (by omega)) (Fam.blank (lo := e3) (hi := e3) (ds := [dB x.more]) rfl) (by omega) (by omega) (by omega)) F4 (by omega) (by omega) (by omega)) F5 (by omega) (by omega) (by omega)) (Fam.blank (lo := e5) (hi := e5) (ds := [dI x.durable]) rfl) (by omega) (by omega) (by omega)), rfl⟩
theorem yl (x : DState) (hs : DState.small 1048576 x) : bk av 254 [.agg x.ds] (.agg x.ds) := by
 obtain ⟨h1, h2⟩ := (show x.pairs.length ≤ 1048576 ∧ x.jobs.length ≤ 1048576 from hs)
 refine bh ah Tryz.func254 rfl Tryz.call254 Tryz.ntmps254 (congrArg Array.toList Tryz.results254) fun S => ?_; conv => whnf
 repeat' (first | (refine aw0 ?_) | (refine awx ?_; conv => whnf) | fail | (exact rr) | (refine And.intro rfl ?_; conv => whnf) | (refine cc.mk ?_ ?_ <;> (conv => whnf)) | (refine AB.mk (fun h => ?_) (fun h => ?_) <;> (conv => whnf)))
 (refine AWP.drawT ah 1 (.take 0 (.take 1 (.take 2 (.take 3 (.take 4 (.take 5 (.take 7 (.take 8 (.take 10 (.take 11 (.one 6 (.one 9 (.one 12 (.one 13 .done)))))))))))))) [(1, 9980)] jz (by kernel_rfl) (by kernel_rfl) (by kernel_rfl) (by kernel_rfl) (fun Rz => ?_); (conv => whnf); intro bp0 up0; (conv => whnf))
 repeat' (first | (refine aw0 ?_) | (refine awx ?_; conv => whnf) | fail | (refine aa.fresh (yk x.pairs h1) rfl rfl fun R1 l1 e1 a1 b1 F1 => ?_; conv => whnf) | (refine aa.fresh (zU x.jobs h2) rfl rfl fun R2 l2 e2 a2 b2 F2 => ?_; conv => whnf) | (refine bx (by simp only [List.length_map, List.length_nil, List.length_append, List.length_cons, List.length_take] <;> omega) ?_; conv => whnf) | (refine br alW ?_; conv => whnf) | (refine fh.bl bls ?_; conv => whnf) | (exact rr) | (refine And.intro rfl ?_; conv => whnf) | (refine cc.mk ?_ ?_ <;> (conv => whnf)) | (refine AB.mk (fun h => ?_) (fun h => ?_) <;> (conv => whnf)))
 exact ⟨_, _, _, ⟨(by omega : S.w0.heap.size ≤ l1), trivial, trivial⟩, (Fam.app (Fam.app (Fam.app (Fam.blank (lo := l1) (hi := l1) (ds := [dI x.index, dI x.time]) rfl) F1 (by omega) (by omega) (by omega)) F2 (by omega) (by omega) (by omega)) (Fam.blank (lo := e2) (hi := e2) (ds := [dI x.lease.holder, dI x.lease.epoch, dI x.lease.til]) rfl) (by omega) (by omega) (by omega)), rfl⟩
theorem ym (x : DStore) (hs : DStore.small 1048576 x) : bk av 175 [.agg x.ds] (.agg x.ds) := by
 obtain ⟨h1, h2⟩ := (show DDisk.small 1048576 x.disk ∧ DState.small 1048576 x.state from hs)
 refine bh ah Tryz.func175 rfl Tryz.call175 Tryz.ntmps175 (congrArg Array.toList Tryz.results175) fun S => ?_; conv => whnf
 repeat' (first | (refine aw0 ?_) | (refine awx ?_; conv => whnf) | fail | (exact rr) | (refine And.intro rfl ?_; conv => whnf) | (refine cc.mk ?_ ?_ <;> (conv => whnf)) | (refine AB.mk (fun h => ?_) (fun h => ?_) <;> (conv => whnf)))
 (refine AWP.drawT ah 1 (.take 0 (.take 1 (.take 3 (.take 4 (.take 6 (.take 7 (.take 8 (.take 9 (.take 10 (.take 11 (.one 2 (.one 5 (.one 12 (.one 13 .done)))))))))))))) [(1, 9980)] jA (by kernel_rfl) (by kernel_rfl) (by kernel_rfl) (by kernel_rfl) (fun Rz => ?_); (conv => whnf); intro bp0 up0; (conv => whnf))
 repeat' (first | (refine aw0 ?_) | (refine awx ?_; conv => whnf) | fail | (refine aa.fresh (nO x.disk h1) rfl rfl fun R1 l1 e1 a1 b1 F1 => ?_; conv => whnf) | (refine aa.fresh (yl x.state h2) rfl rfl fun R2 l2 e2 a2 b2 F2 => ?_; conv => whnf) | (refine bx (by simp only [List.length_map, List.length_nil, List.length_append, List.length_cons, List.length_take] <;> omega) ?_; conv => whnf) | (refine br alW ?_; conv => whnf) | (refine fh.bl bls ?_; conv => whnf) | (exact rr) | (refine And.intro rfl ?_; conv => whnf) | (refine cc.mk ?_ ?_ <;> (conv => whnf)) | (refine AB.mk (fun h => ?_) (fun h => ?_) <;> (conv => whnf)))
 exact ⟨_, _, _, ⟨(by omega : S.w0.heap.size ≤ l1), trivial, trivial⟩, (Fam.app (Fam.app F1 F2 (by omega) (by omega) (by omega)) (Fam.blank (lo := e2) (hi := e2) (ds := [dI x.num, dI x.last, dI x.busy]) rfl) (by omega) (by omega) (by omega)), rfl⟩
theorem zW (x : DView) (hs : DView.small 1048576 x) : bk av 255 [.agg x.ds] (.agg x.ds) := by
 have h1 : x.jobs.opens.length ≤ 1048576 := hs
 refine bh ah Tryz.func255 rfl Tryz.call255 Tryz.ntmps255 (congrArg Array.toList Tryz.results255) fun S => ?_; conv => whnf
 repeat' (first | (refine aw0 ?_) | (refine awx ?_; conv => whnf) | fail | (refine bx (by simp only [List.length_map, List.length_nil, List.length_append, List.length_cons, List.length_take] <;> omega) ?_; conv => whnf) | (refine br alW ?_; conv => whnf) | (refine fh.bl bls ?_; conv => whnf) | (exact rr) | (refine And.intro rfl ?_; conv => whnf) | (refine cc.mk ?_ ?_ <;> (conv => whnf)) | (refine AB.mk (fun h => ?_) (fun h => ?_) <;> (conv => whnf)))
 exact ⟨_, _, _, ⟨Nat.le_refl S.w0.heap.size, trivial, trivial⟩, (Fam.blank (lo := S.w0.heap.size) (hi := S.w0.heap.size) (ds := [dI x.jobs.index, dI x.jobs.time, dI x.jobs.holder, dI x.jobs.epoch, dI x.jobs.til]) rfl), rfl⟩
theorem qL (x : DSched) (hs : DSched.small 1048576 x) : bk av 176 [.agg x.ds] (.agg x.ds) := by
 refine bh ah Tryz.func176 rfl Tryz.call176 Tryz.ntmps176 (congrArg Array.toList Tryz.results176) fun S => ?_; conv => whnf
 repeat' (first | (refine aw0 ?_) | (refine awx ?_; conv => whnf) | fail | (refine aa.fresh (zW x.view hs) rfl rfl fun R1 l1 e1 a1 b1 F1 => ?_; conv => whnf) | (refine bx (by simp only [List.length_map, List.length_nil, List.length_append, List.length_cons, List.length_take] <;> omega) ?_; conv => whnf) | (refine br alW ?_; conv => whnf) | (refine fh.bl bls ?_; conv => whnf) | (exact rr) | (refine And.intro rfl ?_; conv => whnf) | (refine cc.mk ?_ ?_ <;> (conv => whnf)) | (refine AB.mk (fun h => ?_) (fun h => ?_) <;> (conv => whnf)))
 exact ⟨_, _, _, ⟨(by omega : S.w0.heap.size ≤ l1), trivial, trivial⟩, (Fam.app (Fam.app (Fam.blank (lo := l1) (hi := l1) (ds := [dI x.id, dI x.seq]) rfl) F1 (by omega) (by omega) (by omega)) (Fam.blank (lo := e1) (hi := e1) (ds := [dB x.busy, dI x.op.kind, dI x.op.a, dI x.op.b, dI x.op.c, dI x.op.d, dI x.index]) rfl) (by omega) (by omega) (by omega)), rfl⟩
theorem pC (x : DClient) (hs : DClient.small 1048576 x) : bk av 177 [.agg x.ds] (.agg x.ds) := by
 obtain ⟨h1, h2⟩ := (show x.todo.length ≤ 1048576 ∧ x.gots.length ≤ 1048576 from hs)
 refine bh ah Tryz.func177 rfl Tryz.call177 Tryz.ntmps177 (congrArg Array.toList Tryz.results177) fun S => ?_; conv => whnf
 repeat' (first | (refine aw0 ?_) | (refine awx ?_; conv => whnf) | fail | (exact rr) | (refine And.intro rfl ?_; conv => whnf) | (refine cc.mk ?_ ?_ <;> (conv => whnf)) | (refine AB.mk (fun h => ?_) (fun h => ?_) <;> (conv => whnf)))
 (refine AWP.drawT ah 1 (.take 0 (.take 1 (.take 3 (.take 4 (.take 7 (.take 8 (.take 10 (.take 11 (.two 2 (.two 5 (.one 6 (.one 9 (.one 12 (.one 13 .done)))) 6 (.one 5 (.one 9 (.one 12 (.one 13 .done))))) 6 (.one 2 (.one 5 (.one 9 (.one 12 (.one 13 .done)))))))))))))) [(1, 9980)] jo (by kernel_rfl) (by kernel_rfl) (by kernel_rfl) (by kernel_rfl) (fun Rz => ?_); (conv => whnf); intro bp0 up0; (conv => whnf))
 repeat' (first | (refine aw0 ?_) | (refine awx ?_; conv => whnf) | fail | (refine bx (by simp only [List.length_map, List.length_nil, List.length_append, List.length_cons, List.length_take] <;> omega) ?_; conv => whnf) | (refine br alW ?_; conv => whnf) | (refine fh.bl bls ?_; conv => whnf) | (exact rr) | (refine And.intro rfl ?_; conv => whnf) | (refine cc.mk ?_ ?_ <;> (conv => whnf)) | (refine AB.mk (fun h => ?_) (fun h => ?_) <;> (conv => whnf)))
 all_goals exact ⟨_, _, _, ⟨Nat.le_refl S.w0.heap.size, trivial, trivial⟩, (Fam.blank (lo := S.w0.heap.size) (hi := S.w0.heap.size) (ds := [dI x.id, dI x.last]) rfl), rfl⟩
theorem Cg (x : DNet) (hs : DNet.small 1048576 x) : bk av 178 [.agg x.ds] (.agg x.ds) := by
 obtain ⟨h1, h2, h3⟩ := (show x.flight.length ≤ 1048576 ∧ (∀ y ∈ x.flight, DMsg.small 1048576 y) ∧ x.cuts.length ≤ 1048576 from hs)
 refine bh ah Tryz.func178 rfl Tryz.call178 Tryz.ntmps178 (congrArg Array.toList Tryz.results178) fun S => ?_; conv => whnf
 repeat' (first | (refine aw0 ?_) | (refine awx ?_; conv => whnf) | fail | (refine bx (by simp only [List.length_map, List.length_nil, List.length_append, List.length_cons, List.length_take] <;> omega) ?_; conv => whnf) | (refine br alW ?_; conv => whnf) | (exact rr) | (refine And.intro rfl ?_; conv => whnf) | (refine cc.mk ?_ ?_ <;> (conv => whnf)) | (refine AB.mk (fun h => ?_) (fun h => ?_) <;> (conv => whnf)))
 refine AWP.nilRow 3 0 23 222 3 (by decide) ?_
 conv => whnf
 repeat' (first | (refine aw0 ?_) | (refine awx ?_; conv => whnf) | fail | (exact rr) | (refine And.intro rfl ?_; conv => whnf) | (refine cc.mk ?_ ?_ <;> (conv => whnf)) | (refine AB.mk (fun h => ?_) (fun h => ?_) <;> (conv => whnf)))
 refine AWP.loopS (fun g : Nat × Nat × List (List AD) => g.1 ≤ x.flight.length ∧ g.2.2.length = g.1 ∧ S.w0.heap.size ≤ g.2.1 ∧ Fam S.w0.heap.size g.2.1 g.2.2.flatten ((x.flight.take g.1).map DMsg.ds).flatten) [5, 14, 15, 16, 17, 18, 19, 20, 21, 22, 23, 24, 25] (fun g => [(14, vI .i64 (g.1 : Int))]) (fun g => [(9997, cN S.w0.heap.size g.2.1), (1, .cells 103 (x.ds.map .d)), (2, .cells 103 [.nil, .nil]), (3, .cells 103 [.own 23, .own 6]), (6, .row 224 2 (x.cuts.map DLink.ds)), (23, .row 222 3 g.2.2)]) (fun g => x.flight.length - g.1) (0, S.w0.heap.size, []) ⟨Nat.zero_le _, rfl, Nat.le_refl _, Fam.blank rfl⟩ ?_ (ai.cons rfl (ai.cons rfl (ai.cons rfl (ai.cons rfl (ai.cons rfl (ai.cons rfl ai.nil)))))) (fun g hR => ?_) <;> (conv => whnf)
 ·exact whd
 ·obtain ⟨k, m, cs⟩ := g
  obtain ⟨hk, hcs, hm, hF⟩ := hR
  simp only at hk hcs hm hF
  repeat' (first | (refine aw0 ?_) | (refine awx ?_; conv => whnf) | fail | (refine AIx.mapF ari (fun hlt => ?_); conv => whnf) | (refine AW.i64 ari ari ?_; conv => whnf) | (exact rr) | (refine And.intro rfl ?_; conv => whnf) | (refine cc.mk ?_ ?_ <;> (conv => whnf)) | (refine AB.mk (fun h => ?_) (fun h => ?_) <;> (conv => whnf)))
  ·(refine AWP.drawT ah 5 (.take 0 (.take 2 (.two 1 (.one 3 (.one 4 (.one 5 (.take 6 (.one 7 .done))))) 3 (.two 1 (.one 4 (.one 5 (.take 6 (.one 7 .done)))) 4 (.one 1 (.one 5 (.take 6 (.one 7 .done)))))))) [(5, 9980)] lR (by kernel_rfl) (by kernel_rfl) (by kernel_rfl) (by kernel_rfl) (fun Rz => ?_); (conv => whnf); intro bp0 up0; (conv => whnf))
   repeat' (first | (refine aw0 ?_) | (refine awx ?_; conv => whnf) | fail | (refine aa.fresh (Cf _ (h2 _ (List.getElem_mem hlt))) rfl rfl fun R lo hi a1 a2 F => ?_; conv => whnf) | (refine bx (by simp only [hcs, List.length_cons, List.length_nil]; omega) ?_; conv => whnf) | (refine AW.i64 ari ari ?_; conv => whnf) | (exact rr) | (refine And.intro rfl ?_; conv => whnf) | (refine cc.mk ?_ ?_ <;> (conv => whnf)) | (refine AB.mk (fun h => ?_) (fun h => ?_) <;> (conv => whnf)))
   all_goals
    have a1 : m ≤ lo := a1
    refine aF.mk ⟨(k + 1, hi, cs ++ [dt R 0 (DMsg.ds x.flight[k])]), ⟨by simp only; omega, by simp [hcs], by simp only; omega, ?_⟩, by simp only; omega, ?_, ai.cons rfl (ai.cons rfl (ai.cons rfl (ai.cons rfl (ai.cons rfl (ai.cons rfl ai.nil)))))⟩
    ·simp only
     rw [cu DMsg.ds (by omega)]
     exact hF.flat_set F (by omega) (by omega) (by omega)
    ·exact hds
  ·have : k = x.flight.length := ari
   subst this
   rw [List.take_length] at hF
   repeat' (first | (refine aw0 ?_) | (refine awx ?_; conv => whnf) | fail | (refine fh.bl bls ?_; conv => whnf) | (refine fh.fam hF (by simp [hcs]) alW ?_; conv => whnf) | (exact rr) | (refine And.intro rfl ?_; conv => whnf) | (refine cc.mk ?_ ?_ <;> (conv => whnf)) | (refine AB.mk (fun h => ?_) (fun h => ?_) <;> (conv => whnf)))
   exact ⟨S.w0.heap.size, S.w0.heap.size, [], ⟨Nat.le_refl _, ⟨.inl (Nat.le_refl _), trivial⟩, Nat.le_refl _, trivial, trivial⟩, Fam.blank rfl, rfl⟩
set_option maxHeartbeats 8000000 in
theorem qM (x : DWorld) (hs : DWorld.small 1048576 x) : bk av 94 [.agg x.ds] (.agg x.ds) := by
 obtain ⟨h1, h2, h3, h4, h5, h6, h7, h8, h9⟩ := id hs
 refine bh ah Tryz.func94 rfl Tryz.call94 Tryz.ntmps94 (congrArg Array.toList Tryz.results94) fun S => ?_; conv => whnf
 repeat' (first | (refine aw0 ?_) | (refine awx ?_; conv => whnf) | fail | (exact rr) | (refine And.intro rfl ?_; conv => whnf) | (refine cc.mk ?_ ?_ <;> (conv => whnf)) | (refine AB.mk (fun h => ?_) (fun h => ?_) <;> (conv => whnf)))
 (refine AWP.drawT ah 1 (.take 0 (.take 1 (.take 3 (.take 4 (.take 6 (.take 7 (.take 9 (.take 10 (.take 12 (.take 13 (.take 15 (.take 16 (.take 18 (.take 19 (.take 21 (.take 22 (.take 25 (.take 26 (.two 2 (.two 5 (.two 8 (.two 11 (.two 14 (.two 17 (.two 20 (.two 23 (.one 24 (.one 27 (.one 28 (.one 29 .done)))) 24 (.one 23 (.one 27 (.one 28 (.one 29 .done))))) 24 (.one 20 (.one 23 (.one 27 (.one 28 (.one 29 .done)))))) 24 (.one 17 (.one 20 (.one 23 (.one 27 (.one 28 (.one 29 .done))))))) 24 (.one 14 (.one 17 (.one 20 (.one 23 (.one 27 (.one 28 (.one 29 .done)))))))) 24 (.one 11 (.one 14 (.one 17 (.one 20 (.one 23 (.one 27 (.one 28 (.one 29 .done))))))))) 24 (.one 8 (.one 11 (.one 14 (.one 17 (.one 20 (.one 23 (.one 27 (.one 28 (.one 29 .done)))))))))) 24 (.one 5 (.one 8 (.one 11 (.one 14 (.one 17 (.one 20 (.one 23 (.one 27 (.one 28 (.one 29 .done))))))))))) 24 (.one 2 (.one 5 (.one 8 (.one 11 (.one 14 (.one 17 (.one 20 (.one 23 (.one 27 (.one 28 (.one 29 .done)))))))))))))))))))))))))))))) [(1, 9980)] jB (by kernel_rfl) (by kernel_rfl) (by kernel_rfl) (by kernel_rfl) (fun Rz => ?_); (conv => whnf); intro bp0 up0; (conv => whnf))
 repeat' (first | (refine aw0 ?_) | (refine awx ?_; conv => whnf) | fail | (refine aa.fresh (Ce x.log h1) rfl rfl fun R1 l1 e1 a1 b1 F1 => ?_; conv => whnf) | (refine aa.fresh (ym x.store h2) rfl rfl fun R2 l2 e2 a2 b2 F2 => ?_; conv => whnf) | (refine aa.fresh (qL x.left h3) rfl rfl fun R3 l3 e3 a3 b3 F3 => ?_; conv => whnf) | (refine aa.fresh (qL x.right h4) rfl rfl fun R4 l4 e4 a4 b4 F4 => ?_; conv => whnf) | (refine aa.fresh (pC x.ann h5) rfl rfl fun R5 l5 e5 a5 b5 F5 => ?_; conv => whnf) | (refine aa.fresh (pC x.bob h6) rfl rfl fun R6 l6 e6 a6 b6 F6 => ?_; conv => whnf) | (refine aa.fresh (Cg x.net h7) rfl rfl fun R7 l7 e7 a7 b7 F7 => ?_; conv => whnf) | (refine aa.fresh (kY x.clocks h8) rfl rfl fun R8 l8 e8 a8 b8 F8 => ?_; conv => whnf) | (refine bx (by simp only [List.length_map, List.length_nil, List.length_append, List.length_cons, List.length_take] <;> omega) ?_; conv => whnf) | (refine br alW ?_; conv => whnf) | (refine fh.bl bls ?_; conv => whnf) | (exact rr) | (refine And.intro rfl ?_; conv => whnf) | (refine cc.mk ?_ ?_ <;> (conv => whnf)) | (refine AB.mk (fun h => ?_) (fun h => ?_) <;> (conv => whnf)))
 all_goals exact ⟨_, _, _, ⟨(by omega : S.w0.heap.size ≤ l1), trivial, trivial⟩, (Fam.app (Fam.app (Fam.app (Fam.app (Fam.app (Fam.app (Fam.app F1 F2 (by omega) (by omega) (by omega)) F3 (by omega) (by omega) (by omega)) F4 (by omega) (by omega) (by omega)) F5 (by omega) (by omega) (by omega)) F6 (by omega) (by omega) (by omega)) F7 (by omega) (by omega) (by omega)) F8 (by omega) (by omega) (by omega)), rfl⟩
end Go.Proofs.YtcmknngafflcnaaGreat
