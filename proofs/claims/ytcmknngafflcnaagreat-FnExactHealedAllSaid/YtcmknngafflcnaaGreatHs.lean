/- Hs -/
import Derived.Test.YtcmknngafflcnaaGreatTi
import Derived.Test.YtcmknngafflcnaaGreatWCq
set_option linter.unusedVariables false
set_option linter.unusedSimpArgs false
set_option maxRecDepth 100000
namespace Go.Proofs.YtcmknngafflcnaaGreat
open Go.ChangeShapes Go.WideShapes Go.RowKit
def kA : List (List Nat) := bA [0, 1, 0, 0, 4, 324, 2165064006, 487563735106]
def kL : List (List Nat) := bQ 6 [720, 721, 710, 26, 53, 134]
theorem yN (x : DWorld) (hs : DWorld.small 1048576 x) : ak av 6 [.agg x.ds] (.val (.agg (cq x).ds)) := by
  cases hw : fg x with
  | false =>
    have hn : (!fg x) = true := by rw [hw]; rfl
    have e : cq x = gb := by simp [cq, hw]
    rw [e]
    refine ac ah Tryz.func6 rfl Tryz.call6 Tryz.ntmps6 (congrArg Array.toList Tryz.results6) fun S => ?_; conv => whnf
    repeat' (first | (refine aw0 ?_) | (refine awx ?_; conv => whnf) | fail | (refine aa.pure (eE x hs) rfl ?_; conv => whnf) | (refine ae.mk ⟨_, _, eE x hs, .inl rfl, ?_⟩; conv => whnf) | (exact rr) | (refine And.intro rfl ?_; conv => whnf) | (refine AB.mk (fun h => ?_) (fun h => ?_) <;> (conv => whnf)))
    all_goals rfl
  | true =>
    have hn : (!fg x) = false := by rw [hw]; rfl
    have e : cq x = { x with net := ⟨x.net.flight, []⟩ } := by simp [cq, hw]
    rw [e]
    refine ac ah Tryz.func6 rfl Tryz.call6 Tryz.ntmps6 (congrArg Array.toList Tryz.results6) fun S => ?_; conv => whnf
    repeat' (first | (refine aw0 ?_) | (refine awx ?_; conv => whnf) | fail | (refine aa.pure (eE x hs) rfl ?_; conv => whnf) | (refine ae.mk ⟨_, _, eE x hs, .inl rfl, ?_⟩; conv => whnf) | (refine aa.pure ((qb x hs).pcall) rfl ?_; conv => whnf) | (refine ae.mk ⟨_, _, (qb x hs).pcall, .inl rfl, ?_⟩; conv => whnf) | (exact rr) | (refine And.intro rfl ?_; conv => whnf) | (refine AB.mk (fun h => ?_) (fun h => ?_) <;> (conv => whnf)))
    all_goals rfl
theorem A3 (a b : Int) : ak av 54 [pI a, pI b] (rI (if b < a then b else a)) := by
  refine ac ah Tryz.func54 rfl Tryz.call54 Tryz.ntmps54 (congrArg Array.toList Tryz.results54) fun S => ?_; conv => whnf
  repeat' (first | (refine aw0 ?_) | (refine awx ?_; conv => whnf) | fail | (exact rr) | (refine And.intro rfl ?_; conv => whnf) | (refine AB.mk (fun h => ?_) (fun h => ?_) <;> (conv => whnf)))
  all_goals
    simp only [decide_eq_true_eq, decide_eq_false_iff_not] at *
    first
      | (rw [if_neg (by omega)]; done)
      | (rw [if_pos (by omega)]; done)
      | (have e : a = b := by omega
         subst e
         simp)
      | (split
         · rfl
         · have e : a = b := by omega
           rw [e])
set_option maxHeartbeats 4000000 in
theorem AT (x : DWorld) (hs : DWorld.small 1048576 x) : bk av 12 [.agg x.ds] (.agg (dw x).ds) := by
  cases hw : fg x with
  | false =>
    have hn : (!fg x) = true := by rw [hw]; rfl
    have e : dw x = gb := by simp [dw, hw]
    rw [e]
    refine bh ah Tryz.func12 rfl Tryz.call12 Tryz.ntmps12 (congrArg Array.toList Tryz.results12) fun S => ?_; conv => whnf
    repeat' (first | (refine aw0 ?_) | (refine awx ?_; conv => whnf) | fail | (refine aa.pure (eE x hs) rfl ?_; conv => whnf) | (refine ae.mk ⟨_, _, eE x hs, .inl rfl, ?_⟩; conv => whnf) | (exact rr) | (refine And.intro rfl ?_; conv => whnf) | (refine AB.mk (fun h => ?_) (fun h => ?_) <;> (conv => whnf)))
    exact ⟨S.w0.heap.size, S.w0.heap.size, _, ⟨Nat.le_refl _, trivial, trivial⟩, Fam.blank rO, rfl⟩
  | true =>
    have hn : (!fg x) = false := by rw [hw]; rfl
    have e : dw x = { x with clocks := oh x.clocks } := by simp [dw, hw]
    have hc : cg x.clocks = true := by
      rw [fp] at hw
      simp only [Bool.and_eq_true] at hw
      exact hw.1.1.1.1.1.1
    obtain ⟨hl, hr⟩ := kx hc
    have hm := Cn hr
    rw [e]
    refine bh ah Tryz.func12 rfl Tryz.call12 Tryz.ntmps12 (congrArg Array.toList Tryz.results12) fun S => ?_; conv => whnf
    repeat' (first | (refine aw0 ?_) | (refine awx ?_; conv => whnf) | fail | (refine aa.pure (eE x hs) rfl ?_; conv => whnf) | (refine ae.mk ⟨_, _, eE x hs, .inl rfl, ?_⟩; conv => whnf) | (exact rr) | (refine And.intro rfl ?_; conv => whnf) | (refine AB.mk (fun h => ?_) (fun h => ?_) <;> (conv => whnf)))
    refine aa.freshO 900 1 (DLogNode.ds x.log ++ DStore.ds x.store ++ DSched.ds x.left ++ DSched.ds x.right ++ DClient.ds x.ann ++ DClient.ds x.bob ++ DNet.ds x.net) [.sl (x.up.map eB)] (x.clocks.map eI) (qb x hs) rfl rfl (by intro h0; rw [List.map_eq_nil_iff] at h0; rw [h0] at hl; cases hl) alW bls fun R l1 e1 t a1 F1 => ?_
    conv => whnf
    repeat' (first | (refine aw0 ?_) | (refine awx ?_; conv => whnf) | fail | (exact rr) | (refine And.intro rfl ?_; conv => whnf) | (refine AB.mk (fun h => ?_) (fun h => ?_) <;> (conv => whnf)))
    refine AWP.loopS (fun k : Nat => k ≤ x.clocks.length) [4, 5, 13, 14, 15, 16, 17, 18, 19, 20, 21, 22, 23, 24, 25, 26] (fun k => [(4, vI .i64 (mxL (x.clocks.take k))), (5, vI .i64 (k : Int))]) (fun k => [(1, .cells 105 (x.ds.map .d)), (2, .cells 105 (gb.ds.map fun d => match d with | .pv v => .d (.pv v) | _ => .nil)), (900, .row t 1 (x.clocks.map eI)), (3, .cells 105 ((dt R 0 (DLogNode.ds x.log ++ DStore.ds x.store ++ DSched.ds x.left ++ DSched.ds x.right ++ DClient.ds x.ann ++ DClient.ds x.bob ++ DNet.ds x.net)).map .d ++ .own 900 :: (dt R 72 [.sl (x.up.map eB)]).map .d))]) (fun k => x.clocks.length - k) 0 (by omega) ?_ (ai.cons rfl (ai.cons rfl (ai.cons rfl (ai.cons rfl ai.nil)))) (fun k hR => ?_) <;> (conv => whnf)
    · exact whd
    · have hmk := Gm hr k
      repeat' (first | (refine aw0 ?_) | (refine awx ?_; conv => whnf) | fail | (refine AIx.mapF ari (fun hlt => ?_); conv => whnf) | (refine aa.pure (rc _ _) rfl ?_; conv => whnf) | (refine ae.mk ⟨_, _, rc _ _, .inl rfl, ?_⟩; conv => whnf) | (refine AW.i64 ari ari ?_; conv => whnf) | (exact rr) | (refine And.intro rfl ?_; conv => whnf) | (refine AB.mk (fun h => ?_) (fun h => ?_) <;> (conv => whnf)))
      · refine aF.mk ⟨k + 1, ari, by omega, ?_, ai.cons rfl (ai.cons rfl (ai.cons rfl (ai.cons rfl ai.nil)))⟩
        rw [yH (l := x.clocks) (k := k) ari]
        exact hds
      · have e2 : k = x.clocks.length := ari
        subst e2
        rw [List.take_length]
        refine AWP.loopS (fun k : Nat => k ≤ x.clocks.length) [6, 27, 28, 29, 30, 31, 32, 33, 34, 35, 36, 37, 38, 39, 40] (fun k => [(6, vI .i64 (k : Int))]) (fun k => [(1, .cells 105 (x.ds.map .d)), (2, .cells 105 (gb.ds.map fun d => match d with | .pv v => .d (.pv v) | _ => .nil)), (900, .row t 1 (wrC x.clocks (BM x.clocks) k)), (3, .cells 105 ((dt R 0 (DLogNode.ds x.log ++ DStore.ds x.store ++ DSched.ds x.left ++ DSched.ds x.right ++ DClient.ds x.ann ++ DClient.ds x.bob ++ DNet.ds x.net)).map .d ++ .own 900 :: (dt R 72 [.sl (x.up.map eB)]).map .d))]) (fun k => x.clocks.length - k) 0 (by omega) ?_ (ai.cons rfl (ai.cons rfl (ai.cons (congrArg some (congrArg (AO.row t 1) (De x.clocks (BM x.clocks)).symm)) (ai.cons rfl ai.nil)))) (fun k hR2 => ?_) <;> (conv => whnf)
        · exact whd
        · have hwl := HX (T := BM x.clocks) hR2
          repeat' (first | (refine aw0 ?_) | (refine awx ?_; conv => whnf) | fail | (refine AW.i64 ari ari ?_; conv => whnf) | (exact rr) | (refine And.intro rfl ?_; conv => whnf) | (refine AB.mk (fun h => ?_) (fun h => ?_) <;> (conv => whnf)))
          · have hlt : k < x.clocks.length := ari
            (refine AWP.drawK ah 12 6 kA kL (by kernel_rfl) (by kernel_rfl) (by kernel_rfl) rfl ?_; conv => whnf)
            repeat' (first | (refine aw0 ?_) | (refine awx ?_; conv => whnf) | fail | (refine aa.pure (A3 _ _) rfl ?_; conv => whnf) | (refine ae.mk ⟨_, _, A3 _ _, .inl rfl, ?_⟩; conv => whnf) | (refine AW.i64 (by omega) (by omega) ?_; conv => whnf) | (refine AIx.at k _ rfl (HF hlt) ?_; conv => whnf) | (refine AW.i64 ari ari ?_; conv => whnf) | (exact rr) | (refine And.intro rfl ?_; conv => whnf) | (refine AB.mk (fun h => ?_) (fun h => ?_) <;> (conv => whnf)))
            refine aF.mk ⟨k + 1, hlt, by omega, ?_, ai.cons rfl (ai.cons rfl (ai.cons (congrArg some (congrArg (AO.row t 1) (FP hlt))) (ai.cons rfl ai.nil)))⟩
            exact hds
          · have e2 : k = x.clocks.length := ari
            subst e2
            rw [FO]
            repeat' (first | (refine aw0 ?_) | (refine awx ?_; conv => whnf) | fail | (refine fh.bl bls ?_; conv => whnf) | (exact rr) | (refine And.intro rfl ?_; conv => whnf) | (refine AB.mk (fun h => ?_) (fun h => ?_) <;> (conv => whnf)))
            exact ⟨l1, e1, _, ⟨a1, trivial, trivial⟩, F1, rfl⟩
theorem AU (x : DWorld) (hs : DWorld.small 1048576 x) : ak av 12 [.agg x.ds] (.val (.agg (dw x).ds)) := (AT x hs).pcall
end Go.Proofs.YtcmknngafflcnaaGreat
