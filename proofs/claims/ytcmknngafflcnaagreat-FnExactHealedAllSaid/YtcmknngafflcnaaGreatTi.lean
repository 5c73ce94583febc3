/- Ti -/
import Derived.Test.YtcmknngafflcnaaGreatHe
set_option linter.unusedVariables false
set_option linter.unusedSimpArgs false
set_option maxRecDepth 100000
namespace Go.Proofs.YtcmknngafflcnaaGreat
open Go.ChangeShapes Go.WideShapes Go.RowKit
def mxL (l : List Int) : Int := l.foldl (fun a b => if b > a then b else a) 0
theorem yH {l : List Int} {k : Nat} (hk : k < l.length) : mxL (l.take (k + 1)) = if l[k] > mxL (l.take k) then l[k] else mxL (l.take k) := by
  unfold mxL
  rw [List.take_succ_eq_append_getElem hk, List.foldl_append]
  rfl
theorem Cn {l : List Int} (h : ∀ x ∈ l, 0 ≤ x ∧ x ≤ 1000000) : 0 ≤ mxL l ∧ mxL l ≤ 1000000 := by
  have key : ∀ (l : List Int) (a : Int), 0 ≤ a ∧ a ≤ 1000000 → (∀ x ∈ l, 0 ≤ x ∧ x ≤ 1000000) → 0 ≤ l.foldl (fun a b => if b > a then b else a) a ∧ l.foldl (fun a b => if b > a then b else a) a ≤ 1000000 := by
    intro l
    induction l with
    | nil => intro a ha _; exact ha
    | cons b r ih =>
      intro a ha h
      rw [List.foldl_cons]
      refine ih _ ?_ fun x hx => h x (by simp [hx])
      have := h b (by simp)
      split <;> omega
  exact key l 0 (by omega) h
theorem kx {l : List Int} (h : cg l = true) : l.length = 6 ∧ ∀ x ∈ l, 0 ≤ x ∧ x ≤ 1000000 := by
  simp only [cg, Bool.and_eq_true, decide_eq_true_eq, List.all_eq_true, tOk, aj] at h
  exact ⟨h.1, fun x hx => h.2 x hx⟩
theorem Gm {l : List Int} (h : ∀ x ∈ l, 0 ≤ x ∧ x ≤ 1000000) (k : Nat) : 0 ≤ mxL (l.take k) ∧ mxL (l.take k) ≤ 1000000 := Cn fun x hx => h x (List.mem_of_mem_take hx)
def BM (l : List Int) : Int := if 1000000 < mxL l + 5 then 1000000 else mxL l + 5
def oh (l : List Int) : List Int := l.map fun _ => BM l
def dw (x : DWorld) : DWorld := if fg x then { x with clocks := oh x.clocks } else gb
theorem Bf {x : DWorld} (hs : DWorld.small 1048576 x) : DWorld.small 1048576 (dw x) := by
  unfold dw
  split
  · obtain ⟨h1, h2, h3, h4, h5, h6, h7, h8, h9⟩ := id hs
    exact ⟨h1, h2, h3, h4, h5, h6, h7, by simpa [oh] using h8, h9⟩
  · exact rl
theorem Ec {x : DWorld} (hc : x.cnt ≤ 1048576) : (dw x).cnt ≤ 1048576 := by
  unfold dw
  split
  · simpa only [DWorld.cnt, oh, List.length_map] using hc
  · have : gb.cnt = 0 := rfl
    omega
def wrC (l : List Int) (T : Int) (k : Nat) : List (List AD) := (List.replicate k T ++ l.drop k).map eI
theorem HX {l : List Int} {T : Int} {k : Nat} (hk : k ≤ l.length) : (wrC l T k).length = l.length := by simp [wrC]; omega
theorem HF {l : List Int} {T : Int} {k : Nat} (hk : k < l.length) : (wrC l T k)[k]? = some (eI l[k]) := by
  rw [wrC, List.getElem?_map, List.getElem?_append_right (by simp), List.length_replicate, Nat.sub_self, List.getElem?_drop, Nat.add_zero, List.getElem?_eq_getElem hk]; rfl
theorem FP {l : List Int} {T : Int} {k : Nat} (hk : k < l.length) : (wrC l T k).set k (eI T) = wrC l T (k + 1) := by
  rw [wrC, wrC, ← List.map_set, List.set_append_right _ _ (by simp), List.length_replicate, Nat.sub_self, List.drop_eq_getElem_cons hk, List.set_cons_zero, List.replicate_succ', List.append_assoc]
  rfl
theorem De (l : List Int) (T : Int) : wrC l T 0 = l.map eI := by simp [wrC]
theorem FO (l : List Int) : wrC l (BM l) l.length = (oh l).map eI := by simp [wrC, oh, List.map_const']
theorem sP (l : List Int) (hl : l.length = 6) (h : ∀ x ∈ l, 0 ≤ x ∧ x ≤ 1000000) : ak av 205 [.one (dIs l)] (.val (pI (mxL l))) := by
  have h0 : (l.take 1).length = 1 := by simp; omega
  have e1 : mxL (l.take 1) = l[0]'(by omega) := by
    have := h (l[0]'(by omega)) (List.getElem_mem _)
    rw [yH (by omega : 0 < l.length)]
    simp only [List.take_zero]
    show (if l[0] > mxL [] then l[0] else mxL []) = l[0]
    have e : mxL [] = 0 := rfl
    rw [e]
    split <;> omega
  refine ac ah Tryz.func205 rfl Tryz.call205 Tryz.ntmps205 (congrArg Array.toList Tryz.results205) fun S => ?_; conv => whnf
  repeat' (first | (refine aw0 ?_) | (refine awx ?_; conv => whnf) | fail | (refine AIx.at 0 (eI (l[0]'(by omega))) rfl (by rw [List.getElem?_map, List.getElem?_eq_getElem (by omega)]; rfl) ?_; conv => whnf) | (exact rr) | (refine And.intro rfl ?_; conv => whnf) | (refine AB.mk (fun h => ?_) (fun h => ?_) <;> (conv => whnf)))
  · exfalso
    simp only [decide_eq_true_eq, List.length_map] at *
    omega
  · refine AWP.loopS (fun k : Nat => 1 ≤ k ∧ k ≤ l.length) [3, 4, 12, 13, 14, 15, 16, 17, 18, 19, 20, 21, 22, 23] (fun k => [(3, vI .i64 (mxL (l.take k))), (4, vI .i64 (k : Int))]) (fun _ => []) (fun k => l.length - k) 1 (by omega) ?_ ai.nil (fun k hR => ?_) <;> (conv => whnf)
    · rw [e1]
      exact whd
    · obtain ⟨hk1, hk2⟩ := hR
      repeat' (first | (refine aw0 ?_) | (refine awx ?_; conv => whnf) | fail | (refine AIx.mapF ari (fun hlt => ?_); conv => whnf) | (refine AW.i64 ari ari ?_; conv => whnf) | (exact rr) | (refine And.intro rfl ?_; conv => whnf) | (refine AB.mk (fun h => ?_) (fun h => ?_) <;> (conv => whnf)))
      · refine aF.mk ⟨k + 1, ⟨by omega, ari⟩, by omega, ?_, ai.nil⟩
        rw [yH (l := l) (k := k) ari]
        exact hds
      · have e : k = l.length := ari
        subst e
        rw [List.take_length]
theorem DR (l : List Int) (h : cg l = true) : ak av 132 [.one (dIs l)] (.val (pI (mxL l))) := by
  have hn : (!cg l) = false := by rw [h]; rfl
  obtain ⟨h1, h2⟩ := kx h
  refine ac ah Tryz.func132 rfl Tryz.call132 Tryz.ntmps132 (congrArg Array.toList Tryz.results132) fun S => ?_; conv => whnf
  repeat' (first | (refine aw0 ?_) | (refine awx ?_; conv => whnf) | fail | (refine aa.pure (iZ l) rfl ?_; conv => whnf) | (refine ae.mk ⟨_, _, iZ l, .inl rfl, ?_⟩; conv => whnf) | (refine aa.pure (sP l h1 h2) rfl ?_; conv => whnf) | (refine ae.mk ⟨_, _, sP l h1 h2, .inl rfl, ?_⟩; conv => whnf) | (exact rr) | (refine And.intro rfl ?_; conv => whnf) | (refine AB.mk (fun h => ?_) (fun h => ?_) <;> (conv => whnf)))
theorem z3 (l : List Int) (h : cg l = true) (e : TypeId) : Er av 55 73 71 e 1 (l.map eI) ((oh l).map eI) := by
  obtain ⟨hl, hr⟩ := kx h
  have hm := Cn hr
  refine Fk ah Tryz.func55 rfl Tryz.call55 Tryz.ntmps55 (congrArg Array.toList Tryz.results55) ?_ fun S v u => ?_; conv => whnf
  · intro x hx
    obtain ⟨a, _, rfl⟩ := List.mem_map.1 hx
    rfl
  repeat' (first | (refine aw0 ?_) | (refine awx ?_; conv => whnf) | fail | (refine aa.scalar (DR l h) rfl rfl ?_; conv => whnf) | (refine AW.i64 (by omega) (by omega) ?_; conv => whnf) | (exact rr) | (refine And.intro rfl ?_; conv => whnf) | (refine AB.mk (fun h => ?_) (fun h => ?_) <;> (conv => whnf)))
  refine AWP.loopS (fun k : Nat => k ≤ l.length) [4, 13, 14, 15, 16, 17, 18, 19, 20, 21] (fun k => [(13, vI .i64 (k : Int))]) (fun k => [(9999, v5 v), (1000, .row e 1 (wrC l (BM l) k)), (1, .cells 105 (gC u 71 0 73)), (2, .cells 105 (gb.ds.map fun d => match d with | .pv v => .d (.pv v) | _ => .nil))]) (fun k => l.length - k) 0 (by omega) ?_ (ai.cons rfl (ai.cons (congrArg some (congrArg (AO.row e 1) (De l (BM l)).symm)) (ai.cons rfl (ai.cons rfl ai.nil)))) (fun k hR => ?_) <;> (conv => whnf)
  · exact whd
  · repeat' (first | (refine aw0 ?_) | (refine awx ?_; conv => whnf) | fail | (refine AIx.at k _ rfl (HF (l := l) ari) ?_; conv => whnf) | (refine AW.i64 ari ari ?_; conv => whnf) | (exact rr) | (refine And.intro rfl ?_; conv => whnf) | (refine AB.mk (fun h => ?_) (fun h => ?_) <;> (conv => whnf)))
    all_goals first
      | (have hlt : k < l.length := ari
         refine aF.mk ⟨k + 1, hlt, by omega, ?_, ai.cons rfl (ai.cons (congrArg some (congrArg (AO.row e 1) (FP hlt))) (ai.cons rfl (ai.cons rfl ai.nil)))⟩
         exact hds)
      | (have e1 : k = l.length := ari
         rw [e1, FO])
theorem zZ (x : DWorld) (hs : DWorld.small 1048576 x) : bk av 30 [.agg x.ds, .one (.pv (.func (.func 55) #[] #[]))] (.agg (dw x).ds) := by
  cases hw : fg x with
  | false =>
    have hn : (!fg x) = true := by rw [hw]; rfl
    have e : dw x = gb := by simp [dw, hw]
    rw [e]
    refine bh ah Tryz.func30 rfl Tryz.call30 Tryz.ntmps30 (congrArg Array.toList Tryz.results30) fun S => ?_; conv => whnf
    repeat' (first | (refine aw0 ?_) | (refine awx ?_; conv => whnf) | fail | (refine aa.pure (eA x hs) rfl ?_; conv => whnf) | (refine ae.mk ⟨_, _, eA x hs, .inl rfl, ?_⟩; conv => whnf) | (exact rr) | (refine And.intro rfl ?_; conv => whnf) | (refine AB.mk (fun h => ?_) (fun h => ?_) <;> (conv => whnf)))
    exact ⟨S.w0.heap.size, S.w0.heap.size, _, ⟨Nat.le_refl _, trivial, trivial⟩, Fam.blank rO, rfl⟩
  | true =>
    have hn : (!fg x) = false := by rw [hw]; rfl
    have e : dw x = { x with clocks := oh x.clocks } := by simp [dw, hw]
    have hc : cg x.clocks = true := by
      rw [fp] at hw
      simp only [Bool.and_eq_true] at hw
      exact hw.1.1.1.1.1.1
    obtain ⟨hl, hr⟩ := kx hc
    rw [e]
    refine bh ah Tryz.func30 rfl Tryz.call30 Tryz.ntmps30 (congrArg Array.toList Tryz.results30) fun S => ?_; conv => whnf
    repeat' (first | (refine aw0 ?_) | (refine awx ?_; conv => whnf) | fail | (refine aa.pure (eA x hs) rfl ?_; conv => whnf) | (refine ae.mk ⟨_, _, eA x hs, .inl rfl, ?_⟩; conv => whnf) | (exact rr) | (refine And.intro rfl ?_; conv => whnf) | (refine AB.mk (fun h => ?_) (fun h => ?_) <;> (conv => whnf)))
    refine aa.freshO 900 1 (DLogNode.ds x.log ++ DStore.ds x.store ++ DSched.ds x.left ++ DSched.ds x.right ++ DClient.ds x.ann ++ DClient.ds x.bob ++ DNet.ds x.net) [.sl (x.up.map eB)] (x.clocks.map eI) (qM x hs) rfl rfl (by intro h0; rw [List.map_eq_nil_iff] at h0; rw [h0] at hl; cases hl) alW bls fun R l1 e1 t a1 F1 => ?_
    conv => whnf
    repeat' (first | (refine aw0 ?_) | (refine awx ?_; conv => whnf) | fail | (exact rr) | (refine And.intro rfl ?_; conv => whnf) | (refine AB.mk (fun h => ?_) (fun h => ?_) <;> (conv => whnf)))
    refine aa.sc (id := 900) (z3 x.clocks hc t) rfl rfl rfl rfl ?_
    conv => whnf
    repeat' (first | (refine aw0 ?_) | (refine awx ?_; conv => whnf) | fail | (refine fh.bl bls ?_; conv => whnf) | (exact rr) | (refine And.intro rfl ?_; conv => whnf) | (refine AB.mk (fun h => ?_) (fun h => ?_) <;> (conv => whnf)))
    exact ⟨l1, e1, _, ⟨a1, trivial, trivial⟩, F1, rfl⟩
theorem si (x : DWorld) (hs : DWorld.small 1048576 x) : bk av 13 [.agg x.ds] (.agg (dw x).ds) := by
  refine bh ah Tryz.func13 rfl Tryz.call13 Tryz.ntmps13 (congrArg Array.toList Tryz.results13) fun S => ?_; conv => whnf
  repeat' (first | (refine aw0 ?_) | (refine awx ?_; conv => whnf) | fail | (exact rr) | (refine And.intro rfl ?_; conv => whnf) | (refine AB.mk (fun h => ?_) (fun h => ?_) <;> (conv => whnf)))
  refine aa.fresh (zZ x hs) rfl rfl fun R l1 e1 a1 b1 F1 => ?_
  conv => whnf
  repeat' (first | (refine aw0 ?_) | (refine awx ?_; conv => whnf) | fail | (exact rr) | (refine And.intro rfl ?_; conv => whnf) | (refine AB.mk (fun h => ?_) (fun h => ?_) <;> (conv => whnf)))
  exact ⟨l1, e1, (dw x).ds, ⟨a1, trivial, trivial⟩, F1, rfl⟩
end Go.Proofs.YtcmknngafflcnaaGreat
