/- NetReport: both sides. -/
import Derived.Test.YtmgcnmdbhahhlaaGreatJ15
set_option linter.unusedVariables false
set_option linter.unusedSimpArgs false
set_option maxRecDepth 100000
namespace Go.Proofs.YtmgcnmdbhahhlaaGreat
open Go.ChangeShapes Go.WideShapes Go.RowKit

def kindB (l : List Int) : Int := if rowOk l && decide (l.length ≠ 0) && betweenB (l.getD 0 0) 1 9 then l.getD 0 0 else 0
theorem kindB_rng (l : List Int) : 0 ≤ kindB l ∧ kindB l ≤ 9 := by
  unfold kindB
  split
  · rename_i h
    simp only [betweenB, Bool.and_eq_true, decide_eq_true_eq] at h
    omega
  · omega
theorem sKindOf_p (l : List Int) : PCall av 62 [.one (dIs l)] (.val (pI (kindB l))) := by
  cases hr : rowOk l with
  | false =>
    have hn : (!rowOk l) = true := by rw [hr]; rfl
    have e : kindB l = 0 := by simp [kindB, hr]
    rw [e]
    refine pcall_of av_ok Tryz.func62 rfl Tryz.call62 Tryz.ntmps62 (congrArg Array.toList Tryz.results62) fun S => ?_; conv => whnf
    repeat' (first | (refine aw0 ?_) | ((first | refine aw1 ?_ | refine aw2 ?_ | refine aw3 ?_ | refine aw4 ?_ | refine aw5 ?_ | refine aw6 ?_ | refine aw7 ?_ | refine aw8 ?_); conv => whnf) | ((first | refine bT ?_ | refine bF ?_); conv => whnf) | (refine ACall.pure (sRowOk_p l) rfl ?_; conv => whnf) | (refine AFCall.mk ⟨_, _, sRowOk_p l, .inl rfl, ?_⟩; conv => whnf) | (exact rr) | (refine And.intro rfl ?_; conv => whnf) | (refine AB.mk (fun h => ?_) (fun h => ?_) <;> (conv => whnf)))
  | true =>
    have hn : (!rowOk l) = false := by rw [hr]; rfl
    rcases l with _ | ⟨x, r⟩
    · have e : kindB [] = 0 := by simp [kindB]
      rw [e]
      refine pcall_of av_ok Tryz.func62 rfl Tryz.call62 Tryz.ntmps62 (congrArg Array.toList Tryz.results62) fun S => ?_; conv => whnf
      repeat' (first | (refine aw0 ?_) | ((first | refine aw1 ?_ | refine aw2 ?_ | refine aw3 ?_ | refine aw4 ?_ | refine aw5 ?_ | refine aw6 ?_ | refine aw7 ?_ | refine aw8 ?_); conv => whnf) | ((first | refine bT ?_ | refine bF ?_); conv => whnf) | (refine ACall.pure (sRowOk_p []) rfl ?_; conv => whnf) | (refine AFCall.mk ⟨_, _, sRowOk_p [], .inl rfl, ?_⟩; conv => whnf) | (exact rr) | (refine And.intro rfl ?_; conv => whnf) | (refine AB.mk (fun h => ?_) (fun h => ?_) <;> (conv => whnf)))
    · have h0 : ((((x :: r).map eI).length : Int) == 0) = false := by simp; omega
      cases hb : betweenB x 1 9 with
      | false =>
        have hn2 : (!betweenB x 1 9) = true := by rw [hb]; rfl
        have e : kindB (x :: r) = 0 := by simp [kindB, hb]
        rw [e]
        refine pcall_of av_ok Tryz.func62 rfl Tryz.call62 Tryz.ntmps62 (congrArg Array.toList Tryz.results62) fun S => ?_; conv => whnf
        repeat' (first | (refine aw0 ?_) | ((first | refine aw1 ?_ | refine aw2 ?_ | refine aw3 ?_ | refine aw4 ?_ | refine aw5 ?_ | refine aw6 ?_ | refine aw7 ?_ | refine aw8 ?_); conv => whnf) | ((first | refine bT ?_ | refine bF ?_); conv => whnf) | (refine ACall.pure (sRowOk_p (x :: r)) rfl ?_; conv => whnf) | (refine AFCall.mk ⟨_, _, sRowOk_p (x :: r), .inl rfl, ?_⟩; conv => whnf) | (refine AIx.at 0 _ rfl rfl ?_; conv => whnf) | (refine ACall.pure (sl1In_p _ _ _) rfl ?_; conv => whnf) | (refine AFCall.mk ⟨_, _, sl1In_p _ _ _, .inl rfl, ?_⟩; conv => whnf) | (exact rr) | (refine And.intro rfl ?_; conv => whnf) | (refine AB.mk (fun h => ?_) (fun h => ?_) <;> (conv => whnf)))
      | true =>
        have hn2 : (!betweenB x 1 9) = false := by rw [hb]; rfl
        have e : kindB (x :: r) = x := by simp [kindB, hb, hr]
        rw [e]
        refine pcall_of av_ok Tryz.func62 rfl Tryz.call62 Tryz.ntmps62 (congrArg Array.toList Tryz.results62) fun S => ?_; conv => whnf
        repeat' (first | (refine aw0 ?_) | ((first | refine aw1 ?_ | refine aw2 ?_ | refine aw3 ?_ | refine aw4 ?_ | refine aw5 ?_ | refine aw6 ?_ | refine aw7 ?_ | refine aw8 ?_); conv => whnf) | ((first | refine bT ?_ | refine bF ?_); conv => whnf) | (refine ACall.pure (sRowOk_p (x :: r)) rfl ?_; conv => whnf) | (refine AFCall.mk ⟨_, _, sRowOk_p (x :: r), .inl rfl, ?_⟩; conv => whnf) | (refine AIx.at 0 _ rfl rfl ?_; conv => whnf) | (refine ACall.pure (sl1In_p _ _ _) rfl ?_; conv => whnf) | (refine AFCall.mk ⟨_, _, sl1In_p _ _ _, .inl rfl, ?_⟩; conv => whnf) | (exact rr) | (refine And.intro rfl ?_; conv => whnf) | (refine AB.mk (fun h => ?_) (fun h => ?_) <;> (conv => whnf)))
theorem iKindOf_p (l : List Int) : PCall av 63 [.one (dIs l)] (.val (pI (kindB l))) := by
  rcases l with _ | ⟨x, r⟩
  · have e : kindB [] = 0 := by simp [kindB]
    rw [e]
    refine pcall_of av_ok Tryz.func63 rfl Tryz.call63 Tryz.ntmps63 (congrArg Array.toList Tryz.results63) fun S => ?_; conv => whnf
    repeat' (first | (refine aw0 ?_) | ((first | refine aw1 ?_ | refine aw2 ?_ | refine aw3 ?_ | refine aw4 ?_ | refine aw5 ?_ | refine aw6 ?_ | refine aw7 ?_ | refine aw8 ?_); conv => whnf) | ((first | refine bT ?_ | refine bF ?_); conv => whnf) | (exact rr) | (refine And.intro rfl ?_; conv => whnf) | (refine AB.mk (fun h => ?_) (fun h => ?_) <;> (conv => whnf)))
  · have h0 : ((((x :: r).map eI).length : Int) == 0) = false := by simp; omega
    cases hr : rowOk (x :: r) with
    | false =>
      have hn : (!rowOk (x :: r)) = true := by rw [hr]; rfl
      have e : kindB (x :: r) = 0 := by simp [kindB, hr]
      rw [e]
      refine pcall_of av_ok Tryz.func63 rfl Tryz.call63 Tryz.ntmps63 (congrArg Array.toList Tryz.results63) fun S => ?_; conv => whnf
      repeat' (first | (refine aw0 ?_) | ((first | refine aw1 ?_ | refine aw2 ?_ | refine aw3 ?_ | refine aw4 ?_ | refine aw5 ?_ | refine aw6 ?_ | refine aw7 ?_ | refine aw8 ?_); conv => whnf) | ((first | refine bT ?_ | refine bF ?_); conv => whnf) | (refine ACall.pure (iRowOk_p (x :: r)) rfl ?_; conv => whnf) | (refine AFCall.mk ⟨_, _, iRowOk_p (x :: r), .inl rfl, ?_⟩; conv => whnf) | (exact rr) | (refine And.intro rfl ?_; conv => whnf) | (refine AB.mk (fun h => ?_) (fun h => ?_) <;> (conv => whnf)))
    | true =>
      have hn : (!rowOk (x :: r)) = false := by rw [hr]; rfl
      cases hb : betweenB x 1 9 with
      | false =>
        have hn2 : (!betweenB x 1 9) = true := by rw [hb]; rfl
        have e : kindB (x :: r) = 0 := by simp [kindB, hb]
        rw [e]
        refine pcall_of av_ok Tryz.func63 rfl Tryz.call63 Tryz.ntmps63 (congrArg Array.toList Tryz.results63) fun S => ?_; conv => whnf
        repeat' (first | (refine aw0 ?_) | ((first | refine aw1 ?_ | refine aw2 ?_ | refine aw3 ?_ | refine aw4 ?_ | refine aw5 ?_ | refine aw6 ?_ | refine aw7 ?_ | refine aw8 ?_); conv => whnf) | ((first | refine bT ?_ | refine bF ?_); conv => whnf) | (refine ACall.pure (iRowOk_p (x :: r)) rfl ?_; conv => whnf) | (refine AFCall.mk ⟨_, _, iRowOk_p (x :: r), .inl rfl, ?_⟩; conv => whnf) | (refine AIx.at 0 _ rfl rfl ?_; conv => whnf) | (refine ACall.pure (ibetween_p _ _ _) rfl ?_; conv => whnf) | (refine AFCall.mk ⟨_, _, ibetween_p _ _ _, .inl rfl, ?_⟩; conv => whnf) | (exact rr) | (refine And.intro rfl ?_; conv => whnf) | (refine AB.mk (fun h => ?_) (fun h => ?_) <;> (conv => whnf)))
      | true =>
        have hn2 : (!betweenB x 1 9) = false := by rw [hb]; rfl
        have e : kindB (x :: r) = x := by simp [kindB, hb, hr]
        rw [e]
        refine pcall_of av_ok Tryz.func63 rfl Tryz.call63 Tryz.ntmps63 (congrArg Array.toList Tryz.results63) fun S => ?_; conv => whnf
        repeat' (first | (refine aw0 ?_) | ((first | refine aw1 ?_ | refine aw2 ?_ | refine aw3 ?_ | refine aw4 ?_ | refine aw5 ?_ | refine aw6 ?_ | refine aw7 ?_ | refine aw8 ?_); conv => whnf) | ((first | refine bT ?_ | refine bF ?_); conv => whnf) | (refine ACall.pure (iRowOk_p (x :: r)) rfl ?_; conv => whnf) | (refine AFCall.mk ⟨_, _, iRowOk_p (x :: r), .inl rfl, ?_⟩; conv => whnf) | (refine AIx.at 0 _ rfl rfl ?_; conv => whnf) | (refine ACall.pure (ibetween_p _ _ _) rfl ?_; conv => whnf) | (refine AFCall.mk ⟨_, _, ibetween_p _ _ _, .inl rfl, ?_⟩; conv => whnf) | (exact rr) | (refine And.intro rfl ?_; conv => whnf) | (refine AB.mk (fun h => ?_) (fun h => ?_) <;> (conv => whnf)))
/-- How often each kind came among the first messages. -/
def bump (c : List Int) (m : DMsg) : List Int := c.set (kindB m.row).toNat (c.getD (kindB m.row).toNat 0 + 1)
def counts (l : List DMsg) : List Int := l.foldl bump (List.replicate 10 0)
theorem counts_snoc (l : List DMsg) {k : Nat} (hk : k < l.length) : counts (l.take (k + 1)) = bump (counts (l.take k)) l[k] := by
  unfold counts
  rw [take_snocM hk, List.foldl_append]
  rfl
theorem bump_len (c : List Int) (m : DMsg) : (bump c m).length = c.length := by simp [bump]
theorem bump_all {c : List Int} {n : Int} (hc : ∀ x ∈ c, 0 ≤ x ∧ x ≤ n) (m : DMsg) (hn : 0 ≤ n) : ∀ x ∈ bump c m, 0 ≤ x ∧ x ≤ n + 1 := by
  intro x hx
  rcases List.mem_or_eq_of_mem_set hx with hx | rfl
  · have := hc x hx; omega
  · rw [List.getD_eq_getElem?_getD]
    cases h : c[(kindB m.row).toNat]? with
    | none => simp; omega
    | some y => have := hc y (List.mem_of_getElem? h); simp; omega
theorem counts_facts (l : List DMsg) : ∀ k, k ≤ l.length → (counts (l.take k)).length = 10 ∧ ∀ x ∈ counts (l.take k), 0 ≤ x ∧ x ≤ (k : Int)
  | 0, _ => by
    refine ⟨rfl, fun x hx => ?_⟩
    have := List.eq_of_mem_replicate (show x ∈ List.replicate 10 (0 : Int) from hx)
    omega
  | k + 1, hk => by
    obtain ⟨h1, h2⟩ := counts_facts l k (by omega)
    rw [counts_snoc l (by omega)]
    refine ⟨by rw [bump_len, h1], fun x hx => ?_⟩
    have := bump_all h2 l[k] (by omega) x hx
    omega
theorem fr_list2 {n : Nat} {l r : List Int} : Fam n n (l.map eI ++ r.map eI).flatten (l.map eI ++ r.map eI).flatten := Fam.blank (by simp [AD.isBl, eI])
def netL (n : DNet) : List Int := counts n.flight ++ [(n.cuts.length : Int)]
def repNetReport (w : DWorld) : List Int := if worldOk w then netL w.net else []
theorem repNetReport_len (w : DWorld) (hs : DWorld.small 1048576 w) : (repNetReport w).length ≤ 1048576 := by
  unfold repNetReport netL
  split
  · have := (counts_facts w.net.flight w.net.flight.length (Nat.le_refl _)).1
    rw [List.take_length] at this
    simp [this]
  · simp
theorem world_net {w : DWorld} (h : worldOk w = true) : w.net.flight.length ≤ 60 ∧ w.net.cuts.length ≤ 15 := by
  rw [worldOk_eq] at h
  simp only [Bool.and_eq_true, netOk, decide_eq_true_eq] at h
  omega
theorem cnt_at {c : List Int} (h : c.length = 10) {k : Int} (h0 : 0 ≤ k) (h9 : k ≤ 9) : (c.map eI)[k.toNat]? = some (eI (c.getD k.toNat 0)) := by
  have hl : k.toNat < c.length := by omega
  rw [List.getElem?_map, List.getElem?_eq_getElem hl, List.getD_eq_getElem?_getD, List.getElem?_eq_getElem hl]
  rfl
theorem cnt_set {c : List Int} {m : DMsg} : (c.map eI).set (kindB m.row).toNat (eI (c.getD (kindB m.row).toNat 0 + 1)) = (bump c m).map eI := by
  unfold bump
  rw [List.map_set]
theorem iNetReport_f (w : DWorld) (hs : DWorld.small 1048576 w) : FCall av 19 [.agg w.ds] (.one (.sl ((repNetReport w).map eI))) := by
  cases hw : worldOk w with
  | false =>
    have hn : (!worldOk w) = true := by rw [hw]; rfl
    have e : repNetReport w = [] := by simp [repNetReport, hw]
    rw [e]
    refine fcall_of av_ok Tryz.func19 rfl Tryz.call19 Tryz.ntmps19 (congrArg Array.toList Tryz.results19) fun S => ?_; conv => whnf
    repeat' (first | (refine aw0 ?_) | ((first | refine aw1 ?_ | refine aw2 ?_ | refine aw3 ?_ | refine aw4 ?_ | refine aw5 ?_ | refine aw6 ?_ | refine aw7 ?_ | refine aw8 ?_); conv => whnf) | ((first | refine bT ?_ | refine bF ?_); conv => whnf) | (refine ACall.pure (iWorldOk_p w hs) rfl ?_; conv => whnf) | (refine AFCall.mk ⟨_, _, iWorldOk_p w hs, .inl rfl, ?_⟩; conv => whnf) | (exact rr) | (refine And.intro rfl ?_; conv => whnf) | (refine AB.mk (fun h => ?_) (fun h => ?_) <;> (conv => whnf)))
    all_goals rfl
  | true =>
    have hn : (!worldOk w) = false := by rw [hw]; rfl
    have e : repNetReport w = netL w.net := by simp [repNetReport, hw]
    have hN := world_net hw
    rw [e]
    refine fcall_of av_ok Tryz.func19 rfl Tryz.call19 Tryz.ntmps19 (congrArg Array.toList Tryz.results19) fun S => ?_; conv => whnf
    repeat' (first | (refine aw0 ?_) | ((first | refine aw1 ?_ | refine aw2 ?_ | refine aw3 ?_ | refine aw4 ?_ | refine aw5 ?_ | refine aw6 ?_ | refine aw7 ?_ | refine aw8 ?_); conv => whnf) | ((first | refine bT ?_ | refine bF ?_); conv => whnf) | (refine ACall.pure (iWorldOk_p w hs) rfl ?_; conv => whnf) | (refine AFCall.mk ⟨_, _, iWorldOk_p w hs, .inl rfl, ?_⟩; conv => whnf) | (exact rr) | (refine And.intro rfl ?_; conv => whnf) | (refine AB.mk (fun h => ?_) (fun h => ?_) <;> (conv => whnf)))
    refine ⟨10, rfl, rfl, by decide, by decide, ?_⟩
    conv => whnf
    repeat' (first | (refine aw0 ?_) | ((first | refine aw1 ?_ | refine aw2 ?_ | refine aw3 ?_ | refine aw4 ?_ | refine aw5 ?_ | refine aw6 ?_ | refine aw7 ?_ | refine aw8 ?_); conv => whnf) | ((first | refine bT ?_ | refine bF ?_); conv => whnf) | (exact rr) | (refine And.intro rfl ?_; conv => whnf) | (refine AB.mk (fun h => ?_) (fun h => ?_) <;> (conv => whnf)))
    refine AWP.loopS (fun k : Nat => k ≤ w.net.flight.length) (9 :: [5, 14, 15, 16, 17, 18, 19, 20, 21, 22, 23, 24, 25, 26]) (fun k => [(3, .one (.own 9)), (14, vI .i64 (k : Int))]) (fun k => [(9997, markO S.w0.heap.size S.w0.heap.size), (1, .cells 106 (w.ds.map .d)), (9, .row 2 1 ((counts (w.net.flight.take k)).map eI))]) (fun k => w.net.flight.length - k) 0 (by omega) ?_ (SubO.cons rfl (SubO.cons rfl (SubO.cons (congrArg some (congrArg (AO.row 2 1) (show List.replicate 10 [dI 0] = (counts (w.net.flight.take 0)).map eI from rfl))) SubO.nil))) (fun k hR => ?_) <;> (conv => whnf)
    · exact whd
    · by_cases hlt : k < w.net.flight.length
      · have hc := counts_facts w.net.flight k (by omega)
        have hr := kindB_rng (w.net.flight[k]).row
        have hv : 0 ≤ (counts (w.net.flight.take k)).getD (kindB (w.net.flight[k]).row).toNat 0 ∧ (counts (w.net.flight.take k)).getD (kindB (w.net.flight[k]).row).toNat 0 ≤ 60 := by
          have hl : (kindB (w.net.flight[k]).row).toNat < (counts (w.net.flight.take k)).length := by omega
          rw [List.getD_eq_getElem?_getD, List.getElem?_eq_getElem hl]
          have := hc.2 _ (List.getElem_mem hl)
          simp only [Option.getD_some]
          omega
        have hk : kindB (w.net.flight[k]).row = (((kindB (w.net.flight[k]).row).toNat : Nat) : Int) := by omega
        have ht : decide ((k : Int) < ((w.net.flight.map DMsg.ds).length : Int)) = true := by simp; omega
        repeat' (first | (refine aw0 ?_) | ((first | refine aw1 ?_ | refine aw2 ?_ | refine aw3 ?_ | refine aw4 ?_ | refine aw5 ?_ | refine aw6 ?_ | refine aw7 ?_ | refine aw8 ?_); conv => whnf) | ((first | refine bT ?_ | refine bF ?_); conv => whnf) | (refine AIx.map hlt ?_; conv => whnf) | (refine ACall.pure (iKindOf_p _) rfl ?_; conv => whnf) | (refine AFCall.mk ⟨_, _, iKindOf_p _, .inl rfl, ?_⟩; conv => whnf) | (refine AIx.at _ _ hk (cnt_at hc.1 hr.1 hr.2) ?_; conv => whnf) | (refine AIx.at _ _ rfl (cnt_at hc.1 hr.1 hr.2) ?_; conv => whnf) | (refine AW.i64 (by omega) (by omega) ?_; conv => whnf) | (exact rr) | (refine And.intro rfl ?_; conv => whnf) | (refine AB.mk (fun h => ?_) (fun h => ?_) <;> (conv => whnf)))
        refine ANext.mk ⟨k + 1, hlt, by omega, ?_, SubO.cons rfl (SubO.cons rfl (SubO.cons (congrArg some (congrArg (AO.row 2 1) (by rw [counts_snoc _ hlt]; exact cnt_set))) SubO.nil))⟩
        exact hds
      · have e : k = w.net.flight.length := by omega
        subst e
        have ht : decide ((w.net.flight.length : Int) < ((w.net.flight.map DMsg.ds).length : Int)) = false := by simp
        have hc := (counts_facts w.net.flight w.net.flight.length (Nat.le_refl _)).1
        rw [List.take_length] at hc
        rw [List.take_length]
        repeat' (first | (refine aw0 ?_) | ((first | refine aw1 ?_ | refine aw2 ?_ | refine aw3 ?_ | refine aw4 ?_ | refine aw5 ?_ | refine aw6 ?_ | refine aw7 ?_ | refine aw8 ?_); conv => whnf) | ((first | refine bT ?_ | refine bF ?_); conv => whnf) | (refine And.intro (by simp [hc]) ?_; conv => whnf) | (exact rr) | (refine And.intro rfl ?_; conv => whnf) | (refine AB.mk (fun h => ?_) (fun h => ?_) <;> (conv => whnf)))
        exact ⟨_, _, (netL w.net).map eI, Nat.le_refl _, by rw [netL, List.map_append]; simp only [List.length_map]; exact fr_list2 (r := [(w.net.cuts.length : Int)]), by simp [netL], (fun y hy => by obtain ⟨a, _, rfl⟩ := List.mem_map.1 hy; rfl), rfl⟩
theorem sNetReport_p (w : DWorld) (hs : DWorld.small 1048576 w) : PCall av 18 [.agg w.ds] (.val (.one (.sl ((repNetReport w).map eI)))) := by
  cases hw : worldOk w with
  | false =>
    have hn : (!worldOk w) = true := by rw [hw]; rfl
    have e : repNetReport w = [] := by simp [repNetReport, hw]
    rw [e]
    refine pcall_of av_ok Tryz.func18 rfl Tryz.call18 Tryz.ntmps18 (congrArg Array.toList Tryz.results18) fun S => ?_; conv => whnf
    repeat' (first | (refine aw0 ?_) | ((first | refine aw1 ?_ | refine aw2 ?_ | refine aw3 ?_ | refine aw4 ?_ | refine aw5 ?_ | refine aw6 ?_ | refine aw7 ?_ | refine aw8 ?_); conv => whnf) | ((first | refine bT ?_ | refine bF ?_); conv => whnf) | (refine ACall.pure (sWorldOk_p w hs) rfl ?_; conv => whnf) | (refine AFCall.mk ⟨_, _, sWorldOk_p w hs, .inl rfl, ?_⟩; conv => whnf) | (exact rr) | (refine And.intro rfl ?_; conv => whnf) | (refine AB.mk (fun h => ?_) (fun h => ?_) <;> (conv => whnf)))
    all_goals rfl
  | true =>
    have hn : (!worldOk w) = false := by rw [hw]; rfl
    have e : repNetReport w = netL w.net := by simp [repNetReport, hw]
    have hN := world_net hw
    rw [e]
    refine pcall_of av_ok Tryz.func18 rfl Tryz.call18 Tryz.ntmps18 (congrArg Array.toList Tryz.results18) fun S => ?_; conv => whnf
    repeat' (first | (refine aw0 ?_) | ((first | refine aw1 ?_ | refine aw2 ?_ | refine aw3 ?_ | refine aw4 ?_ | refine aw5 ?_ | refine aw6 ?_ | refine aw7 ?_ | refine aw8 ?_); conv => whnf) | ((first | refine bT ?_ | refine bF ?_); conv => whnf) | (refine ACall.pure (sWorldOk_p w hs) rfl ?_; conv => whnf) | (refine AFCall.mk ⟨_, _, sWorldOk_p w hs, .inl rfl, ?_⟩; conv => whnf) | (exact rr) | (refine And.intro rfl ?_; conv => whnf) | (refine AB.mk (fun h => ?_) (fun h => ?_) <;> (conv => whnf)))
    refine ⟨10, rfl, rfl, by decide, by decide, ?_⟩
    conv => whnf
    repeat' (first | (refine aw0 ?_) | ((first | refine aw1 ?_ | refine aw2 ?_ | refine aw3 ?_ | refine aw4 ?_ | refine aw5 ?_ | refine aw6 ?_ | refine aw7 ?_ | refine aw8 ?_); conv => whnf) | ((first | refine bT ?_ | refine bF ?_); conv => whnf) | (exact rr) | (refine And.intro rfl ?_; conv => whnf) | (refine AB.mk (fun h => ?_) (fun h => ?_) <;> (conv => whnf)))
    refine AWP.loopS (fun k : Nat => k ≤ w.net.flight.length) (10 :: [4, 5, 11, 12, 13, 14, 15, 16, 17, 18, 19, 20, 21, 22, 23, 24, 25, 26, 27, 28, 29, 30, 31, 32, 33, 34]) (fun k => [(3, .one (.own 10)), (4, vI .i64 (k : Int))]) (fun k => [(1, .cells 106 (w.ds.map .d)), (10, .row 2 1 ((counts (w.net.flight.take k)).map eI))]) (fun k => w.net.flight.length - k) 0 (by omega) ?_ (SubO.cons rfl (SubO.cons (congrArg some (congrArg (AO.row 2 1) (show List.replicate 10 [dI 0] = (counts (w.net.flight.take 0)).map eI from rfl))) SubO.nil)) (fun k hR => ?_) <;> (conv => whnf)
    · exact whd
    · by_cases hlt : k < w.net.flight.length
      · have hc := counts_facts w.net.flight k (by omega)
        have hr := kindB_rng (w.net.flight[k]).row
        have hv : 0 ≤ (counts (w.net.flight.take k)).getD (kindB (w.net.flight[k]).row).toNat 0 ∧ (counts (w.net.flight.take k)).getD (kindB (w.net.flight[k]).row).toNat 0 ≤ 60 := by
          have hl : (kindB (w.net.flight[k]).row).toNat < (counts (w.net.flight.take k)).length := by omega
          rw [List.getD_eq_getElem?_getD, List.getElem?_eq_getElem hl]
          have := hc.2 _ (List.getElem_mem hl)
          simp only [Option.getD_some]
          omega
        have hk : kindB (w.net.flight[k]).row = (((kindB (w.net.flight[k]).row).toNat : Nat) : Int) := by omega
        have ht : decide ((k : Int) < ((w.net.flight.map DMsg.ds).length : Int)) = true := by simp; omega
        repeat' (first | (refine aw0 ?_) | ((first | refine aw1 ?_ | refine aw2 ?_ | refine aw3 ?_ | refine aw4 ?_ | refine aw5 ?_ | refine aw6 ?_ | refine aw7 ?_ | refine aw8 ?_); conv => whnf) | ((first | refine bT ?_ | refine bF ?_); conv => whnf) | (refine AIx.map hlt ?_; conv => whnf) | (refine ACall.pure (sKindOf_p _) rfl ?_; conv => whnf) | (refine AFCall.mk ⟨_, _, sKindOf_p _, .inl rfl, ?_⟩; conv => whnf) | (refine AIx.at _ _ hk (cnt_at hc.1 hr.1 hr.2) ?_; conv => whnf) | (refine AIx.at _ _ rfl (cnt_at hc.1 hr.1 hr.2) ?_; conv => whnf) | (refine AW.i64 (by omega) (by omega) ?_; conv => whnf) | (exact rr) | (refine And.intro rfl ?_; conv => whnf) | (refine AB.mk (fun h => ?_) (fun h => ?_) <;> (conv => whnf)))
        refine ANext.mk ⟨k + 1, hlt, by omega, ?_, (SubO.cons rfl (SubO.cons (congrArg some (congrArg (AO.row 2 1) (by rw [counts_snoc _ hlt]; exact cnt_set))) SubO.nil))⟩
        exact hds
      · have e : k = w.net.flight.length := by omega
        subst e
        have ht : decide ((w.net.flight.length : Int) < ((w.net.flight.map DMsg.ds).length : Int)) = false := by simp
        have hc := (counts_facts w.net.flight w.net.flight.length (Nat.le_refl _)).1
        rw [List.take_length] at hc
        rw [List.take_length]
        repeat' (first | (refine aw0 ?_) | ((first | refine aw1 ?_ | refine aw2 ?_ | refine aw3 ?_ | refine aw4 ?_ | refine aw5 ?_ | refine aw6 ?_ | refine aw7 ?_ | refine aw8 ?_); conv => whnf) | ((first | refine bT ?_ | refine bF ?_); conv => whnf) | (refine And.intro (by simp [hc]) ?_; conv => whnf) | (exact rr) | (refine And.intro rfl ?_; conv => whnf) | (refine AB.mk (fun h => ?_) (fun h => ?_) <;> (conv => whnf)))
        all_goals (simp [netL]; rfl)
end Go.Proofs.YtmgcnmdbhahhlaaGreat
