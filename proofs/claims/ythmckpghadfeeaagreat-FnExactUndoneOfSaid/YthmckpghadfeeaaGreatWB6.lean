/- Stores that are down; requests and clients: both sides. -/
import Derived.Test.YthmckpghadfeeaaGreatWB3
import Derived.Test.YthmckpghadfeeaaGreatWB4
set_option linter.unusedVariables false
set_option linter.unusedSimpArgs false
set_option maxRecDepth 100000
namespace Go.Proofs.YthmckpghadfeeaaGreat
open Go.ChangeShapes Go.WideShapes Go.RowKit
def dk_WB6_spec_l22StoreDown_1 : List (List Nat) := [[], [0], [0, 1], [1, 0, 2], [2, 0, 1, 3], [3, 1, 0, 2, 4], [2, 0, 1, 3], [6, 4, 2, 0, 1, 3, 5], [5, 4, 6, 7, 2, 0, 1, 3], [3, 1, 0, 2, 7, 6, 4, 5, 8], [8, 5, 4, 6, 7, 2, 0, 1, 3, 9], [9, 3, 1, 0, 2, 7, 6, 4, 5, 8, 10], [10, 8, 5, 4, 6, 7, 2, 0, 1, 3, 9, 11], [11, 10, 12, 8, 5, 4, 6, 7, 2, 0, 1, 3, 9], [9, 3, 1, 0, 2, 7, 6, 4, 5, 8, 12, 10, 11, 13], [13, 11, 10, 12, 8, 5, 4, 6, 7, 2, 0, 1, 3, 9, 14], [14, 9, 3, 1, 0, 2, 7, 6, 4, 5, 8, 12, 10, 11, 13, 15], [15, 13, 11, 10, 12, 8, 5, 4, 6, 7, 2, 0, 1, 3, 9, 14, 16], [16, 15, 17, 13, 11, 10, 12, 8, 5, 4, 6, 7, 2, 0, 1, 3, 9, 14], [14, 9, 3, 1, 0, 2, 7, 6, 4, 5, 8, 12, 10, 11, 13, 17, 15, 16, 18], [18, 16, 15, 17, 13, 11, 10, 12, 8, 5, 4, 6, 7, 2, 0, 1, 3, 9, 14, 19], [19, 14, 9, 3, 1, 0, 2, 7, 6, 4, 5, 8, 12, 10, 11, 13, 17, 15, 16, 18, 20], [20, 18, 16, 15, 17, 13, 11, 10, 12, 8, 5, 4, 6, 7, 2, 0, 1, 3, 9, 14, 19, 21], [21, 20, 22, 18, 16, 15, 17, 13, 11, 10, 12, 8, 5, 4, 6, 7, 2, 0, 1, 3, 9, 14, 19], [19, 14, 9, 3, 1, 0, 2, 7, 6, 4, 5, 8, 12, 10, 11, 13, 17, 15, 16, 18, 22, 20, 21, 23]]
def fk_WB6_spec_l22StoreDown_1 : List (List Nat) := [[0, 0, 0, 0, 0, 0, 0], [1, 0, 0, 0, 0, 0, 0], [1, 1, 0, 0, 0, 0, 0], [1, 1, 1, 0, 0, 0, 0], [1, 1, 1, 1, 0, 0, 2], [1, 1, 1, 1, 1, 0, 2], [1, 1, 1, 1, 2, 2, 0]]
def dk_WB6_spec_WantOk_3 : List (List Nat) := [[], [0], [0, 1], [1, 0, 2], [2, 0, 1, 3], [3, 1, 0, 2, 4], [4, 2, 0, 1, 3, 5], [5, 3, 1, 0, 2, 4, 6], [3, 1, 0, 2, 4], [4, 2, 0, 1, 3, 8], [8, 3, 1, 0, 2, 4, 9], [9, 8, 10, 6, 4, 2, 0, 1, 3, 5, 7], [7, 5, 6, 10, 8, 9, 11, 3, 1, 0, 2, 4], [4, 2, 0, 1, 3, 11, 9, 8, 10, 6, 5, 7, 12], [12, 7, 5, 6, 10, 8, 9, 11, 3, 1, 0, 2, 4, 13], [13, 4, 2, 0, 1, 3, 11, 9, 8, 10, 6, 5, 7, 12, 14], [14, 12, 7, 5, 6, 10, 8, 9, 11, 3, 1, 0, 2, 4, 13, 15], [15, 14, 16, 12, 7, 5, 6, 10, 8, 9, 11, 3, 1, 0, 2, 4, 13], [13, 4, 2, 0, 1, 3, 11, 9, 8, 10, 6, 5, 7, 12, 16, 14, 15, 17], [17, 15, 14, 16, 12, 7, 5, 6, 10, 8, 9, 11, 3, 1, 0, 2, 4, 13, 18], [18, 13, 4, 2, 0, 1, 3, 11, 9, 8, 10, 6, 5, 7, 12, 16, 14, 15, 17, 19], [19, 17, 15, 14, 16, 12, 7, 5, 6, 10, 8, 9, 11, 3, 1, 0, 2, 4, 13, 18, 20], [20, 19, 21, 17, 15, 14, 16, 12, 7, 5, 6, 10, 8, 9, 11, 3, 1, 0, 2, 4, 13, 18], [18, 13, 4, 2, 0, 1, 3, 11, 9, 8, 10, 6, 5, 7, 12, 16, 14, 15, 17, 21, 19, 20, 22]]
def fk_WB6_spec_WantOk_3 : List (List Nat) := [[0, 0, 0, 0, 0, 0, 0, 0, 0, 0, 0], [1, 0, 0, 0, 0, 0, 0, 0, 0, 0, 0], [1, 1, 0, 0, 0, 0, 0, 0, 0, 0, 0], [1, 1, 1, 0, 0, 0, 0, 0, 0, 0, 0], [1, 1, 1, 1, 0, 0, 0, 0, 0, 0, 0], [1, 1, 1, 1, 1, 0, 0, 0, 2, 2, 2], [1, 1, 1, 1, 1, 1, 0, 0, 2, 2, 2], [1, 1, 1, 1, 1, 1, 1, 0, 2, 2, 2], [1, 1, 1, 1, 1, 2, 2, 2, 0, 0, 0], [1, 1, 1, 1, 1, 2, 2, 2, 1, 0, 0], [1, 1, 1, 1, 1, 2, 2, 2, 1, 1, 0]]
def dk_WB6_impl_ClientOk_7 : List (List Nat) := [[], [0], [], [2, 0, 1], [1, 0, 2, 3], [], [], [6], [], [8, 6, 7, 5, 3, 2, 0, 1, 4], [4, 1, 0, 2, 3, 5, 7, 6, 8, 9]]
def fk_WB6_impl_ClientOk_7 : List (List Nat) := [[0, 0, 2, 0, 0, 2, 2, 2, 2], [1, 0, 2, 0, 0, 2, 2, 2, 2], [2, 2, 0, 0, 0, 2, 2, 2, 2], [1, 1, 1, 0, 0, 2, 2, 2, 2], [1, 1, 1, 1, 0, 2, 2, 2, 2], [2, 2, 2, 2, 2, 0, 2, 2, 2], [2, 2, 2, 2, 2, 2, 0, 0, 2], [2, 2, 2, 2, 2, 2, 1, 0, 2], [2, 2, 2, 2, 2, 2, 2, 2, 0]]
def dk_WB6_spec_ClientOk_12 : List (List Nat) := [[], [0], [], [2, 0, 1], [1, 0, 2, 3], [], [5], [], [7, 5, 6], [6, 5, 7, 8], [], [10], [], [12, 10, 11, 8, 7, 5, 6, 9, 3, 2, 0, 1, 4], [4, 1, 0, 2, 3, 9, 6, 5, 7, 8, 11, 10, 12, 13]]
def fk_WB6_spec_ClientOk_12 : List (List Nat) := [[0, 0, 2, 0, 0, 2, 2, 2, 2, 2, 2, 2, 2], [1, 0, 2, 0, 0, 2, 2, 2, 2, 2, 2, 2, 2], [2, 2, 0, 0, 0, 2, 2, 2, 2, 2, 2, 2, 2], [1, 1, 1, 0, 0, 2, 2, 2, 2, 2, 2, 2, 2], [1, 1, 1, 1, 0, 2, 2, 2, 2, 2, 2, 2, 2], [2, 2, 2, 2, 2, 0, 0, 2, 0, 0, 2, 2, 2], [2, 2, 2, 2, 2, 1, 0, 2, 0, 0, 2, 2, 2], [2, 2, 2, 2, 2, 2, 2, 0, 0, 0, 2, 2, 2], [2, 2, 2, 2, 2, 1, 1, 1, 0, 0, 2, 2, 2], [2, 2, 2, 2, 2, 1, 1, 1, 1, 0, 2, 2, 2], [2, 2, 2, 2, 2, 2, 2, 2, 2, 2, 0, 0, 2], [2, 2, 2, 2, 2, 2, 2, 2, 2, 2, 1, 0, 2], [2, 2, 2, 2, 2, 2, 2, 2, 2, 2, 2, 2, 0]]

theorem store_eq {a b : DStore} : a = b ↔ (a.disk = b.disk ∧ a.state = b.state ∧ a.num = b.num ∧ a.last = b.last ∧ a.busy = b.busy) := by
  cases a; cases b; simp [DStore.mk.injEq]
theorem state0_ok : stateOk state0 = true := by decide
theorem state0_of {s : DState} (h : s = state0) : stateOk s = true := by rw [h]; exact state0_ok
theorem same0 (s : DState) : (stateOk s && stateOk state0 && decide (s = state0)) = decide (s = state0) := by
  by_cases h : s = state0
  · simp [h, state0_ok]
  · simp [h]
theorem sl22StoreDown_p (s : DStore) (hs : s.state.pairs.length ≤ 9223372036854775806) (hj : s.state.jobs.length ≤ 9223372036854775806) : PCall av 104 [.agg s.ds] (rB (storeDown s)) := by
  refine pcall_of av_ok Tryz.func104 rfl Tryz.call104 Tryz.ntmps104 (congrArg Array.toList Tryz.results104) fun S => ?_; conv => whnf
  repeat' (first | (refine AWP.seq ?_) | ((first | refine AWP.region av_ok ?_ | refine AWP.ret ?_ | refine AWP.skip ?_ | refine AWP.exit ?_ | refine AWP.block ?_ | refine AWP.cond ?_ | refine AB.tt ?_ | refine AB.ff ?_); conv => whnf) | ((first | refine AB.ofT (by assumption) ?_ | refine AB.ofF (by assumption) ?_); conv => whnf) | (refine AWP.drawK av_ok 1 7 dk_WB6_spec_l22StoreDown_1 fk_WB6_spec_l22StoreDown_1 (by kernel_rfl) (by kernel_rfl) (by kernel_rfl) rfl ?_; conv => whnf) | (refine ACall.pure (sDiskOk_p s.disk) rfl ?_; conv => whnf) | (refine AFCall.mk ⟨_, _, sDiskOk_p s.disk, .inl rfl, ?_⟩; conv => whnf) | (refine ACall.pure (sNewState_p) rfl ?_; conv => whnf) | (refine AFCall.mk ⟨_, _, sNewState_p, .inl rfl, ?_⟩; conv => whnf) | (refine ACall.pure (sSameState_p s.state state0 hs (by decide) hj) rfl ?_; conv => whnf) | (refine AFCall.mk ⟨_, _, sSameState_p s.state state0 hs (by decide) hj, .inl rfl, ?_⟩; conv => whnf) | (exact trivial) | (refine And.intro rfl ?_; conv => whnf) | (refine AB.mk (fun h => ?_) (fun h => ?_) <;> (conv => whnf)) | (with_reducible_and_instances rfl) | (exact (rfl : AP.tup _ = AP.tup _)))
  all_goals
    refine rB_of ?_
    try simp only [same0] at *
    rw [Bool.eq_iff_iff]
    simp [storeDown, store_eq]
    simp_all
theorem sl22Store_p (s : DStore) (up : Bool) (hs : s.state.pairs.length ≤ 9223372036854775806) (hj : s.state.jobs.length ≤ 9223372036854775806) : PCall av 55 [.agg s.ds, .one (dB up)] (rB (if up then storeOk s else storeDown s)) := by
  refine pcall_of av_ok Tryz.func55 rfl Tryz.call55 Tryz.ntmps55 (congrArg Array.toList Tryz.results55) fun S => ?_; conv => whnf
  repeat' (first | (refine AWP.seq ?_) | ((first | refine AWP.region av_ok ?_ | refine AWP.ret ?_ | refine AWP.skip ?_ | refine AWP.exit ?_ | refine AWP.block ?_ | refine AWP.cond ?_ | refine AB.tt ?_ | refine AB.ff ?_); conv => whnf) | ((first | refine AB.ofT (by assumption) ?_ | refine AB.ofF (by assumption) ?_); conv => whnf) | (refine ACall.pure (sStoreOk_p s hs) rfl ?_; conv => whnf) | (refine AFCall.mk ⟨_, _, sStoreOk_p s hs, .inl rfl, ?_⟩; conv => whnf) | (refine ACall.pure (sl22StoreDown_p s hs hj) rfl ?_; conv => whnf) | (refine AFCall.mk ⟨_, _, sl22StoreDown_p s hs hj, .inl rfl, ?_⟩; conv => whnf) | (exact trivial) | (refine And.intro rfl ?_; conv => whnf) | (refine AB.mk (fun h => ?_) (fun h => ?_) <;> (conv => whnf)) | (with_reducible_and_instances rfl) | (exact (rfl : AP.tup _ = AP.tup _)))
  all_goals
    refine rB_of ?_
    simp_all
theorem iWantOk_p (w : DWant) : PCall av 228 [.agg w.ds] (rB (wantOk w)) := by
  refine pcall_of av_ok Tryz.func228 rfl Tryz.call228 Tryz.ntmps228 (congrArg Array.toList Tryz.results228) fun S => ?_; conv => whnf
  repeat' (first | (refine AWP.seq ?_) | ((first | refine AWP.region av_ok ?_ | refine AWP.ret ?_ | refine AWP.skip ?_ | refine AWP.exit ?_ | refine AWP.block ?_ | refine AWP.cond ?_ | refine AB.tt ?_ | refine AB.ff ?_); conv => whnf) | ((first | refine AB.ofT (by assumption) ?_ | refine AB.ofF (by assumption) ?_); conv => whnf) | (refine ACall.pure (iOpOk_p w.op) rfl ?_; conv => whnf) | (refine AFCall.mk ⟨_, _, iOpOk_p w.op, .inl rfl, ?_⟩; conv => whnf) | (refine ACall.pure (ikeyOk_p _) rfl ?_; conv => whnf) | (refine AFCall.mk ⟨_, _, ikeyOk_p _, .inl rfl, ?_⟩; conv => whnf) | (refine AOp.eqs (eqlOp_at w.op op0) rfl rfl rfl rfl rfl ?_; conv => whnf) | (exact trivial) | (refine And.intro rfl ?_; conv => whnf) | (refine AB.mk (fun h => ?_) (fun h => ?_) <;> (conv => whnf)) | (with_reducible_and_instances rfl) | (exact (rfl : AP.tup _ = AP.tup _)))
  all_goals
    refine rB_of ?_
    simp_all [wantOk, op0]
def l13 (k : Int) : Int := if k == 1 then 1 else if k == 2 then 2 else if k == 3 then 3 else 0
theorem sl13Op_p (k : Int) : PCall av 174 [.one (dI k)] (.val (pI (l13 k))) := by
  refine pcall_of av_ok Tryz.func174 rfl Tryz.call174 Tryz.ntmps174 (congrArg Array.toList Tryz.results174) fun S => ?_; conv => whnf
  repeat' (first | (refine AWP.seq ?_) | ((first | refine AWP.region av_ok ?_ | refine AWP.ret ?_ | refine AWP.skip ?_ | refine AWP.exit ?_ | refine AWP.block ?_ | refine AWP.cond ?_ | refine AB.tt ?_ | refine AB.ff ?_); conv => whnf) | ((first | refine AB.ofT (by assumption) ?_ | refine AB.ofF (by assumption) ?_); conv => whnf) | (exact trivial) | (refine And.intro rfl ?_; conv => whnf) | (refine AB.mk (fun h => ?_) (fun h => ?_) <;> (conv => whnf)) | (with_reducible_and_instances rfl) | (exact (rfl : AP.tup _ = AP.tup _)))
  all_goals simp_all [l13]
theorem sWantOk_p (w : DWant) : PCall av 107 [.agg w.ds] (rB (wantOk w)) := by
  refine pcall_of av_ok Tryz.func107 rfl Tryz.call107 Tryz.ntmps107 (congrArg Array.toList Tryz.results107) fun S => ?_; conv => whnf
  repeat' (first | (refine AWP.seq ?_) | ((first | refine AWP.region av_ok ?_ | refine AWP.ret ?_ | refine AWP.skip ?_ | refine AWP.exit ?_ | refine AWP.block ?_ | refine AWP.cond ?_ | refine AB.tt ?_ | refine AB.ff ?_); conv => whnf) | ((first | refine AB.ofT (by assumption) ?_ | refine AB.ofF (by assumption) ?_); conv => whnf) | (refine AWP.drawK av_ok 3 11 dk_WB6_spec_WantOk_3 fk_WB6_spec_WantOk_3 (by kernel_rfl) (by kernel_rfl) (by kernel_rfl) rfl ?_; conv => whnf) | (refine ACall.pure (sOpOk_p w.op) rfl ?_; conv => whnf) | (refine AFCall.mk ⟨_, _, sOpOk_p w.op, .inl rfl, ?_⟩; conv => whnf) | (refine ACall.pure (sl7Key_p _) rfl ?_; conv => whnf) | (refine AFCall.mk ⟨_, _, sl7Key_p _, .inl rfl, ?_⟩; conv => whnf) | (refine ACall.pure (sl13Op_p w.kind) rfl ?_; conv => whnf) | (refine AFCall.mk ⟨_, _, sl13Op_p w.kind, .inl rfl, ?_⟩; conv => whnf) | (refine AOp.eqs (eqlOp_at w.op op0) rfl rfl rfl rfl rfl ?_; conv => whnf) | (exact trivial) | (refine And.intro rfl ?_; conv => whnf) | (refine AB.mk (fun h => ?_) (fun h => ?_) <;> (conv => whnf)) | (with_reducible_and_instances rfl) | (exact (rfl : AP.tup _ = AP.tup _)))
  all_goals
    refine rB_of ?_
    first
      | (simp_all [wantOk, op0, l13]; done)
      | (by_cases k1 : w.kind = 1 <;> by_cases k2 : w.kind = 2 <;> by_cases k3 : w.kind = 3 <;> simp_all [wantOk, op0, l13])
theorem ifoundOk_p (a b : Int) : PCall av 229 [.one (dI a), .one (dI b)] (rB ((a == 0 && b == 0) || (a == 1 && betweenB b 0 999))) := by
  refine pcall_of av_ok Tryz.func229 rfl Tryz.call229 Tryz.ntmps229 (congrArg Array.toList Tryz.results229) fun S => ?_; conv => whnf
  repeat' (first | (refine AWP.seq ?_) | ((first | refine AWP.region av_ok ?_ | refine AWP.ret ?_ | refine AWP.skip ?_ | refine AWP.exit ?_ | refine AWP.block ?_ | refine AWP.cond ?_ | refine AB.tt ?_ | refine AB.ff ?_); conv => whnf) | ((first | refine AB.ofT (by assumption) ?_ | refine AB.ofF (by assumption) ?_); conv => whnf) | (refine ACall.pure (ivalueOk_p _) rfl ?_; conv => whnf) | (refine AFCall.mk ⟨_, _, ivalueOk_p _, .inl rfl, ?_⟩; conv => whnf) | (exact trivial) | (refine And.intro rfl ?_; conv => whnf) | (refine AB.mk (fun h => ?_) (fun h => ?_) <;> (conv => whnf)) | (with_reducible_and_instances rfl) | (exact (rfl : AP.tup _ = AP.tup _)))
  all_goals
    refine rB_of ?_
    simp_all
theorem igotOk_p (w : DWant) (g : DGot) (q l : Int) : PCall av 184 [.agg w.ds, .agg g.ds, .one (dI q), .one (dI l)] (rB (gotOk w g q l)) := by
  refine pcall_of av_ok Tryz.func184 rfl Tryz.call184 Tryz.ntmps184 (congrArg Array.toList Tryz.results184) fun S => ?_; conv => whnf
  repeat' (first | (refine AWP.seq ?_) | ((first | refine AWP.region av_ok ?_ | refine AWP.ret ?_ | refine AWP.skip ?_ | refine AWP.exit ?_ | refine AWP.block ?_ | refine AWP.cond ?_ | refine AB.tt ?_ | refine AB.ff ?_); conv => whnf) | ((first | refine AB.ofT (by assumption) ?_ | refine AB.ofF (by assumption) ?_); conv => whnf) | (refine ACall.pure (ibetween_p _ _ _) rfl ?_; conv => whnf) | (refine AFCall.mk ⟨_, _, ibetween_p _ _ _, .inl rfl, ?_⟩; conv => whnf) | (refine ACall.pure (ifoundOk_p _ _) rfl ?_; conv => whnf) | (refine AFCall.mk ⟨_, _, ifoundOk_p _ _, .inl rfl, ?_⟩; conv => whnf) | (exact trivial) | (refine And.intro rfl ?_; conv => whnf) | (refine AB.mk (fun h => ?_) (fun h => ?_) <;> (conv => whnf)) | (with_reducible_and_instances rfl) | (exact (rfl : AP.tup _ = AP.tup _)))
  all_goals
    refine rB_of ?_
    first
      | (simp_all [gotOk]; done)
      | (simp_all [gotOk]; intros; omega)
theorem bt01 (x : Int) : betweenB x 0 1 = (x == 0 || x == 1) := by
  rw [Bool.eq_iff_iff]; simp [betweenB]; omega
theorem sl13Got_p (w : DWant) (g : DGot) (q l : Int) : PCall av 108 [.agg w.ds, .agg g.ds, .one (dI q), .one (dI l)] (rB (gotOk w g q l)) := by
  refine pcall_of av_ok Tryz.func108 rfl Tryz.call108 Tryz.ntmps108 (congrArg Array.toList Tryz.results108) fun S => ?_; conv => whnf
  repeat' (first | (refine AWP.seq ?_) | ((first | refine AWP.region av_ok ?_ | refine AWP.ret ?_ | refine AWP.skip ?_ | refine AWP.exit ?_ | refine AWP.block ?_ | refine AWP.cond ?_ | refine AB.tt ?_ | refine AB.ff ?_); conv => whnf) | ((first | refine AB.ofT (by assumption) ?_ | refine AB.ofF (by assumption) ?_); conv => whnf) | (refine ACall.pure (sl1In_p _ _ _) rfl ?_; conv => whnf) | (refine AFCall.mk ⟨_, _, sl1In_p _ _ _, .inl rfl, ?_⟩; conv => whnf) | (refine ACall.pure (sl7Value_p _) rfl ?_; conv => whnf) | (refine AFCall.mk ⟨_, _, sl7Value_p _, .inl rfl, ?_⟩; conv => whnf) | (exact trivial) | (refine And.intro rfl ?_; conv => whnf) | (refine AB.mk (fun h => ?_) (fun h => ?_) <;> (conv => whnf)) | (with_reducible_and_instances rfl) | (exact (rfl : AP.tup _ = AP.tup _)))
  all_goals
    refine rB_of ?_
    try simp only [bt01] at *
    first
      | (simp_all [gotOk]; done)
      | (have e0 : betweenB 0 0 999 = true := by decide
         rw [Bool.eq_iff_iff]
         simp_all [gotOk, betweenB]
         omega)
theorem getD_at {α : Type} {l : List α} {k : Nat} {d : α} (h : k < l.length) : l.getD k d = l[k] := by simp [List.getD_eq_getElem?_getD, h]
def clG (c : DClient) (k : Nat) : Bool := gotOk (c.todo.getD k ⟨0, op0, 0⟩) (c.gots.getD k ⟨0, 0, 0, 0⟩) ((k : Int) + 1) (lastAt c.gots k)
theorem clG_at {c : DClient} {k : Nat} {l : Int} {b : Bool} (h1 : k < c.todo.length) (h2 : k < c.gots.length) (hl : l = lastAt c.gots k) (h : gotOk c.todo[k] c.gots[k] ((k : Int) + 1) l = b) : clG c k = b := by
  rw [← h, hl]
  simp only [clG, getD_at h1, getD_at h2]
theorem last_next {c : DClient} {k : Nat} (h2 : k < c.gots.length) : c.gots[k].index = lastAt c.gots (k + 1) := by
  simp only [lastAt, getD_at h2]
theorem clientOk_1 {c : DClient} (h : ((c.id == 4 || c.id == 5) && c.todo.all wantOk && decide (c.todo.length ≤ 12) && decide (c.gots.length ≤ c.todo.length)) = false) : clientOk c = false := by simp only [clientOk, h, Bool.false_and]
theorem clientOk_2 {c : DClient} {k : Nat} (hk : k < c.gots.length) (h : clG c k = false) : clientOk c = false := by
  have := allN_no (ok := clG c) hk h
  simp only [clientOk]
  unfold clG at this
  rw [this]
  simp
theorem clientOk_yes {c : DClient} {b : Bool} (h : ((c.id == 4 || c.id == 5) && c.todo.all wantOk && decide (c.todo.length ≤ 12) && decide (c.gots.length ≤ c.todo.length)) = true) (ha : ∀ k, k < c.gots.length → clG c k = true) (hb : (c.last == lastAt c.gots c.gots.length) = b) : clientOk c = b := by
  have := allN_yes (ok := clG c) ha
  unfold clG at this
  simp only [clientOk, h, this, hb, Bool.true_and]
theorem step_ok {p : Nat → Bool} {k : Nat} (h : ∀ j, j < k → p j = true) (hk : p k = true) : ∀ j, j < k + 1 → p j = true := fun j hj => by
  rcases Nat.lt_succ_iff_lt_or_eq.1 hj with h1 | h1
  · exact h j h1
  · rw [h1]; exact hk
theorem itodoOk_p (l : List DWant) (hs : l.length ≤ 9223372036854775806) : PCall av 183 [.one (.sl (l.map DWant.ds))] (rB (l.all wantOk && decide (l.length ≤ 12))) := by
  refine pcall_of av_ok Tryz.func183 rfl Tryz.call183 Tryz.ntmps183 (congrArg Array.toList Tryz.results183) fun S => ?_; conv => whnf
  repeat' (first | (refine AWP.seq ?_) | ((first | refine AWP.region av_ok ?_ | refine AWP.ret ?_ | refine AWP.skip ?_ | refine AWP.exit ?_ | refine AWP.block ?_ | refine AWP.cond ?_ | refine AB.tt ?_ | refine AB.ff ?_); conv => whnf) | ((first | refine AB.ofT (by assumption) ?_ | refine AB.ofF (by assumption) ?_); conv => whnf) | (exact trivial) | (refine And.intro rfl ?_; conv => whnf) | (refine AB.mk (fun h => ?_) (fun h => ?_) <;> (conv => whnf)) | (with_reducible_and_instances rfl) | (exact (rfl : AP.tup _ = AP.tup _)))
  refine AWP.loopS (fun k : Nat => k ≤ l.length ∧ ∀ (j : Nat) (hj : j < k) (hl : j < l.length), wantOk l[j] = true) [2, 4, 7, 8, 9, 10, 11, 12, 13, 14] (fun k => [(7, vI .i64 (k : Int))]) (fun _ => []) (fun k => l.length - k) 0 ⟨by omega, by omega⟩ ?_ SubO.nil (fun k hR => ?_) <;> (conv => whnf)
  · repeat' (first | exact trivial | (refine ⟨rfl, ?_⟩; conv => whnf))
  · obtain ⟨hk, hall⟩ := hR
    repeat' (first | (refine AWP.seq ?_) | ((first | refine AWP.region av_ok ?_ | refine AWP.ret ?_ | refine AWP.skip ?_ | refine AWP.exit ?_ | refine AWP.block ?_ | refine AWP.cond ?_ | refine AB.tt ?_ | refine AB.ff ?_); conv => whnf) | ((first | refine AB.ofT (by assumption) ?_ | refine AB.ofF (by assumption) ?_); conv => whnf) | (refine AIx.mapF (by simp only [decide_eq_true_eq, decide_eq_false_iff_not, List.length_map, Bool.not_eq_true', Bool.not_eq_false'] at *; omega) (fun hlt => ?_); conv => whnf) | (refine AW.i64 (by simp only [decide_eq_true_eq, decide_eq_false_iff_not, List.length_map, Bool.not_eq_true', Bool.not_eq_false'] at *; omega) (by simp only [decide_eq_true_eq, decide_eq_false_iff_not, List.length_map, Bool.not_eq_true', Bool.not_eq_false'] at *; omega) ?_; conv => whnf) | (refine ACall.pure (iWantOk_p l[k]) rfl ?_; conv => whnf) | (refine AFCall.mk ⟨_, _, iWantOk_p l[k], .inl rfl, ?_⟩; conv => whnf) | (exact trivial) | (refine And.intro rfl ?_; conv => whnf) | (refine AB.mk (fun h => ?_) (fun h => ?_) <;> (conv => whnf)) | (with_reducible_and_instances rfl) | (exact (rfl : AP.tup _ = AP.tup _)))
    all_goals first
      | (rw [all_no (k := k) (by simp only [decide_eq_true_eq, decide_eq_false_iff_not, List.length_map, Bool.not_eq_true', Bool.not_eq_false'] at *; omega) (by first | (simpa using h) | (exfalso; assumption)), Bool.false_and]; done)
      | (refine ANext.mk ⟨k + 1, ⟨(by simp only [decide_eq_true_eq, decide_eq_false_iff_not, List.length_map, Bool.not_eq_true', Bool.not_eq_false'] at *; omega), step_all hall (by simp only [decide_eq_true_eq, decide_eq_false_iff_not, List.length_map, Bool.not_eq_true', Bool.not_eq_false'] at *; omega) (by simp_all)⟩, (by simp only [decide_eq_true_eq, decide_eq_false_iff_not, List.length_map, Bool.not_eq_true', Bool.not_eq_false'] at *; omega), ?_, SubO.nil⟩
         (conv => whnf); repeat' (first | exact trivial | (refine ⟨rfl, ?_⟩; conv => whnf)))
      | (rw [end_all (p := wantOk) hall (by simp only [decide_eq_true_eq, decide_eq_false_iff_not, List.length_map, Bool.not_eq_true', Bool.not_eq_false'] at *; omega), Bool.true_and]; first | done | (refine rB_of ?_; simp; done) | (refine rB_of ?_; simp; omega))
def clPre (c : DClient) : Bool := (c.id == 4 || c.id == 5) && c.todo.all wantOk && decide (c.todo.length ≤ 12) && decide (c.gots.length ≤ c.todo.length)
theorem pre_no {c : DClient} (h : clPre c = false) : clientOk c = false := clientOk_1 h
theorem pre_todo {c : DClient} (h : (!(c.todo.all wantOk && decide (c.todo.length ≤ 12))) = true) : clPre c = false := by
  rw [Bool.not_eq_true'] at h
  rcases Bool.and_eq_false_iff.1 h with e | e <;> simp only [clPre, e, Bool.and_false, Bool.false_and]
theorem iClientOk_p (c : DClient) (ht : c.todo.length ≤ 9223372036854775806) (hg : c.gots.length ≤ 9223372036854775806) : PCall av 129 [.agg c.ds] (rB (clientOk c)) := by
  refine pcall_of av_ok Tryz.func129 rfl Tryz.call129 Tryz.ntmps129 (congrArg Array.toList Tryz.results129) fun S => ?_; conv => whnf
  repeat' (first | (refine AWP.seq ?_) | ((first | refine AWP.region av_ok ?_ | refine AWP.ret ?_ | refine AWP.skip ?_ | refine AWP.exit ?_ | refine AWP.block ?_ | refine AWP.cond ?_ | refine AB.tt ?_ | refine AB.ff ?_); conv => whnf) | ((first | refine AB.ofT (by assumption) ?_ | refine AB.ofF (by assumption) ?_); conv => whnf) | (refine ACall.pure (itodoOk_p c.todo ht) rfl ?_; conv => whnf) | (refine AFCall.mk ⟨_, _, itodoOk_p c.todo ht, .inl rfl, ?_⟩; conv => whnf) | (exact trivial) | (refine And.intro rfl ?_; conv => whnf) | (refine AB.mk (fun h => ?_) (fun h => ?_) <;> (conv => whnf)) | (with_reducible_and_instances rfl) | (exact (rfl : AP.tup _ = AP.tup _)))
  all_goals first
    | (have hno : clPre c = false := by (first | exact pre_todo (by assumption) | (simp_all [clPre]; done) | (rw [← Bool.not_eq_true]; simp_all [clPre]; done) | (rw [← Bool.not_eq_true]; simp_all [clPre]; intros; omega) | (by_cases hw : c.todo.all wantOk = true <;> simp_all [clPre] <;> intros <;> omega))
       rw [pre_no hno]; done)
    | skip
  all_goals
    have hpre : clPre c = true := by (first | (simp_all [clPre]; done) | (simp_all [clPre]; omega))
    have hle : c.gots.length ≤ c.todo.length := by simp only [clPre, Bool.and_eq_true, decide_eq_true_iff] at hpre; exact hpre.2
    refine AWP.loopS (fun g : Nat × Int => g.1 ≤ c.gots.length ∧ g.2 = lastAt c.gots g.1 ∧ ∀ j, j < g.1 → clG c j = true) [2, 3, 4, 5, 32, 33, 34, 35, 36, 37, 38, 39, 40, 41, 42, 43, 44, 45, 46, 47, 48, 49, 50] (fun g => [(3, vI .i64 g.2), (32, vI .i64 (g.1 : Int))]) (fun _ => [(1, .cells 100 (c.ds.map .d))]) (fun g => c.gots.length - g.1) (0, 0) ⟨by omega, rfl, by omega⟩ ?_ (SubO.cons rfl SubO.nil) (fun g hR => ?_) <;> (conv => whnf)
    · repeat' (first | exact trivial | (refine ⟨rfl, ?_⟩; conv => whnf))
    · obtain ⟨hk, hl, hall⟩ := hR
      repeat' (first | (refine AWP.seq ?_) | ((first | refine AWP.region av_ok ?_ | refine AWP.ret ?_ | refine AWP.skip ?_ | refine AWP.exit ?_ | refine AWP.block ?_ | refine AWP.cond ?_ | refine AB.tt ?_ | refine AB.ff ?_); conv => whnf) | ((first | refine AB.ofT (by assumption) ?_ | refine AB.ofF (by assumption) ?_); conv => whnf) | (refine AWP.drawK av_ok 7 9 dk_WB6_impl_ClientOk_7 fk_WB6_impl_ClientOk_7 (by kernel_rfl) (by kernel_rfl) (by kernel_rfl) rfl ?_; conv => whnf) | (refine AIx.mapF (by simp only [decide_eq_true_eq, decide_eq_false_iff_not, List.length_map, Bool.not_eq_true', Bool.not_eq_false'] at *; omega) (fun hlt => ?_); conv => whnf) | (refine AW.i64 (by simp only [decide_eq_true_eq, decide_eq_false_iff_not, List.length_map, Bool.not_eq_true', Bool.not_eq_false'] at *; omega) (by simp only [decide_eq_true_eq, decide_eq_false_iff_not, List.length_map, Bool.not_eq_true', Bool.not_eq_false'] at *; omega) ?_; conv => whnf) | (refine ACall.pure (igotOk_p c.todo[g.1] c.gots[g.1] _ _) rfl ?_; conv => whnf) | (refine AFCall.mk ⟨_, _, igotOk_p c.todo[g.1] c.gots[g.1] _ _, .inl rfl, ?_⟩; conv => whnf) | (exact trivial) | (refine And.intro rfl ?_; conv => whnf) | (refine AB.mk (fun h => ?_) (fun h => ?_) <;> (conv => whnf)) | (with_reducible_and_instances rfl) | (exact (rfl : AP.tup _ = AP.tup _)))
      all_goals first
        | (rw [clientOk_2 (k := g.1) (by simp only [decide_eq_true_eq, decide_eq_false_iff_not, List.length_map, Bool.not_eq_true', Bool.not_eq_false'] at *; omega) (clG_at (by simp only [decide_eq_true_eq, decide_eq_false_iff_not, List.length_map, Bool.not_eq_true', Bool.not_eq_false'] at *; omega) (by simp only [decide_eq_true_eq, decide_eq_false_iff_not, List.length_map, Bool.not_eq_true', Bool.not_eq_false'] at *; omega) hl (by first | (simpa using h) | (exfalso; assumption)))]; done)
        | (refine ANext.mk ⟨(g.1 + 1, c.gots[g.1].index), ⟨(by simp only [decide_eq_true_eq, decide_eq_false_iff_not, List.length_map, Bool.not_eq_true', Bool.not_eq_false'] at *; omega), last_next (by simp only [decide_eq_true_eq, decide_eq_false_iff_not, List.length_map, Bool.not_eq_true', Bool.not_eq_false'] at *; omega), step_ok hall (clG_at (by simp only [decide_eq_true_eq, decide_eq_false_iff_not, List.length_map, Bool.not_eq_true', Bool.not_eq_false'] at *; omega) (by simp only [decide_eq_true_eq, decide_eq_false_iff_not, List.length_map, Bool.not_eq_true', Bool.not_eq_false'] at *; omega) hl (by first | (simpa using h) | (exfalso; assumption)))⟩, (by simp only [decide_eq_true_eq, decide_eq_false_iff_not, List.length_map, Bool.not_eq_true', Bool.not_eq_false'] at *; omega), ?_, SubO.cons rfl SubO.nil⟩
           (conv => whnf); repeat' (first | exact trivial | (refine ⟨rfl, ?_⟩; conv => whnf)))
        | (have hkk : g.1 = c.gots.length := (by simp only [decide_eq_true_eq, decide_eq_false_iff_not, List.length_map, Bool.not_eq_true', Bool.not_eq_false'] at *; omega)
           rw [clientOk_yes hpre (fun k hk' => hall k (by omega)) (by rw [← hkk, ← hl])])
theorem sClientOk_p (c : DClient) (ht : c.todo.length ≤ 9223372036854775806) (hg : c.gots.length ≤ 9223372036854775806) : PCall av 57 [.agg c.ds] (rB (clientOk c)) := by
  refine pcall_of av_ok Tryz.func57 rfl Tryz.call57 Tryz.ntmps57 (congrArg Array.toList Tryz.results57) fun S => ?_; conv => whnf
  repeat' (first | (refine AWP.seq ?_) | ((first | refine AWP.region av_ok ?_ | refine AWP.ret ?_ | refine AWP.skip ?_ | refine AWP.exit ?_ | refine AWP.block ?_ | refine AWP.cond ?_ | refine AB.tt ?_ | refine AB.ff ?_); conv => whnf) | ((first | refine AB.ofT (by assumption) ?_ | refine AB.ofF (by assumption) ?_); conv => whnf) | (exact trivial) | (refine And.intro rfl ?_; conv => whnf) | (refine AB.mk (fun h => ?_) (fun h => ?_) <;> (conv => whnf)) | (with_reducible_and_instances rfl) | (exact (rfl : AP.tup _ = AP.tup _)))
  all_goals first
    | (have hno : clPre c = false := by (first | (simp_all [clPre]; done) | (rw [← Bool.not_eq_true]; simp_all [clPre]; done) | (rw [← Bool.not_eq_true]; simp_all [clPre]; intros; omega))
       rw [pre_no hno]; done)
    | skip
  all_goals
    have hpre0 : ((c.id == 4 || c.id == 5) && decide (c.todo.length ≤ 12) && decide (c.gots.length ≤ c.todo.length)) = true := by (first | (simp_all; done) | (simp_all; omega))
    have hle : c.gots.length ≤ c.todo.length := by simp only [Bool.and_eq_true, decide_eq_true_iff] at hpre0; exact hpre0.2
    refine AWP.loopS (fun k : Nat => k ≤ c.todo.length ∧ ∀ (j : Nat) (hj : j < k) (hl : j < c.todo.length), wantOk c.todo[j] = true) [2, 3, 29, 30, 31, 32, 33, 34, 35, 36, 37, 38, 39, 40, 41, 42] (fun k => [(3, vI .i64 (k : Int))]) (fun _ => [(1, .cells 100 (c.ds.map .d))]) (fun k => c.todo.length - k) 0 ⟨by omega, by omega⟩ ?_ (SubO.cons rfl SubO.nil) (fun k hR => ?_) <;> (conv => whnf)
    · repeat' (first | exact trivial | (refine ⟨rfl, ?_⟩; conv => whnf))
    · obtain ⟨hk, hall⟩ := hR
      repeat' (first | (refine AWP.seq ?_) | ((first | refine AWP.region av_ok ?_ | refine AWP.ret ?_ | refine AWP.skip ?_ | refine AWP.exit ?_ | refine AWP.block ?_ | refine AWP.cond ?_ | refine AB.tt ?_ | refine AB.ff ?_); conv => whnf) | ((first | refine AB.ofT (by assumption) ?_ | refine AB.ofF (by assumption) ?_); conv => whnf) | (refine AIx.mapF (by simp only [decide_eq_true_eq, decide_eq_false_iff_not, List.length_map, Bool.not_eq_true', Bool.not_eq_false'] at *; omega) (fun hlt => ?_); conv => whnf) | (refine AW.i64 (by simp only [decide_eq_true_eq, decide_eq_false_iff_not, List.length_map, Bool.not_eq_true', Bool.not_eq_false'] at *; omega) (by simp only [decide_eq_true_eq, decide_eq_false_iff_not, List.length_map, Bool.not_eq_true', Bool.not_eq_false'] at *; omega) ?_; conv => whnf) | (refine ACall.pure (sWantOk_p c.todo[k]) rfl ?_; conv => whnf) | (refine AFCall.mk ⟨_, _, sWantOk_p c.todo[k], .inl rfl, ?_⟩; conv => whnf) | (exact trivial) | (refine And.intro rfl ?_; conv => whnf) | (refine AB.mk (fun h => ?_) (fun h => ?_) <;> (conv => whnf)) | (with_reducible_and_instances rfl) | (exact (rfl : AP.tup _ = AP.tup _)))
      all_goals first
        | (have hno : clPre c = false := by
             have := all_no (p := wantOk) (k := k) (by simp only [decide_eq_true_eq, decide_eq_false_iff_not, List.length_map, Bool.not_eq_true', Bool.not_eq_false'] at *; omega) (by first | (simpa using h) | (exfalso; assumption))
             simp only [clPre, this, Bool.and_false, Bool.false_and]
           rw [pre_no hno]; done)
        | (refine ANext.mk ⟨k + 1, ⟨(by simp only [decide_eq_true_eq, decide_eq_false_iff_not, List.length_map, Bool.not_eq_true', Bool.not_eq_false'] at *; omega), step_all hall (by simp only [decide_eq_true_eq, decide_eq_false_iff_not, List.length_map, Bool.not_eq_true', Bool.not_eq_false'] at *; omega) (by simp_all)⟩, (by simp only [decide_eq_true_eq, decide_eq_false_iff_not, List.length_map, Bool.not_eq_true', Bool.not_eq_false'] at *; omega), ?_, SubO.cons rfl SubO.nil⟩
           (conv => whnf); repeat' (first | exact trivial | (refine ⟨rfl, ?_⟩; conv => whnf)))
        | skip
      have hpre : clPre c = true := by
        have e := end_all (p := wantOk) hall (by simp only [decide_eq_true_eq, decide_eq_false_iff_not, List.length_map, Bool.not_eq_true', Bool.not_eq_false'] at *; omega)
        simp only [clPre, e, Bool.and_true]
        exact hpre0
      refine AWP.loopS (fun g : Nat × Int => g.1 ≤ c.gots.length ∧ g.2 = lastAt c.gots g.1 ∧ ∀ j, j < g.1 → clG c j = true) [2, 4, 5, 43, 44, 45, 46, 47, 48, 49, 50, 51, 52, 53, 54, 55, 56, 57, 58, 59, 60, 61, 62, 63, 64, 65, 66, 67, 68, 69, 70] (fun g => [(4, vI .i64 g.2), (5, vI .i64 (g.1 : Int))]) (fun _ => [(1, .cells 100 (c.ds.map .d))]) (fun g => c.gots.length - g.1) (0, 0) ⟨by omega, rfl, by omega⟩ ?_ (SubO.cons rfl SubO.nil) (fun g hR => ?_) <;> (conv => whnf)
      · repeat' (first | exact trivial | (refine ⟨rfl, ?_⟩; conv => whnf))
      · obtain ⟨hk, hl, hall⟩ := hR
        repeat' (first | (refine AWP.seq ?_) | ((first | refine AWP.region av_ok ?_ | refine AWP.ret ?_ | refine AWP.skip ?_ | refine AWP.exit ?_ | refine AWP.block ?_ | refine AWP.cond ?_ | refine AB.tt ?_ | refine AB.ff ?_); conv => whnf) | ((first | refine AB.ofT (by assumption) ?_ | refine AB.ofF (by assumption) ?_); conv => whnf) | (refine AWP.drawK av_ok 12 13 dk_WB6_spec_ClientOk_12 fk_WB6_spec_ClientOk_12 (by kernel_rfl) (by kernel_rfl) (by kernel_rfl) rfl ?_; conv => whnf) | (refine AIx.mapF (by simp only [decide_eq_true_eq, decide_eq_false_iff_not, List.length_map, Bool.not_eq_true', Bool.not_eq_false'] at *; omega) (fun hlt => ?_); conv => whnf) | (refine AW.i64 (by simp only [decide_eq_true_eq, decide_eq_false_iff_not, List.length_map, Bool.not_eq_true', Bool.not_eq_false'] at *; omega) (by simp only [decide_eq_true_eq, decide_eq_false_iff_not, List.length_map, Bool.not_eq_true', Bool.not_eq_false'] at *; omega) ?_; conv => whnf) | (refine ACall.pure (sl13Got_p c.todo[g.1] c.gots[g.1] _ _) rfl ?_; conv => whnf) | (refine AFCall.mk ⟨_, _, sl13Got_p c.todo[g.1] c.gots[g.1] _ _, .inl rfl, ?_⟩; conv => whnf) | (exact trivial) | (refine And.intro rfl ?_; conv => whnf) | (refine AB.mk (fun h => ?_) (fun h => ?_) <;> (conv => whnf)) | (with_reducible_and_instances rfl) | (exact (rfl : AP.tup _ = AP.tup _)))
        all_goals first
          | (rw [clientOk_2 (k := g.1) (by simp only [decide_eq_true_eq, decide_eq_false_iff_not, List.length_map, Bool.not_eq_true', Bool.not_eq_false'] at *; omega) (clG_at (by simp only [decide_eq_true_eq, decide_eq_false_iff_not, List.length_map, Bool.not_eq_true', Bool.not_eq_false'] at *; omega) (by simp only [decide_eq_true_eq, decide_eq_false_iff_not, List.length_map, Bool.not_eq_true', Bool.not_eq_false'] at *; omega) hl (by first | (simpa using h) | (exfalso; assumption)))]; done)
          | (refine ANext.mk ⟨(g.1 + 1, c.gots[g.1].index), ⟨(by simp only [decide_eq_true_eq, decide_eq_false_iff_not, List.length_map, Bool.not_eq_true', Bool.not_eq_false'] at *; omega), last_next (by simp only [decide_eq_true_eq, decide_eq_false_iff_not, List.length_map, Bool.not_eq_true', Bool.not_eq_false'] at *; omega), step_ok hall (clG_at (by simp only [decide_eq_true_eq, decide_eq_false_iff_not, List.length_map, Bool.not_eq_true', Bool.not_eq_false'] at *; omega) (by simp only [decide_eq_true_eq, decide_eq_false_iff_not, List.length_map, Bool.not_eq_true', Bool.not_eq_false'] at *; omega) hl (by first | (simpa using h) | assumption | (exfalso; assumption)))⟩, (by simp only [decide_eq_true_eq, decide_eq_false_iff_not, List.length_map, Bool.not_eq_true', Bool.not_eq_false'] at *; omega), ?_, SubO.cons rfl SubO.nil⟩
             (conv => whnf); repeat' (first | exact trivial | (refine ⟨rfl, ?_⟩; conv => whnf)))
          | (have hkk : g.1 = c.gots.length := (by simp only [decide_eq_true_eq, decide_eq_false_iff_not, List.length_map, Bool.not_eq_true', Bool.not_eq_false'] at *; omega)
             rw [clientOk_yes hpre (fun k hk' => hall k (by omega)) (by rw [← hkk, ← hl])])
end Go.Proofs.YthmckpghadfeeaaGreat
