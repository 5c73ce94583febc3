/- Joined: WB6 WB7 -/
import Derived.Test.YtmgcnmdbhahhlaaGreatJ09
import Derived.Test.YtmgcnmdbhahhlaaGreatJ08
set_option linter.unusedVariables false
set_option linter.unusedSimpArgs false
set_option maxRecDepth 100000
namespace Go.Proofs.YtmgcnmdbhahhlaaGreat
open Go.ChangeShapes Go.WideShapes Go.RowKit
def dk_WB6_spec_l22StoreDown_1 : List (List Nat) := unqs [0, 1, 129, 12354, 1056835, 84676740, 1056835, 416645656903, 17730751197510, 2560014318047364, 181278753171460489, 12845977467030348042, 897045555741031948875, 47521137471379338482380, 4288735575005357318349066, 293183549505679279592354574, 20081519705366427266760327823, 1365642509910857212984157848464, 76856308401616789069458197521425, 6253342968325639574771053470696079, 420302552420489684782885030978978899, 28314001861456074263765295688011785172, 1898452381420072888874664982857379812565, 110179792301716847927724613560953444595030, 8484376297489341970054194503657943330759636]
def fk_WB6_spec_l22StoreDown_1 : List (List Nat) := unps 7 [0, 1, 4, 13, 1498, 1579, 688]
def dk_WB6_spec_WantOk_3 : List (List Nat) := unqs [0, 1, 129, 12354, 1056835, 84676740, 6510088389, 486455648518, 84676740, 9731313861, 692614078729, 9332593195938001482, 372412241764185567624, 61988106853988610609349, 4255074752124109987799565, 294109435546166273008480590, 20079365412702027437605159759, 1115442315820822688641729237968, 92557395712311800847789419934030, 6237240827722640460953035062178834, 421307422008374165536698229213385619, 28312971324457482320480942509866681492, 1635055259542523860996072423339808351509, 127037440858952856457949213307312938963859]
def fk_WB6_spec_WantOk_3 : List (List Nat) := unps 11 [0, 1, 4, 13, 40, 170707, 170950, 171679, 6439, 13000, 32683]
def dk_WB6_impl_ClientOk_7 : List (List Nat) := unqs [0, 1, 0, 8259, 1060930, 0, 0, 7, 0, 1416242985992649, 182708602476957829]
def fk_WB6_impl_ClientOk_7 : List (List Nat) := unps 9 [19458, 19459, 19448, 19453, 19480, 19196, 13850, 14579, 6560]
def dk_WB6_spec_ClientOk_12 : List (List Nat) := unqs [0, 1, 0, 8259, 1060930, 0, 6, 0, 29064, 2392455, 0, 11, 0, 23760614502006025142989, 4293456789134072521429125]
def fk_WB6_spec_ClientOk_12 : List (List Nat) := unps 13 [1594098, 1594099, 1594088, 1594093, 1594120, 1539890, 1540133, 1537460, 1538675, 1545236, 1121930, 1180979, 531440]

theorem store_eq {a b : DStore} : a = b ↔ (a.disk = b.disk ∧ a.state = b.state ∧ a.num = b.num ∧ a.last = b.last ∧ a.busy = b.busy) := by
  cases a; cases b; simp [DStore.mk.injEq]
theorem state0_ok : stateOk state0 = true := by decide
theorem state0_of {s : DState} (h : s = state0) : stateOk s = true := by rw [h]; exact state0_ok
theorem same0 (s : DState) : (stateOk s && stateOk state0 && decide (s = state0)) = decide (s = state0) := by
  by_cases h : s = state0
  · simp [h, state0_ok]
  · simp [h]
theorem sl22StoreDown_p (s : DStore) (hs : s.state.pairs.length ≤ 9223372036854775806) (hj : s.state.jobs.length ≤ 9223372036854775806) : PCall av 186 [.agg s.ds] (rB (storeDown s)) := by
  refine pcall_of av_ok Tryz.func186 rfl Tryz.call186 Tryz.ntmps186 (congrArg Array.toList Tryz.results186) fun S => ?_; conv => whnf
  repeat' (first | (refine aw0 ?_) | ((first | refine aw1 ?_ | refine aw2 ?_ | refine aw3 ?_ | refine aw4 ?_ | refine aw5 ?_ | refine aw6 ?_ | refine aw7 ?_ | refine aw8 ?_); conv => whnf) | ((first | refine bT ?_ | refine bF ?_); conv => whnf) | (refine AWP.drawK av_ok 1 7 dk_WB6_spec_l22StoreDown_1 fk_WB6_spec_l22StoreDown_1 (by kernel_rfl) (by kernel_rfl) (by kernel_rfl) rfl ?_; conv => whnf) | (refine ACall.pure (sDiskOk_p s.disk) rfl ?_; conv => whnf) | (refine AFCall.mk ⟨_, _, sDiskOk_p s.disk, .inl rfl, ?_⟩; conv => whnf) | (refine ACall.pure (sNewState_p) rfl ?_; conv => whnf) | (refine AFCall.mk ⟨_, _, sNewState_p, .inl rfl, ?_⟩; conv => whnf) | (refine ACall.pure (sSameState_p s.state state0 hs (by decide) hj) rfl ?_; conv => whnf) | (refine AFCall.mk ⟨_, _, sSameState_p s.state state0 hs (by decide) hj, .inl rfl, ?_⟩; conv => whnf) | (exact rr) | (refine And.intro rfl ?_; conv => whnf) | (refine AB.mk (fun h => ?_) (fun h => ?_) <;> (conv => whnf)))
  all_goals
    refine rB_of ?_
    try simp only [same0] at *
    rw [Bool.eq_iff_iff]
    simp [storeDown, store_eq]
    simp_all
theorem sl22Store_p (s : DStore) (up : Bool) (hs : s.state.pairs.length ≤ 9223372036854775806) (hj : s.state.jobs.length ≤ 9223372036854775806) : PCall av 113 [.agg s.ds, .one (dB up)] (rB (if up then storeOk s else storeDown s)) := by
  refine pcall_of av_ok Tryz.func113 rfl Tryz.call113 Tryz.ntmps113 (congrArg Array.toList Tryz.results113) fun S => ?_; conv => whnf
  repeat' (first | (refine aw0 ?_) | ((first | refine aw1 ?_ | refine aw2 ?_ | refine aw3 ?_ | refine aw4 ?_ | refine aw5 ?_ | refine aw6 ?_ | refine aw7 ?_ | refine aw8 ?_); conv => whnf) | ((first | refine bT ?_ | refine bF ?_); conv => whnf) | (refine ACall.pure (sStoreOk_p s hs) rfl ?_; conv => whnf) | (refine AFCall.mk ⟨_, _, sStoreOk_p s hs, .inl rfl, ?_⟩; conv => whnf) | (refine ACall.pure (sl22StoreDown_p s hs hj) rfl ?_; conv => whnf) | (refine AFCall.mk ⟨_, _, sl22StoreDown_p s hs hj, .inl rfl, ?_⟩; conv => whnf) | (exact rr) | (refine And.intro rfl ?_; conv => whnf) | (refine AB.mk (fun h => ?_) (fun h => ?_) <;> (conv => whnf)))
  all_goals
    refine rB_of ?_
    simp_all
theorem iWantOk_p (w : DWant) : PCall av 317 [.agg w.ds] (rB (wantOk w)) := by
  refine pcall_of av_ok Tryz.func317 rfl Tryz.call317 Tryz.ntmps317 (congrArg Array.toList Tryz.results317) fun S => ?_; conv => whnf
  repeat' (first | (refine aw0 ?_) | ((first | refine aw1 ?_ | refine aw2 ?_ | refine aw3 ?_ | refine aw4 ?_ | refine aw5 ?_ | refine aw6 ?_ | refine aw7 ?_ | refine aw8 ?_); conv => whnf) | ((first | refine bT ?_ | refine bF ?_); conv => whnf) | (refine ACall.pure (iOpOk_p w.op) rfl ?_; conv => whnf) | (refine AFCall.mk ⟨_, _, iOpOk_p w.op, .inl rfl, ?_⟩; conv => whnf) | (refine ACall.pure (ikeyOk_p _) rfl ?_; conv => whnf) | (refine AFCall.mk ⟨_, _, ikeyOk_p _, .inl rfl, ?_⟩; conv => whnf) | (refine AOp.eqs (eqlOp_at w.op op0) rfl rfl rfl rfl rfl ?_; conv => whnf) | (exact rr) | (refine And.intro rfl ?_; conv => whnf) | (refine AB.mk (fun h => ?_) (fun h => ?_) <;> (conv => whnf)))
  all_goals
    refine rB_of ?_
    simp_all [wantOk, op0]
def l13 (k : Int) : Int := if k == 1 then 1 else if k == 2 then 2 else if k == 3 then 3 else 0
theorem sl13Op_p (k : Int) : PCall av 261 [.one (dI k)] (.val (pI (l13 k))) := by
  refine pcall_of av_ok Tryz.func261 rfl Tryz.call261 Tryz.ntmps261 (congrArg Array.toList Tryz.results261) fun S => ?_; conv => whnf
  repeat' (first | (refine aw0 ?_) | ((first | refine aw1 ?_ | refine aw2 ?_ | refine aw3 ?_ | refine aw4 ?_ | refine aw5 ?_ | refine aw6 ?_ | refine aw7 ?_ | refine aw8 ?_); conv => whnf) | ((first | refine bT ?_ | refine bF ?_); conv => whnf) | (exact rr) | (refine And.intro rfl ?_; conv => whnf) | (refine AB.mk (fun h => ?_) (fun h => ?_) <;> (conv => whnf)))
  all_goals simp_all [l13]
theorem sWantOk_p (w : DWant) : PCall av 189 [.agg w.ds] (rB (wantOk w)) := by
  refine pcall_of av_ok Tryz.func189 rfl Tryz.call189 Tryz.ntmps189 (congrArg Array.toList Tryz.results189) fun S => ?_; conv => whnf
  repeat' (first | (refine aw0 ?_) | ((first | refine aw1 ?_ | refine aw2 ?_ | refine aw3 ?_ | refine aw4 ?_ | refine aw5 ?_ | refine aw6 ?_ | refine aw7 ?_ | refine aw8 ?_); conv => whnf) | ((first | refine bT ?_ | refine bF ?_); conv => whnf) | (refine AWP.drawK av_ok 3 11 dk_WB6_spec_WantOk_3 fk_WB6_spec_WantOk_3 (by kernel_rfl) (by kernel_rfl) (by kernel_rfl) rfl ?_; conv => whnf) | (refine ACall.pure (sOpOk_p w.op) rfl ?_; conv => whnf) | (refine AFCall.mk ⟨_, _, sOpOk_p w.op, .inl rfl, ?_⟩; conv => whnf) | (refine ACall.pure (sl7Key_p _) rfl ?_; conv => whnf) | (refine AFCall.mk ⟨_, _, sl7Key_p _, .inl rfl, ?_⟩; conv => whnf) | (refine ACall.pure (sl13Op_p w.kind) rfl ?_; conv => whnf) | (refine AFCall.mk ⟨_, _, sl13Op_p w.kind, .inl rfl, ?_⟩; conv => whnf) | (refine AOp.eqs (eqlOp_at w.op op0) rfl rfl rfl rfl rfl ?_; conv => whnf) | (exact rr) | (refine And.intro rfl ?_; conv => whnf) | (refine AB.mk (fun h => ?_) (fun h => ?_) <;> (conv => whnf)))
  all_goals
    refine rB_of ?_
    first
      | (simp_all [wantOk, op0, l13]; done)
      | (by_cases k1 : w.kind = 1 <;> by_cases k2 : w.kind = 2 <;> by_cases k3 : w.kind = 3 <;> simp_all [wantOk, op0, l13])
theorem ifoundOk_p (a b : Int) : PCall av 318 [.one (dI a), .one (dI b)] (rB ((a == 0 && b == 0) || (a == 1 && betweenB b 0 999))) := by
  refine pcall_of av_ok Tryz.func318 rfl Tryz.call318 Tryz.ntmps318 (congrArg Array.toList Tryz.results318) fun S => ?_; conv => whnf
  repeat' (first | (refine aw0 ?_) | ((first | refine aw1 ?_ | refine aw2 ?_ | refine aw3 ?_ | refine aw4 ?_ | refine aw5 ?_ | refine aw6 ?_ | refine aw7 ?_ | refine aw8 ?_); conv => whnf) | ((first | refine bT ?_ | refine bF ?_); conv => whnf) | (refine ACall.pure (ivalueOk_p _) rfl ?_; conv => whnf) | (refine AFCall.mk ⟨_, _, ivalueOk_p _, .inl rfl, ?_⟩; conv => whnf) | (exact rr) | (refine And.intro rfl ?_; conv => whnf) | (refine AB.mk (fun h => ?_) (fun h => ?_) <;> (conv => whnf)))
  all_goals
    refine rB_of ?_
    simp_all
theorem igotOk_p (w : DWant) (g : DGot) (q l : Int) : PCall av 269 [.agg w.ds, .agg g.ds, .one (dI q), .one (dI l)] (rB (gotOk w g q l)) := by
  refine pcall_of av_ok Tryz.func269 rfl Tryz.call269 Tryz.ntmps269 (congrArg Array.toList Tryz.results269) fun S => ?_; conv => whnf
  repeat' (first | (refine aw0 ?_) | ((first | refine aw1 ?_ | refine aw2 ?_ | refine aw3 ?_ | refine aw4 ?_ | refine aw5 ?_ | refine aw6 ?_ | refine aw7 ?_ | refine aw8 ?_); conv => whnf) | ((first | refine bT ?_ | refine bF ?_); conv => whnf) | (refine ACall.pure (ibetween_p _ _ _) rfl ?_; conv => whnf) | (refine AFCall.mk ⟨_, _, ibetween_p _ _ _, .inl rfl, ?_⟩; conv => whnf) | (refine ACall.pure (ifoundOk_p _ _) rfl ?_; conv => whnf) | (refine AFCall.mk ⟨_, _, ifoundOk_p _ _, .inl rfl, ?_⟩; conv => whnf) | (exact rr) | (refine And.intro rfl ?_; conv => whnf) | (refine AB.mk (fun h => ?_) (fun h => ?_) <;> (conv => whnf)))
  all_goals
    refine rB_of ?_
    first
      | (simp_all [gotOk]; done)
      | (simp_all [gotOk]; intros; omega)
theorem bt01 (x : Int) : betweenB x 0 1 = (x == 0 || x == 1) := by
  rw [Bool.eq_iff_iff]; simp [betweenB]; omega
theorem sl13Got_p (w : DWant) (g : DGot) (q l : Int) : PCall av 190 [.agg w.ds, .agg g.ds, .one (dI q), .one (dI l)] (rB (gotOk w g q l)) := by
  refine pcall_of av_ok Tryz.func190 rfl Tryz.call190 Tryz.ntmps190 (congrArg Array.toList Tryz.results190) fun S => ?_; conv => whnf
  repeat' (first | (refine aw0 ?_) | ((first | refine aw1 ?_ | refine aw2 ?_ | refine aw3 ?_ | refine aw4 ?_ | refine aw5 ?_ | refine aw6 ?_ | refine aw7 ?_ | refine aw8 ?_); conv => whnf) | ((first | refine bT ?_ | refine bF ?_); conv => whnf) | (refine ACall.pure (sl1In_p _ _ _) rfl ?_; conv => whnf) | (refine AFCall.mk ⟨_, _, sl1In_p _ _ _, .inl rfl, ?_⟩; conv => whnf) | (refine ACall.pure (sl7Value_p _) rfl ?_; conv => whnf) | (refine AFCall.mk ⟨_, _, sl7Value_p _, .inl rfl, ?_⟩; conv => whnf) | (exact rr) | (refine And.intro rfl ?_; conv => whnf) | (refine AB.mk (fun h => ?_) (fun h => ?_) <;> (conv => whnf)))
  all_goals
    refine rB_of ?_
    try simp only [bt01] at *
    first
      | (simp_all [gotOk]; done)
      | (have e0 : betweenB 0 0 999 = true := by decide
         rw [Bool.eq_iff_iff]
         simp_all [gotOk, betweenB]
         omega)
theorem getD_at {α : Type} {l : List α} {k : Nat} {d : α} (h : k < l.length) : l.getD k d = l[k] := by simp [List.getD_eq_getElem?_getD, h]
def clG (c : DClient) (k : Nat) : Bool := gotOk (c.todo.getD k ⟨0, op0, 0⟩) (c.gots.getD k ⟨0, 0, 0, 0⟩) ((k : Int) + 1) (lastAt c.gots k)
theorem clG_at {c : DClient} {k : Nat} {l : Int} {b : Bool} (h1 : k < c.todo.length) (h2 : k < c.gots.length) (hl : l = lastAt c.gots k) (h : gotOk c.todo[k] c.gots[k] ((k : Int) + 1) l = b) : clG c k = b := by
  rw [← h, hl]
  simp only [clG, getD_at h1, getD_at h2]
theorem last_next {c : DClient} {k : Nat} (h2 : k < c.gots.length) : c.gots[k].index = lastAt c.gots (k + 1) := by
  simp only [lastAt, getD_at h2]
theorem clientOk_1 {c : DClient} (h : ((c.id == 4 || c.id == 5) && c.todo.all wantOk && decide (c.todo.length ≤ 12) && decide (c.gots.length ≤ c.todo.length)) = false) : clientOk c = false := by simp only [clientOk, h, Bool.false_and]
theorem clientOk_2 {c : DClient} {k : Nat} (hk : k < c.gots.length) (h : clG c k = false) : clientOk c = false := by
  have := allN_no (ok := clG c) hk h
  simp only [clientOk]
  unfold clG at this
  rw [this]
  simp
theorem clientOk_yes {c : DClient} {b : Bool} (h : ((c.id == 4 || c.id == 5) && c.todo.all wantOk && decide (c.todo.length ≤ 12) && decide (c.gots.length ≤ c.todo.length)) = true) (ha : ∀ k, k < c.gots.length → clG c k = true) (hb : (c.last == lastAt c.gots c.gots.length) = b) : clientOk c = b := by
  have := allN_yes (ok := clG c) ha
  unfold clG at this
  simp only [clientOk, h, this, hb, Bool.true_and]
theorem step_ok {p : Nat → Bool} {k : Nat} (h : ∀ j, j < k → p j = true) (hk : p k = true) : ∀ j, j < k + 1 → p j = true := fun j hj => by
  rcases Nat.lt_succ_iff_lt_or_eq.1 hj with h1 | h1
  · exact h j h1
  · rw [h1]; exact hk
theorem itodoOk_p (l : List DWant) (hs : l.length ≤ 9223372036854775806) : PCall av 268 [.one (.sl (l.map DWant.ds))] (rB (l.all wantOk && decide (l.length ≤ 12))) := by
  refine pcall_of av_ok Tryz.func268 rfl Tryz.call268 Tryz.ntmps268 (congrArg Array.toList Tryz.results268) fun S => ?_; conv => whnf
  repeat' (first | (refine aw0 ?_) | ((first | refine aw1 ?_ | refine aw2 ?_ | refine aw3 ?_ | refine aw4 ?_ | refine aw5 ?_ | refine aw6 ?_ | refine aw7 ?_ | refine aw8 ?_); conv => whnf) | ((first | refine bT ?_ | refine bF ?_); conv => whnf) | (exact rr) | (refine And.intro rfl ?_; conv => whnf) | (refine AB.mk (fun h => ?_) (fun h => ?_) <;> (conv => whnf)))
  refine AWP.loopS (fun k : Nat => k ≤ l.length ∧ ∀ (j : Nat) (hj : j < k) (hl : j < l.length), wantOk l[j] = true) [2, 4, 7, 8, 9, 10, 11, 12, 13, 14] (fun k => [(7, vI .i64 (k : Int))]) (fun _ => []) (fun k => l.length - k) 0 ⟨by omega, by omega⟩ ?_ SubO.nil (fun k hR => ?_) <;> (conv => whnf)
  · exact whd
  · obtain ⟨hk, hall⟩ := hR
    repeat' (first | (refine aw0 ?_) | ((first | refine aw1 ?_ | refine aw2 ?_ | refine aw3 ?_ | refine aw4 ?_ | refine aw5 ?_ | refine aw6 ?_ | refine aw7 ?_ | refine aw8 ?_); conv => whnf) | ((first | refine bT ?_ | refine bF ?_); conv => whnf) | (refine AIx.mapF ari (fun hlt => ?_); conv => whnf) | (refine AW.i64 ari ari ?_; conv => whnf) | (refine ACall.pure (iWantOk_p l[k]) rfl ?_; conv => whnf) | (refine AFCall.mk ⟨_, _, iWantOk_p l[k], .inl rfl, ?_⟩; conv => whnf) | (exact rr) | (refine And.intro rfl ?_; conv => whnf) | (refine AB.mk (fun h => ?_) (fun h => ?_) <;> (conv => whnf)))
    all_goals first
      | (rw [all_no (k := k) ari (by first | (simpa using h) | (exfalso; assumption)), Bool.false_and]; done)
      | (refine ANext.mk ⟨k + 1, ⟨ari, step_all hall ari (by simp_all)⟩, ari, ?_, SubO.nil⟩
         exact hds)
      | (rw [end_all (p := wantOk) hall ari, Bool.true_and]; first | done | (refine rB_of ?_; simp; done) | (refine rB_of ?_; simp; omega))
def clPre (c : DClient) : Bool := (c.id == 4 || c.id == 5) && c.todo.all wantOk && decide (c.todo.length ≤ 12) && decide (c.gots.length ≤ c.todo.length)
theorem pre_no {c : DClient} (h : clPre c = false) : clientOk c = false := clientOk_1 h
theorem pre_todo {c : DClient} (h : (!(c.todo.all wantOk && decide (c.todo.length ≤ 12))) = true) : clPre c = false := by
  rw [Bool.not_eq_true'] at h
  rcases Bool.and_eq_false_iff.1 h with e | e <;> simp only [clPre, e, Bool.and_false, Bool.false_and]
theorem iClientOk_p (c : DClient) (ht : c.todo.length ≤ 9223372036854775806) (hg : c.gots.length ≤ 9223372036854775806) : PCall av 211 [.agg c.ds] (rB (clientOk c)) := by
  refine pcall_of av_ok Tryz.func211 rfl Tryz.call211 Tryz.ntmps211 (congrArg Array.toList Tryz.results211) fun S => ?_; conv => whnf
  repeat' (first | (refine aw0 ?_) | ((first | refine aw1 ?_ | refine aw2 ?_ | refine aw3 ?_ | refine aw4 ?_ | refine aw5 ?_ | refine aw6 ?_ | refine aw7 ?_ | refine aw8 ?_); conv => whnf) | ((first | refine bT ?_ | refine bF ?_); conv => whnf) | (refine ACall.pure (itodoOk_p c.todo ht) rfl ?_; conv => whnf) | (refine AFCall.mk ⟨_, _, itodoOk_p c.todo ht, .inl rfl, ?_⟩; conv => whnf) | (exact rr) | (refine And.intro rfl ?_; conv => whnf) | (refine AB.mk (fun h => ?_) (fun h => ?_) <;> (conv => whnf)))
  all_goals first
    | (have hno : clPre c = false := by (first | exact pre_todo (by assumption) | (simp_all [clPre]; done) | (rw [← Bool.not_eq_true]; simp_all [clPre]; done) | (rw [← Bool.not_eq_true]; simp_all [clPre]; intros; omega) | (by_cases hw : c.todo.all wantOk = true <;> simp_all [clPre] <;> intros <;> omega))
       rw [pre_no hno]; done)
    | skip
  all_goals
    have hpre : clPre c = true := by (first | (simp_all [clPre]; done) | (simp_all [clPre]; omega))
    have hle : c.gots.length ≤ c.todo.length := by simp only [clPre, Bool.and_eq_true, decide_eq_true_iff] at hpre; exact hpre.2
    refine AWP.loopS (fun g : Nat × Int => g.1 ≤ c.gots.length ∧ g.2 = lastAt c.gots g.1 ∧ ∀ j, j < g.1 → clG c j = true) [2, 3, 4, 5, 32, 33, 34, 35, 36, 37, 38, 39, 40, 41, 42, 43, 44, 45, 46, 47, 48, 49, 50] (fun g => [(3, vI .i64 g.2), (32, vI .i64 (g.1 : Int))]) (fun _ => [(1, .cells 100 (c.ds.map .d))]) (fun g => c.gots.length - g.1) (0, 0) ⟨by omega, rfl, by omega⟩ ?_ (SubO.cons rfl SubO.nil) (fun g hR => ?_) <;> (conv => whnf)
    · exact whd
    · obtain ⟨hk, hl, hall⟩ := hR
      repeat' (first | (refine aw0 ?_) | ((first | refine aw1 ?_ | refine aw2 ?_ | refine aw3 ?_ | refine aw4 ?_ | refine aw5 ?_ | refine aw6 ?_ | refine aw7 ?_ | refine aw8 ?_); conv => whnf) | ((first | refine bT ?_ | refine bF ?_); conv => whnf) | (refine AWP.drawK av_ok 7 9 dk_WB6_impl_ClientOk_7 fk_WB6_impl_ClientOk_7 (by kernel_rfl) (by kernel_rfl) (by kernel_rfl) rfl ?_; conv => whnf) | (refine AIx.mapF ari (fun hlt => ?_); conv => whnf) | (refine AW.i64 ari ari ?_; conv => whnf) | (refine ACall.pure (igotOk_p c.todo[g.1] c.gots[g.1] _ _) rfl ?_; conv => whnf) | (refine AFCall.mk ⟨_, _, igotOk_p c.todo[g.1] c.gots[g.1] _ _, .inl rfl, ?_⟩; conv => whnf) | (exact rr) | (refine And.intro rfl ?_; conv => whnf) | (refine AB.mk (fun h => ?_) (fun h => ?_) <;> (conv => whnf)))
      all_goals first
        | (rw [clientOk_2 (k := g.1) ari (clG_at ari ari hl (by first | (simpa using h) | (exfalso; assumption)))]; done)
        | (refine ANext.mk ⟨(g.1 + 1, c.gots[g.1].index), ⟨ari, last_next ari, step_ok hall (clG_at ari ari hl (by first | (simpa using h) | (exfalso; assumption)))⟩, ari, ?_, SubO.cons rfl SubO.nil⟩
           exact hds)
        | (have hkk : g.1 = c.gots.length := ari
           rw [clientOk_yes hpre (fun k hk' => hall k (by omega)) (by rw [← hkk, ← hl])])
theorem sClientOk_p (c : DClient) (ht : c.todo.length ≤ 9223372036854775806) (hg : c.gots.length ≤ 9223372036854775806) : PCall av 115 [.agg c.ds] (rB (clientOk c)) := by
  refine pcall_of av_ok Tryz.func115 rfl Tryz.call115 Tryz.ntmps115 (congrArg Array.toList Tryz.results115) fun S => ?_; conv => whnf
  repeat' (first | (refine aw0 ?_) | ((first | refine aw1 ?_ | refine aw2 ?_ | refine aw3 ?_ | refine aw4 ?_ | refine aw5 ?_ | refine aw6 ?_ | refine aw7 ?_ | refine aw8 ?_); conv => whnf) | ((first | refine bT ?_ | refine bF ?_); conv => whnf) | (exact rr) | (refine And.intro rfl ?_; conv => whnf) | (refine AB.mk (fun h => ?_) (fun h => ?_) <;> (conv => whnf)))
  all_goals first
    | (have hno : clPre c = false := by (first | (simp_all [clPre]; done) | (rw [← Bool.not_eq_true]; simp_all [clPre]; done) | (rw [← Bool.not_eq_true]; simp_all [clPre]; intros; omega))
       rw [pre_no hno]; done)
    | skip
  all_goals
    have hpre0 : ((c.id == 4 || c.id == 5) && decide (c.todo.length ≤ 12) && decide (c.gots.length ≤ c.todo.length)) = true := by (first | (simp_all; done) | (simp_all; omega))
    have hle : c.gots.length ≤ c.todo.length := by simp only [Bool.and_eq_true, decide_eq_true_iff] at hpre0; exact hpre0.2
    refine AWP.loopS (fun k : Nat => k ≤ c.todo.length ∧ ∀ (j : Nat) (hj : j < k) (hl : j < c.todo.length), wantOk c.todo[j] = true) [2, 3, 29, 30, 31, 32, 33, 34, 35, 36, 37, 38, 39, 40, 41, 42] (fun k => [(3, vI .i64 (k : Int))]) (fun _ => [(1, .cells 100 (c.ds.map .d))]) (fun k => c.todo.length - k) 0 ⟨by omega, by omega⟩ ?_ (SubO.cons rfl SubO.nil) (fun k hR => ?_) <;> (conv => whnf)
    · exact whd
    · obtain ⟨hk, hall⟩ := hR
      repeat' (first | (refine aw0 ?_) | ((first | refine aw1 ?_ | refine aw2 ?_ | refine aw3 ?_ | refine aw4 ?_ | refine aw5 ?_ | refine aw6 ?_ | refine aw7 ?_ | refine aw8 ?_); conv => whnf) | ((first | refine bT ?_ | refine bF ?_); conv => whnf) | (refine AIx.mapF ari (fun hlt => ?_); conv => whnf) | (refine AW.i64 ari ari ?_; conv => whnf) | (refine ACall.pure (sWantOk_p c.todo[k]) rfl ?_; conv => whnf) | (refine AFCall.mk ⟨_, _, sWantOk_p c.todo[k], .inl rfl, ?_⟩; conv => whnf) | (exact rr) | (refine And.intro rfl ?_; conv => whnf) | (refine AB.mk (fun h => ?_) (fun h => ?_) <;> (conv => whnf)))
      all_goals first
        | (have hno : clPre c = false := by
             have := all_no (p := wantOk) (k := k) ari (by first | (simpa using h) | (exfalso; assumption))
             simp only [clPre, this, Bool.and_false, Bool.false_and]
           rw [pre_no hno]; done)
        | (refine ANext.mk ⟨k + 1, ⟨ari, step_all hall ari (by simp_all)⟩, ari, ?_, SubO.cons rfl SubO.nil⟩
           exact hds)
        | skip
      have hpre : clPre c = true := by
        have e := end_all (p := wantOk) hall ari
        simp only [clPre, e, Bool.and_true]
        exact hpre0
      refine AWP.loopS (fun g : Nat × Int => g.1 ≤ c.gots.length ∧ g.2 = lastAt c.gots g.1 ∧ ∀ j, j < g.1 → clG c j = true) [2, 4, 5, 43, 44, 45, 46, 47, 48, 49, 50, 51, 52, 53, 54, 55, 56, 57, 58, 59, 60, 61, 62, 63, 64, 65, 66, 67, 68, 69, 70] (fun g => [(4, vI .i64 g.2), (5, vI .i64 (g.1 : Int))]) (fun _ => [(1, .cells 100 (c.ds.map .d))]) (fun g => c.gots.length - g.1) (0, 0) ⟨by omega, rfl, by omega⟩ ?_ (SubO.cons rfl SubO.nil) (fun g hR => ?_) <;> (conv => whnf)
      · exact whd
      · obtain ⟨hk, hl, hall⟩ := hR
        repeat' (first | (refine aw0 ?_) | ((first | refine aw1 ?_ | refine aw2 ?_ | refine aw3 ?_ | refine aw4 ?_ | refine aw5 ?_ | refine aw6 ?_ | refine aw7 ?_ | refine aw8 ?_); conv => whnf) | ((first | refine bT ?_ | refine bF ?_); conv => whnf) | (refine AWP.drawK av_ok 12 13 dk_WB6_spec_ClientOk_12 fk_WB6_spec_ClientOk_12 (by kernel_rfl) (by kernel_rfl) (by kernel_rfl) rfl ?_; conv => whnf) | (refine AIx.mapF ari (fun hlt => ?_); conv => whnf) | (refine AW.i64 ari ari ?_; conv => whnf) | (refine ACall.pure (sl13Got_p c.todo[g.1] c.gots[g.1] _ _) rfl ?_; conv => whnf) | (refine AFCall.mk ⟨_, _, sl13Got_p c.todo[g.1] c.gots[g.1] _ _, .inl rfl, ?_⟩; conv => whnf) | (exact rr) | (refine And.intro rfl ?_; conv => whnf) | (refine AB.mk (fun h => ?_) (fun h => ?_) <;> (conv => whnf)))
        all_goals first
          | (rw [clientOk_2 (k := g.1) ari (clG_at ari ari hl (by first | (simpa using h) | (exfalso; assumption)))]; done)
          | (refine ANext.mk ⟨(g.1 + 1, c.gots[g.1].index), ⟨ari, last_next ari, step_ok hall (clG_at ari ari hl (by first | (simpa using h) | assumption | (exfalso; assumption)))⟩, ari, ?_, SubO.cons rfl SubO.nil⟩
             exact hds)
          | (have hkk : g.1 = c.gots.length := ari
             rw [clientOk_yes hpre (fun k hk' => hall k (by omega)) (by rw [← hkk, ← hl])])
end Go.Proofs.YtmgcnmdbhahhlaaGreat
namespace Go.Proofs.YtmgcnmdbhahhlaaGreat
open Go.ChangeShapes Go.WideShapes Go.RowKit
def dk_WB7_spec_l12Owes_7 : List (List Nat) := unqs [0, 1, 0, 8259, 1060930, 0, 0, 391, 33222, 2384328, 90639551170638217]
def fk_WB7_spec_l12Owes_7 : List (List Nat) := unps 10 [58824, 58825, 58814, 58819, 58846, 1700, 728, 1214, 3401, 9962]

def entry0 : DEntry := ⟨0, 0, 0, 0, ⟨0, 0, 0, 0, 0⟩⟩
theorem book_parts {b : DBook} (h : bookOk b = true) : (0 ≤ b.base ∧ b.base ≤ 2000) ∧ tOk b.time = true ∧ b.entries.length ≤ 20 ∧ entriesOk b.entries = true := by
  simp only [bookOk, Bool.and_eq_true, betweenB, decide_eq_true_eq] at h
  obtain ⟨⟨⟨⟨⟨h1, h2⟩, _⟩, h4⟩, h5⟩, _⟩ := h
  exact ⟨h1, h2, h4, h5⟩
theorem book_entry {b : DBook} (h : bookOk b = true) {k : Nat} (hk : k < b.entries.length) : entryOk b.entries[k] = true := by
  have h5 := (book_parts h).2.2.2
  simp only [entriesOk, Bool.and_eq_true] at h5
  exact all_get h5.1.2 hk
theorem book_first {b : DBook} (h : bookOk b = true) {e : DEntry} {r : List DEntry} (he : b.entries = e :: r) : e.index = b.base + 1 := by
  simp only [bookOk, Bool.and_eq_true] at h
  have h6 := h.2
  rw [he] at h6
  simp only [Bool.and_eq_true, beq_iff_eq] at h6
  exact h6.1
theorem head_at {l : List DEntry} (hk : 0 < l.length) : ∃ r, l = l[0] :: r := by
  cases l with
  | nil => simp at hk
  | cons e r => exact ⟨r, rfl⟩
theorem book_index {b : DBook} (h : bookOk b = true) : ∀ (k : Nat) (hk : k < b.entries.length), b.entries[k].index = b.base + 1 + k := by
  intro k
  induction k with
  | zero =>
    intro hk
    obtain ⟨r, hr⟩ := head_at hk
    have := book_first h hr
    omega
  | succ k ih =>
    intro hk
    have h5 := (book_parts h).2.2.2
    simp only [entriesOk, Bool.and_eq_true] at h5
    have := adjB_get h5.2 hk
    simp only [nextE, Bool.and_eq_true, beq_iff_eq] at this
    have := ih (by omega)
    omega
theorem book_last {b : DBook} (h : bookOk b = true) : b.base ≤ lastB b ∧ lastB b ≤ 2000 := by
  have h1 := (book_parts h).1
  refine ⟨by unfold lastB; omega, ?_⟩
  rcases Nat.eq_zero_or_pos b.entries.length with h0 | h0
  · unfold lastB; omega
  · have h2 := book_index h (b.entries.length - 1) (by omega)
    have h3 := entry_bounds (book_entry h (k := b.entries.length - 1) (by omega))
    have h4 := h3.2.2
    simp only [betweenB, Bool.and_eq_true, decide_eq_true_eq] at h4
    unfold lastB
    omega
theorem take_of {l : List DEntry} : ∀ {c m : Int}, (∀ (k : Nat) (hk : k < l.length), l[k].index = c + k) → l.filter (fun e => decide (e.index < m)) = l.take (m - c).toNat := by
  induction l with
  | nil => intro c m _; simp
  | cons e r ih =>
    intro c m h
    have h0 := h 0 (by simp)
    have hr := ih (c := c + 1) (m := m) fun k hk => by
      have := h (k + 1) (by simpa using hk)
      simp only [List.getElem_cons_succ] at this
      omega
    simp only [List.getElem_cons_zero] at h0
    by_cases hm : e.index < m
    · rw [List.filter_cons_of_pos (by simpa using hm), hr]
      have : (m - c).toNat = (m - (c + 1)).toNat + 1 := by omega
      rw [this, List.take_succ_cons]
    · rw [List.filter_cons_of_neg (by simpa using hm), hr]
      have e1 : (m - c).toNat = 0 := by omega
      have e2 : (m - (c + 1)).toNat = 0 := by omega
      rw [e1, e2]; simp
def partL (b : DBook) (lo hi : Int) : List DEntry := b.entries.filter fun e => betweenB e.index lo hi
theorem filter_congr' {l : List DEntry} {p q : DEntry → Bool} (h : ∀ e ∈ l, p e = q e) : l.filter p = l.filter q := by
  induction l with
  | nil => rfl
  | cons e r ih =>
    have h0 := h e (by simp)
    have hr := ih fun x hx => h x (List.mem_cons_of_mem _ hx)
    cases hp : p e with
    | true => rw [List.filter_cons_of_pos hp, List.filter_cons_of_pos (by rw [← h0, hp]), hr]
    | false => rw [List.filter_cons_of_neg (by simp [hp]), List.filter_cons_of_neg (by simp [← h0, hp]), hr]
theorem part_to {b : DBook} (h : bookOk b = true) (i : Int) : partL b (b.base + 1) i = entTo b i := by
  have h1 : partL b (b.base + 1) i = b.entries.filter fun e => decide (e.index < i + 1) := filter_congr' fun e he => by
    obtain ⟨k, hk, rfl⟩ := List.getElem_of_mem he
    have := book_index h k hk
    rw [Bool.eq_iff_iff]
    simp [betweenB]
    omega
  rw [h1, take_of (c := b.base + 1) (book_index h)]
  unfold entTo
  congr 1
  omega
theorem part_after {b : DBook} (h : bookOk b = true) (d : Int) : partL b (d + 1) 2000 = entAfter b d := filter_congr' fun e he => by
  obtain ⟨k, hk, rfl⟩ := List.getElem_of_mem he
  have h3 := (entry_bounds (book_entry h hk)).2.2
  rw [Bool.eq_iff_iff]
  simp [betweenB] at h3 ⊢
  omega
theorem ilastOf_p (b : DBook) (h : bookOk b = true) : PCall av 70 [.agg b.ds] (.val (pI (lastB b))) := by
  have hp := book_parts h
  have hq := book_last h
  refine pcall_of av_ok Tryz.func70 rfl Tryz.call70 Tryz.ntmps70 (congrArg Array.toList Tryz.results70) fun S => ?_; conv => whnf
  repeat' (first | (refine aw0 ?_) | ((first | refine aw1 ?_ | refine aw2 ?_ | refine aw3 ?_ | refine aw4 ?_ | refine aw5 ?_ | refine aw6 ?_ | refine aw7 ?_ | refine aw8 ?_); conv => whnf) | ((first | refine bT ?_ | refine bF ?_); conv => whnf) | (refine AW.i64 ari ari ?_; conv => whnf) | (exact rr) | (refine And.intro rfl ?_; conv => whnf) | (refine AB.mk (fun h => ?_) (fun h => ?_) <;> (conv => whnf)))
  all_goals simp [lastB]
theorem sl8Last_p (b : DBook) (h : bookOk b = true) : PCall av 167 [.agg b.ds] (.val (pI (lastB b))) := by
  have hp := book_parts h
  have hq := book_last h
  refine pcall_of av_ok Tryz.func167 rfl Tryz.call167 Tryz.ntmps167 (congrArg Array.toList Tryz.results167) fun S => ?_; conv => whnf
  repeat' (first | (refine aw0 ?_) | ((first | refine aw1 ?_ | refine aw2 ?_ | refine aw3 ?_ | refine aw4 ?_ | refine aw5 ?_ | refine aw6 ?_ | refine aw7 ?_ | refine aw8 ?_); conv => whnf) | ((first | refine bT ?_ | refine bF ?_); conv => whnf) | (refine AW.i64 ari ari ?_; conv => whnf) | (exact rr) | (refine And.intro rfl ?_; conv => whnf) | (refine AB.mk (fun h => ?_) (fun h => ?_) <;> (conv => whnf)))
  all_goals simp [lastB]
def timeAt (b : DBook) (i : Int) : Int := (b.entries.getD (i - b.base - 1).toNat entry0).time
theorem sl8TimeAt_p (b : DBook) (i : Int) (h : bookOk b = true) (h1 : b.base + 1 ≤ i) (h2 : i ≤ lastB b) : PCall av 307 [.agg b.ds, .one (dI i)] (.val (pI (timeAt b i))) := by
  have hp := book_parts h
  have hq := book_last h
  obtain ⟨k, hk⟩ : ∃ k : Nat, i - b.base - 1 = k := ⟨(i - b.base - 1).toNat, by omega⟩
  have hkl : k < b.entries.length := by unfold lastB at h2; omega
  refine pcall_of av_ok Tryz.func307 rfl Tryz.call307 Tryz.ntmps307 (congrArg Array.toList Tryz.results307) fun S => ?_; conv => whnf
  repeat' (first | (refine aw0 ?_) | ((first | refine aw1 ?_ | refine aw2 ?_ | refine aw3 ?_ | refine aw4 ?_ | refine aw5 ?_ | refine aw6 ?_ | refine aw7 ?_ | refine aw8 ?_); conv => whnf) | ((first | refine bT ?_ | refine bF ?_); conv => whnf) | (refine AW.i64 (by omega) (by omega) ?_; conv => whnf) | (refine AIx.at k (DEntry.ds (b.entries[k]'hkl)) hk (by simp [hkl]) ?_; conv => whnf) | (exact rr) | (refine And.intro rfl ?_; conv => whnf) | (refine AB.mk (fun h => ?_) (fun h => ?_) <;> (conv => whnf)))
  · exfalso; simp at h; omega
  · have e : (i - b.base - 1).toNat = k := by omega
    simp only [timeAt, e, List.getD_eq_getElem?_getD, List.getElem?_eq_getElem hkl, Option.getD_some]
theorem iAckOf_p (e : DEntry) : PCall av 331 [.agg e.ds] (.val (.agg (ackOf e).ds)) := by
  refine pcall_of av_ok Tryz.func331 rfl Tryz.call331 Tryz.ntmps331 (congrArg Array.toList Tryz.results331) fun S => ?_; conv => whnf
  repeat' (first | (refine aw0 ?_) | ((first | refine aw1 ?_ | refine aw2 ?_ | refine aw3 ?_ | refine aw4 ?_ | refine aw5 ?_ | refine aw6 ?_ | refine aw7 ?_ | refine aw8 ?_); conv => whnf) | ((first | refine bT ?_ | refine bF ?_); conv => whnf) | (refine ACall.pure (iEntryOk_p e) rfl ?_; conv => whnf) | (refine AFCall.mk ⟨_, _, iEntryOk_p e, .inl rfl, ?_⟩; conv => whnf) | (exact rr) | (refine And.intro rfl ?_; conv => whnf) | (refine AB.mk (fun h => ?_) (fun h => ?_) <;> (conv => whnf)))
  all_goals
    simp_all [ackOf, DAck.ds]
theorem sAckOf_p (e : DEntry) : PCall av 306 [.agg e.ds] (.val (.agg (ackOf e).ds)) := by
  refine pcall_of av_ok Tryz.func306 rfl Tryz.call306 Tryz.ntmps306 (congrArg Array.toList Tryz.results306) fun S => ?_; conv => whnf
  repeat' (first | (refine aw0 ?_) | ((first | refine aw1 ?_ | refine aw2 ?_ | refine aw3 ?_ | refine aw4 ?_ | refine aw5 ?_ | refine aw6 ?_ | refine aw7 ?_ | refine aw8 ?_); conv => whnf) | ((first | refine bT ?_ | refine bF ?_); conv => whnf) | (refine ACall.pure (sEntryOk_p e) rfl ?_; conv => whnf) | (refine AFCall.mk ⟨_, _, sEntryOk_p e, .inl rfl, ?_⟩; conv => whnf) | (exact rr) | (refine And.intro rfl ?_; conv => whnf) | (refine AB.mk (fun h => ?_) (fun h => ?_) <;> (conv => whnf)))
  all_goals
    simp_all [ackOf, DAck.ds]
theorem filt_yes {l : List DEntry} {p : DEntry → Bool} {k : Nat} (hk : k < l.length) (h : p l[k] = true) : (l.take (k + 1)).filter p = (l.take k).filter p ++ [l[k]] := by
  rw [List.take_succ_eq_append_getElem hk, List.filter_append, List.filter_cons_of_pos h, List.filter_nil]
theorem filt_no {l : List DEntry} {p : DEntry → Bool} {k : Nat} (hk : k < l.length) (h : p l[k] = false) : (l.take (k + 1)).filter p = (l.take k).filter p := by
  rw [List.take_succ_eq_append_getElem hk, List.filter_append, List.filter_cons_of_neg (by simp [h]), List.filter_nil, List.append_nil]
theorem filt_len {l : List DEntry} {p : DEntry → Bool} {k : Nat} : ((l.take k).filter p).length ≤ l.length := Nat.le_trans (List.length_filter_le ..) (by simp; omega)
theorem sl12Part_p (b : DBook) (lo hi : Int) (h20 : b.entries.length ≤ 20) : PCall av 305 [.agg b.ds, .one (dI lo), .one (dI hi)] (.val (.one (.sl ((partL b lo hi).map DEntry.ds)))) := by
  refine pcall_of av_ok Tryz.func305 rfl Tryz.call305 Tryz.ntmps305 (congrArg Array.toList Tryz.results305) fun S => ?_; conv => whnf
  repeat' (first | (refine aw0 ?_) | ((first | refine aw1 ?_ | refine aw2 ?_ | refine aw3 ?_ | refine aw4 ?_ | refine aw5 ?_ | refine aw6 ?_ | refine aw7 ?_ | refine aw8 ?_); conv => whnf) | ((first | refine bT ?_ | refine bF ?_); conv => whnf) | (exact rr) | (refine And.intro rfl ?_; conv => whnf) | (refine AB.mk (fun h => ?_) (fun h => ?_) <;> (conv => whnf)))
  refine AWP.loopS (fun k : Nat => k ≤ b.entries.length) (9 :: [7, 8, 10, 11, 12, 13, 14, 15, 16, 17, 18, 19, 20, 21, 22, 23, 24, 25, 26, 27, 28, 29, 30, 31, 32, 33]) (fun k => [(7, .one (.own 9)), (8, vI .i64 (k : Int))]) (fun k => [(9, .row 301 9 (((b.entries.take k).filter fun e => betweenB e.index lo hi).map DEntry.ds)), (3, .cells 78 (b.ds.map .d))]) (fun k => b.entries.length - k) 0 (by omega) ?_ (SubO.cons rfl (SubO.cons rfl SubO.nil)) (fun k hk => ?_) <;> (conv => whnf)
  · exact whd
  · have hfl : ((b.entries.take k).filter fun e => betweenB e.index lo hi).length ≤ b.entries.length := filt_len
    repeat' (first | (refine aw0 ?_) | ((first | refine aw1 ?_ | refine aw2 ?_ | refine aw3 ?_ | refine aw4 ?_ | refine aw5 ?_ | refine aw6 ?_ | refine aw7 ?_ | refine aw8 ?_); conv => whnf) | ((first | refine bT ?_ | refine bF ?_); conv => whnf) | (refine AIx.mapF ari (fun hlt => ?_); conv => whnf) | (refine AW.i64 ari ari ?_; conv => whnf) | (refine ACall.pure (sl1In_p _ _ _) rfl ?_; conv => whnf) | (refine AFCall.mk ⟨_, _, sl1In_p _ _ _, .inl rfl, ?_⟩; conv => whnf) | (refine all_lenW (fun x hx => by obtain ⟨y, _, rfl⟩ := List.mem_map.1 hx; rfl) ?_; conv => whnf) | (refine sz_appW (by simp only [List.length_map, List.length_nil, List.length_append, List.length_cons] <;> omega) ?_; conv => whnf) | (exact rr) | (refine And.intro rfl ?_; conv => whnf) | (refine AB.mk (fun h => ?_) (fun h => ?_) <;> (conv => whnf)))
    all_goals first
      | (refine ANext.mk ⟨k + 1, ari, ari, ?_, SubO.cons (congrArg some (congrArg (AO.row 301 9) (by rw [filt_yes ari (by assumption)]; simp only [List.map_append, List.map_cons, List.map_nil]; rfl))) (SubO.cons rfl SubO.nil)⟩
         exact hds)
      | (refine ANext.mk ⟨k + 1, ari, ari, ?_, SubO.cons (congrArg some (congrArg (AO.row 301 9) (by rw [filt_no ari (by assumption)]))) (SubO.cons rfl SubO.nil)⟩
         exact hds)
      | (have hkk : k = b.entries.length := ari
         subst hkk
         simp only [List.take_length, partL])
theorem ack_no {P : List DEntry} {l : List DAck} (hl : P.length = l.length) {k : Nat} (hk : k < P.length) (h : (l[k]'(by omega) != ackOf P[k]) = true) : decide (l = P.map ackOf) = false := decide_eq_false fun e => by
  subst e
  simp at h
theorem ack_yes {P : List DEntry} {l : List DAck} (hl : P.length = l.length) (h : ∀ (j : Nat) (h1 : j < P.length), l[j]'(by omega) = ackOf P[j]) : decide (l = P.map ackOf) = true := decide_eq_true (List.ext_getElem (by simp [hl]) fun j h1 h2 => by
  simp at h2
  rw [h j h2]; simp)
theorem step_ack {P : List DEntry} {l : List DAck} {k : Nat} {hl : P.length = l.length} (h : ∀ (j : Nat) (hj : j < k) (h1 : j < P.length), l[j]'(by omega) = ackOf P[j]) {h1 : k < P.length} (hk : l[k]'(by omega) = ackOf P[k]) : ∀ (j : Nat) (hj : j < k + 1) (h1 : j < P.length), l[j]'(by omega) = ackOf P[j] := fun j hj h1 => by
  rcases Nat.lt_succ_iff_lt_or_eq.1 hj with h2 | h2
  · exact h j h2 h1
  · subst h2; exact hk
theorem sl12Owes_p (n : DLogNode) (hb : bookOk n.book = true) (hd : n.book.base ≤ n.durable ∧ n.durable ≤ lastB n.book) (ho : n.owe.length ≤ 9223372036854775806) : PCall av 248 [.agg n.ds] (rB (decide (n.owe = (entAfter n.book n.durable).map ackOf))) := by
  have hp := book_parts hb
  have hq := book_last hb
  have h20 := hp.2.2.1
  rw [← part_after hb]
  have hlen : (partL n.book (n.durable + 1) 2000).length ≤ 20 := Nat.le_trans (List.length_filter_le ..) h20
  refine pcall_of av_ok Tryz.func248 rfl Tryz.call248 Tryz.ntmps248 (congrArg Array.toList Tryz.results248) fun S => ?_; conv => whnf
  repeat' (first | (refine aw0 ?_) | ((first | refine aw1 ?_ | refine aw2 ?_ | refine aw3 ?_ | refine aw4 ?_ | refine aw5 ?_ | refine aw6 ?_ | refine aw7 ?_ | refine aw8 ?_); conv => whnf) | ((first | refine bT ?_ | refine bF ?_); conv => whnf) | (refine AW.i64 (by omega) (by omega) ?_; conv => whnf) | (refine ACall.pure (sl12Part_p n.book _ _ h20) rfl ?_; conv => whnf) | (refine AFCall.mk ⟨_, _, sl12Part_p n.book _ _ h20, .inl rfl, ?_⟩; conv => whnf) | (exact rr) | (refine And.intro rfl ?_; conv => whnf) | (refine AB.mk (fun h => ?_) (fun h => ?_) <;> (conv => whnf)))
  · have hne : (partL n.book (n.durable + 1) 2000).length ≠ n.owe.length := (by simp only [bne_iff_ne, ne_eq, decide_eq_true_eq, decide_eq_false_iff_not, List.length_map, bne_eq_false_iff_eq] at *; omega)
    rw [decide_eq_false fun e => hne (by rw [e, List.length_map])]
  · have hln : (partL n.book (n.durable + 1) 2000).length = n.owe.length := (by simp only [bne_iff_ne, ne_eq, decide_eq_true_eq, decide_eq_false_iff_not, List.length_map, bne_eq_false_iff_eq] at *; omega)
    clear h
    refine AWP.loopS (fun k : Nat => k ≤ (partL n.book (n.durable + 1) 2000).length ∧ ∀ (j : Nat) (hj : j < k) (h1 : j < (partL n.book (n.durable + 1) 2000).length), n.owe[j]'(by omega) = ackOf (partL n.book (n.durable + 1) 2000)[j]) [2, 4, 17, 18, 19, 20, 21, 22, 23, 24, 25, 26, 27, 28, 29, 30, 31, 32, 33] (fun k => [(4, vI .i64 (k : Int))]) (fun _ => [(1, .cells 81 (n.ds.map .d))]) (fun k => (partL n.book (n.durable + 1) 2000).length - k) 0 ⟨by omega, by omega⟩ ?_ (SubO.cons rfl SubO.nil) (fun k hR => ?_) <;> (conv => whnf)
    · exact whd
    · obtain ⟨hk, hall⟩ := hR
      repeat' (first | (refine aw0 ?_) | ((first | refine aw1 ?_ | refine aw2 ?_ | refine aw3 ?_ | refine aw4 ?_ | refine aw5 ?_ | refine aw6 ?_ | refine aw7 ?_ | refine aw8 ?_); conv => whnf) | ((first | refine bT ?_ | refine bF ?_); conv => whnf) | (refine AWP.drawK av_ok 7 10 dk_WB7_spec_l12Owes_7 fk_WB7_spec_l12Owes_7 (by kernel_rfl) (by kernel_rfl) (by kernel_rfl) rfl ?_; conv => whnf) | (refine AIx.mapF ari (fun hlt => ?_); conv => whnf) | (refine AIx.mapF (l := n.owe) (by clear hall; simp only [List.length_map, decide_eq_true_eq] at *; omega) (fun hlt => ?_); conv => whnf) | (refine AW.i64 ari ari ?_; conv => whnf) | (refine ACall.pure (sAckOf_p _) rfl ?_; conv => whnf) | (refine AFCall.mk ⟨_, _, sAckOf_p _, .inl rfl, ?_⟩; conv => whnf) | (refine AOp.eqs (neqAck_at _ _) rfl rfl rfl rfl rfl ?_; conv => whnf) | (exact rr) | (refine And.intro rfl ?_; conv => whnf) | (refine AB.mk (fun h => ?_) (fun h => ?_) <;> (conv => whnf)))
      all_goals first
        | (rw [ack_no hln (k := k) ari (by first | (simpa using h) | (exfalso; assumption))]; done)
        | (refine ANext.mk ⟨k + 1, ⟨ari, step_ack (hl := hln) (h1 := ari) hall (by simpa using h)⟩, ari, ?_, SubO.cons rfl SubO.nil⟩
           exact hds)
        | (have hkk : k = (partL n.book (n.durable + 1) 2000).length := ari
           rw [ack_yes hln fun j h1 => hall j (by omega) h1])
theorem head_eq {a b : DHead} : a = b ↔ (a.num = b.num ∧ a.base = b.base ∧ a.time = b.time ∧ a.seen = b.seen) := by
  cases a; cases b; simp [DHead.mk.injEq]
theorem isameHead_p (a b : DHead) (ha : a.seen.length ≤ 9223372036854775806) : PCall av 282 [.agg a.ds, .agg b.ds] (rB (decide (a = b))) := by
  refine pcall_of av_ok Tryz.func282 rfl Tryz.call282 Tryz.ntmps282 (congrArg Array.toList Tryz.results282) fun S => ?_; conv => whnf
  repeat' (first | (refine aw0 ?_) | ((first | refine aw1 ?_ | refine aw2 ?_ | refine aw3 ?_ | refine aw4 ?_ | refine aw5 ?_ | refine aw6 ?_ | refine aw7 ?_ | refine aw8 ?_); conv => whnf) | ((first | refine bT ?_ | refine bF ?_); conv => whnf) | (refine ACall.pure (iSameSeen_p a.seen b.seen ha) rfl ?_; conv => whnf) | (refine AFCall.mk ⟨_, _, iSameSeen_p a.seen b.seen ha, .inl rfl, ?_⟩; conv => whnf) | (exact rr) | (refine And.intro rfl ?_; conv => whnf) | (refine AB.mk (fun h => ?_) (fun h => ?_) <;> (conv => whnf)))
  all_goals
    refine rB_of ?_
    rw [Bool.eq_iff_iff]
    simp only [decide_eq_true_iff, head_eq]
    simp_all
theorem sl12SameHead_p (a b : DHead) (ha : a.seen.length ≤ 9223372036854775806) : PCall av 249 [.agg a.ds, .agg b.ds] (rB (decide (a = b))) := by
  refine pcall_of av_ok Tryz.func249 rfl Tryz.call249 Tryz.ntmps249 (congrArg Array.toList Tryz.results249) fun S => ?_; conv => whnf
  repeat' (first | (refine aw0 ?_) | ((first | refine aw1 ?_ | refine aw2 ?_ | refine aw3 ?_ | refine aw4 ?_ | refine aw5 ?_ | refine aw6 ?_ | refine aw7 ?_ | refine aw8 ?_); conv => whnf) | ((first | refine bT ?_ | refine bF ?_); conv => whnf) | (refine ACall.pure (sSameSeen_p a.seen b.seen ha) rfl ?_; conv => whnf) | (refine AFCall.mk ⟨_, _, sSameSeen_p a.seen b.seen ha, .inl rfl, ?_⟩; conv => whnf) | (exact rr) | (refine And.intro rfl ?_; conv => whnf) | (refine AB.mk (fun h => ?_) (fun h => ?_) <;> (conv => whnf)))
  all_goals
    refine rB_of ?_
    rw [Bool.eq_iff_iff]
    simp only [decide_eq_true_iff, head_eq]
    simp_all
theorem book_eq {a b : DBook} : a = b ↔ (a.base = b.base ∧ a.time = b.time ∧ a.entries = b.entries) := by
  cases a; cases b; simp [DBook.mk.injEq]
theorem iSameBook_p (a b : DBook) (ha : a.entries.length ≤ 9223372036854775806) : PCall av 283 [.agg a.ds, .agg b.ds] (rB (decide (a = b))) := by
  refine pcall_of av_ok Tryz.func283 rfl Tryz.call283 Tryz.ntmps283 (congrArg Array.toList Tryz.results283) fun S => ?_; conv => whnf
  repeat' (first | (refine aw0 ?_) | ((first | refine aw1 ?_ | refine aw2 ?_ | refine aw3 ?_ | refine aw4 ?_ | refine aw5 ?_ | refine aw6 ?_ | refine aw7 ?_ | refine aw8 ?_); conv => whnf) | ((first | refine bT ?_ | refine bF ?_); conv => whnf) | (refine ACall.pure (slEqEntry_p a.entries b.entries ha) rfl ?_; conv => whnf) | (refine AFCall.mk ⟨_, _, slEqEntry_p a.entries b.entries ha, .inl rfl, ?_⟩; conv => whnf) | (exact rr) | (refine And.intro rfl ?_; conv => whnf) | (refine AB.mk (fun h => ?_) (fun h => ?_) <;> (conv => whnf)))
  all_goals
    refine rB_of ?_
    rw [Bool.eq_iff_iff]
    simp only [decide_eq_true_iff, book_eq]
    simp_all
theorem sl22HeadZero_p (a : DHead) : PCall av 252 [.agg a.ds] (rB (decide (a = head0))) := by
  refine pcall_of av_ok Tryz.func252 rfl Tryz.call252 Tryz.ntmps252 (congrArg Array.toList Tryz.results252) fun S => ?_; conv => whnf
  repeat' (first | (refine aw0 ?_) | ((first | refine aw1 ?_ | refine aw2 ?_ | refine aw3 ?_ | refine aw4 ?_ | refine aw5 ?_ | refine aw6 ?_ | refine aw7 ?_ | refine aw8 ?_); conv => whnf) | ((first | refine bT ?_ | refine bF ?_); conv => whnf) | (exact rr) | (refine And.intro rfl ?_; conv => whnf) | (refine AB.mk (fun h => ?_) (fun h => ?_) <;> (conv => whnf)))
  all_goals
    refine rB_of ?_
    rw [Bool.eq_iff_iff]
    simp only [decide_eq_true_iff, head_eq]
    simp_all [head0]
theorem disk_eq {a b : DDisk} : a = b ↔ (a.kept = b.kept ∧ a.wait = b.wait) := by
  cases a; cases b; simp [DDisk.mk.injEq]
theorem isameDisk_p (a b : DDisk) (h1 : a.kept.length ≤ 9223372036854775806) (h2 : ∀ y ∈ a.kept, y.length ≤ 9223372036854775806) (h3 : a.wait.length ≤ 9223372036854775806) (h4 : ∀ y ∈ a.wait, y.row.length ≤ 9223372036854775806) : PCall av 281 [.agg a.ds, .agg b.ds] (rB (decide (a = b))) := by
  refine pcall_of av_ok Tryz.func281 rfl Tryz.call281 Tryz.ntmps281 (congrArg Array.toList Tryz.results281) fun S => ?_; conv => whnf
  repeat' (first | (refine aw0 ?_) | ((first | refine aw1 ?_ | refine aw2 ?_ | refine aw3 ?_ | refine aw4 ?_ | refine aw5 ?_ | refine aw6 ?_ | refine aw7 ?_ | refine aw8 ?_); conv => whnf) | ((first | refine bT ?_ | refine bF ?_); conv => whnf) | (refine ACall.pure (slEqRows_p a.kept b.kept h1 h2) rfl ?_; conv => whnf) | (refine AFCall.mk ⟨_, _, slEqRows_p a.kept b.kept h1 h2, .inl rfl, ?_⟩; conv => whnf) | (refine ACall.pure (slEqWrites_p a.wait b.wait h3 h4) rfl ?_; conv => whnf) | (refine AFCall.mk ⟨_, _, slEqWrites_p a.wait b.wait h3 h4, .inl rfl, ?_⟩; conv => whnf) | (exact rr) | (refine And.intro rfl ?_; conv => whnf) | (refine AB.mk (fun h => ?_) (fun h => ?_) <;> (conv => whnf)))
  all_goals
    refine rB_of ?_
    rw [Bool.eq_iff_iff]
    simp only [decide_eq_true_iff, disk_eq]
    simp_all
end Go.Proofs.YtmgcnmdbhahhlaaGreat
