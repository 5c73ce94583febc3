/- Joined: WC2 WC3 WC4 -/
import Derived.Test.YtmgcnmdbhahhlaaGreatJ09
import Derived.Test.YtmgcnmdbhahhlaaGreatJ10
import Derived.Test.YtmgcnmdbhahhlaaGreatJ11
import Derived.Test.YtmgcnmdbhahhlaaGreatJ12
import Derived.Test.YtmgcnmdbhahhlaaGreatJ04
import Derived.Test.YtmgcnmdbhahhlaaGreatJ05
set_option linter.unusedVariables false
set_option linter.unusedSimpArgs false
set_option maxRecDepth 100000
namespace Go.Proofs.YtmgcnmdbhahhlaaGreat
open Go.ChangeShapes Go.WideShapes Go.RowKit
def dk_WC2__impl_World__schedsFit_1 : List (List Nat) := unqs [0, 1, 0, 3, 259, 20676, 2165850309, 486456451138, 35322986508615, 2564408003268744, 35322986508615, 3127357956690056, 218433453250335179, 15188130469117174284, 3060242316999460753294029, 155352137575988907727708746, 20003255854293610684235649160]
def fk_WC2__impl_World__schedsFit_1 : List (List Nat) := unps 14 [720, 721, 8, 17, 44, 125, 364, 1093, 4727200, 4733761, 55768, 114817, 291964, 823405]
def dk_WC2_spec_WorldOk_3 : List (List Nat) := unqs [0, 1, 129, 12354, 1056835, 84676740, 6510088389, 84676740, 8657572037, 623894601992, 44534549721417, 8161371489609486858, 897119627842150478151, 23834383477096543715980, 4288656024833317761716421, 291667597250045180727304974, 20081514614155416735135838543, 291667597250045180727304974, 22557394692726177284934086991, 1524001813995025305843882574738, 102855721278592827465972037997523, 22910051626216530735801266114426909844, 1898517696975061238680915954552189768657, 82097130143209461235461938158615105709334]
def fk_WC2_spec_WorldOk_3 : List (List Nat) := unps 21 [0, 1, 4, 13, 40, 175081, 175324, 2065, 4252, 10813, 30496, 88573, 265720, 797161, 2391484, 10338387493, 10352736400, 121965709, 251105872, 638526361, 1800787828]
def dk_WC2_spec_WorldOk_5 : List (List Nat) := unqs [0, 1, 0, 3, 259, 20676, 2165850309, 486456451138, 35322986508615, 2564408003268744, 182404656231371209, 2564408003268744, 218433453250335177, 15152101672098210316, 1046997409135756341837, 215524456379084714064794382, 20081529298861424947812921931, 721816682996689648454794003344]
def fk_WC2_spec_WorldOk_5 : List (List Nat) := unps 15 [720, 721, 8, 17, 44, 125, 364, 1093, 3280, 14181601, 14201284, 167305, 344452, 875893, 2470216]

theorem up_at {w : DWorld} (h : w.up.length = 6) {k : Nat} (hk : k < 6) : (w.up.map eB)[k]? = some [dB (upAt w k)] := by
  have hl : k < w.up.length := by omega
  rw [List.getElem?_map, List.getElem?_eq_getElem hl]
  simp [upAt, List.getD_eq_getElem?_getD, hl]
theorem len6 {w : DWorld} (h : (((w.up.map eB).length : Int) != 6) = false) : w.up.length = 6 := by
  simp at h; omega
theorem small_log {n : DLogNode} (h : DLogNode.small 1048576 n) : LogSmall n := by
  obtain ⟨⟨⟨h1, h2, h3, h4⟩, g1, g2, g3, g4⟩, k1, k2, k3, k4, k5⟩ := h
  simp only [DHead.small, DBook.small] at k1 k2 k3
  exact ⟨by omega, fun y hy => by have := h2 y hy; omega, by omega, fun y hy => by have : y.row.length ≤ 1048576 := h4 y hy; omega, by omega, fun y hy => by have := g2 y hy; omega, by omega, fun y hy => by have : y.row.length ≤ 1048576 := g4 y hy; omega, by omega, by omega, by omega, by omega, by omega⟩
def logNo (two : DTwo) : DLogNode := ⟨two, head0, head0, false, ⟨0, 0, []⟩, [], 0, []⟩
theorem logDown_eq (n : DLogNode) : logDown n = (twoOk n.two && decide (n = logNo n.two)) := by
  show (twoOk n.two && (n == logNo n.two)) = _
  rw [beq_dec]
theorem sl22LogDown_p (n : DLogNode) : PCall av 184 [.agg n.ds] (rB (logDown n)) := by
  rw [logDown_eq]
  refine pcall_of av_ok Tryz.func184 rfl Tryz.call184 Tryz.ntmps184 (congrArg Array.toList Tryz.results184) fun S => ?_; conv => whnf
  repeat' (first | (refine aw0 ?_) | ((first | refine aw1 ?_ | refine aw2 ?_ | refine aw3 ?_ | refine aw4 ?_ | refine aw5 ?_ | refine aw6 ?_ | refine aw7 ?_ | refine aw8 ?_); conv => whnf) | ((first | refine bT ?_ | refine bF ?_); conv => whnf) | (refine ACall.pure (sTwoOk_p n.two) rfl ?_; conv => whnf) | (refine AFCall.mk ⟨_, _, sTwoOk_p n.two, .inl rfl, ?_⟩; conv => whnf) | (refine ACall.pure (sl22HeadZero_p n.head) rfl ?_; conv => whnf) | (refine AFCall.mk ⟨_, _, sl22HeadZero_p n.head, .inl rfl, ?_⟩; conv => whnf) | (refine ACall.pure (sl22HeadZero_p n.nxt) rfl ?_; conv => whnf) | (refine AFCall.mk ⟨_, _, sl22HeadZero_p n.nxt, .inl rfl, ?_⟩; conv => whnf) | (exact rr) | (refine And.intro rfl ?_; conv => whnf) | (refine AB.mk (fun h => ?_) (fun h => ?_) <;> (conv => whnf)))
  all_goals
    refine rB_of ?_
    rw [Bool.eq_iff_iff]
    simp only [decide_eq_true_iff, Bool.and_eq_true, log_eq, logNo, book_eq]
    simp_all
theorem sl22Log_p (n : DLogNode) (up : Bool) (hs : LogSmall n) : PCall av 112 [.agg n.ds, .one (dB up)] (rB (if up then logOk n else logDown n)) := by
  refine pcall_of av_ok Tryz.func112 rfl Tryz.call112 Tryz.ntmps112 (congrArg Array.toList Tryz.results112) fun S => ?_; conv => whnf
  repeat' (first | (refine aw0 ?_) | ((first | refine aw1 ?_ | refine aw2 ?_ | refine aw3 ?_ | refine aw4 ?_ | refine aw5 ?_ | refine aw6 ?_ | refine aw7 ?_ | refine aw8 ?_); conv => whnf) | ((first | refine bT ?_ | refine bF ?_); conv => whnf) | (refine ACall.pure (sLogOk_p n hs.head hs.owe hs.seen hs.nxt) rfl ?_; conv => whnf) | (refine AFCall.mk ⟨_, _, sLogOk_p n hs.head hs.owe hs.seen hs.nxt, .inl rfl, ?_⟩; conv => whnf) | (refine ACall.pure (sl22LogDown_p n) rfl ?_; conv => whnf) | (refine AFCall.mk ⟨_, _, sl22LogDown_p n, .inl rfl, ?_⟩; conv => whnf) | (exact rr) | (refine And.intro rfl ?_; conv => whnf) | (refine AB.mk (fun h => ?_) (fun h => ?_) <;> (conv => whnf)))
  all_goals
    refine rB_of ?_
    simp_all
theorem ilogFits_p (how : OwedP) (w : DWorld) (h6 : w.up.length = 6) (hs : LogSmall w.log) : PCall av 134 [.agg w.ds] (rB (if upAt w 0 then logOk w.log else logDown w.log)) := by
  rw [logDown_eq]
  refine pcall_of av_ok Tryz.func134 rfl Tryz.call134 Tryz.ntmps134 (congrArg Array.toList Tryz.results134) fun S => ?_; conv => whnf
  repeat' (first | (refine aw0 ?_) | ((first | refine aw1 ?_ | refine aw2 ?_ | refine aw3 ?_ | refine aw4 ?_ | refine aw5 ?_ | refine aw6 ?_ | refine aw7 ?_ | refine aw8 ?_); conv => whnf) | ((first | refine bT ?_ | refine bF ?_); conv => whnf) | (refine AIx.at 0 _ rfl (up_at h6 (by decide)) ?_; conv => whnf) | (refine AIx.at 1 _ rfl (up_at h6 (by decide)) ?_; conv => whnf) | (refine AIx.at 2 _ rfl (up_at h6 (by decide)) ?_; conv => whnf) | (refine AIx.at 3 _ rfl (up_at h6 (by decide)) ?_; conv => whnf) | (refine AIx.at 4 _ rfl (up_at h6 (by decide)) ?_; conv => whnf) | (refine AIx.at 5 _ rfl (up_at h6 (by decide)) ?_; conv => whnf) | (refine ACall.pure (iLogOk_p how w.log hs) rfl ?_; conv => whnf) | (refine AFCall.mk ⟨_, _, iLogOk_p how w.log hs, .inl rfl, ?_⟩; conv => whnf) | (refine ACall.pure (iTwoOk_p w.log.two) rfl ?_; conv => whnf) | (refine AFCall.mk ⟨_, _, iTwoOk_p w.log.two, .inl rfl, ?_⟩; conv => whnf) | (refine ACall.pure (iSameLog_p w.log (logNo w.log.two) hs) rfl ?_; conv => whnf) | (refine AFCall.mk ⟨_, _, iSameLog_p w.log (logNo w.log.two) hs, .inl rfl, ?_⟩; conv => whnf) | (exact rr) | (refine And.intro rfl ?_; conv => whnf) | (refine AB.mk (fun h => ?_) (fun h => ?_) <;> (conv => whnf)))
  all_goals
    refine rB_of ?_
    simp_all
theorem istoreFits_p (w : DWorld) (h6 : w.up.length = 6) (hs : w.store.state.pairs.length ≤ 9223372036854775806) (hj : w.store.state.jobs.length ≤ 9223372036854775806) : PCall av 135 [.agg w.ds] (rB (if upAt w 1 then storeOk w.store else storeDown w.store)) := by
  refine pcall_of av_ok Tryz.func135 rfl Tryz.call135 Tryz.ntmps135 (congrArg Array.toList Tryz.results135) fun S => ?_; conv => whnf
  repeat' (first | (refine aw0 ?_) | ((first | refine aw1 ?_ | refine aw2 ?_ | refine aw3 ?_ | refine aw4 ?_ | refine aw5 ?_ | refine aw6 ?_ | refine aw7 ?_ | refine aw8 ?_); conv => whnf) | ((first | refine bT ?_ | refine bF ?_); conv => whnf) | (refine AIx.at 0 _ rfl (up_at h6 (by decide)) ?_; conv => whnf) | (refine AIx.at 1 _ rfl (up_at h6 (by decide)) ?_; conv => whnf) | (refine AIx.at 2 _ rfl (up_at h6 (by decide)) ?_; conv => whnf) | (refine AIx.at 3 _ rfl (up_at h6 (by decide)) ?_; conv => whnf) | (refine AIx.at 4 _ rfl (up_at h6 (by decide)) ?_; conv => whnf) | (refine AIx.at 5 _ rfl (up_at h6 (by decide)) ?_; conv => whnf) | (refine ACall.pure (iStoreOk_p w.store hs) rfl ?_; conv => whnf) | (refine AFCall.mk ⟨_, _, iStoreOk_p w.store hs, .inl rfl, ?_⟩; conv => whnf) | (refine ACall.pure (iDiskOk_p w.store.disk) rfl ?_; conv => whnf) | (refine AFCall.mk ⟨_, _, iDiskOk_p w.store.disk, .inl rfl, ?_⟩; conv => whnf) | (refine ACall.pure (iSameState_p w.store.state state0 hs (by decide) hj) rfl ?_; conv => whnf) | (refine AFCall.mk ⟨_, _, iSameState_p w.store.state state0 hs (by decide) hj, .inl rfl, ?_⟩; conv => whnf) | (exact rr) | (refine And.intro rfl ?_; conv => whnf) | (refine AB.mk (fun h => ?_) (fun h => ?_) <;> (conv => whnf)))
  all_goals
    refine rB_of ?_
    try simp only [same0] at *
    first
      | (simp_all; done)
      | (rw [Bool.eq_iff_iff]
         simp [storeDown, store_eq]
         simp_all; done)
theorem ischedsFit_p (w : DWorld) (h6 : w.up.length = 6) (h1 : w.left.view.jobs.opens.length ≤ 9223372036854775806) (h2 : w.right.view.jobs.opens.length ≤ 9223372036854775806) : PCall av 133 [.agg w.ds] (rB (schedFits w.left 2 (upAt w 2) && schedFits w.right 3 (upAt w 3))) := by
  refine pcall_of av_ok Tryz.func133 rfl Tryz.call133 Tryz.ntmps133 (congrArg Array.toList Tryz.results133) fun S => ?_; conv => whnf
  repeat' (first | (refine aw0 ?_) | ((first | refine aw1 ?_ | refine aw2 ?_ | refine aw3 ?_ | refine aw4 ?_ | refine aw5 ?_ | refine aw6 ?_ | refine aw7 ?_ | refine aw8 ?_); conv => whnf) | ((first | refine bT ?_ | refine bF ?_); conv => whnf) | (refine AWP.drawK av_ok 1 14 dk_WC2__impl_World__schedsFit_1 fk_WC2__impl_World__schedsFit_1 (by kernel_rfl) (by kernel_rfl) (by kernel_rfl) rfl ?_; conv => whnf) | (refine AIx.at 0 _ rfl (up_at h6 (by decide)) ?_; conv => whnf) | (refine AIx.at 1 _ rfl (up_at h6 (by decide)) ?_; conv => whnf) | (refine AIx.at 2 _ rfl (up_at h6 (by decide)) ?_; conv => whnf) | (refine AIx.at 3 _ rfl (up_at h6 (by decide)) ?_; conv => whnf) | (refine AIx.at 4 _ rfl (up_at h6 (by decide)) ?_; conv => whnf) | (refine AIx.at 5 _ rfl (up_at h6 (by decide)) ?_; conv => whnf) | (refine ACall.pure (ischedFits_p w.left _ _ h1) rfl ?_; conv => whnf) | (refine AFCall.mk ⟨_, _, ischedFits_p w.left _ _ h1, .inl rfl, ?_⟩; conv => whnf) | (refine ACall.pure (ischedFits_p w.right _ _ h2) rfl ?_; conv => whnf) | (refine AFCall.mk ⟨_, _, ischedFits_p w.right _ _ h2, .inl rfl, ?_⟩; conv => whnf) | (exact rr) | (refine And.intro rfl ?_; conv => whnf) | (refine AB.mk (fun h => ?_) (fun h => ?_) <;> (conv => whnf)))
  all_goals
    refine rB_of ?_
    simp_all
theorem iclientsFit_p (w : DWorld) (h6 : w.up.length = 6) (h1 : w.ann.todo.length ≤ 9223372036854775806 ∧ w.ann.gots.length ≤ 9223372036854775806) (h2 : w.bob.todo.length ≤ 9223372036854775806 ∧ w.bob.gots.length ≤ 9223372036854775806) : PCall av 132 [.agg w.ds] (rB (upAt w 4 && upAt w 5 && clientOk w.ann && w.ann.id == 4 && clientOk w.bob && w.bob.id == 5)) := by
  refine pcall_of av_ok Tryz.func132 rfl Tryz.call132 Tryz.ntmps132 (congrArg Array.toList Tryz.results132) fun S => ?_; conv => whnf
  repeat' (first | (refine aw0 ?_) | ((first | refine aw1 ?_ | refine aw2 ?_ | refine aw3 ?_ | refine aw4 ?_ | refine aw5 ?_ | refine aw6 ?_ | refine aw7 ?_ | refine aw8 ?_); conv => whnf) | ((first | refine bT ?_ | refine bF ?_); conv => whnf) | (refine AIx.at 0 _ rfl (up_at h6 (by decide)) ?_; conv => whnf) | (refine AIx.at 1 _ rfl (up_at h6 (by decide)) ?_; conv => whnf) | (refine AIx.at 2 _ rfl (up_at h6 (by decide)) ?_; conv => whnf) | (refine AIx.at 3 _ rfl (up_at h6 (by decide)) ?_; conv => whnf) | (refine AIx.at 4 _ rfl (up_at h6 (by decide)) ?_; conv => whnf) | (refine AIx.at 5 _ rfl (up_at h6 (by decide)) ?_; conv => whnf) | (refine ACall.pure (iClientOk_p w.ann h1.1 h1.2) rfl ?_; conv => whnf) | (refine AFCall.mk ⟨_, _, iClientOk_p w.ann h1.1 h1.2, .inl rfl, ?_⟩; conv => whnf) | (refine ACall.pure (iClientOk_p w.bob h2.1 h2.2) rfl ?_; conv => whnf) | (refine AFCall.mk ⟨_, _, iClientOk_p w.bob h2.1 h2.2, .inl rfl, ?_⟩; conv => whnf) | (exact rr) | (refine And.intro rfl ?_; conv => whnf) | (refine AB.mk (fun h => ?_) (fun h => ?_) <;> (conv => whnf)))
  all_goals
    refine rB_of ?_
    simp_all

theorem up_ne {w : DWorld} (h : (((w.up.map eB).length : Int) != 6) = true) : ¬ w.up.length = 6 := by
  simp at h; omega
theorem clk_ne {w : DWorld} (h : (((w.clocks.map eI).length : Int) != 6) = true) : ¬ w.clocks.length = 6 := by
  simp at h; omega
theorem clk6 {w : DWorld} (h : (((w.clocks.map eI).length : Int) != 6) = false) : w.clocks.length = 6 := by
  simp at h; omega
theorem part_fn (w : World) (xs : Array Value) (i : Nat) (v : Value) (h : xs[i]? = some v) : (part 115 xs i).run Tryz.prog w = .ok v w := by
  simp [part, Tryz.isAgg115, Tryz.sizeOf115, h]
theorem AOp.idxFn {S : Base} {st : ASt} {o : Oper} {x i : Operand} {K : ASt → Prop} {ds : List AD} {n : Nat} {v : Value} (ho : o.op = .index 201 x i) (hx : aEv st x fun y => y = .agg (ds.map .d)) (hi : aEv st i fun y => y = vI .i64 (n : Int)) (hd : ds.all AD.isPv = true) (hn : n < 4) (hv : (ds.map pvOf)[n]? = some v) (h1 : v.oneCell' = true) (hk : aDst st o.dst (.one (.d (.pv v))) K) : AOp av S o st K := by
  refine .reads fun Z ρ a w hs => ?_
  obtain ⟨u, hu, rfl⟩ := aEv_get hs hx
  obtain ⟨z, hz, rfl⟩ := aEv_get hs hi
  have e1 := relV_pvs hd hu
  have e2 := relV_pv hz
  have hp := part_fn w (ds.map pvOf).toArray n v (by simpa using hv)
  refine ⟨.one (.d (.pv v)), v, relV_of_pv h1, ?_, hk⟩
  have hlt : (0 : Int) ≤ (n : Int) ∧ (n : Int) < 4 := ⟨by omega, by omega⟩
  simp [execOp, ho, e1, e2, Instr.index, asIntOf, av, run_underlying Tryz.underlying201, Tryz.sizeOf115, hn, hp]
theorem worldOk_eq (w : DWorld) : worldOk w = (clocksOk w.clocks && decide (w.up.length = 6) && netOk w.net && (upAt w 4 && upAt w 5 && clientOk w.ann && w.ann.id == 4 && clientOk w.bob && w.bob.id == 5) && (schedFits w.left 2 (upAt w 2) && schedFits w.right 3 (upAt w 3)) && (if upAt w 0 then logOk w.log else logDown w.log) && (if upAt w 1 then storeOk w.store else storeDown w.store)) := by
  simp only [worldOk, Bool.and_assoc]
theorem not_t {b : Bool} (h : (!b) = true) : b = false := by rwa [Bool.not_eq_true'] at h
theorem not_f {b : Bool} (h : (!b) = false) : b = true := by rwa [Bool.not_eq_false'] at h
def fnTab : List AD := [.pv (.func (.func 132) #[] #[]), .pv (.func (.func 133) #[] #[]), .pv (.func (.func 134) #[] #[]), .pv (.func (.func 135) #[] #[])]
theorem iWorldOk_p (w : DWorld) (hs : DWorld.small 1048576 w) : PCall av 44 [.agg w.ds] (rB (worldOk w)) := by
  obtain ⟨s1, ⟨_, s2⟩, s3, s4, s5, s6, s7, s8⟩ := hs
  simp only [DState.small, DSched.small, DView.small, DJobs.small, DClient.small] at s2 s3 s4 s5 s6
  refine pcall_of av_ok Tryz.func44 rfl Tryz.call44 Tryz.ntmps44 (congrArg Array.toList Tryz.results44) fun S => ?_; conv => whnf
  repeat' (first | (refine aw0 ?_) | ((first | refine aw1 ?_ | refine aw2 ?_ | refine aw3 ?_ | refine aw4 ?_ | refine aw5 ?_ | refine aw6 ?_ | refine aw7 ?_ | refine aw8 ?_); conv => whnf) | ((first | refine bT ?_ | refine bF ?_); conv => whnf) | (refine ACall.pure (iClocksOk_p w.clocks) rfl ?_; conv => whnf) | (refine AFCall.mk ⟨_, _, iClocksOk_p w.clocks, .inl rfl, ?_⟩; conv => whnf) | (refine ACall.pure (iNetOk_p w.net) rfl ?_; conv => whnf) | (refine AFCall.mk ⟨_, _, iNetOk_p w.net, .inl rfl, ?_⟩; conv => whnf) | (exact rr) | (refine And.intro rfl ?_; conv => whnf) | (refine AB.mk (fun h => ?_) (fun h => ?_) <;> (conv => whnf)))
  all_goals first
    | (have hno := up_ne h
       refine rB_of ?_
       simp_all [worldOk]; done)
    | (refine rB_of ?_
       simp_all [worldOk]; done)
    | skip
  have h6 : w.up.length = 6 := len6 (by assumption)
  have hc : clocksOk w.clocks = true := by
    have : (!clocksOk w.clocks) = false := by assumption
    rwa [Bool.not_eq_false'] at this
  have hn : netOk w.net = true := by rwa [Bool.not_eq_false'] at h
  refine AWP.unroll 5 ?_
  conv => whnf
  repeat' (first | (refine aw0 ?_) | ((first | refine aw1 ?_ | refine aw2 ?_ | refine aw3 ?_ | refine aw4 ?_ | refine aw5 ?_ | refine aw6 ?_ | refine aw7 ?_ | refine aw8 ?_); conv => whnf) | ((first | refine bT ?_ | refine bF ?_); conv => whnf) | (refine AOp.idxFn (ds := fnTab) (n := 0) rfl rfl rfl rfl (by decide) rfl rfl ?_; conv => whnf) | (refine AOp.idxFn (ds := fnTab) (n := 1) rfl rfl rfl rfl (by decide) rfl rfl ?_; conv => whnf) | (refine AOp.idxFn (ds := fnTab) (n := 2) rfl rfl rfl rfl (by decide) rfl rfl ?_; conv => whnf) | (refine AOp.idxFn (ds := fnTab) (n := 3) rfl rfl rfl rfl (by decide) rfl rfl ?_; conv => whnf) | (refine ACall.pure (iclientsFit_p w h6 ⟨by omega, by omega⟩ ⟨by omega, by omega⟩) rfl ?_; conv => whnf) | (refine AFCall.mk ⟨_, _, iclientsFit_p w h6 ⟨by omega, by omega⟩ ⟨by omega, by omega⟩, .inl rfl, ?_⟩; conv => whnf) | (refine ACall.pure (ischedsFit_p w h6 (by omega) (by omega)) rfl ?_; conv => whnf) | (refine AFCall.mk ⟨_, _, ischedsFit_p w h6 (by omega) (by omega), .inl rfl, ?_⟩; conv => whnf) | (refine ACall.pure (ilogFits_p owed_p w h6 (small_log s1)) rfl ?_; conv => whnf) | (refine AFCall.mk ⟨_, _, ilogFits_p owed_p w h6 (small_log s1), .inl rfl, ?_⟩; conv => whnf) | (refine ACall.pure (istoreFits_p w h6 (by omega) (by omega)) rfl ?_; conv => whnf) | (refine AFCall.mk ⟨_, _, istoreFits_p w h6 (by omega) (by omega), .inl rfl, ?_⟩; conv => whnf) | (refine AW.i64 (by decide) (by decide) ?_; conv => whnf) | (exact rr) | (refine And.intro rfl ?_; conv => whnf) | (refine AB.mk (fun h => ?_) (fun h => ?_) <;> (conv => whnf)))
  all_goals
    refine rB_of ?_
    rw [worldOk_eq]
    simp only [hc, hn, h6, decide_true, Bool.true_and]
    first
      | (simp only [not_t h, Bool.false_and, Bool.and_false]; done)
      | (have e := not_t h
         rw [e]
         simp only [Bool.and_false]; done)
      | (have e1 := not_f h
         simp_all; done)
      | skip
theorem sWorldOk_p (w : DWorld) (hs : DWorld.small 1048576 w) : PCall av 35 [.agg w.ds] (rB (worldOk w)) := by
  obtain ⟨s1, ⟨_, s2⟩, s3, s4, s5, s6, s7, s8⟩ := hs
  simp only [DState.small, DSched.small, DView.small, DJobs.small, DClient.small] at s2 s3 s4 s5 s6
  refine pcall_of av_ok Tryz.func35 rfl Tryz.call35 Tryz.ntmps35 (congrArg Array.toList Tryz.results35) fun S => ?_; conv => whnf
  repeat' (first | (refine aw0 ?_) | ((first | refine aw1 ?_ | refine aw2 ?_ | refine aw3 ?_ | refine aw4 ?_ | refine aw5 ?_ | refine aw6 ?_ | refine aw7 ?_ | refine aw8 ?_); conv => whnf) | ((first | refine bT ?_ | refine bF ?_); conv => whnf) | (refine AIx.at 4 _ rfl (up_at (len6 (by assumption)) (by decide)) ?_; conv => whnf) | (refine AIx.at 5 _ rfl (up_at (len6 (by assumption)) (by decide)) ?_; conv => whnf) | (exact rr) | (refine And.intro rfl ?_; conv => whnf) | (refine AB.mk (fun h => ?_) (fun h => ?_) <;> (conv => whnf)))
  all_goals first
    | (have hno := up_ne h
       refine rB_of ?_
       rw [worldOk_eq]
       simp only [hno, decide_false, Bool.and_false, Bool.false_and]; done)
    | (have hno := clk_ne h
       refine rB_of ?_
       rw [worldOk_eq]
       simp only [clocksOk, hno, decide_false, Bool.and_false, Bool.false_and]; done)
    | (refine rB_of ?_
       rw [worldOk_eq]
       simp only [not_t h, Bool.and_false, Bool.false_and]; done)
    | skip
  have h6 : w.up.length = 6 := len6 (by assumption)
  have hc6 : w.clocks.length = 6 := clk6 (by assumption)
  have u4 : upAt w 4 = true := by
    have : (!upAt w 4) = false := by assumption
    exact not_f this
  have u5 : upAt w 5 = true := not_f h
  repeat' (first | (refine aw0 ?_) | ((first | refine aw1 ?_ | refine aw2 ?_ | refine aw3 ?_ | refine aw4 ?_ | refine aw5 ?_ | refine aw6 ?_ | refine aw7 ?_ | refine aw8 ?_); conv => whnf) | ((first | refine bT ?_ | refine bF ?_); conv => whnf) | (refine AWP.drawK av_ok 3 21 dk_WC2_spec_WorldOk_3 fk_WC2_spec_WorldOk_3 (by kernel_rfl) (by kernel_rfl) (by kernel_rfl) rfl ?_; conv => whnf) | (refine AWP.drawK av_ok 5 15 dk_WC2_spec_WorldOk_5 fk_WC2_spec_WorldOk_5 (by kernel_rfl) (by kernel_rfl) (by kernel_rfl) rfl ?_; conv => whnf) | (refine AIx.at 0 _ rfl (up_at h6 (by decide)) ?_; conv => whnf) | (refine AIx.at 1 _ rfl (up_at h6 (by decide)) ?_; conv => whnf) | (refine AIx.at 2 _ rfl (up_at h6 (by decide)) ?_; conv => whnf) | (refine AIx.at 3 _ rfl (up_at h6 (by decide)) ?_; conv => whnf) | (refine AIx.at 4 _ rfl (up_at h6 (by decide)) ?_; conv => whnf) | (refine AIx.at 5 _ rfl (up_at h6 (by decide)) ?_; conv => whnf) | (refine ACall.pure (sl22Clocks_p w.clocks hc6) rfl ?_; conv => whnf) | (refine AFCall.mk ⟨_, _, sl22Clocks_p w.clocks hc6, .inl rfl, ?_⟩; conv => whnf) | (refine ACall.pure (sl22Log_p w.log _ (small_log s1)) rfl ?_; conv => whnf) | (refine AFCall.mk ⟨_, _, sl22Log_p w.log _ (small_log s1), .inl rfl, ?_⟩; conv => whnf) | (refine ACall.pure (sl22Store_p w.store _ (by omega) (by omega)) rfl ?_; conv => whnf) | (refine AFCall.mk ⟨_, _, sl22Store_p w.store _ (by omega) (by omega), .inl rfl, ?_⟩; conv => whnf) | (refine ACall.pure (sl22Sched_p w.left _ _) rfl ?_; conv => whnf) | (refine AFCall.mk ⟨_, _, sl22Sched_p w.left _ _, .inl rfl, ?_⟩; conv => whnf) | (refine ACall.pure (sl22Sched_p w.right _ _) rfl ?_; conv => whnf) | (refine AFCall.mk ⟨_, _, sl22Sched_p w.right _ _, .inl rfl, ?_⟩; conv => whnf) | (refine ACall.pure (sClientOk_p w.ann (by omega) (by omega)) rfl ?_; conv => whnf) | (refine AFCall.mk ⟨_, _, sClientOk_p w.ann (by omega) (by omega), .inl rfl, ?_⟩; conv => whnf) | (refine ACall.pure (sClientOk_p w.bob (by omega) (by omega)) rfl ?_; conv => whnf) | (refine AFCall.mk ⟨_, _, sClientOk_p w.bob (by omega) (by omega), .inl rfl, ?_⟩; conv => whnf) | (refine ACall.pure (sNetOk_p w.net) rfl ?_; conv => whnf) | (refine AFCall.mk ⟨_, _, sNetOk_p w.net, .inl rfl, ?_⟩; conv => whnf) | (exact rr) | (refine And.intro rfl ?_; conv => whnf) | (refine AB.mk (fun h => ?_) (fun h => ?_) <;> (conv => whnf)))
  all_goals
    refine rB_of ?_
    rw [worldOk_eq]
    simp only [h6, u4, u5, decide_true, Bool.true_and, Bool.and_true]
    first
      | (simp only [not_t h, Bool.false_and, Bool.and_false]; done)
      | (have e := not_t h
         rw [e]
         simp only [Bool.and_false, Bool.false_and]; done)
      | (simp_all; done)
      | (have b1 : clocksOk w.clocks = true := not_f (by assumption)
         have b2 : (if upAt w 0 = true then logOk w.log else logDown w.log) = true := not_f (by assumption)
         have b3 : (if upAt w 1 = true then storeOk w.store else storeDown w.store) = true := not_f (by assumption)
         have b4 : schedFits w.left 2 (upAt w 2) = true := not_f (by assumption)
         have b5 : schedFits w.right 3 (upAt w 3) = true := not_f (by assumption)
         have b6 : clientOk w.ann = true := by assumption
         have b7 : (w.ann.id == 4) = true := by assumption
         have b8 : clientOk w.bob = true := by assumption
         have b9 : (w.bob.id == 5) = true := by assumption
         simp only [b1, b2, b3, b4, b5, b6, b7, b8, b9, Bool.and_true, Bool.true_and])
end Go.Proofs.YtmgcnmdbhahhlaaGreat
namespace Go.Proofs.YtmgcnmdbhahhlaaGreat
open Go.ChangeShapes Go.WideShapes Go.RowKit

theorem world_up {w : DWorld} (h : worldOk w = true) : w.up.length = 6 := by
  rw [worldOk_eq] at h
  simp only [Bool.and_eq_true, decide_eq_true_eq] at h
  exact h.1.1.1.1.1.2
theorem world_log {w : DWorld} (h : worldOk w = true) (h0 : upAt w 0 = true) : logOk w.log = true := by
  rw [worldOk_eq] at h
  simp only [Bool.and_eq_true, h0, if_true] at h
  exact h.1.2
theorem world_store {w : DWorld} (h : worldOk w = true) (h1 : upAt w 1 = true) : storeOk w.store = true := by
  rw [worldOk_eq] at h
  simp only [Bool.and_eq_true, h1, if_true] at h
  exact h.2
theorem log_durable {n : DLogNode} (h : logOk n = true) : 0 ≤ n.durable ∧ n.durable ≤ 2000 := by
  rw [logOk_eq] at h
  simp only [Bool.and_eq_true] at h
  obtain ⟨⟨⟨h1, h2⟩, _⟩, _⟩ := h
  have hb := (log_p1 h1).2.2.1
  have hl := book_last hb
  have hp := (book_parts hb).1
  simp only [logP2, Bool.and_eq_true, betweenB, decide_eq_true_eq] at h2
  omega
theorem store_index {s : DStore} (h : storeOk s = true) : 0 ≤ s.state.index ∧ s.state.index ≤ 2000 := by
  simp only [storeOk, stateOk, Bool.and_eq_true, betweenB, decide_eq_true_eq] at h
  omega
theorem iUpIn_p (w : DWorld) (k : Nat) (hk : k < 6) (hs : DWorld.small 1048576 w) : PCall av 66 [.agg w.ds, .one (dI (k : Int))] (rB (worldOk w && upAt w k)) := by
  have hn : betweenB (k : Int) 0 5 = true := by simp [betweenB]; omega
  refine pcall_of av_ok Tryz.func66 rfl Tryz.call66 Tryz.ntmps66 (congrArg Array.toList Tryz.results66) fun S => ?_; conv => whnf
  repeat' (first | (refine aw0 ?_) | ((first | refine aw1 ?_ | refine aw2 ?_ | refine aw3 ?_ | refine aw4 ?_ | refine aw5 ?_ | refine aw6 ?_ | refine aw7 ?_ | refine aw8 ?_); conv => whnf) | ((first | refine bT ?_ | refine bF ?_); conv => whnf) | (refine ACall.pure (iWorldOk_p w hs) rfl ?_; conv => whnf) | (refine AFCall.mk ⟨_, _, iWorldOk_p w hs, .inl rfl, ?_⟩; conv => whnf) | (refine ACall.pure (inodeOk_p _) rfl ?_; conv => whnf) | (refine AFCall.mk ⟨_, _, inodeOk_p _, .inl rfl, ?_⟩; conv => whnf) | (refine AIx.at k _ rfl (up_at (world_up (by assumption)) hk) ?_; conv => whnf) | (exact rr) | (refine And.intro rfl ?_; conv => whnf) | (refine AB.mk (fun h => ?_) (fun h => ?_) <;> (conv => whnf)))
  all_goals
    refine rB_of ?_
    simp_all
theorem sUpIn_p (w : DWorld) (k : Nat) (hk : k < 6) (hs : DWorld.small 1048576 w) : PCall av 76 [.agg w.ds, .one (dI (k : Int))] (rB (worldOk w && upAt w k)) := by
  have hn : betweenB (k : Int) 0 5 = true := by simp [betweenB]; omega
  refine pcall_of av_ok Tryz.func76 rfl Tryz.call76 Tryz.ntmps76 (congrArg Array.toList Tryz.results76) fun S => ?_; conv => whnf
  repeat' (first | (refine aw0 ?_) | ((first | refine aw1 ?_ | refine aw2 ?_ | refine aw3 ?_ | refine aw4 ?_ | refine aw5 ?_ | refine aw6 ?_ | refine aw7 ?_ | refine aw8 ?_); conv => whnf) | ((first | refine bT ?_ | refine bF ?_); conv => whnf) | (refine ACall.pure (sWorldOk_p w hs) rfl ?_; conv => whnf) | (refine AFCall.mk ⟨_, _, sWorldOk_p w hs, .inl rfl, ?_⟩; conv => whnf) | (refine ACall.pure (sl22Node_p _) rfl ?_; conv => whnf) | (refine AFCall.mk ⟨_, _, sl22Node_p _, .inl rfl, ?_⟩; conv => whnf) | (refine AIx.at k _ rfl (up_at (world_up (by assumption)) hk) ?_; conv => whnf) | (exact rr) | (refine And.intro rfl ?_; conv => whnf) | (refine AB.mk (fun h => ?_) (fun h => ?_) <;> (conv => whnf)))
  all_goals
    refine rB_of ?_
    simp_all
end Go.Proofs.YtmgcnmdbhahhlaaGreat
namespace Go.Proofs.YtmgcnmdbhahhlaaGreat
open Go.ChangeShapes Go.WideShapes Go.RowKit

structure SmR {α : Type} (R : Rep α) (p : α → Prop) : Prop where
  h : ∀ {w cs a F}, R.rd w cs a F → p a
theorem SmR.any {α : Type} {R : Rep α} : SmR R fun _ => True := ⟨fun _ => trivial⟩
theorem SmR.pair {α β : Type} {R : Rep α} {S : Rep β} {p : α → Prop} {q : β → Prop} (h1 : SmR R p) (h2 : SmR S q) : SmR (Rep.pair R S) fun x => p x.1 ∧ q x.2 := by
  refine ⟨?_⟩
  rintro w cs a F ⟨c1, c2, F1, F2, _, _, g1, g2⟩
  exact ⟨h1.h g1, h2.h g2⟩
theorem SmR.via {α β : Type} {R : Rep α} {f : β → α} {p : α → Prop} (h : SmR R p) : SmR (Rep.via f R) fun x => p (f x) := ⟨fun hr => h.h hr⟩
theorem SmR.all {α : Type} {R : Rep α} {p : α → Prop} (h : SmR R p) {w : World} : ∀ {l : List α} {xs : List Value} {F : List Nat}, R.all w xs l F → ∀ y ∈ l, p y
  | [], _, _, _, y, hy => by cases hy
  | a :: l, _, _, ⟨c1, c2, F1, F2, _, _, h1, h2⟩, y, hy => by
    rcases List.mem_cons.1 hy with rfl | hy
    · exact h.h h1
    · exact SmR.all h h2 y hy
theorem SmR.sl {α : Type} {R : Rep α} {p : α → Prop} (h : SmR R p) : SmR (Rep.sl R) fun l => l.length ≤ 9223372036854775807 ∧ ∀ y ∈ l, p y := by
  refine ⟨?_⟩
  rintro w cs l F ⟨A, cap, xs, F1, _, hc, hm, _, hall, _⟩
  have : maxLen ≤ 9223372036854775807 := by decide
  exact ⟨by omega, SmR.all h hall⟩
theorem SmR.mono {α : Type} {R : Rep α} {p q : α → Prop} (h : SmR R p) (hq : ∀ a, p a → q a) : SmR R q := ⟨fun hr => hq _ (h.h hr)⟩
theorem SmR.to {α β : Type} {R : Rep β} {S : Rep α} {f : β → α} {p : α → Prop} {q : β → Prop} (h : SmR S p) (e : R = Rep.via f S) (hq : ∀ a, p (f a) → q a) : SmR R q := by subst e; exact (SmR.via h).mono hq
theorem sm_DWrite : SmR Rep.DWrite (DWrite.small 9223372036854775807) := SmR.to (SmR.pair SmR.any (SmR.sl SmR.any)) rfl fun x h => h.2.1
theorem sm_DDisk : SmR Rep.DDisk (DDisk.small 9223372036854775807) := SmR.to (SmR.pair (SmR.sl (SmR.sl SmR.any)) (SmR.sl sm_DWrite)) rfl fun x h => ⟨h.1.1, fun y hy => (h.1.2 y hy).1, h.2.1, h.2.2⟩
theorem sm_DTwo : SmR Rep.DTwo (DTwo.small 9223372036854775807) := SmR.to (SmR.pair sm_DDisk sm_DDisk) rfl fun x h => h
theorem sm_DHead : SmR Rep.DHead (DHead.small 9223372036854775807) := SmR.to (SmR.pair SmR.any (SmR.pair SmR.any (SmR.pair SmR.any (SmR.sl SmR.any)))) rfl fun x h => h.2.2.2.1
theorem sm_DBook : SmR Rep.DBook (DBook.small 9223372036854775807) := SmR.to (SmR.pair SmR.any (SmR.pair SmR.any (SmR.sl SmR.any))) rfl fun x h => h.2.2.1
theorem sm_DLogNode : SmR Rep.DLogNode (DLogNode.small 9223372036854775807) := SmR.to (SmR.pair sm_DTwo (SmR.pair sm_DHead (SmR.pair sm_DHead (SmR.pair SmR.any (SmR.pair sm_DBook (SmR.pair (SmR.sl SmR.any) (SmR.pair SmR.any (SmR.sl SmR.any)))))))) rfl fun x h => ⟨h.1, h.2.1, h.2.2.1, h.2.2.2.2.1, h.2.2.2.2.2.1.1, h.2.2.2.2.2.2.2.1⟩
theorem sm_DState : SmR Rep.DState (DState.small 9223372036854775807) := SmR.to (SmR.pair SmR.any (SmR.pair SmR.any (SmR.pair (SmR.sl SmR.any) (SmR.pair (SmR.sl SmR.any) SmR.any)))) rfl fun x h => ⟨h.2.2.1.1, h.2.2.2.1.1⟩
theorem sm_DStore : SmR Rep.DStore (DStore.small 9223372036854775807) := SmR.to (SmR.pair sm_DDisk (SmR.pair sm_DState SmR.any)) rfl fun x h => ⟨h.1, h.2.1⟩
theorem sm_DJobs : SmR Rep.DJobs (DJobs.small 9223372036854775807) := SmR.to (SmR.pair SmR.any (SmR.pair SmR.any (SmR.pair SmR.any (SmR.pair SmR.any (SmR.pair SmR.any (SmR.sl SmR.any)))))) rfl fun x h => h.2.2.2.2.2.1
theorem sm_DView : SmR Rep.DView (DView.small 9223372036854775807) := SmR.to sm_DJobs rfl fun x h => h
theorem sm_DSched : SmR Rep.DSched (DSched.small 9223372036854775807) := SmR.to (SmR.pair SmR.any (SmR.pair SmR.any (SmR.pair sm_DView SmR.any))) rfl fun x h => h.2.2.1
theorem sm_DClient : SmR Rep.DClient (DClient.small 9223372036854775807) := SmR.to (SmR.pair SmR.any (SmR.pair (SmR.sl SmR.any) (SmR.pair (SmR.sl SmR.any) SmR.any))) rfl fun x h => ⟨h.2.1.1, h.2.2.1.1⟩
theorem sm_DMsg : SmR Rep.DMsg (DMsg.small 9223372036854775807) := SmR.to (SmR.pair SmR.any (SmR.pair SmR.any (SmR.sl SmR.any))) rfl fun x h => h.2.2.1
theorem sm_DNet : SmR Rep.DNet (DNet.small 9223372036854775807) := SmR.to (SmR.pair (SmR.sl sm_DMsg) (SmR.sl SmR.any)) rfl fun x h => ⟨h.1.1, h.1.2, h.2.1⟩
theorem sm_DWorld : SmR Rep.DWorld (DWorld.small 9223372036854775807) := SmR.to (SmR.pair sm_DLogNode (SmR.pair sm_DStore (SmR.pair sm_DSched (SmR.pair sm_DSched (SmR.pair sm_DClient (SmR.pair sm_DClient (SmR.pair sm_DNet (SmR.pair (SmR.sl SmR.any) (SmR.sl SmR.any))))))))) rfl fun x h => ⟨h.1, h.2.1, h.2.2.1, h.2.2.2.1, h.2.2.2.2.1, h.2.2.2.2.2.1, h.2.2.2.2.2.2.1, h.2.2.2.2.2.2.2.1.1, h.2.2.2.2.2.2.2.2.1⟩

end Go.Proofs.YtmgcnmdbhahhlaaGreat
