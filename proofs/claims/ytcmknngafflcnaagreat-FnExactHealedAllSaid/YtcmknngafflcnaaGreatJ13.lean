/- J13 -/
import Derived.Test.YtcmknngafflcnaaGreatJ09
import Derived.Test.YtcmknngafflcnaaGreatJ10
import Derived.Test.YtcmknngafflcnaaGreatJ11
import Derived.Test.YtcmknngafflcnaaGreatJ12
import Derived.Test.YtcmknngafflcnaaGreatJ04
import Derived.Test.YtcmknngafflcnaaGreatJ05
set_option linter.unusedVariables false
set_option linter.unusedSimpArgs false
set_option maxRecDepth 100000
namespace Go.Proofs.YtcmknngafflcnaaGreat
open Go.ChangeShapes Go.WideShapes Go.RowKit
def gd : List (List Nat) := bA [0, 1, 0, 3, 259, 20676, 2165850309, 486456451138, 35322986508615, 2564408003268744, 35322986508615, 3127357956690056, 218433453250335179, 15188130469117174284, 3060242316999460753294029, 155352137575988907727708746, 20003255854293610684235649160]
def gg : List (List Nat) := bQ 14 [720, 721, 8, 17, 44, 125, 364, 1093, 4727200, 4733761, 55768, 114817, 291964, 823405]
def mi : List (List Nat) := bA [0, 1, 129, 12354, 1056835, 84676740, 6510088389, 84676740, 8657572037, 623894601992, 44534549721417, 8161371489609486858, 897119627842150478151, 23834383477096543715980, 4288656024833317761716421, 291667597250045180727304974, 20081514614155416735135838543, 291667597250045180727304974, 22557394692726177284934086991, 1524001813995025305843882574738, 102855721278592827465972037997523, 22910051626216530735801266114426909844, 1898517696975061238680915954552189768657, 82097130143209461235461938158615105709334]
def mG : List (List Nat) := bQ 21 [0, 1, 4, 13, 40, 175081, 175324, 2065, 4252, 10813, 30496, 88573, 265720, 797161, 2391484, 10338387493, 10352736400, 121965709, 251105872, 638526361, 1800787828]
def mj : List (List Nat) := bA [0, 1, 0, 3, 259, 20676, 2165850309, 486456451138, 35322986508615, 2564408003268744, 182404656231371209, 2564408003268744, 218433453250335177, 15152101672098210316, 1046997409135756341837, 215524456379084714064794382, 20081529298861424947812921931, 721816682996689648454794003344]
def mH : List (List Nat) := bQ 15 [720, 721, 8, 17, 44, 125, 364, 1093, 3280, 14181601, 14201284, 167305, 344452, 875893, 2470216]
theorem cW {w : DWorld} (h : w.up.length = 6) {k : Nat} (hk : k < 6) : (w.up.map eB)[k]? = some [dB (gY w k)] := by
  have hl : k < w.up.length := by omega
  rw [List.getElem?_map, List.getElem?_eq_getElem hl]
  simp [gY, List.getD_eq_getElem?_getD, hl]
theorem Gj {w : DWorld} (h : (((w.up.map eB).length : Int) != 6) = false) : w.up.length = 6 := by
  simp at h; omega
theorem o9 {n : DLogNode} (h : DLogNode.small 1048576 n) : mU n := by
  obtain ⟨⟨⟨h1, h2, h3, h4⟩, g1, g2, g3, g4⟩, k1, k2, k3, k4, k5⟩ := h
  simp only [DHead.small, DBook.small] at k1 k2 k3
  exact ⟨by omega, fun y hy => by have := h2 y hy; omega, by omega, fun y hy => by have : y.row.length ≤ 1048576 := h4 y hy; omega, by omega, fun y hy => by have := g2 y hy; omega, by omega, fun y hy => by have : y.row.length ≤ 1048576 := g4 y hy; omega, by omega, by omega, by omega, by omega, by omega⟩
def Ak (two : DTwo) : DLogNode := ⟨two, lE, lE, false, ⟨0, 0, []⟩, [], 0, []⟩
theorem uJ (n : DLogNode) : ld n = (sR n.two && decide (n = Ak n.two)) := by
  show (sR n.two && (n == Ak n.two)) = _
  rw [s9]
theorem pK (n : DLogNode) : ak av 142 [.agg n.ds] (rB (ld n)) := by
  rw [uJ]
  refine ac ah Tryz.func142 rfl Tryz.call142 Tryz.ntmps142 (congrArg Array.toList Tryz.results142) fun S => ?_; conv => whnf
  repeat' (first | (refine aw0 ?_) | ((first | refine aw1 ?_ | refine aw2 ?_ | refine aw3 ?_ | refine aw4 ?_ | refine aw5 ?_ | refine aw6 ?_ | refine aw7 ?_ | refine aw8 ?_); conv => whnf) | ((first | refine bT ?_ | refine bF ?_); conv => whnf) | (refine aa.pure (q9 n.two) rfl ?_; conv => whnf) | (refine ae.mk ⟨_, _, q9 n.two, .inl rfl, ?_⟩; conv => whnf) | (refine aa.pure (f9 n.head) rfl ?_; conv => whnf) | (refine ae.mk ⟨_, _, f9 n.head, .inl rfl, ?_⟩; conv => whnf) | (refine aa.pure (f9 n.nxt) rfl ?_; conv => whnf) | (refine ae.mk ⟨_, _, f9 n.nxt, .inl rfl, ?_⟩; conv => whnf) | (exact rr) | (refine And.intro rfl ?_; conv => whnf) | (refine AB.mk (fun h => ?_) (fun h => ?_) <;> (conv => whnf)))
  all_goals
    refine aT ?_
    rw [Bool.eq_iff_iff]
    simp only [decide_eq_true_iff, Bool.and_eq_true, E4, Ak, CS]
    simp_all
theorem xn (n : DLogNode) (up : Bool) (hs : mU n) : ak av 69 [.agg n.ds, .one (dB up)] (rB (if up then jZ n else ld n)) := by
  refine ac ah Tryz.func69 rfl Tryz.call69 Tryz.ntmps69 (congrArg Array.toList Tryz.results69) fun S => ?_; conv => whnf
  repeat' (first | (refine aw0 ?_) | ((first | refine aw1 ?_ | refine aw2 ?_ | refine aw3 ?_ | refine aw4 ?_ | refine aw5 ?_ | refine aw6 ?_ | refine aw7 ?_ | refine aw8 ?_); conv => whnf) | ((first | refine bT ?_ | refine bF ?_); conv => whnf) | (refine aa.pure (AQ n hs.head hs.owe hs.seen hs.nxt) rfl ?_; conv => whnf) | (refine ae.mk ⟨_, _, AQ n hs.head hs.owe hs.seen hs.nxt, .inl rfl, ?_⟩; conv => whnf) | (refine aa.pure (pK n) rfl ?_; conv => whnf) | (refine ae.mk ⟨_, _, pK n, .inl rfl, ?_⟩; conv => whnf) | (exact rr) | (refine And.intro rfl ?_; conv => whnf) | (refine AB.mk (fun h => ?_) (fun h => ?_) <;> (conv => whnf)))
  all_goals
    refine aT ?_
    simp_all
theorem uA (how : Ep) (w : DWorld) (h6 : w.up.length = 6) (hs : mU w.log) : ak av 172 [.agg w.ds] (rB (if gY w 0 then jZ w.log else ld w.log)) := by
  rw [uJ]
  refine ac ah Tryz.func172 rfl Tryz.call172 Tryz.ntmps172 (congrArg Array.toList Tryz.results172) fun S => ?_; conv => whnf
  repeat' (first | (refine aw0 ?_) | ((first | refine aw1 ?_ | refine aw2 ?_ | refine aw3 ?_ | refine aw4 ?_ | refine aw5 ?_ | refine aw6 ?_ | refine aw7 ?_ | refine aw8 ?_); conv => whnf) | ((first | refine bT ?_ | refine bF ?_); conv => whnf) | (refine AIx.at 0 _ rfl (cW h6 (by decide)) ?_; conv => whnf) | (refine AIx.at 1 _ rfl (cW h6 (by decide)) ?_; conv => whnf) | (refine AIx.at 2 _ rfl (cW h6 (by decide)) ?_; conv => whnf) | (refine AIx.at 3 _ rfl (cW h6 (by decide)) ?_; conv => whnf) | (refine AIx.at 4 _ rfl (cW h6 (by decide)) ?_; conv => whnf) | (refine AIx.at 5 _ rfl (cW h6 (by decide)) ?_; conv => whnf) | (refine aa.pure (zQ how w.log hs) rfl ?_; conv => whnf) | (refine ae.mk ⟨_, _, zQ how w.log hs, .inl rfl, ?_⟩; conv => whnf) | (refine aa.pure (qJ w.log.two) rfl ?_; conv => whnf) | (refine ae.mk ⟨_, _, qJ w.log.two, .inl rfl, ?_⟩; conv => whnf) | (refine aa.pure (ut w.log (Ak w.log.two) hs) rfl ?_; conv => whnf) | (refine ae.mk ⟨_, _, ut w.log (Ak w.log.two) hs, .inl rfl, ?_⟩; conv => whnf) | (exact rr) | (refine And.intro rfl ?_; conv => whnf) | (refine AB.mk (fun h => ?_) (fun h => ?_) <;> (conv => whnf)))
  all_goals
    refine aT ?_
    simp_all
theorem qT (w : DWorld) (h6 : w.up.length = 6) (hs : w.store.state.pairs.length ≤ 9223372036854775806) (hj : w.store.state.jobs.length ≤ 9223372036854775806) : ak av 173 [.agg w.ds] (rB (if gY w 1 then jk w.store else fE w.store)) := by
  refine ac ah Tryz.func173 rfl Tryz.call173 Tryz.ntmps173 (congrArg Array.toList Tryz.results173) fun S => ?_; conv => whnf
  repeat' (first | (refine aw0 ?_) | ((first | refine aw1 ?_ | refine aw2 ?_ | refine aw3 ?_ | refine aw4 ?_ | refine aw5 ?_ | refine aw6 ?_ | refine aw7 ?_ | refine aw8 ?_); conv => whnf) | ((first | refine bT ?_ | refine bF ?_); conv => whnf) | (refine AIx.at 0 _ rfl (cW h6 (by decide)) ?_; conv => whnf) | (refine AIx.at 1 _ rfl (cW h6 (by decide)) ?_; conv => whnf) | (refine AIx.at 2 _ rfl (cW h6 (by decide)) ?_; conv => whnf) | (refine AIx.at 3 _ rfl (cW h6 (by decide)) ?_; conv => whnf) | (refine AIx.at 4 _ rfl (cW h6 (by decide)) ?_; conv => whnf) | (refine AIx.at 5 _ rfl (cW h6 (by decide)) ?_; conv => whnf) | (refine aa.pure (uw w.store hs) rfl ?_; conv => whnf) | (refine ae.mk ⟨_, _, uw w.store hs, .inl rfl, ?_⟩; conv => whnf) | (refine aa.pure (fx w.store.disk) rfl ?_; conv => whnf) | (refine ae.mk ⟨_, _, fx w.store.disk, .inl rfl, ?_⟩; conv => whnf) | (refine aa.pure (qI w.store.state iM hs (by decide) hj) rfl ?_; conv => whnf) | (refine ae.mk ⟨_, _, qI w.store.state iM hs (by decide) hj, .inl rfl, ?_⟩; conv => whnf) | (exact rr) | (refine And.intro rfl ?_; conv => whnf) | (refine AB.mk (fun h => ?_) (fun h => ?_) <;> (conv => whnf)))
  all_goals
    refine aT ?_
    try simp only [GS] at *
    first
      | (simp_all; done)
      | (rw [Bool.eq_iff_iff]
         simp [fE, A8]
         simp_all; done)
theorem qR (w : DWorld) (h6 : w.up.length = 6) (h1 : w.left.view.jobs.opens.length ≤ 9223372036854775806) (h2 : w.right.view.jobs.opens.length ≤ 9223372036854775806) : ak av 171 [.agg w.ds] (rB (cJ w.left 2 (gY w 2) && cJ w.right 3 (gY w 3))) := by
  refine ac ah Tryz.func171 rfl Tryz.call171 Tryz.ntmps171 (congrArg Array.toList Tryz.results171) fun S => ?_; conv => whnf
  repeat' (first | (refine aw0 ?_) | ((first | refine aw1 ?_ | refine aw2 ?_ | refine aw3 ?_ | refine aw4 ?_ | refine aw5 ?_ | refine aw6 ?_ | refine aw7 ?_ | refine aw8 ?_); conv => whnf) | ((first | refine bT ?_ | refine bF ?_); conv => whnf) | (refine AWP.drawK ah 1 14 gd gg (by kernel_rfl) (by kernel_rfl) (by kernel_rfl) rfl ?_; conv => whnf) | (refine AIx.at 0 _ rfl (cW h6 (by decide)) ?_; conv => whnf) | (refine AIx.at 1 _ rfl (cW h6 (by decide)) ?_; conv => whnf) | (refine AIx.at 2 _ rfl (cW h6 (by decide)) ?_; conv => whnf) | (refine AIx.at 3 _ rfl (cW h6 (by decide)) ?_; conv => whnf) | (refine AIx.at 4 _ rfl (cW h6 (by decide)) ?_; conv => whnf) | (refine AIx.at 5 _ rfl (cW h6 (by decide)) ?_; conv => whnf) | (refine aa.pure (ik w.left _ _ h1) rfl ?_; conv => whnf) | (refine ae.mk ⟨_, _, ik w.left _ _ h1, .inl rfl, ?_⟩; conv => whnf) | (refine aa.pure (ik w.right _ _ h2) rfl ?_; conv => whnf) | (refine ae.mk ⟨_, _, ik w.right _ _ h2, .inl rfl, ?_⟩; conv => whnf) | (exact rr) | (refine And.intro rfl ?_; conv => whnf) | (refine AB.mk (fun h => ?_) (fun h => ?_) <;> (conv => whnf)))
  all_goals
    refine aT ?_
    simp_all
theorem pB (w : DWorld) (h6 : w.up.length = 6) (h1 : w.ann.todo.length ≤ 9223372036854775806 ∧ w.ann.gots.length ≤ 9223372036854775806) (h2 : w.bob.todo.length ≤ 9223372036854775806 ∧ w.bob.gots.length ≤ 9223372036854775806) : ak av 170 [.agg w.ds] (rB (gY w 4 && gY w 5 && cE w.ann && w.ann.id == 4 && cE w.bob && w.bob.id == 5)) := by
  refine ac ah Tryz.func170 rfl Tryz.call170 Tryz.ntmps170 (congrArg Array.toList Tryz.results170) fun S => ?_; conv => whnf
  repeat' (first | (refine aw0 ?_) | ((first | refine aw1 ?_ | refine aw2 ?_ | refine aw3 ?_ | refine aw4 ?_ | refine aw5 ?_ | refine aw6 ?_ | refine aw7 ?_ | refine aw8 ?_); conv => whnf) | ((first | refine bT ?_ | refine bF ?_); conv => whnf) | (refine AIx.at 0 _ rfl (cW h6 (by decide)) ?_; conv => whnf) | (refine AIx.at 1 _ rfl (cW h6 (by decide)) ?_; conv => whnf) | (refine AIx.at 2 _ rfl (cW h6 (by decide)) ?_; conv => whnf) | (refine AIx.at 3 _ rfl (cW h6 (by decide)) ?_; conv => whnf) | (refine AIx.at 4 _ rfl (cW h6 (by decide)) ?_; conv => whnf) | (refine AIx.at 5 _ rfl (cW h6 (by decide)) ?_; conv => whnf) | (refine aa.pure (iY w.ann h1.1 h1.2) rfl ?_; conv => whnf) | (refine ae.mk ⟨_, _, iY w.ann h1.1 h1.2, .inl rfl, ?_⟩; conv => whnf) | (refine aa.pure (iY w.bob h2.1 h2.2) rfl ?_; conv => whnf) | (refine ae.mk ⟨_, _, iY w.bob h2.1 h2.2, .inl rfl, ?_⟩; conv => whnf) | (exact rr) | (refine And.intro rfl ?_; conv => whnf) | (refine AB.mk (fun h => ?_) (fun h => ?_) <;> (conv => whnf)))
  all_goals
    refine aT ?_
    simp_all
theorem HE {w : DWorld} (h : (((w.up.map eB).length : Int) != 6) = true) : ¬ w.up.length = 6 := by
  simp at h; omega
theorem HN {w : DWorld} (h : (((w.clocks.map eI).length : Int) != 6) = true) : ¬ w.clocks.length = 6 := by
  simp at h; omega
theorem Ki {w : DWorld} (h : (((w.clocks.map eI).length : Int) != 6) = false) : w.clocks.length = 6 := by
  simp at h; omega
theorem Gu (w : World) (xs : Array Value) (i : Nat) (v : Value) (h : xs[i]? = some v) : (part 118 xs i).run Tryz.prog w = .ok v w := by
  simp [part, Tryz.isAgg118, Tryz.sizeOf118, h]
theorem AOp.idxFn {S : bt} {st : ASt} {o : Oper} {x i : Operand} {K : ASt → Prop} {ds : List AD} {n : Nat} {v : Value} (ho : o.op = .index 253 x i) (hx : aEv st x fun y => y = .agg (ds.map .d)) (hi : aEv st i fun y => y = vI .i64 (n : Int)) (hd : ds.all AD.isPv = true) (hn : n < 4) (hv : (ds.map sW)[n]? = some v) (h1 : v.oneCell' = true) (hk : co st o.dst (.one (.d (.pv v))) K) : AOp av S o st K := by
  refine .reads fun Z ρ a w hs => ?_
  obtain ⟨u, hu, rfl⟩ := aR hs hx
  obtain ⟨z, hz, rfl⟩ := aR hs hi
  have e1 := q5 hd hu
  have e2 := bu hz
  have hp := Gu w (ds.map sW).toArray n v (by simpa using hv)
  refine ⟨.one (.d (.pv v)), v, bG h1, ?_, hk⟩
  have hlt : (0 : Int) ≤ (n : Int) ∧ (n : Int) < 4 := ⟨by omega, by omega⟩
  simp [execOp, ho, e1, e2, Instr.index, asIntOf, av, run_underlying Tryz.underlying253, Tryz.sizeOf118, hn, hp]
theorem fp (w : DWorld) : fg w = (cg w.clocks && decide (w.up.length = 6) && j4 w.net && (gY w 4 && gY w 5 && cE w.ann && w.ann.id == 4 && cE w.bob && w.bob.id == 5) && (cJ w.left 2 (gY w 2) && cJ w.right 3 (gY w 3)) && (if gY w 0 then jZ w.log else ld w.log) && (if gY w 1 then jk w.store else fE w.store)) := by
  simp only [fg, Bool.and_assoc]
theorem Ax {b : Bool} (h : (!b) = true) : b = false := by rwa [Bool.not_eq_true'] at h
theorem sy {b : Bool} (h : (!b) = false) : b = true := by rwa [Bool.not_eq_false'] at h
def CZ : List AD := [.pv (.func (.func 170) #[] #[]), .pv (.func (.func 171) #[] #[]), .pv (.func (.func 172) #[] #[]), .pv (.func (.func 173) #[] #[])]
theorem eA (w : DWorld) (hs : DWorld.small 1048576 w) : ak av 93 [.agg w.ds] (rB (fg w)) := by
  obtain ⟨s1, ⟨_, s2⟩, s3, s4, s5, s6, s7, s8⟩ := hs
  simp only [DState.small, DSched.small, DView.small, DJobs.small, DClient.small] at s2 s3 s4 s5 s6
  refine ac ah Tryz.func93 rfl Tryz.call93 Tryz.ntmps93 (congrArg Array.toList Tryz.results93) fun S => ?_; conv => whnf
  repeat' (first | (refine aw0 ?_) | ((first | refine aw1 ?_ | refine aw2 ?_ | refine aw3 ?_ | refine aw4 ?_ | refine aw5 ?_ | refine aw6 ?_ | refine aw7 ?_ | refine aw8 ?_); conv => whnf) | ((first | refine bT ?_ | refine bF ?_); conv => whnf) | (refine aa.pure (iZ w.clocks) rfl ?_; conv => whnf) | (refine ae.mk ⟨_, _, iZ w.clocks, .inl rfl, ?_⟩; conv => whnf) | (refine aa.pure (zS w.net) rfl ?_; conv => whnf) | (refine ae.mk ⟨_, _, zS w.net, .inl rfl, ?_⟩; conv => whnf) | (exact rr) | (refine And.intro rfl ?_; conv => whnf) | (refine AB.mk (fun h => ?_) (fun h => ?_) <;> (conv => whnf)))
  all_goals first
    | (have hno := HE h
       refine aT ?_
       simp_all [fg]; done)
    | (refine aT ?_
       simp_all [fg]; done)
    | skip
  have h6 : w.up.length = 6 := Gj (by assumption)
  have hc : cg w.clocks = true := by
    have : (!cg w.clocks) = false := by assumption
    rwa [Bool.not_eq_false'] at this
  have hn : j4 w.net = true := by rwa [Bool.not_eq_false'] at h
  refine AWP.unroll 5 ?_
  conv => whnf
  repeat' (first | (refine aw0 ?_) | ((first | refine aw1 ?_ | refine aw2 ?_ | refine aw3 ?_ | refine aw4 ?_ | refine aw5 ?_ | refine aw6 ?_ | refine aw7 ?_ | refine aw8 ?_); conv => whnf) | ((first | refine bT ?_ | refine bF ?_); conv => whnf) | (refine AOp.idxFn (ds := CZ) (n := 0) rfl rfl rfl rfl (by decide) rfl rfl ?_; conv => whnf) | (refine AOp.idxFn (ds := CZ) (n := 1) rfl rfl rfl rfl (by decide) rfl rfl ?_; conv => whnf) | (refine AOp.idxFn (ds := CZ) (n := 2) rfl rfl rfl rfl (by decide) rfl rfl ?_; conv => whnf) | (refine AOp.idxFn (ds := CZ) (n := 3) rfl rfl rfl rfl (by decide) rfl rfl ?_; conv => whnf) | (refine aa.pure (pB w h6 ⟨by omega, by omega⟩ ⟨by omega, by omega⟩) rfl ?_; conv => whnf) | (refine ae.mk ⟨_, _, pB w h6 ⟨by omega, by omega⟩ ⟨by omega, by omega⟩, .inl rfl, ?_⟩; conv => whnf) | (refine aa.pure (qR w h6 (by omega) (by omega)) rfl ?_; conv => whnf) | (refine ae.mk ⟨_, _, qR w h6 (by omega) (by omega), .inl rfl, ?_⟩; conv => whnf) | (refine aa.pure (uA Fd w h6 (o9 s1)) rfl ?_; conv => whnf) | (refine ae.mk ⟨_, _, uA Fd w h6 (o9 s1), .inl rfl, ?_⟩; conv => whnf) | (refine aa.pure (qT w h6 (by omega) (by omega)) rfl ?_; conv => whnf) | (refine ae.mk ⟨_, _, qT w h6 (by omega) (by omega), .inl rfl, ?_⟩; conv => whnf) | (refine AW.i64 (by decide) (by decide) ?_; conv => whnf) | (exact rr) | (refine And.intro rfl ?_; conv => whnf) | (refine AB.mk (fun h => ?_) (fun h => ?_) <;> (conv => whnf)))
  all_goals
    refine aT ?_
    rw [fp]
    simp only [hc, hn, h6, decide_true, Bool.true_and]
    first
      | (simp only [Ax h, Bool.false_and, Bool.and_false]; done)
      | (have e := Ax h
         rw [e]
         simp only [Bool.and_false]; done)
      | (have e1 := sy h
         simp_all; done)
      | skip
theorem eE (w : DWorld) (hs : DWorld.small 1048576 w) : ak av 21 [.agg w.ds] (rB (fg w)) := by
  obtain ⟨s1, ⟨_, s2⟩, s3, s4, s5, s6, s7, s8⟩ := hs
  simp only [DState.small, DSched.small, DView.small, DJobs.small, DClient.small] at s2 s3 s4 s5 s6
  refine ac ah Tryz.func21 rfl Tryz.call21 Tryz.ntmps21 (congrArg Array.toList Tryz.results21) fun S => ?_; conv => whnf
  repeat' (first | (refine aw0 ?_) | ((first | refine aw1 ?_ | refine aw2 ?_ | refine aw3 ?_ | refine aw4 ?_ | refine aw5 ?_ | refine aw6 ?_ | refine aw7 ?_ | refine aw8 ?_); conv => whnf) | ((first | refine bT ?_ | refine bF ?_); conv => whnf) | (refine AIx.at 4 _ rfl (cW (Gj (by assumption)) (by decide)) ?_; conv => whnf) | (refine AIx.at 5 _ rfl (cW (Gj (by assumption)) (by decide)) ?_; conv => whnf) | (exact rr) | (refine And.intro rfl ?_; conv => whnf) | (refine AB.mk (fun h => ?_) (fun h => ?_) <;> (conv => whnf)))
  all_goals first
    | (have hno := HE h
       refine aT ?_
       rw [fp]
       simp only [hno, decide_false, Bool.and_false, Bool.false_and]; done)
    | (have hno := HN h
       refine aT ?_
       rw [fp]
       simp only [cg, hno, decide_false, Bool.and_false, Bool.false_and]; done)
    | (refine aT ?_
       rw [fp]
       simp only [Ax h, Bool.and_false, Bool.false_and]; done)
    | skip
  have h6 : w.up.length = 6 := Gj (by assumption)
  have hc6 : w.clocks.length = 6 := Ki (by assumption)
  have u4 : gY w 4 = true := by
    have : (!gY w 4) = false := by assumption
    exact sy this
  have u5 : gY w 5 = true := sy h
  repeat' (first | (refine aw0 ?_) | ((first | refine aw1 ?_ | refine aw2 ?_ | refine aw3 ?_ | refine aw4 ?_ | refine aw5 ?_ | refine aw6 ?_ | refine aw7 ?_ | refine aw8 ?_); conv => whnf) | ((first | refine bT ?_ | refine bF ?_); conv => whnf) | (refine AWP.drawK ah 3 21 mi mG (by kernel_rfl) (by kernel_rfl) (by kernel_rfl) rfl ?_; conv => whnf) | (refine AWP.drawK ah 5 15 mj mH (by kernel_rfl) (by kernel_rfl) (by kernel_rfl) rfl ?_; conv => whnf) | (refine AIx.at 0 _ rfl (cW h6 (by decide)) ?_; conv => whnf) | (refine AIx.at 1 _ rfl (cW h6 (by decide)) ?_; conv => whnf) | (refine AIx.at 2 _ rfl (cW h6 (by decide)) ?_; conv => whnf) | (refine AIx.at 3 _ rfl (cW h6 (by decide)) ?_; conv => whnf) | (refine AIx.at 4 _ rfl (cW h6 (by decide)) ?_; conv => whnf) | (refine AIx.at 5 _ rfl (cW h6 (by decide)) ?_; conv => whnf) | (refine aa.pure (re w.clocks hc6) rfl ?_; conv => whnf) | (refine ae.mk ⟨_, _, re w.clocks hc6, .inl rfl, ?_⟩; conv => whnf) | (refine aa.pure (xn w.log _ (o9 s1)) rfl ?_; conv => whnf) | (refine ae.mk ⟨_, _, xn w.log _ (o9 s1), .inl rfl, ?_⟩; conv => whnf) | (refine aa.pure (sM w.store _ (by omega) (by omega)) rfl ?_; conv => whnf) | (refine ae.mk ⟨_, _, sM w.store _ (by omega) (by omega), .inl rfl, ?_⟩; conv => whnf) | (refine aa.pure (ji w.left _ _) rfl ?_; conv => whnf) | (refine ae.mk ⟨_, _, ji w.left _ _, .inl rfl, ?_⟩; conv => whnf) | (refine aa.pure (ji w.right _ _) rfl ?_; conv => whnf) | (refine ae.mk ⟨_, _, ji w.right _ _, .inl rfl, ?_⟩; conv => whnf) | (refine aa.pure (jd w.ann (by omega) (by omega)) rfl ?_; conv => whnf) | (refine ae.mk ⟨_, _, jd w.ann (by omega) (by omega), .inl rfl, ?_⟩; conv => whnf) | (refine aa.pure (jd w.bob (by omega) (by omega)) rfl ?_; conv => whnf) | (refine ae.mk ⟨_, _, jd w.bob (by omega) (by omega), .inl rfl, ?_⟩; conv => whnf) | (refine aa.pure (AS w.net) rfl ?_; conv => whnf) | (refine ae.mk ⟨_, _, AS w.net, .inl rfl, ?_⟩; conv => whnf) | (exact rr) | (refine And.intro rfl ?_; conv => whnf) | (refine AB.mk (fun h => ?_) (fun h => ?_) <;> (conv => whnf)))
  all_goals
    refine aT ?_
    rw [fp]
    simp only [h6, u4, u5, decide_true, Bool.true_and, Bool.and_true]
    first
      | (simp only [Ax h, Bool.false_and, Bool.and_false]; done)
      | (have e := Ax h
         rw [e]
         simp only [Bool.and_false, Bool.false_and]; done)
      | (simp_all; done)
      | (have b1 : cg w.clocks = true := sy (by assumption)
         have b2 : (if gY w 0 = true then jZ w.log else ld w.log) = true := sy (by assumption)
         have b3 : (if gY w 1 = true then jk w.store else fE w.store) = true := sy (by assumption)
         have b4 : cJ w.left 2 (gY w 2) = true := sy (by assumption)
         have b5 : cJ w.right 3 (gY w 3) = true := sy (by assumption)
         have b6 : cE w.ann = true := by assumption
         have b7 : (w.ann.id == 4) = true := by assumption
         have b8 : cE w.bob = true := by assumption
         have b9 : (w.bob.id == 5) = true := by assumption
         simp only [b1, b2, b3, b4, b5, b6, b7, b8, b9, Bool.and_true, Bool.true_and])
end Go.Proofs.YtcmknngafflcnaaGreat
namespace Go.Proofs.YtcmknngafflcnaaGreat
open Go.ChangeShapes Go.WideShapes Go.RowKit
end Go.Proofs.YtcmknngafflcnaaGreat
namespace Go.Proofs.YtcmknngafflcnaaGreat
open Go.ChangeShapes Go.WideShapes Go.RowKit
structure SmR {α : Type} (R : Rep α) (p : α → Prop) : Prop where
  h : ∀ {w cs a F}, R.rd w cs a F → p a
theorem SmR.any {α : Type} {R : Rep α} : SmR R fun _ => True := ⟨fun _ => trivial⟩
theorem SmR.pair {α β : Type} {R : Rep α} {S : Rep β} {p : α → Prop} {q : β → Prop} (h1 : SmR R p) (h2 : SmR S q) : SmR (Rep.pair R S) fun x => p x.1 ∧ q x.2 := by
  refine ⟨?_⟩
  rintro w cs a F ⟨c1, c2, F1, F2, _, _, g1, g2⟩
  exact ⟨h1.h g1, h2.h g2⟩
theorem SmR.via {α β : Type} {R : Rep α} {f : β → α} {p : α → Prop} (h : SmR R p) : SmR (Rep.via f R) fun x => p (f x) := ⟨fun hr => h.h hr⟩
theorem SmR.all {α : Type} {R : Rep α} {p : α → Prop} (h : SmR R p) {w : World} : ∀ {l : List α} {xs : List Value} {F : List Nat}, R.all w xs l F → ∀ y ∈ l, p y
  | [], _, _, _, y, hy => by cases hy
  | a :: l, _, _, ⟨c1, c2, F1, F2, _, _, h1, h2⟩, y, hy => by
    rcases List.mem_cons.1 hy with rfl | hy
    · exact h.h h1
    · exact SmR.all h h2 y hy
theorem SmR.sl {α : Type} {R : Rep α} {p : α → Prop} (h : SmR R p) : SmR (Rep.sl R) fun l => l.length ≤ 9223372036854775807 ∧ ∀ y ∈ l, p y := by
  refine ⟨?_⟩
  rintro w cs l F ⟨A, cap, xs, F1, _, hc, hm, _, hall, _⟩
  have : maxLen ≤ 9223372036854775807 := by decide
  exact ⟨by omega, SmR.all h hall⟩
theorem SmR.mono {α : Type} {R : Rep α} {p q : α → Prop} (h : SmR R p) (hq : ∀ a, p a → q a) : SmR R q := ⟨fun hr => hq _ (h.h hr)⟩
theorem SmR.to {α β : Type} {R : Rep β} {S : Rep α} {f : β → α} {p : α → Prop} {q : β → Prop} (h : SmR S p) (e : R = Rep.via f S) (hq : ∀ a, p (f a) → q a) : SmR R q := by subst e; exact (SmR.via h).mono hq
theorem D2 : SmR Rep.DWrite (DWrite.small 9223372036854775807) := SmR.to (SmR.pair SmR.any (SmR.sl SmR.any)) rfl fun x h => h.2.1
theorem vH : SmR Rep.DDisk (DDisk.small 9223372036854775807) := SmR.to (SmR.pair (SmR.sl (SmR.sl SmR.any)) (SmR.sl D2)) rfl fun x h => ⟨h.1.1, fun y hy => (h.1.2 y hy).1, h.2.1, h.2.2⟩
theorem GB : SmR Rep.DTwo (DTwo.small 9223372036854775807) := SmR.to (SmR.pair vH vH) rfl fun x h => h
theorem A5 : SmR Rep.DHead (DHead.small 9223372036854775807) := SmR.to (SmR.pair SmR.any (SmR.pair SmR.any (SmR.pair SmR.any (SmR.sl SmR.any)))) rfl fun x h => h.2.2.2.1
theorem Fm : SmR Rep.DBook (DBook.small 9223372036854775807) := SmR.to (SmR.pair SmR.any (SmR.pair SmR.any (SmR.sl SmR.any))) rfl fun x h => h.2.2.1
theorem A6 : SmR Rep.DLogNode (DLogNode.small 9223372036854775807) := SmR.to (SmR.pair GB (SmR.pair A5 (SmR.pair A5 (SmR.pair SmR.any (SmR.pair Fm (SmR.pair (SmR.sl SmR.any) (SmR.pair SmR.any (SmR.sl SmR.any)))))))) rfl fun x h => ⟨h.1, h.2.1, h.2.2.1, h.2.2.2.2.1, h.2.2.2.2.2.1.1, h.2.2.2.2.2.2.2.1⟩
theorem D0 : SmR Rep.DState (DState.small 9223372036854775807) := SmR.to (SmR.pair SmR.any (SmR.pair SmR.any (SmR.pair (SmR.sl SmR.any) (SmR.pair (SmR.sl SmR.any) SmR.any)))) rfl fun x h => ⟨h.2.2.1.1, h.2.2.2.1.1⟩
theorem D1 : SmR Rep.DStore (DStore.small 9223372036854775807) := SmR.to (SmR.pair vH (SmR.pair D0 SmR.any)) rfl fun x h => ⟨h.1, h.2.1⟩
theorem Fn : SmR Rep.DJobs (DJobs.small 9223372036854775807) := SmR.to (SmR.pair SmR.any (SmR.pair SmR.any (SmR.pair SmR.any (SmR.pair SmR.any (SmR.pair SmR.any (SmR.sl SmR.any)))))) rfl fun x h => h.2.2.2.2.2.1
theorem Fo : SmR Rep.DView (DView.small 9223372036854775807) := SmR.to Fn rfl fun x h => h
theorem xt : SmR Rep.DSched (DSched.small 9223372036854775807) := SmR.to (SmR.pair SmR.any (SmR.pair SmR.any (SmR.pair Fo SmR.any))) rfl fun x h => h.2.2.1
theorem vG : SmR Rep.DClient (DClient.small 9223372036854775807) := SmR.to (SmR.pair SmR.any (SmR.pair (SmR.sl SmR.any) (SmR.pair (SmR.sl SmR.any) SmR.any))) rfl fun x h => ⟨h.2.1.1, h.2.2.1.1⟩
theorem Gz : SmR Rep.DMsg (DMsg.small 9223372036854775807) := SmR.to (SmR.pair SmR.any (SmR.pair SmR.any (SmR.sl SmR.any))) rfl fun x h => h.2.2.1
theorem GA : SmR Rep.DNet (DNet.small 9223372036854775807) := SmR.to (SmR.pair (SmR.sl Gz) (SmR.sl SmR.any)) rfl fun x h => ⟨h.1.1, h.1.2, h.2.1⟩
theorem xu : SmR Rep.DWorld (DWorld.small 9223372036854775807) := SmR.to (SmR.pair A6 (SmR.pair D1 (SmR.pair xt (SmR.pair xt (SmR.pair vG (SmR.pair vG (SmR.pair GA (SmR.pair (SmR.sl SmR.any) (SmR.sl SmR.any))))))))) rfl fun x h => ⟨h.1, h.2.1, h.2.2.1, h.2.2.2.1, h.2.2.2.2.1, h.2.2.2.2.2.1, h.2.2.2.2.2.2.1, h.2.2.2.2.2.2.2.1.1, h.2.2.2.2.2.2.2.2.1⟩
end Go.Proofs.YtcmknngafflcnaaGreat
