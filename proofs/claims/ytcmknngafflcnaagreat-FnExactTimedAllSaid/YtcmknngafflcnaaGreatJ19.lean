/- J19 -/
import Derived.Test.YtcmknngafflcnaaGreatJ14
import Derived.Test.YtcmknngafflcnaaGreatJ05
set_option linter.unusedVariables false
set_option linter.unusedSimpArgs false
set_option maxRecDepth 100000
namespace Go.Proofs.YtcmknngafflcnaaGreat
open Go.ChangeShapes Go.WideShapes Go.RowKit
def li (k : Int) (x : DDisk) : DDisk := ⟨mkL dm aE (k) x.kept, mkL dF aI (k + ao aE x.kept) x.wait⟩
def aS (x : DDisk) : Int := ao aE x.kept + ao aI x.wait
theorem di (x : DDisk) : 0 ≤ aS x := by
 unfold aS
 have := am (cnt := aE) cS x.kept
 have := am (cnt := aI) cR x.wait
 omega
set_option maxHeartbeats 2000000 in
theorem nT (x : DDisk) (k : Int) (h0 : 0 ≤ k) (hk : k + aS x ≤ 1000000000000) : bR av 113 (.agg x.ds) k (.agg (li k x).ds) (k + aS x) := by
 have n0 := am (cnt := aE) cS x.kept
 have n1 := am (cnt := aI) cR x.wait
 have hkk := hk
 unfold aS at hkk
 refine dH ah Tryz.func113 rfl Tryz.call113 Tryz.ntmps113 (congrArg Array.toList Tryz.results113) fun S P u => ?_; conv => whnf
 repeat' (first | (refine aw0 ?_) | ((first | refine aw1 ?_ | refine aw2 ?_ | refine aw3 ?_ | refine aw4 ?_ | refine aw5 ?_ | refine aw6 ?_ | refine aw7 ?_ | refine aw8 ?_); conv => whnf) | (refine aa.turn 9001 0 ([]) ([.sl (x.wait.map DWrite.ds)]) [] [u 1] (uH x.kept (k) (by omega) (by omega)) rfl rfl rfl rfl rfl ?_; conv => whnf) | (refine aa.turn 9001 1 ([.sl ((mkL dm aE (k) x.kept).map cG)]) ([]) [u 0] [] (v4 x.wait (k + ao aE x.kept) (by omega) (by omega)) rfl rfl rfl rfl rfl ?_; conv => whnf))
 refine And.intro ?_ rfl
 have e : k + ao aE x.kept + ao aI x.wait = k + aS x := by unfold aS; omega
 show AP.val (pI (k + ao aE x.kept + ao aI x.wait)) = AP.val (pI (k + aS x))
 rw [e]
def nW (k : Int) (x : DTwo) : DTwo := ⟨li (k) x.a, li (k + aS x.a) x.b⟩
def aP (x : DTwo) : Int := aS x.a + aS x.b
theorem pX (x : DTwo) : 0 ≤ aP x := by
 unfold aP
 have := di x.a
 have := di x.b
 omega
set_option maxHeartbeats 2000000 in
theorem Cl (x : DTwo) (k : Int) (h0 : 0 ≤ k) (hk : k + aP x ≤ 1000000000000) : bR av 108 (.agg x.ds) k (.agg (nW k x).ds) (k + aP x) := by
 have n0 := di x.a
 have n1 := di x.b
 have hkk := hk
 unfold aP at hkk
 refine dH ah Tryz.func108 rfl Tryz.call108 Tryz.ntmps108 (congrArg Array.toList Tryz.results108) fun S P u => ?_; conv => whnf
 repeat' (first | (refine aw0 ?_) | ((first | refine aw1 ?_ | refine aw2 ?_ | refine aw3 ?_ | refine aw4 ?_ | refine aw5 ?_ | refine aw6 ?_ | refine aw7 ?_ | refine aw8 ?_); conv => whnf) | (refine aa.turn 9001 0 ([]) (DDisk.ds x.b) [] [u 2, u 3] (nT x.a (k) (by omega) (by omega)) rfl rfl rfl rfl rfl ?_; conv => whnf) | (refine aa.turn 9001 2 (DDisk.ds (li (k) x.a)) ([]) [u 0, u 1] [] (nT x.b (k + aS x.a) (by omega) (by omega)) rfl rfl rfl rfl rfl ?_; conv => whnf))
 refine And.intro ?_ rfl
 have e : k + aS x.a + aS x.b = k + aP x := by unfold aP; omega
 show AP.val (pI (k + aS x.a + aS x.b)) = AP.val (pI (k + aP x))
 rw [e]
def fT (k : Int) (x : DHead) : DHead := ⟨x.num, x.base, x.time, mkL dW aD (k) x.seen⟩
def aA (x : DHead) : Int := ao aD x.seen
theorem fw (x : DHead) : 0 ≤ aA x := by
 unfold aA
 have := am (cnt := aD) ck x.seen
 omega
set_option maxHeartbeats 2000000 in
theorem sr (x : DHead) (k : Int) (h0 : 0 ≤ k) (hk : k + aA x ≤ 1000000000000) : bR av 109 (.agg x.ds) k (.agg (fT k x).ds) (k + aA x) := by
 have n0 := am (cnt := aD) ck x.seen
 have hkk := hk
 unfold aA at hkk
 refine dH ah Tryz.func109 rfl Tryz.call109 Tryz.ntmps109 (congrArg Array.toList Tryz.results109) fun S P u => ?_; conv => whnf
 repeat' (first | (refine aw0 ?_) | ((first | refine aw1 ?_ | refine aw2 ?_ | refine aw3 ?_ | refine aw4 ?_ | refine aw5 ?_ | refine aw6 ?_ | refine aw7 ?_ | refine aw8 ?_); conv => whnf) | (refine aa.turn 9001 3 ([dI x.num] ++ [dI x.base] ++ [dI x.time]) ([]) [.int .i64 x.num, .int .i64 x.base, .int .i64 x.time] [] (qX x.seen (k) (by omega) (by omega)) rfl rfl rfl rfl rfl ?_; conv => whnf))
 refine And.intro ?_ rfl
 have e : k + ao aD x.seen = k + aA x := by unfold aA; omega
 show AP.val (pI (k + ao aD x.seen)) = AP.val (pI (k + aA x))
 rw [e]
def qZ (k : Int) (x : DBook) : DBook := ⟨x.base, x.time, mkL dE aK (k) x.entries⟩
def bn (x : DBook) : Int := ao aK x.entries
theorem m9 (x : DBook) : 0 ≤ bn x := by
 unfold bn
 have := am (cnt := aK) cQ x.entries
 omega
set_option maxHeartbeats 2000000 in
theorem z9 (x : DBook) (k : Int) (h0 : 0 ≤ k) (hk : k + bn x ≤ 1000000000000) : bR av 110 (.agg x.ds) k (.agg (qZ k x).ds) (k + bn x) := by
 have n0 := am (cnt := aK) cQ x.entries
 have hkk := hk
 unfold bn at hkk
 refine dH ah Tryz.func110 rfl Tryz.call110 Tryz.ntmps110 (congrArg Array.toList Tryz.results110) fun S P u => ?_; conv => whnf
 repeat' (first | (refine aw0 ?_) | ((first | refine aw1 ?_ | refine aw2 ?_ | refine aw3 ?_ | refine aw4 ?_ | refine aw5 ?_ | refine aw6 ?_ | refine aw7 ?_ | refine aw8 ?_); conv => whnf) | (refine aa.turn 9001 2 ([dI x.base] ++ [dI x.time]) ([]) [.int .i64 x.base, .int .i64 x.time] [] (vX x.entries (k) (by omega) (by omega)) rfl rfl rfl rfl rfl ?_; conv => whnf))
 refine And.intro ?_ rfl
 have e : k + ao aK x.entries = k + bn x := by unfold bn; omega
 show AP.val (pI (k + ao aK x.entries)) = AP.val (pI (k + bn x))
 rw [e]
def cZ (k : Int) (x : DLogNode) : DLogNode := ⟨nW (k) x.two, fT (k + aP x.two) x.head, fT (k + aP x.two + aA x.head) x.nxt, x.more, qZ (k + aP x.two + aA x.head + aA x.nxt) x.book, mkL dW aD (k + aP x.two + aA x.head + aA x.nxt + bn x.book) x.seen, x.durable, mkL gx bc (k + aP x.two + aA x.head + aA x.nxt + bn x.book + ao aD x.seen) x.owe⟩
def al (x : DLogNode) : Int := aP x.two + aA x.head + aA x.nxt + bn x.book + ao aD x.seen + ao bc x.owe
theorem iD (x : DLogNode) : 0 ≤ al x := by
 unfold al
 have := pX x.two
 have := fw x.head
 have := fw x.nxt
 have := m9 x.book
 have := am (cnt := aD) ck x.seen
 have := am (cnt := bc) dQ x.owe
 omega
set_option maxHeartbeats 2000000 in
theorem uI (x : DLogNode) (k : Int) (h0 : 0 ≤ k) (hk : k + al x ≤ 1000000000000) : bR av 39 (.agg x.ds) k (.agg (cZ k x).ds) (k + al x) := by
 have n0 := pX x.two
 have n1 := fw x.head
 have n2 := fw x.nxt
 have n3 := m9 x.book
 have n4 := am (cnt := aD) ck x.seen
 have n5 := am (cnt := bc) dQ x.owe
 have hkk := hk
 unfold al at hkk
 refine dH ah Tryz.func39 rfl Tryz.call39 Tryz.ntmps39 (congrArg Array.toList Tryz.results39) fun S P u => ?_; conv => whnf
 repeat' (first | (refine aw0 ?_) | ((first | refine aw1 ?_ | refine aw2 ?_ | refine aw3 ?_ | refine aw4 ?_ | refine aw5 ?_ | refine aw6 ?_ | refine aw7 ?_ | refine aw8 ?_); conv => whnf) | (refine aa.turn 9001 0 ([]) (DHead.ds x.head ++ DHead.ds x.nxt ++ [dB x.more] ++ DBook.ds x.book ++ [.sl (x.seen.map DMark.ds)] ++ [dI x.durable] ++ [.sl (x.owe.map DAck.ds)]) [] [.int .i64 x.head.num, .int .i64 x.head.base, .int .i64 x.head.time, u 7, .int .i64 x.nxt.num, .int .i64 x.nxt.base, .int .i64 x.nxt.time, u 11, .bool x.more, .int .i64 x.book.base, .int .i64 x.book.time, u 15, u 16, .int .i64 x.durable, u 18] (Cl x.two (k) (by omega) (by omega)) rfl rfl rfl rfl rfl ?_; conv => whnf) | (refine aa.turn 9001 4 (DTwo.ds (nW (k) x.two)) (DHead.ds x.nxt ++ [dB x.more] ++ DBook.ds x.book ++ [.sl (x.seen.map DMark.ds)] ++ [dI x.durable] ++ [.sl (x.owe.map DAck.ds)]) [u 0, u 1, u 2, u 3] [.int .i64 x.nxt.num, .int .i64 x.nxt.base, .int .i64 x.nxt.time, u 11, .bool x.more, .int .i64 x.book.base, .int .i64 x.book.time, u 15, u 16, .int .i64 x.durable, u 18] (sr x.head (k + aP x.two) (by omega) (by omega)) rfl rfl rfl rfl rfl ?_; conv => whnf) | (refine aa.turn 9001 8 (DTwo.ds (nW (k) x.two) ++ DHead.ds (fT (k + aP x.two) x.head)) ([dB x.more] ++ DBook.ds x.book ++ [.sl (x.seen.map DMark.ds)] ++ [dI x.durable] ++ [.sl (x.owe.map DAck.ds)]) [u 0, u 1, u 2, u 3, .int .i64 x.head.num, .int .i64 x.head.base, .int .i64 x.head.time, u 7] [.bool x.more, .int .i64 x.book.base, .int .i64 x.book.time, u 15, u 16, .int .i64 x.durable, u 18] (sr x.nxt (k + aP x.two + aA x.head) (by omega) (by omega)) rfl rfl rfl rfl rfl ?_; conv => whnf) | (refine aa.turn 9001 13 (DTwo.ds (nW (k) x.two) ++ DHead.ds (fT (k + aP x.two) x.head) ++ DHead.ds (fT (k + aP x.two + aA x.head) x.nxt) ++ [dB x.more]) ([.sl (x.seen.map DMark.ds)] ++ [dI x.durable] ++ [.sl (x.owe.map DAck.ds)]) [u 0, u 1, u 2, u 3, .int .i64 x.head.num, .int .i64 x.head.base, .int .i64 x.head.time, u 7, .int .i64 x.nxt.num, .int .i64 x.nxt.base, .int .i64 x.nxt.time, u 11, .bool x.more] [u 16, .int .i64 x.durable, u 18] (z9 x.book (k + aP x.two + aA x.head + aA x.nxt) (by omega) (by omega)) rfl rfl rfl rfl rfl ?_; conv => whnf) | (refine aa.turn 9001 16 (DTwo.ds (nW (k) x.two) ++ DHead.ds (fT (k + aP x.two) x.head) ++ DHead.ds (fT (k + aP x.two + aA x.head) x.nxt) ++ [dB x.more] ++ DBook.ds (qZ (k + aP x.two + aA x.head + aA x.nxt) x.book)) ([dI x.durable] ++ [.sl (x.owe.map DAck.ds)]) [u 0, u 1, u 2, u 3, .int .i64 x.head.num, .int .i64 x.head.base, .int .i64 x.head.time, u 7, .int .i64 x.nxt.num, .int .i64 x.nxt.base, .int .i64 x.nxt.time, u 11, .bool x.more, .int .i64 x.book.base, .int .i64 x.book.time, u 15] [.int .i64 x.durable, u 18] (qX x.seen (k + aP x.two + aA x.head + aA x.nxt + bn x.book) (by omega) (by omega)) rfl rfl rfl rfl rfl ?_; conv => whnf) | (refine aa.turn 9001 18 (DTwo.ds (nW (k) x.two) ++ DHead.ds (fT (k + aP x.two) x.head) ++ DHead.ds (fT (k + aP x.two + aA x.head) x.nxt) ++ [dB x.more] ++ DBook.ds (qZ (k + aP x.two + aA x.head + aA x.nxt) x.book) ++ [.sl ((mkL dW aD (k + aP x.two + aA x.head + aA x.nxt + bn x.book) x.seen).map DMark.ds)] ++ [dI x.durable]) ([]) [u 0, u 1, u 2, u 3, .int .i64 x.head.num, .int .i64 x.head.base, .int .i64 x.head.time, u 7, .int .i64 x.nxt.num, .int .i64 x.nxt.base, .int .i64 x.nxt.time, u 11, .bool x.more, .int .i64 x.book.base, .int .i64 x.book.time, u 15, u 16, .int .i64 x.durable] [] (z8 x.owe (k + aP x.two + aA x.head + aA x.nxt + bn x.book + ao aD x.seen) (by omega) (by omega)) rfl rfl rfl rfl rfl ?_; conv => whnf))
 refine And.intro ?_ rfl
 have e : k + aP x.two + aA x.head + aA x.nxt + bn x.book + ao aD x.seen + ao bc x.owe = k + al x := by unfold al; omega
 show AP.val (pI (k + aP x.two + aA x.head + aA x.nxt + bn x.book + ao aD x.seen + ao bc x.owe)) = AP.val (pI (k + al x))
 rw [e]
def uQ (k : Int) (x : DState) : DState := ⟨x.index, x.time, mkL eq aM (k) x.pairs, mkL gA bf (k + ao aM x.pairs) x.jobs, x.lease⟩
def bJ (x : DState) : Int := ao aM x.pairs + ao bf x.jobs
theorem ky (x : DState) : 0 ≤ bJ x := by
 unfold bJ
 have := am (cnt := aM) dg x.pairs
 have := am (cnt := bf) dT x.jobs
 omega
set_option maxHeartbeats 2000000 in
theorem yA (x : DState) (k : Int) (h0 : 0 ≤ k) (hk : k + bJ x ≤ 1000000000000) : bR av 114 (.agg x.ds) k (.agg (uQ k x).ds) (k + bJ x) := by
 have n0 := am (cnt := aM) dg x.pairs
 have n1 := am (cnt := bf) dT x.jobs
 have hkk := hk
 unfold bJ at hkk
 refine dH ah Tryz.func114 rfl Tryz.call114 Tryz.ntmps114 (congrArg Array.toList Tryz.results114) fun S P u => ?_; conv => whnf
 repeat' (first | (refine aw0 ?_) | ((first | refine aw1 ?_ | refine aw2 ?_ | refine aw3 ?_ | refine aw4 ?_ | refine aw5 ?_ | refine aw6 ?_ | refine aw7 ?_ | refine aw8 ?_); conv => whnf) | (refine aa.turn 9001 2 ([dI x.index] ++ [dI x.time]) ([.sl (x.jobs.map DJob.ds)] ++ DLease.ds x.lease) [.int .i64 x.index, .int .i64 x.time] [u 3, .int .i64 x.lease.holder, .int .i64 x.lease.epoch, .int .i64 x.lease.til] (yz x.pairs (k) (by omega) (by omega)) rfl rfl rfl rfl rfl ?_; conv => whnf) | (refine aa.turn 9001 3 ([dI x.index] ++ [dI x.time] ++ [.sl ((mkL eq aM (k) x.pairs).map DPair.ds)]) (DLease.ds x.lease) [.int .i64 x.index, .int .i64 x.time, u 2] [.int .i64 x.lease.holder, .int .i64 x.lease.epoch, .int .i64 x.lease.til] (Af x.jobs (k + ao aM x.pairs) (by omega) (by omega)) rfl rfl rfl rfl rfl ?_; conv => whnf))
 refine And.intro ?_ rfl
 have e : k + ao aM x.pairs + ao bf x.jobs = k + bJ x := by unfold bJ; omega
 show AP.val (pI (k + ao aM x.pairs + ao bf x.jobs)) = AP.val (pI (k + bJ x))
 rw [e]
def eZ (k : Int) (x : DStore) : DStore := ⟨li (k) x.disk, uQ (k + aS x.disk) x.state, x.num, x.last, x.busy⟩
def au (x : DStore) : Int := aS x.disk + bJ x.state
theorem kz (x : DStore) : 0 ≤ au x := by
 unfold au
 have := di x.disk
 have := ky x.state
 omega
set_option maxHeartbeats 2000000 in
theorem yB (x : DStore) (k : Int) (h0 : 0 ≤ k) (hk : k + au x ≤ 1000000000000) : bR av 40 (.agg x.ds) k (.agg (eZ k x).ds) (k + au x) := by
 have n0 := di x.disk
 have n1 := ky x.state
 have hkk := hk
 unfold au at hkk
 refine dH ah Tryz.func40 rfl Tryz.call40 Tryz.ntmps40 (congrArg Array.toList Tryz.results40) fun S P u => ?_; conv => whnf
 repeat' (first | (refine aw0 ?_) | ((first | refine aw1 ?_ | refine aw2 ?_ | refine aw3 ?_ | refine aw4 ?_ | refine aw5 ?_ | refine aw6 ?_ | refine aw7 ?_ | refine aw8 ?_); conv => whnf) | (refine aa.turn 9001 0 ([]) (DState.ds x.state ++ [dI x.num] ++ [dI x.last] ++ [dI x.busy]) [] [.int .i64 x.state.index, .int .i64 x.state.time, u 4, u 5, .int .i64 x.state.lease.holder, .int .i64 x.state.lease.epoch, .int .i64 x.state.lease.til, .int .i64 x.num, .int .i64 x.last, .int .i64 x.busy] (nT x.disk (k) (by omega) (by omega)) rfl rfl rfl rfl rfl ?_; conv => whnf) | (refine aa.turn 9001 2 (DDisk.ds (li (k) x.disk)) ([dI x.num] ++ [dI x.last] ++ [dI x.busy]) [u 0, u 1] [.int .i64 x.num, .int .i64 x.last, .int .i64 x.busy] (yA x.state (k + aS x.disk) (by omega) (by omega)) rfl rfl rfl rfl rfl ?_; conv => whnf))
 refine And.intro ?_ rfl
 have e : k + aS x.disk + bJ x.state = k + au x := by unfold au; omega
 show AP.val (pI (k + aS x.disk + bJ x.state)) = AP.val (pI (k + au x))
 rw [e]
def yF (k : Int) (x : DJobs) : DJobs := ⟨x.index, x.time, x.holder, x.epoch, x.til, mkL gy bd (k) x.opens⟩
def bS (x : DJobs) : Int := ao bd x.opens
theorem nc (x : DJobs) : 0 ≤ bS x := by
 unfold bS
 have := am (cnt := bd) dR x.opens
 omega
set_option maxHeartbeats 2000000 in
theorem Ag (x : DJobs) (k : Int) (h0 : 0 ≤ k) (hk : k + bS x ≤ 1000000000000) : bR av 198 (.agg x.ds) k (.agg (yF k x).ds) (k + bS x) := by
 have n0 := am (cnt := bd) dR x.opens
 have hkk := hk
 unfold bS at hkk
 refine dH ah Tryz.func198 rfl Tryz.call198 Tryz.ntmps198 (congrArg Array.toList Tryz.results198) fun S P u => ?_; conv => whnf
 repeat' (first | (refine aw0 ?_) | ((first | refine aw1 ?_ | refine aw2 ?_ | refine aw3 ?_ | refine aw4 ?_ | refine aw5 ?_ | refine aw6 ?_ | refine aw7 ?_ | refine aw8 ?_); conv => whnf) | (refine aa.turn 9001 5 ([dI x.index] ++ [dI x.time] ++ [dI x.holder] ++ [dI x.epoch] ++ [dI x.til]) ([]) [.int .i64 x.index, .int .i64 x.time, .int .i64 x.holder, .int .i64 x.epoch, .int .i64 x.til] [] (Ab x.opens (k) (by omega) (by omega)) rfl rfl rfl rfl rfl ?_; conv => whnf))
 refine And.intro ?_ rfl
 have e : k + ao bd x.opens = k + bS x := by unfold bS; omega
 show AP.val (pI (k + ao bd x.opens)) = AP.val (pI (k + bS x))
 rw [e]
def yG (k : Int) (x : DView) : DView := ⟨yF (k) x.jobs⟩
def bU (x : DView) : Int := bS x.jobs
theorem ne (x : DView) : 0 ≤ bU x := by
 unfold bU
 have := nc x.jobs
 omega
set_option maxHeartbeats 2000000 in
theorem Aj (x : DView) (k : Int) (h0 : 0 ≤ k) (hk : k + bU x ≤ 1000000000000) : bR av 115 (.agg x.ds) k (.agg (yG k x).ds) (k + bU x) := by
 have n0 := nc x.jobs
 have hkk := hk
 unfold bU at hkk
 refine dH ah Tryz.func115 rfl Tryz.call115 Tryz.ntmps115 (congrArg Array.toList Tryz.results115) fun S P u => ?_; conv => whnf
 repeat' (first | (refine aw0 ?_) | ((first | refine aw1 ?_ | refine aw2 ?_ | refine aw3 ?_ | refine aw4 ?_ | refine aw5 ?_ | refine aw6 ?_ | refine aw7 ?_ | refine aw8 ?_); conv => whnf) | (refine aa.turn 9001 0 ([]) ([]) [] [] (Ag x.jobs (k) (by omega) (by omega)) rfl rfl rfl rfl rfl ?_; conv => whnf))
 refine And.intro ?_ rfl
 have e : k + bS x.jobs = k + bU x := by unfold bU; omega
 show AP.val (pI (k + bS x.jobs)) = AP.val (pI (k + bU x))
 rw [e]
def c9 (k : Int) (x : DSched) : DSched := ⟨x.id, x.seq, yG (k) x.view, x.busy, x.op, x.index⟩
def an (x : DSched) : Int := bU x.view
theorem eJ (x : DSched) : 0 ≤ an x := by
 unfold an
 have := ne x.view
 omega
set_option maxHeartbeats 2000000 in
theorem qY (x : DSched) (k : Int) (h0 : 0 ≤ k) (hk : k + an x ≤ 1000000000000) : bR av 41 (.agg x.ds) k (.agg (c9 k x).ds) (k + an x) := by
 have n0 := ne x.view
 have hkk := hk
 unfold an at hkk
 refine dH ah Tryz.func41 rfl Tryz.call41 Tryz.ntmps41 (congrArg Array.toList Tryz.results41) fun S P u => ?_; conv => whnf
 repeat' (first | (refine aw0 ?_) | ((first | refine aw1 ?_ | refine aw2 ?_ | refine aw3 ?_ | refine aw4 ?_ | refine aw5 ?_ | refine aw6 ?_ | refine aw7 ?_ | refine aw8 ?_); conv => whnf) | (refine aa.turn 9001 2 ([dI x.id] ++ [dI x.seq]) ([dB x.busy] ++ DOp.ds x.op ++ [dI x.index]) [.int .i64 x.id, .int .i64 x.seq] [.bool x.busy, .int .i64 x.op.kind, .int .i64 x.op.a, .int .i64 x.op.b, .int .i64 x.op.c, .int .i64 x.op.d, .int .i64 x.index] (Aj x.view (k) (by omega) (by omega)) rfl rfl rfl rfl rfl ?_; conv => whnf))
 refine And.intro ?_ rfl
 have e : k + bU x.view = k + an x := by unfold an; omega
 show AP.val (pI (k + bU x.view)) = AP.val (pI (k + an x))
 rw [e]
def dG (k : Int) (x : DClient) : DClient := ⟨x.id, mkL er aN (k) x.todo, mkL gz be (k + ao aN x.todo) x.gots, x.last⟩
def ar (x : DClient) : Int := ao aN x.todo + ao be x.gots
theorem ed (x : DClient) : 0 ≤ ar x := by
 unfold ar
 have := am (cnt := aN) dh x.todo
 have := am (cnt := be) dS x.gots
 omega
set_option maxHeartbeats 2000000 in
theorem pE (x : DClient) (k : Int) (h0 : 0 ≤ k) (hk : k + ar x ≤ 1000000000000) : bR av 42 (.agg x.ds) k (.agg (dG k x).ds) (k + ar x) := by
 have n0 := am (cnt := aN) dh x.todo
 have n1 := am (cnt := be) dS x.gots
 have hkk := hk
 unfold ar at hkk
 refine dH ah Tryz.func42 rfl Tryz.call42 Tryz.ntmps42 (congrArg Array.toList Tryz.results42) fun S P u => ?_; conv => whnf
 repeat' (first | (refine aw0 ?_) | ((first | refine aw1 ?_ | refine aw2 ?_ | refine aw3 ?_ | refine aw4 ?_ | refine aw5 ?_ | refine aw6 ?_ | refine aw7 ?_ | refine aw8 ?_); conv => whnf) | (refine aa.turn 9001 1 ([dI x.id]) ([.sl (x.gots.map DGot.ds)] ++ [dI x.last]) [.int .i64 x.id] [u 2, .int .i64 x.last] (yD x.todo (k) (by omega) (by omega)) rfl rfl rfl rfl rfl ?_; conv => whnf) | (refine aa.turn 9001 2 ([dI x.id] ++ [.sl ((mkL er aN (k) x.todo).map DWant.ds)]) ([dI x.last]) [.int .i64 x.id, u 1] [.int .i64 x.last] (Ad x.gots (k + ao aN x.todo) (by omega) (by omega)) rfl rfl rfl rfl rfl ?_; conv => whnf))
 refine And.intro ?_ rfl
 have e : k + ao aN x.todo + ao be x.gots = k + ar x := by unfold ar; omega
 show AP.val (pI (k + ao aN x.todo + ao be x.gots)) = AP.val (pI (k + ar x))
 rw [e]
def uP (k : Int) (x : DNet) : DNet := ⟨mkL fQ aV (k) x.flight, mkL eM aU (k + ao aV x.flight) x.cuts⟩
def bD (x : DNet) : Int := ao aV x.flight + ao aU x.cuts
theorem pW (x : DNet) : 0 ≤ bD x := by
 unfold bD
 have := am (cnt := aV) dU x.flight
 have := am (cnt := aU) de x.cuts
 omega
set_option maxHeartbeats 2000000 in
theorem Ck (x : DNet) (k : Int) (h0 : 0 ≤ k) (hk : k + bD x ≤ 1000000000000) : bR av 43 (.agg x.ds) k (.agg (uP k x).ds) (k + bD x) := by
 have n0 := am (cnt := aV) dU x.flight
 have n1 := am (cnt := aU) de x.cuts
 have hkk := hk
 unfold bD at hkk
 refine dH ah Tryz.func43 rfl Tryz.call43 Tryz.ntmps43 (congrArg Array.toList Tryz.results43) fun S P u => ?_; conv => whnf
 repeat' (first | (refine aw0 ?_) | ((first | refine aw1 ?_ | refine aw2 ?_ | refine aw3 ?_ | refine aw4 ?_ | refine aw5 ?_ | refine aw6 ?_ | refine aw7 ?_ | refine aw8 ?_); conv => whnf) | (refine aa.turn 9001 0 ([]) ([.sl (x.cuts.map DLink.ds)]) [] [u 1] (Ai x.flight (k) (by omega) (by omega)) rfl rfl rfl rfl rfl ?_; conv => whnf) | (refine aa.turn 9001 1 ([.sl ((mkL fQ aV (k) x.flight).map DMsg.ds)]) ([]) [u 0] [] (yw x.cuts (k + ao aV x.flight) (by omega) (by omega)) rfl rfl rfl rfl rfl ?_; conv => whnf))
 refine And.intro ?_ rfl
 have e : k + ao aV x.flight + ao aU x.cuts = k + bD x := by unfold bD; omega
 show AP.val (pI (k + ao aV x.flight + ao aU x.cuts)) = AP.val (pI (k + bD x))
 rw [e]
def As (k : Int) (x : DWorld) : DWorld := ⟨cZ (k) x.log, eZ (k + al x.log) x.store, c9 (k + al x.log + au x.store) x.left, c9 (k + al x.log + au x.store + an x.left) x.right, dG (k + al x.log + au x.store + an x.left + an x.right) x.ann, dG (k + al x.log + au x.store + an x.left + an x.right + ar x.ann) x.bob, uP (k + al x.log + au x.store + an x.left + an x.right + ar x.ann + ar x.bob) x.net, mkL mI cI (k + al x.log + au x.store + an x.left + an x.right + ar x.ann + ar x.bob + bD x.net) x.clocks, mkL mB cI (k + al x.log + au x.store + an x.left + an x.right + ar x.ann + ar x.bob + bD x.net + ao cI x.clocks) x.up⟩
def bz (x : DWorld) : Int := al x.log + au x.store + an x.left + an x.right + ar x.ann + ar x.bob + bD x.net + ao cI x.clocks + ao cI x.up
theorem ie (x : DWorld) : 0 ≤ bz x := by
 unfold bz
 have := iD x.log
 have := kz x.store
 have := eJ x.left
 have := eJ x.right
 have := ed x.ann
 have := ed x.bob
 have := pW x.net
 have := am (cnt := cI) dD x.clocks
 have := am (cnt := cI) dD x.up
 omega
set_option maxHeartbeats 2000000 in
theorem im (x : DWorld) (k : Int) (h0 : 0 ≤ k) (hk : k + bz x ≤ 1000000000000) : bR av 10 (.agg x.ds) k (.agg (As k x).ds) (k + bz x) := by
 have n0 := iD x.log
 have n1 := kz x.store
 have n2 := eJ x.left
 have n3 := eJ x.right
 have n4 := ed x.ann
 have n5 := ed x.bob
 have n6 := pW x.net
 have n7 := am (cnt := cI) dD x.clocks
 have n8 := am (cnt := cI) dD x.up
 have hkk := hk
 unfold bz at hkk
 refine dH ah Tryz.func10 rfl Tryz.call10 Tryz.ntmps10 (congrArg Array.toList Tryz.results10) fun S P u => ?_; conv => whnf
 repeat' (first | (refine aw0 ?_) | ((first | refine aw1 ?_ | refine aw2 ?_ | refine aw3 ?_ | refine aw4 ?_ | refine aw5 ?_ | refine aw6 ?_ | refine aw7 ?_ | refine aw8 ?_); conv => whnf) | (refine aa.turn 9001 0 ([]) (DStore.ds x.store ++ DSched.ds x.left ++ DSched.ds x.right ++ DClient.ds x.ann ++ DClient.ds x.bob ++ DNet.ds x.net ++ [.sl (x.clocks.map eI)] ++ [.sl (x.up.map eB)]) [] [u 19, u 20, .int .i64 x.store.state.index, .int .i64 x.store.state.time, u 23, u 24, .int .i64 x.store.state.lease.holder, .int .i64 x.store.state.lease.epoch, .int .i64 x.store.state.lease.til, .int .i64 x.store.num, .int .i64 x.store.last, .int .i64 x.store.busy, .int .i64 x.left.id, .int .i64 x.left.seq, .int .i64 x.left.view.jobs.index, .int .i64 x.left.view.jobs.time, .int .i64 x.left.view.jobs.holder, .int .i64 x.left.view.jobs.epoch, .int .i64 x.left.view.jobs.til, u 38, .bool x.left.busy, .int .i64 x.left.op.kind, .int .i64 x.left.op.a, .int .i64 x.left.op.b, .int .i64 x.left.op.c, .int .i64 x.left.op.d, .int .i64 x.left.index, .int .i64 x.right.id, .int .i64 x.right.seq, .int .i64 x.right.view.jobs.index, .int .i64 x.right.view.jobs.time, .int .i64 x.right.view.jobs.holder, .int .i64 x.right.view.jobs.epoch, .int .i64 x.right.view.jobs.til, u 53, .bool x.right.busy, .int .i64 x.right.op.kind, .int .i64 x.right.op.a, .int .i64 x.right.op.b, .int .i64 x.right.op.c, .int .i64 x.right.op.d, .int .i64 x.right.index, .int .i64 x.ann.id, u 62, u 63, .int .i64 x.ann.last, .int .i64 x.bob.id, u 66, u 67, .int .i64 x.bob.last, u 69, u 70, u 71, u 72] (uI x.log (k) (by omega) (by omega)) rfl rfl rfl rfl rfl ?_; conv => whnf) | (refine aa.turn 9001 19 (DLogNode.ds (cZ (k) x.log)) (DSched.ds x.left ++ DSched.ds x.right ++ DClient.ds x.ann ++ DClient.ds x.bob ++ DNet.ds x.net ++ [.sl (x.clocks.map eI)] ++ [.sl (x.up.map eB)]) [u 0, u 1, u 2, u 3, .int .i64 x.log.head.num, .int .i64 x.log.head.base, .int .i64 x.log.head.time, u 7, .int .i64 x.log.nxt.num, .int .i64 x.log.nxt.base, .int .i64 x.log.nxt.time, u 11, .bool x.log.more, .int .i64 x.log.book.base, .int .i64 x.log.book.time, u 15, u 16, .int .i64 x.log.durable, u 18] [.int .i64 x.left.id, .int .i64 x.left.seq, .int .i64 x.left.view.jobs.index, .int .i64 x.left.view.jobs.time, .int .i64 x.left.view.jobs.holder, .int .i64 x.left.view.jobs.epoch, .int .i64 x.left.view.jobs.til, u 38, .bool x.left.busy, .int .i64 x.left.op.kind, .int .i64 x.left.op.a, .int .i64 x.left.op.b, .int .i64 x.left.op.c, .int .i64 x.left.op.d, .int .i64 x.left.index, .int .i64 x.right.id, .int .i64 x.right.seq, .int .i64 x.right.view.jobs.index, .int .i64 x.right.view.jobs.time, .int .i64 x.right.view.jobs.holder, .int .i64 x.right.view.jobs.epoch, .int .i64 x.right.view.jobs.til, u 53, .bool x.right.busy, .int .i64 x.right.op.kind, .int .i64 x.right.op.a, .int .i64 x.right.op.b, .int .i64 x.right.op.c, .int .i64 x.right.op.d, .int .i64 x.right.index, .int .i64 x.ann.id, u 62, u 63, .int .i64 x.ann.last, .int .i64 x.bob.id, u 66, u 67, .int .i64 x.bob.last, u 69, u 70, u 71, u 72] (yB x.store (k + al x.log) (by omega) (by omega)) rfl rfl rfl rfl rfl ?_; conv => whnf) | (refine aa.turn 9001 31 (DLogNode.ds (cZ (k) x.log) ++ DStore.ds (eZ (k + al x.log) x.store)) (DSched.ds x.right ++ DClient.ds x.ann ++ DClient.ds x.bob ++ DNet.ds x.net ++ [.sl (x.clocks.map eI)] ++ [.sl (x.up.map eB)]) [u 0, u 1, u 2, u 3, .int .i64 x.log.head.num, .int .i64 x.log.head.base, .int .i64 x.log.head.time, u 7, .int .i64 x.log.nxt.num, .int .i64 x.log.nxt.base, .int .i64 x.log.nxt.time, u 11, .bool x.log.more, .int .i64 x.log.book.base, .int .i64 x.log.book.time, u 15, u 16, .int .i64 x.log.durable, u 18, u 19, u 20, .int .i64 x.store.state.index, .int .i64 x.store.state.time, u 23, u 24, .int .i64 x.store.state.lease.holder, .int .i64 x.store.state.lease.epoch, .int .i64 x.store.state.lease.til, .int .i64 x.store.num, .int .i64 x.store.last, .int .i64 x.store.busy] [.int .i64 x.right.id, .int .i64 x.right.seq, .int .i64 x.right.view.jobs.index, .int .i64 x.right.view.jobs.time, .int .i64 x.right.view.jobs.holder, .int .i64 x.right.view.jobs.epoch, .int .i64 x.right.view.jobs.til, u 53, .bool x.right.busy, .int .i64 x.right.op.kind, .int .i64 x.right.op.a, .int .i64 x.right.op.b, .int .i64 x.right.op.c, .int .i64 x.right.op.d, .int .i64 x.right.index, .int .i64 x.ann.id, u 62, u 63, .int .i64 x.ann.last, .int .i64 x.bob.id, u 66, u 67, .int .i64 x.bob.last, u 69, u 70, u 71, u 72] (qY x.left (k + al x.log + au x.store) (by omega) (by omega)) rfl rfl rfl rfl rfl ?_; conv => whnf) | (refine aa.turn 9001 46 (DLogNode.ds (cZ (k) x.log) ++ DStore.ds (eZ (k + al x.log) x.store) ++ DSched.ds (c9 (k + al x.log + au x.store) x.left)) (DClient.ds x.ann ++ DClient.ds x.bob ++ DNet.ds x.net ++ [.sl (x.clocks.map eI)] ++ [.sl (x.up.map eB)]) [u 0, u 1, u 2, u 3, .int .i64 x.log.head.num, .int .i64 x.log.head.base, .int .i64 x.log.head.time, u 7, .int .i64 x.log.nxt.num, .int .i64 x.log.nxt.base, .int .i64 x.log.nxt.time, u 11, .bool x.log.more, .int .i64 x.log.book.base, .int .i64 x.log.book.time, u 15, u 16, .int .i64 x.log.durable, u 18, u 19, u 20, .int .i64 x.store.state.index, .int .i64 x.store.state.time, u 23, u 24, .int .i64 x.store.state.lease.holder, .int .i64 x.store.state.lease.epoch, .int .i64 x.store.state.lease.til, .int .i64 x.store.num, .int .i64 x.store.last, .int .i64 x.store.busy, .int .i64 x.left.id, .int .i64 x.left.seq, .int .i64 x.left.view.jobs.index, .int .i64 x.left.view.jobs.time, .int .i64 x.left.view.jobs.holder, .int .i64 x.left.view.jobs.epoch, .int .i64 x.left.view.jobs.til, u 38, .bool x.left.busy, .int .i64 x.left.op.kind, .int .i64 x.left.op.a, .int .i64 x.left.op.b, .int .i64 x.left.op.c, .int .i64 x.left.op.d, .int .i64 x.left.index] [.int .i64 x.ann.id, u 62, u 63, .int .i64 x.ann.last, .int .i64 x.bob.id, u 66, u 67, .int .i64 x.bob.last, u 69, u 70, u 71, u 72] (qY x.right (k + al x.log + au x.store + an x.left) (by omega) (by omega)) rfl rfl rfl rfl rfl ?_; conv => whnf) | (refine aa.turn 9001 61 (DLogNode.ds (cZ (k) x.log) ++ DStore.ds (eZ (k + al x.log) x.store) ++ DSched.ds (c9 (k + al x.log + au x.store) x.left) ++ DSched.ds (c9 (k + al x.log + au x.store + an x.left) x.right)) (DClient.ds x.bob ++ DNet.ds x.net ++ [.sl (x.clocks.map eI)] ++ [.sl (x.up.map eB)]) [u 0, u 1, u 2, u 3, .int .i64 x.log.head.num, .int .i64 x.log.head.base, .int .i64 x.log.head.time, u 7, .int .i64 x.log.nxt.num, .int .i64 x.log.nxt.base, .int .i64 x.log.nxt.time, u 11, .bool x.log.more, .int .i64 x.log.book.base, .int .i64 x.log.book.time, u 15, u 16, .int .i64 x.log.durable, u 18, u 19, u 20, .int .i64 x.store.state.index, .int .i64 x.store.state.time, u 23, u 24, .int .i64 x.store.state.lease.holder, .int .i64 x.store.state.lease.epoch, .int .i64 x.store.state.lease.til, .int .i64 x.store.num, .int .i64 x.store.last, .int .i64 x.store.busy, .int .i64 x.left.id, .int .i64 x.left.seq, .int .i64 x.left.view.jobs.index, .int .i64 x.left.view.jobs.time, .int .i64 x.left.view.jobs.holder, .int .i64 x.left.view.jobs.epoch, .int .i64 x.left.view.jobs.til, u 38, .bool x.left.busy, .int .i64 x.left.op.kind, .int .i64 x.left.op.a, .int .i64 x.left.op.b, .int .i64 x.left.op.c, .int .i64 x.left.op.d, .int .i64 x.left.index, .int .i64 x.right.id, .int .i64 x.right.seq, .int .i64 x.right.view.jobs.index, .int .i64 x.right.view.jobs.time, .int .i64 x.right.view.jobs.holder, .int .i64 x.right.view.jobs.epoch, .int .i64 x.right.view.jobs.til, u 53, .bool x.right.busy, .int .i64 x.right.op.kind, .int .i64 x.right.op.a, .int .i64 x.right.op.b, .int .i64 x.right.op.c, .int .i64 x.right.op.d, .int .i64 x.right.index] [.int .i64 x.bob.id, u 66, u 67, .int .i64 x.bob.last, u 69, u 70, u 71, u 72] (pE x.ann (k + al x.log + au x.store + an x.left + an x.right) (by omega) (by omega)) rfl rfl rfl rfl rfl ?_; conv => whnf) | (refine aa.turn 9001 65 (DLogNode.ds (cZ (k) x.log) ++ DStore.ds (eZ (k + al x.log) x.store) ++ DSched.ds (c9 (k + al x.log + au x.store) x.left) ++ DSched.ds (c9 (k + al x.log + au x.store + an x.left) x.right) ++ DClient.ds (dG (k + al x.log + au x.store + an x.left + an x.right) x.ann)) (DNet.ds x.net ++ [.sl (x.clocks.map eI)] ++ [.sl (x.up.map eB)]) [u 0, u 1, u 2, u 3, .int .i64 x.log.head.num, .int .i64 x.log.head.base, .int .i64 x.log.head.time, u 7, .int .i64 x.log.nxt.num, .int .i64 x.log.nxt.base, .int .i64 x.log.nxt.time, u 11, .bool x.log.more, .int .i64 x.log.book.base, .int .i64 x.log.book.time, u 15, u 16, .int .i64 x.log.durable, u 18, u 19, u 20, .int .i64 x.store.state.index, .int .i64 x.store.state.time, u 23, u 24, .int .i64 x.store.state.lease.holder, .int .i64 x.store.state.lease.epoch, .int .i64 x.store.state.lease.til, .int .i64 x.store.num, .int .i64 x.store.last, .int .i64 x.store.busy, .int .i64 x.left.id, .int .i64 x.left.seq, .int .i64 x.left.view.jobs.index, .int .i64 x.left.view.jobs.time, .int .i64 x.left.view.jobs.holder, .int .i64 x.left.view.jobs.epoch, .int .i64 x.left.view.jobs.til, u 38, .bool x.left.busy, .int .i64 x.left.op.kind, .int .i64 x.left.op.a, .int .i64 x.left.op.b, .int .i64 x.left.op.c, .int .i64 x.left.op.d, .int .i64 x.left.index, .int .i64 x.right.id, .int .i64 x.right.seq, .int .i64 x.right.view.jobs.index, .int .i64 x.right.view.jobs.time, .int .i64 x.right.view.jobs.holder, .int .i64 x.right.view.jobs.epoch, .int .i64 x.right.view.jobs.til, u 53, .bool x.right.busy, .int .i64 x.right.op.kind, .int .i64 x.right.op.a, .int .i64 x.right.op.b, .int .i64 x.right.op.c, .int .i64 x.right.op.d, .int .i64 x.right.index, .int .i64 x.ann.id, u 62, u 63, .int .i64 x.ann.last] [u 69, u 70, u 71, u 72] (pE x.bob (k + al x.log + au x.store + an x.left + an x.right + ar x.ann) (by omega) (by omega)) rfl rfl rfl rfl rfl ?_; conv => whnf) | (refine aa.turn 9001 69 (DLogNode.ds (cZ (k) x.log) ++ DStore.ds (eZ (k + al x.log) x.store) ++ DSched.ds (c9 (k + al x.log + au x.store) x.left) ++ DSched.ds (c9 (k + al x.log + au x.store + an x.left) x.right) ++ DClient.ds (dG (k + al x.log + au x.store + an x.left + an x.right) x.ann) ++ DClient.ds (dG (k + al x.log + au x.store + an x.left + an x.right + ar x.ann) x.bob)) ([.sl (x.clocks.map eI)] ++ [.sl (x.up.map eB)]) [u 0, u 1, u 2, u 3, .int .i64 x.log.head.num, .int .i64 x.log.head.base, .int .i64 x.log.head.time, u 7, .int .i64 x.log.nxt.num, .int .i64 x.log.nxt.base, .int .i64 x.log.nxt.time, u 11, .bool x.log.more, .int .i64 x.log.book.base, .int .i64 x.log.book.time, u 15, u 16, .int .i64 x.log.durable, u 18, u 19, u 20, .int .i64 x.store.state.index, .int .i64 x.store.state.time, u 23, u 24, .int .i64 x.store.state.lease.holder, .int .i64 x.store.state.lease.epoch, .int .i64 x.store.state.lease.til, .int .i64 x.store.num, .int .i64 x.store.last, .int .i64 x.store.busy, .int .i64 x.left.id, .int .i64 x.left.seq, .int .i64 x.left.view.jobs.index, .int .i64 x.left.view.jobs.time, .int .i64 x.left.view.jobs.holder, .int .i64 x.left.view.jobs.epoch, .int .i64 x.left.view.jobs.til, u 38, .bool x.left.busy, .int .i64 x.left.op.kind, .int .i64 x.left.op.a, .int .i64 x.left.op.b, .int .i64 x.left.op.c, .int .i64 x.left.op.d, .int .i64 x.left.index, .int .i64 x.right.id, .int .i64 x.right.seq, .int .i64 x.right.view.jobs.index, .int .i64 x.right.view.jobs.time, .int .i64 x.right.view.jobs.holder, .int .i64 x.right.view.jobs.epoch, .int .i64 x.right.view.jobs.til, u 53, .bool x.right.busy, .int .i64 x.right.op.kind, .int .i64 x.right.op.a, .int .i64 x.right.op.b, .int .i64 x.right.op.c, .int .i64 x.right.op.d, .int .i64 x.right.index, .int .i64 x.ann.id, u 62, u 63, .int .i64 x.ann.last, .int .i64 x.bob.id, u 66, u 67, .int .i64 x.bob.last] [u 71, u 72] (Ck x.net (k + al x.log + au x.store + an x.left + an x.right + ar x.ann + ar x.bob) (by omega) (by omega)) rfl rfl rfl rfl rfl ?_; conv => whnf) | (refine aa.turn 9001 71 (DLogNode.ds (cZ (k) x.log) ++ DStore.ds (eZ (k + al x.log) x.store) ++ DSched.ds (c9 (k + al x.log + au x.store) x.left) ++ DSched.ds (c9 (k + al x.log + au x.store + an x.left) x.right) ++ DClient.ds (dG (k + al x.log + au x.store + an x.left + an x.right) x.ann) ++ DClient.ds (dG (k + al x.log + au x.store + an x.left + an x.right + ar x.ann) x.bob) ++ DNet.ds (uP (k + al x.log + au x.store + an x.left + an x.right + ar x.ann + ar x.bob) x.net)) ([.sl (x.up.map eB)]) [u 0, u 1, u 2, u 3, .int .i64 x.log.head.num, .int .i64 x.log.head.base, .int .i64 x.log.head.time, u 7, .int .i64 x.log.nxt.num, .int .i64 x.log.nxt.base, .int .i64 x.log.nxt.time, u 11, .bool x.log.more, .int .i64 x.log.book.base, .int .i64 x.log.book.time, u 15, u 16, .int .i64 x.log.durable, u 18, u 19, u 20, .int .i64 x.store.state.index, .int .i64 x.store.state.time, u 23, u 24, .int .i64 x.store.state.lease.holder, .int .i64 x.store.state.lease.epoch, .int .i64 x.store.state.lease.til, .int .i64 x.store.num, .int .i64 x.store.last, .int .i64 x.store.busy, .int .i64 x.left.id, .int .i64 x.left.seq, .int .i64 x.left.view.jobs.index, .int .i64 x.left.view.jobs.time, .int .i64 x.left.view.jobs.holder, .int .i64 x.left.view.jobs.epoch, .int .i64 x.left.view.jobs.til, u 38, .bool x.left.busy, .int .i64 x.left.op.kind, .int .i64 x.left.op.a, .int .i64 x.left.op.b, .int .i64 x.left.op.c, .int .i64 x.left.op.d, .int .i64 x.left.index, .int .i64 x.right.id, .int .i64 x.right.seq, .int .i64 x.right.view.jobs.index, .int .i64 x.right.view.jobs.time, .int .i64 x.right.view.jobs.holder, .int .i64 x.right.view.jobs.epoch, .int .i64 x.right.view.jobs.til, u 53, .bool x.right.busy, .int .i64 x.right.op.kind, .int .i64 x.right.op.a, .int .i64 x.right.op.b, .int .i64 x.right.op.c, .int .i64 x.right.op.d, .int .i64 x.right.index, .int .i64 x.ann.id, u 62, u 63, .int .i64 x.ann.last, .int .i64 x.bob.id, u 66, u 67, .int .i64 x.bob.last, u 69, u 70] [u 72] (vY x.clocks (k + al x.log + au x.store + an x.left + an x.right + ar x.ann + ar x.bob + bD x.net) (by omega) (by omega)) rfl rfl rfl rfl rfl ?_; conv => whnf) | (refine aa.turn 9001 72 (DLogNode.ds (cZ (k) x.log) ++ DStore.ds (eZ (k + al x.log) x.store) ++ DSched.ds (c9 (k + al x.log + au x.store) x.left) ++ DSched.ds (c9 (k + al x.log + au x.store + an x.left) x.right) ++ DClient.ds (dG (k + al x.log + au x.store + an x.left + an x.right) x.ann) ++ DClient.ds (dG (k + al x.log + au x.store + an x.left + an x.right + ar x.ann) x.bob) ++ DNet.ds (uP (k + al x.log + au x.store + an x.left + an x.right + ar x.ann + ar x.bob) x.net) ++ [.sl ((mkL mI cI (k + al x.log + au x.store + an x.left + an x.right + ar x.ann + ar x.bob + bD x.net) x.clocks).map eI)]) ([]) [u 0, u 1, u 2, u 3, .int .i64 x.log.head.num, .int .i64 x.log.head.base, .int .i64 x.log.head.time, u 7, .int .i64 x.log.nxt.num, .int .i64 x.log.nxt.base, .int .i64 x.log.nxt.time, u 11, .bool x.log.more, .int .i64 x.log.book.base, .int .i64 x.log.book.time, u 15, u 16, .int .i64 x.log.durable, u 18, u 19, u 20, .int .i64 x.store.state.index, .int .i64 x.store.state.time, u 23, u 24, .int .i64 x.store.state.lease.holder, .int .i64 x.store.state.lease.epoch, .int .i64 x.store.state.lease.til, .int .i64 x.store.num, .int .i64 x.store.last, .int .i64 x.store.busy, .int .i64 x.left.id, .int .i64 x.left.seq, .int .i64 x.left.view.jobs.index, .int .i64 x.left.view.jobs.time, .int .i64 x.left.view.jobs.holder, .int .i64 x.left.view.jobs.epoch, .int .i64 x.left.view.jobs.til, u 38, .bool x.left.busy, .int .i64 x.left.op.kind, .int .i64 x.left.op.a, .int .i64 x.left.op.b, .int .i64 x.left.op.c, .int .i64 x.left.op.d, .int .i64 x.left.index, .int .i64 x.right.id, .int .i64 x.right.seq, .int .i64 x.right.view.jobs.index, .int .i64 x.right.view.jobs.time, .int .i64 x.right.view.jobs.holder, .int .i64 x.right.view.jobs.epoch, .int .i64 x.right.view.jobs.til, u 53, .bool x.right.busy, .int .i64 x.right.op.kind, .int .i64 x.right.op.a, .int .i64 x.right.op.b, .int .i64 x.right.op.c, .int .i64 x.right.op.d, .int .i64 x.right.index, .int .i64 x.ann.id, u 62, u 63, .int .i64 x.ann.last, .int .i64 x.bob.id, u 66, u 67, .int .i64 x.bob.last, u 69, u 70, u 71] [] (yu x.up (k + al x.log + au x.store + an x.left + an x.right + ar x.ann + ar x.bob + bD x.net + ao cI x.clocks) (by omega) (by omega)) rfl rfl rfl rfl rfl ?_; conv => whnf))
 refine And.intro ?_ rfl
 have e : k + al x.log + au x.store + an x.left + an x.right + ar x.ann + ar x.bob + bD x.net + ao cI x.clocks + ao cI x.up = k + bz x := by unfold bz; omega
 show AP.val (pI (k + al x.log + au x.store + an x.left + an x.right + ar x.ann + ar x.bob + bD x.net + ao cI x.clocks + ao cI x.up)) = AP.val (pI (k + bz x))
 rw [e]
end Go.Proofs.YtcmknngafflcnaaGreat
namespace Go.Proofs.YtcmknngafflcnaaGreat
open Go.ChangeShapes Go.WideShapes Go.RowKit
theorem qv {α : Type} {c : α → Int} {f : α → Nat} (h : ∀ a, c a ≤ 9 * (1 + (f a : Int))) : ∀ l : List α, ao c l ≤ 9 * (fG f l : Int)
 | [] => by simp [ao, fG]
 | a :: r => by have := qv h r; have := h a; simp only [ao, fG]; omega
theorem ch {α : Type} {c : α → Int} (h : ∀ a, c a ≤ 9) : ∀ l : List α, ao c l ≤ 9 * (l.length : Int)
 | [] => by simp [ao]
 | a :: r => by have := ch h r; have := h a; simp only [ao, List.length_cons]; omega
theorem BX (x : DMsg) : aV x ≤ 9 * (1 + (DMsg.cnt x : Int)) := by
 have := ch (c := cI) (fun a => by unfold cI; omega) x.row
 unfold aV DMsg.cnt
 omega
theorem xZ (x : DWrite) : aI x ≤ 9 * (1 + (DWrite.cnt x : Int)) := by
 have := ch (c := cI) (fun a => by unfold cI; omega) x.row
 unfold aI DWrite.cnt
 omega
theorem x9 (y : (List Int)) : aE y ≤ 9 * (1 + (((y.length : Nat)) : Int)) := by
 have : ao cI y ≤ 9 * (y.length : Int) := ch (c := cI) (fun a => by unfold cI; omega) y
 unfold aE
 omega
theorem na (x : DDisk) : aS x ≤ 9 * (x.cnt : Int) := by
 have := qv (c := aE) (f := (fun l => l.length)) x9 x.kept
 have := qv (c := aI) (f := DWrite.cnt) xZ x.wait
 unfold aS DDisk.cnt
 omega
theorem BZ (x : DTwo) : aP x ≤ 9 * (x.cnt : Int) := by
 have := na x.a
 have := na x.b
 unfold aP DTwo.cnt
 omega
theorem rY (x : DHead) : aA x ≤ 9 * (x.cnt : Int) := by
 have := ch (c := aD) (fun a => by unfold aD; omega) x.seen
 unfold aA DHead.cnt
 omega
theorem zt (x : DBook) : bn x ≤ 9 * (x.cnt : Int) := by
 have := ch (c := aK) (fun a => by unfold aK; omega) x.entries
 unfold bn DBook.cnt
 omega
theorem tZ (x : DLogNode) : al x ≤ 9 * (x.cnt : Int) := by
 have := BZ x.two
 have := rY x.head
 have := rY x.nxt
 have := zt x.book
 have := ch (c := aD) (fun a => by unfold aD; omega) x.seen
 have := ch (c := bc) (fun a => by unfold bc; omega) x.owe
 unfold al DLogNode.cnt
 omega
theorem yb (x : DState) : bJ x ≤ 9 * (x.cnt : Int) := by
 have := ch (c := aM) (fun a => by unfold aM; omega) x.pairs
 have := ch (c := bf) (fun a => by unfold bf; omega) x.jobs
 unfold bJ DState.cnt
 omega
theorem yc (x : DStore) : au x ≤ 9 * (x.cnt : Int) := by
 have := na x.disk
 have := yb x.state
 unfold au DStore.cnt
 omega
theorem zu (x : DJobs) : bS x ≤ 9 * (x.cnt : Int) := by
 have := ch (c := bd) (fun a => by unfold bd; omega) x.opens
 unfold bS DJobs.cnt
 omega
theorem zv (x : DView) : bU x ≤ 9 * (x.cnt : Int) := by
 have := zu x.jobs
 unfold bU DView.cnt
 omega
theorem qx (x : DSched) : an x ≤ 9 * (x.cnt : Int) := by
 have := zv x.view
 unfold an DSched.cnt
 omega
theorem pt (x : DClient) : ar x ≤ 9 * (x.cnt : Int) := by
 have := ch (c := aN) (fun a => by unfold aN; omega) x.todo
 have := ch (c := be) (fun a => by unfold be; omega) x.gots
 unfold ar DClient.cnt
 omega
theorem BY (x : DNet) : bD x ≤ 9 * (x.cnt : Int) := by
 have := qv (c := aV) (f := DMsg.cnt) BX x.flight
 have := ch (c := aU) (fun a => by unfold aU; omega) x.cuts
 unfold bD DNet.cnt
 omega
theorem ic (x : DWorld) : bz x ≤ 9 * (x.cnt : Int) := by
 have := tZ x.log
 have := yc x.store
 have := qx x.left
 have := qx x.right
 have := pt x.ann
 have := pt x.bob
 have := BY x.net
 have := ch (c := cI) (fun a => by unfold cI; omega) x.clocks
 have := ch (c := cI) (fun a => by unfold cI; omega) x.up
 unfold bz DWorld.cnt
 omega
end Go.Proofs.YtcmknngafflcnaaGreat
