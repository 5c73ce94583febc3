/- Joined: Awx MkD MkS WRh -/
import Derived.Test.YtmgcnmdbhahhlaaGreatAvEnv
import Derived.Test.YtmgcnmdbhahhlaaGreatJ03
import Derived.Test.YtmgcnmdbhahhlaaGreatJ14
import Derived.Test.YtmgcnmdbhahhlaaGreatJ05
import Derived.Test.YtmgcnmdbhahhlaaGreatJ13
set_option linter.unusedVariables false
set_option linter.unusedSimpArgs false
set_option maxRecDepth 100000
namespace Go.Proofs.YtmgcnmdbhahhlaaGreat
open Go.RowKit
abbrev iv (n : Int) : Value := .int .i64 n
theorem awx {p q : Prop} (h : q) (e : q → p := by first | exact fun h => aw1 h | exact fun h => aw2 h | exact fun h => aw3 h | exact fun h => aw4 h | exact fun h => aw5 h | exact fun h => aw6 h | exact fun h => aw7 h | exact fun h => aw8 h | exact fun h => bT h | exact fun h => bF h) : p := e h
end Go.Proofs.YtmgcnmdbhahhlaaGreat
namespace Go.Proofs.YtmgcnmdbhahhlaaGreat
open Go.ChangeShapes Go.WideShapes Go.RowKit


def mkVDisk (k : Int) (x : DDisk) : DDisk := ⟨mkL mkInt64S cntInt64S (k) x.kept, mkL mkEWrite cntEWrite (k + cntL cntInt64S x.kept) x.wait⟩
def cntVDisk (x : DDisk) : Int := cntL cntInt64S x.kept + cntL cntEWrite x.wait
theorem cntVDisk_nn (x : DDisk) : 0 ≤ cntVDisk x := by
  unfold cntVDisk
  have := cntL_nonneg (cnt := cntInt64S) cntInt64S_nn x.kept
  have := cntL_nonneg (cnt := cntEWrite) cntEWrite_nn x.wait
  omega
set_option maxHeartbeats 2000000 in
theorem lmarkDisk_w (x : DDisk) (k : Int) (h0 : 0 ≤ k) (hk : k + cntVDisk x ≤ 1000000000000) : WCall av 156 (.agg x.ds) k (.agg (mkVDisk k x).ds) (k + cntVDisk x) := by
  have n0 := cntL_nonneg (cnt := cntInt64S) cntInt64S_nn x.kept
  have n1 := cntL_nonneg (cnt := cntEWrite) cntEWrite_nn x.wait
  have hkk := hk
  unfold cntVDisk at hkk
  refine wcall_of av_ok Tryz.func156 rfl Tryz.call156 Tryz.ntmps156 (congrArg Array.toList Tryz.results156) fun S P u => ?_; conv => whnf
  repeat' (first | (refine aw0 ?_) | (refine awx ?_; conv => whnf) | (refine ACall.turn 9001 0 ([]) ([.sl (x.wait.map DWrite.ds)]) [] [u 1] (lmarkInt64SS_w x.kept (k) (by omega) (by omega)) rfl rfl rfl rfl rfl ?_; conv => whnf) | (refine ACall.turn 9001 1 ([.sl ((mkL mkInt64S cntInt64S (k) x.kept).map eIIw)]) ([]) [u 0] [] (lmarkWriteS_w x.wait (k + cntL cntInt64S x.kept) (by omega) (by omega)) rfl rfl rfl rfl rfl ?_; conv => whnf))
  refine And.intro ?_ rfl
  have e : k + cntL cntInt64S x.kept + cntL cntEWrite x.wait = k + cntVDisk x := by unfold cntVDisk; omega
  show AP.val (pI (k + cntL cntInt64S x.kept + cntL cntEWrite x.wait)) = AP.val (pI (k + cntVDisk x))
  rw [e]
def mkVTwo (k : Int) (x : DTwo) : DTwo := ⟨mkVDisk (k) x.a, mkVDisk (k + cntVDisk x.a) x.b⟩
def cntVTwo (x : DTwo) : Int := cntVDisk x.a + cntVDisk x.b
theorem cntVTwo_nn (x : DTwo) : 0 ≤ cntVTwo x := by
  unfold cntVTwo
  have := cntVDisk_nn x.a
  have := cntVDisk_nn x.b
  omega
set_option maxHeartbeats 2000000 in
theorem lmarkTwo_w (x : DTwo) (k : Int) (h0 : 0 ≤ k) (hk : k + cntVTwo x ≤ 1000000000000) : WCall av 151 (.agg x.ds) k (.agg (mkVTwo k x).ds) (k + cntVTwo x) := by
  have n0 := cntVDisk_nn x.a
  have n1 := cntVDisk_nn x.b
  have hkk := hk
  unfold cntVTwo at hkk
  refine wcall_of av_ok Tryz.func151 rfl Tryz.call151 Tryz.ntmps151 (congrArg Array.toList Tryz.results151) fun S P u => ?_; conv => whnf
  repeat' (first | (refine aw0 ?_) | (refine awx ?_; conv => whnf) | (refine ACall.turn 9001 0 ([]) (DDisk.ds x.b) [] [u 2, u 3] (lmarkDisk_w x.a (k) (by omega) (by omega)) rfl rfl rfl rfl rfl ?_; conv => whnf) | (refine ACall.turn 9001 2 (DDisk.ds (mkVDisk (k) x.a)) ([]) [u 0, u 1] [] (lmarkDisk_w x.b (k + cntVDisk x.a) (by omega) (by omega)) rfl rfl rfl rfl rfl ?_; conv => whnf))
  refine And.intro ?_ rfl
  have e : k + cntVDisk x.a + cntVDisk x.b = k + cntVTwo x := by unfold cntVTwo; omega
  show AP.val (pI (k + cntVDisk x.a + cntVDisk x.b)) = AP.val (pI (k + cntVTwo x))
  rw [e]
def mkVHead (k : Int) (x : DHead) : DHead := ⟨x.num, x.base, x.time, mkL mkEMark cntEMark (k) x.seen⟩
def cntVHead (x : DHead) : Int := cntL cntEMark x.seen
theorem cntVHead_nn (x : DHead) : 0 ≤ cntVHead x := by
  unfold cntVHead
  have := cntL_nonneg (cnt := cntEMark) cntEMark_nn x.seen
  omega
set_option maxHeartbeats 2000000 in
theorem lmarkHead_w (x : DHead) (k : Int) (h0 : 0 ≤ k) (hk : k + cntVHead x ≤ 1000000000000) : WCall av 152 (.agg x.ds) k (.agg (mkVHead k x).ds) (k + cntVHead x) := by
  have n0 := cntL_nonneg (cnt := cntEMark) cntEMark_nn x.seen
  have hkk := hk
  unfold cntVHead at hkk
  refine wcall_of av_ok Tryz.func152 rfl Tryz.call152 Tryz.ntmps152 (congrArg Array.toList Tryz.results152) fun S P u => ?_; conv => whnf
  repeat' (first | (refine aw0 ?_) | (refine awx ?_; conv => whnf) | (refine ACall.turn 9001 3 ([dI x.num] ++ [dI x.base] ++ [dI x.time]) ([]) [iv x.num, iv x.base, iv x.time] [] (lmarkMarkS_w x.seen (k) (by omega) (by omega)) rfl rfl rfl rfl rfl ?_; conv => whnf))
  refine And.intro ?_ rfl
  have e : k + cntL cntEMark x.seen = k + cntVHead x := by unfold cntVHead; omega
  show AP.val (pI (k + cntL cntEMark x.seen)) = AP.val (pI (k + cntVHead x))
  rw [e]
def mkVBook (k : Int) (x : DBook) : DBook := ⟨x.base, x.time, mkL mkEEntry cntEEntry (k) x.entries⟩
def cntVBook (x : DBook) : Int := cntL cntEEntry x.entries
theorem cntVBook_nn (x : DBook) : 0 ≤ cntVBook x := by
  unfold cntVBook
  have := cntL_nonneg (cnt := cntEEntry) cntEEntry_nn x.entries
  omega
set_option maxHeartbeats 2000000 in
theorem lmarkBook_w (x : DBook) (k : Int) (h0 : 0 ≤ k) (hk : k + cntVBook x ≤ 1000000000000) : WCall av 153 (.agg x.ds) k (.agg (mkVBook k x).ds) (k + cntVBook x) := by
  have n0 := cntL_nonneg (cnt := cntEEntry) cntEEntry_nn x.entries
  have hkk := hk
  unfold cntVBook at hkk
  refine wcall_of av_ok Tryz.func153 rfl Tryz.call153 Tryz.ntmps153 (congrArg Array.toList Tryz.results153) fun S P u => ?_; conv => whnf
  repeat' (first | (refine aw0 ?_) | (refine awx ?_; conv => whnf) | (refine ACall.turn 9001 2 ([dI x.base] ++ [dI x.time]) ([]) [iv x.base, iv x.time] [] (lmarkEntryS_w x.entries (k) (by omega) (by omega)) rfl rfl rfl rfl rfl ?_; conv => whnf))
  refine And.intro ?_ rfl
  have e : k + cntL cntEEntry x.entries = k + cntVBook x := by unfold cntVBook; omega
  show AP.val (pI (k + cntL cntEEntry x.entries)) = AP.val (pI (k + cntVBook x))
  rw [e]
def mkVLogNode (k : Int) (x : DLogNode) : DLogNode := ⟨mkVTwo (k) x.two, mkVHead (k + cntVTwo x.two) x.head, mkVHead (k + cntVTwo x.two + cntVHead x.head) x.nxt, x.more, mkVBook (k + cntVTwo x.two + cntVHead x.head + cntVHead x.nxt) x.book, mkL mkEMark cntEMark (k + cntVTwo x.two + cntVHead x.head + cntVHead x.nxt + cntVBook x.book) x.seen, x.durable, mkL mkEAck cntEAck (k + cntVTwo x.two + cntVHead x.head + cntVHead x.nxt + cntVBook x.book + cntL cntEMark x.seen) x.owe⟩
def cntVLogNode (x : DLogNode) : Int := cntVTwo x.two + cntVHead x.head + cntVHead x.nxt + cntVBook x.book + cntL cntEMark x.seen + cntL cntEAck x.owe
theorem cntVLogNode_nn (x : DLogNode) : 0 ≤ cntVLogNode x := by
  unfold cntVLogNode
  have := cntVTwo_nn x.two
  have := cntVHead_nn x.head
  have := cntVHead_nn x.nxt
  have := cntVBook_nn x.book
  have := cntL_nonneg (cnt := cntEMark) cntEMark_nn x.seen
  have := cntL_nonneg (cnt := cntEAck) cntEAck_nn x.owe
  omega
set_option maxHeartbeats 2000000 in
theorem lmarkLogNode_w (x : DLogNode) (k : Int) (h0 : 0 ≤ k) (hk : k + cntVLogNode x ≤ 1000000000000) : WCall av 56 (.agg x.ds) k (.agg (mkVLogNode k x).ds) (k + cntVLogNode x) := by
  have n0 := cntVTwo_nn x.two
  have n1 := cntVHead_nn x.head
  have n2 := cntVHead_nn x.nxt
  have n3 := cntVBook_nn x.book
  have n4 := cntL_nonneg (cnt := cntEMark) cntEMark_nn x.seen
  have n5 := cntL_nonneg (cnt := cntEAck) cntEAck_nn x.owe
  have hkk := hk
  unfold cntVLogNode at hkk
  refine wcall_of av_ok Tryz.func56 rfl Tryz.call56 Tryz.ntmps56 (congrArg Array.toList Tryz.results56) fun S P u => ?_; conv => whnf
  repeat' (first | (refine aw0 ?_) | (refine awx ?_; conv => whnf) | (refine ACall.turn 9001 0 ([]) (DHead.ds x.head ++ DHead.ds x.nxt ++ [dB x.more] ++ DBook.ds x.book ++ [.sl (x.seen.map DMark.ds)] ++ [dI x.durable] ++ [.sl (x.owe.map DAck.ds)]) [] [iv x.head.num, iv x.head.base, iv x.head.time, u 7, iv x.nxt.num, iv x.nxt.base, iv x.nxt.time, u 11, .bool x.more, iv x.book.base, iv x.book.time, u 15, u 16, iv x.durable, u 18] (lmarkTwo_w x.two (k) (by omega) (by omega)) rfl rfl rfl rfl rfl ?_; conv => whnf) | (refine ACall.turn 9001 4 (DTwo.ds (mkVTwo (k) x.two)) (DHead.ds x.nxt ++ [dB x.more] ++ DBook.ds x.book ++ [.sl (x.seen.map DMark.ds)] ++ [dI x.durable] ++ [.sl (x.owe.map DAck.ds)]) [u 0, u 1, u 2, u 3] [iv x.nxt.num, iv x.nxt.base, iv x.nxt.time, u 11, .bool x.more, iv x.book.base, iv x.book.time, u 15, u 16, iv x.durable, u 18] (lmarkHead_w x.head (k + cntVTwo x.two) (by omega) (by omega)) rfl rfl rfl rfl rfl ?_; conv => whnf) | (refine ACall.turn 9001 8 (DTwo.ds (mkVTwo (k) x.two) ++ DHead.ds (mkVHead (k + cntVTwo x.two) x.head)) ([dB x.more] ++ DBook.ds x.book ++ [.sl (x.seen.map DMark.ds)] ++ [dI x.durable] ++ [.sl (x.owe.map DAck.ds)]) [u 0, u 1, u 2, u 3, iv x.head.num, iv x.head.base, iv x.head.time, u 7] [.bool x.more, iv x.book.base, iv x.book.time, u 15, u 16, iv x.durable, u 18] (lmarkHead_w x.nxt (k + cntVTwo x.two + cntVHead x.head) (by omega) (by omega)) rfl rfl rfl rfl rfl ?_; conv => whnf) | (refine ACall.turn 9001 13 (DTwo.ds (mkVTwo (k) x.two) ++ DHead.ds (mkVHead (k + cntVTwo x.two) x.head) ++ DHead.ds (mkVHead (k + cntVTwo x.two + cntVHead x.head) x.nxt) ++ [dB x.more]) ([.sl (x.seen.map DMark.ds)] ++ [dI x.durable] ++ [.sl (x.owe.map DAck.ds)]) [u 0, u 1, u 2, u 3, iv x.head.num, iv x.head.base, iv x.head.time, u 7, iv x.nxt.num, iv x.nxt.base, iv x.nxt.time, u 11, .bool x.more] [u 16, iv x.durable, u 18] (lmarkBook_w x.book (k + cntVTwo x.two + cntVHead x.head + cntVHead x.nxt) (by omega) (by omega)) rfl rfl rfl rfl rfl ?_; conv => whnf) | (refine ACall.turn 9001 16 (DTwo.ds (mkVTwo (k) x.two) ++ DHead.ds (mkVHead (k + cntVTwo x.two) x.head) ++ DHead.ds (mkVHead (k + cntVTwo x.two + cntVHead x.head) x.nxt) ++ [dB x.more] ++ DBook.ds (mkVBook (k + cntVTwo x.two + cntVHead x.head + cntVHead x.nxt) x.book)) ([dI x.durable] ++ [.sl (x.owe.map DAck.ds)]) [u 0, u 1, u 2, u 3, iv x.head.num, iv x.head.base, iv x.head.time, u 7, iv x.nxt.num, iv x.nxt.base, iv x.nxt.time, u 11, .bool x.more, iv x.book.base, iv x.book.time, u 15] [iv x.durable, u 18] (lmarkMarkS_w x.seen (k + cntVTwo x.two + cntVHead x.head + cntVHead x.nxt + cntVBook x.book) (by omega) (by omega)) rfl rfl rfl rfl rfl ?_; conv => whnf) | (refine ACall.turn 9001 18 (DTwo.ds (mkVTwo (k) x.two) ++ DHead.ds (mkVHead (k + cntVTwo x.two) x.head) ++ DHead.ds (mkVHead (k + cntVTwo x.two + cntVHead x.head) x.nxt) ++ [dB x.more] ++ DBook.ds (mkVBook (k + cntVTwo x.two + cntVHead x.head + cntVHead x.nxt) x.book) ++ [.sl ((mkL mkEMark cntEMark (k + cntVTwo x.two + cntVHead x.head + cntVHead x.nxt + cntVBook x.book) x.seen).map DMark.ds)] ++ [dI x.durable]) ([]) [u 0, u 1, u 2, u 3, iv x.head.num, iv x.head.base, iv x.head.time, u 7, iv x.nxt.num, iv x.nxt.base, iv x.nxt.time, u 11, .bool x.more, iv x.book.base, iv x.book.time, u 15, u 16, iv x.durable] [] (lmarkAckS_w x.owe (k + cntVTwo x.two + cntVHead x.head + cntVHead x.nxt + cntVBook x.book + cntL cntEMark x.seen) (by omega) (by omega)) rfl rfl rfl rfl rfl ?_; conv => whnf))
  refine And.intro ?_ rfl
  have e : k + cntVTwo x.two + cntVHead x.head + cntVHead x.nxt + cntVBook x.book + cntL cntEMark x.seen + cntL cntEAck x.owe = k + cntVLogNode x := by unfold cntVLogNode; omega
  show AP.val (pI (k + cntVTwo x.two + cntVHead x.head + cntVHead x.nxt + cntVBook x.book + cntL cntEMark x.seen + cntL cntEAck x.owe)) = AP.val (pI (k + cntVLogNode x))
  rw [e]
def mkVState (k : Int) (x : DState) : DState := ⟨x.index, x.time, mkL mkEPair cntEPair (k) x.pairs, mkL mkEJob cntEJob (k + cntL cntEPair x.pairs) x.jobs, x.lease⟩
def cntVState (x : DState) : Int := cntL cntEPair x.pairs + cntL cntEJob x.jobs
theorem cntVState_nn (x : DState) : 0 ≤ cntVState x := by
  unfold cntVState
  have := cntL_nonneg (cnt := cntEPair) cntEPair_nn x.pairs
  have := cntL_nonneg (cnt := cntEJob) cntEJob_nn x.jobs
  omega
set_option maxHeartbeats 2000000 in
theorem lmarkState_w (x : DState) (k : Int) (h0 : 0 ≤ k) (hk : k + cntVState x ≤ 1000000000000) : WCall av 157 (.agg x.ds) k (.agg (mkVState k x).ds) (k + cntVState x) := by
  have n0 := cntL_nonneg (cnt := cntEPair) cntEPair_nn x.pairs
  have n1 := cntL_nonneg (cnt := cntEJob) cntEJob_nn x.jobs
  have hkk := hk
  unfold cntVState at hkk
  refine wcall_of av_ok Tryz.func157 rfl Tryz.call157 Tryz.ntmps157 (congrArg Array.toList Tryz.results157) fun S P u => ?_; conv => whnf
  repeat' (first | (refine aw0 ?_) | (refine awx ?_; conv => whnf) | (refine ACall.turn 9001 2 ([dI x.index] ++ [dI x.time]) ([.sl (x.jobs.map DJob.ds)] ++ DLease.ds x.lease) [iv x.index, iv x.time] [u 3, iv x.lease.holder, iv x.lease.epoch, iv x.lease.til] (lmarkPairS_w x.pairs (k) (by omega) (by omega)) rfl rfl rfl rfl rfl ?_; conv => whnf) | (refine ACall.turn 9001 3 ([dI x.index] ++ [dI x.time] ++ [.sl ((mkL mkEPair cntEPair (k) x.pairs).map DPair.ds)]) (DLease.ds x.lease) [iv x.index, iv x.time, u 2] [iv x.lease.holder, iv x.lease.epoch, iv x.lease.til] (lmarkJobS_w x.jobs (k + cntL cntEPair x.pairs) (by omega) (by omega)) rfl rfl rfl rfl rfl ?_; conv => whnf))
  refine And.intro ?_ rfl
  have e : k + cntL cntEPair x.pairs + cntL cntEJob x.jobs = k + cntVState x := by unfold cntVState; omega
  show AP.val (pI (k + cntL cntEPair x.pairs + cntL cntEJob x.jobs)) = AP.val (pI (k + cntVState x))
  rw [e]
def mkVStore (k : Int) (x : DStore) : DStore := ⟨mkVDisk (k) x.disk, mkVState (k + cntVDisk x.disk) x.state, x.num, x.last, x.busy⟩
def cntVStore (x : DStore) : Int := cntVDisk x.disk + cntVState x.state
theorem cntVStore_nn (x : DStore) : 0 ≤ cntVStore x := by
  unfold cntVStore
  have := cntVDisk_nn x.disk
  have := cntVState_nn x.state
  omega
set_option maxHeartbeats 2000000 in
theorem lmarkStore_w (x : DStore) (k : Int) (h0 : 0 ≤ k) (hk : k + cntVStore x ≤ 1000000000000) : WCall av 57 (.agg x.ds) k (.agg (mkVStore k x).ds) (k + cntVStore x) := by
  have n0 := cntVDisk_nn x.disk
  have n1 := cntVState_nn x.state
  have hkk := hk
  unfold cntVStore at hkk
  refine wcall_of av_ok Tryz.func57 rfl Tryz.call57 Tryz.ntmps57 (congrArg Array.toList Tryz.results57) fun S P u => ?_; conv => whnf
  repeat' (first | (refine aw0 ?_) | (refine awx ?_; conv => whnf) | (refine ACall.turn 9001 0 ([]) (DState.ds x.state ++ [dI x.num] ++ [dI x.last] ++ [dI x.busy]) [] [iv x.state.index, iv x.state.time, u 4, u 5, iv x.state.lease.holder, iv x.state.lease.epoch, iv x.state.lease.til, iv x.num, iv x.last, iv x.busy] (lmarkDisk_w x.disk (k) (by omega) (by omega)) rfl rfl rfl rfl rfl ?_; conv => whnf) | (refine ACall.turn 9001 2 (DDisk.ds (mkVDisk (k) x.disk)) ([dI x.num] ++ [dI x.last] ++ [dI x.busy]) [u 0, u 1] [iv x.num, iv x.last, iv x.busy] (lmarkState_w x.state (k + cntVDisk x.disk) (by omega) (by omega)) rfl rfl rfl rfl rfl ?_; conv => whnf))
  refine And.intro ?_ rfl
  have e : k + cntVDisk x.disk + cntVState x.state = k + cntVStore x := by unfold cntVStore; omega
  show AP.val (pI (k + cntVDisk x.disk + cntVState x.state)) = AP.val (pI (k + cntVStore x))
  rw [e]
def mkVJobs (k : Int) (x : DJobs) : DJobs := ⟨x.index, x.time, x.holder, x.epoch, x.til, mkL mkEDue cntEDue (k) x.opens⟩
def cntVJobs (x : DJobs) : Int := cntL cntEDue x.opens
theorem cntVJobs_nn (x : DJobs) : 0 ≤ cntVJobs x := by
  unfold cntVJobs
  have := cntL_nonneg (cnt := cntEDue) cntEDue_nn x.opens
  omega
set_option maxHeartbeats 2000000 in
theorem lmarkJobs_w (x : DJobs) (k : Int) (h0 : 0 ≤ k) (hk : k + cntVJobs x ≤ 1000000000000) : WCall av 237 (.agg x.ds) k (.agg (mkVJobs k x).ds) (k + cntVJobs x) := by
  have n0 := cntL_nonneg (cnt := cntEDue) cntEDue_nn x.opens
  have hkk := hk
  unfold cntVJobs at hkk
  refine wcall_of av_ok Tryz.func237 rfl Tryz.call237 Tryz.ntmps237 (congrArg Array.toList Tryz.results237) fun S P u => ?_; conv => whnf
  repeat' (first | (refine aw0 ?_) | (refine awx ?_; conv => whnf) | (refine ACall.turn 9001 5 ([dI x.index] ++ [dI x.time] ++ [dI x.holder] ++ [dI x.epoch] ++ [dI x.til]) ([]) [iv x.index, iv x.time, iv x.holder, iv x.epoch, iv x.til] [] (lmarkDueS_w x.opens (k) (by omega) (by omega)) rfl rfl rfl rfl rfl ?_; conv => whnf))
  refine And.intro ?_ rfl
  have e : k + cntL cntEDue x.opens = k + cntVJobs x := by unfold cntVJobs; omega
  show AP.val (pI (k + cntL cntEDue x.opens)) = AP.val (pI (k + cntVJobs x))
  rw [e]
def mkVView (k : Int) (x : DView) : DView := ⟨mkVJobs (k) x.jobs⟩
def cntVView (x : DView) : Int := cntVJobs x.jobs
theorem cntVView_nn (x : DView) : 0 ≤ cntVView x := by
  unfold cntVView
  have := cntVJobs_nn x.jobs
  omega
set_option maxHeartbeats 2000000 in
theorem lmarkView_w (x : DView) (k : Int) (h0 : 0 ≤ k) (hk : k + cntVView x ≤ 1000000000000) : WCall av 158 (.agg x.ds) k (.agg (mkVView k x).ds) (k + cntVView x) := by
  have n0 := cntVJobs_nn x.jobs
  have hkk := hk
  unfold cntVView at hkk
  refine wcall_of av_ok Tryz.func158 rfl Tryz.call158 Tryz.ntmps158 (congrArg Array.toList Tryz.results158) fun S P u => ?_; conv => whnf
  repeat' (first | (refine aw0 ?_) | (refine awx ?_; conv => whnf) | (refine ACall.turn 9001 0 ([]) ([]) [] [] (lmarkJobs_w x.jobs (k) (by omega) (by omega)) rfl rfl rfl rfl rfl ?_; conv => whnf))
  refine And.intro ?_ rfl
  have e : k + cntVJobs x.jobs = k + cntVView x := by unfold cntVView; omega
  show AP.val (pI (k + cntVJobs x.jobs)) = AP.val (pI (k + cntVView x))
  rw [e]
def mkVSched (k : Int) (x : DSched) : DSched := ⟨x.id, x.seq, mkVView (k) x.view, x.busy, x.op, x.index⟩
def cntVSched (x : DSched) : Int := cntVView x.view
theorem cntVSched_nn (x : DSched) : 0 ≤ cntVSched x := by
  unfold cntVSched
  have := cntVView_nn x.view
  omega
set_option maxHeartbeats 2000000 in
theorem lmarkSched_w (x : DSched) (k : Int) (h0 : 0 ≤ k) (hk : k + cntVSched x ≤ 1000000000000) : WCall av 58 (.agg x.ds) k (.agg (mkVSched k x).ds) (k + cntVSched x) := by
  have n0 := cntVView_nn x.view
  have hkk := hk
  unfold cntVSched at hkk
  refine wcall_of av_ok Tryz.func58 rfl Tryz.call58 Tryz.ntmps58 (congrArg Array.toList Tryz.results58) fun S P u => ?_; conv => whnf
  repeat' (first | (refine aw0 ?_) | (refine awx ?_; conv => whnf) | (refine ACall.turn 9001 2 ([dI x.id] ++ [dI x.seq]) ([dB x.busy] ++ DOp.ds x.op ++ [dI x.index]) [iv x.id, iv x.seq] [.bool x.busy, iv x.op.kind, iv x.op.a, iv x.op.b, iv x.op.c, iv x.op.d, iv x.index] (lmarkView_w x.view (k) (by omega) (by omega)) rfl rfl rfl rfl rfl ?_; conv => whnf))
  refine And.intro ?_ rfl
  have e : k + cntVView x.view = k + cntVSched x := by unfold cntVSched; omega
  show AP.val (pI (k + cntVView x.view)) = AP.val (pI (k + cntVSched x))
  rw [e]
def mkVClient (k : Int) (x : DClient) : DClient := ⟨x.id, mkL mkEWant cntEWant (k) x.todo, mkL mkEGot cntEGot (k + cntL cntEWant x.todo) x.gots, x.last⟩
def cntVClient (x : DClient) : Int := cntL cntEWant x.todo + cntL cntEGot x.gots
theorem cntVClient_nn (x : DClient) : 0 ≤ cntVClient x := by
  unfold cntVClient
  have := cntL_nonneg (cnt := cntEWant) cntEWant_nn x.todo
  have := cntL_nonneg (cnt := cntEGot) cntEGot_nn x.gots
  omega
set_option maxHeartbeats 2000000 in
theorem lmarkClient_w (x : DClient) (k : Int) (h0 : 0 ≤ k) (hk : k + cntVClient x ≤ 1000000000000) : WCall av 59 (.agg x.ds) k (.agg (mkVClient k x).ds) (k + cntVClient x) := by
  have n0 := cntL_nonneg (cnt := cntEWant) cntEWant_nn x.todo
  have n1 := cntL_nonneg (cnt := cntEGot) cntEGot_nn x.gots
  have hkk := hk
  unfold cntVClient at hkk
  refine wcall_of av_ok Tryz.func59 rfl Tryz.call59 Tryz.ntmps59 (congrArg Array.toList Tryz.results59) fun S P u => ?_; conv => whnf
  repeat' (first | (refine aw0 ?_) | (refine awx ?_; conv => whnf) | (refine ACall.turn 9001 1 ([dI x.id]) ([.sl (x.gots.map DGot.ds)] ++ [dI x.last]) [iv x.id] [u 2, iv x.last] (lmarkWantS_w x.todo (k) (by omega) (by omega)) rfl rfl rfl rfl rfl ?_; conv => whnf) | (refine ACall.turn 9001 2 ([dI x.id] ++ [.sl ((mkL mkEWant cntEWant (k) x.todo).map DWant.ds)]) ([dI x.last]) [iv x.id, u 1] [iv x.last] (lmarkGotS_w x.gots (k + cntL cntEWant x.todo) (by omega) (by omega)) rfl rfl rfl rfl rfl ?_; conv => whnf))
  refine And.intro ?_ rfl
  have e : k + cntL cntEWant x.todo + cntL cntEGot x.gots = k + cntVClient x := by unfold cntVClient; omega
  show AP.val (pI (k + cntL cntEWant x.todo + cntL cntEGot x.gots)) = AP.val (pI (k + cntVClient x))
  rw [e]
def mkVNet (k : Int) (x : DNet) : DNet := ⟨mkL mkEMsg cntEMsg (k) x.flight, mkL mkELink cntELink (k + cntL cntEMsg x.flight) x.cuts⟩
def cntVNet (x : DNet) : Int := cntL cntEMsg x.flight + cntL cntELink x.cuts
theorem cntVNet_nn (x : DNet) : 0 ≤ cntVNet x := by
  unfold cntVNet
  have := cntL_nonneg (cnt := cntEMsg) cntEMsg_nn x.flight
  have := cntL_nonneg (cnt := cntELink) cntELink_nn x.cuts
  omega
set_option maxHeartbeats 2000000 in
theorem lmarkNet_w (x : DNet) (k : Int) (h0 : 0 ≤ k) (hk : k + cntVNet x ≤ 1000000000000) : WCall av 60 (.agg x.ds) k (.agg (mkVNet k x).ds) (k + cntVNet x) := by
  have n0 := cntL_nonneg (cnt := cntEMsg) cntEMsg_nn x.flight
  have n1 := cntL_nonneg (cnt := cntELink) cntELink_nn x.cuts
  have hkk := hk
  unfold cntVNet at hkk
  refine wcall_of av_ok Tryz.func60 rfl Tryz.call60 Tryz.ntmps60 (congrArg Array.toList Tryz.results60) fun S P u => ?_; conv => whnf
  repeat' (first | (refine aw0 ?_) | (refine awx ?_; conv => whnf) | (refine ACall.turn 9001 0 ([]) ([.sl (x.cuts.map DLink.ds)]) [] [u 1] (lmarkMsgS_w x.flight (k) (by omega) (by omega)) rfl rfl rfl rfl rfl ?_; conv => whnf) | (refine ACall.turn 9001 1 ([.sl ((mkL mkEMsg cntEMsg (k) x.flight).map DMsg.ds)]) ([]) [u 0] [] (lmarkLinkS_w x.cuts (k + cntL cntEMsg x.flight) (by omega) (by omega)) rfl rfl rfl rfl rfl ?_; conv => whnf))
  refine And.intro ?_ rfl
  have e : k + cntL cntEMsg x.flight + cntL cntELink x.cuts = k + cntVNet x := by unfold cntVNet; omega
  show AP.val (pI (k + cntL cntEMsg x.flight + cntL cntELink x.cuts)) = AP.val (pI (k + cntVNet x))
  rw [e]
def mkVWorld (k : Int) (x : DWorld) : DWorld := ⟨mkVLogNode (k) x.log, mkVStore (k + cntVLogNode x.log) x.store, mkVSched (k + cntVLogNode x.log + cntVStore x.store) x.left, mkVSched (k + cntVLogNode x.log + cntVStore x.store + cntVSched x.left) x.right, mkVClient (k + cntVLogNode x.log + cntVStore x.store + cntVSched x.left + cntVSched x.right) x.ann, mkVClient (k + cntVLogNode x.log + cntVStore x.store + cntVSched x.left + cntVSched x.right + cntVClient x.ann) x.bob, mkVNet (k + cntVLogNode x.log + cntVStore x.store + cntVSched x.left + cntVSched x.right + cntVClient x.ann + cntVClient x.bob) x.net, mkL mI cI (k + cntVLogNode x.log + cntVStore x.store + cntVSched x.left + cntVSched x.right + cntVClient x.ann + cntVClient x.bob + cntVNet x.net) x.clocks, mkL mB cI (k + cntVLogNode x.log + cntVStore x.store + cntVSched x.left + cntVSched x.right + cntVClient x.ann + cntVClient x.bob + cntVNet x.net + cntL cI x.clocks) x.up⟩
def cntVWorld (x : DWorld) : Int := cntVLogNode x.log + cntVStore x.store + cntVSched x.left + cntVSched x.right + cntVClient x.ann + cntVClient x.bob + cntVNet x.net + cntL cI x.clocks + cntL cI x.up
theorem cntVWorld_nn (x : DWorld) : 0 ≤ cntVWorld x := by
  unfold cntVWorld
  have := cntVLogNode_nn x.log
  have := cntVStore_nn x.store
  have := cntVSched_nn x.left
  have := cntVSched_nn x.right
  have := cntVClient_nn x.ann
  have := cntVClient_nn x.bob
  have := cntVNet_nn x.net
  have := cntL_nonneg (cnt := cI) cI_nn x.clocks
  have := cntL_nonneg (cnt := cI) cI_nn x.up
  omega
set_option maxHeartbeats 2000000 in
theorem lmarkWorld_w (x : DWorld) (k : Int) (h0 : 0 ≤ k) (hk : k + cntVWorld x ≤ 1000000000000) : WCall av 15 (.agg x.ds) k (.agg (mkVWorld k x).ds) (k + cntVWorld x) := by
  have n0 := cntVLogNode_nn x.log
  have n1 := cntVStore_nn x.store
  have n2 := cntVSched_nn x.left
  have n3 := cntVSched_nn x.right
  have n4 := cntVClient_nn x.ann
  have n5 := cntVClient_nn x.bob
  have n6 := cntVNet_nn x.net
  have n7 := cntL_nonneg (cnt := cI) cI_nn x.clocks
  have n8 := cntL_nonneg (cnt := cI) cI_nn x.up
  have hkk := hk
  unfold cntVWorld at hkk
  refine wcall_of av_ok Tryz.func15 rfl Tryz.call15 Tryz.ntmps15 (congrArg Array.toList Tryz.results15) fun S P u => ?_; conv => whnf
  repeat' (first | (refine aw0 ?_) | (refine awx ?_; conv => whnf) | (refine ACall.turn 9001 0 ([]) (DStore.ds x.store ++ DSched.ds x.left ++ DSched.ds x.right ++ DClient.ds x.ann ++ DClient.ds x.bob ++ DNet.ds x.net ++ [.sl (x.clocks.map eI)] ++ [.sl (x.up.map eB)]) [] [u 19, u 20, iv x.store.state.index, iv x.store.state.time, u 23, u 24, iv x.store.state.lease.holder, iv x.store.state.lease.epoch, iv x.store.state.lease.til, iv x.store.num, iv x.store.last, iv x.store.busy, iv x.left.id, iv x.left.seq, iv x.left.view.jobs.index, iv x.left.view.jobs.time, iv x.left.view.jobs.holder, iv x.left.view.jobs.epoch, iv x.left.view.jobs.til, u 38, .bool x.left.busy, iv x.left.op.kind, iv x.left.op.a, iv x.left.op.b, iv x.left.op.c, iv x.left.op.d, iv x.left.index, iv x.right.id, iv x.right.seq, iv x.right.view.jobs.index, iv x.right.view.jobs.time, iv x.right.view.jobs.holder, iv x.right.view.jobs.epoch, iv x.right.view.jobs.til, u 53, .bool x.right.busy, iv x.right.op.kind, iv x.right.op.a, iv x.right.op.b, iv x.right.op.c, iv x.right.op.d, iv x.right.index, iv x.ann.id, u 62, u 63, iv x.ann.last, iv x.bob.id, u 66, u 67, iv x.bob.last, u 69, u 70, u 71, u 72] (lmarkLogNode_w x.log (k) (by omega) (by omega)) rfl rfl rfl rfl rfl ?_; conv => whnf) | (refine ACall.turn 9001 19 (DLogNode.ds (mkVLogNode (k) x.log)) (DSched.ds x.left ++ DSched.ds x.right ++ DClient.ds x.ann ++ DClient.ds x.bob ++ DNet.ds x.net ++ [.sl (x.clocks.map eI)] ++ [.sl (x.up.map eB)]) [u 0, u 1, u 2, u 3, iv x.log.head.num, iv x.log.head.base, iv x.log.head.time, u 7, iv x.log.nxt.num, iv x.log.nxt.base, iv x.log.nxt.time, u 11, .bool x.log.more, iv x.log.book.base, iv x.log.book.time, u 15, u 16, iv x.log.durable, u 18] [iv x.left.id, iv x.left.seq, iv x.left.view.jobs.index, iv x.left.view.jobs.time, iv x.left.view.jobs.holder, iv x.left.view.jobs.epoch, iv x.left.view.jobs.til, u 38, .bool x.left.busy, iv x.left.op.kind, iv x.left.op.a, iv x.left.op.b, iv x.left.op.c, iv x.left.op.d, iv x.left.index, iv x.right.id, iv x.right.seq, iv x.right.view.jobs.index, iv x.right.view.jobs.time, iv x.right.view.jobs.holder, iv x.right.view.jobs.epoch, iv x.right.view.jobs.til, u 53, .bool x.right.busy, iv x.right.op.kind, iv x.right.op.a, iv x.right.op.b, iv x.right.op.c, iv x.right.op.d, iv x.right.index, iv x.ann.id, u 62, u 63, iv x.ann.last, iv x.bob.id, u 66, u 67, iv x.bob.last, u 69, u 70, u 71, u 72] (lmarkStore_w x.store (k + cntVLogNode x.log) (by omega) (by omega)) rfl rfl rfl rfl rfl ?_; conv => whnf) | (refine ACall.turn 9001 31 (DLogNode.ds (mkVLogNode (k) x.log) ++ DStore.ds (mkVStore (k + cntVLogNode x.log) x.store)) (DSched.ds x.right ++ DClient.ds x.ann ++ DClient.ds x.bob ++ DNet.ds x.net ++ [.sl (x.clocks.map eI)] ++ [.sl (x.up.map eB)]) [u 0, u 1, u 2, u 3, iv x.log.head.num, iv x.log.head.base, iv x.log.head.time, u 7, iv x.log.nxt.num, iv x.log.nxt.base, iv x.log.nxt.time, u 11, .bool x.log.more, iv x.log.book.base, iv x.log.book.time, u 15, u 16, iv x.log.durable, u 18, u 19, u 20, iv x.store.state.index, iv x.store.state.time, u 23, u 24, iv x.store.state.lease.holder, iv x.store.state.lease.epoch, iv x.store.state.lease.til, iv x.store.num, iv x.store.last, iv x.store.busy] [iv x.right.id, iv x.right.seq, iv x.right.view.jobs.index, iv x.right.view.jobs.time, iv x.right.view.jobs.holder, iv x.right.view.jobs.epoch, iv x.right.view.jobs.til, u 53, .bool x.right.busy, iv x.right.op.kind, iv x.right.op.a, iv x.right.op.b, iv x.right.op.c, iv x.right.op.d, iv x.right.index, iv x.ann.id, u 62, u 63, iv x.ann.last, iv x.bob.id, u 66, u 67, iv x.bob.last, u 69, u 70, u 71, u 72] (lmarkSched_w x.left (k + cntVLogNode x.log + cntVStore x.store) (by omega) (by omega)) rfl rfl rfl rfl rfl ?_; conv => whnf) | (refine ACall.turn 9001 46 (DLogNode.ds (mkVLogNode (k) x.log) ++ DStore.ds (mkVStore (k + cntVLogNode x.log) x.store) ++ DSched.ds (mkVSched (k + cntVLogNode x.log + cntVStore x.store) x.left)) (DClient.ds x.ann ++ DClient.ds x.bob ++ DNet.ds x.net ++ [.sl (x.clocks.map eI)] ++ [.sl (x.up.map eB)]) [u 0, u 1, u 2, u 3, iv x.log.head.num, iv x.log.head.base, iv x.log.head.time, u 7, iv x.log.nxt.num, iv x.log.nxt.base, iv x.log.nxt.time, u 11, .bool x.log.more, iv x.log.book.base, iv x.log.book.time, u 15, u 16, iv x.log.durable, u 18, u 19, u 20, iv x.store.state.index, iv x.store.state.time, u 23, u 24, iv x.store.state.lease.holder, iv x.store.state.lease.epoch, iv x.store.state.lease.til, iv x.store.num, iv x.store.last, iv x.store.busy, iv x.left.id, iv x.left.seq, iv x.left.view.jobs.index, iv x.left.view.jobs.time, iv x.left.view.jobs.holder, iv x.left.view.jobs.epoch, iv x.left.view.jobs.til, u 38, .bool x.left.busy, iv x.left.op.kind, iv x.left.op.a, iv x.left.op.b, iv x.left.op.c, iv x.left.op.d, iv x.left.index] [iv x.ann.id, u 62, u 63, iv x.ann.last, iv x.bob.id, u 66, u 67, iv x.bob.last, u 69, u 70, u 71, u 72] (lmarkSched_w x.right (k + cntVLogNode x.log + cntVStore x.store + cntVSched x.left) (by omega) (by omega)) rfl rfl rfl rfl rfl ?_; conv => whnf) | (refine ACall.turn 9001 61 (DLogNode.ds (mkVLogNode (k) x.log) ++ DStore.ds (mkVStore (k + cntVLogNode x.log) x.store) ++ DSched.ds (mkVSched (k + cntVLogNode x.log + cntVStore x.store) x.left) ++ DSched.ds (mkVSched (k + cntVLogNode x.log + cntVStore x.store + cntVSched x.left) x.right)) (DClient.ds x.bob ++ DNet.ds x.net ++ [.sl (x.clocks.map eI)] ++ [.sl (x.up.map eB)]) [u 0, u 1, u 2, u 3, iv x.log.head.num, iv x.log.head.base, iv x.log.head.time, u 7, iv x.log.nxt.num, iv x.log.nxt.base, iv x.log.nxt.time, u 11, .bool x.log.more, iv x.log.book.base, iv x.log.book.time, u 15, u 16, iv x.log.durable, u 18, u 19, u 20, iv x.store.state.index, iv x.store.state.time, u 23, u 24, iv x.store.state.lease.holder, iv x.store.state.lease.epoch, iv x.store.state.lease.til, iv x.store.num, iv x.store.last, iv x.store.busy, iv x.left.id, iv x.left.seq, iv x.left.view.jobs.index, iv x.left.view.jobs.time, iv x.left.view.jobs.holder, iv x.left.view.jobs.epoch, iv x.left.view.jobs.til, u 38, .bool x.left.busy, iv x.left.op.kind, iv x.left.op.a, iv x.left.op.b, iv x.left.op.c, iv x.left.op.d, iv x.left.index, iv x.right.id, iv x.right.seq, iv x.right.view.jobs.index, iv x.right.view.jobs.time, iv x.right.view.jobs.holder, iv x.right.view.jobs.epoch, iv x.right.view.jobs.til, u 53, .bool x.right.busy, iv x.right.op.kind, iv x.right.op.a, iv x.right.op.b, iv x.right.op.c, iv x.right.op.d, iv x.right.index] [iv x.bob.id, u 66, u 67, iv x.bob.last, u 69, u 70, u 71, u 72] (lmarkClient_w x.ann (k + cntVLogNode x.log + cntVStore x.store + cntVSched x.left + cntVSched x.right) (by omega) (by omega)) rfl rfl rfl rfl rfl ?_; conv => whnf) | (refine ACall.turn 9001 65 (DLogNode.ds (mkVLogNode (k) x.log) ++ DStore.ds (mkVStore (k + cntVLogNode x.log) x.store) ++ DSched.ds (mkVSched (k + cntVLogNode x.log + cntVStore x.store) x.left) ++ DSched.ds (mkVSched (k + cntVLogNode x.log + cntVStore x.store + cntVSched x.left) x.right) ++ DClient.ds (mkVClient (k + cntVLogNode x.log + cntVStore x.store + cntVSched x.left + cntVSched x.right) x.ann)) (DNet.ds x.net ++ [.sl (x.clocks.map eI)] ++ [.sl (x.up.map eB)]) [u 0, u 1, u 2, u 3, iv x.log.head.num, iv x.log.head.base, iv x.log.head.time, u 7, iv x.log.nxt.num, iv x.log.nxt.base, iv x.log.nxt.time, u 11, .bool x.log.more, iv x.log.book.base, iv x.log.book.time, u 15, u 16, iv x.log.durable, u 18, u 19, u 20, iv x.store.state.index, iv x.store.state.time, u 23, u 24, iv x.store.state.lease.holder, iv x.store.state.lease.epoch, iv x.store.state.lease.til, iv x.store.num, iv x.store.last, iv x.store.busy, iv x.left.id, iv x.left.seq, iv x.left.view.jobs.index, iv x.left.view.jobs.time, iv x.left.view.jobs.holder, iv x.left.view.jobs.epoch, iv x.left.view.jobs.til, u 38, .bool x.left.busy, iv x.left.op.kind, iv x.left.op.a, iv x.left.op.b, iv x.left.op.c, iv x.left.op.d, iv x.left.index, iv x.right.id, iv x.right.seq, iv x.right.view.jobs.index, iv x.right.view.jobs.time, iv x.right.view.jobs.holder, iv x.right.view.jobs.epoch, iv x.right.view.jobs.til, u 53, .bool x.right.busy, iv x.right.op.kind, iv x.right.op.a, iv x.right.op.b, iv x.right.op.c, iv x.right.op.d, iv x.right.index, iv x.ann.id, u 62, u 63, iv x.ann.last] [u 69, u 70, u 71, u 72] (lmarkClient_w x.bob (k + cntVLogNode x.log + cntVStore x.store + cntVSched x.left + cntVSched x.right + cntVClient x.ann) (by omega) (by omega)) rfl rfl rfl rfl rfl ?_; conv => whnf) | (refine ACall.turn 9001 69 (DLogNode.ds (mkVLogNode (k) x.log) ++ DStore.ds (mkVStore (k + cntVLogNode x.log) x.store) ++ DSched.ds (mkVSched (k + cntVLogNode x.log + cntVStore x.store) x.left) ++ DSched.ds (mkVSched (k + cntVLogNode x.log + cntVStore x.store + cntVSched x.left) x.right) ++ DClient.ds (mkVClient (k + cntVLogNode x.log + cntVStore x.store + cntVSched x.left + cntVSched x.right) x.ann) ++ DClient.ds (mkVClient (k + cntVLogNode x.log + cntVStore x.store + cntVSched x.left + cntVSched x.right + cntVClient x.ann) x.bob)) ([.sl (x.clocks.map eI)] ++ [.sl (x.up.map eB)]) [u 0, u 1, u 2, u 3, iv x.log.head.num, iv x.log.head.base, iv x.log.head.time, u 7, iv x.log.nxt.num, iv x.log.nxt.base, iv x.log.nxt.time, u 11, .bool x.log.more, iv x.log.book.base, iv x.log.book.time, u 15, u 16, iv x.log.durable, u 18, u 19, u 20, iv x.store.state.index, iv x.store.state.time, u 23, u 24, iv x.store.state.lease.holder, iv x.store.state.lease.epoch, iv x.store.state.lease.til, iv x.store.num, iv x.store.last, iv x.store.busy, iv x.left.id, iv x.left.seq, iv x.left.view.jobs.index, iv x.left.view.jobs.time, iv x.left.view.jobs.holder, iv x.left.view.jobs.epoch, iv x.left.view.jobs.til, u 38, .bool x.left.busy, iv x.left.op.kind, iv x.left.op.a, iv x.left.op.b, iv x.left.op.c, iv x.left.op.d, iv x.left.index, iv x.right.id, iv x.right.seq, iv x.right.view.jobs.index, iv x.right.view.jobs.time, iv x.right.view.jobs.holder, iv x.right.view.jobs.epoch, iv x.right.view.jobs.til, u 53, .bool x.right.busy, iv x.right.op.kind, iv x.right.op.a, iv x.right.op.b, iv x.right.op.c, iv x.right.op.d, iv x.right.index, iv x.ann.id, u 62, u 63, iv x.ann.last, iv x.bob.id, u 66, u 67, iv x.bob.last] [u 71, u 72] (lmarkNet_w x.net (k + cntVLogNode x.log + cntVStore x.store + cntVSched x.left + cntVSched x.right + cntVClient x.ann + cntVClient x.bob) (by omega) (by omega)) rfl rfl rfl rfl rfl ?_; conv => whnf) | (refine ACall.turn 9001 71 (DLogNode.ds (mkVLogNode (k) x.log) ++ DStore.ds (mkVStore (k + cntVLogNode x.log) x.store) ++ DSched.ds (mkVSched (k + cntVLogNode x.log + cntVStore x.store) x.left) ++ DSched.ds (mkVSched (k + cntVLogNode x.log + cntVStore x.store + cntVSched x.left) x.right) ++ DClient.ds (mkVClient (k + cntVLogNode x.log + cntVStore x.store + cntVSched x.left + cntVSched x.right) x.ann) ++ DClient.ds (mkVClient (k + cntVLogNode x.log + cntVStore x.store + cntVSched x.left + cntVSched x.right + cntVClient x.ann) x.bob) ++ DNet.ds (mkVNet (k + cntVLogNode x.log + cntVStore x.store + cntVSched x.left + cntVSched x.right + cntVClient x.ann + cntVClient x.bob) x.net)) ([.sl (x.up.map eB)]) [u 0, u 1, u 2, u 3, iv x.log.head.num, iv x.log.head.base, iv x.log.head.time, u 7, iv x.log.nxt.num, iv x.log.nxt.base, iv x.log.nxt.time, u 11, .bool x.log.more, iv x.log.book.base, iv x.log.book.time, u 15, u 16, iv x.log.durable, u 18, u 19, u 20, iv x.store.state.index, iv x.store.state.time, u 23, u 24, iv x.store.state.lease.holder, iv x.store.state.lease.epoch, iv x.store.state.lease.til, iv x.store.num, iv x.store.last, iv x.store.busy, iv x.left.id, iv x.left.seq, iv x.left.view.jobs.index, iv x.left.view.jobs.time, iv x.left.view.jobs.holder, iv x.left.view.jobs.epoch, iv x.left.view.jobs.til, u 38, .bool x.left.busy, iv x.left.op.kind, iv x.left.op.a, iv x.left.op.b, iv x.left.op.c, iv x.left.op.d, iv x.left.index, iv x.right.id, iv x.right.seq, iv x.right.view.jobs.index, iv x.right.view.jobs.time, iv x.right.view.jobs.holder, iv x.right.view.jobs.epoch, iv x.right.view.jobs.til, u 53, .bool x.right.busy, iv x.right.op.kind, iv x.right.op.a, iv x.right.op.b, iv x.right.op.c, iv x.right.op.d, iv x.right.index, iv x.ann.id, u 62, u 63, iv x.ann.last, iv x.bob.id, u 66, u 67, iv x.bob.last, u 69, u 70] [u 72] (lmarkInt64S_w x.clocks (k + cntVLogNode x.log + cntVStore x.store + cntVSched x.left + cntVSched x.right + cntVClient x.ann + cntVClient x.bob + cntVNet x.net) (by omega) (by omega)) rfl rfl rfl rfl rfl ?_; conv => whnf) | (refine ACall.turn 9001 72 (DLogNode.ds (mkVLogNode (k) x.log) ++ DStore.ds (mkVStore (k + cntVLogNode x.log) x.store) ++ DSched.ds (mkVSched (k + cntVLogNode x.log + cntVStore x.store) x.left) ++ DSched.ds (mkVSched (k + cntVLogNode x.log + cntVStore x.store + cntVSched x.left) x.right) ++ DClient.ds (mkVClient (k + cntVLogNode x.log + cntVStore x.store + cntVSched x.left + cntVSched x.right) x.ann) ++ DClient.ds (mkVClient (k + cntVLogNode x.log + cntVStore x.store + cntVSched x.left + cntVSched x.right + cntVClient x.ann) x.bob) ++ DNet.ds (mkVNet (k + cntVLogNode x.log + cntVStore x.store + cntVSched x.left + cntVSched x.right + cntVClient x.ann + cntVClient x.bob) x.net) ++ [.sl ((mkL mI cI (k + cntVLogNode x.log + cntVStore x.store + cntVSched x.left + cntVSched x.right + cntVClient x.ann + cntVClient x.bob + cntVNet x.net) x.clocks).map eI)]) ([]) [u 0, u 1, u 2, u 3, iv x.log.head.num, iv x.log.head.base, iv x.log.head.time, u 7, iv x.log.nxt.num, iv x.log.nxt.base, iv x.log.nxt.time, u 11, .bool x.log.more, iv x.log.book.base, iv x.log.book.time, u 15, u 16, iv x.log.durable, u 18, u 19, u 20, iv x.store.state.index, iv x.store.state.time, u 23, u 24, iv x.store.state.lease.holder, iv x.store.state.lease.epoch, iv x.store.state.lease.til, iv x.store.num, iv x.store.last, iv x.store.busy, iv x.left.id, iv x.left.seq, iv x.left.view.jobs.index, iv x.left.view.jobs.time, iv x.left.view.jobs.holder, iv x.left.view.jobs.epoch, iv x.left.view.jobs.til, u 38, .bool x.left.busy, iv x.left.op.kind, iv x.left.op.a, iv x.left.op.b, iv x.left.op.c, iv x.left.op.d, iv x.left.index, iv x.right.id, iv x.right.seq, iv x.right.view.jobs.index, iv x.right.view.jobs.time, iv x.right.view.jobs.holder, iv x.right.view.jobs.epoch, iv x.right.view.jobs.til, u 53, .bool x.right.busy, iv x.right.op.kind, iv x.right.op.a, iv x.right.op.b, iv x.right.op.c, iv x.right.op.d, iv x.right.index, iv x.ann.id, u 62, u 63, iv x.ann.last, iv x.bob.id, u 66, u 67, iv x.bob.last, u 69, u 70, u 71] [] (lmarkBoolS_w x.up (k + cntVLogNode x.log + cntVStore x.store + cntVSched x.left + cntVSched x.right + cntVClient x.ann + cntVClient x.bob + cntVNet x.net + cntL cI x.clocks) (by omega) (by omega)) rfl rfl rfl rfl rfl ?_; conv => whnf))
  refine And.intro ?_ rfl
  have e : k + cntVLogNode x.log + cntVStore x.store + cntVSched x.left + cntVSched x.right + cntVClient x.ann + cntVClient x.bob + cntVNet x.net + cntL cI x.clocks + cntL cI x.up = k + cntVWorld x := by unfold cntVWorld; omega
  show AP.val (pI (k + cntVLogNode x.log + cntVStore x.store + cntVSched x.left + cntVSched x.right + cntVClient x.ann + cntVClient x.bob + cntVNet x.net + cntL cI x.clocks + cntL cI x.up)) = AP.val (pI (k + cntVWorld x))
  rw [e]
end Go.Proofs.YtmgcnmdbhahhlaaGreat
namespace Go.Proofs.YtmgcnmdbhahhlaaGreat
open Go.ChangeShapes Go.WideShapes Go.RowKit

theorem cntL_cnt {α : Type} {c : α → Int} {f : α → Nat} (h : ∀ a, c a ≤ 9 * (1 + (f a : Int))) : ∀ l : List α, cntL c l ≤ 9 * (cntS f l : Int)
  | [] => by simp [cntL, cntS]
  | a :: r => by have := cntL_cnt h r; have := h a; simp only [cntL, cntS]; omega
theorem cntL_len9 {α : Type} {c : α → Int} (h : ∀ a, c a ≤ 9) : ∀ l : List α, cntL c l ≤ 9 * (l.length : Int)
  | [] => by simp [cntL]
  | a :: r => by have := cntL_len9 h r; have := h a; simp only [cntL, List.length_cons]; omega

theorem cntEMsg_le (x : DMsg) : cntEMsg x ≤ 9 * (1 + (DMsg.cnt x : Int)) := by
  have := cntL_len9 (c := cI) (fun a => by unfold cI; omega) x.row
  unfold cntEMsg DMsg.cnt
  omega
theorem cntEWrite_le (x : DWrite) : cntEWrite x ≤ 9 * (1 + (DWrite.cnt x : Int)) := by
  have := cntL_len9 (c := cI) (fun a => by unfold cI; omega) x.row
  unfold cntEWrite DWrite.cnt
  omega
theorem cntInt64S_le (y : (List Int)) : cntInt64S y ≤ 9 * (1 + (((y.length : Nat)) : Int)) := by
  have : cntL cI y ≤ 9 * (y.length : Int) := cntL_len9 (c := cI) (fun a => by unfold cI; omega) y
  unfold cntInt64S
  omega
theorem cntVDisk_le (x : DDisk) : cntVDisk x ≤ 9 * (x.cnt : Int) := by
  have := cntL_cnt (c := cntInt64S) (f := (fun l => l.length)) cntInt64S_le x.kept
  have := cntL_cnt (c := cntEWrite) (f := DWrite.cnt) cntEWrite_le x.wait
  unfold cntVDisk DDisk.cnt
  omega
theorem cntVTwo_le (x : DTwo) : cntVTwo x ≤ 9 * (x.cnt : Int) := by
  have := cntVDisk_le x.a
  have := cntVDisk_le x.b
  unfold cntVTwo DTwo.cnt
  omega
theorem cntVHead_le (x : DHead) : cntVHead x ≤ 9 * (x.cnt : Int) := by
  have := cntL_len9 (c := cntEMark) (fun a => by unfold cntEMark; omega) x.seen
  unfold cntVHead DHead.cnt
  omega
theorem cntVBook_le (x : DBook) : cntVBook x ≤ 9 * (x.cnt : Int) := by
  have := cntL_len9 (c := cntEEntry) (fun a => by unfold cntEEntry; omega) x.entries
  unfold cntVBook DBook.cnt
  omega
theorem cntVLogNode_le (x : DLogNode) : cntVLogNode x ≤ 9 * (x.cnt : Int) := by
  have := cntVTwo_le x.two
  have := cntVHead_le x.head
  have := cntVHead_le x.nxt
  have := cntVBook_le x.book
  have := cntL_len9 (c := cntEMark) (fun a => by unfold cntEMark; omega) x.seen
  have := cntL_len9 (c := cntEAck) (fun a => by unfold cntEAck; omega) x.owe
  unfold cntVLogNode DLogNode.cnt
  omega
theorem cntVState_le (x : DState) : cntVState x ≤ 9 * (x.cnt : Int) := by
  have := cntL_len9 (c := cntEPair) (fun a => by unfold cntEPair; omega) x.pairs
  have := cntL_len9 (c := cntEJob) (fun a => by unfold cntEJob; omega) x.jobs
  unfold cntVState DState.cnt
  omega
theorem cntVStore_le (x : DStore) : cntVStore x ≤ 9 * (x.cnt : Int) := by
  have := cntVDisk_le x.disk
  have := cntVState_le x.state
  unfold cntVStore DStore.cnt
  omega
theorem cntVJobs_le (x : DJobs) : cntVJobs x ≤ 9 * (x.cnt : Int) := by
  have := cntL_len9 (c := cntEDue) (fun a => by unfold cntEDue; omega) x.opens
  unfold cntVJobs DJobs.cnt
  omega
theorem cntVView_le (x : DView) : cntVView x ≤ 9 * (x.cnt : Int) := by
  have := cntVJobs_le x.jobs
  unfold cntVView DView.cnt
  omega
theorem cntVSched_le (x : DSched) : cntVSched x ≤ 9 * (x.cnt : Int) := by
  have := cntVView_le x.view
  unfold cntVSched DSched.cnt
  omega
theorem cntVClient_le (x : DClient) : cntVClient x ≤ 9 * (x.cnt : Int) := by
  have := cntL_len9 (c := cntEWant) (fun a => by unfold cntEWant; omega) x.todo
  have := cntL_len9 (c := cntEGot) (fun a => by unfold cntEGot; omega) x.gots
  unfold cntVClient DClient.cnt
  omega
theorem cntVNet_le (x : DNet) : cntVNet x ≤ 9 * (x.cnt : Int) := by
  have := cntL_cnt (c := cntEMsg) (f := DMsg.cnt) cntEMsg_le x.flight
  have := cntL_len9 (c := cntELink) (fun a => by unfold cntELink; omega) x.cuts
  unfold cntVNet DNet.cnt
  omega
theorem cntVWorld_le (x : DWorld) : cntVWorld x ≤ 9 * (x.cnt : Int) := by
  have := cntVLogNode_le x.log
  have := cntVStore_le x.store
  have := cntVSched_le x.left
  have := cntVSched_le x.right
  have := cntVClient_le x.ann
  have := cntVClient_le x.bob
  have := cntVNet_le x.net
  have := cntL_len9 (c := cI) (fun a => by unfold cI; omega) x.clocks
  have := cntL_len9 (c := cI) (fun a => by unfold cI; omega) x.up
  unfold cntVWorld DWorld.cnt
  omega
end Go.Proofs.YtmgcnmdbhahhlaaGreat
namespace Go.Proofs.YtmgcnmdbhahhlaaGreat
open Go.ChangeShapes Go.WideShapes Go.RowKit

theorem heldInt64S_p (l : List Int) (k : Int) (h0 : 0 ≤ k) (hk : k + l.length ≤ 1000000000000) : PCall av 17 [.one (.sl ((mkL mI cI k l).map eI)), pI k] (.val (pI (k + cntL cI l))) := by
  have hl : (mkL mI cI k l).length = l.length := mkL_length _ _
  rw [cntI]
  refine pcall_of av_ok Tryz.func17 rfl Tryz.call17 Tryz.ntmps17 (congrArg Array.toList Tryz.results17) fun S => ?_; conv => whnf
  repeat' (first | (refine aw0 ?_) | (refine awx ?_; conv => whnf) | fail | (exact rr) | (refine And.intro rfl ?_; conv => whnf) | (refine AB.mk (fun h => ?_) (fun h => ?_) <;> (conv => whnf)))
  refine AWP.loopS (fun p : Nat × Int => p.1 ≤ l.length ∧ p.2 = k + (p.1 : Int)) [1, 4, 5, 6, 7, 8, 9, 10, 11, 12, 13, 14, 15, 16, 17, 18, 19] (fun p => [(1, vI .i64 p.2), (5, vI .i64 (p.1 : Int))]) (fun _ => []) (fun p => l.length - p.1) (0, k) ⟨Nat.zero_le _, by simp⟩ ?_ SubO.nil (fun p hR => ?_) <;> (conv => whnf)
  · exact whd
  · obtain ⟨j, q⟩ := p
    obtain ⟨hj, hq⟩ := hR
    simp only at hj hq
    by_cases hlt : j < l.length
    · have e1 : (mkL mI cI k l)[j]'(by rw [hl]; exact hlt) = q := by
        rw [mkL_get l k hlt, cntI, List.length_take, Nat.min_eq_left (by omega), hq]; rfl
      have hc : decide ((j : Int) < (((mkL mI cI k l).map eI).length : Int)) = true := by simp [hl]; omega
      have hne : ((mkL mI cI k l)[j]'(by rw [hl]; exact hlt) != q) = false := by rw [e1]; simp
      repeat' (first | (refine aw0 ?_) | (refine awx ?_; conv => whnf) | fail | (refine AIx.map (by rw [hl]; exact hlt) ?_; conv => whnf) | (refine AW.i64 (by omega) (by omega) ?_; conv => whnf) | (exact rr) | (refine And.intro rfl ?_; conv => whnf) | (refine AB.mk (fun h => ?_) (fun h => ?_) <;> (conv => whnf)))
      refine ANext.mk ⟨(j + 1, q + 1), ⟨hlt, by simp only; omega⟩, by simp only; omega, ?_, SubO.nil⟩
      exact hds
    · have e : j = l.length := by omega
      subst e
      have hc : decide ((l.length : Int) < (((mkL mI cI k l).map eI).length : Int)) = false := by simp [hl]
      repeat' (first | (refine aw0 ?_) | (refine awx ?_; conv => whnf) | fail | (exact rr) | (refine And.intro rfl ?_; conv => whnf) | (refine AB.mk (fun h => ?_) (fun h => ?_) <;> (conv => whnf)))
      all_goals rw [hq]
abbrev pF (f : FuncId) : List AD := [.pv (.func (.func f) #[] #[])]
end Go.Proofs.YtmgcnmdbhahhlaaGreat
