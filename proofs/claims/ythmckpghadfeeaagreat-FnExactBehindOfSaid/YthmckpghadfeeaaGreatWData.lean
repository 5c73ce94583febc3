/- The world's types as data (gen_world.py). -/
import Derived.Test.YthmckpghadfeeaaGreatWB
import Derived.Test.YthmckpghadfeeaaGreatAvQ
import Derived.Test.YthmckpghadfeeaaGreatEncF
set_option linter.unusedVariables false
set_option linter.unusedSimpArgs false
set_option maxRecDepth 100000
namespace Go.Proofs.YthmckpghadfeeaaGreat
open Go.ChangeShapes Go.WideShapes Go.RowKit

abbrev eB (b : Bool) : List AD := [dB b]
abbrev eIIw (l : List Int) : List AD := [dIs l]
structure DWrite where
  at_ : Int
  row : (List Int)
  deriving DecidableEq
def Rep.DWrite : Rep DWrite := Rep.via (fun x => (x.at_, x.row)) (Rep.pair (Rep.int .i64) (Rep.sl (Rep.int .i64)))
def DWrite.ds (x : DWrite) : List AD := [dI x.at_, .sl (x.row.map eI)]
theorem DWrite.enc : Enc Rep.DWrite DWrite.ds := Enc.via (f := fun x : DWrite => (x.at_, x.row)) (Enc.pair Enc.int (Enc.sl Enc.int))
theorem DWrite.encF : EncF Rep.DWrite DWrite.ds := EncF.via (f := fun x : DWrite => (x.at_, x.row)) (EncF.pair EncF.int (EncF.sl EncF.int))
def DWrite.small (n : Nat) (x : DWrite) : Prop := x.row.length ≤ n
structure DDisk where
  kept : (List (List Int))
  wait : (List DWrite)
  deriving DecidableEq
def Rep.DDisk : Rep DDisk := Rep.via (fun x => (x.kept, x.wait)) (Rep.pair (Rep.sl (Rep.sl (Rep.int .i64))) (Rep.sl Rep.DWrite))
def DDisk.ds (x : DDisk) : List AD := [.sl (x.kept.map eIIw), .sl (x.wait.map DWrite.ds)]
theorem DDisk.enc : Enc Rep.DDisk DDisk.ds := Enc.via (f := fun x : DDisk => (x.kept, x.wait)) (Enc.pair (Enc.sl (Enc.sl Enc.int)) (Enc.sl DWrite.enc))
theorem DDisk.encF : EncF Rep.DDisk DDisk.ds := EncF.via (f := fun x : DDisk => (x.kept, x.wait)) (EncF.pair (EncF.sl (EncF.sl EncF.int)) (EncF.sl DWrite.encF))
def DDisk.small (n : Nat) (x : DDisk) : Prop := x.kept.length ≤ n ∧ (∀ y ∈ x.kept, y.length ≤ n) ∧ x.wait.length ≤ n ∧ (∀ y ∈ x.wait, DWrite.small n y)
structure DTwo where
  a : DDisk
  b : DDisk
  deriving DecidableEq
def Rep.DTwo : Rep DTwo := Rep.via (fun x => (x.a, x.b)) (Rep.pair Rep.DDisk Rep.DDisk)
def DTwo.ds (x : DTwo) : List AD := [.sl (x.a.kept.map eIIw), .sl (x.a.wait.map DWrite.ds), .sl (x.b.kept.map eIIw), .sl (x.b.wait.map DWrite.ds)]
theorem DTwo.enc : Enc Rep.DTwo DTwo.ds := Enc.via (f := fun x : DTwo => (x.a, x.b)) (Enc.pair DDisk.enc DDisk.enc)
theorem DTwo.encF : EncF Rep.DTwo DTwo.ds := EncF.via (f := fun x : DTwo => (x.a, x.b)) (EncF.pair DDisk.encF DDisk.encF)
def DTwo.small (n : Nat) (x : DTwo) : Prop := DDisk.small n x.a ∧ DDisk.small n x.b
structure DMark where
  client : Int
  seq : Int
  index : Int
  deriving DecidableEq
def Rep.DMark : Rep DMark := Rep.via (fun x => (x.client, x.seq, x.index)) (Rep.pair (Rep.int .i64) (Rep.pair (Rep.int .i64) (Rep.int .i64)))
def DMark.ds (x : DMark) : List AD := [dI x.client, dI x.seq, dI x.index]
theorem DMark.enc : Enc Rep.DMark DMark.ds := Enc.via (f := fun x : DMark => (x.client, x.seq, x.index)) (Enc.pair Enc.int (Enc.pair Enc.int Enc.int))
theorem DMark.encF : EncF Rep.DMark DMark.ds := EncF.via (f := fun x : DMark => (x.client, x.seq, x.index)) (EncF.pair EncF.int (EncF.pair EncF.int EncF.int))
structure DHead where
  num : Int
  base : Int
  time : Int
  seen : (List DMark)
  deriving DecidableEq
def Rep.DHead : Rep DHead := Rep.via (fun x => (x.num, x.base, x.time, x.seen)) (Rep.pair (Rep.int .i64) (Rep.pair (Rep.int .i64) (Rep.pair (Rep.int .i64) (Rep.sl Rep.DMark))))
def DHead.ds (x : DHead) : List AD := [dI x.num, dI x.base, dI x.time, .sl (x.seen.map DMark.ds)]
theorem DHead.enc : Enc Rep.DHead DHead.ds := Enc.via (f := fun x : DHead => (x.num, x.base, x.time, x.seen)) (Enc.pair Enc.int (Enc.pair Enc.int (Enc.pair Enc.int (Enc.sl DMark.enc))))
theorem DHead.encF : EncF Rep.DHead DHead.ds := EncF.via (f := fun x : DHead => (x.num, x.base, x.time, x.seen)) (EncF.pair EncF.int (EncF.pair EncF.int (EncF.pair EncF.int (EncF.sl DMark.encF))))
def DHead.small (n : Nat) (x : DHead) : Prop := x.seen.length ≤ n
theorem DOp.enc : Enc Rep.DOp DOp.ds := Enc.via (f := fun x : DOp => (x.kind, x.a, x.b, x.c, x.d)) (Enc.pair Enc.int (Enc.pair Enc.int (Enc.pair Enc.int (Enc.pair Enc.int Enc.int))))
theorem DOp.encF : EncF Rep.DOp DOp.ds := EncF.via (f := fun x : DOp => (x.kind, x.a, x.b, x.c, x.d)) (EncF.pair EncF.int (EncF.pair EncF.int (EncF.pair EncF.int (EncF.pair EncF.int EncF.int))))
theorem DEntry.enc : Enc Rep.DEntry DEntry.ds := Enc.via (f := fun x : DEntry => (x.index, x.time, x.client, x.seq, x.op)) (Enc.pair Enc.int (Enc.pair Enc.int (Enc.pair Enc.int (Enc.pair Enc.int DOp.enc))))
theorem DEntry.encF : EncF Rep.DEntry DEntry.ds := EncF.via (f := fun x : DEntry => (x.index, x.time, x.client, x.seq, x.op)) (EncF.pair EncF.int (EncF.pair EncF.int (EncF.pair EncF.int (EncF.pair EncF.int DOp.encF))))
structure DBook where
  base : Int
  time : Int
  entries : (List DEntry)
  deriving DecidableEq
def Rep.DBook : Rep DBook := Rep.via (fun x => (x.base, x.time, x.entries)) (Rep.pair (Rep.int .i64) (Rep.pair (Rep.int .i64) (Rep.sl Rep.DEntry)))
def DBook.ds (x : DBook) : List AD := [dI x.base, dI x.time, .sl (x.entries.map DEntry.ds)]
theorem DBook.enc : Enc Rep.DBook DBook.ds := Enc.via (f := fun x : DBook => (x.base, x.time, x.entries)) (Enc.pair Enc.int (Enc.pair Enc.int (Enc.sl DEntry.enc)))
theorem DBook.encF : EncF Rep.DBook DBook.ds := EncF.via (f := fun x : DBook => (x.base, x.time, x.entries)) (EncF.pair EncF.int (EncF.pair EncF.int (EncF.sl DEntry.encF)))
def DBook.small (n : Nat) (x : DBook) : Prop := x.entries.length ≤ n
structure DAck where
  client : Int
  seq : Int
  index : Int
  last : Int
  deriving DecidableEq
def Rep.DAck : Rep DAck := Rep.via (fun x => (x.client, x.seq, x.index, x.last)) (Rep.pair (Rep.int .i64) (Rep.pair (Rep.int .i64) (Rep.pair (Rep.int .i64) (Rep.int .i64))))
def DAck.ds (x : DAck) : List AD := [dI x.client, dI x.seq, dI x.index, dI x.last]
theorem DAck.enc : Enc Rep.DAck DAck.ds := Enc.via (f := fun x : DAck => (x.client, x.seq, x.index, x.last)) (Enc.pair Enc.int (Enc.pair Enc.int (Enc.pair Enc.int Enc.int)))
theorem DAck.encF : EncF Rep.DAck DAck.ds := EncF.via (f := fun x : DAck => (x.client, x.seq, x.index, x.last)) (EncF.pair EncF.int (EncF.pair EncF.int (EncF.pair EncF.int EncF.int)))
structure DLogNode where
  two : DTwo
  head : DHead
  nxt : DHead
  more : Bool
  book : DBook
  seen : (List DMark)
  durable : Int
  owe : (List DAck)
  deriving DecidableEq
def Rep.DLogNode : Rep DLogNode := Rep.via (fun x => (x.two, x.head, x.nxt, x.more, x.book, x.seen, x.durable, x.owe)) (Rep.pair Rep.DTwo (Rep.pair Rep.DHead (Rep.pair Rep.DHead (Rep.pair Rep.bool (Rep.pair Rep.DBook (Rep.pair (Rep.sl Rep.DMark) (Rep.pair (Rep.int .i64) (Rep.sl Rep.DAck))))))))
def DLogNode.ds (x : DLogNode) : List AD := [.sl (x.two.a.kept.map eIIw), .sl (x.two.a.wait.map DWrite.ds), .sl (x.two.b.kept.map eIIw), .sl (x.two.b.wait.map DWrite.ds), dI x.head.num, dI x.head.base, dI x.head.time, .sl (x.head.seen.map DMark.ds), dI x.nxt.num, dI x.nxt.base, dI x.nxt.time, .sl (x.nxt.seen.map DMark.ds), dB x.more, dI x.book.base, dI x.book.time, .sl (x.book.entries.map DEntry.ds), .sl (x.seen.map DMark.ds), dI x.durable, .sl (x.owe.map DAck.ds)]
theorem DLogNode.enc : Enc Rep.DLogNode DLogNode.ds := Enc.via (f := fun x : DLogNode => (x.two, x.head, x.nxt, x.more, x.book, x.seen, x.durable, x.owe)) (Enc.pair DTwo.enc (Enc.pair DHead.enc (Enc.pair DHead.enc (Enc.pair Enc.bool (Enc.pair DBook.enc (Enc.pair (Enc.sl DMark.enc) (Enc.pair Enc.int (Enc.sl DAck.enc))))))))
theorem DLogNode.encF : EncF Rep.DLogNode DLogNode.ds := EncF.via (f := fun x : DLogNode => (x.two, x.head, x.nxt, x.more, x.book, x.seen, x.durable, x.owe)) (EncF.pair DTwo.encF (EncF.pair DHead.encF (EncF.pair DHead.encF (EncF.pair EncF.bool (EncF.pair DBook.encF (EncF.pair (EncF.sl DMark.encF) (EncF.pair EncF.int (EncF.sl DAck.encF))))))))
def DLogNode.small (n : Nat) (x : DLogNode) : Prop := DTwo.small n x.two ∧ DHead.small n x.head ∧ DHead.small n x.nxt ∧ DBook.small n x.book ∧ x.seen.length ≤ n ∧ x.owe.length ≤ n
structure DPair where
  key : Int
  value : Int
  deriving DecidableEq
def Rep.DPair : Rep DPair := Rep.via (fun x => (x.key, x.value)) (Rep.pair (Rep.int .i64) (Rep.int .i64))
def DPair.ds (x : DPair) : List AD := [dI x.key, dI x.value]
theorem DPair.enc : Enc Rep.DPair DPair.ds := Enc.via (f := fun x : DPair => (x.key, x.value)) (Enc.pair Enc.int Enc.int)
theorem DPair.encF : EncF Rep.DPair DPair.ds := EncF.via (f := fun x : DPair => (x.key, x.value)) (EncF.pair EncF.int EncF.int)
structure DJob where
  id : Int
  due : Int
  key : Int
  value : Int
  fired : Int
  deriving DecidableEq
def Rep.DJob : Rep DJob := Rep.via (fun x => (x.id, x.due, x.key, x.value, x.fired)) (Rep.pair (Rep.int .i64) (Rep.pair (Rep.int .i64) (Rep.pair (Rep.int .i64) (Rep.pair (Rep.int .i64) (Rep.int .i64)))))
def DJob.ds (x : DJob) : List AD := [dI x.id, dI x.due, dI x.key, dI x.value, dI x.fired]
theorem DJob.enc : Enc Rep.DJob DJob.ds := Enc.via (f := fun x : DJob => (x.id, x.due, x.key, x.value, x.fired)) (Enc.pair Enc.int (Enc.pair Enc.int (Enc.pair Enc.int (Enc.pair Enc.int Enc.int))))
theorem DJob.encF : EncF Rep.DJob DJob.ds := EncF.via (f := fun x : DJob => (x.id, x.due, x.key, x.value, x.fired)) (EncF.pair EncF.int (EncF.pair EncF.int (EncF.pair EncF.int (EncF.pair EncF.int EncF.int))))
structure DLease where
  holder : Int
  epoch : Int
  til : Int
  deriving DecidableEq
def Rep.DLease : Rep DLease := Rep.via (fun x => (x.holder, x.epoch, x.til)) (Rep.pair (Rep.int .i64) (Rep.pair (Rep.int .i64) (Rep.int .i64)))
def DLease.ds (x : DLease) : List AD := [dI x.holder, dI x.epoch, dI x.til]
theorem DLease.enc : Enc Rep.DLease DLease.ds := Enc.via (f := fun x : DLease => (x.holder, x.epoch, x.til)) (Enc.pair Enc.int (Enc.pair Enc.int Enc.int))
theorem DLease.encF : EncF Rep.DLease DLease.ds := EncF.via (f := fun x : DLease => (x.holder, x.epoch, x.til)) (EncF.pair EncF.int (EncF.pair EncF.int EncF.int))
structure DState where
  index : Int
  time : Int
  pairs : (List DPair)
  jobs : (List DJob)
  lease : DLease
  deriving DecidableEq
def Rep.DState : Rep DState := Rep.via (fun x => (x.index, x.time, x.pairs, x.jobs, x.lease)) (Rep.pair (Rep.int .i64) (Rep.pair (Rep.int .i64) (Rep.pair (Rep.sl Rep.DPair) (Rep.pair (Rep.sl Rep.DJob) Rep.DLease))))
def DState.ds (x : DState) : List AD := [dI x.index, dI x.time, .sl (x.pairs.map DPair.ds), .sl (x.jobs.map DJob.ds), dI x.lease.holder, dI x.lease.epoch, dI x.lease.til]
theorem DState.enc : Enc Rep.DState DState.ds := Enc.via (f := fun x : DState => (x.index, x.time, x.pairs, x.jobs, x.lease)) (Enc.pair Enc.int (Enc.pair Enc.int (Enc.pair (Enc.sl DPair.enc) (Enc.pair (Enc.sl DJob.enc) DLease.enc))))
theorem DState.encF : EncF Rep.DState DState.ds := EncF.via (f := fun x : DState => (x.index, x.time, x.pairs, x.jobs, x.lease)) (EncF.pair EncF.int (EncF.pair EncF.int (EncF.pair (EncF.sl DPair.encF) (EncF.pair (EncF.sl DJob.encF) DLease.encF))))
def DState.small (n : Nat) (x : DState) : Prop := x.pairs.length ≤ n ∧ x.jobs.length ≤ n
structure DStore where
  disk : DDisk
  state : DState
  num : Int
  last : Int
  busy : Int
  deriving DecidableEq
def Rep.DStore : Rep DStore := Rep.via (fun x => (x.disk, x.state, x.num, x.last, x.busy)) (Rep.pair Rep.DDisk (Rep.pair Rep.DState (Rep.pair (Rep.int .i64) (Rep.pair (Rep.int .i64) (Rep.int .i64)))))
def DStore.ds (x : DStore) : List AD := [.sl (x.disk.kept.map eIIw), .sl (x.disk.wait.map DWrite.ds), dI x.state.index, dI x.state.time, .sl (x.state.pairs.map DPair.ds), .sl (x.state.jobs.map DJob.ds), dI x.state.lease.holder, dI x.state.lease.epoch, dI x.state.lease.til, dI x.num, dI x.last, dI x.busy]
theorem DStore.enc : Enc Rep.DStore DStore.ds := Enc.via (f := fun x : DStore => (x.disk, x.state, x.num, x.last, x.busy)) (Enc.pair DDisk.enc (Enc.pair DState.enc (Enc.pair Enc.int (Enc.pair Enc.int Enc.int))))
theorem DStore.encF : EncF Rep.DStore DStore.ds := EncF.via (f := fun x : DStore => (x.disk, x.state, x.num, x.last, x.busy)) (EncF.pair DDisk.encF (EncF.pair DState.encF (EncF.pair EncF.int (EncF.pair EncF.int EncF.int))))
def DStore.small (n : Nat) (x : DStore) : Prop := DDisk.small n x.disk ∧ DState.small n x.state
structure DDue where
  id : Int
  due : Int
  deriving DecidableEq
def Rep.DDue : Rep DDue := Rep.via (fun x => (x.id, x.due)) (Rep.pair (Rep.int .i64) (Rep.int .i64))
def DDue.ds (x : DDue) : List AD := [dI x.id, dI x.due]
theorem DDue.enc : Enc Rep.DDue DDue.ds := Enc.via (f := fun x : DDue => (x.id, x.due)) (Enc.pair Enc.int Enc.int)
theorem DDue.encF : EncF Rep.DDue DDue.ds := EncF.via (f := fun x : DDue => (x.id, x.due)) (EncF.pair EncF.int EncF.int)
structure DJobs where
  index : Int
  time : Int
  holder : Int
  epoch : Int
  til : Int
  opens : (List DDue)
  deriving DecidableEq
def Rep.DJobs : Rep DJobs := Rep.via (fun x => (x.index, x.time, x.holder, x.epoch, x.til, x.opens)) (Rep.pair (Rep.int .i64) (Rep.pair (Rep.int .i64) (Rep.pair (Rep.int .i64) (Rep.pair (Rep.int .i64) (Rep.pair (Rep.int .i64) (Rep.sl Rep.DDue))))))
def DJobs.ds (x : DJobs) : List AD := [dI x.index, dI x.time, dI x.holder, dI x.epoch, dI x.til, .sl (x.opens.map DDue.ds)]
theorem DJobs.enc : Enc Rep.DJobs DJobs.ds := Enc.via (f := fun x : DJobs => (x.index, x.time, x.holder, x.epoch, x.til, x.opens)) (Enc.pair Enc.int (Enc.pair Enc.int (Enc.pair Enc.int (Enc.pair Enc.int (Enc.pair Enc.int (Enc.sl DDue.enc))))))
theorem DJobs.encF : EncF Rep.DJobs DJobs.ds := EncF.via (f := fun x : DJobs => (x.index, x.time, x.holder, x.epoch, x.til, x.opens)) (EncF.pair EncF.int (EncF.pair EncF.int (EncF.pair EncF.int (EncF.pair EncF.int (EncF.pair EncF.int (EncF.sl DDue.encF))))))
def DJobs.small (n : Nat) (x : DJobs) : Prop := x.opens.length ≤ n
structure DView where
  jobs : DJobs
  deriving DecidableEq
def Rep.DView : Rep DView := Rep.via (fun x => x.jobs) Rep.DJobs
def DView.ds (x : DView) : List AD := [dI x.jobs.index, dI x.jobs.time, dI x.jobs.holder, dI x.jobs.epoch, dI x.jobs.til, .sl (x.jobs.opens.map DDue.ds)]
theorem DView.enc : Enc Rep.DView DView.ds := Enc.via (f := fun x : DView => x.jobs) DJobs.enc
theorem DView.encF : EncF Rep.DView DView.ds := EncF.via (f := fun x : DView => x.jobs) DJobs.encF
def DView.small (n : Nat) (x : DView) : Prop := DJobs.small n x.jobs
structure DSched where
  id : Int
  seq : Int
  view : DView
  busy : Bool
  op : DOp
  index : Int
  deriving DecidableEq
def Rep.DSched : Rep DSched := Rep.via (fun x => (x.id, x.seq, x.view, x.busy, x.op, x.index)) (Rep.pair (Rep.int .i64) (Rep.pair (Rep.int .i64) (Rep.pair Rep.DView (Rep.pair Rep.bool (Rep.pair Rep.DOp (Rep.int .i64))))))
def DSched.ds (x : DSched) : List AD := [dI x.id, dI x.seq, dI x.view.jobs.index, dI x.view.jobs.time, dI x.view.jobs.holder, dI x.view.jobs.epoch, dI x.view.jobs.til, .sl (x.view.jobs.opens.map DDue.ds), dB x.busy, dI x.op.kind, dI x.op.a, dI x.op.b, dI x.op.c, dI x.op.d, dI x.index]
theorem DSched.enc : Enc Rep.DSched DSched.ds := Enc.via (f := fun x : DSched => (x.id, x.seq, x.view, x.busy, x.op, x.index)) (Enc.pair Enc.int (Enc.pair Enc.int (Enc.pair DView.enc (Enc.pair Enc.bool (Enc.pair DOp.enc Enc.int)))))
theorem DSched.encF : EncF Rep.DSched DSched.ds := EncF.via (f := fun x : DSched => (x.id, x.seq, x.view, x.busy, x.op, x.index)) (EncF.pair EncF.int (EncF.pair EncF.int (EncF.pair DView.encF (EncF.pair EncF.bool (EncF.pair DOp.encF EncF.int)))))
def DSched.small (n : Nat) (x : DSched) : Prop := DView.small n x.view
theorem DWant.enc : Enc Rep.DWant DWant.ds := Enc.via (f := fun x : DWant => (x.kind, x.op, x.key)) (Enc.pair Enc.int (Enc.pair DOp.enc Enc.int))
theorem DWant.encF : EncF Rep.DWant DWant.ds := EncF.via (f := fun x : DWant => (x.kind, x.op, x.key)) (EncF.pair EncF.int (EncF.pair DOp.encF EncF.int))
structure DGot where
  seq : Int
  index : Int
  has : Int
  value : Int
  deriving DecidableEq
def Rep.DGot : Rep DGot := Rep.via (fun x => (x.seq, x.index, x.has, x.value)) (Rep.pair (Rep.int .i64) (Rep.pair (Rep.int .i64) (Rep.pair (Rep.int .i64) (Rep.int .i64))))
def DGot.ds (x : DGot) : List AD := [dI x.seq, dI x.index, dI x.has, dI x.value]
theorem DGot.enc : Enc Rep.DGot DGot.ds := Enc.via (f := fun x : DGot => (x.seq, x.index, x.has, x.value)) (Enc.pair Enc.int (Enc.pair Enc.int (Enc.pair Enc.int Enc.int)))
theorem DGot.encF : EncF Rep.DGot DGot.ds := EncF.via (f := fun x : DGot => (x.seq, x.index, x.has, x.value)) (EncF.pair EncF.int (EncF.pair EncF.int (EncF.pair EncF.int EncF.int)))
structure DClient where
  id : Int
  todo : (List DWant)
  gots : (List DGot)
  last : Int
  deriving DecidableEq
def Rep.DClient : Rep DClient := Rep.via (fun x => (x.id, x.todo, x.gots, x.last)) (Rep.pair (Rep.int .i64) (Rep.pair (Rep.sl Rep.DWant) (Rep.pair (Rep.sl Rep.DGot) (Rep.int .i64))))
def DClient.ds (x : DClient) : List AD := [dI x.id, .sl (x.todo.map DWant.ds), .sl (x.gots.map DGot.ds), dI x.last]
theorem DClient.enc : Enc Rep.DClient DClient.ds := Enc.via (f := fun x : DClient => (x.id, x.todo, x.gots, x.last)) (Enc.pair Enc.int (Enc.pair (Enc.sl DWant.enc) (Enc.pair (Enc.sl DGot.enc) Enc.int)))
theorem DClient.encF : EncF Rep.DClient DClient.ds := EncF.via (f := fun x : DClient => (x.id, x.todo, x.gots, x.last)) (EncF.pair EncF.int (EncF.pair (EncF.sl DWant.encF) (EncF.pair (EncF.sl DGot.encF) EncF.int)))
def DClient.small (n : Nat) (x : DClient) : Prop := x.todo.length ≤ n ∧ x.gots.length ≤ n
def DMsg.ds (x : DMsg) : List AD := [dI x.frm, dI x.to_, .sl (x.row.map eI)]
theorem DMsg.enc : Enc Rep.DMsg DMsg.ds := Enc.via (f := fun x : DMsg => (x.frm, x.to_, x.row)) (Enc.pair Enc.int (Enc.pair Enc.int (Enc.sl Enc.int)))
theorem DMsg.encF : EncF Rep.DMsg DMsg.ds := EncF.via (f := fun x : DMsg => (x.frm, x.to_, x.row)) (EncF.pair EncF.int (EncF.pair EncF.int (EncF.sl EncF.int)))
def DMsg.small (n : Nat) (x : DMsg) : Prop := x.row.length ≤ n
def DLink.ds (x : DLink) : List AD := [dI x.a, dI x.b]
theorem DLink.enc : Enc Rep.DLink DLink.ds := Enc.via (f := fun x : DLink => (x.a, x.b)) (Enc.pair Enc.int Enc.int)
theorem DLink.encF : EncF Rep.DLink DLink.ds := EncF.via (f := fun x : DLink => (x.a, x.b)) (EncF.pair EncF.int EncF.int)
def DNet.ds (x : DNet) : List AD := [.sl (x.flight.map DMsg.ds), .sl (x.cuts.map DLink.ds)]
theorem DNet.enc : Enc Rep.DNet DNet.ds := Enc.via (f := fun x : DNet => (x.flight, x.cuts)) (Enc.pair (Enc.sl DMsg.enc) (Enc.sl DLink.enc))
theorem DNet.encF : EncF Rep.DNet DNet.ds := EncF.via (f := fun x : DNet => (x.flight, x.cuts)) (EncF.pair (EncF.sl DMsg.encF) (EncF.sl DLink.encF))
def DNet.small (n : Nat) (x : DNet) : Prop := x.flight.length ≤ n ∧ (∀ y ∈ x.flight, DMsg.small n y) ∧ x.cuts.length ≤ n
structure DWorld where
  log : DLogNode
  store : DStore
  left : DSched
  right : DSched
  ann : DClient
  bob : DClient
  net : DNet
  clocks : (List Int)
  up : (List Bool)
  deriving DecidableEq
def Rep.DWorld : Rep DWorld := Rep.via (fun x => (x.log, x.store, x.left, x.right, x.ann, x.bob, x.net, x.clocks, x.up)) (Rep.pair Rep.DLogNode (Rep.pair Rep.DStore (Rep.pair Rep.DSched (Rep.pair Rep.DSched (Rep.pair Rep.DClient (Rep.pair Rep.DClient (Rep.pair Rep.DNet (Rep.pair (Rep.sl (Rep.int .i64)) (Rep.sl Rep.bool)))))))))
def DWorld.ds (x : DWorld) : List AD := [.sl (x.log.two.a.kept.map eIIw), .sl (x.log.two.a.wait.map DWrite.ds), .sl (x.log.two.b.kept.map eIIw), .sl (x.log.two.b.wait.map DWrite.ds), dI x.log.head.num, dI x.log.head.base, dI x.log.head.time, .sl (x.log.head.seen.map DMark.ds), dI x.log.nxt.num, dI x.log.nxt.base, dI x.log.nxt.time, .sl (x.log.nxt.seen.map DMark.ds), dB x.log.more, dI x.log.book.base, dI x.log.book.time, .sl (x.log.book.entries.map DEntry.ds), .sl (x.log.seen.map DMark.ds), dI x.log.durable, .sl (x.log.owe.map DAck.ds), .sl (x.store.disk.kept.map eIIw), .sl (x.store.disk.wait.map DWrite.ds), dI x.store.state.index, dI x.store.state.time, .sl (x.store.state.pairs.map DPair.ds), .sl (x.store.state.jobs.map DJob.ds), dI x.store.state.lease.holder, dI x.store.state.lease.epoch, dI x.store.state.lease.til, dI x.store.num, dI x.store.last, dI x.store.busy, dI x.left.id, dI x.left.seq, dI x.left.view.jobs.index, dI x.left.view.jobs.time, dI x.left.view.jobs.holder, dI x.left.view.jobs.epoch, dI x.left.view.jobs.til, .sl (x.left.view.jobs.opens.map DDue.ds), dB x.left.busy, dI x.left.op.kind, dI x.left.op.a, dI x.left.op.b, dI x.left.op.c, dI x.left.op.d, dI x.left.index, dI x.right.id, dI x.right.seq, dI x.right.view.jobs.index, dI x.right.view.jobs.time, dI x.right.view.jobs.holder, dI x.right.view.jobs.epoch, dI x.right.view.jobs.til, .sl (x.right.view.jobs.opens.map DDue.ds), dB x.right.busy, dI x.right.op.kind, dI x.right.op.a, dI x.right.op.b, dI x.right.op.c, dI x.right.op.d, dI x.right.index, dI x.ann.id, .sl (x.ann.todo.map DWant.ds), .sl (x.ann.gots.map DGot.ds), dI x.ann.last, dI x.bob.id, .sl (x.bob.todo.map DWant.ds), .sl (x.bob.gots.map DGot.ds), dI x.bob.last, .sl (x.net.flight.map DMsg.ds), .sl (x.net.cuts.map DLink.ds), .sl (x.clocks.map eI), .sl (x.up.map eB)]
theorem DWorld.enc : Enc Rep.DWorld DWorld.ds := Enc.via (f := fun x : DWorld => (x.log, x.store, x.left, x.right, x.ann, x.bob, x.net, x.clocks, x.up)) (Enc.pair DLogNode.enc (Enc.pair DStore.enc (Enc.pair DSched.enc (Enc.pair DSched.enc (Enc.pair DClient.enc (Enc.pair DClient.enc (Enc.pair DNet.enc (Enc.pair (Enc.sl Enc.int) (Enc.sl Enc.bool)))))))))
theorem DWorld.encF : EncF Rep.DWorld DWorld.ds := EncF.via (f := fun x : DWorld => (x.log, x.store, x.left, x.right, x.ann, x.bob, x.net, x.clocks, x.up)) (EncF.pair DLogNode.encF (EncF.pair DStore.encF (EncF.pair DSched.encF (EncF.pair DSched.encF (EncF.pair DClient.encF (EncF.pair DClient.encF (EncF.pair DNet.encF (EncF.pair (EncF.sl EncF.int) (EncF.sl EncF.bool)))))))))
def DWorld.small (n : Nat) (x : DWorld) : Prop := DLogNode.small n x.log ∧ DStore.small n x.store ∧ DSched.small n x.left ∧ DSched.small n x.right ∧ DClient.small n x.ann ∧ DClient.small n x.bob ∧ DNet.small n x.net ∧ x.clocks.length ≤ n ∧ x.up.length ≤ n
end Go.Proofs.YthmckpghadfeeaaGreat
