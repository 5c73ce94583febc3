/- WData -/
import Derived.Test.YtlmoekpinpafeaaGreatAvJ3
set_option maxHeartbeats 8000000
set_option linter.unusedVariables false
set_option linter.unusedSimpArgs false
set_option maxRecDepth 100000
open List (all_eq_true filter_sublist foldl_cons getElem?_eq_getElem mem_cons mem_filter mem_range pairwise_cons)
open Bool (and_eq_true)
namespace Go.Proofs.YtlmoekpinpafeaaGreat
open Go.ChangeShapes Go.WideShapes Go.RowKit
abbrev eB(b:Bool):List AD:=[dB b]
abbrev cW(l:List Int):List AD:=[dIs l]
structure DWrite where
 at_:Int
 row:(List Int)
 deriving DecidableEq
def Uv:Rep DWrite:=TP (λx=>(x.at_,x.row)) (TH (Rep.int .i64) (Rep.sl (Rep.int .i64)))
def DWrite.ds(x:DWrite):List AD:=[dI x.at_,.sl (x.row.map eI)]
theorem VH:Enc Uv DWrite.ds:=TS (f:=λx:DWrite=>(x.at_,x.row)) (TL Enc.int (Enc.sl Enc.int))
theorem Vs:aS Uv DWrite.ds:=TQ (f:=λx:DWrite=>(x.at_,x.row)) (TG aS.int (aS.sl aS.int))
def DWrite.small(n:Nat)(x:DWrite):Prop:=x.row.length<=n
structure DDisk where
 kept:(List (List Int))
 wait:(List DWrite)
 deriving DecidableEq
def Ua:Rep DDisk:=TP (λx=>(x.kept,x.wait)) (TH (Rep.sl (Rep.sl (Rep.int .i64))) (Rep.sl Uv))
def DDisk.ds(x:DDisk):List AD:=[.sl (x.kept.map cW),.sl (x.wait.map DWrite.ds)]
theorem Uz:Enc Ua DDisk.ds:=TS (f:=λx:DDisk=>(x.kept,x.wait)) (TL (Enc.sl (Enc.sl Enc.int)) (Enc.sl VH))
theorem Uo:aS Ua DDisk.ds:=TQ (f:=λx:DDisk=>(x.kept,x.wait)) (TG (aS.sl (aS.sl aS.int)) (aS.sl Vs))
def DDisk.small(n:Nat)(x:DDisk):Prop:=x.kept.length<=n/\(∀y∈x.kept,y.length<=n)/\x.wait.length<=n/\(∀y∈x.wait,DWrite.small n y)
structure DTwo where
 a:DDisk
 b:DDisk
 deriving DecidableEq
def U7:Rep DTwo:=TP (λx=>(x.a,x.b)) (TH Ua Ua)
def DTwo.ds(x:DTwo):List AD:=[.sl (x.a.kept.map cW),.sl (x.a.wait.map DWrite.ds),.sl (x.b.kept.map cW),.sl (x.b.wait.map DWrite.ds)]
theorem Wd:Enc U7 DTwo.ds:=TS (f:=λx:DTwo=>(x.a,x.b)) (TL Uz Uz)
theorem VX:aS U7 DTwo.ds:=TQ (f:=λx:DTwo=>(x.a,x.b)) (TG Uo Uo)
def DTwo.small(n:Nat)(x:DTwo):Prop:=DDisk.small n x.a/\DDisk.small n x.b
structure DMark where
 client:Int
 seq:Int
 index:Int
 deriving DecidableEq
def Um:Rep DMark:=TP (λx=>(x.client,x.seq,x.index)) (TH (Rep.int .i64) (TH (Rep.int .i64) (Rep.int .i64)))
def DMark.ds(x:DMark):List AD:=[dI x.client,dI x.seq,dI x.index]
theorem Ve:Enc Um DMark.ds:=TS (f:=λx:DMark=>(x.client,x.seq,x.index)) (TL Enc.int (TL Enc.int Enc.int))
theorem UV:aS Um DMark.ds:=TQ (f:=λx:DMark=>(x.client,x.seq,x.index)) (TG aS.int (TG aS.int aS.int))
structure DHead where
 num:Int
 base:Int
 time:Int
 seen:(List DMark)
 deriving DecidableEq
def Ul:Rep DHead:=TP (λx=>(x.num,x.base,x.time,x.seen)) (TH (Rep.int .i64) (TH (Rep.int .i64) (TH (Rep.int .i64) (Rep.sl Um))))
def DHead.ds(x:DHead):List AD:=[dI x.num,dI x.base,dI x.time,.sl (x.seen.map DMark.ds)]
theorem Vd:Enc Ul DHead.ds:=TS (f:=λx:DHead=>(x.num,x.base,x.time,x.seen)) (TL Enc.int (TL Enc.int (TL Enc.int (Enc.sl Ve))))
theorem UU:aS Ul DHead.ds:=TQ (f:=λx:DHead=>(x.num,x.base,x.time,x.seen)) (TG aS.int (TG aS.int (TG aS.int (aS.sl UV))))
def DHead.small(n:Nat)(x:DHead):Prop:=x.seen.length<=n
theorem Vj:Enc Ux DOp.ds:=TS (f:=λx:DOp=>(x.kind,x.a,x.b,x.c,x.d)) (TL Enc.int (TL Enc.int (TL Enc.int (TL Enc.int Enc.int))))
theorem UY:aS Ux DOp.ds:=TQ (f:=λx:DOp=>(x.kind,x.a,x.b,x.c,x.d)) (TG aS.int (TG aS.int (TG aS.int (TG aS.int aS.int))))
theorem Vy:Enc Ur DEntry.ds:=TS (f:=λx:DEntry=>(x.index,x.time,x.client,x.seq,x.op)) (TL Enc.int (TL Enc.int (TL Enc.int (TL Enc.int Vj))))
theorem Vo:aS Ur DEntry.ds:=TQ (f:=λx:DEntry=>(x.index,x.time,x.client,x.seq,x.op)) (TG aS.int (TG aS.int (TG aS.int (TG aS.int UY))))
structure DBook where
 base:Int
 time:Int
 entries:(List DEntry)
 deriving DecidableEq
def UD:Rep DBook:=TP (λx=>(x.base,x.time,x.entries)) (TH (Rep.int .i64) (TH (Rep.int .i64) (Rep.sl Ur)))
def DBook.ds(x:DBook):List AD:=[dI x.base,dI x.time,.sl (x.entries.map DEntry.ds)]
theorem VO:Enc UD DBook.ds:=TS (f:=λx:DBook=>(x.base,x.time,x.entries)) (TL Enc.int (TL Enc.int (Enc.sl Vy)))
theorem Vx:aS UD DBook.ds:=TQ (f:=λx:DBook=>(x.base,x.time,x.entries)) (TG aS.int (TG aS.int (aS.sl Vo)))
def DBook.small(n:Nat)(x:DBook):Prop:=x.entries.length<=n
structure DAck where
 client:Int
 seq:Int
 index:Int
 last:Int
 deriving DecidableEq
def U1:Rep DAck:=TP (λx=>(x.client,x.seq,x.index,x.last)) (TH (Rep.int .i64) (TH (Rep.int .i64) (TH (Rep.int .i64) (Rep.int .i64))))
def DAck.ds(x:DAck):List AD:=[dI x.client,dI x.seq,dI x.index,dI x.last]
theorem V7:Enc U1 DAck.ds:=TS (f:=λx:DAck=>(x.client,x.seq,x.index,x.last)) (TL Enc.int (TL Enc.int (TL Enc.int Enc.int)))
theorem VN:aS U1 DAck.ds:=TQ (f:=λx:DAck=>(x.client,x.seq,x.index,x.last)) (TG aS.int (TG aS.int (TG aS.int aS.int)))
structure DLogNode where
 two:DTwo
 head:DHead
 nxt:DHead
 more:Bool
 book:DBook
 seen:(List DMark)
 durable:Int
 owe:(List DAck)
 deriving DecidableEq
def Uc:Rep DLogNode:=TP (λx=>(x.two,x.head,x.nxt,x.more,x.book,x.seen,x.durable,x.owe)) (TH U7 (TH Ul (TH Ul (TH Rep.bool (TH UD (TH (Rep.sl Um) (TH (Rep.int .i64) (Rep.sl U1))))))))
def DLogNode.ds(x:DLogNode):List AD:=[.sl (x.two.a.kept.map cW),.sl (x.two.a.wait.map DWrite.ds),.sl (x.two.b.kept.map cW),.sl (x.two.b.wait.map DWrite.ds),dI x.head.num,dI x.head.base,dI x.head.time,.sl (x.head.seen.map DMark.ds),dI x.nxt.num,dI x.nxt.base,dI x.nxt.time,.sl (x.nxt.seen.map DMark.ds),dB x.more,dI x.book.base,dI x.book.time,.sl (x.book.entries.map DEntry.ds),.sl (x.seen.map DMark.ds),dI x.durable,.sl (x.owe.map DAck.ds)]
theorem Vi:Enc Uc DLogNode.ds:=TS (f:=λx:DLogNode=>(x.two,x.head,x.nxt,x.more,x.book,x.seen,x.durable,x.owe)) (TL Wd (TL Vd (TL Vd (TL Enc.bool (TL VO (TL (Enc.sl Ve) (TL Enc.int (Enc.sl V7))))))))
theorem Vb:aS Uc DLogNode.ds:=TQ (f:=λx:DLogNode=>(x.two,x.head,x.nxt,x.more,x.book,x.seen,x.durable,x.owe)) (TG VX (TG UU (TG UU (TG aS.bool (TG Vx (TG (aS.sl UV) (TG aS.int (aS.sl VN))))))))
def DLogNode.small(n:Nat)(x:DLogNode):Prop:=DTwo.small n x.two/\DHead.small n x.head/\DHead.small n x.nxt/\DBook.small n x.book/\x.seen.length<=n/\x.owe.length<=n
structure DPair where
 key:Int
 value:Int
 deriving DecidableEq
def UG:Rep DPair:=TP (λx=>(x.key,x.value)) (TH (Rep.int .i64) (Rep.int .i64))
def DPair.ds(x:DPair):List AD:=[dI x.key,dI x.value]
theorem VW:Enc UG DPair.ds:=TS (f:=λx:DPair=>(x.key,x.value)) (TL Enc.int Enc.int)
theorem VC:aS UG DPair.ds:=TQ (f:=λx:DPair=>(x.key,x.value)) (TG aS.int aS.int)
structure DJob where
 id:Int
 due:Int
 key:Int
 value:Int
 fired:Int
 deriving DecidableEq
def U4:Rep DJob:=TP (λx=>(x.id,x.due,x.key,x.value,x.fired)) (TH (Rep.int .i64) (TH (Rep.int .i64) (TH (Rep.int .i64) (TH (Rep.int .i64) (Rep.int .i64)))))
def DJob.ds(x:DJob):List AD:=[dI x.id,dI x.due,dI x.key,dI x.value,dI x.fired]
theorem Wa:Enc U4 DJob.ds:=TS (f:=λx:DJob=>(x.id,x.due,x.key,x.value,x.fired)) (TL Enc.int (TL Enc.int (TL Enc.int (TL Enc.int Enc.int))))
theorem VR:aS U4 DJob.ds:=TQ (f:=λx:DJob=>(x.id,x.due,x.key,x.value,x.fired)) (TG aS.int (TG aS.int (TG aS.int (TG aS.int aS.int))))
structure DLease where
 holder:Int
 epoch:Int
 til:Int
 deriving DecidableEq
def Us:Rep DLease:=TP (λx=>(x.holder,x.epoch,x.til)) (TH (Rep.int .i64) (TH (Rep.int .i64) (Rep.int .i64)))
def DLease.ds(x:DLease):List AD:=[dI x.holder,dI x.epoch,dI x.til]
theorem VA:Enc Us DLease.ds:=TS (f:=λx:DLease=>(x.holder,x.epoch,x.til)) (TL Enc.int (TL Enc.int Enc.int))
theorem Vp:aS Us DLease.ds:=TQ (f:=λx:DLease=>(x.holder,x.epoch,x.til)) (TG aS.int (TG aS.int aS.int))
structure DState where
 index:Int
 time:Int
 pairs:(List DPair)
 jobs:(List DJob)
 lease:DLease
 deriving DecidableEq
def Ut:Rep DState:=TP (λx=>(x.index,x.time,x.pairs,x.jobs,x.lease)) (TH (Rep.int .i64) (TH (Rep.int .i64) (TH (Rep.sl UG) (TH (Rep.sl U4) Us))))
def DState.ds(x:DState):List AD:=[dI x.index,dI x.time,.sl (x.pairs.map DPair.ds),.sl (x.jobs.map DJob.ds),dI x.lease.holder,dI x.lease.epoch,dI x.lease.til]
theorem VD:Enc Ut DState.ds:=TS (f:=λx:DState=>(x.index,x.time,x.pairs,x.jobs,x.lease)) (TL Enc.int (TL Enc.int (TL (Enc.sl VW) (TL (Enc.sl Wa) VA))))
theorem Vq:aS Ut DState.ds:=TQ (f:=λx:DState=>(x.index,x.time,x.pairs,x.jobs,x.lease)) (TG aS.int (TG aS.int (TG (aS.sl VC) (TG (aS.sl VR) Vp))))
def DState.small(n:Nat)(x:DState):Prop:=x.pairs.length<=n/\x.jobs.length<=n
structure DStore where
 disk:DDisk
 state:DState
 num:Int
 last:Int
 busy:Int
 deriving DecidableEq
def Uu:Rep DStore:=TP (λx=>(x.disk,x.state,x.num,x.last,x.busy)) (TH Ua (TH Ut (TH (Rep.int .i64) (TH (Rep.int .i64) (Rep.int .i64)))))
def DStore.ds(x:DStore):List AD:=[.sl (x.disk.kept.map cW),.sl (x.disk.wait.map DWrite.ds),dI x.state.index,dI x.state.time,.sl (x.state.pairs.map DPair.ds),.sl (x.state.jobs.map DJob.ds),dI x.state.lease.holder,dI x.state.lease.epoch,dI x.state.lease.til,dI x.num,dI x.last,dI x.busy]
theorem VE:Enc Uu DStore.ds:=TS (f:=λx:DStore=>(x.disk,x.state,x.num,x.last,x.busy)) (TL Uz (TL VD (TL Enc.int (TL Enc.int Enc.int))))
theorem Vr:aS Uu DStore.ds:=TQ (f:=λx:DStore=>(x.disk,x.state,x.num,x.last,x.busy)) (TG Uo (TG Vq (TG aS.int (TG aS.int aS.int))))
def DStore.small(n:Nat)(x:DStore):Prop:=DDisk.small n x.disk/\DState.small n x.state
structure DDue where
 id:Int
 due:Int
 deriving DecidableEq
def U2:Rep DDue:=TP (λx=>(x.id,x.due)) (TH (Rep.int .i64) (Rep.int .i64))
def DDue.ds(x:DDue):List AD:=[dI x.id,dI x.due]
theorem V8:Enc U2 DDue.ds:=TS (f:=λx:DDue=>(x.id,x.due)) (TL Enc.int Enc.int)
theorem VP:aS U2 DDue.ds:=TQ (f:=λx:DDue=>(x.id,x.due)) (TG aS.int aS.int)
structure DJobs where
 index:Int
 time:Int
 holder:Int
 epoch:Int
 til:Int
 opens:(List DDue)
 deriving DecidableEq
def UE:Rep DJobs:=TP (λx=>(x.index,x.time,x.holder,x.epoch,x.til,x.opens)) (TH (Rep.int .i64) (TH (Rep.int .i64) (TH (Rep.int .i64) (TH (Rep.int .i64) (TH (Rep.int .i64) (Rep.sl U2))))))
def DJobs.ds(x:DJobs):List AD:=[dI x.index,dI x.time,dI x.holder,dI x.epoch,dI x.til,.sl (x.opens.map DDue.ds)]
theorem VS:Enc UE DJobs.ds:=TS (f:=λx:DJobs=>(x.index,x.time,x.holder,x.epoch,x.til,x.opens)) (TL Enc.int (TL Enc.int (TL Enc.int (TL Enc.int (TL Enc.int (Enc.sl V8))))))
theorem Vz:aS UE DJobs.ds:=TQ (f:=λx:DJobs=>(x.index,x.time,x.holder,x.epoch,x.til,x.opens)) (TG aS.int (TG aS.int (TG aS.int (TG aS.int (TG aS.int (aS.sl VP))))))
def DJobs.small(n:Nat)(x:DJobs):Prop:=x.opens.length<=n
structure DView where
 jobs:DJobs
 deriving DecidableEq
def UH:Rep DView:=TP (λx=>x.jobs) UE
def DView.ds(x:DView):List AD:=[dI x.jobs.index,dI x.jobs.time,dI x.jobs.holder,dI x.jobs.epoch,dI x.jobs.til,.sl (x.jobs.opens.map DDue.ds)]
theorem VY:Enc UH DView.ds:=TS (f:=λx:DView=>x.jobs) VS
theorem VF:aS UH DView.ds:=TQ (f:=λx:DView=>x.jobs) Vz
def DView.small(n:Nat)(x:DView):Prop:=DJobs.small n x.jobs
structure DSched where
 id:Int
 seq:Int
 view:DView
 busy:Bool
 op:DOp
 index:Int
 deriving DecidableEq
def Ud:Rep DSched:=TP (λx=>(x.id,x.seq,x.view,x.busy,x.op,x.index)) (TH (Rep.int .i64) (TH (Rep.int .i64) (TH UH (TH Rep.bool (TH Ux (Rep.int .i64))))))
def DSched.ds(x:DSched):List AD:=[dI x.id,dI x.seq,dI x.view.jobs.index,dI x.view.jobs.time,dI x.view.jobs.holder,dI x.view.jobs.epoch,dI x.view.jobs.til,.sl (x.view.jobs.opens.map DDue.ds),dB x.busy,dI x.op.kind,dI x.op.a,dI x.op.b,dI x.op.c,dI x.op.d,dI x.index]
theorem UZ:Enc Ud DSched.ds:=TS (f:=λx:DSched=>(x.id,x.seq,x.view,x.busy,x.op,x.index)) (TL Enc.int (TL Enc.int (TL VY (TL Enc.bool (TL Vj Enc.int)))))
theorem UM:aS Ud DSched.ds:=TQ (f:=λx:DSched=>(x.id,x.seq,x.view,x.busy,x.op,x.index)) (TG aS.int (TG aS.int (TG VF (TG aS.bool (TG UY aS.int)))))
def DSched.small(n:Nat)(x:DSched):Prop:=DView.small n x.view
theorem VZ:Enc UI DWant.ds:=TS (f:=λx:DWant=>(x.kind,x.op,x.key)) (TL Enc.int (TL Vj Enc.int))
theorem VG:aS UI DWant.ds:=TQ (f:=λx:DWant=>(x.kind,x.op,x.key)) (TG aS.int (TG UY aS.int))
structure DGot where
 seq:Int
 index:Int
 has:Int
 value:Int
 deriving DecidableEq
def U3:Rep DGot:=TP (λx=>(x.seq,x.index,x.has,x.value)) (TH (Rep.int .i64) (TH (Rep.int .i64) (TH (Rep.int .i64) (Rep.int .i64))))
def DGot.ds(x:DGot):List AD:=[dI x.seq,dI x.index,dI x.has,dI x.value]
theorem V9:Enc U3 DGot.ds:=TS (f:=λx:DGot=>(x.seq,x.index,x.has,x.value)) (TL Enc.int (TL Enc.int (TL Enc.int Enc.int)))
theorem VQ:aS U3 DGot.ds:=TQ (f:=λx:DGot=>(x.seq,x.index,x.has,x.value)) (TG aS.int (TG aS.int (TG aS.int aS.int)))
structure DClient where
 id:Int
 todo:(List DWant)
 gots:(List DGot)
 last:Int
 deriving DecidableEq
def T6:Rep DClient:=TP (λx=>(x.id,x.todo,x.gots,x.last)) (TH (Rep.int .i64) (TH (Rep.sl UI) (TH (Rep.sl U3) (Rep.int .i64))))
def DClient.ds(x:DClient):List AD:=[dI x.id,.sl (x.todo.map DWant.ds),.sl (x.gots.map DGot.ds),dI x.last]
theorem UL:Enc T6 DClient.ds:=TS (f:=λx:DClient=>(x.id,x.todo,x.gots,x.last)) (TL Enc.int (TL (Enc.sl VZ) (TL (Enc.sl V9) Enc.int)))
theorem Uw:aS T6 DClient.ds:=TQ (f:=λx:DClient=>(x.id,x.todo,x.gots,x.last)) (TG aS.int (TG (aS.sl VG) (TG (aS.sl VQ) aS.int)))
def DClient.small(n:Nat)(x:DClient):Prop:=x.todo.length<=n/\x.gots.length<=n
def DMsg.ds(x:DMsg):List AD:=[dI x.frm,dI x.to_,.sl (x.row.map eI)]
theorem Wb:Enc U5 DMsg.ds:=TS (f:=λx:DMsg=>(x.frm,x.to_,x.row)) (TL Enc.int (TL Enc.int (Enc.sl Enc.int)))
theorem VU:aS U5 DMsg.ds:=TQ (f:=λx:DMsg=>(x.frm,x.to_,x.row)) (TG aS.int (TG aS.int (aS.sl aS.int)))
def DMsg.small(n:Nat)(x:DMsg):Prop:=x.row.length<=n
def DLink.ds(x:DLink):List AD:=[dI x.a,dI x.b]
theorem VT:Enc UF DLink.ds:=TS (f:=λx:DLink=>(x.a,x.b)) (TL Enc.int Enc.int)
theorem VB:aS UF DLink.ds:=TQ (f:=λx:DLink=>(x.a,x.b)) (TG aS.int aS.int)
def DNet.ds(x:DNet):List AD:=[.sl (x.flight.map DMsg.ds),.sl (x.cuts.map DLink.ds)]
theorem Wc:Enc U6 DNet.ds:=TS (f:=λx:DNet=>(x.flight,x.cuts)) (TL (Enc.sl Wb) (Enc.sl VT))
theorem VV:aS U6 DNet.ds:=TQ (f:=λx:DNet=>(x.flight,x.cuts)) (TG (aS.sl VU) (aS.sl VB))
def DNet.small(n:Nat)(x:DNet):Prop:=x.flight.length<=n/\(∀y∈x.flight,DMsg.small n y)/\x.cuts.length<=n
structure DWorld where
 log:DLogNode
 store:DStore
 left:DSched
 right:DSched
 ann:DClient
 bob:DClient
 net:DNet
 clocks:(List Int)
 up:(List Bool)
 deriving DecidableEq
def U8:Rep DWorld:=TP (λx=>(x.log,x.store,x.left,x.right,x.ann,x.bob,x.net,x.clocks,x.up)) (TH Uc (TH Uu (TH Ud (TH Ud (TH T6 (TH T6 (TH U6 (TH (Rep.sl (Rep.int .i64)) (Rep.sl Rep.bool)))))))))
def DWorld.ds(x:DWorld):List AD:=[.sl (x.log.two.a.kept.map cW),.sl (x.log.two.a.wait.map DWrite.ds),.sl (x.log.two.b.kept.map cW),.sl (x.log.two.b.wait.map DWrite.ds),dI x.log.head.num,dI x.log.head.base,dI x.log.head.time,.sl (x.log.head.seen.map DMark.ds),dI x.log.nxt.num,dI x.log.nxt.base,dI x.log.nxt.time,.sl (x.log.nxt.seen.map DMark.ds),dB x.log.more,dI x.log.book.base,dI x.log.book.time,.sl (x.log.book.entries.map DEntry.ds),.sl (x.log.seen.map DMark.ds),dI x.log.durable,.sl (x.log.owe.map DAck.ds),.sl (x.store.disk.kept.map cW),.sl (x.store.disk.wait.map DWrite.ds),dI x.store.state.index,dI x.store.state.time,.sl (x.store.state.pairs.map DPair.ds),.sl (x.store.state.jobs.map DJob.ds),dI x.store.state.lease.holder,dI x.store.state.lease.epoch,dI x.store.state.lease.til,dI x.store.num,dI x.store.last,dI x.store.busy,dI x.left.id,dI x.left.seq,dI x.left.view.jobs.index,dI x.left.view.jobs.time,dI x.left.view.jobs.holder,dI x.left.view.jobs.epoch,dI x.left.view.jobs.til,.sl (x.left.view.jobs.opens.map DDue.ds),dB x.left.busy,dI x.left.op.kind,dI x.left.op.a,dI x.left.op.b,dI x.left.op.c,dI x.left.op.d,dI x.left.index,dI x.right.id,dI x.right.seq,dI x.right.view.jobs.index,dI x.right.view.jobs.time,dI x.right.view.jobs.holder,dI x.right.view.jobs.epoch,dI x.right.view.jobs.til,.sl (x.right.view.jobs.opens.map DDue.ds),dB x.right.busy,dI x.right.op.kind,dI x.right.op.a,dI x.right.op.b,dI x.right.op.c,dI x.right.op.d,dI x.right.index,dI x.ann.id,.sl (x.ann.todo.map DWant.ds),.sl (x.ann.gots.map DGot.ds),dI x.ann.last,dI x.bob.id,.sl (x.bob.todo.map DWant.ds),.sl (x.bob.gots.map DGot.ds),dI x.bob.last,.sl (x.net.flight.map DMsg.ds),.sl (x.net.cuts.map DLink.ds),.sl (x.clocks.map eI),.sl (x.up.map eB)]
theorem Wl:Enc U8 DWorld.ds:=TS (f:=λx:DWorld=>(x.log,x.store,x.left,x.right,x.ann,x.bob,x.net,x.clocks,x.up)) (TL Vi (TL VE (TL UZ (TL UZ (TL UL (TL UL (TL Wc (TL (Enc.sl Enc.int) (Enc.sl Enc.bool)))))))))
theorem Wi:aS U8 DWorld.ds:=TQ (f:=λx:DWorld=>(x.log,x.store,x.left,x.right,x.ann,x.bob,x.net,x.clocks,x.up)) (TG Vb (TG Vr (TG UM (TG UM (TG Uw (TG Uw (TG VV (TG (aS.sl aS.int) (aS.sl aS.bool)))))))))
def DWorld.small(n:Nat)(x:DWorld):Prop:=DLogNode.small n x.log/\DStore.small n x.store/\DSched.small n x.left/\DSched.small n x.right/\DClient.small n x.ann/\DClient.small n x.bob/\DNet.small n x.net/\x.clocks.length<=n/\x.up.length<=n
section
section
variable {α:Type}
def Ow(n:Nat)(ok:Nat->Bool):Bool:=(List.range n).all ok
theorem Ox{n k:Nat}{ok:Nat->Bool}(hk:k<n)(h:ok k=false):Ow n ok=false:=by
 rw[<-Bool.not_eq_true];intro hall;have:=all_eq_true.1 hall k (mem_range.2 hk);rw[h]at this;cases this
theorem Ft{n:Nat}{ok:Nat->Bool}(h:∀k,k<n->ok k=true):Ow n ok=true:=
 all_eq_true.2 λk hk=>h k (mem_range.1 hk)
theorem Nc{n:Nat}{ok:Nat->Bool}(h:Ow n ok=true){k:Nat}(hk:k<n):ok k=true:=all_eq_true.1 h k (mem_range.2 hk)
theorem ru{l:List α}{p:α->Bool}{k:Nat}(hk:k<l.length)(h:p l[k]=false):l.all p=false:=by
 rw[<-Bool.not_eq_true];intro hall;have:=all_eq_true.1 hall _ (List.getElem_mem hk);rw[h]at this;cases this
theorem DW{l:List α}{p:α->Bool}(h:∀(k:Nat) (hk:k<l.length),p l[k]=true):l.all p=true:=by
 refine all_eq_true.2 λx hx=>?_;obtain⟨k,hk,rfl⟩:=List.getElem_of_mem hx;exact h k hk
theorem th{l:List α}{p:α->Bool}(h:l.all p=true){k:Nat}(hk:k<l.length):p l[k]=true:=all_eq_true.1 h _ (List.getElem_mem hk)
def fI(Q:α->α->Bool):List α->Bool
 |x::y::r=>Q x y&&fI Q (y::r)
 |_=>true
theorem iq{Q:α->α->Bool}:∀{l:List α},fI Q l=true->∀{k:Nat} (hk:k+1<l.length),Q (l[k]'(ac)) l[k+1]=true
 |x::y::r,h,k,hk=>by
  simp only[fI,Bool.and_eq_true]at h;cases k with
  |zero=>exact h.1
  |succ k=>exact iq (l:=y::r) h.2 (k:=k) (by simpa using hk)
 |[],_,k,hk=>by simp at hk
 |[x],_,k,hk=>by simp at hk
theorem zN{Q:α->α->Bool}:∀{l:List α},(∀(k:Nat) (hk:k+1<l.length),Q (l[k]'(ac)) l[k+1]=true)->fI Q l=true
 |x::y::r,h=>by
  simp only[fI,Bool.and_eq_true];refine⟨h 0 ai,zN (l:=y::r) λk hk=>?_⟩;have:=h (k+1) (by simpa using hk);simpa using this
 |[],_=>rfl
 |[x],_=>rfl
theorem Ou{Q:α->α->Bool}{l:List α}{k:Nat}(hk:k+1<l.length)(h:Q (l[k]'(ac)) l[k+1]=false):fI Q l=false:=by
 rw[<-Bool.not_eq_true];intro hall;rw[iq hall hk]at h;cases h
def d5(R:α->α->Bool):List α->Bool
 |[]=>true
 |x::r=>r.all (λy=> !R x y)&&d5 R r
theorem oX{R:α->α->Bool}:∀{l:List α},d5 R l=true->∀{j k:Nat} (hj:j<k) (hk:k<l.length),R (l[j]'(ac)) l[k]=false
 |x::r,h,j,k,hj,hk=>by
  simp only[d5,Bool.and_eq_true]at h;match j,k,hj with
  |0,k+1,_=>
   have:=th h.1 (k:=k) (by simpa using hk);simpa using this
  |j+1,k+1,hj=>exact oX (l:=r) h.2 (j:=j) (k:=k) ac (by simpa using hk)
 |[],_,j,k,_,hk=>by simp at hk
theorem ll{R:α->α->Bool}:∀{l:List α},(∀(j k:Nat) (hj:j<k) (hk:k<l.length),R (l[j]'(ac)) l[k]=false)->d5 R l=true
 |[],_=>rfl
 |x::r,h=>by
  simp only[d5,Bool.and_eq_true];refine⟨DW λk hk=>?_,ll λj k hj hk=>?_⟩
  ·have:=h 0 (k+1) ac (by simpa using hk);simpa using this
  ·have:=h (j+1) (k+1) ac (by simpa using hk);simpa using this
theorem rv{R:α->α->Bool}{l:List α}{j k:Nat}(hj:j<k)(hk:k<l.length)(h:R (l[j]'(ac)) l[k]=true):d5 R l=false:=by
 rw[<-Bool.not_eq_true];intro hall;rw[oX hall hj hk]at h;cases h
end
def tOk(t:Int):Bool:=aI t 0 1000000
def bm(l:List Int):Bool:=decide (l.length<=48)&&l.all λx=>aI x 0 1000000000
def ic(n:Nat)(x:DWrite):Bool:=aI x.at_ 0 ((n:Int)-1)&&bm x.row
def bN(d:DDisk):Bool:=decide (1<=d.kept.length)&&decide (d.kept.length<=40)&&decide (d.wait.length<=60)&&d.kept.all bm&&d.wait.all (ic d.kept.length)
def fc(t:DTwo):Bool:=bN t.a&&bN t.b&&decide (t.a.kept.length=t.b.kept.length)
def eV(a b:Int):Bool:=aI a 0 5&&aI b 0 5&&a !=b
def jC(m:DMsg):Bool:=eV m.frm m.to_&&decide (0<m.row.length)&&bm m.row
def cO(x y:DLink):Bool:=decide (x.a<y.a)||(x.a==y.a&&decide (x.b<y.b))
def dT(x:DLink):Bool:=eV x.a x.b&&decide (x.a<=x.b)
def dg(n:DNet):Bool:=decide (n.flight.length<=60)&&decide (n.cuts.length<=15)&&n.flight.all jC&&n.cuts.all dT&&fI cO n.cuts
def cK(l:List Int):Bool:=decide (l.length=6)&&l.all tOk
def nV(x y:DEntry):Bool:=y.index==x.index+1&&decide (x.time<=y.time)
def cX(l:List DEntry):Bool:=decide (l.length<=2000)&&l.all bn&&fI nV l
def bB(b:DBook):Bool:=aI b.base 0 2000&&tOk b.time&& !(b.base==0&&b.time !=0)&&decide (b.entries.length<=20)&&cX b.entries&&(match b.entries with|[]=>true|e::_=>e.index==b.base+1&&decide (b.time<=e.time))
def gv(m:DMark):Bool:=aI m.client 2 5&&aI m.seq 1 2000&&aI m.index 1 2000
def kX(x y:DMark):Bool:=decide (x.client<y.client)
def pf(x y:DMark):Bool:=x.index==y.index
def seenOk(s:List DMark):Bool:=s.all gv&&fI kX s&&d5 pf s
def bx(s:List DMark)(c:Int):DMark:=(s.find? λm=>m.client==c).getD ⟨0,0,0⟩
def bG:List DMark->Int:=List.foldl (λx m=>if m.index>x then m.index else x) 0
def mY(s:List DMark)(e:DEntry):Bool:=decide ((bx s e.client).seq<e.seq)
def DEntry.mark(e:DEntry):DMark:=⟨e.client,e.seq,e.index⟩
def cF(s:List DMark)(m:DMark):List DMark:=s.filter (λx=>decide (x.client<m.client))++m::s.filter (λx=>decide (m.client<x.client))
def cQ(s:List DMark)(e:DEntry):Option (List DMark):=if bn e&&mY s e&&decide (bG s<e.index)then some (cF s e.mark)else none
def bf:List DMark->List DEntry->Option (List DMark)
 |s,[]=>some s
 |s,e::r=>match cQ s e with
  |some s'=>bf s' r
  |none=>none
def bC(s:List DMark)(l:List DEntry):List DMark×Bool:=
 if !seenOk s then([],false)else if 2000<l.length then(s,false)else match bf s l with|some o=>(o,true)|none=>(s,false)
def cT(h:DHead):Bool:=aI h.base 0 2000&&aI h.num 0 h.base&&tOk h.time&&(decide (0<h.base)||h.time==0)&&seenOk h.seen&&bG h.seen==h.base
def dw(t:DTwo):Bool:=fc t&&decide (t.a.kept.length=22)
def aY(b:DBook):Int:=b.base+b.entries.length
def d8:DHead:=⟨0,0,0,[]⟩
def gJ(e:DEntry):DAck:=if bn e then⟨e.client,e.seq,e.index,e.seq⟩else⟨0,0,0,0⟩
def dA(b:DBook)(d:Int):List DEntry:=b.entries.filter λe=>decide (d+1<=e.index)
def vH(b:DBook)(i:Int):List DEntry:=b.entries.take (i-b.base).toNat
def eX(n:DLogNode):DHead:=⟨n.head.num+1,n.nxt.base,(n.book.entries.getD (n.nxt.base-n.book.base-1).toNat ⟨0,0,0,0,⟨0,0,0,0,0⟩⟩).time,(bC n.head.seen (vH n.book n.nxt.base)).1⟩
def fy(n:DLogNode):Bool:=if n.more then aI n.nxt.base (n.head.base+1) n.durable&&n.nxt==eX n else n.nxt==d8
def logOk(n:DLogNode):Bool:=dw n.two&&cT n.head&&bB n.book&&n.book.base==n.head.base&&n.book.time==n.head.time&&bC n.head.seen n.book.entries==(n.seen,true)&&aI n.durable n.book.base (aY n.book)&&n.owe==(dA n.book n.durable).map gJ&&fy n
def iC(n:DLogNode):Bool:=fc n.two&&n==⟨n.two,d8,d8,false,⟨0,0,[]⟩,[],0,[]⟩
def dV(p:DPair):Bool:=aI p.key 0 9&&aI p.value 0 999
def il(x y:DPair):Bool:=decide (x.key<y.key)
def bo(l:List DPair):Bool:=l.all dV&&fI il l
def jV(j:DJob):Bool:=aI j.id 1 20&&tOk j.due&&aI j.key 0 9&&aI j.value 0 999&&aI j.fired 0 2000
def nQ(x y:DJob):Bool:=decide (x.id<y.id)
def pV(x y:DJob):Bool:=y.fired !=0&&x.fired==y.fired
def bu(l:List DJob):Bool:=decide (l.length<=8)&&l.all jV&&fI nQ l&&d5 pV l
def fz(x:Int):Bool:=x==2||x==3
def dD(l:DLease):Bool:=l==⟨0,0,0⟩||(fz l.holder&&aI l.epoch 1 1000&&aI l.til 1 1001000)
def a9(s:DState):Bool:=aI s.index 0 2000&&tOk s.time&&bo s.pairs&&bu s.jobs&&dD s.lease&&s.jobs.all λj=>decide (j.fired<=s.index)
def cS(d:DDisk):Bool:=bN d&&decide (d.kept.length=8)
def storeOk(s:DStore):Bool:=cS s.disk&&a9 s.state&&aI s.num 0 1000000000&&aI s.last 0 s.state.index&&((s.num==0)==(s.last==0))&&(s.busy==0||(decide (s.num<1000000000)&&decide (s.last<s.busy)&&decide (s.busy<=s.state.index)))
def fb:DState:=⟨0,0,[],[],⟨0,0,0⟩⟩
def fk(s:DStore):Bool:=bN s.disk&&s==⟨s.disk,fb,0,0,0⟩
def nH(d:DDue):Bool:=aI d.id 1 20&&tOk d.due
def vG(x y:DDue):Bool:=decide (x.due<y.due)||(x.due==y.due&&decide (x.id<y.id))
def xI(x y:DDue):Bool:=x.id==y.id
def gz(j:DJobs):Bool:=aI j.index 0 2000&&tOk j.time&&(j.holder==0||fz j.holder)&&aI j.epoch 0 1000&&aI j.til 0 1001000&&decide (j.opens.length<=8)&&j.opens.all nH&&fI vG j.opens&&d5 xI j.opens
def op0:DOp:=⟨0,0,0,0,0⟩
def eZ(s:DSched):Bool:=fz s.id&&aI s.seq 0 2000&&gz s.view.jobs&&aI s.index 0 2000&&(if s.busy then s.seq !=0&&lT s.op&&(s.op.kind==4||s.op.kind==5)else s.op==op0)
def fW(id:Int):DSched:=⟨id,0,⟨⟨0,0,0,0,0,[]⟩⟩,false,op0,0⟩
def cY(s:DSched)(id:Int)(up:Bool):Bool:=eZ s&&s.id==id&&(up||s==fW id)
def pS(w:DWant)(g:DGot)(seq last:Int):Bool:=g.seq==seq&&aI g.index last 2000&&(if w.kind==4 then(g.has==0&&g.value==0)||(g.has==1&&aI g.value 0 999)else decide (last<g.index)&&g.has==0&&g.value==0)
def jB(gs:List DGot)(k:Nat):Int:=match k with|0=>0|j+1=>(gs.getD j ⟨0,0,0,0⟩).index
def cr(c:DClient):Bool:=(c.id==4||c.id==5)&&c.todo.all eC&&decide (c.todo.length<=12)&&decide (c.gots.length<=c.todo.length)&&Ow c.gots.length (λk=>pS (c.todo.getD k ⟨0,op0,0⟩) (c.gots.getD k ⟨0,0,0,0⟩) ((k:Int)+1) (jB c.gots k))&&c.last==jB c.gots c.gots.length
def dy(w:DWorld)(k:Nat):Bool:=w.up.getD k false
def bz(w:DWorld):Bool:=cK w.clocks&&decide (w.up.length=6)&&dg w.net&&dy w 4&&dy w 5&&cr w.ann&&w.ann.id==4&&cr w.bob&&w.bob.id==5&&cY w.left 2 (dy w 2)&&cY w.right 3 (dy w 3)&&(if dy w 0 then logOk w.log else iC w.log)&&(if dy w 1 then storeOk w.store else fk w.store)
end
section
variable {d:DDisk}{t:DTwo}{a:Int}{l m r:List Int}{n:Nat}
def tA(s x:Int):Int:=(131*s+x+1).tmod 999999937
def jg(l:List Int):Int:=l.foldl tA 7
theorem Hv{s x:Int}(hs:0<=s/\s<=999999936)(hx:0<=x/\x<=1000000000):0<=tA s x/\tA s x<=999999936:=by
 unfold tA;rw[Int.tmod_eq_emod_of_nonneg ac];omega
theorem fK(h:bm l=true):l.length<=48/\∀x∈l,0<=x/\x<=1000000000:=by
 simp only[bm,aI,and_eq_true,decide_eq_true_eq,List.all_eq_true]at h;exact h
theorem oc(h:l.length<=48/\∀x∈l,0<=x/\x<=1000000000):bm l=true:=by
 simp only[bm,aI,and_eq_true,decide_eq_true_eq,List.all_eq_true];exact h
theorem C9(h:bm l=true)(hl:m.length<=l.length)(hs:∀x∈m,x∈l):bm m=true:=by
 obtain⟨h1,h2⟩:=fK h;exact oc ⟨ac,λx hx=>h2 x (hs x hx)⟩
theorem wC(h:∀x∈l,0<=x/\x<=1000000000):∀k,k<=l.length->0<=jg (l.take k)/\jg (l.take k)<=999999936
 |0,_=>by simp[jg]
 |k+1,hk=>by
  have ih:=wC h k ac;have hlt:k<l.length:=ac;have e:l.take (k+1)=l.take k++[l[k]]:=by rw[List.take_add_one,List.getElem?_eq_getElem hlt];rfl
  rw[e,jg,List.foldl_append];exact Hv ih (h _ (List.getElem_mem hlt))
theorem MK{k:Nat}(hlt:k<l.length):jg (l.take (k+1))=tA (jg (l.take k)) l[k]:=by
 have e:l.take (k+1)=l.take k++[l[k]]:=by rw[List.take_add_one,List.getElem?_eq_getElem hlt];rfl
 rw[e,jg,List.foldl_append];rfl
theorem Oc(h:bm l=true):0<=jg l/\jg l<=999999936:=by
 have:=wC (fK h).2 l.length (Nat.le_refl _);rwa[List.take_length]at this
def eG(l:List Int):List Int:=l++[jg l]
theorem fx(h:bm l=true)(hl:l.length<48):bm (l++[jg l])=true:=by
 obtain⟨_,h2⟩:=fK h;have h3:=Oc h;refine oc ⟨by simp;omega,λx hx=>?_⟩;rcases List.mem_append.1 hx with hx|hx
 ·exact h2 x hx
 ·rw[List.mem_singleton.1 hx];omega
def jW(l:List Int):Option (List Int):=if bm l&& !l.isEmpty&&jg l.dropLast==l.getLastD 0 then some l.dropLast else none
theorem Cb(h:bm l=true)(hl:l.length<48):jW (eG l)=some l:=by
 have h1:=fx h hl;unfold jW eG;simp[h1]
theorem dY(h:jW l=some m):bm m=true/\m.length<48/\l=eG m:=by
 unfold jW at h;split at h
 ·rename_i hc;simp only[and_eq_true,beq_iff_eq]at hc;obtain⟨⟨h1,h2⟩,h3⟩:=hc;injection h with h
  subst h;have hne:l≠ []:=by intro e;simp[e]at h2
  obtain⟨h4,h5⟩:=fK h1;have hpos:0<l.length:=List.length_pos_iff.2 hne;refine⟨C9 h1 ai (λx hx=>List.dropLast_subset _ hx),by simp;omega,?_⟩;unfold eG;rw[h3,List.getLastD_eq_getLast?,List.getLast?_eq_some_getLast hne];exact(List.dropLast_concat_getLast hne).symm
 ·cases h
theorem cz(h:bN d=true):1<=d.kept.length/\d.kept.length<=40/\d.wait.length<=60/\(∀y∈d.kept,bm y=true)/\∀y∈d.wait,ic d.kept.length y=true:=by
 simp only[bN,and_eq_true,decide_eq_true_eq,List.all_eq_true]at h;exact⟨h.1.1.1.1,h.1.1.1.2,h.1.1.2,h.1.2,h.2⟩
theorem iX(h:1<=d.kept.length/\d.kept.length<=40/\d.wait.length<=60/\(∀y∈d.kept,bm y=true)/\∀y∈d.wait,ic d.kept.length y=true):bN d=true:=by
 simp only[bN,and_eq_true,decide_eq_true_eq,List.all_eq_true];exact⟨⟨⟨⟨h.1,h.2.1⟩,h.2.2.1⟩,h.2.2.2.1⟩,h.2.2.2.2⟩
theorem gn{y:DWrite}(h:ic n y=true):(0<=y.at_/\y.at_<=(n:Int)-1)/\bm y.row=true:=by
 simp only[ic,aI,and_eq_true,decide_eq_true_eq]at h;exact h
theorem dl(h:bm l=true):l.length<=48:=(fK h).1
theorem dd(h:bN d=true):DDisk.small 1048576 d:=by
 obtain⟨h1,h2,h3,h4,h5⟩:=cz h;exact⟨ac,λy hy=>by have:=dl (h4 y hy);omega,ac,λy hy=>by
  have:=dl (gn (h5 y hy)).2;show y.row.length<=1048576;omega⟩
def jN(d:DDisk)(a:Int)(r:List Int):DDisk:=⟨d.kept,d.wait++[⟨a,r⟩]⟩
theorem jn(h:bN d=true)(hw:d.wait.length<60)(ha:aI a 0 ((d.kept.length:Int)-1)=true)(hr:bm r=true):bN (jN d a r)=true:=by
 obtain⟨h1,h2,h3,h4,h5⟩:=cz h;refine iX ⟨h1,h2,by simp[jN];omega,h4,λy hy=>?_⟩;simp only[jN,List.mem_append,List.mem_singleton]at hy;rcases hy with hy|rfl
 ·exact h5 y hy
 ·simp[ic,jN,ha,hr]
def N3(k:List (List Int))(x:DWrite):List (List Int):=k.set x.at_.toNat x.row
def rH(k:List (List Int))(l:List DWrite):List (List Int):=l.foldl N3 k
def fD(d:DDisk):DDisk:=⟨rH d.kept d.wait,[]⟩
theorem gd(l:List DWrite):∀k:List (List Int),(rH k l).length=k.length:=by
 induction l with
 |nil=>intro k;rfl
 |cons x r ih=>intro k;show(rH (N3 k x) r).length=_;rw[ih];simp[N3]
theorem z5{k:List (List Int)}{l:List DWrite}{j:Nat}(h:j<l.length):rH k (l.take (j+1))=(rH k (l.take j)).set l[j].at_.toNat l[j].row:=by
 have e:l.take (j+1)=l.take j++[l[j]]:=by rw[List.take_add_one,List.getElem?_eq_getElem h];rfl
 rw[e,rH,List.foldl_append];rfl
theorem If{l:List DWrite}:∀{k:List (List Int)},(∀y∈k,bm y=true)->(∀y∈l,bm y.row=true)->∀y∈rH k l,bm y=true:=by
 induction l with
 |nil=>intro k h _;exact h
 |cons x r ih=>
  intro k h hl;refine ih (k:=N3 k x) (λy hy=>?_) (λy hy=>hl y (List.mem_cons_of_mem _ hy));rcases List.mem_or_eq_of_mem_set hy with hy|rfl
  ·exact h y hy
  ·exact hl x (List.mem_cons_self ..)
theorem iW(h:bN d=true):bN (fD d)=true:=by
 obtain⟨h1,h2,h3,h4,h5⟩:=cz h;exact iX ⟨by rw[fD,gd];exact h1,by rw[fD,gd];exact h2,by simp[fD],If h4 λy hy=>(gn (h5 y hy)).2,by simp[fD]⟩
theorem dr(h:fc t=true):bN t.a=true/\bN t.b=true/\t.a.kept.length=t.b.kept.length:=by
 simp only[fc,and_eq_true,decide_eq_true_eq]at h;exact⟨h.1.1,h.1.2,h.2⟩
theorem oC(h:bN t.a=true/\bN t.b=true/\t.a.kept.length=t.b.kept.length):fc t=true:=by
 simp only[fc,and_eq_true,decide_eq_true_eq];exact⟨⟨h.1,h.2.1⟩,h.2.2⟩
def pR(t:DTwo)(a:Int)(r:List Int):DTwo:=⟨jN t.a a (r++[jg r]),jN t.b a (r++[jg r])⟩
def jr(t:DTwo):DTwo:=⟨fD t.a,fD t.b⟩
theorem DA(h:fc t=true)(h1:t.a.wait.length<60)(h2:t.b.wait.length<60)(ha:aI a 0 ((t.a.kept.length:Int)-1)=true)(hr:bm r=true)(hl:r.length<48):fc (pR t a r)=true:=by
 obtain⟨f1,f2,f3⟩:=dr h;exact oC ⟨jn f1 h1 ha (fx hr hl),jn f2 h2 (by rw[<-f3];exact ha) (fx hr hl),f3⟩
theorem FG(h:fc t=true):fc (jr t)=true:=by
 obtain⟨f1,f2,f3⟩:=dr h;exact oC ⟨iW f1,iW f2,by simp[jr,fD,gd,f3]⟩
def fU(n:Nat):DDisk:=⟨List.replicate n [],[]⟩
theorem pi(h:1<=n/\n<=40):bN (fU n)=true:=by
 refine iX ⟨by simp[fU];omega,by simp[fU];omega,by simp[fU],λy hy=>?_,by simp[fU]⟩;rw[List.eq_of_mem_replicate hy];rfl
def wH:List Int:=[0,0,0,0,0,0,0,0,0,0,0,0,0]
def OL:List Int:=wH++[jg wH]
theorem vh:bm wH=true:=by decide
def C2(k:List (List Int))(l:List DWrite)(a:Int):List Int:=match l.reverse.find? λw=>w.at_==a with|some w=>w.row|none=>k.getD a.toNat []
def my(d:DDisk)(a:Int):List Int:=C2 d.kept d.wait a
def gD(t:DTwo)(a:Int):List (List Int):=match jW (my t.a a),jW (my t.b a)with
 |some x,some y=>if x==y then [x]else [x,y]
 |some x,none=>[x]
 |none,some y=>[y]
 |none,none=>[]
theorem I0:∀r∈gD t a,bm r=true/\r.length<48:=by
 intro r hr;unfold gD at hr;split at hr
 ·rename_i x y e1 e2;split at hr
  ·simp only[List.mem_singleton]at hr;subst hr;exact⟨(dY e1).1,(dY e1).2.1⟩
  ·simp only[List.mem_cons,List.not_mem_nil,or_false]at hr;rcases hr with rfl|rfl
   ·exact⟨(dY e1).1,(dY e1).2.1⟩
   ·exact⟨(dY e2).1,(dY e2).2.1⟩
 ·rename_i e1 e2;simp only[List.mem_singleton]at hr;subst hr;exact⟨(dY e1).1,(dY e1).2.1⟩
 ·rename_i e1 e2;simp only[List.mem_singleton]at hr;subst hr;exact⟨(dY e2).1,(dY e2).2.1⟩
 ·cases hr
end
section
theorem Fo{i:Nat}{o:AO}:∀{l:List (Nat×AO)} {K:List (Nat×AO)->Prop},K (fg l i o)->gI i o l K
 |[],_,h=>h
 |(k,x)::r,K,h=>by
  simp only[gI];unfold fg at h;cases e:Nat.beq k i with
  |true=>rw[if_pos (Nat.eq_of_beq_eq_true e)]at h;exact h
  |false=>rw[if_neg (Nat.ne_of_beq_eq_false e)]at h;exact Fo (l:=r) (K:=λr'=>K ((k,x)::r')) h
theorem HU{K:AV->Prop}:∀{l:List AV} {n:Nat} {x:AV},l[n]? =some x->K x->aTm l n K
 |[],n,x,h,_=>by simp at h
 |y::r,0,x,h,hk=>by simp at h;subst h;exact hk
 |y::r,n+1,x,h,hk=>HU (l:=r) (n:=n) (by simpa using h) hk
theorem Fr{E:a6}{tm:List AV}{ob:List (Nat×AO)}{t:TypeId}{c k s off:Nat}{vv:AV}{o0 o1:AO}(hob:a5 ob c=some o0)(h:qX E ⟨[],[(c,o0)]⟩ t (.one (.ref c k s off)) vv λst=>st=⟨[],[(c,o1)]⟩):
  qX E ⟨tm,ob⟩ t (.one (.ref c k s off)) vv λst=>st=⟨tm,fg ob c o1⟩:=by
 have fin:∀X:AO,(gI c X [(c,o0)] λob=>(⟨[],ob⟩:ASt)=⟨[],[(c,o1)]⟩)->gI c X ob λob'=>(⟨tm,ob'⟩:ASt)=⟨tm,fg ob c o1⟩:=λX hX=>by
  have h1:=ed hX;simp only[fg,if_true,ASt.mk.injEq,List.cons.injEq,Prod.mk.injEq,true_and,and_true]at h1;subst h1;exact Fo rfl
 unfold qX at h⊢;refine(c8 E.T t).mono (λi h=>(oH vv).mono (λvs h=>?_) h) h;cases hl:wU vs i.size with
 |false=>rw[hl]at h;exact h
 |true=>
  rw[hl]at h;obtain⟨o,ho,hk⟩:=bY (l:=[(c,o0)]) (i:=c) h;have:o=o0:=by simp only[a5,if_true,Option.some.injEq]at ho;exact ho.symm
  subst this;refine DO hob ?_;cases o with
  |cells u cs=>
   cases k with
   |zero=>exact(kz cs off vs).mono (λcs' h=>fin _ h) hk
   |succ k=>exact hk
  |row e s' xs=>
   cases hs:Nat.beq s s' with
   |false=>simp only[hs]at hk
   |true=>
    simp only[hs]at hk⊢;obtain⟨k',x,e1,e2,hk⟩:=hk.h;exact⟨⟨k',x,e1,e2,(td x).mono (λx h=>(kz x off vs).mono (λx' h=>(vu x').mono (λx' h=>fin _ h) h) h) hk⟩⟩
  |frame vs us=>exact hk
  |any Q=>exact hk
  |many P Q=>exact hk
structure jh (ops:List Oper) (D:List (List Nat)) (m:Nat):Prop where
 hD:mQ [] ops=D
 lt:m<ops.length
 nd:((List.range m).map (dAt ops)).Nodup
 edge:∀i o,ops[i]? =some o->∀x∈oK o,x<i
 dst:∀i o,i<m->ops[i]? =some o->o.dst=some (dAt ops i)
 tail:∀i,m<i->i<ops.length->∀j,j<i->inD D j i=true
def yH(ops:List Oper)(D:List (List Nat))(m:Nat):Bool:=
 Nat.blt m ops.length&&nodupB ((List.range m).map (dAt ops))&&
 (List.range ops.length).all λi=>match ops[i]? with
  |some o=>((oK o).all λx=>Nat.blt x i)&&(if i<m then o.dst.isSome else(if i=m then true else(List.range i).all λj=>inD D j i))
  |none=>true
theorem vF{ops:List Oper}{D:List (List Nat)}{m:Nat}(hD:mQ [] ops=D)(h:yH ops D m=true):jh ops D m:=by
 simp only[yH,Bool.and_eq_true,all_eq_true]at h;obtain⟨⟨h1,h2⟩,h3⟩:=h;have key:∀i o,ops[i]? =some o->_:=λi o ho=>by
  have hlt:=(List.getElem?_eq_some_iff.1 ho).1;have:=h3 i (mem_range.2 hlt);rw[ho]at this;simp only[Bool.and_eq_true,all_eq_true]at this;exact this
 refine⟨hD,Nat.le_of_ble_eq_true h1,xa h2,λi o ho e he=>?_,λi o hi ho=>?_,λi hi hlt j hj=>?_⟩
 ·exact Nat.le_of_ble_eq_true ((key i o ho).1 e he)
 ·have:=(key i o ho).2;rw[if_pos hi]at this;obtain⟨d,hd⟩:=Option.isSome_iff_exists.1 this;rw[hd];simp[dAt,ho,hd]
 ·have:=(key i ops[i] (getElem?_eq_getElem hlt)).2;rw[if_neg ac,if_neg ac,all_eq_true]at this;exact this j (mem_range.2 hj)
theorem g9{ops:List Oper}{D:List (List Nat)}{m:Nat}(T:jh ops D m){lf:Nat->Bool}(hc:∀j,lf j=true->∀e∈dO ops j,lf e=true){i:Nat}(hi:∀e∈dO ops i,lf e=true){j:Nat}(hj:inD D j i=true):lf j=true:=by
 have:=mR ops (λj=>lf j=true) hc ops [] (λk=>by simp) (λj hj=>absurd hj (Nat.not_lt_zero _)) i hi j;rw[T.hD]at this;refine this ?_;simpa[inD]using hj
section
variable {E:a6} {S:bj} {ops:List Oper} {D:List (List Nat)} {R:List (AV×Option AO)} {n0:Nat} {st0 st:ASt}
theorem jh.le{ops:List Oper}{D:List (List Nat)}{m:Nat}(T:jh ops D m):m<=ops.length:=Nat.le_of_lt T.lt
theorem Fv{D:List (List Nat)}{ops:List Oper}(T:jh ops D n0)(hl:IF ops n0 st0.tm.length=true)(hno:noB ops D R n0 st0=true):DBase ops D R n0 st0:=by
 simp only[IF,all_eq_true]at hl;simp only[noB,all_eq_true]at hno;have hno':∀i,i<n0->∀o,oAt R i=some o->_:=λi hi o ho=>by
  have:=hno i (mem_range.2 hi);rw[ho]at this;simp only[Bool.and_eq_true,all_eq_true]at this;exact this
 refine⟨T.le,T.nd,T.dst,λj hj=>Nat.le_of_ble_eq_true (hl j (mem_range.2 hj)),λj hj hne=>?_,λi hi hne=>?_,λi j hi hj hne hd hji=>?_⟩
 ·obtain⟨o,ho⟩:=Option.ne_none_iff_exists'.1 hne;have:=(hno' j hj o ho).1.1.1;simpa using this
 ·obtain⟨o,ho⟩:=Option.ne_none_iff_exists'.1 hne;have:=hno' i hi o ho;exact⟨this.1.1.2,this.1.2⟩
 ·obtain⟨o,ho⟩:=Option.ne_none_iff_exists'.1 hne;have:=(hno' i hi o ho).2 j (mem_range.2 hj);simp only[hd,Bool.false_or,Bool.or_eq_true,Bool.and_eq_true]at this;rcases this with this|⟨h1,h2⟩
  ·exact absurd (Nat.eq_of_beq_eq_true this) hji
  ·refine⟨h1,λo' ho'=>?_⟩;rw[ho']at h2;exact h2
theorem OY(he:E.Ok){D:List (List Nat)}{ops:List Oper}(T:jh ops D n0){i:Nat}{o:Oper}(hi:i<n0){r:AV×Option AO}(hr:R[i]? =some r)(hfact:J6 E D (ops.take n0) R st0 i o r):gH E S D R n0 (stP ops D R n0 st0 i) i o:=by
 have hv:vAt R i=r.1:=by simp[vAt,List.getD,hr]
 have hoo:oAt R i=r.2:=by simp[oAt,List.getD,hr]
 have free:(Cg D (ops.take n0) R i st0 λP=>kB E o P λv oo=>v=r.1/\oo=r.2)->mi E S o (stP ops D R n0 st0 i) (vAt R i) (oAt R i):=λh=>by
  rw[hv,hoo];exact z7 he (wQ T.le h)
 unfold gH;unfold J6 at hfact;cases hg:o.guard with
 |none=>
  rw[hg]at hfact;exact free hfact
 |some gw=>
  obtain⟨g,want⟩:=gw;rw[hg]at hfact;obtain⟨h1,h2,h3⟩:=hfact;obtain⟨rg,hrg,h3⟩:=d4 h3;have hgn:g<n0:=by
   have h4:g<(ops.take n0).length:=Nat.le_of_ble_eq_true h2;simp at h4;omega
  refine⟨hgn,h1,?_⟩;have hvg:vAt R g=rg.1:=by simp[vAt,List.getD,hrg]
  split at h3
  ·rename_i p hp;refine .inl ⟨p,by rw[hvg,hp],?_⟩;cases p with
   |true=>
    have h:=h3.t rfl;cases want with
    |true=>exact .inl ⟨rfl,free h⟩
    |false=>exact .inr ⟨by simp,by rw[hv,show r=(.one .und,none)from h],by rw[hoo,show r=(.one .und,none)from h]⟩
   |false=>
    have h:=h3.f rfl;cases want with
    |false=>exact .inl ⟨rfl,free h⟩
    |true=>exact .inr ⟨by simp,by rw[hv,show r=(.one .und,none)from h],by rw[hoo,show r=(.one .und,none)from h]⟩
  ·exact h3.elim
theorem vM(T:jh ops D n0){i j:Nat}(hi:i<ops.length)(h:inD D j i=true):j<i:=by
 have:=g9 T (lf:=λj=>decide (j<i)) (λk hk e he=>?_) (i:=i) (λe he=>?_) h
 ·simpa using this
 ·have hki:k<i:=by simpa using hk
  rw[bw (getElem?_eq_getElem (by omega:k<ops.length))]at he;have:=T.edge k _ (getElem?_eq_getElem ac) _ he;simp;omega
 ·rw[bw (getElem?_eq_getElem hi)]at he;have:=T.edge i _ (getElem?_eq_getElem hi) _ he;simpa using this
theorem gH.keepF(T:jh ops D n0){R:List (AV×Option AO)}{i k:Nat}{o:Oper}{x:AV×Option AO}(hi:i<k)(hil:i<ops.length)(h:gH E S D R n0 (stP ops D R n0 st i) i o):gH E S D (R.set k x) n0 (stP ops D (R.set k x) n0 st i) i o:=by
 have hlt:∀j,inD D j i=true->j≠k:=λj hj e=>by have:=vM T hil hj;omega
 have e:stP ops D (R.set k x) n0 st i=stP ops D R n0 st i:=wB λj hj=>⟨kw (hlt j hj),tq (hlt j hj)⟩;have e1:vAt (R.set k x) i=vAt R i:=kw ac;have e2:oAt (R.set k x) i=oAt R i:=tq ac;unfold gH at h⊢;rw[e,e1,e2];cases hg:o.guard with
 |none=>rw[hg]at h;exact h
 |some gw=>
  obtain⟨g,want⟩:=gw;rw[hg]at h;obtain⟨h1,h2,h3⟩:=h;refine⟨h1,h2,?_⟩;rw[kw (hlt g h2)];exact h3
theorem zX(he:E.Ok)(T:jh ops D n0){K:List (AV×Option AO)->Prop}:∀(rest:List Oper) (i:Nat) (R:List (AV×Option AO)),(∀k,(ops.take n0)[i+k]? =rest[k]?)->R.length=n0->
  (∀j o,j<i->ops[j]? =some o->gH E S D R n0 (stP ops D R n0 st j) j o)->eS E (ops.take n0) st rest ((List.range' i rest.length).map λi=>(List.range n0).map (flP D i)) i R K->∃RA,K RA/\∀j o,j<n0->ops[j]? =some o->gH E S D RA n0 (stP ops D RA n0 st j) j o
 |[],i,R,hr,hl,hf,h=>by
  refine⟨R,h,λj o hj ho=>hf j o ?_ ho⟩;have:=hr 0;simp only[Nat.add_zero,List.getElem?_nil]at this;have h2:=List.getElem?_eq_none_iff.1 this;have:=T.le;simp at h2;omega
 |o::rest,i,R,hr,hl,hf,h=>by
  have h0:=hr 0;simp only[Nat.add_zero,List.getElem?_cons_zero]at h0;have hi:i<n0:=by
   have:=(List.getElem?_eq_some_iff.1 h0).1;simp at this;omega
  have hio:ops[i]? =some o:=by
   rw[List.getElem?_take,if_pos hi]at h0;exact h0
  have hil:i<ops.length:=(List.getElem?_eq_some_iff.1 hio).1;have hr':∀k,(ops.take n0)[i+1+k]? =rest[k]? :=λk=>by
   have:=hr (k+1);rw[show i+1+k=i+(k+1)by omega];simpa using this
  have next:∀x:AV×Option AO,eS E (ops.take n0) st rest ((List.range' (i+1) rest.length).map λi=>(List.range n0).map (flP D i)) (i+1) (R.set i x) K->gH E S D (R.set i x) n0 (stP ops D (R.set i x) n0 st i) i o->∃RA,K RA/\∀j o,j<n0->ops[j]? =some o->gH E S D RA n0 (stP ops D RA n0 st j) j o:=λx hk hd=>
   zX he T rest (i+1) (R.set i x) hr' (by simpa using hl) (λj o' hj ho'=>by
    rcases Nat.lt_succ_iff_lt_or_eq.1 hj with hj|hj
    ·exact(hf j o' hj ho').keepF T hj ac
    ·subst hj;rw[hio]at ho';injection ho' with ho'
     subst ho';exact hd) hk
  have eP:∀x:AV×Option AO,stP ops D (R.set i x) n0 st i=stP ops D R n0 st i:=λx=>wB λj hj=>by
   have:=vM T hil hj;exact⟨kw ac,tq ac⟩
  have free:(qT ((List.range n0).map (flP D i)) (ops.take n0) R st λP=>kB E o P λv oo=>mp R i (v,oo) λR=>eS E (ops.take n0) st rest ((List.range' (i+1) rest.length).map λi=>(List.range n0).map (flP D i)) (i+1) R K)->∃x:AV×Option AO,mi E S o (stP ops D R n0 st i) x.1 x.2/\eS E (ops.take n0) st rest ((List.range' (i+1) rest.length).map λi=>(List.range n0).map (flP D i)) (i+1) (R.set i x) K:=λh=>by
   have hlen:(ops.take n0).length=n0:=by have:=T.le;simp;omega
   have h1:=wQ T.le (xx (by rw[hlen];exact h));obtain⟨v,oo,h2,h3⟩:=CE he h1;exact⟨(v,oo),h2,j5 h3⟩
  rw[List.length_cons,List.range'_succ,List.map_cons]at h;unfold eS at h;cases hg:o.guard with
  |none=>
   rw[hg]at h;obtain⟨x,hx,hk⟩:=free h;refine next x hk ?_;unfold gH;rw[hg,eP,sY ac,sx ac];exact hx
  |some gw=>
   obtain⟨g,want⟩:=gw;rw[hg]at h;obtain⟨f,hf1,h3⟩:=d4 h;have hf0:f=flP D i g:=by
    rw[List.getElem?_map]at hf1;obtain⟨g',hg',rfl⟩:=Option.map_eq_some_iff.1 hf1;have:=List.getElem?_eq_some_iff.1 hg';obtain⟨_,e⟩:=this;simp at e;rw[e]
   split at h3
   case h_2=>exact h3.elim
   have h1:inD D g i=true:=xK hf0.symm;obtain⟨rg,hrg,h3⟩:=d4 h3;have hgi:=vM T hil h1;have hvg:∀x:AV×Option AO,vAt (R.set i x) g=rg.1:=λx=>by
    rw[kw ac];unfold vAt;rw[List.getD_eq_getElem?_getD,hrg];rfl
   split at h3
   ·rename_i p hp;have run:(p=want)->(qT ((List.range n0).map (flP D i)) (ops.take n0) R st λP=>kB E o P λv oo=>mp R i (v,oo) λR=>eS E (ops.take n0) st rest ((List.range' (i+1) rest.length).map λi=>(List.range n0).map (flP D i)) (i+1) R K)->∃RA,K RA/\∀j o,j<n0->ops[j]? =some o->gH E S D RA n0 (stP ops D RA n0 st j) j o:=λe h=>by
     obtain⟨x,hx,hk⟩:=free h;refine next x hk ?_;unfold gH;rw[hg,eP,sY ac,sx ac];exact⟨ac,h1,.inl ⟨p,by rw[hvg,hp],.inl ⟨e,hx⟩⟩⟩
    have skip:(p≠want)->(mp R i (.one .und,none) λR=>eS E (ops.take n0) st rest ((List.range' (i+1) rest.length).map λi=>(List.range n0).map (flP D i)) (i+1) R K)->∃RA,K RA/\∀j o,j<n0->ops[j]? =some o->gH E S D RA n0 (stP ops D RA n0 st j) j o:=λe h=>by
     refine next (.one .und,none) (j5 h) ?_;unfold gH;rw[hg,eP,sY ac,sx ac];exact⟨ac,h1,.inl ⟨p,by rw[hvg,hp],.inr ⟨e,rfl,rfl⟩⟩⟩
    cases p with
    |true=>
     have h:=h3.t rfl;cases want with
     |true=>exact run rfl h
     |false=>exact skip ai h
    |false=>
     have h:=h3.f rfl;cases want with
     |true=>exact skip ai h
     |false=>exact run rfl h
   ·rename_i hp;refine next (.one .und,none) (j5 h3) ?_;unfold gH;rw[hg,eP,sY ac,sx ac];exact⟨ac,h1,.inr ⟨by rw[hvg,hp],rfl,rfl⟩⟩
   ·exact h3.elim
end
structure Flt (E:a6) (S:bj) (ops:List Oper) (D:List (List Nat)) (m:Nat) (R0 R1:List (AV×Option AO)) (st0 st1:ASt):Prop where
 F0:wL E S ops D R0 m st0
 B1:DBase ops D R1 m st1
 out1:∀i o,i<m->inD D i m=false->ops[i]? =some o->gH E S D R1 m (stP ops D R1 m st1 i) i o
 step:∀o,ops[m]? =some o->o.guard=none/\∀l:Nat->Bool,(∀j,inD D j m=true->l j=true)->∀a w,dS E.W S (stS ops R0 m st0 l) a w->∀Q,Oper.wp E.P o a w (λa' w'=>dS E.W S (stS ops R1 m st1 l) a' w') Q
section
variable {E:a6} {S:bj} {ops:Array Oper} {n0:Nat} {st0 st1:ASt} {R0 R1:List (AV×Option AO)} {K:ASt->Prop} {Q:Exit->Act->World->Prop}
theorem nZ{listed:Array Bool}(hs:listed.size=ops.size){i:Nat}:
  i∈Region.ready .any ops listed↔i<ops.size/\bS listed i=false/\∀e∈dO ops.toList i,bS listed e=true:=by
 rw[mem_ready];constructor
 ·rintro⟨h1,o,ho,h2⟩;have hlt:=(Array.getElem?_eq_some_iff.1 ho).1;refine⟨hlt,?_,λe he=>?_⟩
  ·simp only[bS,Array.getD_eq_getD_getElem?]at h1⊢;rw[Array.getElem?_eq_getElem ac]at h1⊢;simpa using h1
  ·rw[bw (by simpa using ho)]at he;obtain⟨e',he',rfl⟩:=List.mem_map.1 he;obtain⟨hm,hb⟩:=List.mem_filter.1 he';exact h2 e' (by simpa using hm) hb
 ·rintro⟨hlt,h1,h2⟩;refine⟨?_,ops[i],Array.getElem?_eq_getElem hlt,λe he hb=>?_⟩
  ·simp only[bS,Array.getD_eq_getD_getElem?]at h1⊢;rw[Array.getElem?_eq_getElem ac]at h1⊢;simpa using h1
  ·refine h2 _ ?_;rw[bw (o:=ops[i]) (by simp[hlt])];exact List.mem_map.2 ⟨e,List.mem_filter.2 ⟨by simpa using he,hb⟩,rfl⟩
theorem Ia(he:E.Ok){D:List (List Nat)}(T:jh ops.toList D n0)(hQ:∀a w,(∃st',dS E.W S st' a w/\K st')->Q .normal a w):
  ∀(fuel m:Nat) (listed:Array Bool) (st:ASt) (a:Act) (w:World),listed.size=ops.size->n0<m->(∀j,j<ops.size->bS listed j=decide (j<m))->ops.size-m<=fuel->dS E.W S st a w->tL E S ops.toList (ops.toList.drop m) st K->wpAny E.P .any ops Q fuel listed a w:=by
 intro fuel;induction fuel with
 |zero=>
  intro m listed st a w hs hm hl hf h hk;rw[List.drop_eq_nil_of_le al]at hk;refine⟨?_,hQ a w ⟨st,h,hk⟩⟩;rw[List.eq_nil_iff_forall_not_mem];intro i hi;obtain⟨h1,h2,_⟩:=(nZ hs).1 hi;rw[hl i h1]at h2;simp at h2;omega
 |succ fuel ih=>
  intro m listed st a w hs hm hl hf h hk;have hready:∀i,i∈Region.ready .any ops listed↔i=m/\m<ops.size:=by
   intro i;rw[nZ hs];constructor
   ·rintro⟨h1,h2,h3⟩;rw[hl i h1]at h2;simp at h2;have hc:∀j,bS listed j=true->∀e∈dO ops.toList j,bS listed e=true:=by
     intro j hj e hej;by_cases hjs:j<ops.size
     ·rw[hl j hjs]at hj;rw[bw (o:=ops[j]) (by simp[hjs])]at hej;have:=T.edge j ops[j] (by simp[hjs]) _ hej;rw[hl _ ac];simp at hj⊢;omega
     ·simp[bS,Array.getD_eq_getD_getElem?,Array.getElem?_eq_none (show listed.size<=j by omega)]at hj
    refine⟨?_,ac⟩;apply Nat.le_antisymm _ h2;apply Nat.le_of_not_lt;intro hlt;have:=g9 T hc h3 (T.tail i ac (by simpa using h1) m hlt);rw[hl m ac]at this;simp at this
   ·rintro⟨rfl,h1⟩;refine⟨h1,by rw[hl i h1];simp,λe hej=>?_⟩;rw[bw (o:=ops[i]) (by simp[h1])]at hej;have:=T.edge i ops[i] (by simp[h1]) _ hej;rw[hl _ ac];simpa using this
  refine⟨λhnil=>?_,λi hi=>?_⟩
  ·have:ops.size<=m:=by
    apply Nat.le_of_not_lt;intro hlt;have:=(hready m).2 ⟨rfl,hlt⟩;rw[hnil]at this;cases this
   rw[List.drop_eq_nil_of_le (by simpa using this)]at hk;exact hQ a w ⟨st,h,hk⟩
  ·obtain⟨rfl,hlt⟩:=(hready i).1 hi;rw[List.drop_eq_getElem_cons (by simpa using hlt)]at hk;unfold wpOp;rw[Array.getElem?_eq_getElem hlt];have next:∀st' a' w',dS E.W S st' a' w'->tL E S ops.toList (ops.toList.drop (i+1)) st' K->wpAny E.P .any ops Q fuel (listed.setIfInBounds i true) a' w':=by
    intro st' a' w' h' hk';refine ih (i+1) _ st' a' w' (by simpa using hs) ac (λj hj=>?_) ac h' hk';rw[kO ac];simp only[];rw[hl j hj];by_cases hji:j=i
    ·subst hji;simp[Nat.beq_refl]
    ·have:Nat.beq j i=false:=by
      cases h':Nat.beq j i with
      |false=>rfl
      |true=>exact absurd (Nat.eq_of_beq_eq_true h') hji
     simp[this];omega
   obtain⟨Z,ρ,h⟩:=h;simp only[Array.getElem_toList]at hk;rcases iE h hk with⟨hw,st',hs',hk⟩|⟨hw,st',hs',hk⟩
   ·simp only[Array.toArray_toList]at hw;simp only[hw,if_true];refine .inl (Oper.wp_mono (λa' w' h'=>?_) (nC he hs' hk Q));obtain⟨st2,h2,hk2⟩:=h';exact next st2 a' w' h2 hk2
   ·simp only[Array.toArray_toList]at hw;simp only[hw,Bool.false_eq_true,if_false];have:=hs'.put ops[i].dst (x:= .one .und) (v:=undef) (.one _ _ (show dZ Z w ρ .und undef from rfl));exact next _ _ w ⟨Z,ρ,this⟩ (fB hk)
theorem H9(he:E.Ok){D:List (List Nat)}{m:Nat}(T:jh ops.toList D m)(F:Flt E S ops.toList D m R0 R1 st0 st1)(hQ:∀a w,(∃st',dS E.W S st' a w/\K st')->Q .normal a w)
  (ht:ur (ops.toList.take m) R1 st1 λst=>tL E S ops.toList (ops.toList.drop (m+1)) st K):
  ∀(fuel:Nat) (listed:Array Bool) (a:Act) (w:World),listed.size=ops.size->(∀j,m<j->bS listed j=false)->(∀j,bS listed j=true->∀e∈dO ops.toList j,bS listed e=true)->lI (bS listed) ops.size<=fuel->
   (bS listed m=false->dS E.W S (stS ops.toList R0 m st0 (bS listed)) a w)->(bS listed m=true->dS E.W S (stS ops.toList R1 m st1 (bS listed)) a w)->wpAny E.P .any ops Q fuel listed a w:=by
 intro fuel;have hle:m<=ops.toList.length:=T.le;have hlt0:m<ops.toList.length:=T.lt;have hle':m<ops.size:=by simpa using hlt0
 induction fuel with
 |zero=>
  intro listed a w hs htl hc hf h0 h1;have hall:=wZ (Nat.le_zero.1 hf);have h:=h1 (hall m hle');have hn0:ops.size<=m+1:=by
   apply Nat.le_of_not_lt;intro hlt;have h1:=hall (m+1) hlt;rw[htl (m+1) ac]at h1;cases h1
  refine⟨?_,hQ a w ⟨_,h,?_⟩⟩
  ·rw[List.eq_nil_iff_forall_not_mem];intro i hi;obtain⟨h1,h2,_⟩:=(nZ hs).1 hi;rw[hall i h1]at h2;cases h2
  ·have:=oG hle ht;rw[List.drop_eq_nil_of_le (by simpa using hn0)]at this;have e:stS ops.toList R1 m st1 (bS listed)=stS ops.toList R1 m st1 λ_=>true:=oA λj hj=>by rw[hall j ac]
   rw[e];exact this
 |succ fuel ih=>
  intro listed a w hs htl hc hf h0 h1;by_cases hall:∀j,j<m+1->bS listed j=true
  ·have h:=h1 (hall m ac);have e:stS ops.toList R1 m st1 (bS listed)=stS ops.toList R1 m st1 λ_=>true:=oA λj hj=>by rw[hall j ac]
   rw[e]at h;have h2:=D0 (m:=m+1) (λj hj=>htl j ac) (n:=ops.size);refine Ia he T hQ (fuel+1) (m+1) listed _ a w hs ac (λj hj=>?_) ac h (oG hle ht);by_cases hj0:j<m+1
   ·rw[hall j hj0];simp[hj0]
   ·rw[htl j ac];simp[hj0]
  ·refine⟨λhnil=>?_,λi hi=>?_⟩
   ·exfalso;apply hall;intro j;induction j using Nat.strongRecOn with
    |ind j ihj=>
     intro hj;cases hlj:bS listed j with
     |true=>rfl
     |false=>
      have:j∈Region.ready .any ops listed:=(nZ hs).2 ⟨ac,hlj,λe hej=>by
       have hjs:j<ops.size:=ac;rw[bw (o:=ops[j]) (by simp[hjs])]at hej;have:=T.edge j ops[j] (by simp[hjs]) _ hej;exact ihj _ this ac⟩
      rw[hnil]at this;cases this
   ·obtain⟨hlt,hli,haf⟩:=(nZ hs).1 hi;have hi0:i<=m:=by
     apply Nat.le_of_not_lt;intro hge;apply hall;intro j hj;exact g9 T hc haf (T.tail i hge (by simpa using hlt) j ac)
    have hDl:∀j,inD D j i=true->bS listed j=true:=λj hj=>g9 T hc haf hj;have hAl:∀j,j<m->inD D i j=true->bS listed j=false:=λj _ hj=>by
     cases hlj:bS listed j with
     |false=>rfl
     |true=>
      have:=g9 T hc (hc j hlj) hj;rw[hli]at this;cases this
    have hget:ops.toList[i]? =some ops[i]:=by simp[hlt]
    have elf:=kO (listed:=listed) (i:=i) ac;have next:∀a' w',(bS listed m=false->i≠m->dS E.W S (stS ops.toList R0 m st0 λj=>bS listed j||Nat.beq j i) a' w')->(bS listed m=true\/i=m->dS E.W S (stS ops.toList R1 m st1 λj=>bS listed j||Nat.beq j i) a' w')->wpAny E.P .any ops Q fuel (listed.setIfInBounds i true) a' w':=λa' w' h0' h1'=>by
     have bim:Nat.beq m i=true↔i=m:=⟨λe=>(Nat.eq_of_beq_eq_true e).symm,λe=>by rw[e];exact Nat.beq_refl m⟩;refine ih _ a' w' (by simpa using hs) (λj hj=>?_) (λj hj e' hej=>?_) ?_ (λhm=>?_) (λhm=>?_)
     ·rw[elf];simp only[htl j hj,Bool.false_or];cases hb:Nat.beq j i with
      |false=>rfl
      |true=>have:=Nat.eq_of_beq_eq_true hb;omega
     ·rw[elf]at hj⊢;simp only[Bool.or_eq_true]at hj⊢;rcases hj with hj|hj
      ·exact .inl (hc j hj e' hej)
      ·rw[Nat.eq_of_beq_eq_true hj]at hej;exact .inl (haf e' hej)
     ·rw[elf];have:=(tk hli (n:=ops.size)).2 hlt;omega
     ·rw[elf]at hm⊢;simp only[Bool.or_eq_false_iff]at hm;exact h0' hm.1 (λe=>by rw[bim.2 e]at hm;exact absurd hm.2 ai)
     ·rw[elf]at hm⊢;simp only[Bool.or_eq_true]at hm;exact h1' (hm.imp_right bim.1)
    by_cases him:i=m
    ·subst him;obtain⟨hgu,hst⟩:=F.step ops[i] hget;unfold wpOp;rw[Array.getElem?_eq_getElem hlt];simp only;have hw:Region.wanted ops[i] (yielded ops a.tmps)=true:=by simp[Region.wanted,hgu]
     rw[if_pos hw];refine .inl (Oper.wp_mono (λa' w' h'=>?_) (hst (bS listed) hDl a w (h0 hli) Q));refine next a' w' (λ_ hne=>absurd rfl hne) λ_=>?_;have e:stS ops.toList R1 i st1 (λj=>bS listed j||Nat.beq j i)=stS ops.toList R1 i st1 (bS listed):=oA λj hj=>by
      have:Nat.beq j i=false:=by
       cases hb:Nat.beq j i with
       |false=>rfl
       |true=>have:=Nat.eq_of_beq_eq_true hb;omega
      rw[this,Bool.or_false]
     rw[e];exact h'
    ·have hi1:i<m:=ac;cases hlm:bS listed m with
     |false=>
      have step:=CH (Kont:=wpAny E.P .any ops Q fuel (listed.setIfInBounds i true)) (Q:=Q) F.F0 hi1 hget hli hDl hAl (h0 hlm) λa' w' h'=>next a' w' (λ_ _=>h') λhm=>by
       rcases hm with hm|hm
       ·rw[hlm]at hm;cases hm
       ·exact absurd hm him
      simp only[Array.toArray_toList]at step;unfold wpOp;rw[Array.getElem?_eq_getElem hlt];simp only;split
      ·rename_i hw;exact .inl (step.1 hw)
      ·rename_i hw;exact step.2 (by simpa using hw)
     |true=>
      have hnm:inD D i m=false:=by
       cases hx:inD D i m with
       |false=>rfl
       |true=>
        have:=g9 T hc (hc m hlm) hx;rw[hli]at this;cases this
      have step:=zZ (Kont:=wpAny E.P .any ops Q fuel (listed.setIfInBounds i true)) (Q:=Q) F.B1 hi1 hget hli hDl hAl (KZ (D:=D) F.B1.nd F.B1.len F.B1.ob hli (λj _ h=>hDl j h) hAl) (F.out1 i _ hi1 hnm hget) (h1 hlm) λa' w' h'=>next a' w' (λhm=>by rw[hlm]at hm;cases hm) λ_=>h';simp only[Array.toArray_toList]at step;unfold wpOp;rw[Array.getElem?_eq_getElem hlt];simp only;split
      ·rename_i hw;exact .inl (step.1 hw)
      ·rename_i hw;exact step.2 (by simpa using hw)
theorem Vn(he:E.Ok){K:Exit->ASt->Prop}{id m:Nat}{D:List (List Nat)}(T:jh ops.toList D m)(F:Flt E S ops.toList D m R0 R1 st0 st1)
  (ht:ur (ops.toList.take m) R1 st1 λst=>tL E S ops.toList (ops.toList.drop (m+1)) st (K .normal)):AWP E S (.region id ops true) K st0:=by
 refine⟨λa w hs=>wp_region_any he.mixed ?_⟩;have hg:w.grownBy {w with drawn:=w.drawn+1} none:=⟨rfl,rfl,rfl,Nat.le_refl _,λb hb _=>rfl⟩;have e1:∀j,bS (Array.replicate ops.size false) j=false:=λj=>by
  simp[bS,Array.getD_eq_getD_getElem?,Array.getElem?_replicate];split<;>rfl
 refine H9 (Q:=λe a' w'=>∃st',dS E.W S st' a' w'/\K e st') he T F (λa w h=>h) ht ops.size (Array.replicate ops.size false) a _ ai (λj _=>e1 j) (λj hj=>?_) ?_ (λ_=>?_) (λhm=>?_)
 ·rw[e1]at hj;cases hj
 ·have:∀(lf:Nat->Bool) n,lI lf n<=n:=λlf n=>by
   induction n with
   |zero=>exact Nat.le_refl _
   |succ n ih=>simp only[lI];split<;>omega
  exact this _ _
 ·obtain⟨Z,ρ,hs⟩:=hs;have e:stS ops.toList R0 m st0 (bS (Array.replicate ops.size false))=st0:=by
   have e2:(List.range m).filterMap (upS ops.toList R0 (bS (Array.replicate ops.size false)))=[]:=by
    rw[List.filterMap_eq_nil_iff];intro j _;simp[upS,e1]
   have e3:(List.range m).filterMap (obF ops.toList R0 (bS (Array.replicate ops.size false)))=[]:=by
    rw[List.filterMap_eq_nil_iff];intro j _;simp[obF,e1]
   simp[stS,e2,e3,iA]
  rw[e];exact⟨Z,ρ,hs.grow hg (λ_ h=>h) λ_ h=> .inl h⟩
 ·rw[e1]at hm;cases hm
end
def vp(E:a6)(D:List (List Nat))(pre:List Oper)(R:List (AV×Option AO))(st:ASt)(m:Nat):List Oper->List (AV×Option AO)->Nat->Prop
 |[],[],_=>True
 | o :: ops, r :: rs, i => (match inD D i m with
  |true=>True
  |false=>J6 E D pre R st i o r)/\vp E D pre R st m ops rs (i+1)
 |_,_,_=>False
theorem xw{E:a6}{D:List (List Nat)}{pre:List Oper}{R:List (AV×Option AO)}{st:ASt}{m:Nat}:∀{ops:List Oper} {rs:List (AV×Option AO)} {i:Nat},vp E D pre R st m ops rs i->∀k o,ops[k]? =some o->inD D (i+k) m=false->∃r,rs[k]? =some r/\J6 E D pre R st (i+k) o r
 |[],_,_,_,k,o,h,_=>by simp at h
 |o'::ops,[],_,h,k,o,_,_=>h.elim
 |o'::ops,r::rs,i,h,k,o,ho,hn=>by
  cases k with
  |zero=>
   simp at ho;subst ho;have h1:=h.1;rw[show i+0=i from rfl]at hn;rw[hn]at h1;exact⟨r,rfl,h1⟩
  |succ k=>
   obtain⟨r',h1,h2⟩:=xw h.2 k o (by simpa using ho) (by rwa[show i+1+k=i+(k+1)by omega]);exact⟨r',by simpa using h1,by rwa[show i+(k+1)=i+1+k by omega]⟩
section
variable {E:a6} {S:bj} {ops:List Oper} {D:List (List Nat)} {R0 R1:List (AV×Option AO)} {m:Nat} {st0 st1:ASt}
theorem P6(hv:∀j,j<m->vAt R1 j=vAt R0 j)(ht:st1.tm=st0.tm)(l:Nat->Bool):(stS ops R1 m st1 l).tm=(stS ops R0 m st0 l).tm:=by
 have e:(List.range m).filterMap (upS ops R1 l)=(List.range m).filterMap (upS ops R0 l):=tn λj hj=>by simp only[upS,hv j (mem_range.1 hj)]
 show iA st1.tm ((List.range m).filterMap (upS ops R1 l))=iA st0.tm ((List.range m).filterMap (upS ops R0 l));rw[e,ht]
theorem PM(he:E.Ok)(T:jh ops D m)(F0:wL E S ops D R0 m st0)(B1:DBase ops D R1 m st1){t:TypeId}{jx jv dx dv c k s off:Nat}{o0 o1:AO}
  (hop:∃o,ops[m]? =some o/\o.op= .store t (.tmp dx) (.tmp dv)/\o.dst=none/\o.guard=none) (hdx:dAt ops jx=dx) (hdv:dAt ops jv=dv) (hjx:inD D jx m=true) (hjv:inD D jv m=true)
  (hv:∀j,j<m->vAt R1 j=vAt R0 j) (ht:st1.tm=st0.tm) (hvx:vAt R0 jx= .one (.ref c k s off)) (hst:qX E ⟨[],[(c,o0)]⟩ t (.one (.ref c k s off)) (vAt R0 jv) λst=>st=⟨[],[(c,o1)]⟩)
  (hget:∀l:Nat->Bool,(∀j,inD D j m=true->l j=true)->a5 (stS ops R0 m st0 l).ob c=some o0)
  (hsub:∀l:Nat->Bool,(∀j,inD D j m=true->l j=true)->aK (fg (stS ops R0 m st0 l).ob c o1) (stS ops R1 m st1 l).ob)
  (hl:R1.length=m) (hf:vp E D (ops.take m) R1 st1 m (ops.take m) R1 0):Flt E S ops D m R0 R1 st0 st1:=by
 refine⟨F0,B1,λi o hi hn ho=>?_,λo ho=>?_⟩
 ·obtain⟨r,hr,hfact⟩:=xw hf i o (by rw[List.getElem?_take,if_pos hi];exact ho) (by rwa[Nat.zero_add]);rw[Nat.zero_add]at hfact;exact OY he T hi hr hfact
 ·obtain⟨o',ho',hstore,hdst,hgu⟩:=hop;rw[ho]at ho';injection ho' with ho'
  subst ho';refine⟨hgu,λl hlD a w hs Q=>?_⟩;obtain⟨Z,ρ,hs⟩:=hs;have hjx':jx<m:=vM T T.lt hjx;have hjv':jv<m:=vM T T.lt hjv;have g:=z9 (K:=λst=>st=⟨(stS ops R0 m st0 l).tm,fg (stS ops R0 m st0 l).ob c o1⟩) he hs hstore (by
   refine HU (x:=vAt R0 jx) (by rw[<-hdx];exact pL F0.nd hjx' (hlD jx hjx) (F0.len jx hjx')) ?_;refine HU (x:=vAt R0 jv) (by rw[<-hdv];exact pL F0.nd hjv' (hlD jv hjv) (F0.len jv hjv')) ?_;rw[hvx,hdst];exact Fr (hget l hlD) hst)
  refine Oper.wp_mono (λa' w' h'=>?_) (g Q);obtain⟨st',h1,h2⟩:=h';subst h2;refine h1.sub ?_ (hsub l hlD);rw[P6 hv ht];exact T3 rfl λs x y hx hy=>by
   rw[hx]at hy;injection hy with hy
   rw[hy];exact .refl _
theorem OF(he:E.Ok)(T:jh ops D m)(F0:wL E S ops D R0 m st0)(hlm:IF ops m st0.tm.length=true){t:TypeId}{jx jv dx dv c k s off:Nat}{o0 o1:AO}
  (hop:∃o,ops[m]? =some o/\o.op= .store t (.tmp dx) (.tmp dv)/\o.dst=none/\o.guard=none) (hdx:dAt ops jx=dx) (hdv:dAt ops jv=dv) (hjx:inD D jx m=true) (hjv:inD D jv m=true)
  (hvx:vAt R0 jx= .one (.ref c k s off)) (hc:a5 st0.ob c=some o0) (hst:qX E ⟨[],[(c,o0)]⟩ t (.one (.ref c k s off)) (vAt R0 jv) λst=>st=⟨[],[(c,o1)]⟩)
  (hno:noB ops D R0 m ⟨st0.tm,fg st0.ob c o1⟩=true)
  (hl:R0.length=m) (hf:vp E D (ops.take m) R0 ⟨st0.tm,fg st0.ob c o1⟩ m (ops.take m) R0 0):Flt E S ops D m R0 R0 st0 ⟨st0.tm,fg st0.ob c o1⟩:=by
 have hfar:∀j,j<m->oAt R0 j≠none->c≠dAt ops j:=λj hj hne e=>by
  have:=F0.ob j hj hne;rw[<-e,hc]at this;cases this
 refine PM he T F0 (Fv T hlm hno) hop hdx hdv hjx hjv (λ_ _=>rfl) rfl hvx hst (λl _=>?_) (λl _ id o ho=>?_) hl hf
 ·rw[me F0.nd];exact .inr ⟨λj hj _ e=>by
   cases ho2:oAt R0 j with
   |none=>rfl
   |some o2=>exact absurd e.symm (hfar j hj (by rw[ho2];simp)),hc⟩
 ·rw[me F0.nd]at ho;rw[bH];rcases ho with⟨j,hj,hlj,e,h⟩|⟨h,hb⟩
  ·rw[if_neg (λe'=>hfar j hj (by rw[h];simp) (by rw[e,e'])),me F0.nd];exact .inl ⟨j,hj,hlj,e,h⟩
  ·have hb:a5 (fg st0.ob c o1) id=some o:=hb;rw[bH]at hb;by_cases hci:c=id
   ·rw[if_pos hci]at hb⊢;exact hb
   ·rw[if_neg hci]at hb⊢;rw[me F0.nd];exact .inr ⟨h,hb⟩
end
section
variable {E:a6} {S:bj} {ops:Array Oper}
theorem H8(he:E.Ok){st:ASt}{m:Nat}{D FL:List (List Nat)}{K:List (AV×Option AO)->Prop}(hD:mQ [] ops.toList=D)(hok:yH ops.toList D m=true)(hfl:((List.range m).map λi=>(List.range m).map (flP D i))=FL)
  (h:eS E (ops.toList.take m) st (ops.toList.take m) FL 0 (List.replicate m (.one .dead,none)) K):∃R,K R/\∀j o,j<m->ops.toList[j]? =some o->gH E S D R m (stP ops.toList D R m st j) j o:=by
 have T:=vF hD hok;have hlen:(ops.toList.take m).length=m:=by have:=T.le;simp at*;omega
 subst hfl;have e:((List.range m).map λi=>(List.range m).map (flP D i))=((List.range' 0 (ops.toList.take m).length).map λi=>(List.range m).map (flP D i)):=by rw[hlen,<-List.range_eq_range']
 rw[e]at h;exact zX (S:=S) he T (ops.toList.take m) 0 (List.replicate m (.one .dead,none)) (λk=>by simp) ai (λj o hj=>absurd hj (Nat.not_lt_zero _)) h
theorem Vw(he:E.Ok){K:Exit->ASt->Prop}(id:Nat){tm:List AV}{ob:List (Nat×AO)}(m:Nat)(D FL:List (List Nat))(jx jv:Nat){t:TypeId}{dx dv:Nat}(hD:mQ [] ops.toList=D)(hok:yH ops.toList D m=true)(hfl:((List.range m).map λi=>(List.range m).map (flP D i))=FL)(hl:IF ops.toList m tm.length=true)
  (hop:∃o,ops.toList[m]? =some o/\o.op= .store t (.tmp dx) (.tmp dv)/\o.dst=none/\o.guard=none) (hdx:dAt ops.toList jx=dx) (hdv:dAt ops.toList jv=dv) (hjx:inD D jx m=true) (hjv:inD D jv m=true)
  (h : eS E (ops.toList.take m) ⟨tm, ob⟩ (ops.toList.take m) FL 0 (List.replicate m (.one .dead, none)) fun R => ∃ c k s off o0 o1, vAt R jx = .one (.ref c k s off) ∧ a5 ob c = some o0 ∧ R.length = m ∧ noB ops.toList D R m ⟨tm, ob⟩ = true ∧
   (qX E ⟨[],[(c,o0)]⟩ t (.one (.ref c k s off)) (vAt R jv) λst=>st=⟨[],[(c,o1)]⟩)/\gI c o1 ob λob=>noB ops.toList D R m ⟨tm,ob⟩=true/\vp E D (ops.toList.take m) R ⟨tm,ob⟩ m (ops.toList.take m) R 0/\
   ur (ops.toList.take m) R ⟨tm,ob⟩ λst=>tL E S ops.toList (ops.toList.drop (m+1)) st (K .normal)):AWP E S (.region id ops true) K ⟨tm,ob⟩:=by
 have T:=vF hD hok;obtain⟨R,⟨c,k,s,off,o0,o1,hvx,hc,hlR,hno,hst,h1⟩,hf⟩:=H8 (S:=S) he hD hok hfl h;obtain⟨hno1,hfL,ht⟩:=ed h1;exact Vn he T (OF he T ⟨Fv T hl hno,hf⟩ hl hop hdx hdv hjx hjv hvx hc hst hno1 hlR hfL) ht
end
end
section
open Go.Proofs.Tryz
variable {d:DDisk}{l:List Int}{k:Nat}{α:Type}
def qo:List (List Nat):=a8 [0,0,2,0,12420,1327235,101458181,76320612550,35599944798657,0x9047144083188,0x288183084147049,0xb2411c51020c620a,0x288183084147049,0xc2881830841470492cd,0x38d2c904714408318828c,0xf30a2060c21051c124b34e,0x40e34b2411c51020c620a30f,0x113cc2881830841470492cd390,0x28818308414704949038d2cc3d1]
def qC:List (List Nat):=dN 13 [2184,56,59,26,41,122,365,1093,3280,9841,1092406,1151455,501916]
theorem dh{a b:Bool}(h:a=b):AP.val (.one (dB a))=rB b:=by rw[h]
theorem mf{l:List α}{p:α->Bool}(hall:∀(j:Nat) (hj:j<k) (hl:j<l.length),p l[j]=true)(hlt:k<l.length)(h:p l[k]=true):∀(j:Nat) (hj:j<k+1) (hl:j<l.length),p l[j]=true:=by
  intro j hj hl;by_cases hjk:j=k
  · subst hjk;exact h
  · exact hall j ac hl
theorem o5{l:List α}{p:α->Bool}(hall:∀(j:Nat) (hj:j<k) (hl:j<l.length),p l[j]=true)(hk:k=l.length):l.all p=true:=DW λj hj=>hall j ac hj
theorem L2(h:¬l.length<=48):bm l=false:=by simp[bm,h]
theorem NW(hk:k<l.length)(h:aI l[k] 0 1000000000=false):bm l=false:=by
  have:=ru (p:=λx=>aI x 0 1000000000) hk h;simp only[bm,this,Bool.and_false]
theorem bM(l:List Int):aM av 160 [.one (dIs l)] (rB (bm l)):=by
  refine pO func160 call160 ntmps160 results160 λS=>?_;conv=>whnf
  repeat'(first|refine awz ?_|refine tB ?_ ?_|(intro h;conv=>whnf))
  · rw[L2 ari]
  · have h48:l.length<=48:=ari;clear h;refine TE (λk:Nat=>k<=l.length/\∀(j:Nat) (hj:j<k) (hl:j<l.length),aI l[j] 0 1000000000=true) (2::3::rg 7 12) (λk=>[(3,vI .i64 (k:Int))]) (λ_=>[]) (λk=>l.length-k) 0 ⟨ac,ac⟩ ?_ Tx (λk hR=>?_)<;>(conv=>whnf)
    · exact whd
    · obtain⟨hk,hall⟩:=hR;repeat'((first|refine awz ?_|refine TO ari (λhlt=>?_)|refine Tz ari ari ?_|refine cP (aN _ _ _) ?_|refine tB ?_ ?_|intro h)<;>conv=>whnf)
      · rw[NW hlt (by simpa using h)]
      · refine aW.mk ⟨k+1,⟨hlt,mf (p:=λx=>aI x 0 1000000000) hall hlt (by simpa using h)⟩,ac,?_,Tx⟩;exact hds
      · refine dh ?_;simp only[bm,o5 (p:=λx=>aI x 0 1000000000) hall ari,h48,decide_true,Bool.and_self]
theorem dn(d:DDisk)(at_:Int)(hs:d.kept.length<=40):aM av 127 [.agg d.ds,pI at_] (rB (aI at_ 0 ((d.kept.length:Int)-1))):=by
  have e:((d.kept.map cW).length:Int)=d.kept.length:=ai;refine pO func127 call127 ntmps127 results127 λS=>?_;conv=>whnf
  repeat'((first|refine awz ?_|refine Tz (n:=_-_) ari ari ?_|refine cP (aN _ _ _) ?_|fail)<;>conv=>whnf)
  rw[e]
theorem uE(h:¬(1<=d.kept.length/\d.kept.length<=40/\d.wait.length<=60)):bN d=false:=by
  have:(decide (1<=d.kept.length)&&decide (d.kept.length<=40)&&decide (d.wait.length<=60))=false:=by
    simp only[Bool.and_eq_false_iff,decide_eq_false_iff_not];omega
  simp only[bN,this,Bool.false_and]
theorem H6(hk:k<d.kept.length)(h:bm d.kept[k]=false):bN d=false:=by
  have:=ru (p:=bm) hk h;simp only[bN,this,Bool.and_false,Bool.false_and]
theorem FC(hk:k<d.wait.length)(h:ic d.kept.length d.wait[k]=false):bN d=false:=by
  have:=ru (p:=ic d.kept.length) hk h;simp only[bN,this,Bool.and_false]
theorem cG(d:DDisk):aM av 156 [.agg d.ds] (rB (bN d)):=by
  refine pO func156 call156 ntmps156 results156 λS=>?_;conv=>whnf
  repeat'(first|refine awz ?_|refine tB ?_ ?_|(intro h;conv=>whnf))
  · rw[uE ari]
  · rw[uE ari]
  · rw[uE ari]
  · have h1:1<=d.kept.length:=ari;have h2:d.kept.length<=40:=ari;have h3:d.wait.length<=60:=ari;clear h;refine TE (λk:Nat=>k<=d.kept.length/\∀(j:Nat) (hj:j<k) (hl:j<d.kept.length),bm d.kept[j]=true) (2::3::rg 21 14) (λk=>[(3,vI .i64 (k:Int))]) (λ_=>[(1,.cells 39 (d.ds.map .d))]) (λk=>d.kept.length-k) 0 ⟨ac,ac⟩ ?_ sbW (λk hR=>?_)<;>(conv=>whnf)
    · exact whd
    · obtain⟨hk,hall⟩:=hR;repeat'((first|refine awz ?_|refine TO ari (λhlt=>?_)|refine Tz ari ari ?_|refine cP (bM _) ?_|refine tB ?_ ?_|intro h)<;>conv=>whnf)
      · rw[H6 hlt (by simpa using h)]
      · refine aW.mk ⟨k+1,⟨hlt,mf (p:=bm) hall hlt (by simpa using h)⟩,ac,?_,sbW⟩;exact hds
      · have hrows:=o5 (p:=bm) hall ari;clear hall hk h;refine TE (λk:Nat=>k<=d.wait.length/\∀(j:Nat) (hj:j<k) (hl:j<d.wait.length),ic d.kept.length d.wait[j]=true) (2::4::rg 35 26) (λk=>[(4,vI .i64 (k:Int))]) (λ_=>[(1,.cells 39 (d.ds.map .d))]) (λk=>d.wait.length-k) 0 ⟨ac,ac⟩ ?_ sbW (λk hR=>?_)<;>(conv=>whnf)
        · exact whd
        · obtain⟨hk,hall⟩:=hR;repeat'((first|refine awz ?_|refine TB aL 11 13 qo qC ae ae ae rfl ?_|refine TO ari (λhlt=>?_)|refine Tz ari ari ?_|refine cP (dn d _ h2) ?_|refine cP (bM _) ?_|refine tB ?_ ?_|intro h)<;>conv=>whnf)
          all_goals first
            |(rw[FC hlt (by simp_all[ic])];done)
            | (refine aW.mk ⟨k + 1, ⟨hlt, mf (p := ic d.kept.length) hall hlt (by simp_all [ic])⟩,ac, ?_, sbW⟩
               exact hds)
            | (refine dh ?_
               simp only[bN,hrows,o5 (p:=ic d.kept.length) hall ari,h1,h2,h3,decide_true,Bool.and_self])
end
section
open Go.Proofs.Tryz
variable {n:DNet}{k:Nat}{α:Type}
def rC:List (List Nat):=a8 [0,1,129,12354,1056835,84676740,6510088389,486455648518,35601017745735,0x50c1084247188,0x2881872440810c5,0xb1430421091c620a,0x30a2061c910204314b,0xb1430421091c620a,0x38a2061c910204314b,0xd2c50c108424718828c3ce,0x2c50c108424718829038f30d,0x1134c3ce40a2061c910204314b,0x48b1430421091c620a40e3cc351,0x1344d30f3902881872440810c52d2,0x5122c50c108424718829038f30d453,0x154d134c3ce40a2061c910204314b494,0x59448b1430421091c620a40e3cc3514d5,0x154d134c3ce40a2061c910204314b494,0x61448b1430421091c620a40e3cc3514d5,0x1755344d30f3902881872440810c52d2516658,0x6986565122c50c108424718829038f30d453557,0x154d134c3ce40a2061c910204314b494,0x6d755344d30f3902881872440810c52d251665869c,0x1d71a61959448b1430421091c620a40e3cc3514d55db,0x55344d30f3902881872440810c52d251e6d759961a71d,0x122c50c108424718829038f30d45f75c6986565db7944d5]
def rM:List (List Nat):=dN 28 [0,1,4,13,40,121,364,1093,3280,9841,29524,12843157,13020304,1505749,3100072,7174453,21523360,64570081,193710244,581130733,1743392200,0xe8f84c46b27,0xe91f440bdda,0xdf3a5afbe67,0xe09910ea6b2,0xe41953a14c7,0xf06db903f6a,7620367308385]
theorem T8{enc:α->List AD}{l:List α}{K:Nat->List AD->Prop}(h0:0<k)(hk:k<=l.length)(h:∀_:k-1<l.length,K (k-1) (enc l[k-1])):AIx (l.map enc) ((k:Int)-1) K:=by
  have e:((k:Int)-1)=((k-1:Nat):Int):=ac;rw[e];exact TJ ac (h ac)
def bZ{α:Type}(P:α->Bool)(Q:α->α->Bool)(l:List α)(k:Nat)(hk:k<l.length):Bool:=P l[k]&&(if h:0<k then Q (l[k-1]'(ac)) l[k]else true)
theorem nD{P:α->Bool}{Q:α->α->Bool}{l:List α}(hk:k<l.length)(h:bZ P Q l k hk=false):(l.all P&&fI Q l)=false:=by
  unfold bZ at h;cases hp:P l[k]with
  |false=>rw[ru hk hp];rfl
  |true=>
    rw[hp]at h;simp only[Bool.true_and]at h;split at h
    · rename_i h0;obtain⟨j,rfl⟩:∃j,k=j+1:=⟨k-1,ac⟩;rw[Ou (Q:=Q) hk (by simpa using h),Bool.and_false]
    · cases h
theorem CF{P:α->Bool}{Q:α->α->Bool}{l:List α}(h:∀(j:Nat) (hl:j<l.length),bZ P Q l j hl=true):(l.all P&&fI Q l)=true:=by
  rw[Bool.and_eq_true];refine⟨DW λk hk=>?_,zN λk hk=>?_⟩
  · have:=h k hk;unfold bZ at this;exact(Bool.and_eq_true_iff.1 this).1
  · have:=h (k+1) hk;unfold bZ at this;have:=(Bool.and_eq_true_iff.1 this).2;simpa using this
theorem kp{P:α->Bool}{Q:α->α->Bool}{l:List α}(hall:∀(j:Nat) (hj:j<k) (hl:j<l.length),bZ P Q l j hl=true)(hlt:k<l.length)(h:bZ P Q l k hlt=true):∀(j:Nat) (hj:j<k+1) (hl:j<l.length),bZ P Q l j hl=true:=by
  intro j hj hl;by_cases hjk:j=k
  · subst hjk;exact h
  · exact hall j ac hl
theorem nI{P:α->Bool}{Q:α->α->Bool}{l:List α}(hall:∀(j:Nat) (hj:j<k) (hl:j<l.length),bZ P Q l j hl=true)(hk:k=l.length):(l.all P&&fI Q l)=true:=CF λj hj=>hall j ac hj
theorem bU{P:α->Bool}{Q:α->α->Bool}{l:List α}(hk:k<l.length)(h:0<k):bZ P Q l k hk=(P l[k]&&Q (l[k-1]'(ac)) l[k]):=by simp[bZ,h]
theorem ch{P:α->Bool}{Q:α->α->Bool}{l:List α}(hk:k<l.length)(h:¬0<k):bZ P Q l k hk=P l[k]:=by simp[bZ,h]
theorem dG{P:α->Bool}{Q:α->α->Bool}{l:List α}(hk:k<l.length)(h:P l[k]=false):bZ P Q l k hk=false:=by simp[bZ,h]
theorem cZ(t:DTwo):aM av 152 [.agg t.ds] (rB (fc t)):=by
  refine pO func152 call152 ntmps152 results152 λS=>?_;conv=>whnf
  repeat'((first|refine awz ?_|refine cP (cG t.a) ?_|refine cP (cG t.b) ?_|refine tB ?_ ?_|intro h)<;>conv=>whnf)
  all_goals
    refine dh ?_;simp_all[fc]
  all_goals first|omega|(rw[Bool.eq_iff_iff];simp only[beq_iff_eq,decide_eq_true_eq];omega)
theorem gi(t:DTwo):aM av 144 [.agg t.ds] (rB (dw t)):=by
  refine pO func144 call144 ntmps144 results144 λS=>?_;conv=>whnf
  repeat'((first|refine awz ?_|refine cP (cZ t) ?_|refine tB ?_ ?_|intro h)<;>conv=>whnf)
  all_goals
    refine dh ?_;simp_all[dw]
  all_goals first|omega|(rw[Bool.eq_iff_iff];simp only[beq_iff_eq,decide_eq_true_eq];omega)
theorem gX(d:DDisk):aM av 154 [.agg d.ds] (rB (cS d)):=by
  refine pO func154 call154 ntmps154 results154 λS=>?_;conv=>whnf
  repeat'((first|refine awz ?_|refine cP (cG d) ?_|refine tB ?_ ?_|intro h)<;>conv=>whnf)
  all_goals
    refine dh ?_;simp_all[cS]
  all_goals first|omega|(rw[Bool.eq_iff_iff];simp only[beq_iff_eq,decide_eq_true_eq];omega)
theorem gW(m:DMsg):aM av 106 [.agg m.ds] (rB (jC m)):=by
  refine pO func106 call106 ntmps106 results106 λS=>?_;conv=>whnf
  repeat'((first|refine awz ?_|refine cP (gm _) ?_|refine cP (bM _) ?_|refine tB ?_ ?_|intro h)<;>conv=>whnf)
  all_goals
    refine dh ?_;simp_all[jC,eV]
theorem kv(x y:DLink):aM av 108 [.agg x.ds,.agg y.ds] (rB (cO x y)):=by
  refine pO func108 call108 ntmps108 results108 λS=>?_;conv=>whnf
  repeat'(first|refine awz ?_|refine tB ?_ ?_|(intro h;conv=>whnf))
  all_goals
    refine dh ?_;simp_all[cO]
  all_goals first|omega|(rw[Bool.eq_iff_iff];simp only[beq_iff_eq,decide_eq_true_eq];omega)
theorem CT(h:¬(n.flight.length<=60/\n.cuts.length<=15)):dg n=false:=by
  have:(decide (n.flight.length<=60)&&decide (n.cuts.length<=15))=false:=by
    simp only[Bool.and_eq_false_iff,decide_eq_false_iff_not];omega
  simp only[dg,this,Bool.false_and]
theorem LR(hk:k<n.flight.length)(h:jC n.flight[k]=false):dg n=false:=by
  have:=ru (p:=jC) hk h;simp only[dg,this,Bool.and_false,Bool.false_and]
theorem LQ(hk:k<n.cuts.length)(h:bZ dT cO n.cuts k hk=false):dg n=false:=by
  have:=nD hk h;simp only[dg,Bool.and_assoc]at*
  simp only[this,Bool.and_false]
theorem fG(n:DNet):aM av 75 [.agg n.ds] (rB (dg n)):=by
  refine pO func75 call75 ntmps75 results75 λS=>?_;conv=>whnf
  repeat'(first|refine awz ?_|refine tB ?_ ?_|(intro h;conv=>whnf))
  · rw[CT ari]
  · rw[CT ari]
  · have h1:n.flight.length<=60:=ari;have h2:n.cuts.length<=15:=ari;clear h;refine TE (λk:Nat=>k<=n.flight.length/\∀(j:Nat) (hj:j<k) (hl:j<n.flight.length),jC n.flight[j]=true) (2::3::rg 16 14) (λk=>[(3,vI .i64 (k:Int))]) (λ_=>[(1,.cells 75 (n.ds.map .d))]) (λk=>n.flight.length-k) 0 ⟨ac,ac⟩ ?_ sbW (λk hR=>?_)<;>(conv=>whnf)
    · exact whd
    · obtain⟨hk,hall⟩:=hR;repeat'((first|refine awz ?_|refine TO ari (λhlt=>?_)|refine Tz ari ari ?_|refine cP (gW _) ?_|refine tB ?_ ?_|intro h)<;>conv=>whnf)
      · rw[LR hlt (by simpa using h)]
      · refine aW.mk ⟨k+1,⟨hlt,mf (p:=jC) hall hlt (by simpa using h)⟩,ac,?_,sbW⟩;exact hds
      · have hrows:=o5 (p:=jC) hall ari;clear hall hk h;refine TE (λk:Nat=>k<=n.cuts.length/\∀(j:Nat) (hj:j<k) (hl:j<n.cuts.length),bZ dT cO n.cuts j hl=true) (2::4::5::rg 30 44) (λk=>[(4,vI .i64 (k:Int))]) (λ_=>[(1,.cells 75 (n.ds.map .d))]) (λk=>n.cuts.length-k) 0 ⟨ac,ac⟩ ?_ sbW (λk hR=>?_)<;>(conv=>whnf)
        · exact whd
        · obtain⟨hk,hall⟩:=hR;repeat'((first|refine awz ?_|refine TB aL 12 28 rC rM ae ae ae rfl ?_|refine TO ari (λhlt=>?_)|refine T8 ari ari (λhpv=>?_)|refine Tz (n:=_-_) ari ari ?_|refine Tz ari ari ?_|refine cP (gm _) ?_|refine cP (kv _ _) ?_|refine tB ?_ ?_|intro h)<;>conv=>whnf)
          all_goals first
            |(rw[LQ hlt (by first|(refine dG _ ?_;simp_all[dT,eV];done)|(refine dG _ ?_;simp_all[dT,eV];intros;omega)|(rw[bU _ ari];simp_all[dT,eV];done)|(rw[ch _ ari];simp_all[dT,eV];done)|(rw[bU _ ari];simp_all[dT,eV];omega)|(rw[ch _ ari];simp_all[dT,eV];omega))];done)
            | (refine aW.mk ⟨k + 1, ⟨hlt, kp hall hlt (by first | (refine dG _ ?_; simp_all [dT, eV]; done) | (refine dG _ ?_; simp_all [dT, eV]; intros; omega) | (rw [bU _ ari]; simp_all [dT, eV]; done) | (rw [ch _ ari]; simp_all [dT, eV]; done) | (rw [bU _ ari]; simp_all [dT, eV]; omega) | (rw [ch _ ari]; simp_all [dT, eV]; omega))⟩,ac, ?_, sbW⟩
               exact hds)
            | (refine dh ?_
               have he:=nI hall ari;simp only[dg,hrows,h1,h2,decide_true,Bool.and_self,Bool.true_and,he])
theorem FA{l:List Int}(hk:k<l.length)(h:tOk l[k]=false):cK l=false:=by
  have:=ru (p:=tOk) hk h;simp only[cK,this,Bool.and_false]
theorem ww(l:List Int)(h6:l.length=6):aM av 71 [.one (dIs l)] (rB (cK l)):=by
  refine pO func71 call71 ntmps71 results71 λS=>?_;conv=>whnf
  repeat'(first|refine awz ?_|fail)
  refine TE (λk:Nat=>k<=l.length/\∀(j:Nat) (hj:j<k) (hl:j<l.length),tOk l[j]=true) (rg 2 14) (λk=>[(3,vI .i64 (k:Int))]) (λ_=>[]) (λk=>l.length-k) 0 ⟨ac,ac⟩ ?_ Tx (λk hR=>?_)<;>(conv=>whnf)
  · exact whd
  · obtain⟨hk,hall⟩:=hR;repeat'((first|refine awz ?_|refine TO ari (λhlt=>?_)|refine Tz ari ari ?_|refine cP (bP _) ?_|refine tB ?_ ?_|intro h)<;>conv=>whnf)
    all_goals first
      |(rw[FA hlt (by simpa[tOk]using h)];done)
      | (refine aW.mk ⟨k + 1, ⟨hlt, mf (p := tOk) hall hlt (by simpa [tOk] using h)⟩,ac, ?_, Tx⟩
         exact hds)
      | (refine dh ?_
         simp only[cK,o5 (p:=tOk) hall ari,Bool.and_true];simp only[List.length_map];first|omega|(rw[Bool.eq_iff_iff];simp only[beq_iff_eq,decide_eq_true_eq];omega))
end
section
section
variable {S:bj} {o:Oper} {st:ASt} {K:ASt->Prop}
end
theorem EY{s:List DMark}{k:Nat}(hk:k<s.length)(h:bZ gv kX s k hk=false):seenOk s=false:=by
 have:=nD hk h;simp only[seenOk,this,Bool.false_and]
theorem JC{s:List DMark}{j k:Nat}(hj:j<k)(hk:k<s.length)(h:(s[j]'(ac)).index=s[k].index):seenOk s=false:=by
 have:=rv (R:=pf) hj hk (by simp[pf,h]);simp only[seenOk,this,Bool.and_false]
theorem JE{s:List DMark}(h:∀(j:Nat) (hl:j<s.length),bZ gv kX s j hl=true)(hd:∀(i j:Nat) (hi:i<j) (hl:j<s.length),(s[i]'(ac)).index≠s[j].index):seenOk s=true:=by
 have h1:=CF h;have h2:=ll (R:=pf) (l:=s) λi j hi hl=>by simpa[pf]using hd i j hi hl
 simp only[seenOk,h1,h2,Bool.and_self]
theorem Oa{s:List DMark}{k:Nat}(hlt:k<s.length)(hd:∀(i j:Nat) (hi:i<j) (hj:j<k) (hl:j<s.length),(s[i]'(ac)).index≠s[j].index)(h:∀(i:Nat) (hi:i<k),(s[i]'(ac)).index≠s[k].index):∀(i j:Nat) (hi:i<j) (hj:j<k+1) (hl:j<s.length),(s[i]'(ac)).index≠s[j].index:=by
 intro i j hi hj hl;by_cases hjk:j=k
 ·subst hjk;exact h i hi
 ·exact hd i j hi ac hl
theorem d9{s:List DMark}(h:seenOk s=true):s.length<=4:=by
 simp only[seenOk,Bool.and_eq_true]at h;obtain⟨⟨h1,h2⟩,_⟩:=h;have key:∀(j:Nat) (hj:j<s.length),(2:Int)+j<=s[j].client:=by
  intro j;induction j with
  |zero=>
   intro hj;have:=th h1 hj;simp only[gv,aI,Bool.and_eq_true,decide_eq_true_eq]at this;omega
  |succ j ih=>
   intro hj;have:=iq h2 hj;simp only[kX,decide_eq_true_eq]at this;have:=ih ac;omega
 rcases Nat.lt_or_ge 4 s.length with hl|hl
 ·have h5:=key 4 hl;have:=th h1 hl;simp only[gv,aI,Bool.and_eq_true,decide_eq_true_eq]at this;omega
 ·exact hl
end
section
variable {e:DEntry}{m:DMark}{l:List DEntry}{c s:List DMark}{k:Nat}
def oE(s:List DMark):Prop:=s.Pairwise λx y=>x.client<y.client
theorem zP:∀{s:List DMark},fI kX s=true->oE s
 |[],_=>List.Pairwise.nil
 |[x],_=>List.pairwise_singleton _ _
 |x::y::r,h=>by
  simp only[fI,and_eq_true]at h;have ih:=zP (s:=y::r) h.2;have hxy:x.client<y.client:=by simpa[kX]using h.1
  refine pairwise_cons.2 ⟨λz hz=>?_,ih⟩;rcases mem_cons.1 hz with rfl|hz
  ·exact hxy
  ·have:=(pairwise_cons.1 ih).1 z hz;omega
theorem Bt:∀{s:List DMark},oE s->fI kX s=true
 |[],_=>rfl
 |[x],_=>rfl
 |x::y::r,h=>by
  have h1:=pairwise_cons.1 h;simp only[fI,and_eq_true];exact⟨by simpa[kX]using h1.1 y ai,Bt h1.2⟩
theorem yl(h:seenOk s=true):oE s:=by
 simp only[seenOk,and_eq_true]at h;exact zP h.1.2
theorem Mw(h:seenOk s=true)(hm:m∈s):gv m=true:=by
 simp only[seenOk,and_eq_true]at h;exact all_eq_true.1 h.1.1 m hm
theorem Ko{c:Int}(h:∀m∈s,c<=m.client):s.filter (λx=>decide (x.client<c))=[]:=by
 rw[List.filter_eq_nil_iff];intro m hm;have:=h m hm;simp;omega
theorem IY(h:oE s)(m:DMark):oE (cF s m):=by
 unfold cF oE;rw[List.pairwise_append];refine⟨h.sublist filter_sublist,pairwise_cons.2 ⟨λz hz=>?_,h.sublist filter_sublist⟩,λa ha b hb=>?_⟩
 ·have:=(mem_filter.1 hz).2;simpa using this
 ·have h1:=(mem_filter.1 ha).2;simp only[decide_eq_true_eq]at h1;rcases mem_cons.1 hb with rfl|hb
  ·exact h1
  ·have:=(mem_filter.1 hb).2;simp only[decide_eq_true_eq]at this;omega
theorem KK{x:DMark}(h:x∈cF s m):x=m\/x∈s:=by
 unfold cF at h;rcases List.mem_append.1 h with h|h
 ·exact .inr (mem_filter.1 h).1
 ·rcases mem_cons.1 h with h|h
  ·exact .inl h
  ·exact .inr (mem_filter.1 h).1
theorem pe(x0:Int):∀s:List DMark,(∀m∈s,m.index<=s.foldl (λx m=>if m.index>x then m.index else x) x0)/\x0<=s.foldl (λx m=>if m.index>x then m.index else x) x0/\(s.foldl (λx m=>if m.index>x then m.index else x) x0=x0\/∃m∈s,m.index=s.foldl (λx m=>if m.index>x then m.index else x) x0)
 |[]=>⟨by simp,by simp,.inl rfl⟩
 |y::r=>by
  obtain⟨h1,h2,h3⟩:=pe (if y.index>x0 then y.index else x0) r;simp only[foldl_cons];have hy:y.index<=(if y.index>x0 then y.index else x0)/\x0<=(if y.index>x0 then y.index else x0):=by split<;>omega
  refine⟨λm hm=>?_,ac,?_⟩
  ·rcases mem_cons.1 hm with rfl|hm
   ·omega
   ·exact h1 m hm
  ·rcases h3 with h3|⟨m,hm,h3⟩
   ·by_cases hc:y.index>x0
    ·rw[if_pos hc]at h3⊢;exact .inr ⟨y,by simp,h3.symm⟩
    ·rw[if_neg hc]at h3⊢;exact .inl h3
   ·exact .inr ⟨m,by simp[hm],h3⟩
theorem En(h:m∈s):m.index<=bG s:=(pe 0 s).1 m h
theorem F6(s:List DMark):0<=bG s:=(pe 0 s).2.1
theorem OM{x:Int}(h1:∀m∈s,m.index<=x)(h2:∃m∈s,m.index=x)(h0:0<=x):bG s=x:=by
 obtain⟨m,hm,e⟩:=h2;have h3:=En hm;rcases(pe 0 s).2.2 with h|⟨y,hy,h⟩
 ·have h:bG s=0:=h;omega
 ·have h:y.index=bG s:=h;have:=h1 y hy;omega
theorem F7(h:bG s<m.index):bG (cF s m)=m.index:=by
 have h0:=F6 s;refine OM (λx hx=>?_) ⟨m,by simp[cF],rfl⟩ ac;rcases KK hx with rfl|hx
 ·exact Int.le_refl _
 ·have:=En hx;omega
theorem Id(h:bn e=true):gv e.mark=true:=by
 simp only[bn,and_eq_true]at h;simp only[gv,DEntry.mark,and_eq_true];exact⟨⟨h.1.1.2,h.1.2⟩,h.1.1.1.1⟩
theorem KH{R:DMark->DMark->Prop}(h:s.Pairwise R){i j:Nat}(hi:i<j)(hj:j<s.length):R (s[i]'(ac)) s[j]:=List.pairwise_iff_getElem.1 h i j ac hj hi
theorem zR:∀{s:List DMark},d5 pf s=true->s.Pairwise λx y=>x.index≠y.index
 |[],_=>List.Pairwise.nil
 |x::r,h=>by
  simp only[d5,and_eq_true]at h;refine pairwise_cons.2 ⟨λy hy=>?_,zR h.2⟩;have:=all_eq_true.1 h.1 y hy;simpa[pf]using this
theorem Ax:∀{s:List DMark},(s.Pairwise λx y=>x.index≠y.index)->d5 pf s=true
 |[],_=>rfl
 |x::r,h=>by
  obtain⟨h1,h2⟩:=pairwise_cons.1 h;simp only[d5,and_eq_true];refine⟨all_eq_true.2 λy hy=>?_,Ax h2⟩;have:=h1 y hy;simpa[pf]using this
theorem NR(h:seenOk s=true)(hm:gv m=true)(hl:bG s<m.index):seenOk (cF s m)=true:=by
 have hs:=yl h;have hx:∀x∈s,x.index≠m.index:=λx hx=>by have:=En hx;omega
 have hp:s.Pairwise λx y=>x.index≠y.index:=by
  simp only[seenOk,and_eq_true]at h;exact zR h.2
 simp only[seenOk,and_eq_true];refine⟨⟨all_eq_true.2 λx hx=>?_,Bt (IY hs m)⟩,Ax ?_⟩
 ·rcases KK hx with rfl|hx
  ·exact hm
  ·exact Mw h hx
 ·unfold cF;rw[List.pairwise_append];refine⟨hp.sublist filter_sublist,pairwise_cons.2 ⟨λz hz=>(hx z (mem_filter.1 hz).1).symm,hp.sublist filter_sublist⟩,λa ha b hb=>?_⟩;have h1:=mem_filter.1 ha;simp only[decide_eq_true_eq]at h1;rcases mem_cons.1 hb with rfl|hb
  ·exact hx a h1.1
  ·have h2:=mem_filter.1 hb;simp only[decide_eq_true_eq]at h2;obtain⟨i,hi,rfl⟩:=List.getElem_of_mem h1.1;obtain⟨j,hj,rfl⟩:=List.getElem_of_mem h2.1;rcases Nat.lt_trichotomy i j with hij|hij|hij
   ·exact KH hp hij hj
   ·subst hij;omega
   ·exact(KH hp hij hi).symm
theorem sk{s':List DMark}(h:seenOk s=true)(hm:cQ s e=some s'):seenOk s'=true/\bG s'=e.index:=by
 unfold cQ at hm;split at hm
 ·rename_i hc;simp only[and_eq_true,decide_eq_true_eq]at hc;injection hm with hm
  subst hm;exact⟨NR h (Id hc.1.1) hc.2,F7 hc.2⟩
 ·cases hm
theorem gP(s:List DMark):∀(a b:List DEntry),bf s (a++b)=(bf s a).bind λs'=>bf s' b
 |[],b=>rfl
 |e::a,b=>by
  simp only[List.cons_append,bf];cases cQ s e with
  |none=>rfl
  |some s'=>exact gP s' a b
theorem nN:∀{l:List DEntry} {s s':List DMark},seenOk s=true->bf s l=some s'->seenOk s'=true
 |[],s,s',h,hf=>by simp only[bf,Option.some.injEq]at hf;subst hf;exact h
 |e::r,s,s',h,hf=>by
  simp only[bf]at hf;cases hm:cQ s e with
  |none=>rw[hm]at hf;cases hf
  |some s1=>rw[hm]at hf;exact nN (sk h hm).1 hf
theorem w5(hk:k<l.length)(h:bf s (l.take k)=some c):bf s (l.take (k+1))=cQ c l[k]:=by
 rw[List.take_succ_eq_append_getElem hk,gP,h];simp only[Option.bind_some,bf];cases cQ c l[k]<;>rfl
theorem Ly(hk:k<l.length)(h:bf s (l.take k)=some c)(hn:cQ c l[k]=none):bf s l=none:=by
 have e:l=l.take (k+1)++l.drop (k+1):=(List.take_append_drop _ _).symm;rw[e,gP,w5 hk h,hn];rfl
def DMark.v(m:DMark):Value:= .agg #[.int .i64 m.client,.int .i64 m.seq,.int .i64 m.index]
def fh(x:DMark)(p:List DMark×Bool)(m:DMark):List DMark×Bool:=
 let q:=if(!p.2&&decide (m.client>=x.client))=true then(p.1++[x],true)else p
 if(m.client !=x.client)=true then(q.1++[m],q.2)else q
theorem sX(x:DMark):∀(r:List DMark) (out:List DMark),(∀m∈r,x.client<m.client)->r.foldl (fh x) (out,true)=(out++r,true)
 |[],out,_=>by simp
 |m::r,out,h=>by
  have hm:=h m ai;have e:(m.client !=x.client)=true:=al;rw[foldl_cons];have:fh x (out,true) m=(out++[m],true):=by simp[fh,e]
  rw[this,sX x r _ λy hy=>h y (by simp[hy])];simp
theorem Dv(x:DMark):∀(s:List DMark) (out:List DMark),oE s->(let p:=s.foldl (fh x) (out,false);if p.2 then p.1 else p.1++[x])=out++cF s x
 |[],out,_=>by simp[cF]
 |m::r,out,h=>by
  obtain⟨h1,h2⟩:=pairwise_cons.1 h;rw[foldl_cons];rcases Int.lt_trichotomy m.client x.client with hx|hx|hx
  ·have e:fh x (out,false) m=(out++[m],false):=by
    have e1:(m.client !=x.client)=true:=al;have e2:decide (m.client>=x.client)=false:=al;simp[fh,e1,e2]
   rw[e];have:=Dv x r (out++[m]) h2;simp only at this⊢;rw[this];have e1:decide (m.client<x.client)=true:=al;have e2:decide (x.client<m.client)=false:=al;simp[cF,List.filter_cons,e1,e2]
  ·have e:fh x (out,false) m=(out++[x],true):=by
    have e1:(m.client !=x.client)=false:=al;have e2:decide (m.client>=x.client)=true:=al;simp[fh,e1,e2]
   rw[e,sX x r _ λy hy=>by have:=h1 y hy;omega];have e1:decide (m.client<x.client)=false:=al;have e2:decide (x.client<m.client)=false:=al;have e3:=Ko (s:=r) (c:=x.client) λy hy=>by have:=h1 y hy;omega
   have e4:r.filter (λy=>decide (x.client<y.client))=r:=List.filter_eq_self.2 λy hy=>by have:=h1 y hy;simp;omega
   simp[cF,List.filter_cons,e1,e2,e3,e4]
  ·have e:fh x (out,false) m=(out++[x]++[m],true):=by
    have e1:(m.client !=x.client)=true:=al;have e2:decide (m.client>=x.client)=true:=al;simp[fh,e1,e2]
   rw[e,sX x r _ λy hy=>by have:=h1 y hy;omega];have e1:decide (m.client<x.client)=false:=al;have e2:decide (x.client<m.client)=true:=al;have e3:=Ko (s:=r) (c:=x.client) λy hy=>by have:=h1 y hy;omega
   have e4:r.filter (λy=>decide (x.client<y.client))=r:=List.filter_eq_self.2 λy hy=>by have:=h1 y hy;simp;omega
   simp[cF,List.filter_cons,e1,e2,e3,e4]
end
section
open Go.Proofs.Tryz
variable {c:Int}{s:List DMark}{k:Nat}{Q:Prop}
def rD:List (List Nat):=a8 [0,0,66,12417,1052803,84680772,6509830341,486455906566,35601001230663,35601001230663,0x24714308110620a,0xb2881840420c51c9,0x3091c50c204418828b,0xd2ca20610108314724c,0x38c24714308110620a2cd,0x81840420c51cf34b28930e,0x40e30928b34f1c50c2044188,0x112061010831473cd2ca24c390,0x112061010831473cd2ca24c390,0x1240e30928b34f1c50c2044188453,0x5134481840420c51cf34b28930e412,0x1549038c24a2cd3c71430811062114d4,0x5944d12061010831473cd2ca24c390495,0x1755240e30928b34f1c50c2044188453516,0x4481840420c51cf34b28930e4185944d2557,0x195d549351661038c24a2cd3c7143081106211,0x6912061010831473cd2ca24c3906165134955d9,0x1b6575524d459840e30928b34f1c50c204418845a,0x71a4481840420c51cf34b28930e4185944d255765b,0x1d6d95d549351661038c24a2cd3c714308110621169c,0x1d6d95d549351661038c24a2cd3c714308110621169c,0x7dc6912061010831473cd2ca24c3906165134955d96dd,0x79c6912061010831473cd2ca24c3906165134955d96dd81f,0x217e075b6575524d459840e30928b34f1c50c204418845a71e,0x89e71a4481840420c51cf34b28930e4185944d255765b7607e1,0x1d6d95d549351661038c24a2cd3c714308110621169c,0x1d6d95d549351661038c24a2cd3c714308110621169c,0x2471a4481840420c51cf34b28930e4185944d255765b765,0x9a575b6575524d459840e30928b34f1c50c204418845a724,0x2791c6912061010831473cd2ca24c3906165134955d96dd966,0x8e17e075b6575524d459840e30928b34f1c50c204418845a71e8a89a5927,0x1d6d95d549351661038c24a2cd3c714308110621169ca679259a889e81f863,0x6912061010831473cd2ca24c3906165134955d9aa385f81e8a89a5927a5c6dd]
def rN:List (List Nat):=dN 40 [6,2,4,13,40,121,364,1093,42646,16402,29524,88573,265720,797161,2391484,7174453,21523360,839411059,322850407,581130733,1743392200,5230176601,15690529804,47071589413,141214768240,423644304721,1270932914164,3812798742493,0xa67358b3f98,0xa80cee290ee4d517,0xa80790f173180a75,0xa8084c3336e2832e,0xa80a3f8d40fe6fc6,0xa810d4dd231cae47,0xa82494ccc97769ca,0x4dc1cc44fb26673,0x2151f10eaf00807,0x3789dea9d51373d,0x9b858be40068bb0,0x1c77893928268909]
def jR:List (List Nat):=a8 [0,0,66,12417,1052803,0,0,391,33222,2384328,90925286754906505]
def jT:List (List Nat):=dN 10 [58812,58808,58810,58819,58846,1700,728,1214,3401,9962]
theorem aQ{a b c:Nat}(h:(a+b)*c<=140737488355328)(q:Q):(a+b)*c<=140737488355328/\Q:=⟨h,q⟩
theorem aP{xs:List (List AD)}{s:Nat}(h:∀x∈xs,x.length=s)(q:Q):(∀x∈xs,x.length=s)/\Q:=⟨h,q⟩
theorem iB(a b:Int):aM av 262 [pI a,pI b] (rI (if b>a then b else a)):=by
  refine pO func262 call262 ntmps262 results262 λS=>?_;conv=>whnf
  repeat'(first|refine awz ?_|refine tB ?_ ?_|(intro h;conv=>whnf))
  all_goals
    simp only[decide_eq_true_eq,decide_eq_false_iff_not]at*
    first
      |(rw[if_neg ac];done)
      | (by_cases h2 : b > a
         · rw[if_pos h2]
         · rw[if_neg h2];have:a=b:=ac;rw[this])
theorem ez(s:List DMark)(h:s.length<=1000000):aM av 201 [.one (.sl (s.map DMark.ds))] (.val (.one (.sl (s.map DMark.ds)))):=by
  refine pO func201 call201 ntmps201 results201 λS=>?_;conv=>whnf
  repeat'((first|refine awz ?_|refine aP (λx hx=>by obtain⟨y,_,rfl⟩:=List.mem_map.1 hx;rfl) ?_|refine aQ az ?_|fail)<;>conv=>whnf)
  all_goals rfl
theorem JD(h:¬s.length<=4):seenOk s=false:=by
  cases hs:seenOk s with
  |false=>rfl
  |true=>exact absurd (d9 hs) h
theorem eq(s:List DMark):aM av 198 [.one (.sl (s.map DMark.ds))] (rB (seenOk s)):=by
  refine pO func198 call198 ntmps198 results198 λS=>?_;conv=>whnf
  repeat'(first|refine awz ?_|refine tB ?_ ?_|(intro h;conv=>whnf))
  · rw[JD ari]
  · have h4:s.length<=4:=ari;clear h;refine TE (λk:Nat=>k<=s.length/\(∀(j:Nat) (hj:j<k) (hl:j<s.length),bZ gv kX s j hl=true)/\∀(i j:Nat) (hi:i<j) (hj:j<k) (hl:j<s.length),(s[i]'(ac)).index≠s[j].index) (2::3::4::rg 8 65) (λk=>[(3,vI .i64 (k:Int))]) (λk=>[]) (λk=>s.length-k) 0 ⟨ac,ac,ac⟩ ?_ Tx (λk hR=>?_)<;>(conv=>whnf)
    · exact whd
    · obtain⟨hk,hall,hdup⟩:=hR;repeat'((first|refine awz ?_|refine TB aL 6 40 rD rN ae ae ae rfl ?_|refine TO ari (λhlt=>?_)|refine T8 ari ari (λhpv=>?_)|refine Tz (n:=_-_) ari ari ?_|refine cP (dF _) ?_|refine cP (ft _) ?_|refine cP (fw _) ?_|refine tB ?_ ?_|intro h)<;>conv=>whnf)
      all_goals first
        |(rw[EY hlt (by first|(refine dG _ ?_;simp_all[gv];done)|(rw[bU _ ari];simp_all[gv,kX];done)|(rw[ch _ ari];simp_all[gv];done))];done)
        | (refine dh ?_
           have hkk:k=s.length:=ari;rw[JE (λj hl=>hall j ac hl) (λi j hi hl=>hdup i j hi ac hl)];done)
        |skip
      all_goals
        have hch:bZ gv kX s k hlt=true:=(by first|(refine dG _ ?_;simp_all[gv];done)|(rw[bU _ ari];simp_all[gv,kX];done)|(rw[ch _ ari];simp_all[gv];done));refine TE (λq:Nat=>q<=k/\∀(i:Nat) (hi:i<q) (hik:i<k),(s[i]'(ac)).index≠s[k].index) (2::4::rg 57 16) (λq=>[(4,vI .i64 (q:Int))]) (λ_=>[]) (λq=>k-q) 0 ⟨ac,ac⟩ ?_ Tx (λq hQ=>?_)<;>(conv=>whnf)
        · exact whd
        · obtain⟨hq,hno⟩:=hQ;repeat'((first|refine awz ?_|refine TB aL 11 10 jR jT ae ae ae rfl ?_|refine TO (k:=q) ari (λhqt=>?_)|refine TO (k:=k) ari (λhlt=>?_)|refine Tz ari ari ?_|refine tB ?_ ?_|intro h)<;>conv=>whnf)
          all_goals first
            |(rw[JC (j:=q) (k:=k) ari ari (by simp_all)];done)
            | (refine aW.mk ⟨q + 1, ⟨ari, fun i hi hik => ?_⟩, ari, ?_, Tx⟩
               · by_cases hiq:i=q
                 · subst hiq;intro e;simp[e]at h
                 · exact hno i ac hik
               · exact hds)
            | (refine aW.mk ⟨k + 1, ⟨ari, kp hall ari hch, Oa ari hdup fun i hi => hno i ari hi⟩, ari, ?_, Tx⟩
               exact hds)
theorem LI(hk:k<s.length):bG (s.take (k+1))=(if s[k].index>bG (s.take k)then s[k].index else bG (s.take k)):=by
  unfold bG;rw[List.take_succ_eq_append_getElem hk,List.foldl_append];rfl
theorem mB(s:List DMark)(h:seenOk s=true):aM av 199 [.one (.sl (s.map DMark.ds))] (rI (bG s)):=by
  have h':(!seenOk s)=false:=by simp[h]
  have hl:=d9 h;refine pO func199 call199 ntmps199 results199 λS=>?_;conv=>whnf
  repeat'(first|refine awz ?_|(refine cP (eq s) ?_;conv=>whnf)|fail)
  refine TE (λp:Nat×Int=>p.1<=s.length/\p.2=bG (s.take p.1)) (3::4::rg 9 13) (λp=>[(3,vI .i64 p.2),(4,vI .i64 (p.1:Int))]) (λ_=>[]) (λp=>s.length-p.1) (0,0) ⟨by simp,rfl⟩ ?_ Tx (λp hR=>?_)<;>(conv=>whnf)
  · exact whd
  · obtain⟨k,v⟩:=p;obtain⟨hk,hv⟩:=hR;simp only at hk hv;repeat'((first|refine awz ?_|refine TO ari (λhlt=>?_)|refine Tz ari ari ?_|refine cP (iB _ _) ?_|refine tB ?_ ?_|intro h)<;>conv=>whnf)
    all_goals first
      | (refine aW.mk ⟨(k + 1, if s[k].index > v then s[k].index else v), ⟨ari, by simp only [LI (s := s) (k := k) ari, hv]⟩, by simp only; omega, ?_, Tx⟩
         exact hds)
      | (have hkk : k = s.length := ari
         subst hkk;rw[List.take_length]at hv;rw[hv])
theorem LM(hk:k<s.length)(hno:∀(j:Nat) (hj:j<k) (hl:j<s.length),s[j].client≠c)(h:s[k].client=c):bx s c=s[k]:=by
  unfold bx;have e:s=s.take k++s[k]::s.drop (k+1):=ai;have h0:(s.take k).find? (λm=>m.client==c)=none:=by
    rw[List.find?_eq_none];intro m hm;obtain⟨i,hi,rfl⟩:=List.getElem_of_mem hm;simp at hi;have:=hno i ac ac;simpa using this
  have:s.find? (λm=>m.client==c)=some s[k]:=by
    conv=>lhs;rw[e]
    rw[List.find?_append,h0,List.find?_cons];simp[h]
  rw[this];rfl
theorem LN(hno:∀(j:Nat) (hl:j<s.length),s[j].client≠c):bx s c=⟨0,0,0⟩:=by
  unfold bx;have:s.find? (λm=>m.client==c)=none:=by
    rw[List.find?_eq_none];intro m hm;obtain⟨i,hi,rfl⟩:=List.getElem_of_mem hm;simpa using hno i hi
  rw[this];rfl
theorem ia(s:List DMark)(c:Int)(h:seenOk s=true):aM av 143 [.one (.sl (s.map DMark.ds)),pI c] (.val (.agg (bx s c).ds)):=by
  have h':(!seenOk s)=false:=by simp[h]
  have hl:=d9 h;refine pO func143 call143 ntmps143 results143 λS=>?_;conv=>whnf
  repeat'(first|refine awz ?_|(refine cP (eq s) ?_;conv=>whnf)|fail)
  refine TE (λk:Nat=>k<=s.length/\∀(j:Nat) (hj:j<k) (hl:j<s.length),s[j].client≠c) (5::rg 10 17) (λk=>[(5,vI .i64 (k:Int))]) (λ_=>[(4,.cells 193 [.d (dI 0),.d (dI 0),.d (dI 0)])]) (λk=>s.length-k) 0 ⟨ac,ac⟩ ?_ sbW (λk hR=>?_)<;>(conv=>whnf)
  · exact whd
  · obtain⟨hk,hno⟩:=hR;repeat'((first|refine awz ?_|refine TO ari (λhlt=>?_)|refine Tz ari ari ?_|refine tB ?_ ?_|intro h)<;>conv=>whnf)
    all_goals first
      | (refine aW.mk ⟨k + 1, ⟨ari, fun j hj hl => ?_⟩,ac, ?_, sbW⟩
         · by_cases hjk:j=k
           · subst hjk;simp_all
           · exact hno j ac hl
         · exact hds)
      |(rw[LM (k:=k) hlt hno (by simp_all)];rfl)
      | (have hkk : k = s.length := ari
         rw[LN λj hl=>hno j ac hl];rfl)
theorem AZ(s:List DMark)(c q:Int)(h:seenOk s=true)(hc:aI c 2 5=true)(hq:aI q 1 2000=true):aM av 264 [.one (.sl (s.map DMark.ds)),pI c,pI q] (rB (decide ((bx s c).seq<q))):=by
  refine pO func264 call264 ntmps264 results264 λS=>?_;conv=>whnf
  repeat'((first|refine awz ?_|refine cP (eq s) ?_|refine cP (ia s c h) ?_|refine cP (dF _) ?_|refine cP (ft _) ?_|exact rr|fail)<;>conv=>whnf)
  all_goals first
    |rfl
    |simp_all
end
theorem GH{Z:Nat->Prop}{w:World}{ρ:Nat->Value}{v:Value}:∀{ds:List AD},ds.all AD.isPv=true->bv Z w ρ (.agg (ds.map .d)) v->v= .agg (ds.map Ey).toArray:=by
 intro ds hp h;cases h with
 |agg _ us hl h=>
  have:us=ds.map Ey:=by
   apply List.ext_getElem
   ·simpa using hl
   ·intro i h1 h2;have hi:i<ds.length:=by simpa using h2
    have hr:=h i (.d ds[i]) us[i] (by simp[hi]) (by simp[h1]);have:=Ez (List.all_eq_true.1 hp ds[i] (List.getElem_mem hi)) (show bK Z w ds[i] us[i]from hr);simpa using this
  rw[this]
section
open Go.Proofs.Tryz
variable {st:ASt}{op:BinOp}{r:Bool}{ds es:List AD}{o:Oper}{x y:Operand}{t t2:TypeId}{S:bj}
structure yW (op:BinOp) (t:TypeId) (ds es:List AD) (r:Bool):Prop where
 guard:∀(x y:Operand) w,(eqGuard op t x y (.agg (ds.map Ey).toArray) (.agg (es.map Ey).toArray)).run Tryz.prog w= .ok () w
 run:∀w,(binOp op t (.agg (ds.map Ey).toArray) (.agg (es.map Ey).toArray)).run Tryz.prog w= .ok (.bool r) w
theorem yW.reads{t2:TypeId}(he:yW op t ds es r)(hd:ds.all AD.isPv=true)(hd2:es.all AD.isPv=true){S:bj}{Z:Nat->Prop}{ρ:Nat->Value}{st:ASt}{a:Act}{w:World}{o:Oper}{x y:Operand}
  (ho:o.op= .binOp op t x y t2) (hx:aEv st x λv=>v= .agg (ds.map .d)) (hy:aEv st y λv=>v= .agg (es.map .d)) (hs:Sim av.W S Z ρ st a w):∃u,bv Z w ρ (vB r) u/\(execOp a.eval o).run av.P w= .ok (.value u) w:=by
 obtain⟨v,hv,rfl⟩:=a7 hs hx;obtain⟨u,hu,rfl⟩:=a7 hs hy;have e1:=GH hd hv;have e2:=GH hd2 hu;have h1:=he.guard x y w;have h2:=he.run w;exact⟨.bool r,cC rfl,by simp[execOp,ho,e1,e2,av,h1,h2]⟩
theorem T0(he:yW op t ds es r){K:ASt->Prop}(ho:o.op= .binOp op t x y t2)(hx:aEv st x λv=>v= .agg (ds.map .d))(hy:aEv st y λv=>v= .agg (es.map .d))(hd:ds.all AD.isPv=true)(hd2:es.all AD.isPv=true)(hk:eT st o.dst (vB r) K):AOp av S o st K:=
 .reads λZ ρ a w hs=>by
  obtain⟨u,hu,hr⟩:=he.reads hd hd2 ho hx hy hs;exact⟨_,u,hu,hr,hk⟩
theorem Uf(he:yW op t ds es r){K:AV->Prop}(ho:o.op= .binOp op t x y t2)(hx:aEv st x λv=>v= .agg (ds.map .d))(hy:aEv st y λv=>v= .agg (es.map .d))(hd:ds.all AD.isPv=true)(hd2:es.all AD.isPv=true)(hk:K (vB r)):kT av o st K:=
 ⟨_,hk,λS Z ρ a w hs=>he.reads hd hd2 ho hx hy hs⟩
theorem wI(w:World)(d:Nat)(a b:Int):(Op.equalIn (d+1) 2 (.int .i64 a) (.int .i64 b)).run Tryz.prog w= .ok (a==b) w:=Nk w d a b
abbrev cR(x:Int):Value:= .int .i64 x
theorem Ge(p q:DMark)(w:World):(binOp .neq 193 (.agg #[cR p.client,cR p.seq,cR p.index]) (.agg #[cR q.client,cR q.seq,cR q.index])).run Tryz.prog w= .ok (.bool (!(p==q))) w:=by
 obtain⟨a0,a1,a2⟩:=p;obtain⟨b0,b1,b2⟩:=q;have h:=run_underlying (w:=w) underlying193;have hs:Tryz.prog.stoodInHeld 193=false:=ae;show(do let x<-Op.equalIn (9999+1) _ _ _;pure (Value.bool !x):Sem Value).run _ _=_;rw[Op.equalIn];have key:∀x y:Int,(Op.equalIn 9999 2 (.int .i64 x) (.int .i64 y)).run Tryz.prog w= .ok (x==y) w:=wI w 9998;simp[h,hs,lW,key];repeat' split
 all_goals simp_all
theorem Ao(p q:DMark):yW .neq 193 p.ds q.ds (!(p==q)):=by
 refine⟨λx y w=>?_,λw=>Ge p q w⟩;have h:Tryz.prog.eqGuardType Tryz.prog.depth 193=false:=ae;simp[eqGuard,h]
theorem IM(p q:DAck)(w:World):(binOp .neq 249 (.agg #[cR p.client,cR p.seq,cR p.index,cR p.last]) (.agg #[cR q.client,cR q.seq,cR q.index,cR q.last])).run Tryz.prog w= .ok (.bool (!(p==q))) w:=by
 obtain⟨a0,a1,a2,a3⟩:=p;obtain⟨b0,b1,b2,b3⟩:=q;have h:=run_underlying (w:=w) underlying249;have hs:Tryz.prog.stoodInHeld 249=false:=ae;show(do let x<-Op.equalIn (9999+1) _ _ _;pure (Value.bool !x):Sem Value).run _ _=_;rw[Op.equalIn];have key:∀x y:Int,(Op.equalIn 9999 2 (.int .i64 x) (.int .i64 y)).run Tryz.prog w= .ok (x==y) w:=wI w 9998;simp[h,hs,lW,key];repeat' split
 all_goals simp_all
theorem LP(p q:DAck):yW .neq 249 p.ds q.ds (!(p==q)):=by
 refine⟨λx y w=>?_,λw=>IM p q w⟩;have h:Tryz.prog.eqGuardType Tryz.prog.depth 249=false:=ae;simp[eqGuard,h]
theorem Gf(p q:DPair)(w:World):(binOp .neq 315 (.agg #[cR p.key,cR p.value]) (.agg #[cR q.key,cR q.value])).run Tryz.prog w= .ok (.bool (!(p==q))) w:=by
 obtain⟨a0,a1⟩:=p;obtain⟨b0,b1⟩:=q;have h:=run_underlying (w:=w) underlying315;have hs:Tryz.prog.stoodInHeld 315=false:=ae;show(do let x<-Op.equalIn (9999+1) _ _ _;pure (Value.bool !x):Sem Value).run _ _=_;rw[Op.equalIn];have key:∀x y:Int,(Op.equalIn 9999 2 (.int .i64 x) (.int .i64 y)).run Tryz.prog w= .ok (x==y) w:=wI w 9998;simp[h,hs,lW,key];repeat' split
 all_goals simp_all
theorem Ap(p q:DPair):yW .neq 315 p.ds q.ds (!(p==q)):=by
 refine⟨λx y w=>?_,λw=>Gf p q w⟩;have h:Tryz.prog.eqGuardType Tryz.prog.depth 315=false:=ae;simp[eqGuard,h]
theorem IN(p q:DJob)(w:World):(binOp .neq 256 (.agg #[cR p.id,cR p.due,cR p.key,cR p.value,cR p.fired]) (.agg #[cR q.id,cR q.due,cR q.key,cR q.value,cR q.fired])).run Tryz.prog w= .ok (.bool (!(p==q))) w:=by
 obtain⟨a0,a1,a2,a3,a4⟩:=p;obtain⟨b0,b1,b2,b3,b4⟩:=q;have h:=run_underlying (w:=w) underlying256;have hs:Tryz.prog.stoodInHeld 256=false:=ae;show(do let x<-Op.equalIn (9999+1) _ _ _;pure (Value.bool !x):Sem Value).run _ _=_;rw[Op.equalIn];have key:∀x y:Int,(Op.equalIn 9999 2 (.int .i64 x) (.int .i64 y)).run Tryz.prog w= .ok (x==y) w:=wI w 9998;simp[h,hs,lW,key];repeat' split
 all_goals simp_all
theorem CS(p q:DJob):yW .neq 256 p.ds q.ds (!(p==q)):=by
 refine⟨λx y w=>?_,λw=>IN p q w⟩;have h:Tryz.prog.eqGuardType Tryz.prog.depth 256=false:=ae;simp[eqGuard,h]
theorem D4(p q:DLease)(w:World):(binOp .eql 54 (.agg #[cR p.holder,cR p.epoch,cR p.til]) (.agg #[cR q.holder,cR q.epoch,cR q.til])).run Tryz.prog w= .ok (.bool (p==q)) w:=by
 obtain⟨a0,a1,a2⟩:=p;obtain⟨b0,b1,b2⟩:=q;have h:=run_underlying (w:=w) underlying54;have hs:Tryz.prog.stoodInHeld 54=false:=ae;show(do let x<-Op.equalIn (9999+1) _ _ _;pure (Value.bool x):Sem Value).run _ _=_;rw[Op.equalIn];have key:∀x y:Int,(Op.equalIn 9999 2 (.int .i64 x) (.int .i64 y)).run Tryz.prog w= .ok (x==y) w:=wI w 9998;simp[h,hs,lW,key];repeat' split
 all_goals simp_all
theorem xJ(p q:DLease):yW .eql 54 p.ds q.ds (p==q):=by
 refine⟨λx y w=>?_,λw=>D4 p q w⟩;have h:Tryz.prog.eqGuardType Tryz.prog.depth 54=false:=ae;simp[eqGuard,h]
theorem Lu(p q:DOp)(w:World):(binOp .eql 65 (.agg #[cR p.kind,cR p.a,cR p.b,cR p.c,cR p.d]) (.agg #[cR q.kind,cR q.a,cR q.b,cR q.c,cR q.d])).run Tryz.prog w= .ok (.bool (p==q)) w:=by
 obtain⟨a0,a1,a2,a3,a4⟩:=p;obtain⟨b0,b1,b2,b3,b4⟩:=q;have h:=run_underlying (w:=w) underlying65;have hs:Tryz.prog.stoodInHeld 65=false:=ae;show(do let x<-Op.equalIn (9999+1) _ _ _;pure (Value.bool x):Sem Value).run _ _=_;rw[Op.equalIn];have key:∀x y:Int,(Op.equalIn 9999 2 (.int .i64 x) (.int .i64 y)).run Tryz.prog w= .ok (x==y) w:=wI w 9998;simp[h,hs,lW,key];repeat' split
 all_goals simp_all
theorem z4(p q:DOp):yW .eql 65 p.ds q.ds (p==q):=by
 refine⟨λx y w=>?_,λw=>Lu p q w⟩;have h:Tryz.prog.eqGuardType Tryz.prog.depth 65=false:=ae;simp[eqGuard,h]
end
section
open Go.Proofs.Tryz
variable {k:Nat}{α:Type}
def db:List (List Nat):=a8 [0,0,66,12417,0,0,326,29061,17663105454471]
def bX:List (List Nat):=dN 8 [6486,6482,6484,6493,566,242,404,1133]
theorem IL[DecidableEq α]{a b:List α}(h:¬a.length=b.length):decide (a=b)=false:=decide_eq_false λe=>h (by rw[e])
theorem NB[DecidableEq α]{a b:List α}(h1:k<a.length)(h2:k<b.length)(h:a[k]≠b[k]):decide (a=b)=false:=decide_eq_false λe=>h (by subst e;rfl)
theorem Ie[DecidableEq α]{a b:List α}(hl:a.length=b.length)(h:∀(j:Nat) (h1:j<a.length) (h2:j<b.length),a[j]=b[j]):decide (a=b)=true:=decide_eq_true (List.ext_getElem hl h)
theorem E7{a b:List α}(h:∀(j:Nat) (hj:j<k) (h1:j<a.length) (h2:j<b.length),a[j]=b[j])(hk:∀(h1:k<a.length) (h2:k<b.length),a[k]=b[k]):∀(j:Nat) (hj:j<k+1) (h1:j<a.length) (h2:j<b.length),a[j]=b[j]:=by
  intro j hj h1 h2;by_cases hjk:j=k
  · subst hjk;exact hk h1 h2
  · exact h j ac h1 h2
theorem mC(a b:List DMark)(ha:a.length<=9223372036854775806):aM av 147 [.one (.sl (a.map DMark.ds)),.one (.sl (b.map DMark.ds))] (rB (decide (a=b))):=by
  refine pO func147 call147 ntmps147 results147 λS=>?_;conv=>whnf
  repeat'(first|refine awz ?_|refine tB ?_ ?_|(intro h;conv=>whnf))
  · rw[IL aq]
  · have hlen:a.length=b.length:=aq;clear h;refine TE (λk:Nat=>k<=a.length/\∀(j:Nat) (hj:j<k) (h1:j<a.length) (h2:j<b.length),a[j]=b[j]) (4::5::rg 11 15) (λk=>[(5,vI .i64 (k:Int))]) (λ_=>[]) (λk=>a.length-k) 0 ⟨ac,ac⟩ ?_ Tx (λk hR=>?_)<;>(conv=>whnf)
    · exact whd
    · obtain⟨hk,hall⟩:=hR;repeat'((first|refine awz ?_|refine TB aL 6 8 db bX ae ae ae rfl ?_|refine TO ari (λhlt=>?_)|refine Tz ari ari ?_|refine T0 (Ao _ _) rfl rfl rfl rfl rfl ?_|refine tB ?_ ?_|intro h)<;>conv=>whnf)
      all_goals first
        |(rw[NB (k:=k) ari ari (by simp_all)];done)
        | (refine aW.mk ⟨k + 1, ⟨ari, E7 hall fun h1 h2 => by simpa using h⟩, ari, ?_, Tx⟩
           exact hds)
        | (have hkk : k = a.length := ari
           rw[Ie hlen λj h1 h2=>hall j ac h1 h2])
end
section
open Go.Proofs.Tryz
variable {e:DEntry}{m x:DMark}{s:List DMark}{p:List DMark×Bool}
def rE:List (List Nat):=a8 [0,1,129,12354,1056835,1056835,101453956,1056835,135008388,0x50c10841c6248,0x2882461c40810c5,0x40810cb14718920a,0x30a20918714b0c1084,0xd1020432c51c624828c,0x38c2882461c52c304210d,0xd1020432c51c624828c,0x40c2882461c52c304210d,0xf3440810cb14718920a30e450,0x3440810cb14718920a31241138f]
def rO:List (List Nat):=dN 17 [0,1,4,13,19480,17698,17941,2146,4333,9841,29524,88573,265720,115588417,117182740,13551745,27900652]
def qp:List (List Nat):=a8 [0,1,129,12354,12354,67637445,6527127684,485365133638,12354,2367555,0x206143042107289,0x30422c9287105188]
def qD:List (List Nat):=dN 10 [0,1,4,52663,52555,52609,52852,53581,6547,13108]
def qq:List (List Nat):=a8 [0,0,66,12417,1052803,0,6,346852442566]
def qE:List (List Nat):=dN 7 [1950,1946,1948,1957,1984,242,485]
def KG(r:List DMark×Bool):AP:= .tup [.one (.sl (r.1.map DMark.ds)),.one (dB r.2)]
def hH(s:List DMark)(e:DEntry):List DMark×Bool:=match cQ s e with|some o=>(o,true)|none=>(s,false)
theorem o6(h:bn e=true):aI e.client 2 5=true/\aI e.seq 1 2000=true/\aI e.index 1 2000=true:=by
  simp only[bn,Bool.and_eq_true]at h;exact⟨h.1.1.2,h.1.2,h.1.1.1.1⟩
theorem Dw(x:DMark):∀(s:List DMark) (p:List DMark×Bool),(s.foldl (fh x) p).1.length<=p.1.length+2*s.length
  |[],p=>by simp
  |m::r,p=>by
    have h1:=Dw x r (fh x p m);have h2:(fh x p m).1.length<=p.1.length+2:=by
      unfold fh;simp only;split<;>split<;>simp
    simp only[List.foldl_cons,List.length_cons];omega
theorem pN(x:DMark){k:Nat}(hk:k<s.length):(s.take (k+1)).foldl (fh x) ([],false)=fh x ((s.take k).foldl (fh x) ([],false)) s[k]:=by
  rw[List.take_succ_eq_append_getElem hk,List.foldl_append];rfl
theorem yO(h1:(!p.2&&decide (m.client>=x.client))=true)(h2:(m.client !=x.client)=true):fh x p m=(p.1++[x]++[m],true):=by simp only[fh,h1,h2,if_true]
theorem yP(h1:(!p.2&&decide (m.client>=x.client))=true)(h2:(m.client !=x.client)=false):fh x p m=(p.1++[x],true):=by simp only[fh,h1,h2,if_true];rfl
theorem yQ(h1:(!p.2&&decide (m.client>=x.client))=false)(h2:(m.client !=x.client)=true):fh x p m=(p.1++[m],p.2):=by simp only[fh,h1,h2,if_true];rfl
theorem yR(h1:(!p.2&&decide (m.client>=x.client))=false)(h2:(m.client !=x.client)=false):fh x p m=(p.1,p.2):=by simp only[fh,h1,h2];rfl
theorem IJ(h:(bn e&&mY s e&&decide (bG s<e.index))=false):cQ s e=none:=by simp[cQ,h]
theorem xQ(h:(bn e&&mY s e&&decide (bG s<e.index))=true):cQ s e=some (cF s e.mark):=by simp only[cQ,h,if_true]
theorem oh(s:List DMark)(e:DEntry)(hseen:seenOk s=true):aM av 202 [.one (.sl (s.map DMark.ds)),.agg e.ds] (KG (hH s e)):=by
  have h':(!seenOk s)=false:=by simp[hseen]
  have hl:=d9 hseen;refine pO func202 call202 ntmps202 results202 λS=>?_;conv=>whnf
  repeat'((first|refine awz ?_|refine TB aL 3 17 rE rO ae ae ae rfl ?_|refine cP (eq s) ?_|refine cP (ba e) ?_|refine cP (AZ s e.client e.seq hseen (by simp_all[bn]) (by simp_all[bn])) ?_|refine cP (mB s hseen) ?_|refine cP (ez s ac) ?_|refine tB ?_ ?_|intro h)<;>conv=>whnf)
  all_goals first
    | (have hno : cQ s e = none := IJ (by first | (simp_all [mY]; done) | (simp_all [mY]; intros; omega))
       simp only[hH,hno];rfl)
    |skip
  have hyes:cQ s e=some (cF s e.mark):=xQ (by first|(simp_all[mY];done)|(simp_all[mY];omega));simp only[hH,hyes];refine TE (λp:Nat×List DMark×Bool=>p.1<=s.length/\p.2=(s.take p.1).foldl (fh e.mark) ([],false)) (42::[7,8,9,43,44,45,46,47,48,49,50,51,52,53,54,55,56,57,58,59,60,61,62,63,64,65,66,67,68,69,70,71,72,73,74,75,76,77,78,79]) (λp=>[(7,.one (.own 42)),(8,vB p.2.2),(9,vI .i64 (p.1:Int))]) (λp=>[(42,.row 193 3 (p.2.1.map DMark.ds)),(6,.cells 193 (e.mark.ds.map .d)),(3,.cells 244 (e.ds.map .d))]) (λp=>s.length-p.1) (0,[],false) ⟨by simp,rfl⟩ ?_ sbW (λp hR=>?_)<;>(conv=>whnf)
  · exact whd
  · obtain⟨hk,hv⟩:=hR;have hlen:=Dw e.mark (s.take p.1) ([],false);rw[<-hv]at hlen;have htl:(s.take p.1).length<=4:=al;simp only[List.length_nil]at hlen;have hfin:=Dv e.mark s [] (yl hseen);repeat'((first|refine awz ?_|refine TB aL 11 10 qp qD ae ae ae rfl ?_|refine TB aL 14 7 qq qE ae ae ae rfl ?_|refine TO ari (λhlt=>?_)|refine Tz ari ari ?_|refine aQ az ?_|refine tB ?_ ?_|intro h)<;>conv=>whnf)
    all_goals first
      | (have he : fh e.mark p.2 (s[p.1]'ari) = (p.2.1 ++ [e.mark] ++ [s[p.1]'ari], true) := (by first | exact yO (by clear hfin hlen hv; first | (simp_all [DEntry.mark]; done) | (simp_all [DEntry.mark]; omega)) (by clear hfin hlen hv; first | (simp_all [DEntry.mark]; done) | (simp_all [DEntry.mark]; omega)) | exact yP (by clear hfin hlen hv; first | (simp_all [DEntry.mark]; done) | (simp_all [DEntry.mark]; omega)) (by clear hfin hlen hv; first | (simp_all [DEntry.mark]; done) | (simp_all [DEntry.mark]; omega)) | exact yQ (by clear hfin hlen hv; first | (simp_all [DEntry.mark]; done) | (simp_all [DEntry.mark]; omega)) (by clear hfin hlen hv; first | (simp_all [DEntry.mark]; done) | (simp_all [DEntry.mark]; omega)) | exact yR (by clear hfin hlen hv; first | (simp_all [DEntry.mark]; done) | (simp_all [DEntry.mark]; omega)) (by clear hfin hlen hv; first | (simp_all [DEntry.mark]; done) | (simp_all [DEntry.mark]; omega)))
         (refine aW.mk ⟨(p.1 + 1, p.2.1 ++ [e.mark] ++ [s[p.1]'ari], true), ⟨ari, by simp only [pN e.mark (s := s) (k := p.1) ari, ← hv, he]⟩, ari, ?_, Tu (congrArg some (congrArg (AO.row 193 3) au)) sbW⟩
          exact hds))
      | (have he : fh e.mark p.2 (s[p.1]'ari) = (p.2.1 ++ [e.mark], true) := (by first | exact yO (by clear hfin hlen hv; first | (simp_all [DEntry.mark]; done) | (simp_all [DEntry.mark]; omega)) (by clear hfin hlen hv; first | (simp_all [DEntry.mark]; done) | (simp_all [DEntry.mark]; omega)) | exact yP (by clear hfin hlen hv; first | (simp_all [DEntry.mark]; done) | (simp_all [DEntry.mark]; omega)) (by clear hfin hlen hv; first | (simp_all [DEntry.mark]; done) | (simp_all [DEntry.mark]; omega)) | exact yQ (by clear hfin hlen hv; first | (simp_all [DEntry.mark]; done) | (simp_all [DEntry.mark]; omega)) (by clear hfin hlen hv; first | (simp_all [DEntry.mark]; done) | (simp_all [DEntry.mark]; omega)) | exact yR (by clear hfin hlen hv; first | (simp_all [DEntry.mark]; done) | (simp_all [DEntry.mark]; omega)) (by clear hfin hlen hv; first | (simp_all [DEntry.mark]; done) | (simp_all [DEntry.mark]; omega)))
         (refine aW.mk ⟨(p.1 + 1, p.2.1 ++ [e.mark], true), ⟨ari, by simp only [pN e.mark (s := s) (k := p.1) ari, ← hv, he]⟩, ari, ?_, Tu (congrArg some (congrArg (AO.row 193 3) au)) sbW⟩
          exact hds))
      | (have he : fh e.mark p.2 (s[p.1]'ari) = (p.2.1 ++ [s[p.1]'ari], p.2.2) := (by first | exact yO (by clear hfin hlen hv; first | (simp_all [DEntry.mark]; done) | (simp_all [DEntry.mark]; omega)) (by clear hfin hlen hv; first | (simp_all [DEntry.mark]; done) | (simp_all [DEntry.mark]; omega)) | exact yP (by clear hfin hlen hv; first | (simp_all [DEntry.mark]; done) | (simp_all [DEntry.mark]; omega)) (by clear hfin hlen hv; first | (simp_all [DEntry.mark]; done) | (simp_all [DEntry.mark]; omega)) | exact yQ (by clear hfin hlen hv; first | (simp_all [DEntry.mark]; done) | (simp_all [DEntry.mark]; omega)) (by clear hfin hlen hv; first | (simp_all [DEntry.mark]; done) | (simp_all [DEntry.mark]; omega)) | exact yR (by clear hfin hlen hv; first | (simp_all [DEntry.mark]; done) | (simp_all [DEntry.mark]; omega)) (by clear hfin hlen hv; first | (simp_all [DEntry.mark]; done) | (simp_all [DEntry.mark]; omega)))
         (refine aW.mk ⟨(p.1 + 1, p.2.1 ++ [s[p.1]'ari], p.2.2), ⟨ari, by simp only [pN e.mark (s := s) (k := p.1) ari, ← hv, he]⟩, ari, ?_, Tu (congrArg some (congrArg (AO.row 193 3) au)) sbW⟩
          exact hds))
      | (have he : fh e.mark p.2 (s[p.1]'ari) = (p.2.1, p.2.2) := (by first | exact yO (by clear hfin hlen hv; first | (simp_all [DEntry.mark]; done) | (simp_all [DEntry.mark]; omega)) (by clear hfin hlen hv; first | (simp_all [DEntry.mark]; done) | (simp_all [DEntry.mark]; omega)) | exact yP (by clear hfin hlen hv; first | (simp_all [DEntry.mark]; done) | (simp_all [DEntry.mark]; omega)) (by clear hfin hlen hv; first | (simp_all [DEntry.mark]; done) | (simp_all [DEntry.mark]; omega)) | exact yQ (by clear hfin hlen hv; first | (simp_all [DEntry.mark]; done) | (simp_all [DEntry.mark]; omega)) (by clear hfin hlen hv; first | (simp_all [DEntry.mark]; done) | (simp_all [DEntry.mark]; omega)) | exact yR (by clear hfin hlen hv; first | (simp_all [DEntry.mark]; done) | (simp_all [DEntry.mark]; omega)) (by clear hfin hlen hv; first | (simp_all [DEntry.mark]; done) | (simp_all [DEntry.mark]; omega)))
         (refine aW.mk ⟨(p.1 + 1, p.2.1, p.2.2), ⟨ari, by simp only [pN e.mark (s := s) (k := p.1) ari, ← hv, he]⟩, ari, ?_, Tu (congrArg some (congrArg (AO.row 193 3) au)) sbW⟩
          exact hds))
      |(exfalso;clear hfin hlen hv;simp_all;done)
      |(exfalso;clear hfin hlen hv;simp_all;omega)
      | (have hkk : p.1 = s.length := ari
         rw[hkk,List.take_length]at hv;rw[<-hv]at hfin;have hf:cF s e.mark=p.2.1++[e.mark]:=by simp_all
         rw[hf];simp only[KG,List.map_append,List.map_cons,List.map_nil];rfl)
      | (have hkk : p.1 = s.length := ari
         rw[hkk,List.take_length]at hv;rw[<-hv]at hfin;have hf:cF s e.mark=p.2.1:=by simp_all
         rw[hf];rfl)
end
section
open Go.Proofs.Tryz
theorem NI{s:List DMark}{l:List DEntry}(h:seenOk s=false):bC s l=([],false):=by simp[bC,h]
theorem NK{s:List DMark}{l:List DEntry}(h:seenOk s=true)(hl:2000<l.length):bC s l=(s,false):=by simp[bC,h,hl]
theorem LV{s:List DMark}{l:List DEntry}(h:seenOk s=true)(hl:¬2000<l.length)(hf:bf s l=none):bC s l=(s,false):=by simp[bC,h,hl,hf]
theorem ja{s c:List DMark}{l:List DEntry}(h:seenOk s=true)(hl:¬2000<l.length)(hf:bf s l=some c):bC s l=(c,true):=by simp[bC,h,hl,hf]
theorem xR{s c:List DMark}{e:DEntry}(h:cQ s e=some c):hH s e=(c,true):=by simp[hH,h]
theorem Gc{s:List DMark}{e:DEntry}(h:cQ s e=none):hH s e=(s,false):=by simp[hH,h]
theorem kP(s:List DMark)(l:List DEntry):aM av 146 [.one (.sl (s.map DMark.ds)),.one (.sl (l.map DEntry.ds))] (KG (bC s l)):=by
 cases hseen:seenOk s with
 |false=>
  have h':(!seenOk s)=true:=by simp[hseen]
  rw[NI hseen];refine pO func146 call146 ntmps146 results146 λS=>?_;conv=>whnf
  repeat'(first|refine awz ?_|(refine cP (eq s) ?_;conv=>whnf)|exact rr|fail)
  all_goals rfl
 |true=>
  have h':(!seenOk s)=false:=by simp[hseen]
  have hs4:=d9 hseen;refine pO func146 call146 ntmps146 results146 λS=>?_;conv=>whnf
  repeat'((first|refine awz ?_|refine cP (eq s) ?_|refine cP (ez s ac) ?_|refine tB ?_ ?_|intro h)<;>conv=>whnf)
  ·rw[NK hseen ari];rfl
  ·have hl:¬2000<l.length:=ari;clear h;refine TE (λp:Nat×List DMark=>p.1<=l.length/\bf s (l.take p.1)=some p.2) (rg 4 6++(rg 21 20)) (λp=>[(6,.one (.d (.sl (p.2.map DMark.ds)))),(7,vI .i64 (p.1:Int))]) (λ_=>[]) (λp=>l.length-p.1) (0,s) ⟨by simp,rfl⟩ ?_ Tx (λp hR=>?_)<;>(conv=>whnf)
   ·exact whd
   ·obtain⟨hk,hf⟩:=hR;have hcur:=nN hseen hf;by_cases hlt:p.1<l.length
    ·have hlt':decide ((p.1:Int)<((l.map DEntry.ds).length:Int))=true:=al;cases hm:cQ p.2 l[p.1]with
     |none=>
      have hmk:=Gc hm;have hM:=oh p.2 l[p.1] hcur;rw[hmk]at hM;repeat'((first|refine awz ?_|refine TO ari (λhlt=>?_)|refine cP (hM) ?_|refine cP (ez s ac) ?_|fail)<;>conv=>whnf)
      rw[LV hseen hl (Ly hlt hf hm)];rfl
     |some c=>
      have hmk:=xR hm;have hM:=oh p.2 l[p.1] hcur;rw[hmk]at hM;repeat'((first|refine awz ?_|refine TO ari (λhlt=>?_)|refine Tz ari ari ?_|refine cP (hM) ?_|fail)<;>conv=>whnf)
      refine aW.mk ⟨(p.1+1,c),⟨ari,by simp only[w5 hlt hf,hm]⟩,ari,?_,Tx⟩;exact hds
    ·have hlt':decide ((p.1:Int)<((l.map DEntry.ds).length:Int))=false:=al;repeat'(first|refine awz ?_|fail)
     have hkk:p.1=l.length:=ac;rw[hkk,List.take_length]at hf;rw[ja hseen hl hf];rfl
section
variable {S:bj} {o:Oper} {st:ASt} {K:ASt->Prop} {x i v:Operand} {id:Nat} {n:Int} {N:Nat} {s:List DMark}
end
end
theorem LH{s:List DMark}{e:DEntry}(h3:¬e.index<=bG s):bG (cF s e.mark)=e.index:=F7 (m:=e.mark) (by simp[DEntry.mark];omega)
section
open Go.Proofs.Tryz
variable {b:DBook}{l:List DEntry}
def rF:List (List Nat):=a8 [0,1,129,12354,1056835,84676740,1056835,118231172,26665322041863,0x40810c91c8146,0x2861481c90c1084,0xb10204324720518a,0x30a18520724304210b,0xd2c40810c91c814628c,0x2c40810c91c814628e30d,0xf34c38a18520724304210b,0x40b10204324720518a38c34f,0x113cd30e2861481c90c10842d0,0x4902c40810c91c814628e30d3d1,0x1344f34c38a18520724304210b412,0x51240b10204324720518a38c34f453,0x154d13cd30e2861481c90c10842d0494,0x5944902c40810c91c814628e30d3d14d5,0x144902c40810c91c814628e30d3d14d7556,0x40b10204324720518a38c34f6165574d1494,0x195124535d55983cd30e2861481c90c10842d0,0x6902c40810c91c814628e30d3d85955d3452519,0x1b6544914d755660f34c38a18520724304210b41a,0x71a40b10204324720518a38c34f6165574d149465b,0x1a40b10204324720518a38c34f6165574d149465d6dc,0x79c6dd6544914d755660f34c38a18520724304210b41a,0x1f6902c40810c91c814628e30d3d85955d345251975b71e,0x81e71b7595124535d55983cd30e2861481c90c10842d069f,0x217da40b10204324720518a38c34f6165574d149465d6dc7a0,0x1f6902c40810c91c814628e30d3d85955d345251975b71e,0x8de71b7595124535d55983cd30e2861481c90c10842d069f,0x8a079c6dd6544914d755660f34c38a18520724304210b41a7e1923,0x1f6902c40810c91c814628e30d3d85955d345251975b71e963921822,0x9a282192395e71b7595124535d55983cd30e2861481c90c10842d069f]
def rP:List (List Nat):=dN 36 [0,1,4,13,5872,5953,688,1417,3280,9841,29524,88573,265720,797161,2391484,7174453,21523360,64570081,193710244,581130733,1743392200,5230176601,15690529804,47071589413,141214768240,423644304721,1270932914164,3812798742493,0xa67358b3f98,34315188682441,0x5da0e1e53c5c,0x1db175a3e31495d,0x1dd491f8990b388,0x1e3de6f6baef209,0x3a26ec4d607d73,0x7566bb4070affc]
def nF:List (List Nat):=a8 [0,0,66,12417,1052803,84680772,6509830341,486455906566,35601001230663,0x91c50c2044188,0x2881840420c51c9,0x2881840420c51c9,0x2c91c50c204418828c,0xd30a20610108314724b,0x38b24714308110620a30d,0x2881840420c51c9,0x2881840420c51c9,0x1124714308110620a,0x1024714308110620a491,0x4d148a206101083147250,0x144091c50c2044188292453,0x5534522881840420c51c9414,0x3cd30a20610108314724b3965104914d5,0x1755345241458e2c91c50c204418828c34f,0x60f34c2881840420c51c92ce594412453557,0x60f34c2881840420c51c92ce594412453557,0x65755345241458e2c91c50c204418828c34f61a,0x1b6983cd30a20610108314724b3965104914d55d9,0x7195d54d149051638b24714308110620a30d3d869b,0x60f34c2881840420c51c92ce594412453557,0x60f34c2881840420c51c92ce594412453557,0x1f5d54d149051638b24714308110620a30d3d8,0x1e5d54d149051638b24714308110620a30d3d881f,0x85f8183cd30a20610108314724b3965104914d55de,0x2279755345241458e2c91c50c204418828c34f6207e1,0x1d6da60f34c2881840420c51c92ce59441245355765c8e17e07a2,0x60f34c2881840420c51c92ce5944124535579227a07e18dc65a6dd,0xa20610108314726575b69972385f81e8a45d54d149051638b30d3d8,0x1c50c20441a660f34c2ce5944124535579227a07e18dc65a6dd94920a]
def nK:List (List Nat):=dN 35 [6,2,4,13,40,121,364,1093,3280,9841,31367094520,31366858324,31366976422,31367507863,31369102186,358693150,43017196,86063917,200855173,588275662,1750537129,5237321530,15690529804,47071589413,0xb182ad05a7cbbe,0xb181a5fd34e83a,0xb18229816e59fc,0xb184795470d9e5,0xb18b68cd7859a0,0x618587e88e6ea,0xbb20e2bc1c48,411641049421057,960684068340121,0x9ff0c92c0c01a,8372764823747485]
def kH:List (List Nat):=a8 [0,1,129,12354,1056835,84676740,6510088389,486455648518,35601017745735,0x91c50c1084188,84676740,11878797509,830053032203,0xa20610204314724d2cc,0x38c2cd24714304210620a,0xf2881840810c51c934b30e,0x40e30b3491c50c108418828f,0x113ca20610204314724d2cc390,0x49038c2cd24714304210620a3d1,0x1344f2881840810c51c934b30e412,0xf2881840810c51c934b30e,0x54e30b3491c50c108418828f,0x51240e30b3491c50c108418828f453595,0xf2881840810c51c934b30e5d5593450494,0x1430421185124114d655738c2cd24718828f,0x193ca2061c934b30e5d55934504946040810c5]
def kL:List (List Nat):=dN 22 [0,1,4,13,40,1535395,1535638,1536367,1538554,1545115,58927,117976,295123,797161,2391484,27901449661,27915798568,27958845289,28087985452,28475405941,3479609947,6966394348]
theorem fF(hh:DHead)(hs:hh.seen.length<=9223372036854775806):aM av 142 [.agg hh.ds] (rB (cT hh)):=by
  have seen_le6:∀{s:List DMark},seenOk s=true->s.length<=1000000:=λh=>Nat.le_trans (d9 h) ac;refine pO func142 call142 ntmps142 results142 λS=>?_;conv=>whnf
  repeat'((first|refine awz ?_|refine TB aL 1 36 rF rP ae ae ae rfl ?_|refine cP (aN _ _ _) ?_|refine cP (bP _) ?_|refine cP (eq hh.seen) ?_|refine cP (mB hh.seen am) ?_|refine tB ?_ ?_|intro h)<;>conv=>whnf)
  all_goals
    refine dh ?_;first
      |(simp_all[cT,tOk];done)
      |(simp_all[cT,tOk];intros;omega)
theorem BE(h:¬l.length<=2000):cX l=false:=by simp[cX,h]
theorem D3{k:Nat}(hk:k<l.length)(h:bZ bn nV l k hk=false):cX l=false:=by
  have:=nD hk h;simp only[cX,Bool.and_assoc]at*
  simp only[this,Bool.and_false]
theorem BF(h:l.length<=2000)(hc:(l.all bn&&fI nV l)=true):cX l=true:=by
  simp only[cX,Bool.and_assoc,hc,h,decide_true,Bool.and_self]
theorem FE{e:DEntry}(h:bn e=true):1<=e.index/\e.index<=2000:=by
  have:=(o6 h).2.2;simp only[aI,Bool.and_eq_true,decide_eq_true_eq]at this;exact this
theorem Kl{α:Type}{P:α->Bool}{Q:α->α->Bool}{l:List α}{j:Nat}{hl:j<l.length}(h:bZ P Q l j hl=true):P l[j]=true:=by
  unfold bZ at h;exact(Bool.and_eq_true_iff.1 h).1
theorem fp(l:List DEntry):aM av 200 [.one (.sl (l.map DEntry.ds))] (rB (cX l)):=by
  refine pO func200 call200 ntmps200 results200 λS=>?_;conv=>whnf
  repeat'(first|refine awz ?_|refine tB ?_ ?_|(intro h;conv=>whnf))
  · rw[BE ari]
  · have h1:l.length<=2000:=ari;clear h;refine TE (λk:Nat=>k<=l.length/\∀(j:Nat) (hj:j<k) (hl:j<l.length),bZ bn nV l j hl=true) (2::3::rg 7 45) (λk=>[(3,vI .i64 (k:Int))]) (λ_=>[]) (λk=>l.length-k) 0 ⟨ac,ac⟩ ?_ Tx (λk hR=>?_)<;>(conv=>whnf)
    · exact whd
    · obtain⟨hk,hall⟩:=hR;have hprev:∀h0:0<k,1<=(l[k-1]'(ac)).index/\(l[k-1]'(ac)).index<=2000:=λh0=>FE (Kl (hall (k-1) ac ac));repeat'((first|refine awz ?_|refine TB aL 6 35 nF nK ae ae ae rfl ?_|refine TO ari (λhlt=>?_)|refine T8 ari ari (λhpv=>?_)|refine Tz (n:=_-_) ari ari ?_|refine Tz (by have:=hprev ari;omega) (by have:=hprev ari;omega) ?_|refine Tz ari ari ?_|refine cP (ba _) ?_|refine tB ?_ ?_|intro h)<;>conv=>whnf)
      all_goals first
        |(rw[D3 hlt (by first|(refine dG _ ?_;simp_all;done)|(rw[bU _ ari];simp_all[nV];done)|(rw[ch _ ari];simp_all;done)|(rw[bU _ ari];simp_all[nV];omega)|(exfalso;assumption))];done)
        | (refine aW.mk ⟨k + 1, ⟨ari, kp hall ari (by first | (refine dG _ ?_; simp_all; done) | (rw [bU _ ari]; simp_all [nV]; done) | (rw [ch _ ari]; simp_all; done) | (rw [bU _ ari]; simp_all [nV]; omega) | (exfalso; assumption))⟩, ari, ?_, Tx⟩
           exact hds)
        |(rw[BF h1 (nI hall ari)])
theorem Fw(h:(aI b.base 0 2000&&tOk b.time&& !(b.base==0&&b.time !=0))=false):bB b=false:=by simp only[bB,h,Bool.false_and]
theorem Fx(h:(decide (b.entries.length<=20)&&cX b.entries)=false):bB b=false:=by
  simp only[Bool.and_eq_false_iff]at h;rcases h with h|h<;>simp only[bB,h,Bool.and_false,Bool.false_and]
theorem Nf{x lo hi:Int}(h:(!aI x lo hi)=false):lo<=x/\x<=hi:=by
  have:aI x lo hi=true:=by simpa using h
  simpa only[aI,Bool.and_eq_true,decide_eq_true_eq]using this
theorem eN(b:DBook):aM av 145 [.agg b.ds] (rB (bB b)):=by
  rcases he:b.entries with _|⟨e,r⟩
  · have he0:(((b.entries.map DEntry.ds).length:Int)==0)=true:=by simp[he]
    refine pO func145 call145 ntmps145 results145 λS=>?_;conv=>whnf
    repeat'((first|refine awz ?_|refine TB aL 3 22 kH kL ae ae ae rfl ?_|refine cP (aN _ _ _) ?_|refine cP (bP _) ?_|refine cP (fp b.entries) ?_|refine tB ?_ ?_|intro h)<;>conv=>whnf)
    all_goals
      refine dh ?_;first
        |(rw[Fw (by first|(simp_all[tOk];done)|(exfalso;assumption))];done)
        |(rw[Fx (by first|(simp_all;done)|(exfalso;assumption))];done)
        |(simp_all[bB,tOk];done)
  · have he0:(((b.entries.map DEntry.ds).length:Int)==0)=false:=by simp[he];omega
    have i0:∀{K:Nat->List AD->Prop},K 0 e.ds->AIx (b.entries.map DEntry.ds) 0 K:=λh=>Ty 0 _ rfl (by rw[he];rfl) h;refine pO func145 call145 ntmps145 results145 λS=>?_;conv=>whnf
    repeat'((first|refine awz ?_|refine TB aL 3 22 kH kL ae ae ae rfl ?_|refine i0 ?_|refine Tz (by have:=Nf (x:=b.base) am;omega) (by have:=Nf (x:=b.base) am;omega) ?_|refine cP (aN _ _ _) ?_|refine cP (bP _) ?_|refine cP (fp b.entries) ?_|refine tB ?_ ?_|intro h)<;>conv=>whnf)
    all_goals
      refine dh ?_;first
        |(rw[Fw (by first|(simp_all[tOk];done)|(exfalso;assumption))];done)
        |(rw[Fx (by simp only[Bool.and_eq_false_iff,decide_eq_false_iff_not];first|(exact .inl ari)|(refine .inr ?_;simp_all;done)|(exfalso;assumption))];done)
        | (have hlen : b.entries.length ≤ 20 := ari
           simp_all[bB,tOk];done)
        | (have hlen : b.entries.length ≤ 20 := ari
           simp_all[bB,tOk];intros;omega)
theorem eO(x:Int):aM av 70 [pI x] (rB (fz x)):=by
  refine pO func70 call70 ntmps70 results70 λS=>?_;conv=>whnf
  repeat'(first|refine awz ?_|refine tB ?_ ?_|(intro h;conv=>whnf))
  all_goals
    refine dh ?_;simp_all[fz]
theorem ym(x:Int):aM av 267 [pI x] (rB (fz x)):=by
  refine pO func267 call267 ntmps267 results267 λS=>?_;conv=>whnf
  repeat'(first|refine awz ?_|refine tB ?_ ?_|(intro h;conv=>whnf))
  all_goals
    refine dh ?_;simp_all[fz]
theorem sS(p:DPair):aM av 265 [.agg p.ds] (rB (dV p)):=by
  refine pO func265 call265 ntmps265 results265 λS=>?_;conv=>whnf
  repeat'((first|refine awz ?_|refine cP (aN _ _ _) ?_|refine tB ?_ ?_|intro h)<;>conv=>whnf)
  all_goals
    refine dh ?_;simp_all[dV]
theorem wg(p:DJob):aM av 266 [.agg p.ds] (rB (jV p)):=by
  refine pO func266 call266 ntmps266 results266 λS=>?_;conv=>whnf
  repeat'((first|refine awz ?_|refine cP (aN _ _ _) ?_|refine tB ?_ ?_|intro h)<;>conv=>whnf)
  all_goals
    refine dh ?_;simp_all[jV,tOk]
theorem dW(l:DLease):aM av 209 [.agg l.ds] (rB (dD l)):=by
  refine pO func209 call209 ntmps209 results209 λS=>?_;conv=>whnf
  repeat'((first|refine awz ?_|refine T0 (xJ l ⟨0,0,0⟩) rfl rfl rfl rfl rfl ?_|refine cP (eO _) ?_|refine cP (aN _ _ _) ?_|refine tB ?_ ?_|intro h)<;>conv=>whnf)
  all_goals
    refine dh ?_;simp_all[dD]
end
section
open Go.Proofs.Tryz
variable {b:DBook}{p:DEntry->Bool}{P l:List DEntry}{k:Nat}
def qv:List (List Nat):=a8 [0,1,0,8259,1060930,0,0,391,33222,2384328,90639551170638217]
def qI:List (List Nat):=dN 10 [58824,58825,58814,58819,58846,1700,728,1214,3401,9962]
def Ic:DEntry:=⟨0,0,0,0,⟨0,0,0,0,0⟩⟩
theorem gO(h:bB b=true):(0<=b.base/\b.base<=2000)/\tOk b.time=true/\b.entries.length<=20/\cX b.entries=true:=by
  simp only[bB,and_eq_true,aI,decide_eq_true_eq]at h;obtain⟨⟨⟨⟨⟨h1,h2⟩,_⟩,h4⟩,h5⟩,_⟩:=h;exact⟨h1,h2,h4,h5⟩
theorem uD(h:bB b=true)(hk:k<b.entries.length):bn b.entries[k]=true:=by
  have h5:=(gO h).2.2.2;simp only[cX,and_eq_true]at h5;exact th h5.1.2 hk
theorem HZ(h:bB b=true){e:DEntry}{r:List DEntry}(he:b.entries=e::r):e.index=b.base+1:=by
  simp only[bB,and_eq_true]at h;have h6:=h.2;rw[he]at h6;simp only[and_eq_true,beq_iff_eq]at h6;exact h6.1
theorem OJ(hk:0<l.length):∃r,l=l[0]::r:=by
  cases l with
  |nil=>simp at hk
  |cons e r=>exact⟨r,rfl⟩
theorem o3(h:bB b=true):∀(k:Nat) (hk:k<b.entries.length),b.entries[k].index=b.base+1+k:=by
  intro k;induction k with
  |zero=>
    intro hk;obtain⟨r,hr⟩:=OJ hk;have:=HZ h hr;omega
  |succ k ih=>
    intro hk;have h5:=(gO h).2.2.2;simp only[cX,and_eq_true]at h5;have:=iq h5.2 hk;simp only[nV,and_eq_true,beq_iff_eq]at this;have:=ih ac;omega
theorem lu(h:bB b=true):b.base<=aY b/\aY b<=2000:=by
  have h1:=(gO h).1;refine⟨by unfold aY;omega,?_⟩;rcases Nat.eq_zero_or_pos b.entries.length with h0|h0
  · unfold aY;omega
  · have h2:=o3 h (b.entries.length-1) ac;have h3:=o6 (uD h (k:=b.entries.length-1) ac);have h4:=h3.2.2;simp only[aI,and_eq_true,decide_eq_true_eq]at h4;unfold aY;omega
theorem O6:∀{c m:Int},(∀(k:Nat) (hk:k<l.length),l[k].index=c+k)->l.filter (λe=>decide (e.index<m))=l.take (m-c).toNat:=by
  induction l with
  |nil=>intro c m _;simp
  |cons e r ih=>
    intro c m h;have h0:=h 0 ai;have hr:=ih (c:=c+1) (m:=m) λk hk=>by
      have:=h (k+1) (by simpa using hk);simp only[List.getElem_cons_succ]at this;omega
    simp only[List.getElem_cons_zero]at h0;by_cases hm:e.index<m
    · rw[List.filter_cons_of_pos (by simpa using hm),hr];have:(m-c).toNat=(m-(c+1)).toNat+1:=ac;rw[this,List.take_succ_cons]
    · rw[List.filter_cons_of_neg (by simpa using hm),hr];have e1:(m-c).toNat=0:=ac;have e2:(m-(c+1)).toNat=0:=ac;rw[e1,e2];simp
def jE(b:DBook)(lo hi:Int):List DEntry:=b.entries.filter λe=>aI e.index lo hi
theorem t7{q:DEntry->Bool}(h:∀e∈l,p e=q e):l.filter p=l.filter q:=by
  induction l with
  |nil=>rfl
  |cons e r ih=>
    have h0:=h e ai;have hr:=ih λx hx=>h x (List.mem_cons_of_mem _ hx);cases hp:p e with
    |true=>rw[List.filter_cons_of_pos hp,List.filter_cons_of_pos (by rw[<-h0,hp]),hr]
    |false=>rw[List.filter_cons_of_neg (by simp[hp]),List.filter_cons_of_neg (by simp[<-h0,hp]),hr]
theorem KI(h:bB b=true)(i:Int):jE b (b.base+1) i=vH b i:=by
  have h1:jE b (b.base+1) i=b.entries.filter λe=>decide (e.index<i+1):=t7 λe he=>by
    obtain⟨k,hk,rfl⟩:=List.getElem_of_mem he;have:=o3 h k hk;rw[Bool.eq_iff_iff];simp[aI];omega
  rw[h1,O6 (c:=b.base+1) (o3 h)];unfold vH;congr 1;omega
theorem IW(h:bB b=true)(d:Int):jE b (d+1) 2000=dA b d:=t7 λe he=>by
  obtain⟨k,hk,rfl⟩:=List.getElem_of_mem he;have h3:=(o6 (uD h hk)).2.2;rw[Bool.eq_iff_iff];simp[aI]at h3⊢;omega
theorem dp(b:DBook)(h:bB b=true):aM av 148 [.agg b.ds] (.val (pI (aY b))):=by
  have hp:=gO h;have hq:=lu h;refine pO func148 call148 ntmps148 results148 λS=>?_;conv=>whnf
  repeat'(first|refine awz ?_|(refine Tz ari ari ?_;conv=>whnf)|fail)
  all_goals simp[aY]
def im(b:DBook)(i:Int):Int:=(b.entries.getD (i-b.base-1).toNat Ic).time
theorem mE(b:DBook)(i:Int)(h:bB b=true)(h1:b.base+1<=i)(h2:i<=aY b):aM av 205 [.agg b.ds,.one (dI i)] (.val (pI (im b i))):=by
  have hp:=gO h;have hq:=lu h;obtain⟨k,hk⟩:∃k:Nat,i-b.base-1=k:=⟨(i-b.base-1).toNat,ac⟩;have hkl:k<b.entries.length:=by unfold aY at h2;omega
  refine pO func205 call205 ntmps205 results205 λS=>?_;conv=>whnf
  repeat'((first|refine awz ?_|refine Tz ac ac ?_|refine Ty k (DEntry.ds (b.entries[k]'hkl)) hk (by simp[hkl]) ?_|refine tB ?_ ?_|intro h)<;>conv=>whnf)
  · exfalso;simp at h;omega
  · have e:(i-b.base-1).toNat=k:=ac;simp only[im,e,List.getD_eq_getElem?_getD,List.getElem?_eq_getElem hkl,Option.getD_some]
theorem AQ(e:DEntry):aM av 204 [.agg e.ds] (.val (.agg (gJ e).ds)):=by
  refine pO func204 call204 ntmps204 results204 λS=>?_;conv=>whnf
  repeat'((first|refine awz ?_|refine cP (ba e) ?_|refine tB ?_ ?_|intro h)<;>conv=>whnf)
  all_goals
    simp_all[gJ,DAck.ds]
theorem No(hk:k<l.length)(h:p l[k]=true):(l.take (k+1)).filter p=(l.take k).filter p++[l[k]]:=by
  rw[List.take_succ_eq_append_getElem hk,List.filter_append,List.filter_cons_of_pos h,List.filter_nil]
theorem OD(hk:k<l.length)(h:p l[k]=false):(l.take (k+1)).filter p=(l.take k).filter p:=by
  rw[List.take_succ_eq_append_getElem hk,List.filter_append,List.filter_cons_of_neg (by simp[h]),List.filter_nil,List.append_nil]
theorem Nn:((l.take k).filter p).length<=l.length:=Nat.le_trans (List.length_filter_le ..) al
theorem l9(b:DBook)(lo hi:Int)(h20:b.entries.length<=20):aM av 203 [.agg b.ds,.one (dI lo),.one (dI hi)] (.val (.one (.sl ((jE b lo hi).map DEntry.ds)))):=by
  refine pO func203 call203 ntmps203 results203 λS=>?_;conv=>whnf
  repeat'(first|refine awz ?_|fail)
  refine TE (λk:Nat=>k<=b.entries.length) (9::[7,8,10,11,12,13,14,15,16,17,18,19,20,21,22,23,24,25,26,27,28,29,30,31,32,33]) (λk=>[(7,.one (.own 9)),(8,vI .i64 (k:Int))]) (λk=>[(9,.row 244 9 (((b.entries.take k).filter λe=>aI e.index lo hi).map DEntry.ds)),(3,.cells 47 (b.ds.map .d))]) (λk=>b.entries.length-k) 0 ac ?_ sbW (λk hk=>?_)<;>(conv=>whnf)
  · exact whd
  · have hfl:((b.entries.take k).filter λe=>aI e.index lo hi).length<=b.entries.length:=Nn;repeat'((first|refine awz ?_|refine TO ari (λhlt=>?_)|refine Tz ari ari ?_|refine cP (aN _ _ _) ?_|refine aQ az ?_|refine tB ?_ ?_|intro h)<;>conv=>whnf)
    all_goals first
      | (refine aW.mk ⟨k + 1, ari, ari, ?_, Tu (congrArg some (congrArg (AO.row 244 9) (by rw [No ari am]; simp only [List.map_append, List.map_cons, List.map_nil]; rfl))) sbW⟩
         exact hds)
      | (refine aW.mk ⟨k + 1, ari, ari, ?_, Tu (congrArg some (congrArg (AO.row 244 9) (by rw [OD ari am]))) sbW⟩
         exact hds)
      | (have hkk : k = b.entries.length := ari
         subst hkk;simp only[List.take_length,jE])
theorem PG{l:List DAck}(hl:P.length=l.length)(hk:k<P.length)(h:(l[k]'(ac) !=gJ P[k])=true):decide (l=P.map gJ)=false:=decide_eq_false λe=>by
  subst e;simp at h
theorem Ot{l:List DAck}(hl:P.length=l.length)(h:∀(j:Nat) (h1:j<P.length),l[j]'(ac)=gJ P[j]):decide (l=P.map gJ)=true:=decide_eq_true (List.ext_getElem (by simp[hl]) λj h1 h2=>by
  simp at h2;rw[h j h2];simp)
theorem N9{l:List DAck}{hl:P.length=l.length}(h:∀(j:Nat) (hj:j<k) (h1:j<P.length),l[j]'(ac)=gJ P[j]){h1:k<P.length}(hk:l[k]'(ac)=gJ P[k]):∀(j:Nat) (hj:j<k+1) (h1:j<P.length),l[j]'(ac)=gJ P[j]:=λj hj h1=>by
  rcases Nat.lt_succ_iff_lt_or_eq.1 hj with h2|h2
  · exact h j h2 h1
  · subst h2;exact hk
theorem Bm(n:DLogNode)(hb:bB n.book=true)(hd:n.book.base<=n.durable/\n.durable<=aY n.book)(ho:n.owe.length<=9223372036854775806):aM av 149 [.agg n.ds] (rB (decide (n.owe=(dA n.book n.durable).map gJ))):=by
  have hp:=gO hb;have hq:=lu hb;have h20:=hp.2.2.1;rw[<-IW hb];have hlen:(jE n.book (n.durable+1) 2000).length<=20:=Nat.le_trans (List.length_filter_le ..) h20;refine pO func149 call149 ntmps149 results149 λS=>?_;conv=>whnf
  repeat'((first|refine awz ?_|refine Tz ac ac ?_|refine cP (l9 n.book _ _ h20) ?_|refine tB ?_ ?_|intro h)<;>conv=>whnf)
  · have hne:(jE n.book (n.durable+1) 2000).length≠n.owe.length:=aq;rw[decide_eq_false λe=>hne (by rw[e,List.length_map])]
  · have hln:(jE n.book (n.durable+1) 2000).length=n.owe.length:=aq;clear h;refine TE (λk:Nat=>k<=(jE n.book (n.durable+1) 2000).length/\∀(j:Nat) (hj:j<k) (h1:j<(jE n.book (n.durable+1) 2000).length),n.owe[j]'(ac)=gJ (jE n.book (n.durable+1) 2000)[j]) (2::4::rg 17 17) (λk=>[(4,vI .i64 (k:Int))]) (λ_=>[(1,.cells 50 (n.ds.map .d))]) (λk=>(jE n.book (n.durable+1) 2000).length-k) 0 ⟨ac,ac⟩ ?_ sbW (λk hR=>?_)<;>(conv=>whnf)
    · exact whd
    · obtain⟨hk,hall⟩:=hR;repeat'((first|refine awz ?_|refine TB aL 7 10 qv qI ae ae ae rfl ?_|refine TO ari (λhlt=>?_)|refine Tz ari ari ?_|refine cP (AQ _) ?_|refine T0 (LP _ _) rfl rfl rfl rfl rfl ?_|refine tB ?_ ?_|intro h)<;>conv=>whnf)
      all_goals first
        |(rw[PG hln (k:=k) ari (by first|(simpa using h)|(exfalso;assumption))];done)
        | (refine aW.mk ⟨k + 1, ⟨ari, N9 (hl := hln) (h1 := ari) hall (by simpa using h)⟩, ari, ?_, sbW⟩
           exact hds)
        | (have hkk : k = (jE n.book (n.durable + 1) 2000).length := ari
           rw[Ot hln λj h1=>hall j ac h1])
theorem Ku{a b:DHead}:a=b↔(a.num=b.num/\a.base=b.base/\a.time=b.time/\a.seen=b.seen):=by
  cases a;cases b;simp[DHead.mk.injEq]
theorem jI(a b:DHead)(ha:a.seen.length<=9223372036854775806):aM av 150 [.agg a.ds,.agg b.ds] (rB (decide (a=b))):=by
  refine pO func150 call150 ntmps150 results150 λS=>?_;conv=>whnf
  repeat'((first|refine awz ?_|refine cP (mC a.seen b.seen ha) ?_|refine tB ?_ ?_|intro h)<;>conv=>whnf)
  all_goals
    refine dh ?_;rw[Bool.eq_iff_iff];simp only[decide_eq_true_iff,Ku];simp_all
theorem OB{a:DBook}:a=b↔(a.base=b.base/\a.time=b.time/\a.entries=b.entries):=by
  cases a;cases b;simp[DBook.mk.injEq]
theorem jK(a:DHead):aM av 153 [.agg a.ds] (rB (decide (a=d8))):=by
  refine pO func153 call153 ntmps153 results153 λS=>?_;conv=>whnf
  repeat'(first|refine awz ?_|refine tB ?_ ?_|(intro h;conv=>whnf))
  all_goals
    refine dh ?_;rw[Bool.eq_iff_iff];simp only[decide_eq_true_iff,Ku];simp_all[d8]
end
end Go.Proofs.YtlmoekpinpafeaaGreat
