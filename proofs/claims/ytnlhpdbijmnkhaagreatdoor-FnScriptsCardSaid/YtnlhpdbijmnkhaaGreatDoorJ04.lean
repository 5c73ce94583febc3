/- J04 -/
import Derived.Test.YtnlhpdbijmnkhaaGreatDoorAvEnv
import Derived.Test.YtnlhpdbijmnkhaaGreatDoorJ02
import Derived.Test.YtnlhpdbijmnkhaaGreatDoorJ03
import Derived.Test.YtnlhpdbijmnkhaaGreatDoorAvJS
set_option linter.unusedVariables false
set_option linter.unusedSimpArgs false
set_option maxRecDepth 100000
namespace Go.Proofs.YtnlhpdbijmnkhaaGreatDoor
open Go.Proofs.Tryz
open Go.ChangeShapes Go.WideShapes Go.RowKit
abbrev DOp.ds(o:DOp):List AD:=[dI o.kind,dI o.a,dI o.b,dI o.c,dI o.d]
def DOp.v(o:DOp):Value:= .agg #[.int .i64 o.kind,.int .i64 o.a,.int .i64 o.b,.int .i64 o.c,.int .i64 o.d]
def gX(x:DWant):Bool:=if x.kind==4 then(x.op==⟨0,0,0,0,0⟩&&ac x.key 0 9)else if x.kind==1||x.kind==2||x.kind==3 then(dd x.op&&x.op.kind==x.kind&&x.key==0)else false
def DWant.ds(e:DWant):List AD:=[dI e.kind,dI e.op.kind,dI e.op.a,dI e.op.b,dI e.op.c,dI e.op.d,dI e.key]
theorem BX(w:World)(d:Nat)(a b:Int):(Op.equalIn (d+1) 2 (.int .i64 a) (.int .i64 b)).run Tryz.prog w= .ok (a==b) w:=by
 have hi:=run_underlying (w:=w) underlying2
 simp[Op.equalIn,hi]
theorem iw(w:World)(xs:Array Value)(i:Nat)(v:Value)(h:xs[i]? =some v):(part 2 xs i).run Tryz.prog w= .ok v w:=by
 simp[part,isAgg2,sizeOf2,h]
theorem sy{α β:Type}(f:α->β){l:List α}{k:Nat}(hk:k<l.length):(l.take (k+1)).map f=(l.take k).map f++[f l[k]]:=by
 rw[List.take_succ_eq_append_getElem hk,List.map_append];rfl
theorem l0(x:Int):an av 71 [pI x] (rB (ac x 0 5)):=by
 refine ai aj func71 rfl call71 ntmps71 (IG results71) λS=>?_;conv=>whnf
 repeat'((first|refine aw0 ?_|refine aw1 ?_|refine aw2 ?_|refine aw3 ?_|refine aw4 ?_|refine aw5 ?_|refine aw6 ?_|refine aw7 ?_|refine aw8 ?_|refine bT ?_|refine bF ?_|refine cP (aI _ _ _) ?_|exact rr|refine And.intro rfl ?_|refine AB.mk (λh=>?_) (λh=>?_))<;>conv=>whnf)
theorem si(x:Int):an av 130 [pI x] (rB (ac x 0 1000000)):=by
 refine ai aj func130 rfl call130 ntmps130 (IG results130) λS=>?_;conv=>whnf
 repeat'((first|refine aw0 ?_|refine aw1 ?_|refine aw2 ?_|refine aw3 ?_|refine aw4 ?_|refine aw5 ?_|refine aw6 ?_|refine aw7 ?_|refine aw8 ?_|refine bT ?_|refine bF ?_|refine cP (aI _ _ _) ?_|exact rr|refine And.intro rfl ?_|refine AB.mk (λh=>?_) (λh=>?_))<;>conv=>whnf)
end Go.Proofs.YtnlhpdbijmnkhaaGreatDoor
namespace Go.Proofs.YtnlhpdbijmnkhaaGreatDoor
open Go.Proofs.Tryz
open Go.ChangeShapes Go.WideShapes Go.RowKit
abbrev eB(b:Bool):List AD:=[dB b]
abbrev kO(l:List Int):List AD:=[dIs l]
structure DWrite where
 at_:Int
 row:(List Int)
 deriving DecidableEq
def Rep.DWrite:Rep DWrite:=Rep.via (λx=>(x.at_,x.row)) (Rep.pair (Rep.int .i64) (Rep.sl (Rep.int .i64)))
def DWrite.ds(x:DWrite):List AD:=[dI x.at_,.sl (x.row.map eI)]
theorem DWrite.enc:Enc Rep.DWrite DWrite.ds:=Enc.via (f:=λx:DWrite=>(x.at_,x.row)) (Enc.pair Enc.int (Enc.sl Enc.int))
theorem DWrite.encF:am Rep.DWrite DWrite.ds:=am.via (f:=λx:DWrite=>(x.at_,x.row)) (am.pair am.int (am.sl am.int))
def DWrite.small(n:Nat)(x:DWrite):Prop:=x.row.length<=n
structure DDisk where
 kept:(List (List Int))
 wait:(List DWrite)
 deriving DecidableEq
def Rep.DDisk:Rep DDisk:=Rep.via (λx=>(x.kept,x.wait)) (Rep.pair (Rep.sl (Rep.sl (Rep.int .i64))) (Rep.sl Rep.DWrite))
def DDisk.ds(x:DDisk):List AD:=[.sl (x.kept.map kO),.sl (x.wait.map DWrite.ds)]
theorem DDisk.enc:Enc Rep.DDisk DDisk.ds:=Enc.via (f:=λx:DDisk=>(x.kept,x.wait)) (Enc.pair (Enc.sl (Enc.sl Enc.int)) (Enc.sl DWrite.enc))
theorem DDisk.encF:am Rep.DDisk DDisk.ds:=am.via (f:=λx:DDisk=>(x.kept,x.wait)) (am.pair (am.sl (am.sl am.int)) (am.sl DWrite.encF))
def DDisk.small(n:Nat)(x:DDisk):Prop:=x.kept.length<=n/\(∀y∈x.kept,y.length<=n)/\x.wait.length<=n/\(∀y∈x.wait,DWrite.small n y)
structure DTwo where
 a:DDisk
 b:DDisk
 deriving DecidableEq
def Rep.DTwo:Rep DTwo:=Rep.via (λx=>(x.a,x.b)) (Rep.pair Rep.DDisk Rep.DDisk)
def DTwo.ds(x:DTwo):List AD:=[.sl (x.a.kept.map kO),.sl (x.a.wait.map DWrite.ds),.sl (x.b.kept.map kO),.sl (x.b.wait.map DWrite.ds)]
theorem DTwo.enc:Enc Rep.DTwo DTwo.ds:=Enc.via (f:=λx:DTwo=>(x.a,x.b)) (Enc.pair DDisk.enc DDisk.enc)
theorem DTwo.encF:am Rep.DTwo DTwo.ds:=am.via (f:=λx:DTwo=>(x.a,x.b)) (am.pair DDisk.encF DDisk.encF)
def DTwo.small(n:Nat)(x:DTwo):Prop:=DDisk.small n x.a/\DDisk.small n x.b
structure DMark where
 client:Int
 seq:Int
 index:Int
 deriving DecidableEq
def Rep.DMark:Rep DMark:=Rep.via (λx=>(x.client,x.seq,x.index)) (Rep.pair (Rep.int .i64) (Rep.pair (Rep.int .i64) (Rep.int .i64)))
def DMark.ds(x:DMark):List AD:=[dI x.client,dI x.seq,dI x.index]
theorem DMark.enc:Enc Rep.DMark DMark.ds:=Enc.via (f:=λx:DMark=>(x.client,x.seq,x.index)) (Enc.pair Enc.int (Enc.pair Enc.int Enc.int))
theorem DMark.encF:am Rep.DMark DMark.ds:=am.via (f:=λx:DMark=>(x.client,x.seq,x.index)) (am.pair am.int (am.pair am.int am.int))
structure DHead where
 num:Int
 base:Int
 time:Int
 seen:(List DMark)
 deriving DecidableEq
def Rep.DHead:Rep DHead:=Rep.via (λx=>(x.num,x.base,x.time,x.seen)) (Rep.pair (Rep.int .i64) (Rep.pair (Rep.int .i64) (Rep.pair (Rep.int .i64) (Rep.sl Rep.DMark))))
def DHead.ds(x:DHead):List AD:=[dI x.num,dI x.base,dI x.time,.sl (x.seen.map DMark.ds)]
theorem DHead.enc:Enc Rep.DHead DHead.ds:=Enc.via (f:=λx:DHead=>(x.num,x.base,x.time,x.seen)) (Enc.pair Enc.int (Enc.pair Enc.int (Enc.pair Enc.int (Enc.sl DMark.enc))))
theorem DHead.encF:am Rep.DHead DHead.ds:=am.via (f:=λx:DHead=>(x.num,x.base,x.time,x.seen)) (am.pair am.int (am.pair am.int (am.pair am.int (am.sl DMark.encF))))
def DHead.small(n:Nat)(x:DHead):Prop:=x.seen.length<=n
theorem DOp.enc:Enc Rep.DOp DOp.ds:=Enc.via (f:=λx:DOp=>(x.kind,x.a,x.b,x.c,x.d)) (Enc.pair Enc.int (Enc.pair Enc.int (Enc.pair Enc.int (Enc.pair Enc.int Enc.int))))
theorem DOp.encF:am Rep.DOp DOp.ds:=am.via (f:=λx:DOp=>(x.kind,x.a,x.b,x.c,x.d)) (am.pair am.int (am.pair am.int (am.pair am.int (am.pair am.int am.int))))
theorem DEntry.enc:Enc Rep.DEntry DEntry.ds:=Enc.via (f:=λx:DEntry=>(x.index,x.time,x.client,x.seq,x.op)) (Enc.pair Enc.int (Enc.pair Enc.int (Enc.pair Enc.int (Enc.pair Enc.int DOp.enc))))
theorem DEntry.encF:am Rep.DEntry DEntry.ds:=am.via (f:=λx:DEntry=>(x.index,x.time,x.client,x.seq,x.op)) (am.pair am.int (am.pair am.int (am.pair am.int (am.pair am.int DOp.encF))))
structure DBook where
 base:Int
 time:Int
 entries:(List DEntry)
 deriving DecidableEq
def Rep.DBook:Rep DBook:=Rep.via (λx=>(x.base,x.time,x.entries)) (Rep.pair (Rep.int .i64) (Rep.pair (Rep.int .i64) (Rep.sl Rep.DEntry)))
def DBook.ds(x:DBook):List AD:=[dI x.base,dI x.time,.sl (x.entries.map DEntry.ds)]
theorem DBook.enc:Enc Rep.DBook DBook.ds:=Enc.via (f:=λx:DBook=>(x.base,x.time,x.entries)) (Enc.pair Enc.int (Enc.pair Enc.int (Enc.sl DEntry.enc)))
theorem DBook.encF:am Rep.DBook DBook.ds:=am.via (f:=λx:DBook=>(x.base,x.time,x.entries)) (am.pair am.int (am.pair am.int (am.sl DEntry.encF)))
def DBook.small(n:Nat)(x:DBook):Prop:=x.entries.length<=n
structure DAck where
 client:Int
 seq:Int
 index:Int
 last:Int
 deriving DecidableEq
def Rep.DAck:Rep DAck:=Rep.via (λx=>(x.client,x.seq,x.index,x.last)) (Rep.pair (Rep.int .i64) (Rep.pair (Rep.int .i64) (Rep.pair (Rep.int .i64) (Rep.int .i64))))
def DAck.ds(x:DAck):List AD:=[dI x.client,dI x.seq,dI x.index,dI x.last]
theorem DAck.enc:Enc Rep.DAck DAck.ds:=Enc.via (f:=λx:DAck=>(x.client,x.seq,x.index,x.last)) (Enc.pair Enc.int (Enc.pair Enc.int (Enc.pair Enc.int Enc.int)))
theorem DAck.encF:am Rep.DAck DAck.ds:=am.via (f:=λx:DAck=>(x.client,x.seq,x.index,x.last)) (am.pair am.int (am.pair am.int (am.pair am.int am.int)))
structure DLogNode where
 two:DTwo
 head:DHead
 nxt:DHead
 more:Bool
 book:DBook
 seen:(List DMark)
 durable:Int
 owe:(List DAck)
 deriving DecidableEq
def Rep.DLogNode:Rep DLogNode:=Rep.via (λx=>(x.two,x.head,x.nxt,x.more,x.book,x.seen,x.durable,x.owe)) (Rep.pair Rep.DTwo (Rep.pair Rep.DHead (Rep.pair Rep.DHead (Rep.pair Rep.bool (Rep.pair Rep.DBook (Rep.pair (Rep.sl Rep.DMark) (Rep.pair (Rep.int .i64) (Rep.sl Rep.DAck))))))))
def DLogNode.ds(x:DLogNode):List AD:=[.sl (x.two.a.kept.map kO),.sl (x.two.a.wait.map DWrite.ds),.sl (x.two.b.kept.map kO),.sl (x.two.b.wait.map DWrite.ds),dI x.head.num,dI x.head.base,dI x.head.time,.sl (x.head.seen.map DMark.ds),dI x.nxt.num,dI x.nxt.base,dI x.nxt.time,.sl (x.nxt.seen.map DMark.ds),dB x.more,dI x.book.base,dI x.book.time,.sl (x.book.entries.map DEntry.ds),.sl (x.seen.map DMark.ds),dI x.durable,.sl (x.owe.map DAck.ds)]
theorem DLogNode.enc:Enc Rep.DLogNode DLogNode.ds:=Enc.via (f:=λx:DLogNode=>(x.two,x.head,x.nxt,x.more,x.book,x.seen,x.durable,x.owe)) (Enc.pair DTwo.enc (Enc.pair DHead.enc (Enc.pair DHead.enc (Enc.pair Enc.bool (Enc.pair DBook.enc (Enc.pair (Enc.sl DMark.enc) (Enc.pair Enc.int (Enc.sl DAck.enc))))))))
theorem DLogNode.encF:am Rep.DLogNode DLogNode.ds:=am.via (f:=λx:DLogNode=>(x.two,x.head,x.nxt,x.more,x.book,x.seen,x.durable,x.owe)) (am.pair DTwo.encF (am.pair DHead.encF (am.pair DHead.encF (am.pair am.bool (am.pair DBook.encF (am.pair (am.sl DMark.encF) (am.pair am.int (am.sl DAck.encF))))))))
def DLogNode.small(n:Nat)(x:DLogNode):Prop:=DTwo.small n x.two/\DHead.small n x.head/\DHead.small n x.nxt/\DBook.small n x.book/\x.seen.length<=n/\x.owe.length<=n
structure DPair where
 key:Int
 value:Int
 deriving DecidableEq
def Rep.DPair:Rep DPair:=Rep.via (λx=>(x.key,x.value)) (Rep.pair (Rep.int .i64) (Rep.int .i64))
def DPair.ds(x:DPair):List AD:=[dI x.key,dI x.value]
theorem DPair.enc:Enc Rep.DPair DPair.ds:=Enc.via (f:=λx:DPair=>(x.key,x.value)) (Enc.pair Enc.int Enc.int)
theorem DPair.encF:am Rep.DPair DPair.ds:=am.via (f:=λx:DPair=>(x.key,x.value)) (am.pair am.int am.int)
structure DJob where
 id:Int
 due:Int
 key:Int
 value:Int
 fired:Int
 deriving DecidableEq
def Rep.DJob:Rep DJob:=Rep.via (λx=>(x.id,x.due,x.key,x.value,x.fired)) (Rep.pair (Rep.int .i64) (Rep.pair (Rep.int .i64) (Rep.pair (Rep.int .i64) (Rep.pair (Rep.int .i64) (Rep.int .i64)))))
def DJob.ds(x:DJob):List AD:=[dI x.id,dI x.due,dI x.key,dI x.value,dI x.fired]
theorem DJob.enc:Enc Rep.DJob DJob.ds:=Enc.via (f:=λx:DJob=>(x.id,x.due,x.key,x.value,x.fired)) (Enc.pair Enc.int (Enc.pair Enc.int (Enc.pair Enc.int (Enc.pair Enc.int Enc.int))))
theorem DJob.encF:am Rep.DJob DJob.ds:=am.via (f:=λx:DJob=>(x.id,x.due,x.key,x.value,x.fired)) (am.pair am.int (am.pair am.int (am.pair am.int (am.pair am.int am.int))))
structure DLease where
 holder:Int
 epoch:Int
 til:Int
 deriving DecidableEq
def Rep.DLease:Rep DLease:=Rep.via (λx=>(x.holder,x.epoch,x.til)) (Rep.pair (Rep.int .i64) (Rep.pair (Rep.int .i64) (Rep.int .i64)))
def DLease.ds(x:DLease):List AD:=[dI x.holder,dI x.epoch,dI x.til]
theorem DLease.enc:Enc Rep.DLease DLease.ds:=Enc.via (f:=λx:DLease=>(x.holder,x.epoch,x.til)) (Enc.pair Enc.int (Enc.pair Enc.int Enc.int))
theorem DLease.encF:am Rep.DLease DLease.ds:=am.via (f:=λx:DLease=>(x.holder,x.epoch,x.til)) (am.pair am.int (am.pair am.int am.int))
structure DState where
 index:Int
 time:Int
 pairs:(List DPair)
 jobs:(List DJob)
 lease:DLease
 deriving DecidableEq
def Rep.DState:Rep DState:=Rep.via (λx=>(x.index,x.time,x.pairs,x.jobs,x.lease)) (Rep.pair (Rep.int .i64) (Rep.pair (Rep.int .i64) (Rep.pair (Rep.sl Rep.DPair) (Rep.pair (Rep.sl Rep.DJob) Rep.DLease))))
def DState.ds(x:DState):List AD:=[dI x.index,dI x.time,.sl (x.pairs.map DPair.ds),.sl (x.jobs.map DJob.ds),dI x.lease.holder,dI x.lease.epoch,dI x.lease.til]
theorem DState.enc:Enc Rep.DState DState.ds:=Enc.via (f:=λx:DState=>(x.index,x.time,x.pairs,x.jobs,x.lease)) (Enc.pair Enc.int (Enc.pair Enc.int (Enc.pair (Enc.sl DPair.enc) (Enc.pair (Enc.sl DJob.enc) DLease.enc))))
theorem DState.encF:am Rep.DState DState.ds:=am.via (f:=λx:DState=>(x.index,x.time,x.pairs,x.jobs,x.lease)) (am.pair am.int (am.pair am.int (am.pair (am.sl DPair.encF) (am.pair (am.sl DJob.encF) DLease.encF))))
def DState.small(n:Nat)(x:DState):Prop:=x.pairs.length<=n/\x.jobs.length<=n
structure DStore where
 disk:DDisk
 state:DState
 num:Int
 last:Int
 busy:Int
 deriving DecidableEq
def Rep.DStore:Rep DStore:=Rep.via (λx=>(x.disk,x.state,x.num,x.last,x.busy)) (Rep.pair Rep.DDisk (Rep.pair Rep.DState (Rep.pair (Rep.int .i64) (Rep.pair (Rep.int .i64) (Rep.int .i64)))))
def DStore.ds(x:DStore):List AD:=[.sl (x.disk.kept.map kO),.sl (x.disk.wait.map DWrite.ds),dI x.state.index,dI x.state.time,.sl (x.state.pairs.map DPair.ds),.sl (x.state.jobs.map DJob.ds),dI x.state.lease.holder,dI x.state.lease.epoch,dI x.state.lease.til,dI x.num,dI x.last,dI x.busy]
theorem DStore.enc:Enc Rep.DStore DStore.ds:=Enc.via (f:=λx:DStore=>(x.disk,x.state,x.num,x.last,x.busy)) (Enc.pair DDisk.enc (Enc.pair DState.enc (Enc.pair Enc.int (Enc.pair Enc.int Enc.int))))
theorem DStore.encF:am Rep.DStore DStore.ds:=am.via (f:=λx:DStore=>(x.disk,x.state,x.num,x.last,x.busy)) (am.pair DDisk.encF (am.pair DState.encF (am.pair am.int (am.pair am.int am.int))))
def DStore.small(n:Nat)(x:DStore):Prop:=DDisk.small n x.disk/\DState.small n x.state
structure DDue where
 id:Int
 due:Int
 deriving DecidableEq
def Rep.DDue:Rep DDue:=Rep.via (λx=>(x.id,x.due)) (Rep.pair (Rep.int .i64) (Rep.int .i64))
def DDue.ds(x:DDue):List AD:=[dI x.id,dI x.due]
theorem DDue.enc:Enc Rep.DDue DDue.ds:=Enc.via (f:=λx:DDue=>(x.id,x.due)) (Enc.pair Enc.int Enc.int)
theorem DDue.encF:am Rep.DDue DDue.ds:=am.via (f:=λx:DDue=>(x.id,x.due)) (am.pair am.int am.int)
structure DJobs where
 index:Int
 time:Int
 holder:Int
 epoch:Int
 til:Int
 opens:(List DDue)
 deriving DecidableEq
def Rep.DJobs:Rep DJobs:=Rep.via (λx=>(x.index,x.time,x.holder,x.epoch,x.til,x.opens)) (Rep.pair (Rep.int .i64) (Rep.pair (Rep.int .i64) (Rep.pair (Rep.int .i64) (Rep.pair (Rep.int .i64) (Rep.pair (Rep.int .i64) (Rep.sl Rep.DDue))))))
def DJobs.ds(x:DJobs):List AD:=[dI x.index,dI x.time,dI x.holder,dI x.epoch,dI x.til,.sl (x.opens.map DDue.ds)]
theorem DJobs.enc:Enc Rep.DJobs DJobs.ds:=Enc.via (f:=λx:DJobs=>(x.index,x.time,x.holder,x.epoch,x.til,x.opens)) (Enc.pair Enc.int (Enc.pair Enc.int (Enc.pair Enc.int (Enc.pair Enc.int (Enc.pair Enc.int (Enc.sl DDue.enc))))))
theorem DJobs.encF:am Rep.DJobs DJobs.ds:=am.via (f:=λx:DJobs=>(x.index,x.time,x.holder,x.epoch,x.til,x.opens)) (am.pair am.int (am.pair am.int (am.pair am.int (am.pair am.int (am.pair am.int (am.sl DDue.encF))))))
def DJobs.small(n:Nat)(x:DJobs):Prop:=x.opens.length<=n
structure DView where
 jobs:DJobs
 deriving DecidableEq
def Rep.DView:Rep DView:=Rep.via (λx=>x.jobs) Rep.DJobs
def DView.ds(x:DView):List AD:=[dI x.jobs.index,dI x.jobs.time,dI x.jobs.holder,dI x.jobs.epoch,dI x.jobs.til,.sl (x.jobs.opens.map DDue.ds)]
theorem DView.enc:Enc Rep.DView DView.ds:=Enc.via (f:=λx:DView=>x.jobs) DJobs.enc
theorem DView.encF:am Rep.DView DView.ds:=am.via (f:=λx:DView=>x.jobs) DJobs.encF
def DView.small(n:Nat)(x:DView):Prop:=DJobs.small n x.jobs
structure DSched where
 id:Int
 seq:Int
 view:DView
 busy:Bool
 op:DOp
 index:Int
 deriving DecidableEq
def Rep.DSched:Rep DSched:=Rep.via (λx=>(x.id,x.seq,x.view,x.busy,x.op,x.index)) (Rep.pair (Rep.int .i64) (Rep.pair (Rep.int .i64) (Rep.pair Rep.DView (Rep.pair Rep.bool (Rep.pair Rep.DOp (Rep.int .i64))))))
def DSched.ds(x:DSched):List AD:=[dI x.id,dI x.seq,dI x.view.jobs.index,dI x.view.jobs.time,dI x.view.jobs.holder,dI x.view.jobs.epoch,dI x.view.jobs.til,.sl (x.view.jobs.opens.map DDue.ds),dB x.busy,dI x.op.kind,dI x.op.a,dI x.op.b,dI x.op.c,dI x.op.d,dI x.index]
theorem DSched.enc:Enc Rep.DSched DSched.ds:=Enc.via (f:=λx:DSched=>(x.id,x.seq,x.view,x.busy,x.op,x.index)) (Enc.pair Enc.int (Enc.pair Enc.int (Enc.pair DView.enc (Enc.pair Enc.bool (Enc.pair DOp.enc Enc.int)))))
theorem DSched.encF:am Rep.DSched DSched.ds:=am.via (f:=λx:DSched=>(x.id,x.seq,x.view,x.busy,x.op,x.index)) (am.pair am.int (am.pair am.int (am.pair DView.encF (am.pair am.bool (am.pair DOp.encF am.int)))))
def DSched.small(n:Nat)(x:DSched):Prop:=DView.small n x.view
theorem DWant.enc:Enc Rep.DWant DWant.ds:=Enc.via (f:=λx:DWant=>(x.kind,x.op,x.key)) (Enc.pair Enc.int (Enc.pair DOp.enc Enc.int))
theorem DWant.encF:am Rep.DWant DWant.ds:=am.via (f:=λx:DWant=>(x.kind,x.op,x.key)) (am.pair am.int (am.pair DOp.encF am.int))
structure DGot where
 seq:Int
 index:Int
 has:Int
 value:Int
 deriving DecidableEq
def Rep.DGot:Rep DGot:=Rep.via (λx=>(x.seq,x.index,x.has,x.value)) (Rep.pair (Rep.int .i64) (Rep.pair (Rep.int .i64) (Rep.pair (Rep.int .i64) (Rep.int .i64))))
def DGot.ds(x:DGot):List AD:=[dI x.seq,dI x.index,dI x.has,dI x.value]
theorem DGot.enc:Enc Rep.DGot DGot.ds:=Enc.via (f:=λx:DGot=>(x.seq,x.index,x.has,x.value)) (Enc.pair Enc.int (Enc.pair Enc.int (Enc.pair Enc.int Enc.int)))
theorem DGot.encF:am Rep.DGot DGot.ds:=am.via (f:=λx:DGot=>(x.seq,x.index,x.has,x.value)) (am.pair am.int (am.pair am.int (am.pair am.int am.int)))
structure DClient where
 id:Int
 todo:(List DWant)
 gots:(List DGot)
 last:Int
 deriving DecidableEq
def Rep.DClient:Rep DClient:=Rep.via (λx=>(x.id,x.todo,x.gots,x.last)) (Rep.pair (Rep.int .i64) (Rep.pair (Rep.sl Rep.DWant) (Rep.pair (Rep.sl Rep.DGot) (Rep.int .i64))))
def DClient.ds(x:DClient):List AD:=[dI x.id,.sl (x.todo.map DWant.ds),.sl (x.gots.map DGot.ds),dI x.last]
theorem DClient.enc:Enc Rep.DClient DClient.ds:=Enc.via (f:=λx:DClient=>(x.id,x.todo,x.gots,x.last)) (Enc.pair Enc.int (Enc.pair (Enc.sl DWant.enc) (Enc.pair (Enc.sl DGot.enc) Enc.int)))
theorem DClient.encF:am Rep.DClient DClient.ds:=am.via (f:=λx:DClient=>(x.id,x.todo,x.gots,x.last)) (am.pair am.int (am.pair (am.sl DWant.encF) (am.pair (am.sl DGot.encF) am.int)))
def DClient.small(n:Nat)(x:DClient):Prop:=x.todo.length<=n/\x.gots.length<=n
def DMsg.ds(x:DMsg):List AD:=[dI x.frm,dI x.to_,.sl (x.row.map eI)]
theorem DMsg.enc:Enc Rep.DMsg DMsg.ds:=Enc.via (f:=λx:DMsg=>(x.frm,x.to_,x.row)) (Enc.pair Enc.int (Enc.pair Enc.int (Enc.sl Enc.int)))
theorem DMsg.encF:am Rep.DMsg DMsg.ds:=am.via (f:=λx:DMsg=>(x.frm,x.to_,x.row)) (am.pair am.int (am.pair am.int (am.sl am.int)))
def DMsg.small(n:Nat)(x:DMsg):Prop:=x.row.length<=n
def DLink.ds(x:DLink):List AD:=[dI x.a,dI x.b]
theorem DLink.enc:Enc Rep.DLink DLink.ds:=Enc.via (f:=λx:DLink=>(x.a,x.b)) (Enc.pair Enc.int Enc.int)
theorem DLink.encF:am Rep.DLink DLink.ds:=am.via (f:=λx:DLink=>(x.a,x.b)) (am.pair am.int am.int)
def DNet.ds(x:DNet):List AD:=[.sl (x.flight.map DMsg.ds),.sl (x.cuts.map DLink.ds)]
theorem DNet.enc:Enc Rep.DNet DNet.ds:=Enc.via (f:=λx:DNet=>(x.flight,x.cuts)) (Enc.pair (Enc.sl DMsg.enc) (Enc.sl DLink.enc))
theorem DNet.encF:am Rep.DNet DNet.ds:=am.via (f:=λx:DNet=>(x.flight,x.cuts)) (am.pair (am.sl DMsg.encF) (am.sl DLink.encF))
def DNet.small(n:Nat)(x:DNet):Prop:=x.flight.length<=n/\(∀y∈x.flight,DMsg.small n y)/\x.cuts.length<=n
structure DWorld where
 log:DLogNode
 store:DStore
 left:DSched
 right:DSched
 ann:DClient
 bob:DClient
 net:DNet
 clocks:(List Int)
 up:(List Bool)
 deriving DecidableEq
def Rep.DWorld:Rep DWorld:=Rep.via (λx=>(x.log,x.store,x.left,x.right,x.ann,x.bob,x.net,x.clocks,x.up)) (Rep.pair Rep.DLogNode (Rep.pair Rep.DStore (Rep.pair Rep.DSched (Rep.pair Rep.DSched (Rep.pair Rep.DClient (Rep.pair Rep.DClient (Rep.pair Rep.DNet (Rep.pair (Rep.sl (Rep.int .i64)) (Rep.sl Rep.bool)))))))))
def DWorld.ds(x:DWorld):List AD:=[.sl (x.log.two.a.kept.map kO),.sl (x.log.two.a.wait.map DWrite.ds),.sl (x.log.two.b.kept.map kO),.sl (x.log.two.b.wait.map DWrite.ds),dI x.log.head.num,dI x.log.head.base,dI x.log.head.time,.sl (x.log.head.seen.map DMark.ds),dI x.log.nxt.num,dI x.log.nxt.base,dI x.log.nxt.time,.sl (x.log.nxt.seen.map DMark.ds),dB x.log.more,dI x.log.book.base,dI x.log.book.time,.sl (x.log.book.entries.map DEntry.ds),.sl (x.log.seen.map DMark.ds),dI x.log.durable,.sl (x.log.owe.map DAck.ds),.sl (x.store.disk.kept.map kO),.sl (x.store.disk.wait.map DWrite.ds),dI x.store.state.index,dI x.store.state.time,.sl (x.store.state.pairs.map DPair.ds),.sl (x.store.state.jobs.map DJob.ds),dI x.store.state.lease.holder,dI x.store.state.lease.epoch,dI x.store.state.lease.til,dI x.store.num,dI x.store.last,dI x.store.busy,dI x.left.id,dI x.left.seq,dI x.left.view.jobs.index,dI x.left.view.jobs.time,dI x.left.view.jobs.holder,dI x.left.view.jobs.epoch,dI x.left.view.jobs.til,.sl (x.left.view.jobs.opens.map DDue.ds),dB x.left.busy,dI x.left.op.kind,dI x.left.op.a,dI x.left.op.b,dI x.left.op.c,dI x.left.op.d,dI x.left.index,dI x.right.id,dI x.right.seq,dI x.right.view.jobs.index,dI x.right.view.jobs.time,dI x.right.view.jobs.holder,dI x.right.view.jobs.epoch,dI x.right.view.jobs.til,.sl (x.right.view.jobs.opens.map DDue.ds),dB x.right.busy,dI x.right.op.kind,dI x.right.op.a,dI x.right.op.b,dI x.right.op.c,dI x.right.op.d,dI x.right.index,dI x.ann.id,.sl (x.ann.todo.map DWant.ds),.sl (x.ann.gots.map DGot.ds),dI x.ann.last,dI x.bob.id,.sl (x.bob.todo.map DWant.ds),.sl (x.bob.gots.map DGot.ds),dI x.bob.last,.sl (x.net.flight.map DMsg.ds),.sl (x.net.cuts.map DLink.ds),.sl (x.clocks.map eI),.sl (x.up.map eB)]
theorem DWorld.enc:Enc Rep.DWorld DWorld.ds:=Enc.via (f:=λx:DWorld=>(x.log,x.store,x.left,x.right,x.ann,x.bob,x.net,x.clocks,x.up)) (Enc.pair DLogNode.enc (Enc.pair DStore.enc (Enc.pair DSched.enc (Enc.pair DSched.enc (Enc.pair DClient.enc (Enc.pair DClient.enc (Enc.pair DNet.enc (Enc.pair (Enc.sl Enc.int) (Enc.sl Enc.bool)))))))))
theorem DWorld.encF:am Rep.DWorld DWorld.ds:=am.via (f:=λx:DWorld=>(x.log,x.store,x.left,x.right,x.ann,x.bob,x.net,x.clocks,x.up)) (am.pair DLogNode.encF (am.pair DStore.encF (am.pair DSched.encF (am.pair DSched.encF (am.pair DClient.encF (am.pair DClient.encF (am.pair DNet.encF (am.pair (am.sl am.int) (am.sl am.bool)))))))))
def DWorld.small(n:Nat)(x:DWorld):Prop:=DLogNode.small n x.log/\DStore.small n x.store/\DSched.small n x.left/\DSched.small n x.right/\DClient.small n x.ann/\DClient.small n x.bob/\DNet.small n x.net/\x.clocks.length<=n/\x.up.length<=n
end Go.Proofs.YtnlhpdbijmnkhaaGreatDoor
namespace Go.Proofs.YtnlhpdbijmnkhaaGreatDoor
open Go.Proofs.Tryz
open Go.ChangeShapes Go.WideShapes Go.RowKit
section
variable {α:Type}
def EZ(n:Nat)(ok:Nat->Bool):Bool:=(List.range n).all ok
theorem C5{n k:Nat}{ok:Nat->Bool}(hk:k<n)(h:ok k=false):EZ n ok=false:=by
 rw[<-Bool.not_eq_true]
 intro hall
 have:=List.all_eq_true.1 hall k (List.mem_range.2 hk)
 rw[h]at this
 cases this
theorem BK{n:Nat}{ok:Nat->Bool}(h:∀k,k<n->ok k=true):EZ n ok=true:=
 List.all_eq_true.2 λk hk=>h k (List.mem_range.1 hk)
theorem kD{l:List α}{p:α->Bool}{k:Nat}(hk:k<l.length)(h:p l[k]=false):l.all p=false:=by
 rw[<-Bool.not_eq_true]
 intro hall
 have:=List.all_eq_true.1 hall _ (List.getElem_mem hk)
 rw[h]at this
 cases this
theorem uT{l:List α}{p:α->Bool}(h:∀(k:Nat) (hk:k<l.length),p l[k]=true):l.all p=true:=by
 refine List.all_eq_true.2 λx hx=>?_
 obtain⟨k,hk,rfl⟩:=List.getElem_of_mem hx
 exact h k hk
theorem lK{l:List α}{p:α->Bool}(h:l.all p=true){k:Nat}(hk:k<l.length):p l[k]=true:=List.all_eq_true.1 h _ (List.getElem_mem hk)
def fP(Q:α->α->Bool):List α->Bool
 |x::y::r=>Q x y&&fP Q (y::r)
 |_=>true
theorem kA{Q:α->α->Bool}:∀{l:List α},fP Q l=true->∀{k:Nat} (hk:k+1<l.length),Q (l[k]'(by omega)) l[k+1]=true
 |x::y::r,h,k,hk=>by
  simp only[fP,Bool.and_eq_true]at h
  cases k with
  |zero=>exact h.1
  |succ k=>exact kA (l:=y::r) h.2 (k:=k) (by simpa using hk)
 |[],_,k,hk=>by simp at hk
 |[x],_,k,hk=>by simp at hk
theorem v8{Q:α->α->Bool}:∀{l:List α},(∀(k:Nat) (hk:k+1<l.length),Q (l[k]'(by omega)) l[k+1]=true)->fP Q l=true
 |x::y::r,h=>by
  simp only[fP,Bool.and_eq_true]
  refine⟨h 0 Iy,v8 (l:=y::r) λk hk=>?_⟩
  have:=h (k+1) (by simpa using hk)
  simpa using this
 |[],_=>rfl
 |[x],_=>rfl
theorem C4{Q:α->α->Bool}{l:List α}{k:Nat}(hk:k+1<l.length)(h:Q (l[k]'(by omega)) l[k+1]=false):fP Q l=false:=by
 rw[<-Bool.not_eq_true]
 intro hall
 rw[kA hall hk]at h
 cases h
def bX(R:α->α->Bool):List α->Bool
 |[]=>true
 |x::r=>r.all (λy=> !R x y)&&bX R r
theorem nf{R:α->α->Bool}:∀{l:List α},bX R l=true->∀{j k:Nat} (hj:j<k) (hk:k<l.length),R (l[j]'(by omega)) l[k]=false
 |x::r,h,j,k,hj,hk=>by
  simp only[bX,Bool.and_eq_true]at h
  match j,k,hj with
  |0,k+1,_=>
   have:=lK h.1 (k:=k) (by simpa using hk)
   simpa using this
  |j+1,k+1,hj=>exact nf (l:=r) h.2 (j:=j) (k:=k) Iv (by simpa using hk)
 |[],_,j,k,_,hk=>by simp at hk
theorem iQ{R:α->α->Bool}:∀{l:List α},(∀(j k:Nat) (hj:j<k) (hk:k<l.length),R (l[j]'(by omega)) l[k]=false)->bX R l=true
 |[],_=>rfl
 |x::r,h=>by
  simp only[bX,Bool.and_eq_true]
  refine⟨uT λk hk=>?_,iQ λj k hj hk=>?_⟩
  ·have:=h 0 (k+1) Iv (by simpa using hk)
   simpa using this
  ·have:=h (j+1) (k+1) Iv (by simpa using hk)
   simpa using this
theorem kE{R:α->α->Bool}{l:List α}{j k:Nat}(hj:j<k)(hk:k<l.length)(h:R (l[j]'(by omega)) l[k]=true):bX R l=false:=by
 rw[<-Bool.not_eq_true]
 intro hall
 rw[nf hall hj hk]at h
 cases h
end
def tOk(t:Int):Bool:=ac t 0 1000000
def bW(l:List Int):Bool:=decide (l.length<=48)&&l.all λx=>ac x 0 1000000000
def dz(n:Nat)(x:DWrite):Bool:=ac x.at_ 0 ((n:Int)-1)&&bW x.row
def bM(d:DDisk):Bool:=decide (1<=d.kept.length)&&decide (d.kept.length<=40)&&decide (d.wait.length<=60)&&d.kept.all bW&&d.wait.all (dz d.kept.length)
def gr(t:DTwo):Bool:=bM t.a&&bM t.b&&decide (t.a.kept.length=t.b.kept.length)
def dV(a b:Int):Bool:=ac a 0 5&&ac b 0 5&&a !=b
def oW(m:DMsg):Bool:=dV m.frm m.to_&&decide (0<m.row.length)&&bW m.row
def lc(x y:DLink):Bool:=decide (x.a<y.a)||(x.a==y.a&&decide (x.b<y.b))
def dZ(x:DLink):Bool:=dV x.a x.b&&decide (x.a<=x.b)
def mq(n:DNet):Bool:=decide (n.flight.length<=60)&&decide (n.cuts.length<=15)&&n.flight.all oW&&n.cuts.all dZ&&fP lc n.cuts
def fi(l:List Int):Bool:=decide (l.length=6)&&l.all tOk
def nv(x y:DEntry):Bool:=y.index==x.index+1&&decide (x.time<=y.time)
def cB(l:List DEntry):Bool:=decide (l.length<=2000)&&l.all ca&&fP nv l
def cg(b:DBook):Bool:=ac b.base 0 2000&&tOk b.time&& !(b.base==0&&b.time !=0)&&decide (b.entries.length<=20)&&cB b.entries&&(match b.entries with|[]=>true|e::_=>e.index==b.base+1&&decide (b.time<=e.time))
def di(m:DMark):Bool:=ac m.client 2 5&&ac m.seq 1 2000&&ac m.index 1 2000
def fE(x y:DMark):Bool:=decide (x.client<y.client)
def jb(x y:DMark):Bool:=x.index==y.index
def bn(s:List DMark):Bool:=s.all di&&fP fE s&&bX jb s
def jc(s:List DMark)(c:Int):DMark:=(s.find? λm=>m.client==c).getD ⟨0,0,0⟩
def bz:List DMark->Int:=List.foldl (λx m=>if m.index>x then m.index else x) 0
def mI(s:List DMark)(e:DEntry):Bool:=decide ((jc s e.client).seq<e.seq)
def DEntry.mark(e:DEntry):DMark:=⟨e.client,e.seq,e.index⟩
def cu(s:List DMark)(m:DMark):List DMark:=s.filter (λx=>decide (x.client<m.client))++m::s.filter (λx=>decide (m.client<x.client))
def ct(s:List DMark)(e:DEntry):Option (List DMark):=if ca e&&mI s e&&decide (bz s<e.index)then some (cu s e.mark)else none
def bV:List DMark->List DEntry->Option (List DMark)
 |s,[]=>some s
 |s,e::r=>match ct s e with
  |some s'=>bV s' r
  |none=>none
def bu(s:List DMark)(l:List DEntry):List DMark×Bool:=
 if !bn s then([],false)else if 2000<l.length then(s,false)else match bV s l with|some o=>(o,true)|none=>(s,false)
def kW(h:DHead):Bool:=ac h.base 0 2000&&ac h.num 0 h.base&&tOk h.time&&(decide (0<h.base)||h.time==0)&&bn h.seen&&bz h.seen==h.base
def re(t:DTwo):Bool:=gr t&&decide (t.a.kept.length=22)
def er(b:DBook):Int:=b.base+b.entries.length
def eL:DHead:=⟨0,0,0,[]⟩
def fg(e:DEntry):DAck:=if ca e then⟨e.client,e.seq,e.index,e.seq⟩else⟨0,0,0,0⟩
def fq(b:DBook)(d:Int):List DEntry:=b.entries.filter λe=>decide (d+1<=e.index)
def BV(b:DBook)(i:Int):List DEntry:=b.entries.take (i-b.base).toNat
def ny(n:DLogNode):DHead:=⟨n.head.num+1,n.nxt.base,(n.book.entries.getD (n.nxt.base-n.book.base-1).toNat ⟨0,0,0,0,⟨0,0,0,0,0⟩⟩).time,(bu n.head.seen (BV n.book n.nxt.base)).1⟩
def je(n:DLogNode):Bool:=if n.more then ac n.nxt.base (n.head.base+1) n.durable&&n.nxt==ny n else n.nxt==eL
def lg(n:DLogNode):Bool:=re n.two&&kW n.head&&cg n.book&&n.book.base==n.head.base&&n.book.time==n.head.time&&bu n.head.seen n.book.entries==(n.seen,true)&&ac n.durable n.book.base (er n.book)&&n.owe==(fq n.book n.durable).map fg&&je n
def lS(n:DLogNode):Bool:=gr n.two&&n==⟨n.two,eL,eL,false,⟨0,0,[]⟩,[],0,[]⟩
def eA(p:DPair):Bool:=ac p.key 0 9&&ac p.value 0 999
def jk(x y:DPair):Bool:=decide (x.key<y.key)
def cb(l:List DPair):Bool:=l.all eA&&fP jk l
def oU(j:DJob):Bool:=ac j.id 1 20&&tOk j.due&&ac j.key 0 9&&ac j.value 0 999&&ac j.fired 0 2000
def ra(x y:DJob):Bool:=decide (x.id<y.id)
def mo(x y:DJob):Bool:=y.fired !=0&&x.fired==y.fired
def cz(l:List DJob):Bool:=decide (l.length<=8)&&l.all oU&&fP ra l&&bX mo l
def gL(x:Int):Bool:=x==2||x==3
def lR(l:DLease):Bool:=l==⟨0,0,0⟩||(gL l.holder&&ac l.epoch 1 1000&&ac l.til 1 1001000)
def cv(s:DState):Bool:=ac s.index 0 2000&&tOk s.time&&cb s.pairs&&cz s.jobs&&lR s.lease&&s.jobs.all λj=>decide (j.fired<=s.index)
def pJ(d:DDisk):Bool:=bM d&&decide (d.kept.length=8)
def l3(s:DStore):Bool:=pJ s.disk&&cv s.state&&ac s.num 0 1000000000&&ac s.last 0 s.state.index&&((s.num==0)==(s.last==0))&&(s.busy==0||(decide (s.num<1000000000)&&decide (s.last<s.busy)&&decide (s.busy<=s.state.index)))
def fG:DState:=⟨0,0,[],[],⟨0,0,0⟩⟩
def fZ(s:DStore):Bool:=bM s.disk&&s==⟨s.disk,fG,0,0,0⟩
def jC(d:DDue):Bool:=ac d.id 1 20&&tOk d.due
def nn(x y:DDue):Bool:=decide (x.due<y.due)||(x.due==y.due&&decide (x.id<y.id))
def oQ(x y:DDue):Bool:=x.id==y.id
def nr(j:DJobs):Bool:=ac j.index 0 2000&&tOk j.time&&(j.holder==0||gL j.holder)&&ac j.epoch 0 1000&&ac j.til 0 1001000&&decide (j.opens.length<=8)&&j.opens.all jC&&fP nn j.opens&&bX oQ j.opens
def op0:DOp:=⟨0,0,0,0,0⟩
def lx(s:DSched):Bool:=gL s.id&&ac s.seq 0 2000&&nr s.view.jobs&&ac s.index 0 2000&&(if s.busy then s.seq !=0&&dd s.op&&(s.op.kind==4||s.op.kind==5)else s.op==op0)
def gn(id:Int):DSched:=⟨id,0,⟨⟨0,0,0,0,0,[]⟩⟩,false,op0,0⟩
def dw(s:DSched)(id:Int)(up:Bool):Bool:=lx s&&s.id==id&&(up||s==gn id)
def tP(w:DWant)(g:DGot)(seq last:Int):Bool:=g.seq==seq&&ac g.index last 2000&&(if w.kind==4 then(g.has==0&&g.value==0)||(g.has==1&&ac g.value 0 999)else decide (last<g.index)&&g.has==0&&g.value==0)
def k9(gs:List DGot)(k:Nat):Int:=match k with|0=>0|j+1=>(gs.getD j ⟨0,0,0,0⟩).index
def cj(c:DClient):Bool:=(c.id==4||c.id==5)&&c.todo.all gX&&decide (c.todo.length<=12)&&decide (c.gots.length<=c.todo.length)&&EZ c.gots.length (λk=>tP (c.todo.getD k ⟨0,op0,0⟩) (c.gots.getD k ⟨0,0,0,0⟩) ((k:Int)+1) (k9 c.gots k))&&c.last==k9 c.gots c.gots.length
def iG(w:DWorld)(k:Nat):Bool:=w.up.getD k false
def l6(w:DWorld):Bool:=fi w.clocks&&decide (w.up.length=6)&&mq w.net&&iG w 4&&iG w 5&&cj w.ann&&w.ann.id==4&&cj w.bob&&w.bob.id==5&&dw w.left 2 (iG w 2)&&dw w.right 3 (iG w 3)&&(if iG w 0 then lg w.log else lS w.log)&&(if iG w 1 then l3 w.store else fZ w.store)
end Go.Proofs.YtnlhpdbijmnkhaaGreatDoor
namespace Go.Proofs.YtnlhpdbijmnkhaaGreatDoor
open Go.Proofs.Tryz
open Go.ChangeShapes Go.WideShapes Go.RowKit
def l4(s x:Int):Int:=(131*s+x+1).tmod 999999937
def lA(l:List Int):Int:=l.foldl l4 7
theorem xI{s x:Int}(hs:0<=s/\s<=999999936)(hx:0<=x/\x<=1000000000):0<=l4 s x/\l4 s x<=999999936:=by
 unfold l4
 rw[Int.tmod_eq_emod_of_nonneg Iv]
 omega
theorem gF{l:List Int}(h:bW l=true):l.length<=48/\∀x∈l,0<=x/\x<=1000000000:=by
 simp only[bW,ac,Bool.and_eq_true,decide_eq_true_eq,List.all_eq_true]at h
 exact h
theorem CJ{l:List Int}(h:l.length<=48/\∀x∈l,0<=x/\x<=1000000000):bW l=true:=by
 simp only[bW,ac,Bool.and_eq_true,decide_eq_true_eq,List.all_eq_true]
 exact h
theorem nS{l:List Int}(h:∀x∈l,0<=x/\x<=1000000000):∀k,k<=l.length->0<=lA (l.take k)/\lA (l.take k)<=999999936
 |0,_=>by simp[lA]
 |k+1,hk=>by
  have ih:=nS h k Iv
  have hlt:k<l.length:=by omega
  have e:l.take (k+1)=l.take k++[l[k]]:=by rw[List.take_add_one,List.getElem?_eq_getElem hlt];rfl
  rw[e,lA,List.foldl_append]
  exact xI ih (h _ (List.getElem_mem hlt))
theorem Bc{l:List Int}{k:Nat}(hlt:k<l.length):lA (l.take (k+1))=l4 (lA (l.take k)) l[k]:=by
 have e:l.take (k+1)=l.take k++[l[k]]:=by rw[List.take_add_one,List.getElem?_eq_getElem hlt];rfl
 rw[e,lA,List.foldl_append]
 rfl
theorem CZ{l:List Int}(h:bW l=true):0<=lA l/\lA l<=999999936:=by
 have:=nS (gF h).2 l.length (Nat.le_refl _)
 rwa[List.take_length]at this
theorem jw{l:List Int}(h:bW l=true)(hl:l.length<48):bW (l++[lA l])=true:=by
 obtain⟨_,h2⟩:=gF h
 have h3:=CZ h
 refine CJ ⟨by simp;omega,λx hx=>?_⟩
 rcases List.mem_append.1 hx with hx|hx
 ·exact h2 x hx
 ·rw[List.mem_singleton.1 hx];omega
theorem eo{d:DDisk}(h:bM d=true):1<=d.kept.length/\d.kept.length<=40/\d.wait.length<=60/\(∀y∈d.kept,bW y=true)/\∀y∈d.wait,dz d.kept.length y=true:=by
 simp only[bM,Bool.and_eq_true,decide_eq_true_eq,List.all_eq_true]at h
 exact⟨h.1.1.1.1,h.1.1.1.2,h.1.1.2,h.1.2,h.2⟩
theorem oh{d:DDisk}(h:1<=d.kept.length/\d.kept.length<=40/\d.wait.length<=60/\(∀y∈d.kept,bW y=true)/\∀y∈d.wait,dz d.kept.length y=true):bM d=true:=by
 simp only[bM,Bool.and_eq_true,decide_eq_true_eq,List.all_eq_true]
 exact⟨⟨⟨⟨h.1,h.2.1⟩,h.2.2.1⟩,h.2.2.2.1⟩,h.2.2.2.2⟩
theorem gY{n:Nat}{y:DWrite}(h:dz n y=true):(0<=y.at_/\y.at_<=(n:Int)-1)/\bW y.row=true:=by
 simp only[dz,ac,Bool.and_eq_true,decide_eq_true_eq]at h
 exact h
theorem gG{l:List Int}(h:bW l=true):l.length<=48:=(gF h).1
theorem fQ{d:DDisk}(h:bM d=true):DDisk.small 1048576 d:=by
 obtain⟨h1,h2,h3,h4,h5⟩:=eo h
 exact⟨by omega,λy hy=>by have:=gG (h4 y hy);omega,by omega,λy hy=>by
  have:=gG (gY (h5 y hy)).2
  show y.row.length<=1048576
  omega⟩
def jz(d:DDisk)(a:Int)(r:List Int):DDisk:=⟨d.kept,d.wait++[⟨a,r⟩]⟩
theorem iR{d:DDisk}{a:Int}{r:List Int}(h:bM d=true)(hw:d.wait.length<60)(ha:ac a 0 ((d.kept.length:Int)-1)=true)(hr:bW r=true):bM (jz d a r)=true:=by
 obtain⟨h1,h2,h3,h4,h5⟩:=eo h
 refine oh ⟨h1,h2,by simp[jz];omega,h4,λy hy=>?_⟩
 simp only[jz,List.mem_append,List.mem_singleton]at hy
 rcases hy with hy|rfl
 ·exact h5 y hy
 ·simp[dz,jz,ha,hr]
def DQ(k:List (List Int))(x:DWrite):List (List Int):=k.set x.at_.toNat x.row
def oS(k:List (List Int))(l:List DWrite):List (List Int):=l.foldl DQ k
def ml(d:DDisk):DDisk:=⟨oS d.kept d.wait,[]⟩
theorem om(l:List DWrite):∀k:List (List Int),(oS k l).length=k.length:=by
 induction l with
 |nil=>intro k;rfl
 |cons x r ih=>intro k;show(oS (DQ k x) r).length=_;rw[ih];simp[DQ]
theorem yx{k:List (List Int)}{l:List DWrite}{j:Nat}(h:j<l.length):oS k (l.take (j+1))=(oS k (l.take j)).set l[j].at_.toNat l[j].row:=by
 have e:l.take (j+1)=l.take j++[l[j]]:=by rw[List.take_add_one,List.getElem?_eq_getElem h];rfl
 rw[e,oS,List.foldl_append]
 rfl
theorem yw{l:List DWrite}:∀{k:List (List Int)},(∀y∈k,bW y=true)->(∀y∈l,bW y.row=true)->∀y∈oS k l,bW y=true:=by
 induction l with
 |nil=>intro k h _;exact h
 |cons x r ih=>
  intro k h hl
  refine ih (k:=DQ k x) (λy hy=>?_) (λy hy=>hl y (List.mem_cons_of_mem _ hy))
  rcases List.mem_or_eq_of_mem_set hy with hy|rfl
  ·exact h y hy
  ·exact hl x (List.mem_cons_self ..)
theorem wo{d:DDisk}(h:bM d=true):bM (ml d)=true:=by
 obtain⟨h1,h2,h3,h4,h5⟩:=eo h
 exact oh ⟨by rw[ml,om];exact h1,by rw[ml,om];exact h2,by simp[ml],yw h4 λy hy=>(gY (h5 y hy)).2,by simp[ml]⟩
theorem lB{t:DTwo}(h:gr t=true):bM t.a=true/\bM t.b=true/\t.a.kept.length=t.b.kept.length:=by
 simp only[gr,Bool.and_eq_true,decide_eq_true_eq]at h
 exact⟨h.1.1,h.1.2,h.2⟩
theorem xO{t:DTwo}(h:bM t.a=true/\bM t.b=true/\t.a.kept.length=t.b.kept.length):gr t=true:=by
 simp only[gr,Bool.and_eq_true,decide_eq_true_eq]
 exact⟨⟨h.1,h.2.1⟩,h.2.2⟩
def zc(t:DTwo)(a:Int)(r:List Int):DTwo:=⟨jz t.a a (r++[lA r]),jz t.b a (r++[lA r])⟩
def Eb(t:DTwo):DTwo:=⟨ml t.a,ml t.b⟩
theorem Bj{t:DTwo}{a:Int}{r:List Int}(h:gr t=true)(h1:t.a.wait.length<60)(h2:t.b.wait.length<60)(ha:ac a 0 ((t.a.kept.length:Int)-1)=true)(hr:bW r=true)(hl:r.length<48):gr (zc t a r)=true:=by
 obtain⟨f1,f2,f3⟩:=lB h
 exact xO ⟨iR f1 h1 ha (jw hr hl),iR f2 h2 (by rw[<-f3];exact ha) (jw hr hl),f3⟩
def cQ(n:Nat):DDisk:=⟨List.replicate n [],[]⟩
theorem mQ{n:Nat}(h:1<=n/\n<=40):bM (cQ n)=true:=by
 refine oh ⟨by simp[cQ];omega,by simp[cQ];omega,by simp[cQ],λy hy=>?_,by simp[cQ]⟩
 rw[List.eq_of_mem_replicate hy]
 rfl
def nV:List Int:=[0,0,0,0,0,0,0,0,0,0,0,0,0]
def Di:List Int:=nV++[lA nV]
theorem sF:bW nV=true:=by decide
end Go.Proofs.YtnlhpdbijmnkhaaGreatDoor
