/- WData -/
import Derived.Test.YtknefkdcokgpbaaGreatAwx
import Derived.Test.YtknefkdcokgpbaaGreatAvQ
import Derived.Test.YtknefkdcokgpbaaGreatAvFO
set_option maxHeartbeats 8000000
set_option linter.unusedVariables false
set_option linter.unusedSimpArgs false
set_option maxRecDepth 100000
open List (all_eq_true mem_range)
namespace Go.Proofs.YtknefkdcokgpbaaGreat
open Go.ChangeShapes Go.WideShapes Go.RowKit
abbrev eB(b:Bool):List AD:=[dB b]
abbrev bM(l:List Int):List AD:=[dIs l]
structure DWrite where
 at_:Int
 row:(List Int)
 deriving DecidableEq
def Y7:Rep DWrite:=Yw (λx=>(x.at_,x.row)) (Yd (Rep.int .i64) (Rep.sl (Rep.int .i64)))
def DWrite.ds(x:DWrite):List AD:=[dI x.at_,.sl (x.row.map eI)]
theorem aak:Enc Y7 DWrite.ds:=YB (f:=λx:DWrite=>(x.at_,x.row)) (Ye Enc.int (Enc.sl Enc.int))
def Yu(n:Nat)(x:DWrite):Prop:=x.row.length<=n
structure DDisk where
 kept:(List (List Int))
 wait:(List DWrite)
 deriving DecidableEq
def YV:Rep DDisk:=Yw (λx=>(x.kept,x.wait)) (Yd (Rep.sl (Rep.sl (Rep.int .i64))) (Rep.sl Y7))
def DDisk.ds(x:DDisk):List AD:=[.sl (x.kept.map bM),.sl (x.wait.map DWrite.ds)]
theorem Zv:Enc YV DDisk.ds:=YB (f:=λx:DDisk=>(x.kept,x.wait)) (Ye (Enc.sl (Enc.sl Enc.int)) (Enc.sl aak))
def Yp(n:Nat)(x:DDisk):Prop:=x.kept.length<=n/\(∀y∈x.kept,y.length<=n)/\x.wait.length<=n/\(∀y∈x.wait,Yu n y)
structure DTwo where
 a:DDisk
 b:DDisk
 deriving DecidableEq
def Zt:Rep DTwo:=Yw (λx=>(x.a,x.b)) (Yd YV YV)
def DTwo.ds(x:DTwo):List AD:=[.sl (x.a.kept.map bM),.sl (x.a.wait.map DWrite.ds),.sl (x.b.kept.map bM),.sl (x.b.wait.map DWrite.ds)]
theorem aaF:Enc Zt DTwo.ds:=YB (f:=λx:DTwo=>(x.a,x.b)) (Ye Zv Zv)
def YA(n:Nat)(x:DTwo):Prop:=Yp n x.a/\Yp n x.b
structure DMark where
 client:Int
 seq:Int
 index:Int
 deriving DecidableEq
def Zh:Rep DMark:=Yw (λx=>(x.client,x.seq,x.index)) (Yd (Rep.int .i64) (Yd (Rep.int .i64) (Rep.int .i64)))
def DMark.ds(x:DMark):List AD:=[dI x.client,dI x.seq,dI x.index]
theorem Z4:Enc Zh DMark.ds:=YB (f:=λx:DMark=>(x.client,x.seq,x.index)) (Ye Enc.int (Ye Enc.int Enc.int))
structure DHead where
 num:Int
 base:Int
 time:Int
 seen:(List DMark)
 deriving DecidableEq
def Y3:Rep DHead:=Yw (λx=>(x.num,x.base,x.time,x.seen)) (Yd (Rep.int .i64) (Yd (Rep.int .i64) (Yd (Rep.int .i64) (Rep.sl Zh))))
def DHead.ds(x:DHead):List AD:=[dI x.num,dI x.base,dI x.time,.sl (x.seen.map DMark.ds)]
theorem Z3:Enc Y3 DHead.ds:=YB (f:=λx:DHead=>(x.num,x.base,x.time,x.seen)) (Ye Enc.int (Ye Enc.int (Ye Enc.int (Enc.sl Z4))))
def Yo(n:Nat)(x:DHead):Prop:=x.seen.length<=n
theorem Z9:Enc Zs DOp.ds:=YB (f:=λx:DOp=>(x.kind,x.a,x.b,x.c,x.d)) (Ye Enc.int (Ye Enc.int (Ye Enc.int (Ye Enc.int Enc.int))))
theorem aaf:Enc Zm DEntry.ds:=YB (f:=λx:DEntry=>(x.index,x.time,x.client,x.seq,x.op)) (Ye Enc.int (Ye Enc.int (Ye Enc.int (Ye Enc.int Z9))))
structure DBook where
 base:Int
 time:Int
 entries:(List DEntry)
 deriving DecidableEq
def Zf:Rep DBook:=Yw (λx=>(x.base,x.time,x.entries)) (Yd (Rep.int .i64) (Yd (Rep.int .i64) (Rep.sl Zm)))
def DBook.ds(x:DBook):List AD:=[dI x.base,dI x.time,.sl (x.entries.map DEntry.ds)]
theorem aao:Enc Zf DBook.ds:=YB (f:=λx:DBook=>(x.base,x.time,x.entries)) (Ye Enc.int (Ye Enc.int (Enc.sl aaf)))
def Yx(n:Nat)(x:DBook):Prop:=x.entries.length<=n
structure DAck where
 client:Int
 seq:Int
 index:Int
 last:Int
 deriving DecidableEq
def ZV:Rep DAck:=Yw (λx=>(x.client,x.seq,x.index,x.last)) (Yd (Rep.int .i64) (Yd (Rep.int .i64) (Yd (Rep.int .i64) (Rep.int .i64))))
def DAck.ds(x:DAck):List AD:=[dI x.client,dI x.seq,dI x.index,dI x.last]
theorem aaz:Enc ZV DAck.ds:=YB (f:=λx:DAck=>(x.client,x.seq,x.index,x.last)) (Ye Enc.int (Ye Enc.int (Ye Enc.int Enc.int)))
structure DLogNode where
 two:DTwo
 head:DHead
 nxt:DHead
 more:Bool
 book:DBook
 seen:(List DMark)
 durable:Int
 owe:(List DAck)
 deriving DecidableEq
def YT:Rep DLogNode:=Yw (λx=>(x.two,x.head,x.nxt,x.more,x.book,x.seen,x.durable,x.owe)) (Yd Zt (Yd Y3 (Yd Y3 (Yd Rep.bool (Yd Zf (Yd (Rep.sl Zh) (Yd (Rep.int .i64) (Rep.sl ZV))))))))
def DLogNode.ds(x:DLogNode):List AD:=[.sl (x.two.a.kept.map bM),.sl (x.two.a.wait.map DWrite.ds),.sl (x.two.b.kept.map bM),.sl (x.two.b.wait.map DWrite.ds),dI x.head.num,dI x.head.base,dI x.head.time,.sl (x.head.seen.map DMark.ds),dI x.nxt.num,dI x.nxt.base,dI x.nxt.time,.sl (x.nxt.seen.map DMark.ds),dB x.more,dI x.book.base,dI x.book.time,.sl (x.book.entries.map DEntry.ds),.sl (x.seen.map DMark.ds),dI x.durable,.sl (x.owe.map DAck.ds)]
theorem Z8:Enc YT DLogNode.ds:=YB (f:=λx:DLogNode=>(x.two,x.head,x.nxt,x.more,x.book,x.seen,x.durable,x.owe)) (Ye aaF (Ye Z3 (Ye Z3 (Ye Enc.bool (Ye aao (Ye (Enc.sl Z4) (Ye Enc.int (Enc.sl aaz))))))))
def Yq(n:Nat)(x:DLogNode):Prop:=YA n x.two/\Yo n x.head/\Yo n x.nxt/\Yx n x.book/\x.seen.length<=n/\x.owe.length<=n
structure DPair where
 key:Int
 value:Int
 deriving DecidableEq
def ZC:Rep DPair:=Yw (λx=>(x.key,x.value)) (Yd (Rep.int .i64) (Rep.int .i64))
def DPair.ds(x:DPair):List AD:=[dI x.key,dI x.value]
theorem aar:Enc ZC DPair.ds:=YB (f:=λx:DPair=>(x.key,x.value)) (Ye Enc.int Enc.int)
structure DJob where
 id:Int
 due:Int
 key:Int
 value:Int
 fired:Int
 deriving DecidableEq
def ZY:Rep DJob:=Yw (λx=>(x.id,x.due,x.key,x.value,x.fired)) (Yd (Rep.int .i64) (Yd (Rep.int .i64) (Yd (Rep.int .i64) (Yd (Rep.int .i64) (Rep.int .i64)))))
def DJob.ds(x:DJob):List AD:=[dI x.id,dI x.due,dI x.key,dI x.value,dI x.fired]
theorem aaC:Enc ZY DJob.ds:=YB (f:=λx:DJob=>(x.id,x.due,x.key,x.value,x.fired)) (Ye Enc.int (Ye Enc.int (Ye Enc.int (Ye Enc.int Enc.int))))
structure DLease where
 holder:Int
 epoch:Int
 til:Int
 deriving DecidableEq
def Zn:Rep DLease:=Yw (λx=>(x.holder,x.epoch,x.til)) (Yd (Rep.int .i64) (Yd (Rep.int .i64) (Rep.int .i64)))
def DLease.ds(x:DLease):List AD:=[dI x.holder,dI x.epoch,dI x.til]
theorem aag:Enc Zn DLease.ds:=YB (f:=λx:DLease=>(x.holder,x.epoch,x.til)) (Ye Enc.int (Ye Enc.int Enc.int))
structure DState where
 index:Int
 time:Int
 pairs:(List DPair)
 jobs:(List DJob)
 lease:DLease
 deriving DecidableEq
def Y5:Rep DState:=Yw (λx=>(x.index,x.time,x.pairs,x.jobs,x.lease)) (Yd (Rep.int .i64) (Yd (Rep.int .i64) (Yd (Rep.sl ZC) (Yd (Rep.sl ZY) Zn))))
def DState.ds(x:DState):List AD:=[dI x.index,dI x.time,.sl (x.pairs.map DPair.ds),.sl (x.jobs.map DJob.ds),dI x.lease.holder,dI x.lease.epoch,dI x.lease.til]
theorem aah:Enc Y5 DState.ds:=YB (f:=λx:DState=>(x.index,x.time,x.pairs,x.jobs,x.lease)) (Ye Enc.int (Ye Enc.int (Ye (Enc.sl aar) (Ye (Enc.sl aaC) aag))))
def Yt(n:Nat)(x:DState):Prop:=x.pairs.length<=n/\x.jobs.length<=n
structure DStore where
 disk:DDisk
 state:DState
 num:Int
 last:Int
 busy:Int
 deriving DecidableEq
def Y6:Rep DStore:=Yw (λx=>(x.disk,x.state,x.num,x.last,x.busy)) (Yd YV (Yd Y5 (Yd (Rep.int .i64) (Yd (Rep.int .i64) (Rep.int .i64)))))
def DStore.ds(x:DStore):List AD:=[.sl (x.disk.kept.map bM),.sl (x.disk.wait.map DWrite.ds),dI x.state.index,dI x.state.time,.sl (x.state.pairs.map DPair.ds),.sl (x.state.jobs.map DJob.ds),dI x.state.lease.holder,dI x.state.lease.epoch,dI x.state.lease.til,dI x.num,dI x.last,dI x.busy]
theorem aai:Enc Y6 DStore.ds:=YB (f:=λx:DStore=>(x.disk,x.state,x.num,x.last,x.busy)) (Ye Zv (Ye aah (Ye Enc.int (Ye Enc.int Enc.int))))
def Yv(n:Nat)(x:DStore):Prop:=Yp n x.disk/\Yt n x.state
structure DDue where
 id:Int
 due:Int
 deriving DecidableEq
def ZW:Rep DDue:=Yw (λx=>(x.id,x.due)) (Yd (Rep.int .i64) (Rep.int .i64))
def DDue.ds(x:DDue):List AD:=[dI x.id,dI x.due]
theorem aaA:Enc ZW DDue.ds:=YB (f:=λx:DDue=>(x.id,x.due)) (Ye Enc.int Enc.int)
structure DJobs where
 index:Int
 time:Int
 holder:Int
 epoch:Int
 til:Int
 opens:(List DDue)
 deriving DecidableEq
def Zg:Rep DJobs:=Yw (λx=>(x.index,x.time,x.holder,x.epoch,x.til,x.opens)) (Yd (Rep.int .i64) (Yd (Rep.int .i64) (Yd (Rep.int .i64) (Yd (Rep.int .i64) (Yd (Rep.int .i64) (Rep.sl ZW))))))
def DJobs.ds(x:DJobs):List AD:=[dI x.index,dI x.time,dI x.holder,dI x.epoch,dI x.til,.sl (x.opens.map DDue.ds)]
theorem aap:Enc Zg DJobs.ds:=YB (f:=λx:DJobs=>(x.index,x.time,x.holder,x.epoch,x.til,x.opens)) (Ye Enc.int (Ye Enc.int (Ye Enc.int (Ye Enc.int (Ye Enc.int (Enc.sl aaA))))))
def YE(n:Nat)(x:DJobs):Prop:=x.opens.length<=n
structure DView where
 jobs:DJobs
 deriving DecidableEq
def Zi:Rep DView:=Yw (λx=>x.jobs) Zg
def DView.ds(x:DView):List AD:=[dI x.jobs.index,dI x.jobs.time,dI x.jobs.holder,dI x.jobs.epoch,dI x.jobs.til,.sl (x.jobs.opens.map DDue.ds)]
theorem aas:Enc Zi DView.ds:=YB (f:=λx:DView=>x.jobs) aap
def YC(n:Nat)(x:DView):Prop:=YE n x.jobs
structure DSched where
 id:Int
 seq:Int
 view:DView
 busy:Bool
 op:DOp
 index:Int
 deriving DecidableEq
def YW:Rep DSched:=Yw (λx=>(x.id,x.seq,x.view,x.busy,x.op,x.index)) (Yd (Rep.int .i64) (Yd (Rep.int .i64) (Yd Zi (Yd Rep.bool (Yd Zs (Rep.int .i64))))))
def DSched.ds(x:DSched):List AD:=[dI x.id,dI x.seq,dI x.view.jobs.index,dI x.view.jobs.time,dI x.view.jobs.holder,dI x.view.jobs.epoch,dI x.view.jobs.til,.sl (x.view.jobs.opens.map DDue.ds),dB x.busy,dI x.op.kind,dI x.op.a,dI x.op.b,dI x.op.c,dI x.op.d,dI x.index]
theorem ZS:Enc YW DSched.ds:=YB (f:=λx:DSched=>(x.id,x.seq,x.view,x.busy,x.op,x.index)) (Ye Enc.int (Ye Enc.int (Ye aas (Ye Enc.bool (Ye Z9 Enc.int)))))
def Yr(n:Nat)(x:DSched):Prop:=YC n x.view
theorem aat:Enc ZD DWant.ds:=YB (f:=λx:DWant=>(x.kind,x.op,x.key)) (Ye Enc.int (Ye Z9 Enc.int))
structure DGot where
 seq:Int
 index:Int
 has:Int
 value:Int
 deriving DecidableEq
def ZX:Rep DGot:=Yw (λx=>(x.seq,x.index,x.has,x.value)) (Yd (Rep.int .i64) (Yd (Rep.int .i64) (Yd (Rep.int .i64) (Rep.int .i64))))
def DGot.ds(x:DGot):List AD:=[dI x.seq,dI x.index,dI x.has,dI x.value]
theorem aaB:Enc ZX DGot.ds:=YB (f:=λx:DGot=>(x.seq,x.index,x.has,x.value)) (Ye Enc.int (Ye Enc.int (Ye Enc.int Enc.int)))
structure DClient where
 id:Int
 todo:(List DWant)
 gots:(List DGot)
 last:Int
 deriving DecidableEq
def YQ:Rep DClient:=Yw (λx=>(x.id,x.todo,x.gots,x.last)) (Yd (Rep.int .i64) (Yd (Rep.sl ZD) (Yd (Rep.sl ZX) (Rep.int .i64))))
def DClient.ds(x:DClient):List AD:=[dI x.id,.sl (x.todo.map DWant.ds),.sl (x.gots.map DGot.ds),dI x.last]
theorem ZH:Enc YQ DClient.ds:=YB (f:=λx:DClient=>(x.id,x.todo,x.gots,x.last)) (Ye Enc.int (Ye (Enc.sl aat) (Ye (Enc.sl aaB) Enc.int)))
def Ys(n:Nat)(x:DClient):Prop:=x.todo.length<=n/\x.gots.length<=n
def DMsg.ds(x:DMsg):List AD:=[dI x.frm,dI x.to_,.sl (x.row.map eI)]
theorem aaD:Enc Zq DMsg.ds:=YB (f:=λx:DMsg=>(x.frm,x.to_,x.row)) (Ye Enc.int (Ye Enc.int (Enc.sl Enc.int)))
def Yy(n:Nat)(x:DMsg):Prop:=x.row.length<=n
def DLink.ds(x:DLink):List AD:=[dI x.a,dI x.b]
theorem aaq:Enc ZB DLink.ds:=YB (f:=λx:DLink=>(x.a,x.b)) (Ye Enc.int Enc.int)
def DNet.ds(x:DNet):List AD:=[.sl (x.flight.map DMsg.ds),.sl (x.cuts.map DLink.ds)]
theorem aaE:Enc Zr DNet.ds:=YB (f:=λx:DNet=>(x.flight,x.cuts)) (Ye (Enc.sl aaD) (Enc.sl aaq))
def Yz(n:Nat)(x:DNet):Prop:=x.flight.length<=n/\(∀y∈x.flight,Yy n y)/\x.cuts.length<=n
structure DWorld where
 log:DLogNode
 store:DStore
 left:DSched
 right:DSched
 ann:DClient
 bob:DClient
 net:DNet
 clocks:(List Int)
 up:(List Bool)
 deriving DecidableEq
def Zo:Rep DWorld:=Yw (λx=>(x.log,x.store,x.left,x.right,x.ann,x.bob,x.net,x.clocks,x.up)) (Yd YT (Yd Y6 (Yd YW (Yd YW (Yd YQ (Yd YQ (Yd Zr (Yd (Rep.sl (Rep.int .i64)) (Rep.sl Rep.bool)))))))))
def DWorld.ds(x:DWorld):List AD:=[.sl (x.log.two.a.kept.map bM),.sl (x.log.two.a.wait.map DWrite.ds),.sl (x.log.two.b.kept.map bM),.sl (x.log.two.b.wait.map DWrite.ds),dI x.log.head.num,dI x.log.head.base,dI x.log.head.time,.sl (x.log.head.seen.map DMark.ds),dI x.log.nxt.num,dI x.log.nxt.base,dI x.log.nxt.time,.sl (x.log.nxt.seen.map DMark.ds),dB x.log.more,dI x.log.book.base,dI x.log.book.time,.sl (x.log.book.entries.map DEntry.ds),.sl (x.log.seen.map DMark.ds),dI x.log.durable,.sl (x.log.owe.map DAck.ds),.sl (x.store.disk.kept.map bM),.sl (x.store.disk.wait.map DWrite.ds),dI x.store.state.index,dI x.store.state.time,.sl (x.store.state.pairs.map DPair.ds),.sl (x.store.state.jobs.map DJob.ds),dI x.store.state.lease.holder,dI x.store.state.lease.epoch,dI x.store.state.lease.til,dI x.store.num,dI x.store.last,dI x.store.busy,dI x.left.id,dI x.left.seq,dI x.left.view.jobs.index,dI x.left.view.jobs.time,dI x.left.view.jobs.holder,dI x.left.view.jobs.epoch,dI x.left.view.jobs.til,.sl (x.left.view.jobs.opens.map DDue.ds),dB x.left.busy,dI x.left.op.kind,dI x.left.op.a,dI x.left.op.b,dI x.left.op.c,dI x.left.op.d,dI x.left.index,dI x.right.id,dI x.right.seq,dI x.right.view.jobs.index,dI x.right.view.jobs.time,dI x.right.view.jobs.holder,dI x.right.view.jobs.epoch,dI x.right.view.jobs.til,.sl (x.right.view.jobs.opens.map DDue.ds),dB x.right.busy,dI x.right.op.kind,dI x.right.op.a,dI x.right.op.b,dI x.right.op.c,dI x.right.op.d,dI x.right.index,dI x.ann.id,.sl (x.ann.todo.map DWant.ds),.sl (x.ann.gots.map DGot.ds),dI x.ann.last,dI x.bob.id,.sl (x.bob.todo.map DWant.ds),.sl (x.bob.gots.map DGot.ds),dI x.bob.last,.sl (x.net.flight.map DMsg.ds),.sl (x.net.cuts.map DLink.ds),.sl (x.clocks.map eI),.sl (x.up.map eB)]
theorem aaj:Enc Zo DWorld.ds:=YB (f:=λx:DWorld=>(x.log,x.store,x.left,x.right,x.ann,x.bob,x.net,x.clocks,x.up)) (Ye Z8 (Ye aai (Ye ZS (Ye ZS (Ye ZH (Ye ZH (Ye aaE (Ye (Enc.sl Enc.int) (Enc.sl Enc.bool)))))))))
def Ym(n:Nat)(x:DWorld):Prop:=Yq n x.log/\Yv n x.store/\Yr n x.left/\Yr n x.right/\Ys n x.ann/\Ys n x.bob/\Yz n x.net/\x.clocks.length<=n/\x.up.length<=n
section
section
variable {α:Type}
def RK(n:Nat)(ok:Nat->Bool):Bool:=(List.range n).all ok
theorem RL{n k:Nat}{ok:Nat->Bool}(hk:k<n)(h:ok k=false):RK n ok=false:=by
 rw[<-Bool.not_eq_true];intro hall;have:=all_eq_true.1 hall k (mem_range.2 hk);rw[h]at this;cases this
theorem Ik{n:Nat}{ok:Nat->Bool}(h:∀k,k<n->ok k=true):RK n ok=true:=
 all_eq_true.2 λk hk=>h k (mem_range.1 hk)
theorem PF{n:Nat}{ok:Nat->Bool}(h:RK n ok=true){k:Nat}(hk:k<n):ok k=true:=all_eq_true.1 h k (mem_range.2 hk)
theorem pS{l:List α}{p:α->Bool}{k:Nat}(hk:k<l.length)(h:p l[k]=false):l.all p=false:=by
 rw[<-Bool.not_eq_true];intro hall;have:=all_eq_true.1 hall _ (List.getElem_mem hk);rw[h]at this;cases this
theorem GA{l:List α}{p:α->Bool}(h:∀(k:Nat) (hk:k<l.length),p l[k]=true):l.all p=true:=by
 refine all_eq_true.2 λx hx=>?_;obtain⟨k,hk,rfl⟩:=List.getElem_of_mem hx;exact h k hk
theorem tU{l:List α}{p:α->Bool}(h:l.all p=true){k:Nat}(hk:k<l.length):p l[k]=true:=all_eq_true.1 h _ (List.getElem_mem hk)
def jh(Q:α->α->Bool):List α->Bool
 |x::y::r=>Q x y&&jh Q (y::r)
 |_=>true
theorem j8{Q:α->α->Bool}:∀{l:List α},jh Q l=true->∀{k:Nat} (hk:k+1<l.length),Q (l[k]'(ac)) l[k+1]=true
 |x::y::r,h,k,hk=>by
  simp only[jh,Bool.and_eq_true]at h;cases k with
  |zero=>exact h.1
  |succ k=>exact j8 (l:=y::r) h.2 (k:=k) (by simpa using hk)
 |[],_,k,hk=>by simp at hk
 |[x],_,k,hk=>by simp at hk
theorem Bl{Q:α->α->Bool}:∀{l:List α},(∀(k:Nat) (hk:k+1<l.length),Q (l[k]'(ac)) l[k+1]=true)->jh Q l=true
 |x::y::r,h=>by
  simp only[jh,Bool.and_eq_true];refine⟨h 0 aj,Bl (l:=y::r) λk hk=>?_⟩;have:=h (k+1) (by simpa using hk);simpa using this
 |[],_=>rfl
 |[x],_=>rfl
theorem RJ{Q:α->α->Bool}{l:List α}{k:Nat}(hk:k+1<l.length)(h:Q (l[k]'(ac)) l[k+1]=false):jh Q l=false:=by
 rw[<-Bool.not_eq_true];intro hall;rw[j8 hall hk]at h;cases h
def eT(R:α->α->Bool):List α->Bool
 |[]=>true
 |x::r=>r.all (λy=> !R x y)&&eT R r
theorem pT{R:α->α->Bool}:∀{l:List α},eT R l=true->∀{j k:Nat} (hj:j<k) (hk:k<l.length),R (l[j]'(ac)) l[k]=false
 |x::r,h,j,k,hj,hk=>by
  simp only[eT,Bool.and_eq_true]at h;match j,k,hj with
  |0,k+1,_=>
   have:=tU h.1 (k:=k) (by simpa using hk);simpa using this
  |j+1,k+1,hj=>exact pT (l:=r) h.2 (j:=j) (k:=k) ac (by simpa using hk)
 |[],_,j,k,_,hk=>by simp at hk
theorem pU{R:α->α->Bool}:∀{l:List α},(∀(j k:Nat) (hj:j<k) (hk:k<l.length),R (l[j]'(ac)) l[k]=false)->eT R l=true
 |[],_=>rfl
 |x::r,h=>by
  simp only[eT,Bool.and_eq_true];refine⟨GA λk hk=>?_,pU λj k hj hk=>?_⟩
  ·have:=h 0 (k+1) ac (by simpa using hk);simpa using this
  ·have:=h (j+1) (k+1) ac (by simpa using hk);simpa using this
theorem sq{R:α->α->Bool}{l:List α}{j k:Nat}(hj:j<k)(hk:k<l.length)(h:R (l[j]'(ac)) l[k]=true):eT R l=false:=by
 rw[<-Bool.not_eq_true];intro hall;rw[pT hall hj hk]at h;cases h
end
def tOk(t:Int):Bool:=aK t 0 1000000
def cE(l:List Int):Bool:=decide (l.length<=48)&&l.all λx=>aK x 0 1000000000
def fy(n:Nat)(x:DWrite):Bool:=aK x.at_ 0 ((n:Int)-1)&&cE x.row
def cG(d:DDisk):Bool:=decide (1<=d.kept.length)&&decide (d.kept.length<=40)&&decide (d.wait.length<=60)&&d.kept.all cE&&d.wait.all (fy d.kept.length)
def j4(t:DTwo):Bool:=cG t.a&&cG t.b&&decide (t.a.kept.length=t.b.kept.length)
def iP(a b:Int):Bool:=aK a 0 5&&aK b 0 5&&a !=b
def fM(m:DMsg):Bool:=iP m.frm m.to_&&decide (0<m.row.length)&&cE m.row
def ju(x y:DLink):Bool:=decide (x.a<y.a)||(x.a==y.a&&decide (x.b<y.b))
def eW(x:DLink):Bool:=iP x.a x.b&&decide (x.a<=x.b)
def fd(n:DNet):Bool:=decide (n.flight.length<=60)&&decide (n.cuts.length<=15)&&n.flight.all fM&&n.cuts.all eW&&jh ju n.cuts
def fp(l:List Int):Bool:=decide (l.length=6)&&l.all tOk
def kT(x y:DEntry):Bool:=y.index==x.index+1&&decide (x.time<=y.time)
def dD(l:List DEntry):Bool:=decide (l.length<=2000)&&l.all dd&&jh kT l
def cp(b:DBook):Bool:=aK b.base 0 2000&&tOk b.time&& !(b.base==0&&b.time !=0)&&decide (b.entries.length<=20)&&dD b.entries&&(match b.entries with|[]=>true|e::_=>e.index==b.base+1&&decide (b.time<=e.time))
def eL(m:DMark):Bool:=aK m.client 2 5&&aK m.seq 1 2000&&aK m.index 1 2000
def jF(x y:DMark):Bool:=decide (x.client<y.client)
def qj(x y:DMark):Bool:=x.index==y.index
def seenOk(s:List DMark):Bool:=s.all eL&&jh jF s&&eT qj s
def fK(s:List DMark)(c:Int):DMark:=(s.find? λm=>m.client==c).getD ⟨0,0,0⟩
def bP:List DMark->Int:=List.foldl (λx m=>if m.index>x then m.index else x) 0
def mW(s:List DMark)(e:DEntry):Bool:=decide ((fK s e.client).seq<e.seq)
def DEntry.mark(e:DEntry):DMark:=⟨e.client,e.seq,e.index⟩
def putMark(s:List DMark)(m:DMark):List DMark:=s.filter (λx=>decide (x.client<m.client))++m::s.filter (λx=>decide (m.client<x.client))
def d7(s:List DMark)(e:DEntry):Option (List DMark):=if dd e&&mW s e&&decide (bP s<e.index)then some (putMark s e.mark)else none
def bY:List DMark->List DEntry->Option (List DMark)
 |s,[]=>some s
 |s,e::r=>match d7 s e with
  |some s'=>bY s' r
  |none=>none
def bL(s:List DMark)(l:List DEntry):List DMark×Bool:=
 if !seenOk s then([],false)else if 2000<l.length then(s,false)else match bY s l with|some o=>(o,true)|none=>(s,false)
def gv(h:DHead):Bool:=aK h.base 0 2000&&aK h.num 0 h.base&&tOk h.time&&(decide (0<h.base)||h.time==0)&&seenOk h.seen&&bP h.seen==h.base
def kt(t:DTwo):Bool:=j4 t&&decide (t.a.kept.length=22)
def ca(b:DBook):Int:=b.base+b.entries.length
def kS:DHead:=⟨0,0,0,[]⟩
def cN(e:DEntry):DAck:=if dd e then⟨e.client,e.seq,e.index,e.seq⟩else⟨0,0,0,0⟩
def eV(b:DBook)(d:Int):List DEntry:=b.entries.filter λe=>decide (d+1<=e.index)
def mS(b:DBook)(i:Int):List DEntry:=b.entries.take (i-b.base).toNat
def lM(n:DLogNode):DHead:=⟨n.head.num+1,n.nxt.base,(n.book.entries.getD (n.nxt.base-n.book.base-1).toNat ⟨0,0,0,0,⟨0,0,0,0,0⟩⟩).time,(bL n.head.seen (mS n.book n.nxt.base)).1⟩
def gp(n:DLogNode):Bool:=if n.more then aK n.nxt.base (n.head.base+1) n.durable&&n.nxt==lM n else n.nxt==kS
def logOk(n:DLogNode):Bool:=kt n.two&&gv n.head&&cp n.book&&n.book.base==n.head.base&&n.book.time==n.head.time&&bL n.head.seen n.book.entries==(n.seen,true)&&aK n.durable n.book.base (ca n.book)&&n.owe==(eV n.book n.durable).map cN&&gp n
def kv(n:DLogNode):Bool:=j4 n.two&&n==⟨n.two,kS,kS,false,⟨0,0,[]⟩,[],0,[]⟩
def fx(p:DPair):Bool:=aK p.key 0 9&&aK p.value 0 999
def jG(x y:DPair):Bool:=decide (x.key<y.key)
def cM(l:List DPair):Bool:=l.all fx&&jh jG l
def m8(j:DJob):Bool:=aK j.id 1 20&&tOk j.due&&aK j.key 0 9&&aK j.value 0 999&&aK j.fired 0 2000
def m7(x y:DJob):Bool:=decide (x.id<y.id)
def lK(x y:DJob):Bool:=y.fired !=0&&x.fired==y.fired
def cW(l:List DJob):Bool:=decide (l.length<=8)&&l.all m8&&jh m7 l&&eT lK l
def d8(x:Int):Bool:=x==2||x==3
def ii(l:DLease):Bool:=l==⟨0,0,0⟩||(d8 l.holder&&aK l.epoch 1 1000&&aK l.til 1 1001000)
def cn(s:DState):Bool:=aK s.index 0 2000&&tOk s.time&&cM s.pairs&&cW s.jobs&&ii s.lease&&s.jobs.all λj=>decide (j.fired<=s.index)
def dg(d:DDisk):Bool:=cG d&&decide (d.kept.length=8)
def storeOk(s:DStore):Bool:=dg s.disk&&cn s.state&&aK s.num 0 1000000000&&aK s.last 0 s.state.index&&((s.num==0)==(s.last==0))&&(s.busy==0||(decide (s.num<1000000000)&&decide (s.last<s.busy)&&decide (s.busy<=s.state.index)))
def gV:DState:=⟨0,0,[],[],⟨0,0,0⟩⟩
def fV(s:DStore):Bool:=cG s.disk&&s==⟨s.disk,gV,0,0,0⟩
def jo(d:DDue):Bool:=aK d.id 1 20&&tOk d.due
def oX(x y:DDue):Bool:=decide (x.due<y.due)||(x.due==y.due&&decide (x.id<y.id))
def sK(x y:DDue):Bool:=x.id==y.id
def eE(j:DJobs):Bool:=aK j.index 0 2000&&tOk j.time&&(j.holder==0||d8 j.holder)&&aK j.epoch 0 1000&&aK j.til 0 1001000&&decide (j.opens.length<=8)&&j.opens.all jo&&jh oX j.opens&&eT sK j.opens
def op0:DOp:=⟨0,0,0,0,0⟩
def d9(s:DSched):Bool:=d8 s.id&&aK s.seq 0 2000&&eE s.view.jobs&&aK s.index 0 2000&&(if s.busy then s.seq !=0&&v7 s.op&&(s.op.kind==4||s.op.kind==5)else s.op==op0)
def wb(id:Int):DSched:=⟨id,0,⟨⟨0,0,0,0,0,[]⟩⟩,false,op0,0⟩
def db(s:DSched)(id:Int)(up:Bool):Bool:=d9 s&&s.id==id&&(up||s==wb id)
def u9(w:DWant)(g:DGot)(seq last:Int):Bool:=g.seq==seq&&aK g.index last 2000&&(if w.kind==4 then(g.has==0&&g.value==0)||(g.has==1&&aK g.value 0 999)else decide (last<g.index)&&g.has==0&&g.value==0)
def ne(gs:List DGot)(k:Nat):Int:=match k with|0=>0|j+1=>(gs.getD j ⟨0,0,0,0⟩).index
def dp(c:DClient):Bool:=(c.id==4||c.id==5)&&c.todo.all iC&&decide (c.todo.length<=12)&&decide (c.gots.length<=c.todo.length)&&RK c.gots.length (λk=>u9 (c.todo.getD k ⟨0,op0,0⟩) (c.gots.getD k ⟨0,0,0,0⟩) ((k:Int)+1) (ne c.gots k))&&c.last==ne c.gots c.gots.length
def eS(w:DWorld)(k:Nat):Bool:=w.up.getD k false
def dN(w:DWorld):Bool:=fp w.clocks&&decide (w.up.length=6)&&fd w.net&&eS w 4&&eS w 5&&dp w.ann&&w.ann.id==4&&dp w.bob&&w.bob.id==5&&db w.left 2 (eS w 2)&&db w.right 3 (eS w 3)&&(if eS w 0 then logOk w.log else kv w.log)&&(if eS w 1 then storeOk w.store else fV w.store)
end
section
open Go.Proofs.Tryz
variable {d:DDisk}{l:List Int}{k:Nat}{α:Type}
def q6:List (List Nat):=bZ [0,0,2,0,12420,1327235,101458181,76320612550,35599944798657,0x9047144083188,0x288183084147049,0xb2411c51020c620a,0x288183084147049,0xc2881830841470492cd,0x38d2c904714408318828c,0xf30a2060c21051c124b34e,0x40e34b2411c51020c620a30f,0x113cc2881830841470492cd390,0x28818308414704949038d2cc3d1]
def rp:List (List Nat):=fB 13 [2184,56,59,26,41,122,365,1093,3280,9841,1092406,1151455,501916]
theorem bJ{a b:Bool}(h:a=b):AP.val (.one (dB a))=rB b:=by rw[h]
theorem gq{l:List α}{p:α->Bool}(hall:∀(j:Nat) (hj:j<k) (hl:j<l.length),p l[j]=true)(hlt:k<l.length)(h:p l[k]=true):∀(j:Nat) (hj:j<k+1) (hl:j<l.length),p l[j]=true:=by
  intro j hj hl;by_cases hjk:j=k
  · subst hjk;exact h
  · exact hall j ac hl
theorem iG{l:List α}{p:α->Bool}(hall:∀(j:Nat) (hj:j<k) (hl:j<l.length),p l[j]=true)(hk:k=l.length):l.all p=true:=GA λj hj=>hall j ac hj
theorem Fv(h:¬l.length<=48):cE l=false:=by simp[cE,h]
theorem JY(hk:k<l.length)(h:aK l[k] 0 1000000000=false):cE l=false:=by
  have:=pS (p:=λx=>aK x 0 1000000000) hk h;simp only[cE,this,Bool.and_false]
theorem js(l:List Int):aM av 351 [.one (dIs l)] (rB (cE l)):=by
  refine pO func351 call351 ntmps351 results351 λS=>?_;conv=>whnf
  repeat'(first|refine awz ?_|refine tB ?_ ?_|(intro h;conv=>whnf))
  · rw[Fv ari]
  · have h48:l.length<=48:=ari;clear h;refine X5 (λk:Nat=>k<=l.length/\∀(j:Nat) (hj:j<k) (hl:j<l.length),aK l[j] 0 1000000000=true) (2::4::rg 10 8) (λk=>[(10,vI .i64 (k:Int))]) (λ_=>[]) (λk=>l.length-k) 0 ⟨ac,ac⟩ ?_ X4 (λk hR=>?_)<;>(conv=>whnf)
    · exact whd
    · obtain⟨hk,hall⟩:=hR;repeat'((first|refine awz ?_|refine Yc ari (λhlt=>?_)|refine X3 ari ari ?_|refine cP (be _ _ _) ?_|refine tB ?_ ?_|intro h)<;>conv=>whnf)
      · rw[JY hlt (by simpa using h)]
      · refine bd.mk ⟨k+1,⟨hlt,gq (p:=λx=>aK x 0 1000000000) hall hlt (by simpa using h)⟩,ac,?_,X4⟩;exact hds
      · refine bJ ?_;simp only[cE,iG (p:=λx=>aK x 0 1000000000) hall ari,h48,decide_true,Bool.and_self]
theorem dJ(l:List Int):aM av 236 [.one (dIs l)] (rB (cE l)):=by
  refine pO func236 call236 ntmps236 results236 λS=>?_;conv=>whnf
  repeat'(first|refine awz ?_|refine tB ?_ ?_|(intro h;conv=>whnf))
  · rw[Fv ari]
  · have h48:l.length<=48:=ari;clear h;refine X5 (λk:Nat=>k<=l.length/\∀(j:Nat) (hj:j<k) (hl:j<l.length),aK l[j] 0 1000000000=true) (2::3::rg 7 12) (λk=>[(3,vI .i64 (k:Int))]) (λ_=>[]) (λk=>l.length-k) 0 ⟨ac,ac⟩ ?_ X4 (λk hR=>?_)<;>(conv=>whnf)
    · exact whd
    · obtain⟨hk,hall⟩:=hR;repeat'((first|refine awz ?_|refine Yc ari (λhlt=>?_)|refine X3 ari ari ?_|refine cP (bg _ _ _) ?_|refine tB ?_ ?_|intro h)<;>conv=>whnf)
      · rw[JY hlt (by simpa using h)]
      · refine bd.mk ⟨k+1,⟨hlt,gq (p:=λx=>aK x 0 1000000000) hall hlt (by simpa using h)⟩,ac,?_,X4⟩;exact hds
      · refine bJ ?_;simp only[cE,iG (p:=λx=>aK x 0 1000000000) hall ari,h48,decide_true,Bool.and_self]
theorem lJ(d:DDisk)(at_:Int)(hs:d.kept.length<=40):aM av 372 [.agg d.ds,pI at_] (rB (aK at_ 0 ((d.kept.length:Int)-1))):=by
  have e:((d.kept.map bM).length:Int)=d.kept.length:=aj;refine pO func372 call372 ntmps372 results372 λS=>?_;conv=>whnf
  repeat'((first|refine awz ?_|refine X3 (n:=_-_) ari ari ?_|refine cP (be _ _ _) ?_|fail)<;>conv=>whnf)
  rw[e]
theorem lS(d:DDisk)(at_:Int)(hs:d.kept.length<=40):aM av 323 [.agg d.ds,pI at_] (rB (aK at_ 0 ((d.kept.length:Int)-1))):=by
  have e:((d.kept.map bM).length:Int)=d.kept.length:=aj;refine pO func323 call323 ntmps323 results323 λS=>?_;conv=>whnf
  repeat'((first|refine awz ?_|refine X3 (n:=_-_) ari ari ?_|refine cP (bg _ _ _) ?_|fail)<;>conv=>whnf)
  rw[e]
theorem kZ(h:¬(1<=d.kept.length/\d.kept.length<=40/\d.wait.length<=60)):cG d=false:=by
  have:(decide (1<=d.kept.length)&&decide (d.kept.length<=40)&&decide (d.wait.length<=60))=false:=by
    simp only[Bool.and_eq_false_iff,decide_eq_false_iff_not];omega
  simp only[cG,this,Bool.false_and]
theorem Bw(hk:k<d.kept.length)(h:cE d.kept[k]=false):cG d=false:=by
  have:=pS (p:=cE) hk h;simp only[cG,this,Bool.and_false,Bool.false_and]
theorem yD(hk:k<d.wait.length)(h:fy d.kept.length d.wait[k]=false):cG d=false:=by
  have:=pS (p:=fy d.kept.length) hk h;simp only[cG,this,Bool.and_false]
theorem fS(d:DDisk):aM av 282 [.agg d.ds] (rB (cG d)):=by
  refine pO func282 call282 ntmps282 results282 λS=>?_;conv=>whnf
  repeat'(first|refine awz ?_|refine tB ?_ ?_|(intro h;conv=>whnf))
  · rw[kZ ari]
  · rw[kZ ari]
  · rw[kZ ari]
  · have h1:1<=d.kept.length:=ari;have h2:d.kept.length<=40:=ari;have h3:d.wait.length<=60:=ari;clear h;refine X5 (λk:Nat=>k<=d.kept.length/\∀(j:Nat) (hj:j<k) (hl:j<d.kept.length),cE d.kept[j]=true) (2::4::rg 26 8) (λk=>[(26,vI .i64 (k:Int))]) (λ_=>[(1,.cells 69 (d.ds.map .d))]) (λk=>d.kept.length-k) 0 ⟨ac,ac⟩ ?_ sbW (λk hR=>?_)<;>(conv=>whnf)
    · exact whd
    · obtain⟨hk,hall⟩:=hR;repeat'((first|refine awz ?_|refine Yc ari (λhlt=>?_)|refine X3 ari ari ?_|refine cP (js _) ?_|refine tB ?_ ?_|intro h)<;>conv=>whnf)
      · rw[Bw hlt (by simpa using h)]
      · refine bd.mk ⟨k+1,⟨hlt,gq (p:=cE) hall hlt (by simpa using h)⟩,ac,?_,sbW⟩;exact hds
      · have hrows:=iG (p:=cE) hall ari;clear hall hk h;refine X5 (λk:Nat=>k<=d.wait.length/\∀(j:Nat) (hj:j<k) (hl:j<d.wait.length),fy d.kept.length d.wait[j]=true) (2::6::rg 37 16) (λk=>[(37,vI .i64 (k:Int))]) (λ_=>[(1,.cells 69 (d.ds.map .d))]) (λk=>d.wait.length-k) 0 ⟨ac,ac⟩ ?_ sbW (λk hR=>?_)<;>(conv=>whnf)
        · exact whd
        · obtain⟨hk,hall⟩:=hR;repeat'((first|refine awz ?_|refine Yc ari (λhlt=>?_)|refine X3 ari ari ?_|refine cP (lJ d _ h2) ?_|refine cP (js _) ?_|refine tB ?_ ?_|intro h)<;>conv=>whnf)
          all_goals first
            |(rw[yD hlt (by simp_all[fy])];done)
            | (refine bd.mk ⟨k + 1, ⟨hlt, gq (p := fy d.kept.length) hall hlt (by simp_all [fy])⟩,ac, ?_, sbW⟩
               exact hds)
            | (refine bJ ?_
               simp only[cG,hrows,iG (p:=fy d.kept.length) hall ari,h1,h2,h3,decide_true,Bool.and_self])
theorem em(d:DDisk):aM av 227 [.agg d.ds] (rB (cG d)):=by
  refine pO func227 call227 ntmps227 results227 λS=>?_;conv=>whnf
  repeat'(first|refine awz ?_|refine tB ?_ ?_|(intro h;conv=>whnf))
  · rw[kZ ari]
  · rw[kZ ari]
  · rw[kZ ari]
  · have h1:1<=d.kept.length:=ari;have h2:d.kept.length<=40:=ari;have h3:d.wait.length<=60:=ari;clear h;refine X5 (λk:Nat=>k<=d.kept.length/\∀(j:Nat) (hj:j<k) (hl:j<d.kept.length),cE d.kept[j]=true) (2::3::rg 21 14) (λk=>[(3,vI .i64 (k:Int))]) (λ_=>[(1,.cells 69 (d.ds.map .d))]) (λk=>d.kept.length-k) 0 ⟨ac,ac⟩ ?_ sbW (λk hR=>?_)<;>(conv=>whnf)
    · exact whd
    · obtain⟨hk,hall⟩:=hR;repeat'((first|refine awz ?_|refine Yc ari (λhlt=>?_)|refine X3 ari ari ?_|refine cP (dJ _) ?_|refine tB ?_ ?_|intro h)<;>conv=>whnf)
      · rw[Bw hlt (by simpa using h)]
      · refine bd.mk ⟨k+1,⟨hlt,gq (p:=cE) hall hlt (by simpa using h)⟩,ac,?_,sbW⟩;exact hds
      · have hrows:=iG (p:=cE) hall ari;clear hall hk h;refine X5 (λk:Nat=>k<=d.wait.length/\∀(j:Nat) (hj:j<k) (hl:j<d.wait.length),fy d.kept.length d.wait[j]=true) (2::4::rg 35 26) (λk=>[(4,vI .i64 (k:Int))]) (λ_=>[(1,.cells 69 (d.ds.map .d))]) (λk=>d.wait.length-k) 0 ⟨ac,ac⟩ ?_ sbW (λk hR=>?_)<;>(conv=>whnf)
        · exact whd
        · obtain⟨hk,hall⟩:=hR;repeat'((first|refine awz ?_|refine X9 aN 11 13 q6 rp ae ae ae rfl ?_|refine Yc ari (λhlt=>?_)|refine X3 ari ari ?_|refine cP (lS d _ h2) ?_|refine cP (dJ _) ?_|refine tB ?_ ?_|intro h)<;>conv=>whnf)
          all_goals first
            |(rw[yD hlt (by simp_all[fy])];done)
            | (refine bd.mk ⟨k + 1, ⟨hlt, gq (p := fy d.kept.length) hall hlt (by simp_all [fy])⟩,ac, ?_, sbW⟩
               exact hds)
            | (refine bJ ?_
               simp only[cG,hrows,iG (p:=fy d.kept.length) hall ari,h1,h2,h3,decide_true,Bool.and_self])
end
end Go.Proofs.YtknefkdcokgpbaaGreat
