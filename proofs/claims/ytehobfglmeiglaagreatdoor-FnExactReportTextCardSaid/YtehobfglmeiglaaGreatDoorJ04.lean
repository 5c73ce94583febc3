/- J04 -/
import Derived.Test.YtehobfglmeiglaaGreatDoorAwx
import Derived.Test.YtehobfglmeiglaaGreatDoorAvEnv
import Derived.Test.YtehobfglmeiglaaGreatDoorJ02
import Derived.Test.YtehobfglmeiglaaGreatDoorJ03
set_option linter.unusedVariables false
set_option linter.unusedSimpArgs false
set_option maxRecDepth 100000
namespace Go.Proofs.YtehobfglmeiglaaGreatDoor
open Go.Proofs.Tryz
open Go.ChangeShapes Go.WideShapes Go.RowKit
def Bo(o:DOp):Bool:=
 if o.kind=1 then ai o.a 0 9&&ai o.b 0 999&&(o.c==0)&&(o.d==0)
 else if o.kind=2 then ai o.a 0 9&&(o.b==0)&&(o.c==0)&&(o.d==0)
 else if o.kind=3 then ai o.a 1 20&&ai o.b 0 1000000&&ai o.c 0 9&&ai o.d 0 999
 else if o.kind=4 then ai o.a 1 20&&ai o.b 0 1000&&(o.c==0)&&(o.d==0)
 else if o.kind=5 then ai o.a 1 1000&&(o.b==0)&&(o.c==0)&&(o.d==0)
 else false
def bu(e:DEntry):Bool:=ai e.index 1 2000&&ai e.time 0 1000000&&ai e.client 2 5&&ai e.seq 1 2000&&Bo e.op
def DEntry.ds(e:DEntry):List AD:=[dI e.index,dI e.time,dI e.client,dI e.seq,dI e.op.kind,dI e.op.a,dI e.op.b,dI e.op.c,dI e.op.d]
abbrev DOp.ds(o:DOp):List AD:=[dI o.kind,dI o.a,dI o.b,dI o.c,dI o.d]
def DOp.v(o:DOp):Value:= .agg #[.int .i64 o.kind,.int .i64 o.a,.int .i64 o.b,.int .i64 o.c,.int .i64 o.d]
def dy(x:DWant):Bool:=if x.kind==4 then(x.op==⟨0,0,0,0,0⟩&&ai x.key 0 9)else if x.kind==1||x.kind==2||x.kind==3 then(Bo x.op&&x.op.kind==x.kind&&x.key==0)else false
def DWant.ds(e:DWant):List AD:=[dI e.kind,dI e.op.kind,dI e.op.a,dI e.op.b,dI e.op.c,dI e.op.d,dI e.key]
theorem En(w:World)(d:Nat)(a b:Int):(Op.equalIn (d+1) 2 (.int .i64 a) (.int .i64 b)).run Tryz.prog w= .ok (a==b) w:=by
 have hi:=run_underlying (w:=w) underlying2
 simp[Op.equalIn,hi]
theorem fa(w:World)(xs:Array Value)(i:Nat)(v:Value)(h:xs[i]? =some v):(part 2 xs i).run Tryz.prog w= .ok v w:=by
 simp[part,isAgg2,sizeOf2,h]
theorem em{α β:Type}(f:α->β){l:List α}{k:Nat}(hk:k<l.length):(l.take (k+1)).map f=(l.take k).map f++[f l[k]]:=by
 rw[List.take_succ_eq_append_getElem hk,List.map_append];rfl
theorem aq(x lo hi:Int):aj av 189 [pI x,pI lo,pI hi] (rB (ai x lo hi)):=by
 refine ae ah func189 rfl call189 ntmps189 (MC results189) λS=>?_;conv=>whnf
 repeat'((first|refine aw0 ?_|refine awx ?_|exact rr|refine And.intro rfl ?_|refine AB.mk (λh=>?_) (λh=>?_))<;>conv=>whnf)
 all_goals first
  |(simp_all[ai];done)
  |(simp_all[ai];intros;omega)
theorem aA(x lo hi:Int):aj av 133 [pI x,pI lo,pI hi] (rB (ai x lo hi)):=by
 refine ae ah func133 rfl call133 ntmps133 (MC results133) λS=>?_;conv=>whnf
 repeat'((first|refine aw0 ?_|refine awx ?_|exact rr|refine And.intro rfl ?_|refine AB.mk (λh=>?_) (λh=>?_))<;>conv=>whnf)
 all_goals first
  |(simp_all[ai];done)
  |(simp_all[ai];intros;omega)
theorem na(x:Int):aj av 239 [pI x] (rB (ai x 0 5)):=by
 refine ae ah func239 rfl call239 ntmps239 (MC results239) λS=>?_;conv=>whnf
 repeat'((first|refine aw0 ?_|refine awx ?_|refine cP (aq _ _ _) ?_|exact rr|refine And.intro rfl ?_|refine AB.mk (λh=>?_) (λh=>?_))<;>conv=>whnf)
theorem fR(x:Int):aj av 326 [pI x] (rB (ai x 0 9)):=by
 refine ae ah func326 rfl call326 ntmps326 (MC results326) λS=>?_;conv=>whnf
 repeat'((first|refine aw0 ?_|refine awx ?_|refine cP (aq _ _ _) ?_|exact rr|refine And.intro rfl ?_|refine AB.mk (λh=>?_) (λh=>?_))<;>conv=>whnf)
theorem dw(x:Int):aj av 327 [pI x] (rB (ai x 0 999)):=by
 refine ae ah func327 rfl call327 ntmps327 (MC results327) λS=>?_;conv=>whnf
 repeat'((first|refine aw0 ?_|refine awx ?_|refine cP (aq _ _ _) ?_|exact rr|refine And.intro rfl ?_|refine AB.mk (λh=>?_) (λh=>?_))<;>conv=>whnf)
theorem m8(x:Int):aj av 329 [pI x] (rB (ai x 1 20)):=by
 refine ae ah func329 rfl call329 ntmps329 (MC results329) λS=>?_;conv=>whnf
 repeat'((first|refine aw0 ?_|refine awx ?_|refine cP (aq _ _ _) ?_|exact rr|refine And.intro rfl ?_|refine AB.mk (λh=>?_) (λh=>?_))<;>conv=>whnf)
theorem pw(x:Int):aj av 332 [pI x] (rB (ai x 1 2000)):=by
 refine ae ah func332 rfl call332 ntmps332 (MC results332) λS=>?_;conv=>whnf
 repeat'((first|refine aw0 ?_|refine awx ?_|refine cP (aq _ _ _) ?_|exact rr|refine And.intro rfl ?_|refine AB.mk (λh=>?_) (λh=>?_))<;>conv=>whnf)
theorem jV(x:Int):aj av 333 [pI x] (rB (ai x 1 2000)):=by
 refine ae ah func333 rfl call333 ntmps333 (MC results333) λS=>?_;conv=>whnf
 repeat'((first|refine aw0 ?_|refine awx ?_|refine cP (aq _ _ _) ?_|exact rr|refine And.intro rfl ?_|refine AB.mk (λh=>?_) (λh=>?_))<;>conv=>whnf)
theorem bm(x:Int):aj av 149 [pI x] (rB (ai x 0 1000000)):=by
 refine ae ah func149 rfl call149 ntmps149 (MC results149) λS=>?_;conv=>whnf
 repeat'((first|refine aw0 ?_|refine awx ?_|refine cP (aq _ _ _) ?_|exact rr|refine And.intro rfl ?_|refine AB.mk (λh=>?_) (λh=>?_))<;>conv=>whnf)
theorem jS(x:Int):aj av 331 [pI x] (rB (ai x 2 5)):=by
 refine ae ah func331 rfl call331 ntmps331 (MC results331) λS=>?_;conv=>whnf
 repeat'((first|refine aw0 ?_|refine awx ?_|refine cP (aq _ _ _) ?_|exact rr|refine And.intro rfl ?_|refine AB.mk (λh=>?_) (λh=>?_))<;>conv=>whnf)
theorem um(x:Int):aj av 131 [pI x] (rB (ai x 0 5)):=by
 refine ae ah func131 rfl call131 ntmps131 (MC results131) λS=>?_;conv=>whnf
 repeat'((first|refine aw0 ?_|refine awx ?_|refine cP (aA _ _ _) ?_|exact rr|refine And.intro rfl ?_|refine AB.mk (λh=>?_) (λh=>?_))<;>conv=>whnf)
theorem nt(x:Int):aj av 126 [pI x] (rB (ai x 0 5)):=by
 refine ae ah func126 rfl call126 ntmps126 (MC results126) λS=>?_;conv=>whnf
 repeat'((first|refine aw0 ?_|refine awx ?_|refine cP (aA _ _ _) ?_|exact rr|refine And.intro rfl ?_|refine AB.mk (λh=>?_) (λh=>?_))<;>conv=>whnf)
theorem pV(x:Int):aj av 228 [pI x] (rB (ai x 0 9)):=by
 refine ae ah func228 rfl call228 ntmps228 (MC results228) λS=>?_;conv=>whnf
 repeat'((first|refine aw0 ?_|refine awx ?_|refine cP (aA _ _ _) ?_|exact rr|refine And.intro rfl ?_|refine AB.mk (λh=>?_) (λh=>?_))<;>conv=>whnf)
theorem kb(x:Int):aj av 230 [pI x] (rB (ai x 0 999)):=by
 refine ae ah func230 rfl call230 ntmps230 (MC results230) λS=>?_;conv=>whnf
 repeat'((first|refine aw0 ?_|refine awx ?_|refine cP (aA _ _ _) ?_|exact rr|refine And.intro rfl ?_|refine AB.mk (λh=>?_) (λh=>?_))<;>conv=>whnf)
theorem rP(x:Int):aj av 285 [pI x] (rB (ai x 1 20)):=by
 refine ae ah func285 rfl call285 ntmps285 (MC results285) λS=>?_;conv=>whnf
 repeat'((first|refine aw0 ?_|refine awx ?_|refine cP (aA _ _ _) ?_|exact rr|refine And.intro rfl ?_|refine AB.mk (λh=>?_) (λh=>?_))<;>conv=>whnf)
theorem jk(x:Int):aj av 319 [pI x] (rB (ai x 1 2000)):=by
 refine ae ah func319 rfl call319 ntmps319 (MC results319) λS=>?_;conv=>whnf
 repeat'((first|refine aw0 ?_|refine awx ?_|refine cP (aA _ _ _) ?_|exact rr|refine And.intro rfl ?_|refine AB.mk (λh=>?_) (λh=>?_))<;>conv=>whnf)
theorem ka(x:Int):aj av 320 [pI x] (rB (ai x 1 2000)):=by
 refine ae ah func320 rfl call320 ntmps320 (MC results320) λS=>?_;conv=>whnf
 repeat'((first|refine aw0 ?_|refine awx ?_|refine cP (aA _ _ _) ?_|exact rr|refine And.intro rfl ?_|refine AB.mk (λh=>?_) (λh=>?_))<;>conv=>whnf)
theorem bL(x:Int):aj av 116 [pI x] (rB (ai x 0 1000000)):=by
 refine ae ah func116 rfl call116 ntmps116 (MC results116) λS=>?_;conv=>whnf
 repeat'((first|refine aw0 ?_|refine awx ?_|refine cP (aA _ _ _) ?_|exact rr|refine And.intro rfl ?_|refine AB.mk (λh=>?_) (λh=>?_))<;>conv=>whnf)
theorem fz(x:Int):aj av 318 [pI x] (rB (ai x 2 5)):=by
 refine ae ah func318 rfl call318 ntmps318 (MC results318) λS=>?_;conv=>whnf
 repeat'((first|refine aw0 ?_|refine awx ?_|refine cP (aA _ _ _) ?_|exact rr|refine And.intro rfl ?_|refine AB.mk (λh=>?_) (λh=>?_))<;>conv=>whnf)
theorem uk(x:Int):aj av 278 [pI x] (rB (ai x 0 1000000)):=by
 refine ae ah func278 rfl call278 ntmps278 (MC results278) λS=>?_;conv=>whnf
 repeat'((first|refine aw0 ?_|refine awx ?_|refine cP (aA _ _ _) ?_|exact rr|refine And.intro rfl ?_|refine AB.mk (λh=>?_) (λh=>?_))<;>conv=>whnf)
theorem m7(o:DOp):aj av 291 [.agg o.ds] (rB (Bo o)):=by
 refine ae ah func291 rfl call291 ntmps291 (MC results291) λS=>?_;conv=>whnf
 repeat'((first|refine aw0 ?_|refine awx ?_|refine cP (fR _) ?_|refine cP (dw _) ?_|refine cP (m8 _) ?_|refine cP (bm _) ?_|refine cP (aq _ _ _) ?_|exact rr|refine And.intro rfl ?_|refine AB.mk (λh=>?_) (λh=>?_))<;>conv=>whnf)
 all_goals simp_all[Bo]
theorem nq(o:DOp):aj av 227 [.agg o.ds] (rB (Bo o)):=by
 refine ae ah func227 rfl call227 ntmps227 (MC results227) λS=>?_;conv=>whnf
 repeat'((first|refine aw0 ?_|refine awx ?_|refine cP (pV _) ?_|refine cP (kb _) ?_|refine cP (rP _) ?_|refine cP (bL _) ?_|refine cP (aA _ _ _) ?_|exact rr|refine And.intro rfl ?_|refine AB.mk (λh=>?_) (λh=>?_))<;>conv=>whnf)
 all_goals simp_all[Bo]
theorem fu(e:DEntry):aj av 297 [.agg e.ds] (rB (bu e)):=by
 refine ae ah func297 rfl call297 ntmps297 (MC results297) λS=>?_;conv=>whnf
 repeat'((first|refine aw0 ?_|refine awx ?_|refine cP (jV _) ?_|refine cP (bm _) ?_|refine cP (jS _) ?_|refine cP (pw _) ?_|refine cP (m7 e.op) ?_|exact rr|refine And.intro rfl ?_|refine AB.mk (λh=>?_) (λh=>?_))<;>conv=>whnf)
 all_goals simp[bu, *]
theorem fA(e:DEntry):aj av 286 [.agg e.ds] (rB (bu e)):=by
 refine ae ah func286 rfl call286 ntmps286 (MC results286) λS=>?_;conv=>whnf
 repeat'((first|refine aw0 ?_|refine awx ?_|refine cP (ka _) ?_|refine cP (bL _) ?_|refine cP (fz _) ?_|refine cP (jk _) ?_|refine cP (nq e.op) ?_|exact rr|refine And.intro rfl ?_|refine AB.mk (λh=>?_) (λh=>?_))<;>conv=>whnf)
 all_goals simp[bu, *]
end Go.Proofs.YtehobfglmeiglaaGreatDoor
namespace Go.Proofs.YtehobfglmeiglaaGreatDoor
open Go.Proofs.Tryz
open Go.ChangeShapes Go.WideShapes Go.RowKit
abbrev eB(b:Bool):List AD:=[dB b]
abbrev fW(l:List Int):List AD:=[dIs l]
structure DWrite where
 at_:Int
 row:(List Int)
 deriving DecidableEq
def Rep.DWrite:Rep DWrite:=Rep.via (λx=>(x.at_,x.row)) (Rep.pair (Rep.int .i64) (Rep.sl (Rep.int .i64)))
def DWrite.ds(x:DWrite):List AD:=[dI x.at_,.sl (x.row.map eI)]
theorem DWrite.enc:Enc Rep.DWrite DWrite.ds:=Enc.via (f:=λx:DWrite=>(x.at_,x.row)) (Enc.pair Enc.int (Enc.sl Enc.int))
theorem DWrite.encF:au Rep.DWrite DWrite.ds:=au.via (f:=λx:DWrite=>(x.at_,x.row)) (au.pair au.int (au.sl au.int))
def DWrite.small(n:Nat)(x:DWrite):Prop:=x.row.length<=n
structure DDisk where
 kept:(List (List Int))
 wait:(List DWrite)
 deriving DecidableEq
def Rep.DDisk:Rep DDisk:=Rep.via (λx=>(x.kept,x.wait)) (Rep.pair (Rep.sl (Rep.sl (Rep.int .i64))) (Rep.sl Rep.DWrite))
def DDisk.ds(x:DDisk):List AD:=[.sl (x.kept.map fW),.sl (x.wait.map DWrite.ds)]
theorem DDisk.enc:Enc Rep.DDisk DDisk.ds:=Enc.via (f:=λx:DDisk=>(x.kept,x.wait)) (Enc.pair (Enc.sl (Enc.sl Enc.int)) (Enc.sl DWrite.enc))
theorem DDisk.encF:au Rep.DDisk DDisk.ds:=au.via (f:=λx:DDisk=>(x.kept,x.wait)) (au.pair (au.sl (au.sl au.int)) (au.sl DWrite.encF))
def DDisk.small(n:Nat)(x:DDisk):Prop:=x.kept.length<=n/\(∀y∈x.kept,y.length<=n)/\x.wait.length<=n/\(∀y∈x.wait,DWrite.small n y)
structure DTwo where
 a:DDisk
 b:DDisk
 deriving DecidableEq
def Rep.DTwo:Rep DTwo:=Rep.via (λx=>(x.a,x.b)) (Rep.pair Rep.DDisk Rep.DDisk)
def DTwo.ds(x:DTwo):List AD:=[.sl (x.a.kept.map fW),.sl (x.a.wait.map DWrite.ds),.sl (x.b.kept.map fW),.sl (x.b.wait.map DWrite.ds)]
theorem DTwo.enc:Enc Rep.DTwo DTwo.ds:=Enc.via (f:=λx:DTwo=>(x.a,x.b)) (Enc.pair DDisk.enc DDisk.enc)
theorem DTwo.encF:au Rep.DTwo DTwo.ds:=au.via (f:=λx:DTwo=>(x.a,x.b)) (au.pair DDisk.encF DDisk.encF)
def DTwo.small(n:Nat)(x:DTwo):Prop:=DDisk.small n x.a/\DDisk.small n x.b
structure DMark where
 client:Int
 seq:Int
 index:Int
 deriving DecidableEq
def Rep.DMark:Rep DMark:=Rep.via (λx=>(x.client,x.seq,x.index)) (Rep.pair (Rep.int .i64) (Rep.pair (Rep.int .i64) (Rep.int .i64)))
def DMark.ds(x:DMark):List AD:=[dI x.client,dI x.seq,dI x.index]
theorem DMark.enc:Enc Rep.DMark DMark.ds:=Enc.via (f:=λx:DMark=>(x.client,x.seq,x.index)) (Enc.pair Enc.int (Enc.pair Enc.int Enc.int))
theorem DMark.encF:au Rep.DMark DMark.ds:=au.via (f:=λx:DMark=>(x.client,x.seq,x.index)) (au.pair au.int (au.pair au.int au.int))
structure DHead where
 num:Int
 base:Int
 time:Int
 seen:(List DMark)
 deriving DecidableEq
def Rep.DHead:Rep DHead:=Rep.via (λx=>(x.num,x.base,x.time,x.seen)) (Rep.pair (Rep.int .i64) (Rep.pair (Rep.int .i64) (Rep.pair (Rep.int .i64) (Rep.sl Rep.DMark))))
def DHead.ds(x:DHead):List AD:=[dI x.num,dI x.base,dI x.time,.sl (x.seen.map DMark.ds)]
theorem DHead.enc:Enc Rep.DHead DHead.ds:=Enc.via (f:=λx:DHead=>(x.num,x.base,x.time,x.seen)) (Enc.pair Enc.int (Enc.pair Enc.int (Enc.pair Enc.int (Enc.sl DMark.enc))))
theorem DHead.encF:au Rep.DHead DHead.ds:=au.via (f:=λx:DHead=>(x.num,x.base,x.time,x.seen)) (au.pair au.int (au.pair au.int (au.pair au.int (au.sl DMark.encF))))
def DHead.small(n:Nat)(x:DHead):Prop:=x.seen.length<=n
theorem DOp.enc:Enc Rep.DOp DOp.ds:=Enc.via (f:=λx:DOp=>(x.kind,x.a,x.b,x.c,x.d)) (Enc.pair Enc.int (Enc.pair Enc.int (Enc.pair Enc.int (Enc.pair Enc.int Enc.int))))
theorem DOp.encF:au Rep.DOp DOp.ds:=au.via (f:=λx:DOp=>(x.kind,x.a,x.b,x.c,x.d)) (au.pair au.int (au.pair au.int (au.pair au.int (au.pair au.int au.int))))
theorem DEntry.enc:Enc Rep.DEntry DEntry.ds:=Enc.via (f:=λx:DEntry=>(x.index,x.time,x.client,x.seq,x.op)) (Enc.pair Enc.int (Enc.pair Enc.int (Enc.pair Enc.int (Enc.pair Enc.int DOp.enc))))
theorem DEntry.encF:au Rep.DEntry DEntry.ds:=au.via (f:=λx:DEntry=>(x.index,x.time,x.client,x.seq,x.op)) (au.pair au.int (au.pair au.int (au.pair au.int (au.pair au.int DOp.encF))))
structure DBook where
 base:Int
 time:Int
 entries:(List DEntry)
 deriving DecidableEq
def Rep.DBook:Rep DBook:=Rep.via (λx=>(x.base,x.time,x.entries)) (Rep.pair (Rep.int .i64) (Rep.pair (Rep.int .i64) (Rep.sl Rep.DEntry)))
def DBook.ds(x:DBook):List AD:=[dI x.base,dI x.time,.sl (x.entries.map DEntry.ds)]
theorem DBook.enc:Enc Rep.DBook DBook.ds:=Enc.via (f:=λx:DBook=>(x.base,x.time,x.entries)) (Enc.pair Enc.int (Enc.pair Enc.int (Enc.sl DEntry.enc)))
theorem DBook.encF:au Rep.DBook DBook.ds:=au.via (f:=λx:DBook=>(x.base,x.time,x.entries)) (au.pair au.int (au.pair au.int (au.sl DEntry.encF)))
def DBook.small(n:Nat)(x:DBook):Prop:=x.entries.length<=n
structure DAck where
 client:Int
 seq:Int
 index:Int
 last:Int
 deriving DecidableEq
def Rep.DAck:Rep DAck:=Rep.via (λx=>(x.client,x.seq,x.index,x.last)) (Rep.pair (Rep.int .i64) (Rep.pair (Rep.int .i64) (Rep.pair (Rep.int .i64) (Rep.int .i64))))
def DAck.ds(x:DAck):List AD:=[dI x.client,dI x.seq,dI x.index,dI x.last]
theorem DAck.enc:Enc Rep.DAck DAck.ds:=Enc.via (f:=λx:DAck=>(x.client,x.seq,x.index,x.last)) (Enc.pair Enc.int (Enc.pair Enc.int (Enc.pair Enc.int Enc.int)))
theorem DAck.encF:au Rep.DAck DAck.ds:=au.via (f:=λx:DAck=>(x.client,x.seq,x.index,x.last)) (au.pair au.int (au.pair au.int (au.pair au.int au.int)))
structure DLogNode where
 two:DTwo
 head:DHead
 nxt:DHead
 more:Bool
 book:DBook
 seen:(List DMark)
 durable:Int
 owe:(List DAck)
 deriving DecidableEq
def Rep.DLogNode:Rep DLogNode:=Rep.via (λx=>(x.two,x.head,x.nxt,x.more,x.book,x.seen,x.durable,x.owe)) (Rep.pair Rep.DTwo (Rep.pair Rep.DHead (Rep.pair Rep.DHead (Rep.pair Rep.bool (Rep.pair Rep.DBook (Rep.pair (Rep.sl Rep.DMark) (Rep.pair (Rep.int .i64) (Rep.sl Rep.DAck))))))))
def DLogNode.ds(x:DLogNode):List AD:=[.sl (x.two.a.kept.map fW),.sl (x.two.a.wait.map DWrite.ds),.sl (x.two.b.kept.map fW),.sl (x.two.b.wait.map DWrite.ds),dI x.head.num,dI x.head.base,dI x.head.time,.sl (x.head.seen.map DMark.ds),dI x.nxt.num,dI x.nxt.base,dI x.nxt.time,.sl (x.nxt.seen.map DMark.ds),dB x.more,dI x.book.base,dI x.book.time,.sl (x.book.entries.map DEntry.ds),.sl (x.seen.map DMark.ds),dI x.durable,.sl (x.owe.map DAck.ds)]
theorem DLogNode.enc:Enc Rep.DLogNode DLogNode.ds:=Enc.via (f:=λx:DLogNode=>(x.two,x.head,x.nxt,x.more,x.book,x.seen,x.durable,x.owe)) (Enc.pair DTwo.enc (Enc.pair DHead.enc (Enc.pair DHead.enc (Enc.pair Enc.bool (Enc.pair DBook.enc (Enc.pair (Enc.sl DMark.enc) (Enc.pair Enc.int (Enc.sl DAck.enc))))))))
theorem DLogNode.encF:au Rep.DLogNode DLogNode.ds:=au.via (f:=λx:DLogNode=>(x.two,x.head,x.nxt,x.more,x.book,x.seen,x.durable,x.owe)) (au.pair DTwo.encF (au.pair DHead.encF (au.pair DHead.encF (au.pair au.bool (au.pair DBook.encF (au.pair (au.sl DMark.encF) (au.pair au.int (au.sl DAck.encF))))))))
def DLogNode.small(n:Nat)(x:DLogNode):Prop:=DTwo.small n x.two/\DHead.small n x.head/\DHead.small n x.nxt/\DBook.small n x.book/\x.seen.length<=n/\x.owe.length<=n
structure DPair where
 key:Int
 value:Int
 deriving DecidableEq
def Rep.DPair:Rep DPair:=Rep.via (λx=>(x.key,x.value)) (Rep.pair (Rep.int .i64) (Rep.int .i64))
def DPair.ds(x:DPair):List AD:=[dI x.key,dI x.value]
theorem DPair.enc:Enc Rep.DPair DPair.ds:=Enc.via (f:=λx:DPair=>(x.key,x.value)) (Enc.pair Enc.int Enc.int)
theorem DPair.encF:au Rep.DPair DPair.ds:=au.via (f:=λx:DPair=>(x.key,x.value)) (au.pair au.int au.int)
structure DJob where
 id:Int
 due:Int
 key:Int
 value:Int
 fired:Int
 deriving DecidableEq
def Rep.DJob:Rep DJob:=Rep.via (λx=>(x.id,x.due,x.key,x.value,x.fired)) (Rep.pair (Rep.int .i64) (Rep.pair (Rep.int .i64) (Rep.pair (Rep.int .i64) (Rep.pair (Rep.int .i64) (Rep.int .i64)))))
def DJob.ds(x:DJob):List AD:=[dI x.id,dI x.due,dI x.key,dI x.value,dI x.fired]
theorem DJob.enc:Enc Rep.DJob DJob.ds:=Enc.via (f:=λx:DJob=>(x.id,x.due,x.key,x.value,x.fired)) (Enc.pair Enc.int (Enc.pair Enc.int (Enc.pair Enc.int (Enc.pair Enc.int Enc.int))))
theorem DJob.encF:au Rep.DJob DJob.ds:=au.via (f:=λx:DJob=>(x.id,x.due,x.key,x.value,x.fired)) (au.pair au.int (au.pair au.int (au.pair au.int (au.pair au.int au.int))))
structure DLease where
 holder:Int
 epoch:Int
 til:Int
 deriving DecidableEq
def Rep.DLease:Rep DLease:=Rep.via (λx=>(x.holder,x.epoch,x.til)) (Rep.pair (Rep.int .i64) (Rep.pair (Rep.int .i64) (Rep.int .i64)))
def DLease.ds(x:DLease):List AD:=[dI x.holder,dI x.epoch,dI x.til]
theorem DLease.enc:Enc Rep.DLease DLease.ds:=Enc.via (f:=λx:DLease=>(x.holder,x.epoch,x.til)) (Enc.pair Enc.int (Enc.pair Enc.int Enc.int))
theorem DLease.encF:au Rep.DLease DLease.ds:=au.via (f:=λx:DLease=>(x.holder,x.epoch,x.til)) (au.pair au.int (au.pair au.int au.int))
structure DState where
 index:Int
 time:Int
 pairs:(List DPair)
 jobs:(List DJob)
 lease:DLease
 deriving DecidableEq
def Rep.DState:Rep DState:=Rep.via (λx=>(x.index,x.time,x.pairs,x.jobs,x.lease)) (Rep.pair (Rep.int .i64) (Rep.pair (Rep.int .i64) (Rep.pair (Rep.sl Rep.DPair) (Rep.pair (Rep.sl Rep.DJob) Rep.DLease))))
def DState.ds(x:DState):List AD:=[dI x.index,dI x.time,.sl (x.pairs.map DPair.ds),.sl (x.jobs.map DJob.ds),dI x.lease.holder,dI x.lease.epoch,dI x.lease.til]
theorem DState.enc:Enc Rep.DState DState.ds:=Enc.via (f:=λx:DState=>(x.index,x.time,x.pairs,x.jobs,x.lease)) (Enc.pair Enc.int (Enc.pair Enc.int (Enc.pair (Enc.sl DPair.enc) (Enc.pair (Enc.sl DJob.enc) DLease.enc))))
theorem DState.encF:au Rep.DState DState.ds:=au.via (f:=λx:DState=>(x.index,x.time,x.pairs,x.jobs,x.lease)) (au.pair au.int (au.pair au.int (au.pair (au.sl DPair.encF) (au.pair (au.sl DJob.encF) DLease.encF))))
def DState.small(n:Nat)(x:DState):Prop:=x.pairs.length<=n/\x.jobs.length<=n
structure DStore where
 disk:DDisk
 state:DState
 num:Int
 last:Int
 busy:Int
 deriving DecidableEq
def Rep.DStore:Rep DStore:=Rep.via (λx=>(x.disk,x.state,x.num,x.last,x.busy)) (Rep.pair Rep.DDisk (Rep.pair Rep.DState (Rep.pair (Rep.int .i64) (Rep.pair (Rep.int .i64) (Rep.int .i64)))))
def DStore.ds(x:DStore):List AD:=[.sl (x.disk.kept.map fW),.sl (x.disk.wait.map DWrite.ds),dI x.state.index,dI x.state.time,.sl (x.state.pairs.map DPair.ds),.sl (x.state.jobs.map DJob.ds),dI x.state.lease.holder,dI x.state.lease.epoch,dI x.state.lease.til,dI x.num,dI x.last,dI x.busy]
theorem DStore.enc:Enc Rep.DStore DStore.ds:=Enc.via (f:=λx:DStore=>(x.disk,x.state,x.num,x.last,x.busy)) (Enc.pair DDisk.enc (Enc.pair DState.enc (Enc.pair Enc.int (Enc.pair Enc.int Enc.int))))
theorem DStore.encF:au Rep.DStore DStore.ds:=au.via (f:=λx:DStore=>(x.disk,x.state,x.num,x.last,x.busy)) (au.pair DDisk.encF (au.pair DState.encF (au.pair au.int (au.pair au.int au.int))))
def DStore.small(n:Nat)(x:DStore):Prop:=DDisk.small n x.disk/\DState.small n x.state
structure DDue where
 id:Int
 due:Int
 deriving DecidableEq
def Rep.DDue:Rep DDue:=Rep.via (λx=>(x.id,x.due)) (Rep.pair (Rep.int .i64) (Rep.int .i64))
def DDue.ds(x:DDue):List AD:=[dI x.id,dI x.due]
theorem DDue.enc:Enc Rep.DDue DDue.ds:=Enc.via (f:=λx:DDue=>(x.id,x.due)) (Enc.pair Enc.int Enc.int)
theorem DDue.encF:au Rep.DDue DDue.ds:=au.via (f:=λx:DDue=>(x.id,x.due)) (au.pair au.int au.int)
structure DJobs where
 index:Int
 time:Int
 holder:Int
 epoch:Int
 til:Int
 opens:(List DDue)
 deriving DecidableEq
def Rep.DJobs:Rep DJobs:=Rep.via (λx=>(x.index,x.time,x.holder,x.epoch,x.til,x.opens)) (Rep.pair (Rep.int .i64) (Rep.pair (Rep.int .i64) (Rep.pair (Rep.int .i64) (Rep.pair (Rep.int .i64) (Rep.pair (Rep.int .i64) (Rep.sl Rep.DDue))))))
def DJobs.ds(x:DJobs):List AD:=[dI x.index,dI x.time,dI x.holder,dI x.epoch,dI x.til,.sl (x.opens.map DDue.ds)]
theorem DJobs.enc:Enc Rep.DJobs DJobs.ds:=Enc.via (f:=λx:DJobs=>(x.index,x.time,x.holder,x.epoch,x.til,x.opens)) (Enc.pair Enc.int (Enc.pair Enc.int (Enc.pair Enc.int (Enc.pair Enc.int (Enc.pair Enc.int (Enc.sl DDue.enc))))))
theorem DJobs.encF:au Rep.DJobs DJobs.ds:=au.via (f:=λx:DJobs=>(x.index,x.time,x.holder,x.epoch,x.til,x.opens)) (au.pair au.int (au.pair au.int (au.pair au.int (au.pair au.int (au.pair au.int (au.sl DDue.encF))))))
def DJobs.small(n:Nat)(x:DJobs):Prop:=x.opens.length<=n
structure DView where
 jobs:DJobs
 deriving DecidableEq
def Rep.DView:Rep DView:=Rep.via (λx=>x.jobs) Rep.DJobs
def DView.ds(x:DView):List AD:=[dI x.jobs.index,dI x.jobs.time,dI x.jobs.holder,dI x.jobs.epoch,dI x.jobs.til,.sl (x.jobs.opens.map DDue.ds)]
theorem DView.enc:Enc Rep.DView DView.ds:=Enc.via (f:=λx:DView=>x.jobs) DJobs.enc
theorem DView.encF:au Rep.DView DView.ds:=au.via (f:=λx:DView=>x.jobs) DJobs.encF
def DView.small(n:Nat)(x:DView):Prop:=DJobs.small n x.jobs
structure DSched where
 id:Int
 seq:Int
 view:DView
 busy:Bool
 op:DOp
 index:Int
 deriving DecidableEq
def Rep.DSched:Rep DSched:=Rep.via (λx=>(x.id,x.seq,x.view,x.busy,x.op,x.index)) (Rep.pair (Rep.int .i64) (Rep.pair (Rep.int .i64) (Rep.pair Rep.DView (Rep.pair Rep.bool (Rep.pair Rep.DOp (Rep.int .i64))))))
def DSched.ds(x:DSched):List AD:=[dI x.id,dI x.seq,dI x.view.jobs.index,dI x.view.jobs.time,dI x.view.jobs.holder,dI x.view.jobs.epoch,dI x.view.jobs.til,.sl (x.view.jobs.opens.map DDue.ds),dB x.busy,dI x.op.kind,dI x.op.a,dI x.op.b,dI x.op.c,dI x.op.d,dI x.index]
theorem DSched.enc:Enc Rep.DSched DSched.ds:=Enc.via (f:=λx:DSched=>(x.id,x.seq,x.view,x.busy,x.op,x.index)) (Enc.pair Enc.int (Enc.pair Enc.int (Enc.pair DView.enc (Enc.pair Enc.bool (Enc.pair DOp.enc Enc.int)))))
theorem DSched.encF:au Rep.DSched DSched.ds:=au.via (f:=λx:DSched=>(x.id,x.seq,x.view,x.busy,x.op,x.index)) (au.pair au.int (au.pair au.int (au.pair DView.encF (au.pair au.bool (au.pair DOp.encF au.int)))))
def DSched.small(n:Nat)(x:DSched):Prop:=DView.small n x.view
theorem DWant.enc:Enc Rep.DWant DWant.ds:=Enc.via (f:=λx:DWant=>(x.kind,x.op,x.key)) (Enc.pair Enc.int (Enc.pair DOp.enc Enc.int))
theorem DWant.encF:au Rep.DWant DWant.ds:=au.via (f:=λx:DWant=>(x.kind,x.op,x.key)) (au.pair au.int (au.pair DOp.encF au.int))
structure DGot where
 seq:Int
 index:Int
 has:Int
 value:Int
 deriving DecidableEq
def Rep.DGot:Rep DGot:=Rep.via (λx=>(x.seq,x.index,x.has,x.value)) (Rep.pair (Rep.int .i64) (Rep.pair (Rep.int .i64) (Rep.pair (Rep.int .i64) (Rep.int .i64))))
def DGot.ds(x:DGot):List AD:=[dI x.seq,dI x.index,dI x.has,dI x.value]
theorem DGot.enc:Enc Rep.DGot DGot.ds:=Enc.via (f:=λx:DGot=>(x.seq,x.index,x.has,x.value)) (Enc.pair Enc.int (Enc.pair Enc.int (Enc.pair Enc.int Enc.int)))
theorem DGot.encF:au Rep.DGot DGot.ds:=au.via (f:=λx:DGot=>(x.seq,x.index,x.has,x.value)) (au.pair au.int (au.pair au.int (au.pair au.int au.int)))
structure DClient where
 id:Int
 todo:(List DWant)
 gots:(List DGot)
 last:Int
 deriving DecidableEq
def Rep.DClient:Rep DClient:=Rep.via (λx=>(x.id,x.todo,x.gots,x.last)) (Rep.pair (Rep.int .i64) (Rep.pair (Rep.sl Rep.DWant) (Rep.pair (Rep.sl Rep.DGot) (Rep.int .i64))))
def DClient.ds(x:DClient):List AD:=[dI x.id,.sl (x.todo.map DWant.ds),.sl (x.gots.map DGot.ds),dI x.last]
theorem DClient.enc:Enc Rep.DClient DClient.ds:=Enc.via (f:=λx:DClient=>(x.id,x.todo,x.gots,x.last)) (Enc.pair Enc.int (Enc.pair (Enc.sl DWant.enc) (Enc.pair (Enc.sl DGot.enc) Enc.int)))
theorem DClient.encF:au Rep.DClient DClient.ds:=au.via (f:=λx:DClient=>(x.id,x.todo,x.gots,x.last)) (au.pair au.int (au.pair (au.sl DWant.encF) (au.pair (au.sl DGot.encF) au.int)))
def DClient.small(n:Nat)(x:DClient):Prop:=x.todo.length<=n/\x.gots.length<=n
def DMsg.ds(x:DMsg):List AD:=[dI x.frm,dI x.to_,.sl (x.row.map eI)]
theorem DMsg.enc:Enc Rep.DMsg DMsg.ds:=Enc.via (f:=λx:DMsg=>(x.frm,x.to_,x.row)) (Enc.pair Enc.int (Enc.pair Enc.int (Enc.sl Enc.int)))
theorem DMsg.encF:au Rep.DMsg DMsg.ds:=au.via (f:=λx:DMsg=>(x.frm,x.to_,x.row)) (au.pair au.int (au.pair au.int (au.sl au.int)))
def DMsg.small(n:Nat)(x:DMsg):Prop:=x.row.length<=n
def DLink.ds(x:DLink):List AD:=[dI x.a,dI x.b]
theorem DLink.enc:Enc Rep.DLink DLink.ds:=Enc.via (f:=λx:DLink=>(x.a,x.b)) (Enc.pair Enc.int Enc.int)
theorem DLink.encF:au Rep.DLink DLink.ds:=au.via (f:=λx:DLink=>(x.a,x.b)) (au.pair au.int au.int)
def DNet.ds(x:DNet):List AD:=[.sl (x.flight.map DMsg.ds),.sl (x.cuts.map DLink.ds)]
theorem DNet.enc:Enc Rep.DNet DNet.ds:=Enc.via (f:=λx:DNet=>(x.flight,x.cuts)) (Enc.pair (Enc.sl DMsg.enc) (Enc.sl DLink.enc))
theorem DNet.encF:au Rep.DNet DNet.ds:=au.via (f:=λx:DNet=>(x.flight,x.cuts)) (au.pair (au.sl DMsg.encF) (au.sl DLink.encF))
def DNet.small(n:Nat)(x:DNet):Prop:=x.flight.length<=n/\(∀y∈x.flight,DMsg.small n y)/\x.cuts.length<=n
structure DWorld where
 log:DLogNode
 store:DStore
 left:DSched
 right:DSched
 ann:DClient
 bob:DClient
 net:DNet
 clocks:(List Int)
 up:(List Bool)
 deriving DecidableEq
def Rep.DWorld:Rep DWorld:=Rep.via (λx=>(x.log,x.store,x.left,x.right,x.ann,x.bob,x.net,x.clocks,x.up)) (Rep.pair Rep.DLogNode (Rep.pair Rep.DStore (Rep.pair Rep.DSched (Rep.pair Rep.DSched (Rep.pair Rep.DClient (Rep.pair Rep.DClient (Rep.pair Rep.DNet (Rep.pair (Rep.sl (Rep.int .i64)) (Rep.sl Rep.bool)))))))))
def DWorld.ds(x:DWorld):List AD:=[.sl (x.log.two.a.kept.map fW),.sl (x.log.two.a.wait.map DWrite.ds),.sl (x.log.two.b.kept.map fW),.sl (x.log.two.b.wait.map DWrite.ds),dI x.log.head.num,dI x.log.head.base,dI x.log.head.time,.sl (x.log.head.seen.map DMark.ds),dI x.log.nxt.num,dI x.log.nxt.base,dI x.log.nxt.time,.sl (x.log.nxt.seen.map DMark.ds),dB x.log.more,dI x.log.book.base,dI x.log.book.time,.sl (x.log.book.entries.map DEntry.ds),.sl (x.log.seen.map DMark.ds),dI x.log.durable,.sl (x.log.owe.map DAck.ds),.sl (x.store.disk.kept.map fW),.sl (x.store.disk.wait.map DWrite.ds),dI x.store.state.index,dI x.store.state.time,.sl (x.store.state.pairs.map DPair.ds),.sl (x.store.state.jobs.map DJob.ds),dI x.store.state.lease.holder,dI x.store.state.lease.epoch,dI x.store.state.lease.til,dI x.store.num,dI x.store.last,dI x.store.busy,dI x.left.id,dI x.left.seq,dI x.left.view.jobs.index,dI x.left.view.jobs.time,dI x.left.view.jobs.holder,dI x.left.view.jobs.epoch,dI x.left.view.jobs.til,.sl (x.left.view.jobs.opens.map DDue.ds),dB x.left.busy,dI x.left.op.kind,dI x.left.op.a,dI x.left.op.b,dI x.left.op.c,dI x.left.op.d,dI x.left.index,dI x.right.id,dI x.right.seq,dI x.right.view.jobs.index,dI x.right.view.jobs.time,dI x.right.view.jobs.holder,dI x.right.view.jobs.epoch,dI x.right.view.jobs.til,.sl (x.right.view.jobs.opens.map DDue.ds),dB x.right.busy,dI x.right.op.kind,dI x.right.op.a,dI x.right.op.b,dI x.right.op.c,dI x.right.op.d,dI x.right.index,dI x.ann.id,.sl (x.ann.todo.map DWant.ds),.sl (x.ann.gots.map DGot.ds),dI x.ann.last,dI x.bob.id,.sl (x.bob.todo.map DWant.ds),.sl (x.bob.gots.map DGot.ds),dI x.bob.last,.sl (x.net.flight.map DMsg.ds),.sl (x.net.cuts.map DLink.ds),.sl (x.clocks.map eI),.sl (x.up.map eB)]
theorem DWorld.enc:Enc Rep.DWorld DWorld.ds:=Enc.via (f:=λx:DWorld=>(x.log,x.store,x.left,x.right,x.ann,x.bob,x.net,x.clocks,x.up)) (Enc.pair DLogNode.enc (Enc.pair DStore.enc (Enc.pair DSched.enc (Enc.pair DSched.enc (Enc.pair DClient.enc (Enc.pair DClient.enc (Enc.pair DNet.enc (Enc.pair (Enc.sl Enc.int) (Enc.sl Enc.bool)))))))))
theorem DWorld.encF:au Rep.DWorld DWorld.ds:=au.via (f:=λx:DWorld=>(x.log,x.store,x.left,x.right,x.ann,x.bob,x.net,x.clocks,x.up)) (au.pair DLogNode.encF (au.pair DStore.encF (au.pair DSched.encF (au.pair DSched.encF (au.pair DClient.encF (au.pair DClient.encF (au.pair DNet.encF (au.pair (au.sl au.int) (au.sl au.bool)))))))))
def DWorld.small(n:Nat)(x:DWorld):Prop:=DLogNode.small n x.log/\DStore.small n x.store/\DSched.small n x.left/\DSched.small n x.right/\DClient.small n x.ann/\DClient.small n x.bob/\DNet.small n x.net/\x.clocks.length<=n/\x.up.length<=n
end Go.Proofs.YtehobfglmeiglaaGreatDoor
namespace Go.Proofs.YtehobfglmeiglaaGreatDoor
open Go.Proofs.Tryz
open Go.ChangeShapes Go.WideShapes Go.RowKit
section
variable {α:Type}
def FE(n:Nat)(ok:Nat->Bool):Bool:=(List.range n).all ok
theorem FF{n k:Nat}{ok:Nat->Bool}(hk:k<n)(h:ok k=false):FE n ok=false:=by
 rw[<-Bool.not_eq_true]
 intro hall
 have:=List.all_eq_true.1 hall k (List.mem_range.2 hk)
 rw[h]at this
 cases this
theorem Eb{n:Nat}{ok:Nat->Bool}(h:∀k,k<n->ok k=true):FE n ok=true:=
 List.all_eq_true.2 λk hk=>h k (List.mem_range.1 hk)
theorem Ea{n:Nat}{ok:Nat->Bool}(h:FE n ok=true){k:Nat}(hk:k<n):ok k=true:=List.all_eq_true.1 h k (List.mem_range.2 hk)
theorem jt{l:List α}{p:α->Bool}{k:Nat}(hk:k<l.length)(h:p l[k]=false):l.all p=false:=by
 rw[<-Bool.not_eq_true]
 intro hall
 have:=List.all_eq_true.1 hall _ (List.getElem_mem hk)
 rw[h]at this
 cases this
theorem xc{l:List α}{p:α->Bool}(h:∀(k:Nat) (hk:k<l.length),p l[k]=true):l.all p=true:=by
 refine List.all_eq_true.2 λx hx=>?_
 obtain⟨k,hk,rfl⟩:=List.getElem_of_mem hx
 exact h k hk
theorem mV{l:List α}{p:α->Bool}(h:l.all p=true){k:Nat}(hk:k<l.length):p l[k]=true:=List.all_eq_true.1 h _ (List.getElem_mem hk)
def gc(Q:α->α->Bool):List α->Bool
 |x::y::r=>Q x y&&gc Q (y::r)
 |_=>true
theorem lN{Q:α->α->Bool}:∀{l:List α},gc Q l=true->∀{k:Nat} (hk:k+1<l.length),Q (l[k]'(by omega)) l[k+1]=true
 |x::y::r,h,k,hk=>by
  simp only[gc,Bool.and_eq_true]at h
  cases k with
  |zero=>exact h.1
  |succ k=>exact lN (l:=y::r) h.2 (k:=k) (by simpa using hk)
 |[],_,k,hk=>by simp at hk
 |[x],_,k,hk=>by simp at hk
theorem ym{Q:α->α->Bool}:∀{l:List α},(∀(k:Nat) (hk:k+1<l.length),Q (l[k]'(by omega)) l[k+1]=true)->gc Q l=true
 |x::y::r,h=>by
  simp only[gc,Bool.and_eq_true]
  refine⟨h 0 Mr,ym (l:=y::r) λk hk=>?_⟩
  have:=h (k+1) (by simpa using hk)
  simpa using this
 |[],_=>rfl
 |[x],_=>rfl
theorem FD{Q:α->α->Bool}{l:List α}{k:Nat}(hk:k+1<l.length)(h:Q (l[k]'(by omega)) l[k+1]=false):gc Q l=false:=by
 rw[<-Bool.not_eq_true]
 intro hall
 rw[lN hall hk]at h
 cases h
def bW(R:α->α->Bool):List α->Bool
 |[]=>true
 |x::r=>r.all (λy=> !R x y)&&bW R r
theorem oX{R:α->α->Bool}:∀{l:List α},bW R l=true->∀{j k:Nat} (hj:j<k) (hk:k<l.length),R (l[j]'(by omega)) l[k]=false
 |x::r,h,j,k,hj,hk=>by
  simp only[bW,Bool.and_eq_true]at h
  match j,k,hj with
  |0,k+1,_=>
   have:=mV h.1 (k:=k) (by simpa using hk)
   simpa using this
  |j+1,k+1,hj=>exact oX (l:=r) h.2 (j:=j) (k:=k) Mo (by simpa using hk)
 |[],_,j,k,_,hk=>by simp at hk
theorem ju{R:α->α->Bool}:∀{l:List α},(∀(j k:Nat) (hj:j<k) (hk:k<l.length),R (l[j]'(by omega)) l[k]=false)->bW R l=true
 |[],_=>rfl
 |x::r,h=>by
  simp only[bW,Bool.and_eq_true]
  refine⟨xc λk hk=>?_,ju λj k hj hk=>?_⟩
  ·have:=h 0 (k+1) Mo (by simpa using hk)
   simpa using this
  ·have:=h (j+1) (k+1) Mo (by simpa using hk)
   simpa using this
theorem lO{R:α->α->Bool}{l:List α}{j k:Nat}(hj:j<k)(hk:k<l.length)(h:R (l[j]'(by omega)) l[k]=true):bW R l=false:=by
 rw[<-Bool.not_eq_true]
 intro hall
 rw[oX hall hj hk]at h
 cases h
end
def tOk(t:Int):Bool:=ai t 0 1000000
def dT(l:List Int):Bool:=decide (l.length<=48)&&l.all λx=>ai x 0 1000000000
def dK(n:Nat)(x:DWrite):Bool:=ai x.at_ 0 ((n:Int)-1)&&dT x.row
def eT(d:DDisk):Bool:=decide (1<=d.kept.length)&&decide (d.kept.length<=40)&&decide (d.wait.length<=60)&&d.kept.all dT&&d.wait.all (dK d.kept.length)
def ry(t:DTwo):Bool:=eT t.a&&eT t.b&&decide (t.a.kept.length=t.b.kept.length)
def dr(a b:Int):Bool:=ai a 0 5&&ai b 0 5&&a !=b
def jc(m:DMsg):Bool:=dr m.frm m.to_&&decide (0<m.row.length)&&dT m.row
def fS(x y:DLink):Bool:=decide (x.a<y.a)||(x.a==y.a&&decide (x.b<y.b))
def cg(x:DLink):Bool:=dr x.a x.b&&decide (x.a<=x.b)
def g8(n:DNet):Bool:=decide (n.flight.length<=60)&&decide (n.cuts.length<=15)&&n.flight.all jc&&n.cuts.all cg&&gc fS n.cuts
def cH(l:List Int):Bool:=decide (l.length=6)&&l.all tOk
def g9(x y:DEntry):Bool:=y.index==x.index+1&&decide (x.time<=y.time)
def ch(l:List DEntry):Bool:=decide (l.length<=2000)&&l.all bu&&gc g9 l
def bd(b:DBook):Bool:=ai b.base 0 2000&&tOk b.time&& !(b.base==0&&b.time !=0)&&decide (b.entries.length<=20)&&ch b.entries&&(match b.entries with|[]=>true|e::_=>e.index==b.base+1&&decide (b.time<=e.time))
def bP(m:DMark):Bool:=ai m.client 2 5&&ai m.seq 1 2000&&ai m.index 1 2000
def ej(x y:DMark):Bool:=decide (x.client<y.client)
def j3(x y:DMark):Bool:=x.index==y.index
def aW(s:List DMark):Bool:=s.all bP&&gc ej s&&bW j3 s
def cj(s:List DMark)(c:Int):DMark:=(s.find? λm=>m.client==c).getD ⟨0,0,0⟩
def aN:List DMark->Int:=List.foldl (λx m=>if m.index>x then m.index else x) 0
def gC(s:List DMark)(e:DEntry):Bool:=decide ((cj s e.client).seq<e.seq)
def DEntry.mark(e:DEntry):DMark:=⟨e.client,e.seq,e.index⟩
def putMark(s:List DMark)(m:DMark):List DMark:=s.filter (λx=>decide (x.client<m.client))++m::s.filter (λx=>decide (m.client<x.client))
def bS(s:List DMark)(e:DEntry):Option (List DMark):=if bu e&&gC s e&&decide (aN s<e.index)then some (putMark s e.mark)else none
def bg:List DMark->List DEntry->Option (List DMark)
 |s,[]=>some s
 |s,e::r=>match bS s e with
  |some s'=>bg s' r
  |none=>none
def aK(s:List DMark)(l:List DEntry):List DMark×Bool:=
 if !aW s then([],false)else if 2000<l.length then(s,false)else match bg s l with|some o=>(o,true)|none=>(s,false)
def dg(h:DHead):Bool:=ai h.base 0 2000&&ai h.num 0 h.base&&tOk h.time&&(decide (0<h.base)||h.time==0)&&aW h.seen&&aN h.seen==h.base
def oz(t:DTwo):Bool:=ry t&&decide (t.a.kept.length=22)
def bO(b:DBook):Int:=b.base+b.entries.length
def kv:DHead:=⟨0,0,0,[]⟩
def bb(e:DEntry):DAck:=if bu e then⟨e.client,e.seq,e.index,e.seq⟩else⟨0,0,0,0⟩
def cY(b:DBook)(d:Int):List DEntry:=b.entries.filter λe=>decide (d+1<=e.index)
def iP(b:DBook)(i:Int):List DEntry:=b.entries.take (i-b.base).toNat
def fT(n:DLogNode):DHead:=⟨n.head.num+1,n.nxt.base,(n.book.entries.getD (n.nxt.base-n.book.base-1).toNat ⟨0,0,0,0,⟨0,0,0,0,0⟩⟩).time,(aK n.head.seen (iP n.book n.nxt.base)).1⟩
def fF(n:DLogNode):Bool:=if n.more then ai n.nxt.base (n.head.base+1) n.durable&&n.nxt==fT n else n.nxt==kv
def gG(n:DLogNode):Bool:=oz n.two&&dg n.head&&bd n.book&&n.book.base==n.head.base&&n.book.time==n.head.time&&aK n.head.seen n.book.entries==(n.seen,true)&&ai n.durable n.book.base (bO n.book)&&n.owe==(cY n.book n.durable).map bb&&fF n
def jZ(n:DLogNode):Bool:=ry n.two&&n==⟨n.two,kv,kv,false,⟨0,0,[]⟩,[],0,[]⟩
def cA(p:DPair):Bool:=ai p.key 0 9&&ai p.value 0 999
def e9(x y:DPair):Bool:=decide (x.key<y.key)
def bG(l:List DPair):Bool:=l.all cA&&gc e9 l
def g5(j:DJob):Bool:=ai j.id 1 20&&tOk j.due&&ai j.key 0 9&&ai j.value 0 999&&ai j.fired 0 2000
def nW(x y:DJob):Bool:=decide (x.id<y.id)
def gD(x y:DJob):Bool:=y.fired !=0&&x.fired==y.fired
def bo(l:List DJob):Bool:=decide (l.length<=8)&&l.all g5&&gc nW l&&bW gD l
def dm(x:Int):Bool:=x==2||x==3
def gi(l:DLease):Bool:=l==⟨0,0,0⟩||(dm l.holder&&ai l.epoch 1 1000&&ai l.til 1 1001000)
def bH(s:DState):Bool:=ai s.index 0 2000&&tOk s.time&&bG s.pairs&&bo s.jobs&&gi s.lease&&s.jobs.all λj=>decide (j.fired<=s.index)
def ns(d:DDisk):Bool:=eT d&&decide (d.kept.length=8)
def dH(s:DStore):Bool:=ns s.disk&&bH s.state&&ai s.num 0 1000000000&&ai s.last 0 s.state.index&&((s.num==0)==(s.last==0))&&(s.busy==0||(decide (s.num<1000000000)&&decide (s.last<s.busy)&&decide (s.busy<=s.state.index)))
def gM:DState:=⟨0,0,[],[],⟨0,0,0⟩⟩
def eM(s:DStore):Bool:=eT s.disk&&s==⟨s.disk,gM,0,0,0⟩
def eW(d:DDue):Bool:=ai d.id 1 20&&tOk d.due
def iO(x y:DDue):Bool:=decide (x.due<y.due)||(x.due==y.due&&decide (x.id<y.id))
def mg(x y:DDue):Bool:=x.id==y.id
def g6(j:DJobs):Bool:=ai j.index 0 2000&&tOk j.time&&(j.holder==0||dm j.holder)&&ai j.epoch 0 1000&&ai j.til 0 1001000&&decide (j.opens.length<=8)&&j.opens.all eW&&gc iO j.opens&&bW mg j.opens
def op0:DOp:=⟨0,0,0,0,0⟩
def ct(s:DSched):Bool:=dm s.id&&ai s.seq 0 2000&&g6 s.view.jobs&&ai s.index 0 2000&&(if s.busy then s.seq !=0&&Bo s.op&&(s.op.kind==4||s.op.kind==5)else s.op==op0)
def oI(id:Int):DSched:=⟨id,0,⟨⟨0,0,0,0,0,[]⟩⟩,false,op0,0⟩
def bQ(s:DSched)(id:Int)(up:Bool):Bool:=ct s&&s.id==id&&(up||s==oI id)
def nR(w:DWant)(g:DGot)(seq last:Int):Bool:=g.seq==seq&&ai g.index last 2000&&(if w.kind==4 then(g.has==0&&g.value==0)||(g.has==1&&ai g.value 0 999)else decide (last<g.index)&&g.has==0&&g.value==0)
def fy(gs:List DGot)(k:Nat):Int:=match k with|0=>0|j+1=>(gs.getD j ⟨0,0,0,0⟩).index
def bn(c:DClient):Bool:=(c.id==4||c.id==5)&&c.todo.all dy&&decide (c.todo.length<=12)&&decide (c.gots.length<=c.todo.length)&&FE c.gots.length (λk=>nR (c.todo.getD k ⟨0,op0,0⟩) (c.gots.getD k ⟨0,0,0,0⟩) ((k:Int)+1) (fy c.gots k))&&c.last==fy c.gots c.gots.length
def br(w:DWorld)(k:Nat):Bool:=w.up.getD k false
def ay(w:DWorld):Bool:=cH w.clocks&&decide (w.up.length=6)&&g8 w.net&&br w 4&&br w 5&&bn w.ann&&w.ann.id==4&&bn w.bob&&w.bob.id==5&&bQ w.left 2 (br w 2)&&bQ w.right 3 (br w 3)&&(if br w 0 then gG w.log else jZ w.log)&&(if br w 1 then dH w.store else eM w.store)
end Go.Proofs.YtehobfglmeiglaaGreatDoor
